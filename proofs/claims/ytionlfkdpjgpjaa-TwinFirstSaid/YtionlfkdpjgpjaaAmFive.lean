/- The abstract machine, part five: ranges over functions, deferred calls that recover, code and calls: sound. Conditions: none. -/
import Derived.Test.YtionlfkdpjgpjaaAmFour
import Derived.RangeFuncNested
import Derived.RecoverIn
import Derived.RowKit3
import Derived.Maps.RangeWalk
import Derived.Maps.Ext
import Derived.Laws.IdiomRangeMap
import Derived.Deep.LoopGhost
import Derived.WalkKit
set_option linter.unusedVariables false
set_option linter.unusedSectionVars false
set_option linter.unusedSimpArgs false
/-
 The abstract machine: what a body yields; frames that are entered; blocks that are laid and held; what is so behind code.
-/
namespace Go.AM
section
variable {P:Program} {E:Env} {W:World} {cx:Cx} {h:Heap}
theorem dP (hE:EnvOk E P) (hs:Sat E W cx h) {t:Nat} {ti:TI} (ht:E.ti t=some ti) {x:Value} {a r:AV} (hx:Rep W cx x a) (hl:y6 ti a h=some r) :
 ∃ v p,x=.pointer (some p)∧(loadVar t p).run P W=.ok v W∧Rep W cx v r:=by
 obtain ⟨v,h1,h2⟩:=Mh (P:=P) hE hs ht hx hl
 have:∃ p,x=.pointer (some p):=by
  cases a with
  | fptr v off=>obtain ⟨b,o,e,_⟩:=hx.fptr_inv; exact ⟨_,e⟩
  | ptr id i off=>obtain ⟨_,e⟩:=hx.ptr_inv; exact ⟨_,e⟩
  | _=>cases hl
 obtain ⟨p,rfl⟩:=this
 exact ⟨v,p,rfl,by simpa [Instr.loadAt,Instr.sureAddr] using h1,h2⟩
def resVar (tmps:Array Value):ResultVar->Sem Value
 | .tmp t=>pure (tmps.getD t undef)
 | .cell a t=>do loadVar t (← asAddr (tmps.getD a undef))
theorem u3 (hE:EnvOk E P) (hs:Sat E W cx h) {tmps:Array Value} {fr:Tr}:∀ (l:List ResultVar) (vs:List AV),(∀ x∈l,Rep W cx (tmps.getD (Ap x) undef) (fr.get (Ap x)))->F7 E l fr h=some vs->∃ us,(l.mapM (resVar tmps)).run P W=.ok us W∧RepL W cx us vs
 | [],vs,hf,hr=>by
  cases hr
  exact ⟨[],rfl,.nil⟩
 | x :: l,vs,hf,hr=>by
  have hf':=fun y hy=>hf y (List.mem_cons_of_mem _ hy)
  have hx:=hf x (List.mem_cons_self ..)
  cases x with
  | tmp t =>
   have hr:A4 (F7 E l fr h) (fun vs=>some (fr.get t :: vs))=some vs:=hr
   obtain ⟨ws,h1,h2⟩:=A1 hr
   cases h2
   obtain ⟨us,h3,h4⟩:=u3 hE hs l ws hf' h1
   exact ⟨tmps.getD t undef :: us,by rw [List.mapM_cons]; simp [resVar,h3],.cons hx h4⟩
  | cell a t =>
   have hr:onTI E t none (fun ti=>A4 (y6 ti (fr.get a) h) fun v=>A4 (F7 E l fr h) fun vs=>some (v :: vs))=some vs:=hr
   obtain ⟨ti,ht,hr⟩:=E1 hr
   obtain ⟨v,hv,hr⟩:=A1 hr
   obtain ⟨ws,h1,h2⟩:=A1 hr
   cases h2
   obtain ⟨us,h3,h4⟩:=u3 hE hs l ws hf' h1
   have hx:Rep W cx (tmps.getD a undef) (fr.get a):=hx
   obtain ⟨u,p,e,h5,h6⟩:=dP (P:=P) hE hs ht hx hv
   exact ⟨u :: us,by rw [List.mapM_cons]; simp [resVar,e,asAddr,h5,h3],.cons h6 h4⟩
theorem Pg (hE:EnvOk E P) (hs:Sat E W cx h) {tmps:Array Value} {fr:Tr} {fn:Func} (hf:∀ x∈fn.results.toList,Rep W cx (tmps.getD (Ap x) undef) (fr.get (Ap x))) {vs:List AV} (hr:F7 E fn.results.toList fr h=some vs) :
 ∃ v,(results fn tmps).run P W=.ok v W∧Rep W cx v (oneOrTup vs):=by
 obtain ⟨us,h1,h2⟩:=u3 (P:=P) hE hs fn.results.toList vs hf hr
 have e1:(fn.results.mapM (resVar tmps)).run P W=.ok us.toArray W:=by
  rw [← Array.toArray_toList (xs:=fn.results),List.mapM_toArray]
  simp [h1]
 have e2:results fn tmps=(do
  let vs ← fn.results.mapM (resVar tmps)
  pure (if h:vs.size=1 then vs[0] else .tuple vs)):=by
  unfold results
  congr 1
 refine ⟨if h:us.toArray.size=1 then us.toArray[0] else .tuple us.toArray,by rw [e2]; simp only [Sem.run_bind,e1,Result.andThen_ok]; rfl,?_⟩
 cases us with
 | nil =>
  cases vs with
  | nil=>exact .tup #[] [] rfl (by simp)
  | cons _ _=>have:=h2.1; simp at this
 | cons u us =>
  cases vs with
  | nil=>have:=h2.1; simp at this
  | cons v vs =>
   cases us with
   | nil =>
    cases vs with
    | nil=>exact h2.2 0 _ _ rfl rfl
    | cons _ _=>have:=h2.1; simp at this
   | cons u2 us =>
    cases vs with
    | nil=>have:=h2.1; simp at this
    | cons v2 vs=>simp only [List.size_toArray,List.length_cons]; rw [dif_neg (by omega)]; exact Rep.tup_mk h2
theorem FrRep.set {tmps:Array Value} {fr:Tr} (hf:FrRep W cx tmps fr) {i:Nat} {x:AV} (hx:Rep W cx (tmps.getD i undef) x):FrRep W cx tmps (fr.set i x) where
 rep j:=by
  by_cases e:i=j
  . subst e
    rw [Tr.get_set_eq]
    split
    . exact hx
    . exact .und _
  . rw [Tr.get_set_ne _ _ _ _ e]; exact hf.rep j
 has j hj:=by rw [Tr.has_set] at hj; exact hf.has j hj
theorem FrRep.setAll {tmps:Array Value}:∀ (l:List AV) (i:Nat) (fr:Tr),FrRep W cx tmps fr->(∀ (j:Nat) x,l[j]?=some x->Rep W cx (tmps.getD (i + j) undef) x)->FrRep W cx tmps (Tr.setAll l i fr)
 | [],_,_,hf,_=>hf
 | v :: l,i,fr,hf,hx=>by
  show FrRep W cx tmps (Tr.setAll l (i + 1) (fr.set i v))
  exact FrRep.setAll l (i + 1) _ (hf.set (hx 0 v rfl)) fun j x hj=>by
   have:=hx (j + 1) x (by simpa using hj)
   rw [show i + 1 + j=i + (j + 1) by omega]; exact this
theorem Qh {args:Array Value} {l:List AV} (hl:RepL W cx args.toList l) {n:Nat} (hn:l.length≤n):FrRep W cx (args ++ Array.replicate (n - args.size) undef) (Tr.enter n l):=by
 have hsz:args.size=l.length:=by have:=hl.1; simpa using this
 refine FrRep.setAll l 0 _ ⟨fun i=>by rw [Tr.get_mk]; exact .und _,fun i hi=>?_⟩ fun j x hj=>?_
 . have:=Tr.has_mk _ _ _ hi
   simp; omega
 . obtain ⟨v,h1,h2⟩:=hl.get hj
   have hlt:j < args.size:=by rw [hsz]; exact E8 hj
   have:(args ++ Array.replicate (n - args.size) undef).getD (0 + j) undef=v:=by
    rw [Nat.zero_add,Array.getD_eq_getD_getElem?,Array.getElem?_append_left hlt]
    have:args[j]?=some v:=by simpa using h1
    rw [this]; rfl
   rw [this]; exact h2
def Kd (o:Obj):Prop:=∀ c t f,o ≠ .cells c t f
theorem Uy {W:World} {b:Nat} (h:∀ o,W.heap[b]?=some o->Kd o):c7 W b=0:=by
 unfold c7
 cases hb:W.heap[b]? with
 | none=>rfl
 | some o =>
  cases o with
  | cells c t f=>exact absurd rfl (h _ hb c t f)
  | _=>rfl
theorem Ext0.putHeld (hs:Sat E W cx h) {l:Nat} {o₀ o:Obj} (hl:cx.held l) (h0:W.heap[l]?=some o₀) (hn:Kd o₀) (ho:Kd o):Ext0 W cx (W.putObj l o) cx where
 nx:=Nat.le_refl _
 mu _ _:=rfl
 sz:=by simp
 keep b _ hb:=World.putObj_heap_other fun e=>hb (e ▸ (hs.held l hl).2)
 shape b hb:=by
  by_cases e:b=l
  . subst e
    rw [Uy (W:=W) (fun o' h'=>by rw [h0] at h'; cases h'; exact hn),Uy (fun o' h'=>by rw [World.putObj_heap_same hb] at h'; cases h'; exact ho)]
  . unfold c7; rw [World.putObj_heap_other e]
 own _ _ h:=h
theorem Sat.putHeld (hs:Sat E W cx h) {l:Nat} {o:Obj} (hl:cx.held l) (he:Ext0 W cx (W.putObj l o) cx):Sat E (W.putObj l o) cx h where
 nx:=hs.nx
 objs id y hy:=by
  obtain ⟨h1,h2,h3,h4⟩:=hs.objs id y hy
  exact ⟨h1,h2,by simpa using h3,h4.mono0 he (World.putObj_heap_other fun e=>hs.free id y hy (e ▸ hl))⟩
 inj:=hs.inj
 gl:=hs.gl.mono0 he
 held b hb:=⟨by simpa using (hs.held b hb).1,(hs.held b hb).2⟩
 free:=hs.free
theorem Ext.putHi {W W':World} {cx cx':Cx} {l:Nat} {o:Obj} (he:Ext W cx W' cx') (hl:W.heap.size≤l) (h0:Ext0 W' cx' (W'.putObj l o) cx'):Ext W cx (W'.putObj l o) cx' where
 toExt0:=he.toExt0.trans h0
 hold b hb hh:=⟨(he.hold b hb hh).1,(World.putObj_heap_other (by omega)).trans (he.hold b hb hh).2⟩
 out:=he.out
abbrev DP:=World->Cx->Act->Prop
def CRes.End (E:Env) (r:CRes) (x:Exit) (a:Act) (w:World) (cx':Cx):Prop :=
 match r with
 | .ok e fr h=>x=hU e∧Sat E w cx' h∧FrRep w cx' a.tmps fr
 | .pan v h=>∃ vv,x=.panic [{ v:=vv,recovered:=false }]∧Sat E w cx' h∧Rep w cx' vv v
 | .bad=>False
def R9 (E:Env) (W:World) (cx:Cx) (D:DP) (r:CRes) (x:Exit) (a:Act) (w:World):Prop:=∃ cx',Ext W cx w cx'∧D w cx' a∧r.End E x a w cx'
theorem R9.trans {W W₁:World} {cx cx₁:Cx} {D:DP} (he:Ext W cx W₁ cx₁) {r:CRes} {x:Exit} {a:Act} {w:World} (h:R9 E W₁ cx₁ D r x a w):R9 E W cx D r x a w:=by
 obtain ⟨cx',he',h⟩:=h
 exact ⟨cx',he.trans he',h⟩
def Kz (D:DP):Prop:=∀ W cx a W' cx',Ext W cx W' cx'->D W cx a->D W' cx' a
def gC (D:DP) (d:Option Tmp):Prop:=∀ W cx,eI (D W cx) d
theorem R9.of_post {D:DP} (hD:Kz D) {r:CRes} {x:Exit} {a:Act} {w:World} (h:r.Post E W cx (fun a=>D W cx a) x a w):R9 E W cx D r x a w:=by
 obtain ⟨hd,cx',he,h⟩:=h
 exact ⟨cx',he,hD _ _ _ _ _ he hd,h⟩
def Uz (r:Nat):Deferred:={ target:=.collected r,args:=#[] }
def lN (ro:Option Nat) (D:DP):Prop :=
 match ro with
 | none=>∀ W cx a W' cx' r,D W cx a->Ext W cx W' cx'->W.heap.size≤r->r < W'.heap.size->cx'.held r->W'.heap[r]?=some (.deferred (some []))->D W' cx' { a with defers:=Uz r :: a.defers }
 | some l=>∀ W cx a,D W cx a->∃ rc,W.heap[l]?=some (.loop rc)
def gA (ro:Option Nat) (D:DP):Code->Prop
 | .region _ ops _=>∀ (i:Nat) (o:Oper),ops[i]?=some o->gC D o.dst
 | .seq a b=>gA ro D a∧gA ro D b
 | .cond _ a b=>gA ro D a∧gA ro D b
 | .block _ a=>gA ro D a
 | .loop a=>gA ro D a
 | .scope a=>gA ro D a
 | .rangeFunc ..=>lN ro D
 | _=>True
theorem c9 {ro:Option Nat} {D:DP} (h:∀ d,gC D d) (hr:lN ro D):∀ c,gA ro D c
 | .region _ ops _=>fun _ _ _=>h _
 | .seq a b=>⟨c9 h hr a,c9 h hr b⟩
 | .cond _ a b=>⟨c9 h hr a,c9 h hr b⟩
 | .block _ a=>c9 h hr a
 | .loop a=>c9 h hr a
 | .scope a=>c9 h hr a
 | .rangeFunc ..=>hr
 | .skip | .exit _ | .label _ | .goto _ | .ret | .refuse _=>trivial
def D0 (n0:Nat):DP:=fun W cx a=>n0≤W.heap.size∧∃ rs:List Nat,a.defers=rs.map Uz∧rs.Nodup∧∀ r∈rs,n0≤r∧r < W.heap.size∧cx.held r∧W.heap[r]?=some (.deferred (some []))
theorem D0.mono (n0:Nat):Kz (D0 n0):=fun W cx a W' cx' he h=>by
 obtain ⟨h0,rs,h1,h2,h3⟩:=h
 refine ⟨Nat.le_trans h0 he.sz,rs,h1,h2,fun r hr=>?_⟩
 obtain ⟨h4,h5,h6,h7⟩:=h3 r hr
 obtain ⟨h8,h9⟩:=he.hold r h5 h6
 exact ⟨h4,Nat.lt_of_lt_of_le h5 he.sz,h8,h9.trans h7⟩
theorem D0.stab (n0:Nat) (d:Option Tmp):gC (D0 n0) d:=fun W cx a v h=>by
 obtain ⟨h0,rs,h1,h2⟩:=h
 exact ⟨h0,rs,by rw [Yy]; exact h1,h2⟩
theorem D0.push (n0:Nat):lN none (D0 n0):=fun W cx a W' cx' r hd he hr hlt hh hb=>by
 obtain ⟨h0,rs,h1,h2,h3⟩:=D0.mono n0 _ _ _ _ _ he hd
 obtain ⟨h0',rs',h1',_,h3'⟩:=hd
 have:∀ r'∈rs,r' < W.heap.size:=fun r' hr'=>by
  have e:rs=rs':=by
   have inj:∀ (l l':List Nat),l.map Uz=l'.map Uz->l=l':=by
    intro l
    induction l with
    | nil=>intro l' e; cases l' <;> simp at e; rfl
    | cons x l ih=>intro l' e; cases l' with
     | nil=>simp at e
     | cons y l'=>simp [Uz] at e; rw [e.1,ih l' (by simpa [Uz] using e.2)]
   exact inj _ _ (h1.symm.trans h1')
  exact (h3' r' (e ▸ hr')).2.1
 refine ⟨h0,r :: rs,by show Uz r :: a.defers=_; rw [h1]; rfl,List.nodup_cons.2 ⟨fun hm=>by have:=this r hm; omega,h2⟩,fun r' hr'=>?_⟩
 rcases List.mem_cons.1 hr' with rfl | hr'
 . exact ⟨by omega,hlt,hh,hb⟩
 . exact h3 r' hr'
theorem Ha (l:List Oper) (hn:Cv l=true):∀ o∈l,Ld o:=fun o ho c e=>by
 have:=List.all_eq_true.1 hn o ho
 rw [e] at this
 cases this
end
end Go.AM
/-
 The abstract machine: pieces of regions; an iterator that hands elements on,walked.
-/
namespace Go.AM
def La (E:Env) (P:Program) (ih:H8):Prop :=
 ∀ (S:Act->Prop) (ops:Array Oper) (l:List Oper) (Q:Exit->Act->World->Prop) (W:World) (cx:Cx) (a:Act) (fr:Tr) (h:Heap),
   (∀ o∈l,eI S o.dst)->FrRep W cx a.tmps fr->S a->Sat E W cx h->ih (y7 ops.toList l) fr h ≠ .bad ->
     (∀ o∈l,Ld o)∧((∀ x a' w',(ih (y7 ops.toList l) fr h).Post E W cx S x a' w'->Q x a' w')->wpList P ops Q l a W)
def Ae (E:Env) (P:Program) (ih:H8):Prop :=
 ∀ (ro:Option Nat) (D:DP) (c:Code) (W:World) (cx:Cx) (a:Act) (fr:Tr) (h:Heap),Kz D->gA ro D c->FrRep W cx a.tmps fr->D W cx a->Sat E W cx h->ih (xc c) fr h ≠ .bad ->
   c.wpIn (WF ro) 0 P (R9 E W cx D (ih (xc c) fr h)) a W
section
variable {P:Program} {E:Env} {ih:H8}
theorem isNone_none {α:Type} {o:Option α} (h:isNone o=true):o=none:=by cases o; rfl; cases h
section
variable {W0 W W':World} {cx0 cx cx':Cx} {ro:Option Nat} {l:Nat} {st st':Loop} {h:Heap}
end
section
variable {W0:World} {cx0:Cx} {ro:Option Nat} {l nt:Nat} {mk:LoopState->Option Code->Loop} {Y:List AV->Heap->CRes}
end
end
end Go.AM
/-
 The abstract machine: a range over a function,walked.
-/
namespace Go.AM
section
variable {P:Program} {E:Env} {ih:H8}
theorem orM_itf {x:Option FM} {y:FM} {m:FM} (h:CN x y=m):x=some m∨(x=none∧y=m):=by
 cases x with
 | none=>exact .inr ⟨rfl,h⟩
 | some z=>cases h; exact .inl rfl
theorem Va {c:Code} {m:FM} (h:Hi c=some m):∃ id o o' rest d d2 ops,c=.seq (.region id ops false) rest∧ops.toList=[o,o']∧isRc o=some d∧isAs d o'=some d2∧S1 [] rest=true∧m=.rcv d d2 (xc rest):=by
 unfold Hi at h
 split at h
 . rename_i id ops rest
   split at h
   . rename_i o o' ho
     cases h1:isRc o with
     | none=>rw [h1] at h; cases h
     | some d =>
      rw [h1] at h
      dsimp only at h
      cases h2:isAs d o' with
      | none=>rw [h2] at h; cases h
      | some d2 =>
       rw [h2] at h
       dsimp only at h
       cases h3:S1 [] rest with
       | false=>rw [h3] at h; cases h
       | true=>rw [h3] at h; cases h; exact ⟨id,o,o',rest,d,d2,ops,rfl,ho,h1,h2,h3,rfl⟩
   . cases h
 . cases h
theorem Vb {rs:List ResultVar} {x:DfC} {m:FM} (h:Dn rs x=some m):∃ o r g,x.ops.toList.reverse=o :: r∧isDf o=some g∧bM [] r.reverse=true∧x.pre.all (S1 [])=true∧S1 (rs.map Ap) x.rest=true∧m=.dfr (x.pre.map xc ++ [y7 x.ops.toList r.reverse]) g (xc x.rest):=by
 unfold Dn at h
 split at h
 . cases h
 . rename_i o r ho
   cases h1:isDf o with
   | none=>rw [h1] at h; cases h
   | some g =>
    rw [h1] at h
    dsimp only at h
    cases h2:(bM [] r.reverse && x.pre.all (S1 []) && S1 (rs.map Ap) x.rest) with
    | false=>rw [h2] at h; cases h
    | true =>
     rw [h2] at h; cases h
     simp only [Bool.and_eq_true] at h2
     exact ⟨o,r,g,ho,h1,h2.1.1,h2.1.2,h2.2,rfl⟩
theorem uO {rs:List ResultVar} {c:Code} {m:FM} (h:(bif Cu rs then Hi c else none)=some m):Cu rs=true∧Hi c=some m:=by
 cases hn:Cu rs with
 | false=>rw [hn] at h; cases h
 | true=>rw [hn] at h; exact ⟨rfl,h⟩
theorem uP {rs:List ResultVar} {c:Code} {m:FM} (h:(match parseI c with | some x=>bif Cu rs && handsI x then some (.itf x) else none | none=>none)=some m):∃ x,parseI c=some x∧Cu rs=true∧m=.itf x:=by
 cases hp:parseI c with
 | none=>rw [hp] at h; cases h
 | some x =>
  rw [hp] at h
  dsimp only at h
  cases hn:(Cu rs && handsI x) with
  | false=>rw [hn] at h; cases h
  | true =>
   rw [hn] at h
   cases h
   rw [Bool.and_eq_true] at hn
   exact ⟨x,rfl,hn.1,rfl⟩
theorem uQ {rs:List ResultVar} {c:Code} {m:FM} (h:(match parseD c with | some x=>Dn rs x | none=>none)=some m):∃ x,parseD c=some x∧Dn rs x=some m:=by
 cases hp:parseD c with
 | none=>rw [hp] at h; cases h
 | some x=>rw [hp] at h; exact ⟨x,rfl,h⟩
theorem fmOf_cases {rs:List ResultVar} {c:Code} {m:FM} (h:fmOf rs c=m) :
 (Cu rs=true∧Hi c=some m)∨(∃ x,parseD c=some x∧Dn rs x=some m)∨(∃ x,parseI c=some x∧Cu rs=true∧m=.itf x)∨m=.plain:=by
 unfold fmOf at h
 rcases orM_itf h with h | ⟨_,h⟩
 . exact .inl (uO h)
 . rcases orM_itf h with h | ⟨_,h⟩
   . exact .inr (.inl (uQ h))
   . rcases orM_itf h with h | ⟨_,h⟩
     . exact .inr (.inr (.inl (uP h)))
     . exact .inr (.inr (.inr h.symm))
theorem gD {l:List AV} (h:bJ l=true):l=[]:=by cases l; rfl; cases h
theorem dQ (hE:EnvOk E P) (hc:Ae E P ih) (hl:La E P ih) {ro:Option Nat} {D:DP} {g:Operand} {ps:Array Tmp} {ca cb:Code} {W:World} {cx:Cx} {a:Act} {fr:Tr} {h:Heap} (hD:Kz D) (hst:lN ro D) (hf:FrRep W cx a.tmps fr) (hd:D W cx a) (hs:Sat E W cx h)
 (hb:sD E ih ps.toList (xc ca) (xc cb) fr h (opv E g fr) ≠ .bad):(Code.rangeFunc g ps ca cb).wpIn (WF ro) 0 P (R9 E W cx D (sD E ih ps.toList (xc ca) (xc cb) fr h (opv E g fr))) a W:=absurd rfl hb
end
end Go.AM
/-
 The abstract machine: functions that defer a call which recovers; calls; code.
-/
namespace Go.AM
section
variable {P:Program} {E:Env}
theorem dR {E:Env} {rs:List ResultVar} {fr:Tr} {h:Heap} (hb:It (F7 E rs fr h) h ≠ .bad):∃ vs,F7 E rs fr h=some vs∧It (F7 E rs fr h) h=.ok (oneOrTup vs) h:=by
 cases hr:F7 E rs fr h with
 | none=>rw [hr] at hb; exact absurd rfl hb
 | some vs=>exact ⟨vs,rfl,rfl⟩
theorem Af {cx:Cx} {fn:Func} {tmps:Array Value} {R:Ending->World->Prop} {J:World->Prop} {n0:Nat} {u:FrameMode} (hu:u ≠ .run)
 (hJ:∀ W r,J W->n0≤r->cx.held r->W.heap[r]?=some (.deferred (some []))->J (W.putObj r (.deferred none)))
 (hend:∀ W,J W->LeavesInM (WF none) 0 P fn tmps R [] u W):∀ (rs:List Nat) (W:World),rs.Nodup->(∀ r∈rs,n0≤r∧cx.held r∧W.heap[r]?=some (.deferred (some [])))->J W->LeavesInM (WF none) 0 P fn tmps R (rs.map Uz) u W
 | [],W,_,_,hj=>hend W hj
 | r :: rs,W,hn,hr,hj=>by
  obtain ⟨h1,h2,h3⟩:=hr r (List.mem_cons_self ..)
  obtain ⟨hnr,hn⟩:=List.nodup_cons.1 hn
  refine ⟨hu,.inl ⟨r,_,rfl,run_takeDeferred h3,?_⟩⟩
  refine Af hu hJ hend rs _ hn (fun r' hr'=>?_) (hJ W r hj h1 h2 h3)
  obtain ⟨h4,h5,h6⟩:=hr r' (List.mem_cons_of_mem _ hr')
  exact ⟨h4,h5,(World.putObj_heap_other fun e=>hnr (by subst e; exact hr')).trans h6⟩
theorem lO {x:Option (List Deferred)}:Kd (.deferred x):=fun _ _ _ e=>by cases e
theorem Lb (hE:EnvOk E P) {ih:H8} (hc:Ae E P ih) {f:Nat} {fn:Func} {c:Code} (h1:P.funcs[f]?=some fn) (h2:fn.body=some c) {args:Array Value} {l:List AV} {W:World} {cx:Cx} {h:Heap} (hl:RepL W cx args.toList l) (hn:l.length≤fn.ntmps) (hs:Sat E W cx h)
 (hb:J3 E fn.results.toList (ih (xc c) (Tr.enter fn.ntmps l) h) ≠ .bad):Calls P f args W ((J3 E fn.results.toList (ih (xc c) (Tr.enter fn.ntmps l) h)).Post E W cx):=by
 have hfr:=Qh hl hn
 have hb1:ih (xc c) (Tr.enter fn.ntmps l) h ≠ .bad:=fun e=>by rw [e] at hb; exact hb rfl
 refine Se.1 (callsIn_of_wp_marks (F:=WF none) (n:=0) h1 h2 trivial (wpIn_mono (hc none (D0 W.heap.size) c W cx ⟨_,[]⟩ _ h (D0.mono _) (c9 (D0.stab _) (D0.push _) c) hfr ⟨Nat.le_refl _,[],rfl,List.nodup_nil,by simp⟩ hs hb1) fun x a w hp=>?_) rfl)
 obtain ⟨cx',he,⟨h0,rs,hrs,hnd,hmk⟩,hp⟩:=hp
 have hmk':∀ r∈rs,W.heap.size≤r∧cx'.held r∧w.heap[r]?=some (.deferred (some [])):=fun r hr=>by obtain ⟨a1,a2,a3,a4⟩:=hmk r hr; exact ⟨a1,a3,a4⟩
 generalize ih (xc c) (Tr.enter fn.ntmps l) h=r at *
 cases r with
 | bad=>exact absurd rfl hb1
 | pan v h' =>
  obtain ⟨vv,rfl,h7,h8⟩:=hp
  show LeavesInM (WF none) 0 P fn a.tmps _ a.defers (.panicking _) w
  rw [hrs]
  refine Af (J:=fun w=>Ext W cx w cx'∧Sat E w cx' h'∧Rep w cx' vv v) (fun e=>by cases e) (fun w r hj hr1 hr2 hr3=>?_) (fun w hj=>?_) rs w hnd hmk' ⟨he,h7,h8⟩
  . have e0:=Ext0.putHeld (o:=.deferred none) hj.2.1 hr2 hr3 lO lO
    exact ⟨hj.1.putHi hr1 e0,hj.2.1.putHeld hr2 e0,hj.2.2.mono0 e0⟩
  . exact ⟨cx',vv,rfl,hj.1,hj.2.1,hj.2.2⟩
 | ok e fr h' =>
  obtain ⟨rfl,h7,h8⟩:=hp
  have key:It (F7 E fn.results.toList fr h') h' ≠ .bad->LeavesInM (WF none) 0 P fn a.tmps ((It (F7 E fn.results.toList fr h') h').Post E W cx) a.defers .returning w:=by
   intro hb
   obtain ⟨vs,hr,hr'⟩:=dR hb
   rw [hrs,hr']
   refine Af (J:=fun w=>Ext W cx w cx'∧Sat E w cx' h'∧FrRep w cx' a.tmps fr) (fun e=>by cases e) (fun w r hj hr1 hr2 hr3=>?_) (fun w hj=>?_) rs w hnd hmk' ⟨he,h7,h8⟩
   . have e0:=Ext0.putHeld (o:=.deferred none) hj.2.1 hr2 hr3 lO lO
     exact ⟨hj.1.putHi hr1 e0,hj.2.1.putHeld hr2 e0,hj.2.2.mono0 e0⟩
   . obtain ⟨v,h9,h10⟩:=Pg (P:=P) hE hj.2.1 (fun x _=>hj.2.2.rep _) hr
     exact ⟨v,h9,cx',hj.1,hj.2.1,h10⟩
  cases e with
  | exit i=>exact absurd rfl hb
  | normal=>exact key hb
  | ret=>exact key hb
theorem dS (hE:EnvOk E P) {f:Nat} (ht:E.told f=true) {args:Array Value} {l:List AV} {W:World} {cx:Cx} {h:Heap} (hl:RepL W cx args.toList l) (hs:Sat E W cx h) (hb:toldA l h ≠ .bad) :
 (∃ fn c, P.funcs[f]? = some fn ∧ fn.body = some c ∧ (fn.name == "runtime.NumGoroutine") = false) ∧ Calls P f args W ((toldA l h).Post E W cx) := by
 obtain ⟨g,fn,c,hg,h1,h2,h3,h4⟩:=hE.told f ht
 refine ⟨⟨fn,c,h1,h2,h3⟩,?_⟩
 obtain ⟨⟨m,hm⟩,_,_⟩:=hs.gl.int g hg
 cases l with
 | nil=>exact absurd rfl hb
 | cons x r =>
  cases r with
  | nil=>exact absurd rfl hb
  | cons y r =>
   have e:toldA (x :: y :: r) h=bif bJ r then x.onStr .bad (fun s=>y.onStr .bad fun p=>bif Nat.ble (V3 s) 4000000000 || oneB p then (match contS p s with | true=>.ok (.bool true) h | false=>.ok (.bool false) h) else .bad) else .bad:=rfl
   rw [e] at hb ⊢
   cases hn:bJ r with
   | false=>rw [hn] at hb; exact absurd rfl hb
   | true =>
    rw [hn] at hb
    have:=gD hn
    subst this
    simp only [cond_true] at hb ⊢
    cases x with
    | str s =>
     cases y with
     | str p =>
      have hb:(bif Nat.ble (V3 s) 4000000000 || oneB p then (match contS p s with | true=>Res.ok (.bool true) h | false=>.ok (.bool false) h) else .bad) ≠ .bad:=hb
      show Calls P f args W ((bif Nat.ble (V3 s) 4000000000 || oneB p then (match contS p s with | true=>Res.ok (.bool true) h | false=>.ok (.bool false) h) else .bad).Post E W cx)
      cases hle:(Nat.ble (V3 s) 4000000000 || oneB p) with
      | false=>rw [hle] at hb; exact absurd rfl hb
      | true =>
       have hle:s.length≤4000000000∨p.length=1:=by
        rcases Bool.or_eq_true_iff.1 hle with h1 | h1
        . have h1:=C4 h1
          rw [W8] at h1
          exact .inl h1
        . cases p with
          | nil=>cases h1
          | cons a q=>cases q with
           | nil=>exact .inr rfl
           | cons b q=>cases h1
       obtain ⟨v1,hv1,hr1⟩:=hl.get (i:=0) rfl
       obtain ⟨v2,hv2,hr2⟩:=hl.get (i:=1) rfl
       obtain ⟨s',rfl,hs'⟩:=hr1.str_inv
       obtain ⟨p',rfl,hp'⟩:=hr2.str_inv
       have hargs:args=#[.string s',.string p']:=by
        have hlen:args.size=2:=by have:=hl.1; simpa using this
        apply Array.ext_getElem?
        intro i
        match i with
        | 0=>simpa using hv1
        | 1=>simpa using hv2
        | i + 2=>simp [hlen]
       subst hargs
       have hsz:s'.size < 4294967281∨p'.size=1:=by
        rcases hle with hle | hle
        . have:s'.size=s'.data.toList.length:=by simp
          exact .inl (by rw [this,hs']; omega)
        . have:p'.size=p'.data.toList.length:=by simp
          exact .inr (by rw [this,hp']; exact hle)
       refine (h4 s' p' m W hsz hm).mono fun en w' he=>?_
       obtain ⟨rfl,rfl⟩:=he
       simp only [cond_true]
       rw [hs',hp']
       cases contS p s with
       | true=>exact ⟨cx,Ext.refl _ _,hs,.bool _⟩
       | false=>exact ⟨cx,Ext.refl _ _,hs,.bool _⟩
     | _=>exact absurd rfl hb
    | _=>exact absurd rfl hb
inductive Mode:FrameMode->FrameMode->Value->Prop
 | ret:Mode .returning .returning .nilIface
 | pan (v:Value):Mode (.panicking [{ v:=v,recovered:=false }]) (.panicking [{ v:=v,recovered:=true }]) v
end
end Go.AM
/-
 The abstract machine: maps.DeleteFunc,told of: its predicate is called at each entry,in whatever order.
-/
namespace Go.AM
section
variable {P:Program} {E:Env}
theorem gE (hE:EnvOk E P) {ih:H8} (hc:Ae E P ih) (hpr:∀ (c:XC) (fr:Tr) (h h':Heap),CRes.heap (ih c fr h)=some h'->Pres h h') {f:Nat} {ks:List Nat} (hd:E.dlf f=some ks) {args:Array Value} {l:List AV} {W:World} {cx:Cx} {h:Heap}
 (hl:RepL W cx args.toList l) (hs:Sat E W cx h) (hb:Yo E ih ks l h ≠ .bad):Et P f∧Calls P f args W ((Yo E ih ks l h).Post E W cx):=absurd rfl hb
end
end Go.AM
/-
 The abstract machine: slices.Sorted at a map's keys,told of.
-/
namespace Go.AM
section
variable {P:Program} {E:Env}
theorem gF (hE:EnvOk E P) {f:Nat} {args:Array Value} {l:List AV} {W:World} {cx:Cx} {h:Heap} {r:Res}
 (hl:RepL W cx args.toList l) (hs:Sat E W cx h) (hr:srtA E f l h=some r) (hb:r ≠ .bad):Et P f∧Calls P f args W (r.Post E W cx):=by cases hr
end
end Go.AM
/-
 The abstract machine: maps.DeleteFunc: its loop,step by step,over whatever is kept.
-/
namespace Go.AM
open Go.Maps (Keyed)
section
variable {P:Program} {W:World} {b clock:Nat} {ents:Array MapEntry} {J:World->Prop} {K K':MapEntry->Prop} {seen:Array Nat} {n:Nat} {wr:World} {pd:MapEntry->Bool}
variable {ops:Array Oper} {rest:List Oper} {o:Oper} {a:Act} {Q:Exit->Act->World->Prop}
end
end Go.AM
/-
 The abstract machine: a range over a map in the code: whichever entry comes next,it comes to the same.
-/
namespace Go.AM
section
variable {P:Program} {E:Env} {ih:H8}
end
end Go.AM
/-
 The abstract machine: a range over a map in the code: what stands there,and that it is sound.
-/
namespace Go.AM
section
variable {P:Program} {E:Env} {ih:H8}
theorem rZ {a b:Code} (h:rngC a b=none):xc (.seq a b)=.seq (xc a) (xc b):=by
 show (match rngC a b with | some R=>XC.rngm R (xc b) | none=>.seq (xc a) (xc b))=_
 rw [h]
theorem sA {a b:Code} {R:RngD} (h:rngC a b=some R):xc (.seq a b)=.rngm R (xc b):=by
 show (match rngC a b with | some R=>XC.rngm R (xc b) | none=>.seq (xc a) (xc b))=_
 rw [h]
end
end Go.AM
/-
 The abstract machine: a range over a map in the code is sound.
-/
namespace Go.AM
section
variable {P:Program} {E:Env} {ih:H8} {ops:Array Oper} {rest:List Oper} {o:Oper} {a:Act} {w:World} {Q:Exit->Act->World->Prop}
theorem dT (hE:EnvOk E P) (hc:Ae E P ih) (hpr:∀ (c:XC) (fr:Tr) (h h':Heap),CRes.heap (ih c fr h)=some h'->Pres h h') {ro:Option Nat} {D:DP} (hD:Kz D) {ca cb:Code} {R:RngD} (hR:rngC ca cb=some R)
 (hst:gA ro D (.seq ca cb)) {W:World} {cx:Cx} {a:Act} {fr:Tr} {h:Heap} (hf:FrRep W cx a.tmps fr) (hd:D W cx a) (hs:Sat E W cx h) (hb:Ql E ih R (xc cb) fr h ≠ .bad) :
 (Code.seq ca cb).wpIn (WF ro) 0 P (R9 E W cx D (Ql E ih R (xc cb) fr h)) a W:=absurd rfl hb
end
end Go.AM
/-
 The abstract machine: calls and code.
-/
namespace Go.AM
section
variable {P:Program} {E:Env}
theorem Im:∀ (c:Code) (x:DfC),parseD c=some x->c=x.code
 | .seq a b,x,h=>by
  have go:∀ (a:Code),(parseD b).map (fun x=>(⟨a :: x.pre,x.id,x.ops,x.rest⟩:DfC))=some x->Code.seq a b=x.code:=fun a h=>by
   cases hb:parseD b with
   | none=>rw [hb] at h; cases h
   | some y =>
    rw [hb] at h
    cases h
    show Code.seq a b=.seq a (y.code)
    rw [← Im b y hb]
  cases a with
  | region id ops draw =>
   cases draw with
   | true=>exact go _ h
   | false =>
    have h:(bif Yp ops.toList then some ⟨[],id,ops,b⟩ else (parseD b).map fun x=>⟨.region id ops false :: x.pre,x.id,x.ops,x.rest⟩)=some x:=h
    cases hh:Yp ops.toList with
    | true=>rw [hh] at h; cases h; rfl
    | false=>rw [hh] at h; exact go _ h
  | _=>exact go _ h
 | .skip,_,h | .region ..,_,h | .cond ..,_,h | .block ..,_,h | .loop ..,_,h | .scope ..,_,h | .rangeFunc ..,_,h | .label ..,_,h | .goto ..,_,h | .exit ..,_,h | .ret,_,h | .refuse ..,_,h=>by cases h
theorem lP (hE:EnvOk E P) {ih:H8} (hc:Ae E P ih) (hl:La E P ih) {fn:Func} {x:DfC} {o:Oper} {r:List Oper} {g:Operand} (hops:x.ops.toList=r.reverse ++ [o]) (ho:isDf o=some g) (hcalm:bM [] r.reverse=true) (hrest:S1 (fn.results.toList.map Ap) x.rest=true)
 {W0:World} {cx0:Cx}:∀ (L:List Code) (a:Act) (W:World) (cx:Cx) (fr:Tr) (h:Heap),L.all (S1 [])=true->Ext W0 cx0 W cx->FrRep W cx a.tmps fr->a.defers=[]->Sat E W cx h ->
 eE E ih g (xc x.rest) fn.results.toList (L.map xc ++ [y7 x.ops.toList r.reverse]) fr h ≠ .bad ->
 (L.foldr Code.seq (.seq (.region x.id x.ops false) x.rest)).wpIn (WF none) 0 P (bodyPostM (WF none) 0 P fn ((eE E ih g (xc x.rest) fn.results.toList (L.map xc ++ [y7 x.ops.toList r.reverse]) fr h).Post E W0 cx0)) a W
 | [],_,_,_,_,_,_,_,_,_,_,hb=>absurd rfl hb
 | _ :: _,_,_,_,_,_,_,_,_,_,_,hb=>absurd rfl hb
theorem Vd (hE:EnvOk E P) {ih:H8} (hc:Ae E P ih) (hl:La E P ih) (hpr:∀ (c:XC) (fr:Tr) (h h':Heap),CRes.heap (ih c fr h)=some h'->Pres h h'):Aw E P (L4 E ih):=by
 intro f args l W cx h hv hs hb
 unfold L4 at hb ⊢
 cases ht:E.told f with
 | true=>rw [ht] at hb; exact dS hE ht hv hs hb
 | false =>
  rw [ht] at hb
  simp only [cond_false] at hb ⊢
  cases hdf:E.dlf f with
  | some ks=>rw [hdf] at hb; exact gE hE hc hpr hdf hv hs hb
  | none =>
   rw [hdf] at hb
   dsimp only at hb ⊢
   cases hsr:srtA E f l h with
   | some r=>rw [hsr] at hb; exact gF hE hv hs hsr hb
   | none =>
    rw [hsr] at hb
    dsimp only at hb ⊢
    cases hfi:E.fn f with
    | none=>rw [hfi] at hb; exact absurd rfl hb
    | some fi =>
     rw [hfi] at hb
     obtain ⟨fn,c,h1,h2,h3,h4,h5,h6,h7⟩:=hE.fn f fi hfi
     refine ⟨⟨fn,c,h1,h2,h3⟩,?_⟩
     dsimp only at hb ⊢
     cases hn:Nat.ble (lenL l) fi.ntmps with
     | false=>rw [hn] at hb; exact absurd rfl hb
     | true =>
      rw [hn] at hb
      simp only [cond_true] at hb ⊢
      have hn:=C4 hn
      rw [A5] at hn
      unfold Ln at hb ⊢
      cases hm:fi.mode with
      | rcv d d2 rest=>rw [hm] at hb; exact absurd rfl hb
      | plain =>
       rw [hm] at hb
       dsimp only at hb ⊢
       rw [h4,h5,h6] at hb ⊢
       rw [h5] at hn
       exact Lb hE hc h1 h2 hv hn hs hb
      | itf ic =>
       rw [hm] at hb
       dsimp only at hb ⊢
       rw [h4,h5,h6] at hb ⊢
       rw [h5] at hn
       exact Lb hE hc h1 h2 hv hn hs hb
      | dfr pre g rest =>
       rw [hm] at hb h7
       dsimp only at hb ⊢
       have ⟨x,hx1,hx2⟩:∃ x,parseD c=some x∧Dn fn.results.toList x=some (.dfr pre g rest):=by
        rcases fmOf_cases h7.symm with ⟨_,h⟩ | h | ⟨x,_,_,h⟩ | h
        . obtain ⟨_,_,_,_,_,_,_,_,_,_,_,_,h⟩:=Va h; cases h
        . exact h
        . cases h
        . cases h
       obtain ⟨o,r,g',hops,ho,hcalm,hpre,hrest,hrr⟩:=Vb hx2
       cases hrr
       have hcode:=Im c x hx1
       have hops':x.ops.toList=r.reverse ++ [o]:=by
        have:=congrArg List.reverse hops
        simpa using this
       rw [h5,h6] at hb ⊢
       rw [h5] at hn
       have hfr:=Qh hv hn
       refine Se.1 (callsIn_of_wp_marks (F:=WF none) (n:=0) h1 h2 trivial ?_ rfl)
       rw [hcode]
       exact lP hE hc hl hops' ho hcalm hrest x.pre ⟨_,[]⟩ W cx _ h hpre (Ext.refl _ _) hfr rfl hs hb
theorem Sat.sub {P:Program} {E:Env} {W:World} {cx:Cx} {h h':Heap} (hs:Sat E W cx h) (hn:h'.next=h.next) (hg:∀ id o,h'.get id=some o->h.get id=some o):Sat E W cx h' where
 nx:=hn.trans hs.nx
 objs id o ho:=hs.objs id o (hg id o ho)
 inj id id' o o' ho ho':=hs.inj id id' o o' (hg id o ho) (hg id' o' ho')
 gl:=hs.gl
 held:=hs.held
 free id o ho:=hs.free id o (hg id o ho)
theorem bG (hE:EnvOk E P) {ih:H8} (hc:Ae E P ih) (hl:La E P ih) (hpr:∀ (c:XC) (fr:Tr) (h h':Heap),CRes.heap (ih c fr h)=some h'->Pres h h'):Aw E P (E9 E ih):=by
 intro f args l W cx h hv hs hb
 unfold E9 at hb ⊢
 cases hg:E.gc f with
 | false=>rw [hg] at hb; exact Vd hE hc hl hpr f args l W cx h hv hs hb
 | true =>
  rw [hg] at hb
  have hb:CM h (L4 E ih f l { h with tch:=[] }) ≠ .bad:=hb
  show _∧Calls P f args W ((CM h (L4 E ih f l { h with tch:=[] })).Post E W cx)
  have h0:=Vd hE hc hl hpr f args l W cx { h with tch:=[] } hv (hs.sub (P:=P) rfl fun _ _ ho=>ho) (fun e=>hb (by rw [e]; rfl))
  refine ⟨h0.1,h0.2.mono fun e w hp=>?_⟩
  cases hq:L4 E ih f l { h with tch:=[] } with
  | bad=>rw [hq] at hb; exact absurd rfl hb
  | pan v h1=>rw [hq] at hb; exact absurd rfl hb
  | ok v h1 =>
   rw [hq] at hp
   cases e with
   | returned vv =>
    obtain ⟨cx',h1',h2,h3⟩:=hp
    refine ⟨cx',h1',h2.sub (P:=P) rfl fun id o ho=>?_,h3⟩
    have ho:(h.os.trunc h1.os).get id=some o:=ho
    show h1.os.get id=some o
    rcases HT.get_trunc h.os h1.os id with e1 | ⟨e1,_⟩
    . rw [← e1]; exact ho
    . rw [e1] at ho; cases ho
   | panicked c=>exact hp.elim
   | outgrown=>exact hp.elim
theorem Ve {b:Tr->Heap->CRes} {r:CRes} (h:z8 b r ≠ .bad):r ≠ .bad:=fun e=>by rw [e] at h; exact h rfl
theorem Vf {W:World} {cx:Cx} {D:DP} {r:CRes} {b:Tr->Heap->CRes} {K:Act->World->Prop} (hb:z8 b r ≠ .bad)
 (hK:∀ fr' h' cx' a' w',r=.ok .normal fr' h'->Ext W cx w' cx'->Sat E w' cx' h'->FrRep w' cx' a'.tmps fr'->D w' cx' a'->K a' w'):∀ x a' w',R9 E W cx D r x a' w'->Exit.then K (R9 E W cx D (z8 b r)) x a' w':=by
 intro x a' w' hp
 obtain ⟨cx',he,hd,hp⟩:=hp
 cases r with
 | bad=>exact hp.elim
 | pan v h' =>
  obtain ⟨vv,rfl,h1,h2⟩:=hp
  exact ⟨cx',he,hd,vv,rfl,h1,h2⟩
 | ok e fr h' =>
  obtain ⟨rfl,h1,h2⟩:=hp
  cases e with
  | normal=>exact hK fr h' cx' a' w' rfl he h1 h2 hd
  | exit i=>exact ⟨cx',he,hd,rfl,h1,h2⟩
  | ret=>exact ⟨cx',he,hd,rfl,h1,h2⟩
theorem Sd {W:World} {cx:Cx} {D:DP} {r:CRes} {l:Nat} {a:Act} {w:World} (hp:R9 E W cx D r (.goto l) a w):False:=by
 obtain ⟨cx',_,_,hp⟩:=hp
 cases r with
 | bad=>exact hp.elim
 | pan v h'=>obtain ⟨vv,e,_⟩:=hp; cases e
 | ok e fr' h'=>obtain ⟨e2,_⟩:=hp; cases e <;> cases e2
theorem Lc (hE:EnvOk E P):∀ n,Ae E P (ev E n) ∧
 (∀ (ro:Option Nat) (D:DP) (c:Code) (W:World) (cx:Cx) (a:Act) (fr:Tr) (h:Heap),Kz D->gA ro D c->FrRep W cx a.tmps fr->D W cx a->Sat E W cx h->ev E n (.loop (xc c)) fr h ≠ .bad->Code.roundsIn (WF ro) 0 P c (R9 E W cx D (ev E n (.loop (xc c)) fr h)) n a W) ∧
 La E P (ev E n)
 | 0=>⟨fun ro D c W cx a fr h _ _ _ _ _ hb=>absurd rfl hb,fun ro D c W cx a fr h _ _ _ _ _ hb=>absurd rfl hb,fun S ops l Q W cx a fr h _ _ _ _ hb=>absurd rfl hb⟩
 | n + 1=>by
  obtain ⟨ihc,ihl,ihp⟩:=Lc hE n
  have hcall:=bG hE ihc ihp (m9 E n)
  have round:∀ (ro:Option Nat) (D:DP) (c:Code) (W:World) (cx:Cx) (a:Act) (fr:Tr) (h:Heap),Kz D->gA ro D c->FrRep W cx a.tmps fr->D W cx a->Sat E W cx h->ev E (n + 1) (.loop (xc c)) fr h ≠ .bad->Code.roundsIn (WF ro) 0 P c (R9 E W cx D (ev E (n + 1) (.loop (xc c)) fr h)) (n + 1) a W:=by
   intro ro D c W cx a fr h hD hst hf hd hs hb
   have e:ev E (n + 1) (.loop (xc c)) fr h=z8 (ev E n (.loop (xc c))) (ev E n (xc c) fr h):=rfl
   rw [e] at hb ⊢
   rw [roundsIn_succ]
   refine wpIn_mono (ihc ro D c W cx a fr h hD hst hf hd hs (Ve hb)) (Vf hb fun fr' h' cx' a' w' e1 h1 h2 h3 h4=>?_)
   rw [e1] at hb ⊢
   have hb:ev E n (.loop (xc c)) fr' h' ≠ .bad:=hb
   have:=ihl ro D c w' cx' a' fr' h' hD hst h3 h4 h2 hb
   have mono:∀ m a w Q Q',(∀ x a w,Q x a w->Q' x a w)->Code.roundsIn (WF ro) 0 P c Q m a w->Code.roundsIn (WF ro) 0 P c Q' m a w:=by
    intro m
    induction m with
    | zero=>intro a w Q Q' _ h; exact h
    | succ m ih =>
     intro a w Q Q' hq h
     exact wpIn_mono h fun x a w hx=>by cases x <;> first | exact ih _ _ _ _ hq hx | exact hq _ _ _ hx
   exact mono n a' w' _ _ (fun x a w hp=>R9.trans h1 hp) this
  refine ⟨fun ro D c W cx a fr h hD hst hf hd hs hb=>?_,round,fun S ops l Q W cx a fr h hst hf hS hs hb=>?_⟩
  . cases c with
    | skip=>exact wpIn_skip ⟨cx,Ext.refl _ _,hd,rfl,hs,hf⟩
    | ret=>exact wpIn_ret ⟨cx,Ext.refl _ _,hd,rfl,hs,hf⟩
    | exit id=>exact wpIn_exit ⟨cx,Ext.refl _ _,hd,rfl,hs,hf⟩
    | label l=>exact wpIn_label ⟨cx,Ext.refl _ _,hd,rfl,hs,hf⟩
    | scope x =>
     have e:ev E (n + 1) (xc (.scope x)) fr h=ev E n (xc x) fr h:=rfl
     rw [e] at hb ⊢
     refine Yh (wpIn_mono (ihc ro D x W cx a fr h hD hst hf hd hs hb) fun x' a' w' hp=>?_)
     cases x' with
     | goto l=>exact (Sd hp).elim
     | _=>exact hp
    | region id ops draw =>
     cases draw with
     | false =>
      have e:ev E (n + 1) (xc (.region id ops false)) fr h=step E (ev E n) (bif Cv ops.toList then .reg false (ops.toList.map (Sq ops.toList false [] false)) else .bad) fr h:=rfl
      rw [e] at hb ⊢
      cases hnd:Cv ops.toList with
      | false=>rw [hnd] at hb; exact absurd rfl hb
      | true =>
       rw [hnd] at hb
       have hb:F6 E (E9 E (ev E n)) (ops.toList.map (Sq ops.toList false [] false)) fr h ≠ .bad:=hb
       show (Code.region id ops false).wpIn (WF ro) 0 P (R9 E W cx D (F6 E (E9 E (ev E n)) (ops.toList.map (Sq ops.toList false [] false)) fr h)) a W
       exact wpIn_mono (dW (ro:=ro) (Q:=(F6 E (E9 E (ev E n)) (ops.toList.map (Sq ops.toList false [] false)) fr h).Post E W cx (fun a=>D W cx a)) gH (Ha _ hnd) (i7 hE hcall ops.toList W cx a fr h (fun o ho=>by obtain ⟨i,hi⟩:=List.getElem?_of_mem ho; exact hst i o (by simpa using hi) W cx) hf hd hs hb fun x a' w' hp=>hp)) fun x a w hp=>R9.of_post hD hp
     | true =>
      have e:ev E (n + 1) (xc (.region id ops true)) fr h=step E (ev E n) (bif Cv ops.toList then (bif Hh ops.toList (Ao ops.toList) (Kl ops.toList (Ao ops.toList)) then .reg true (xops ops.toList (Ao ops.toList) [] (Kl ops.toList (Ao ops.toList))) else .bad) else .bad) fr h:=rfl
      rw [e] at hb ⊢
      cases hnd:Cv ops.toList with
      | false=>rw [hnd] at hb; exact absurd rfl hb
      | true =>
       rw [hnd] at hb
       cases hok:Hh ops.toList (Ao ops.toList) (Kl ops.toList (Ao ops.toList)) with
       | false=>rw [hok] at hb; exact absurd rfl hb
       | true =>
        rw [hok] at hb
        exact wpIn_mono (Yi hE hs hf (S:=fun a=>D W cx a) hd hcall (lQ E n) (fun i o ho=>hst i o ho W cx) (ro:=ro) (fun i o ho=>Ha _ hnd o (List.mem_of_getElem? (by simpa using ho))) hok hb) fun x a w hp=>R9.of_post hD hp
    | seq x y =>
     cases hR:rngC x y with
     | some R =>
      have e:ev E (n + 1) (xc (.seq x y)) fr h=Ql E (ev E n) R (xc y) fr h:=by rw [sA hR]; rfl
      rw [e] at hb ⊢
      exact dT hE ihc (m9 E n) hD hR hst hf hd hs hb
     | none =>
      have e:ev E (n + 1) (xc (.seq x y)) fr h=z8 (ev E n (xc y)) (ev E n (xc x) fr h):=by rw [rZ hR]; rfl
      rw [e] at hb ⊢
      refine wpIn_seq (wpIn_mono (ihc ro D x W cx a fr h hD hst.1 hf hd hs (Ve hb)) (Vf hb fun fr' h' cx' a' w' e1 h1 h2 h3 h4=>?_))
      rw [e1] at hb ⊢
      have hb:ev E n (xc y) fr' h' ≠ .bad:=hb
      exact wpIn_mono (ihc ro D y w' cx' a' fr' h' hD hst.2 h3 h4 h2 hb) fun x a w hp=>R9.trans h1 hp
    | cond c x y =>
     have e:ev E (n + 1) (xc (.cond c x y)) fr h=Iu (ev E n (xc x)) (ev E n (xc y)) (opv E c fr) fr h:=rfl
     rw [e] at hb ⊢
     have hc:=W9 (E:=E) hs hf c
     cases hv:opv E c fr with
     | bool b =>
      rw [hv] at hb hc
      refine wpIn_cond hc.bool_inv ?_
      cases b with
      | true=>exact ihc ro D x W cx a fr h hD hst.1 hf hd hs hb
      | false=>exact ihc ro D y W cx a fr h hD hst.2 hf hd hs hb
     | _=>rw [hv] at hb; exact absurd rfl hb
    | block id x =>
     have e:ev E (n + 1) (xc (.block id x)) fr h=An id (ev E n (xc x) fr h):=rfl
     rw [e] at hb ⊢
     have hb1:ev E n (xc x) fr h ≠ .bad:=fun e=>by rw [e] at hb; exact hb rfl
     refine wpIn_block (wpIn_mono (ihc ro D x W cx a fr h hD hst hf hd hs hb1) fun x' a' w' hp=>?_)
     clear e
     generalize ev E n (xc x) fr h=r at *
     obtain ⟨cx',he,hd',hp⟩:=hp
     cases r with
     | bad=>exact absurd rfl hb1
     | pan v h' =>
      obtain ⟨vv,rfl,h1,h2⟩:=hp
      exact ⟨cx',he,hd',vv,rfl,h1,h2⟩
     | ok e fr' h' =>
      obtain ⟨rfl,h1,h2⟩:=hp
      cases e with
      | normal=>exact ⟨cx',he,hd',rfl,h1,h2⟩
      | ret=>exact ⟨cx',he,hd',rfl,h1,h2⟩
      | exit j =>
       show Exit.inBlock id _ (.exit j) a' w'
       have e2:An id (.ok (.exit j) fr' h')=bif Nat.beq j id then .ok .normal fr' h' else .ok (.exit j) fr' h':=rfl
       rw [e2]
       show if j=id then _ else _
       by_cases hj:j=id
       . subst hj; rw [if_pos rfl]; simp only [Nat.beq_refl,cond_true]; exact ⟨cx',he,hd',rfl,h1,h2⟩
       . rw [if_neg hj,Heap.beq_false hj]; exact ⟨cx',he,hd',rfl,h1,h2⟩
    | loop x=>exact wpIn_loop_rounds (n + 1) (round ro D x W cx a fr h hD hst hf hd hs hb)
    | rangeFunc g ps x y=>exact dQ hE ihc ihp hD hst hf hd hs hb
    | _=>exact absurd rfl hb
  . have e:ev E (n + 1) (y7 ops.toList l) fr h=step E (ev E n) (bif Cv l then .reg false (l.map (Sq ops.toList false [] false)) else .bad) fr h:=rfl
    rw [e] at hb ⊢
    cases hnd:Cv l with
    | false=>rw [hnd] at hb; exact absurd rfl hb
    | true =>
     rw [hnd] at hb
     exact ⟨Ha _ hnd,fun hQ=>i7 hE hcall l W cx a fr h hst hf hS hs hb hQ⟩
theorem dU (hE:EnvOk E P) {W:World} {cx:Cx} {h:Heap} {n f:Nat} {args:Array Value} {l:List AV} (hl:RepL W cx args.toList l) (hs:Sat E W cx h) (hb:run E n f l h ≠ .bad):Calls P f args W ((run E n f l h).Post E W cx) :=
 (bG hE (Lc hE n).1 (Lc hE n).2.2 (m9 E n) f args l W cx h hl hs hb).2
end
end Go.AM
