/- The abstract machine, part five: ranges over functions, deferred calls that recover, code and calls: sound. Conditions: none. -/
import Derived.Test.YtionlfkdpjgpjaaAmFour
import Derived.RangeFuncNested
import Derived.RecoverIn
import Derived.RowKit3
import Derived.Maps.RangeWalk
import Derived.Maps.Ext
import Derived.Laws.IdiomRangeMap
import Derived.Deep.LoopGhost
import Derived.WalkKit
set_option linter.unusedVariables false
set_option linter.unusedSectionVars false
set_option linter.unusedSimpArgs false
/-
 The abstract machine: what a body yields; frames that are entered; blocks that are laid and held; what is so behind code.
-/
namespace Go.AM
section
variable {P:Program} {E:Env} {W:World} {cx:Cx} {h:Heap}
theorem fL (hE:EnvOk E P) (hs:Sat E W cx h) {t:Nat} {ti:TI} (ht:E.ti t=some ti) {x:Value} {a r:AV} (hx:Rep W cx x a) (hl:Aa ti a h=some r) :
 ∃ v p,x=.pointer (some p)∧(loadVar t p).run P W=.ok v W∧Rep W cx v r:=by
 obtain ⟨v,h1,h2⟩:=Ni (P:=P) hE hs ht hx hl
 have:∃ p,x=.pointer (some p):=by
  cases a with
  | fptr v off=>obtain ⟨b,o,e,_⟩:=hx.fptr_inv; exact ⟨_,e⟩
  | ptr id i off=>obtain ⟨_,e⟩:=hx.ptr_inv; exact ⟨_,e⟩
  | _=>cases hl
 obtain ⟨p,rfl⟩:=this
 exact ⟨v,p,rfl,by simpa [Instr.loadAt,Instr.sureAddr] using h1,h2⟩
def resVar (tmps:Array Value):ResultVar->Sem Value
 | .tmp t=>pure (tmps.getD t undef)
 | .cell a t=>do loadVar t (← asAddr (tmps.getD a undef))
theorem v7 (hE:EnvOk E P) (hs:Sat E W cx h) {tmps:Array Value} {fr:Tr}:∀ (l:List ResultVar) (vs:List AV),(∀ x∈l,Rep W cx (tmps.getD (Au x) undef) (fr.get (Au x)))->F6 E l fr h=some vs->∃ us,(l.mapM (resVar tmps)).run P W=.ok us W∧RepL W cx us vs
 | [],vs,hf,hr=>by
  cases hr
  exact ⟨[],rfl,.nil⟩
 | x :: l,vs,hf,hr=>by
  have hf':=fun y hy=>hf y (List.mem_cons_of_mem _ hy)
  have hx:=hf x (List.mem_cons_self ..)
  cases x with
  | tmp t =>
   have hr:A4 (F6 E l fr h) (fun vs=>some (fr.get t :: vs))=some vs:=hr
   obtain ⟨ws,h1,h2⟩:=A1 hr
   cases h2
   obtain ⟨us,h3,h4⟩:=v7 hE hs l ws hf' h1
   exact ⟨tmps.getD t undef :: us,by rw [List.mapM_cons]; simp [resVar,h3],.cons hx h4⟩
  | cell a t =>
   have hr:onTI E t none (fun ti=>A4 (Aa ti (fr.get a) h) fun v=>A4 (F6 E l fr h) fun vs=>some (v :: vs))=some vs:=hr
   obtain ⟨ti,ht,hr⟩:=E1 hr
   obtain ⟨v,hv,hr⟩:=A1 hr
   obtain ⟨ws,h1,h2⟩:=A1 hr
   cases h2
   obtain ⟨us,h3,h4⟩:=v7 hE hs l ws hf' h1
   have hx:Rep W cx (tmps.getD a undef) (fr.get a):=hx
   obtain ⟨u,p,e,h5,h6⟩:=fL (P:=P) hE hs ht hx hv
   exact ⟨u :: us,by rw [List.mapM_cons]; simp [resVar,e,asAddr,h5,h3],.cons h6 h4⟩
theorem Qr (hE:EnvOk E P) (hs:Sat E W cx h) {tmps:Array Value} {fr:Tr} {fn:Func} (hf:∀ x∈fn.results.toList,Rep W cx (tmps.getD (Au x) undef) (fr.get (Au x))) {vs:List AV} (hr:F6 E fn.results.toList fr h=some vs) :
 ∃ v,(results fn tmps).run P W=.ok v W∧Rep W cx v (oneOrTup vs):=by
 obtain ⟨us,h1,h2⟩:=v7 (P:=P) hE hs fn.results.toList vs hf hr
 have e1:(fn.results.mapM (resVar tmps)).run P W=.ok us.toArray W:=by
  rw [← Array.toArray_toList (xs:=fn.results),List.mapM_toArray]
  simp [h1]
 have e2:results fn tmps=(do
  let vs ← fn.results.mapM (resVar tmps)
  pure (if h:vs.size=1 then vs[0] else .tuple vs)):=by
  unfold results
  congr 1
 refine ⟨if h:us.toArray.size=1 then us.toArray[0] else .tuple us.toArray,by rw [e2]; simp only [Sem.run_bind,e1,Result.andThen_ok]; rfl,?_⟩
 cases us with
 | nil =>
  cases vs with
  | nil=>exact .tup #[] [] rfl (by simp)
  | cons _ _=>have:=h2.1; simp at this
 | cons u us =>
  cases vs with
  | nil=>have:=h2.1; simp at this
  | cons v vs =>
   cases us with
   | nil =>
    cases vs with
    | nil=>exact h2.2 0 _ _ rfl rfl
    | cons _ _=>have:=h2.1; simp at this
   | cons u2 us =>
    cases vs with
    | nil=>have:=h2.1; simp at this
    | cons v2 vs=>simp only [List.size_toArray,List.length_cons]; rw [dif_neg (by omega)]; exact Rep.tup_mk h2
theorem FrRep.set {tmps:Array Value} {fr:Tr} (hf:FrRep W cx tmps fr) {i:Nat} {x:AV} (hx:Rep W cx (tmps.getD i undef) x):FrRep W cx tmps (fr.set i x) where
 rep j:=by
  by_cases e:i=j
  . subst e
    rw [Tr.get_set_eq]
    split
    . exact hx
    . exact .und _
  . rw [Tr.get_set_ne _ _ _ _ e]; exact hf.rep j
 has j hj:=by rw [Tr.has_set] at hj; exact hf.has j hj
theorem FrRep.setAll {tmps:Array Value}:∀ (l:List AV) (i:Nat) (fr:Tr),FrRep W cx tmps fr->(∀ (j:Nat) x,l[j]?=some x->Rep W cx (tmps.getD (i + j) undef) x)->FrRep W cx tmps (Tr.setAll l i fr)
 | [],_,_,hf,_=>hf
 | v :: l,i,fr,hf,hx=>by
  show FrRep W cx tmps (Tr.setAll l (i + 1) (fr.set i v))
  exact FrRep.setAll l (i + 1) _ (hf.set (hx 0 v rfl)) fun j x hj=>by
   have:=hx (j + 1) x (by simpa using hj)
   rw [show i + 1 + j=i + (j + 1) by omega]; exact this
theorem Rw {args:Array Value} {l:List AV} (hl:RepL W cx args.toList l) {n:Nat} (hn:l.length≤n):FrRep W cx (args ++ Array.replicate (n - args.size) undef) (Tr.enter n l):=by
 have hsz:args.size=l.length:=by have:=hl.1; simpa using this
 refine FrRep.setAll l 0 _ ⟨fun i=>by rw [Tr.get_mk]; exact .und _,fun i hi=>?_⟩ fun j x hj=>?_
 . have:=Tr.has_mk _ _ _ hi
   simp; omega
 . obtain ⟨v,h1,h2⟩:=hl.get hj
   have hlt:j < args.size:=by rw [hsz]; exact E7 hj
   have:(args ++ Array.replicate (n - args.size) undef).getD (0 + j) undef=v:=by
    rw [Nat.zero_add,Array.getD_eq_getD_getElem?,Array.getElem?_append_left hlt]
    have:args[j]?=some v:=by simpa using h1
    rw [this]; rfl
   rw [this]; exact h2
def Ld (o:Obj):Prop:=∀ c t f,o ≠ .cells c t f
theorem Xb {W:World} {b:Nat} (h:∀ o,W.heap[b]?=some o->Ld o):g0 W b=0:=by
 unfold g0
 cases hb:W.heap[b]? with
 | none=>rfl
 | some o =>
  cases o with
  | cells c t f=>exact absurd rfl (h _ hb c t f)
  | _=>rfl
theorem Ext0.putHeld (hs:Sat E W cx h) {l:Nat} {o₀ o:Obj} (hl:cx.held l) (h0:W.heap[l]?=some o₀) (hn:Ld o₀) (ho:Ld o):Ext0 W cx (W.putObj l o) cx where
 nx:=Nat.le_refl _
 mu _ _:=rfl
 sz:=by simp
 keep b _ hb:=World.putObj_heap_other fun e=>hb (e ▸ (hs.held l hl).2)
 shape b hb:=by
  by_cases e:b=l
  . subst e
    rw [Xb (W:=W) (fun o' h'=>by rw [h0] at h'; cases h'; exact hn),Xb (fun o' h'=>by rw [World.putObj_heap_same hb] at h'; cases h'; exact ho)]
  . unfold g0; rw [World.putObj_heap_other e]
 own _ _ h:=h
theorem Sat.putHeld (hs:Sat E W cx h) {l:Nat} {o:Obj} (hl:cx.held l) (he:Ext0 W cx (W.putObj l o) cx):Sat E (W.putObj l o) cx h where
 nx:=hs.nx
 objs id y hy:=by
  obtain ⟨h1,h2,h3,h4⟩:=hs.objs id y hy
  exact ⟨h1,h2,by simpa using h3,h4.mono0 he (World.putObj_heap_other fun e=>hs.free id y hy (e ▸ hl))⟩
 inj:=hs.inj
 gl:=hs.gl.mono0 he
 held b hb:=⟨by simpa using (hs.held b hb).1,(hs.held b hb).2⟩
 free:=hs.free
theorem Ext.putHi {W W':World} {cx cx':Cx} {l:Nat} {o:Obj} (he:Ext W cx W' cx') (hl:W.heap.size≤l) (h0:Ext0 W' cx' (W'.putObj l o) cx'):Ext W cx (W'.putObj l o) cx' where
 toExt0:=he.toExt0.trans h0
 hold b hb hh:=⟨(he.hold b hb hh).1,(World.putObj_heap_other (by omega)).trans (he.hold b hb hh).2⟩
 out:=he.out
abbrev DP:=World->Cx->Act->Prop
def CRes.End (E:Env) (r:CRes) (x:Exit) (a:Act) (w:World) (cx':Cx):Prop :=
 match r with
 | .ok e fr h=>x=jU e∧Sat E w cx' h∧FrRep w cx' a.tmps fr
 | .pan v h=>∃ vv,x=.panic [{ v:=vv,recovered:=false }]∧Sat E w cx' h∧Rep w cx' vv v
 | .bad=>False
def U0 (E:Env) (W:World) (cx:Cx) (D:DP) (r:CRes) (x:Exit) (a:Act) (w:World):Prop:=∃ cx',Ext W cx w cx'∧D w cx' a∧r.End E x a w cx'
theorem U0.trans {W W₁:World} {cx cx₁:Cx} {D:DP} (he:Ext W cx W₁ cx₁) {r:CRes} {x:Exit} {a:Act} {w:World} (h:U0 E W₁ cx₁ D r x a w):U0 E W cx D r x a w:=by
 obtain ⟨cx',he',h⟩:=h
 exact ⟨cx',he.trans he',h⟩
def Md (D:DP):Prop:=∀ W cx a W' cx',Ext W cx W' cx'->D W cx a->D W' cx' a
def iU (D:DP) (d:Option Tmp):Prop:=∀ W cx,gE (D W cx) d
theorem U0.of_post {D:DP} (hD:Md D) {r:CRes} {x:Exit} {a:Act} {w:World} (h:r.Post E W cx (fun a=>D W cx a) x a w):U0 E W cx D r x a w:=by
 obtain ⟨hd,cx',he,h⟩:=h
 exact ⟨cx',he,hD _ _ _ _ _ he hd,h⟩
def Xc (r:Nat):Deferred:={ target:=.collected r,args:=#[] }
def nJ (ro:Option Nat) (D:DP):Prop :=
 match ro with
 | none=>∀ W cx a W' cx' r,D W cx a->Ext W cx W' cx'->W.heap.size≤r->r < W'.heap.size->cx'.held r->W'.heap[r]?=some (.deferred (some []))->D W' cx' { a with defers:=Xc r :: a.defers }
 | some l=>∀ W cx a,D W cx a->∃ rc,W.heap[l]?=some (.loop rc)
def iS (ro:Option Nat) (D:DP):Code->Prop
 | .region _ ops _=>∀ (i:Nat) (o:Oper),ops[i]?=some o->iU D o.dst
 | .seq a b=>iS ro D a∧iS ro D b
 | .cond _ a b=>iS ro D a∧iS ro D b
 | .block _ a=>iS ro D a
 | .loop a=>iS ro D a
 | .scope a=>iS ro D a
 | .rangeFunc ..=>nJ ro D
 | _=>True
theorem g8 {ro:Option Nat} {D:DP} (h:∀ d,iU D d) (hr:nJ ro D):∀ c,iS ro D c
 | .region _ ops _=>fun _ _ _=>h _
 | .seq a b=>⟨g8 h hr a,g8 h hr b⟩
 | .cond _ a b=>⟨g8 h hr a,g8 h hr b⟩
 | .block _ a=>g8 h hr a
 | .loop a=>g8 h hr a
 | .scope a=>g8 h hr a
 | .rangeFunc ..=>hr
 | .skip | .exit _ | .label _ | .goto _ | .ret | .refuse _=>trivial
def D0 (n0:Nat):DP:=fun W cx a=>n0≤W.heap.size∧∃ rs:List Nat,a.defers=rs.map Xc∧rs.Nodup∧∀ r∈rs,n0≤r∧r < W.heap.size∧cx.held r∧W.heap[r]?=some (.deferred (some []))
theorem D0.mono (n0:Nat):Md (D0 n0):=fun W cx a W' cx' he h=>by
 obtain ⟨h0,rs,h1,h2,h3⟩:=h
 refine ⟨Nat.le_trans h0 he.sz,rs,h1,h2,fun r hr=>?_⟩
 obtain ⟨h4,h5,h6,h7⟩:=h3 r hr
 obtain ⟨h8,h9⟩:=he.hold r h5 h6
 exact ⟨h4,Nat.lt_of_lt_of_le h5 he.sz,h8,h9.trans h7⟩
theorem D0.stab (n0:Nat) (d:Option Tmp):iU (D0 n0) d:=fun W cx a v h=>by
 obtain ⟨h0,rs,h1,h2⟩:=h
 exact ⟨h0,rs,by rw [bB]; exact h1,h2⟩
theorem D0.push (n0:Nat):nJ none (D0 n0):=fun W cx a W' cx' r hd he hr hlt hh hb=>by
 obtain ⟨h0,rs,h1,h2,h3⟩:=D0.mono n0 _ _ _ _ _ he hd
 obtain ⟨h0',rs',h1',_,h3'⟩:=hd
 have:∀ r'∈rs,r' < W.heap.size:=fun r' hr'=>by
  have e:rs=rs':=by
   have inj:∀ (l l':List Nat),l.map Xc=l'.map Xc->l=l':=by
    intro l
    induction l with
    | nil=>intro l' e; cases l' <;> simp at e; rfl
    | cons x l ih=>intro l' e; cases l' with
     | nil=>simp at e
     | cons y l'=>simp [Xc] at e; rw [e.1,ih l' (by simpa [Xc] using e.2)]
   exact inj _ _ (h1.symm.trans h1')
  exact (h3' r' (e ▸ hr')).2.1
 refine ⟨h0,r :: rs,by show Xc r :: a.defers=_; rw [h1]; rfl,List.nodup_cons.2 ⟨fun hm=>by have:=this r hm; omega,h2⟩,fun r' hr'=>?_⟩
 rcases List.mem_cons.1 hr' with rfl | hr'
 . exact ⟨by omega,hlt,hh,hb⟩
 . exact h3 r' hr'
theorem Hs (l:List Oper) (hn:Dh l=true):∀ o∈l,Mh o:=fun o ho c e=>by
 have:=List.all_eq_true.1 hn o ho
 rw [e] at this
 cases this
end
end Go.AM
/-
 The abstract machine: pieces of regions; an iterator that hands elements on,walked.
-/
namespace Go.AM
def Me (E:Env) (P:Program) (ih:I0):Prop :=
 ∀ (S:Act->Prop) (ops:Array Oper) (l:List Oper) (Q:Exit->Act->World->Prop) (W:World) (cx:Cx) (a:Act) (fr:Tr) (h:Heap),
   (∀ o∈l,gE S o.dst)->FrRep W cx a.tmps fr->S a->Sat E W cx h->ih (Ab ops.toList l) fr h ≠ .bad ->
     (∀ o∈l,Mh o)∧((∀ x a' w',(ih (Ab ops.toList l) fr h).Post E W cx S x a' w'->Q x a' w')->wpList P ops Q l a W)
def Aj (E:Env) (P:Program) (ih:I0):Prop :=
 ∀ (ro:Option Nat) (D:DP) (c:Code) (W:World) (cx:Cx) (a:Act) (fr:Tr) (h:Heap),Md D->iS ro D c->FrRep W cx a.tmps fr->D W cx a->Sat E W cx h->ih (xc c) fr h ≠ .bad ->
   c.wpIn (WF ro) 0 P (U0 E W cx D (ih (xc c) fr h)) a W
section
variable {P:Program} {E:Env} {ih:I0}
theorem isNone_none {α:Type} {o:Option α} (h:isNone o=true):o=none:=by cases o; rfl; cases h
section
variable {W0 W W':World} {cx0 cx cx':Cx} {ro:Option Nat} {l:Nat} {st st':Loop} {h:Heap}
end
section
variable {W0:World} {cx0:Cx} {ro:Option Nat} {l nt:Nat} {mk:LoopState->Option Code->Loop} {Y:List AV->Heap->CRes}
end
end
end Go.AM
/-
 The abstract machine: a range over a function,walked.
-/
namespace Go.AM
section
variable {P:Program} {E:Env} {ih:I0}
theorem orM_itf {x:Option FM} {y:FM} {m:FM} (h:GK x y=m):x=some m∨(x=none∧y=m):=by
 cases x with
 | none=>exact .inr ⟨rfl,h⟩
 | some z=>cases h; exact .inl rfl
theorem Xd {c:Code} {m:FM} (h:Ia c=some m):∃ id o o' rest d d2 ops,c=.seq (.region id ops false) rest∧ops.toList=[o,o']∧isRc o=some d∧isAs d o'=some d2∧U2 [] rest=true∧m=.rcv d d2 (xc rest):=by
 unfold Ia at h
 split at h
 . rename_i id ops rest
   split at h
   . rename_i o o' ho
     cases h1:isRc o with
     | none=>rw [h1] at h; cases h
     | some d =>
      rw [h1] at h
      dsimp only at h
      cases h2:isAs d o' with
      | none=>rw [h2] at h; cases h
      | some d2 =>
       rw [h2] at h
       dsimp only at h
       cases h3:U2 [] rest with
       | false=>rw [h3] at h; cases h
       | true=>rw [h3] at h; cases h; exact ⟨id,o,o',rest,d,d2,ops,rfl,ho,h1,h2,h3,rfl⟩
   . cases h
 . cases h
theorem Xe {rs:List ResultVar} {x:DfC} {m:FM} (h:Ea rs x=some m):∃ o r g,x.ops.toList.reverse=o :: r∧isDf o=some g∧dK [] r.reverse=true∧x.pre.all (U2 [])=true∧U2 (rs.map Au) x.rest=true∧m=.dfr (x.pre.map xc ++ [Ab x.ops.toList r.reverse]) g (xc x.rest):=by
 unfold Ea at h
 split at h
 . cases h
 . rename_i o r ho
   cases h1:isDf o with
   | none=>rw [h1] at h; cases h
   | some g =>
    rw [h1] at h
    dsimp only at h
    cases h2:(dK [] r.reverse && x.pre.all (U2 []) && U2 (rs.map Au) x.rest) with
    | false=>rw [h2] at h; cases h
    | true =>
     rw [h2] at h; cases h
     simp only [Bool.and_eq_true] at h2
     exact ⟨o,r,g,ho,h1,h2.1.1,h2.1.2,h2.2,rfl⟩
theorem wS {rs:List ResultVar} {c:Code} {m:FM} (h:(bif Dg rs then Ia c else none)=some m):Dg rs=true∧Ia c=some m:=by
 cases hn:Dg rs with
 | false=>rw [hn] at h; cases h
 | true=>rw [hn] at h; exact ⟨rfl,h⟩
theorem wT {rs:List ResultVar} {c:Code} {m:FM} (h:(match parseI c with | some x=>bif Dg rs && handsI x then some (.itf x) else none | none=>none)=some m):∃ x,parseI c=some x∧Dg rs=true∧m=.itf x:=by
 cases hp:parseI c with
 | none=>rw [hp] at h; cases h
 | some x =>
  rw [hp] at h
  dsimp only at h
  cases hn:(Dg rs && handsI x) with
  | false=>rw [hn] at h; cases h
  | true =>
   rw [hn] at h
   cases h
   rw [Bool.and_eq_true] at hn
   exact ⟨x,rfl,hn.1,rfl⟩
theorem wU {rs:List ResultVar} {c:Code} {m:FM} (h:(match parseD c with | some x=>Ea rs x | none=>none)=some m):∃ x,parseD c=some x∧Ea rs x=some m:=by
 cases hp:parseD c with
 | none=>rw [hp] at h; cases h
 | some x=>rw [hp] at h; exact ⟨x,rfl,h⟩
theorem fmOf_cases {rs:List ResultVar} {c:Code} {m:FM} (h:fmOf rs c=m) :
 (Dg rs=true∧Ia c=some m)∨(∃ x,parseD c=some x∧Ea rs x=some m)∨(∃ x,parseI c=some x∧Dg rs=true∧m=.itf x)∨m=.plain:=by
 unfold fmOf at h
 rcases orM_itf h with h | ⟨_,h⟩
 . exact .inl (wS h)
 . rcases orM_itf h with h | ⟨_,h⟩
   . exact .inr (.inl (wU h))
   . rcases orM_itf h with h | ⟨_,h⟩
     . exact .inr (.inr (.inl (wT h)))
     . exact .inr (.inr (.inr h.symm))
theorem iV {l:List AV} (h:dH l=true):l=[]:=by cases l; rfl; cases h
theorem fM (hE:EnvOk E P) (hc:Aj E P ih) (hl:Me E P ih) {ro:Option Nat} {D:DP} {g:Operand} {ps:Array Tmp} {ca cb:Code} {W:World} {cx:Cx} {a:Act} {fr:Tr} {h:Heap} (hD:Md D) (hst:nJ ro D) (hf:FrRep W cx a.tmps fr) (hd:D W cx a) (hs:Sat E W cx h)
 (hb:uI E ih ps.toList (xc ca) (xc cb) fr h (opv E g fr) ≠ .bad):(Code.rangeFunc g ps ca cb).wpIn (WF ro) 0 P (U0 E W cx D (uI E ih ps.toList (xc ca) (xc cb) fr h (opv E g fr))) a W:=absurd rfl hb
end
end Go.AM
/-
 The abstract machine: functions that defer a call which recovers; calls; code.
-/
namespace Go.AM
section
variable {P:Program} {E:Env}
theorem fN {E:Env} {rs:List ResultVar} {fr:Tr} {h:Heap} (hb:Jp (F6 E rs fr h) h ≠ .bad):∃ vs,F6 E rs fr h=some vs∧Jp (F6 E rs fr h) h=.ok (oneOrTup vs) h:=by
 cases hr:F6 E rs fr h with
 | none=>rw [hr] at hb; exact absurd rfl hb
 | some vs=>exact ⟨vs,rfl,rfl⟩
theorem Ak {cx:Cx} {fn:Func} {tmps:Array Value} {R:Ending->World->Prop} {J:World->Prop} {n0:Nat} {u:FrameMode} (hu:u ≠ .run)
 (hJ:∀ W r,J W->n0≤r->cx.held r->W.heap[r]?=some (.deferred (some []))->J (W.putObj r (.deferred none)))
 (hend:∀ W,J W->LeavesInM (WF none) 0 P fn tmps R [] u W):∀ (rs:List Nat) (W:World),rs.Nodup->(∀ r∈rs,n0≤r∧cx.held r∧W.heap[r]?=some (.deferred (some [])))->J W->LeavesInM (WF none) 0 P fn tmps R (rs.map Xc) u W
 | [],W,_,_,hj=>hend W hj
 | r :: rs,W,hn,hr,hj=>by
  obtain ⟨h1,h2,h3⟩:=hr r (List.mem_cons_self ..)
  obtain ⟨hnr,hn⟩:=List.nodup_cons.1 hn
  refine ⟨hu,.inl ⟨r,_,rfl,run_takeDeferred h3,?_⟩⟩
  refine Ak hu hJ hend rs _ hn (fun r' hr'=>?_) (hJ W r hj h1 h2 h3)
  obtain ⟨h4,h5,h6⟩:=hr r' (List.mem_cons_of_mem _ hr')
  exact ⟨h4,h5,(World.putObj_heap_other fun e=>hnr (by subst e; exact hr')).trans h6⟩
theorem nK {x:Option (List Deferred)}:Ld (.deferred x):=fun _ _ _ e=>by cases e
theorem Mf (hE:EnvOk E P) {ih:I0} (hc:Aj E P ih) {f:Nat} {fn:Func} {c:Code} (h1:P.funcs[f]?=some fn) (h2:fn.body=some c) {args:Array Value} {l:List AV} {W:World} {cx:Cx} {h:Heap} (hl:RepL W cx args.toList l) (hn:l.length≤fn.ntmps) (hs:Sat E W cx h)
 (hb:J7 E fn.results.toList (ih (xc c) (Tr.enter fn.ntmps l) h) ≠ .bad):Calls P f args W ((J7 E fn.results.toList (ih (xc c) (Tr.enter fn.ntmps l) h)).Post E W cx):=by
 have hfr:=Rw hl hn
 have hb1:ih (xc c) (Tr.enter fn.ntmps l) h ≠ .bad:=fun e=>by rw [e] at hb; exact hb rfl
 refine Ue.1 (callsIn_of_wp_marks (F:=WF none) (n:=0) h1 h2 trivial (wpIn_mono (hc none (D0 W.heap.size) c W cx ⟨_,[]⟩ _ h (D0.mono _) (g8 (D0.stab _) (D0.push _) c) hfr ⟨Nat.le_refl _,[],rfl,List.nodup_nil,by simp⟩ hs hb1) fun x a w hp=>?_) rfl)
 obtain ⟨cx',he,⟨h0,rs,hrs,hnd,hmk⟩,hp⟩:=hp
 have hmk':∀ r∈rs,W.heap.size≤r∧cx'.held r∧w.heap[r]?=some (.deferred (some [])):=fun r hr=>by obtain ⟨a1,a2,a3,a4⟩:=hmk r hr; exact ⟨a1,a3,a4⟩
 generalize ih (xc c) (Tr.enter fn.ntmps l) h=r at *
 cases r with
 | bad=>exact absurd rfl hb1
 | pan v h' =>
  obtain ⟨vv,rfl,h7,h8⟩:=hp
  show LeavesInM (WF none) 0 P fn a.tmps _ a.defers (.panicking _) w
  rw [hrs]
  refine Ak (J:=fun w=>Ext W cx w cx'∧Sat E w cx' h'∧Rep w cx' vv v) (fun e=>by cases e) (fun w r hj hr1 hr2 hr3=>?_) (fun w hj=>?_) rs w hnd hmk' ⟨he,h7,h8⟩
  . have e0:=Ext0.putHeld (o:=.deferred none) hj.2.1 hr2 hr3 nK nK
    exact ⟨hj.1.putHi hr1 e0,hj.2.1.putHeld hr2 e0,hj.2.2.mono0 e0⟩
  . exact ⟨cx',vv,rfl,hj.1,hj.2.1,hj.2.2⟩
 | ok e fr h' =>
  obtain ⟨rfl,h7,h8⟩:=hp
  have key:Jp (F6 E fn.results.toList fr h') h' ≠ .bad->LeavesInM (WF none) 0 P fn a.tmps ((Jp (F6 E fn.results.toList fr h') h').Post E W cx) a.defers .returning w:=by
   intro hb
   obtain ⟨vs,hr,hr'⟩:=fN hb
   rw [hrs,hr']
   refine Ak (J:=fun w=>Ext W cx w cx'∧Sat E w cx' h'∧FrRep w cx' a.tmps fr) (fun e=>by cases e) (fun w r hj hr1 hr2 hr3=>?_) (fun w hj=>?_) rs w hnd hmk' ⟨he,h7,h8⟩
   . have e0:=Ext0.putHeld (o:=.deferred none) hj.2.1 hr2 hr3 nK nK
     exact ⟨hj.1.putHi hr1 e0,hj.2.1.putHeld hr2 e0,hj.2.2.mono0 e0⟩
   . obtain ⟨v,h9,h10⟩:=Qr (P:=P) hE hj.2.1 (fun x _=>hj.2.2.rep _) hr
     exact ⟨v,h9,cx',hj.1,hj.2.1,h10⟩
  cases e with
  | exit i=>exact absurd rfl hb
  | normal=>exact key hb
  | ret=>exact key hb
theorem fO (hE:EnvOk E P) {f:Nat} (ht:E.told f=true) {args:Array Value} {l:List AV} {W:World} {cx:Cx} {h:Heap} (hl:RepL W cx args.toList l) (hs:Sat E W cx h) (hb:toldA l h ≠ .bad) :
 (∃ fn c, P.funcs[f]? = some fn ∧ fn.body = some c ∧ (fn.name == "runtime.NumGoroutine") = false) ∧ Calls P f args W ((toldA l h).Post E W cx) := by
 obtain ⟨g,fn,c,hg,h1,h2,h3,h4⟩:=hE.told f ht
 refine ⟨⟨fn,c,h1,h2,h3⟩,?_⟩
 obtain ⟨⟨m,hm⟩,_,_⟩:=hs.gl.int g hg
 cases l with
 | nil=>exact absurd rfl hb
 | cons x r =>
  cases r with
  | nil=>exact absurd rfl hb
  | cons y r =>
   have e:toldA (x :: y :: r) h=bif dH r then x.onStr .bad (fun s=>y.onStr .bad fun p=>bif Nat.ble (X1 s) 4000000000 || oneB p then (match contS p s with | true=>.ok (.bool true) h | false=>.ok (.bool false) h) else .bad) else .bad:=rfl
   rw [e] at hb ⊢
   cases hn:dH r with
   | false=>rw [hn] at hb; exact absurd rfl hb
   | true =>
    rw [hn] at hb
    have:=iV hn
    subst this
    simp only [cond_true] at hb ⊢
    cases x with
    | str s =>
     cases y with
     | str p =>
      have hb:(bif Nat.ble (X1 s) 4000000000 || oneB p then (match contS p s with | true=>Res.ok (.bool true) h | false=>.ok (.bool false) h) else .bad) ≠ .bad:=hb
      show Calls P f args W ((bif Nat.ble (X1 s) 4000000000 || oneB p then (match contS p s with | true=>Res.ok (.bool true) h | false=>.ok (.bool false) h) else .bad).Post E W cx)
      cases hle:(Nat.ble (X1 s) 4000000000 || oneB p) with
      | false=>rw [hle] at hb; exact absurd rfl hb
      | true =>
       have hle:s.length≤4000000000∨p.length=1:=by
        rcases Bool.or_eq_true_iff.1 hle with h1 | h1
        . have h1:=C5 h1
          rw [Y0] at h1
          exact .inl h1
        . cases p with
          | nil=>cases h1
          | cons a q=>cases q with
           | nil=>exact .inr rfl
           | cons b q=>cases h1
       obtain ⟨v1,hv1,hr1⟩:=hl.get (i:=0) rfl
       obtain ⟨v2,hv2,hr2⟩:=hl.get (i:=1) rfl
       obtain ⟨s',rfl,hs'⟩:=hr1.str_inv
       obtain ⟨p',rfl,hp'⟩:=hr2.str_inv
       have hargs:args=#[.string s',.string p']:=by
        have hlen:args.size=2:=by have:=hl.1; simpa using this
        apply Array.ext_getElem?
        intro i
        match i with
        | 0=>simpa using hv1
        | 1=>simpa using hv2
        | i + 2=>simp [hlen]
       subst hargs
       have hsz:s'.size < 4294967281∨p'.size=1:=by
        rcases hle with hle | hle
        . have:s'.size=s'.data.toList.length:=by simp
          exact .inl (by rw [this,hs']; omega)
        . have:p'.size=p'.data.toList.length:=by simp
          exact .inr (by rw [this,hp']; exact hle)
       refine (h4 s' p' m W hsz hm).mono fun en w' he=>?_
       obtain ⟨rfl,rfl⟩:=he
       simp only [cond_true]
       rw [hs',hp']
       cases contS p s with
       | true=>exact ⟨cx,Ext.refl _ _,hs,.bool _⟩
       | false=>exact ⟨cx,Ext.refl _ _,hs,.bool _⟩
     | _=>exact absurd rfl hb
    | _=>exact absurd rfl hb
inductive Mode:FrameMode->FrameMode->Value->Prop
 | ret:Mode .returning .returning .nilIface
 | pan (v:Value):Mode (.panicking [{ v:=v,recovered:=false }]) (.panicking [{ v:=v,recovered:=true }]) v
end
end Go.AM
/-
 The abstract machine: maps.DeleteFunc,told of: its predicate is called at each entry,in whatever order.
-/
namespace Go.AM
section
variable {P:Program} {E:Env}
theorem iW (hE:EnvOk E P) {ih:I0} (hc:Aj E P ih) (hpr:∀ (c:XC) (fr:Tr) (h h':Heap),CRes.heap (ih c fr h)=some h'->Pres h h') {f:Nat} {ks:List Nat} (hd:E.dlf f=some ks) {args:Array Value} {l:List AV} {W:World} {cx:Cx} {h:Heap}
 (hl:RepL W cx args.toList l) (hs:Sat E W cx h) (hb:aR E ih ks l h ≠ .bad):Fi P f∧Calls P f args W ((aR E ih ks l h).Post E W cx):=absurd rfl hb
end
end Go.AM
/-
 The abstract machine: slices.Sorted at a map's keys,told of.
-/
namespace Go.AM
section
variable {P:Program} {E:Env}
theorem iX (hE:EnvOk E P) {f:Nat} {args:Array Value} {l:List AV} {W:World} {cx:Cx} {h:Heap} {r:Res}
 (hl:RepL W cx args.toList l) (hs:Sat E W cx h) (hr:srtA E f l h=some r) (hb:r ≠ .bad):Fi P f∧Calls P f args W (r.Post E W cx):=by cases hr
end
end Go.AM
/-
 The abstract machine: maps.DeleteFunc: its loop,step by step,over whatever is kept.
-/
namespace Go.AM
open Go.Maps (Keyed)
section
variable {P:Program} {W:World} {b clock:Nat} {ents:Array MapEntry} {J:World->Prop} {K K':MapEntry->Prop} {seen:Array Nat} {n:Nat} {wr:World} {pd:MapEntry->Bool}
variable {ops:Array Oper} {rest:List Oper} {o:Oper} {a:Act} {Q:Exit->Act->World->Prop}
end
end Go.AM
/-
 The abstract machine: a range over a map in the code: whichever entry comes next,it comes to the same.
-/
namespace Go.AM
section
variable {P:Program} {E:Env} {ih:I0}
end
end Go.AM
/-
 The abstract machine: a range over a map in the code: what stands there,and that it is sound.
-/
namespace Go.AM
section
variable {P:Program} {E:Env} {ih:I0}
theorem uE {a b:Code} (h:rngC a b=none):xc (.seq a b)=.seq (xc a) (xc b):=by
 show (match rngC a b with | some R=>XC.rngm R (xc b) | none=>.seq (xc a) (xc b))=_
 rw [h]
theorem uF {a b:Code} {R:RngD} (h:rngC a b=some R):xc (.seq a b)=.rngm R (xc b):=by
 show (match rngC a b with | some R=>XC.rngm R (xc b) | none=>.seq (xc a) (xc b))=_
 rw [h]
end
end Go.AM
/-
 The abstract machine: a range over a map in the code is sound.
-/
namespace Go.AM
section
variable {P:Program} {E:Env} {ih:I0} {ops:Array Oper} {rest:List Oper} {o:Oper} {a:Act} {w:World} {Q:Exit->Act->World->Prop}
theorem fP (hE:EnvOk E P) (hc:Aj E P ih) (hpr:∀ (c:XC) (fr:Tr) (h h':Heap),CRes.heap (ih c fr h)=some h'->Pres h h') {ro:Option Nat} {D:DP} (hD:Md D) {ca cb:Code} {R:RngD} (hR:rngC ca cb=some R)
 (hst:iS ro D (.seq ca cb)) {W:World} {cx:Cx} {a:Act} {fr:Tr} {h:Heap} (hf:FrRep W cx a.tmps fr) (hd:D W cx a) (hs:Sat E W cx h) (hb:Sa E ih R (xc cb) fr h ≠ .bad) :
 (Code.seq ca cb).wpIn (WF ro) 0 P (U0 E W cx D (Sa E ih R (xc cb) fr h)) a W:=absurd rfl hb
end
end Go.AM
/-
 The abstract machine: calls and code.
-/
namespace Go.AM
section
variable {P:Program} {E:Env}
theorem Ji:∀ (c:Code) (x:DfC),parseD c=some x->c=x.code
 | .seq a b,x,h=>by
  have go:∀ (a:Code),(parseD b).map (fun x=>(⟨a :: x.pre,x.id,x.ops,x.rest⟩:DfC))=some x->Code.seq a b=x.code:=fun a h=>by
   cases hb:parseD b with
   | none=>rw [hb] at h; cases h
   | some y =>
    rw [hb] at h
    cases h
    show Code.seq a b=.seq a (y.code)
    rw [← Ji b y hb]
  cases a with
  | region id ops draw =>
   cases draw with
   | true=>exact go _ h
   | false =>
    have h:(bif aS ops.toList then some ⟨[],id,ops,b⟩ else (parseD b).map fun x=>⟨.region id ops false :: x.pre,x.id,x.ops,x.rest⟩)=some x:=h
    cases hh:aS ops.toList with
    | true=>rw [hh] at h; cases h; rfl
    | false=>rw [hh] at h; exact go _ h
  | _=>exact go _ h
 | .skip,_,h | .region ..,_,h | .cond ..,_,h | .block ..,_,h | .loop ..,_,h | .scope ..,_,h | .rangeFunc ..,_,h | .label ..,_,h | .goto ..,_,h | .exit ..,_,h | .ret,_,h | .refuse ..,_,h=>by cases h
theorem nL (hE:EnvOk E P) {ih:I0} (hc:Aj E P ih) (hl:Me E P ih) {fn:Func} {x:DfC} {o:Oper} {r:List Oper} {g:Operand} (hops:x.ops.toList=r.reverse ++ [o]) (ho:isDf o=some g) (hcalm:dK [] r.reverse=true) (hrest:U2 (fn.results.toList.map Au) x.rest=true)
 {W0:World} {cx0:Cx}:∀ (L:List Code) (a:Act) (W:World) (cx:Cx) (fr:Tr) (h:Heap),L.all (U2 [])=true->Ext W0 cx0 W cx->FrRep W cx a.tmps fr->a.defers=[]->Sat E W cx h ->
 gA E ih g (xc x.rest) fn.results.toList (L.map xc ++ [Ab x.ops.toList r.reverse]) fr h ≠ .bad ->
 (L.foldr Code.seq (.seq (.region x.id x.ops false) x.rest)).wpIn (WF none) 0 P (bodyPostM (WF none) 0 P fn ((gA E ih g (xc x.rest) fn.results.toList (L.map xc ++ [Ab x.ops.toList r.reverse]) fr h).Post E W0 cx0)) a W
 | [],_,_,_,_,_,_,_,_,_,_,hb=>absurd rfl hb
 | _ :: _,_,_,_,_,_,_,_,_,_,_,hb=>absurd rfl hb
theorem Xf (hE:EnvOk E P) {ih:I0} (hc:Aj E P ih) (hl:Me E P ih) (hpr:∀ (c:XC) (fr:Tr) (h h':Heap),CRes.heap (ih c fr h)=some h'->Pres h h'):Bb E P (M1 E ih):=by
 intro f args l W cx h hv hs hb
 unfold M1 at hb ⊢
 cases ht:E.told f with
 | true=>rw [ht] at hb; exact fO hE ht hv hs hb
 | false =>
  rw [ht] at hb
  simp only [cond_false] at hb ⊢
  cases hdf:E.dlf f with
  | some ks=>rw [hdf] at hb; exact iW hE hc hpr hdf hv hs hb
  | none =>
   rw [hdf] at hb
   dsimp only at hb ⊢
   cases hsr:srtA E f l h with
   | some r=>rw [hsr] at hb; exact iX hE hv hs hsr hb
   | none =>
    rw [hsr] at hb
    dsimp only at hb ⊢
    cases hfi:E.fn f with
    | none=>rw [hfi] at hb; exact absurd rfl hb
    | some fi =>
     rw [hfi] at hb
     obtain ⟨fn,c,h1,h2,h3,h4,h5,h6,h7⟩:=hE.fn f fi hfi
     refine ⟨⟨fn,c,h1,h2,h3⟩,?_⟩
     dsimp only at hb ⊢
     cases hn:Nat.ble (lenL l) fi.ntmps with
     | false=>rw [hn] at hb; exact absurd rfl hb
     | true =>
      rw [hn] at hb
      simp only [cond_true] at hb ⊢
      have hn:=C5 hn
      rw [A6] at hn
      unfold Mp at hb ⊢
      cases hm:fi.mode with
      | rcv d d2 rest=>rw [hm] at hb; exact absurd rfl hb
      | plain =>
       rw [hm] at hb
       dsimp only at hb ⊢
       rw [h4,h5,h6] at hb ⊢
       rw [h5] at hn
       exact Mf hE hc h1 h2 hv hn hs hb
      | itf ic =>
       rw [hm] at hb
       dsimp only at hb ⊢
       rw [h4,h5,h6] at hb ⊢
       rw [h5] at hn
       exact Mf hE hc h1 h2 hv hn hs hb
      | dfr pre g rest =>
       rw [hm] at hb h7
       dsimp only at hb ⊢
       have ⟨x,hx1,hx2⟩:∃ x,parseD c=some x∧Ea fn.results.toList x=some (.dfr pre g rest):=by
        rcases fmOf_cases h7.symm with ⟨_,h⟩ | h | ⟨x,_,_,h⟩ | h
        . obtain ⟨_,_,_,_,_,_,_,_,_,_,_,_,h⟩:=Xd h; cases h
        . exact h
        . cases h
        . cases h
       obtain ⟨o,r,g',hops,ho,hcalm,hpre,hrest,hrr⟩:=Xe hx2
       cases hrr
       have hcode:=Ji c x hx1
       have hops':x.ops.toList=r.reverse ++ [o]:=by
        have:=congrArg List.reverse hops
        simpa using this
       rw [h5,h6] at hb ⊢
       rw [h5] at hn
       have hfr:=Rw hv hn
       refine Ue.1 (callsIn_of_wp_marks (F:=WF none) (n:=0) h1 h2 trivial ?_ rfl)
       rw [hcode]
       exact nL hE hc hl hops' ho hcalm hrest x.pre ⟨_,[]⟩ W cx _ h hpre (Ext.refl _ _) hfr rfl hs hb
theorem Sat.sub {P:Program} {E:Env} {W:World} {cx:Cx} {h h':Heap} (hs:Sat E W cx h) (hn:h'.next=h.next) (hg:∀ id o,h'.get id=some o->h.get id=some o):Sat E W cx h' where
 nx:=hn.trans hs.nx
 objs id o ho:=hs.objs id o (hg id o ho)
 inj id id' o o' ho ho':=hs.inj id id' o o' (hg id o ho) (hg id' o' ho')
 gl:=hs.gl
 held:=hs.held
 free id o ho:=hs.free id o (hg id o ho)
theorem dE (hE:EnvOk E P) {ih:I0} (hc:Aj E P ih) (hl:Me E P ih) (hpr:∀ (c:XC) (fr:Tr) (h h':Heap),CRes.heap (ih c fr h)=some h'->Pres h h'):Bb E P (E8 E ih):=by
 intro f args l W cx h hv hs hb
 unfold E8 at hb ⊢
 cases hg:E.gc f with
 | false=>rw [hg] at hb; exact Xf hE hc hl hpr f args l W cx h hv hs hb
 | true =>
  rw [hg] at hb
  have hb:GJ h (M1 E ih f l { h with tch:=[] }) ≠ .bad:=hb
  show _∧Calls P f args W ((GJ h (M1 E ih f l { h with tch:=[] })).Post E W cx)
  have h0:=Xf hE hc hl hpr f args l W cx { h with tch:=[] } hv (hs.sub (P:=P) rfl fun _ _ ho=>ho) (fun e=>hb (by rw [e]; rfl))
  refine ⟨h0.1,h0.2.mono fun e w hp=>?_⟩
  cases hq:M1 E ih f l { h with tch:=[] } with
  | bad=>rw [hq] at hb; exact absurd rfl hb
  | pan v h1=>rw [hq] at hb; exact absurd rfl hb
  | ok v h1 =>
   rw [hq] at hp
   cases e with
   | returned vv =>
    obtain ⟨cx',h1',h2,h3⟩:=hp
    refine ⟨cx',h1',h2.sub (P:=P) rfl fun id o ho=>?_,h3⟩
    have ho:(h.os.trunc h1.os).get id=some o:=ho
    show h1.os.get id=some o
    rcases HT.get_trunc h.os h1.os id with e1 | ⟨e1,_⟩
    . rw [← e1]; exact ho
    . rw [e1] at ho; cases ho
   | panicked c=>exact hp.elim
   | outgrown=>exact hp.elim
theorem Xg {b:Tr->Heap->CRes} {r:CRes} (h:Af b r ≠ .bad):r ≠ .bad:=fun e=>by rw [e] at h; exact h rfl
theorem Xh {W:World} {cx:Cx} {D:DP} {r:CRes} {b:Tr->Heap->CRes} {K:Act->World->Prop} (hb:Af b r ≠ .bad)
 (hK:∀ fr' h' cx' a' w',r=.ok .normal fr' h'->Ext W cx w' cx'->Sat E w' cx' h'->FrRep w' cx' a'.tmps fr'->D w' cx' a'->K a' w'):∀ x a' w',U0 E W cx D r x a' w'->Exit.then K (U0 E W cx D (Af b r)) x a' w':=by
 intro x a' w' hp
 obtain ⟨cx',he,hd,hp⟩:=hp
 cases r with
 | bad=>exact hp.elim
 | pan v h' =>
  obtain ⟨vv,rfl,h1,h2⟩:=hp
  exact ⟨cx',he,hd,vv,rfl,h1,h2⟩
 | ok e fr h' =>
  obtain ⟨rfl,h1,h2⟩:=hp
  cases e with
  | normal=>exact hK fr h' cx' a' w' rfl he h1 h2 hd
  | exit i=>exact ⟨cx',he,hd,rfl,h1,h2⟩
  | ret=>exact ⟨cx',he,hd,rfl,h1,h2⟩
theorem Ud {W:World} {cx:Cx} {D:DP} {r:CRes} {l:Nat} {a:Act} {w:World} (hp:U0 E W cx D r (.goto l) a w):False:=by
 obtain ⟨cx',_,_,hp⟩:=hp
 cases r with
 | bad=>exact hp.elim
 | pan v h'=>obtain ⟨vv,e,_⟩:=hp; cases e
 | ok e fr' h'=>obtain ⟨e2,_⟩:=hp; cases e <;> cases e2
theorem Mg (hE:EnvOk E P):∀ n,Aj E P (ev E n) ∧
 (∀ (ro:Option Nat) (D:DP) (c:Code) (W:World) (cx:Cx) (a:Act) (fr:Tr) (h:Heap),Md D->iS ro D c->FrRep W cx a.tmps fr->D W cx a->Sat E W cx h->ev E n (.loop (xc c)) fr h ≠ .bad->Code.roundsIn (WF ro) 0 P c (U0 E W cx D (ev E n (.loop (xc c)) fr h)) n a W) ∧
 Me E P (ev E n)
 | 0=>⟨fun ro D c W cx a fr h _ _ _ _ _ hb=>absurd rfl hb,fun ro D c W cx a fr h _ _ _ _ _ hb=>absurd rfl hb,fun S ops l Q W cx a fr h _ _ _ _ hb=>absurd rfl hb⟩
 | n + 1=>by
  obtain ⟨ihc,ihl,ihp⟩:=Mg hE n
  have hcall:=dE hE ihc ihp (o8 E n)
  have round:∀ (ro:Option Nat) (D:DP) (c:Code) (W:World) (cx:Cx) (a:Act) (fr:Tr) (h:Heap),Md D->iS ro D c->FrRep W cx a.tmps fr->D W cx a->Sat E W cx h->ev E (n + 1) (.loop (xc c)) fr h ≠ .bad->Code.roundsIn (WF ro) 0 P c (U0 E W cx D (ev E (n + 1) (.loop (xc c)) fr h)) (n + 1) a W:=by
   intro ro D c W cx a fr h hD hst hf hd hs hb
   have e:ev E (n + 1) (.loop (xc c)) fr h=Af (ev E n (.loop (xc c))) (ev E n (xc c) fr h):=rfl
   rw [e] at hb ⊢
   rw [roundsIn_succ]
   refine wpIn_mono (ihc ro D c W cx a fr h hD hst hf hd hs (Xg hb)) (Xh hb fun fr' h' cx' a' w' e1 h1 h2 h3 h4=>?_)
   rw [e1] at hb ⊢
   have hb:ev E n (.loop (xc c)) fr' h' ≠ .bad:=hb
   have:=ihl ro D c w' cx' a' fr' h' hD hst h3 h4 h2 hb
   have mono:∀ m a w Q Q',(∀ x a w,Q x a w->Q' x a w)->Code.roundsIn (WF ro) 0 P c Q m a w->Code.roundsIn (WF ro) 0 P c Q' m a w:=by
    intro m
    induction m with
    | zero=>intro a w Q Q' _ h; exact h
    | succ m ih =>
     intro a w Q Q' hq h
     exact wpIn_mono h fun x a w hx=>by cases x <;> first | exact ih _ _ _ _ hq hx | exact hq _ _ _ hx
   exact mono n a' w' _ _ (fun x a w hp=>U0.trans h1 hp) this
  refine ⟨fun ro D c W cx a fr h hD hst hf hd hs hb=>?_,round,fun S ops l Q W cx a fr h hst hf hS hs hb=>?_⟩
  . cases c with
    | skip=>exact wpIn_skip ⟨cx,Ext.refl _ _,hd,rfl,hs,hf⟩
    | ret=>exact wpIn_ret ⟨cx,Ext.refl _ _,hd,rfl,hs,hf⟩
    | exit id=>exact wpIn_exit ⟨cx,Ext.refl _ _,hd,rfl,hs,hf⟩
    | label l=>exact wpIn_label ⟨cx,Ext.refl _ _,hd,rfl,hs,hf⟩
    | scope x =>
     have e:ev E (n + 1) (xc (.scope x)) fr h=ev E n (xc x) fr h:=rfl
     rw [e] at hb ⊢
     refine aK (wpIn_mono (ihc ro D x W cx a fr h hD hst hf hd hs hb) fun x' a' w' hp=>?_)
     cases x' with
     | goto l=>exact (Ud hp).elim
     | _=>exact hp
    | region id ops draw =>
     cases draw with
     | false =>
      have e:ev E (n + 1) (xc (.region id ops false)) fr h=step E (ev E n) (bif Dh ops.toList then .reg false (ops.toList.map (Uq ops.toList false [] false)) else .bad) fr h:=rfl
      rw [e] at hb ⊢
      cases hnd:Dh ops.toList with
      | false=>rw [hnd] at hb; exact absurd rfl hb
      | true =>
       rw [hnd] at hb
       have hb:F5 E (E8 E (ev E n)) (ops.toList.map (Uq ops.toList false [] false)) fr h ≠ .bad:=hb
       show (Code.region id ops false).wpIn (WF ro) 0 P (U0 E W cx D (F5 E (E8 E (ev E n)) (ops.toList.map (Uq ops.toList false [] false)) fr h)) a W
       exact wpIn_mono (fS (ro:=ro) (Q:=(F5 E (E8 E (ev E n)) (ops.toList.map (Uq ops.toList false [] false)) fr h).Post E W cx (fun a=>D W cx a)) iZ (Hs _ hnd) (j9 hE hcall ops.toList W cx a fr h (fun o ho=>by obtain ⟨i,hi⟩:=List.getElem?_of_mem ho; exact hst i o (by simpa using hi) W cx) hf hd hs hb fun x a' w' hp=>hp)) fun x a w hp=>U0.of_post hD hp
     | true =>
      have e:ev E (n + 1) (xc (.region id ops true)) fr h=step E (ev E n) (bif Dh ops.toList then (bif Hz ops.toList (At ops.toList) (Lm ops.toList (At ops.toList)) then .reg true (xops ops.toList (At ops.toList) [] (Lm ops.toList (At ops.toList))) else .bad) else .bad) fr h:=rfl
      rw [e] at hb ⊢
      cases hnd:Dh ops.toList with
      | false=>rw [hnd] at hb; exact absurd rfl hb
      | true =>
       rw [hnd] at hb
       cases hok:Hz ops.toList (At ops.toList) (Lm ops.toList (At ops.toList)) with
       | false=>rw [hok] at hb; exact absurd rfl hb
       | true =>
        rw [hok] at hb
        exact wpIn_mono (aL hE hs hf (S:=fun a=>D W cx a) hd hcall (nM E n) (fun i o ho=>hst i o ho W cx) (ro:=ro) (fun i o ho=>Hs _ hnd o (List.mem_of_getElem? (by simpa using ho))) hok hb) fun x a w hp=>U0.of_post hD hp
    | seq x y =>
     cases hR:rngC x y with
     | some R =>
      have e:ev E (n + 1) (xc (.seq x y)) fr h=Sa E (ev E n) R (xc y) fr h:=by rw [uF hR]; rfl
      rw [e] at hb ⊢
      exact fP hE ihc (o8 E n) hD hR hst hf hd hs hb
     | none =>
      have e:ev E (n + 1) (xc (.seq x y)) fr h=Af (ev E n (xc y)) (ev E n (xc x) fr h):=by rw [uE hR]; rfl
      rw [e] at hb ⊢
      refine wpIn_seq (wpIn_mono (ihc ro D x W cx a fr h hD hst.1 hf hd hs (Xg hb)) (Xh hb fun fr' h' cx' a' w' e1 h1 h2 h3 h4=>?_))
      rw [e1] at hb ⊢
      have hb:ev E n (xc y) fr' h' ≠ .bad:=hb
      exact wpIn_mono (ihc ro D y w' cx' a' fr' h' hD hst.2 h3 h4 h2 hb) fun x a w hp=>U0.trans h1 hp
    | cond c x y =>
     have e:ev E (n + 1) (xc (.cond c x y)) fr h=Jq (ev E n (xc x)) (ev E n (xc y)) (opv E c fr) fr h:=rfl
     rw [e] at hb ⊢
     have hc:=Y1 (E:=E) hs hf c
     cases hv:opv E c fr with
     | bool b =>
      rw [hv] at hb hc
      refine wpIn_cond hc.bool_inv ?_
      cases b with
      | true=>exact ihc ro D x W cx a fr h hD hst.1 hf hd hs hb
      | false=>exact ihc ro D y W cx a fr h hD hst.2 hf hd hs hb
     | _=>rw [hv] at hb; exact absurd rfl hb
    | block id x =>
     have e:ev E (n + 1) (xc (.block id x)) fr h=As id (ev E n (xc x) fr h):=rfl
     rw [e] at hb ⊢
     have hb1:ev E n (xc x) fr h ≠ .bad:=fun e=>by rw [e] at hb; exact hb rfl
     refine wpIn_block (wpIn_mono (ihc ro D x W cx a fr h hD hst hf hd hs hb1) fun x' a' w' hp=>?_)
     clear e
     generalize ev E n (xc x) fr h=r at *
     obtain ⟨cx',he,hd',hp⟩:=hp
     cases r with
     | bad=>exact absurd rfl hb1
     | pan v h' =>
      obtain ⟨vv,rfl,h1,h2⟩:=hp
      exact ⟨cx',he,hd',vv,rfl,h1,h2⟩
     | ok e fr' h' =>
      obtain ⟨rfl,h1,h2⟩:=hp
      cases e with
      | normal=>exact ⟨cx',he,hd',rfl,h1,h2⟩
      | ret=>exact ⟨cx',he,hd',rfl,h1,h2⟩
      | exit j =>
       show Exit.inBlock id _ (.exit j) a' w'
       have e2:As id (.ok (.exit j) fr' h')=bif Nat.beq j id then .ok .normal fr' h' else .ok (.exit j) fr' h':=rfl
       rw [e2]
       show if j=id then _ else _
       by_cases hj:j=id
       . subst hj; rw [if_pos rfl]; simp only [Nat.beq_refl,cond_true]; exact ⟨cx',he,hd',rfl,h1,h2⟩
       . rw [if_neg hj,Heap.beq_false hj]; exact ⟨cx',he,hd',rfl,h1,h2⟩
    | loop x=>exact wpIn_loop_rounds (n + 1) (round ro D x W cx a fr h hD hst hf hd hs hb)
    | rangeFunc g ps x y=>exact fM hE ihc ihp hD hst hf hd hs hb
    | _=>exact absurd rfl hb
  . have e:ev E (n + 1) (Ab ops.toList l) fr h=step E (ev E n) (bif Dh l then .reg false (l.map (Uq ops.toList false [] false)) else .bad) fr h:=rfl
    rw [e] at hb ⊢
    cases hnd:Dh l with
    | false=>rw [hnd] at hb; exact absurd rfl hb
    | true =>
     rw [hnd] at hb
     exact ⟨Hs _ hnd,fun hQ=>j9 hE hcall l W cx a fr h hst hf hS hs hb hQ⟩
theorem fQ (hE:EnvOk E P) {W:World} {cx:Cx} {h:Heap} {n f:Nat} {args:Array Value} {l:List AV} (hl:RepL W cx args.toList l) (hs:Sat E W cx h) (hb:run E n f l h ≠ .bad):Calls P f args W ((run E n f l h).Post E W cx) :=
 (dE hE (Mg hE n).1 (Mg hE n).2.2 (o8 E n) f args l W cx h hl hs hb).2
end
end Go.AM
