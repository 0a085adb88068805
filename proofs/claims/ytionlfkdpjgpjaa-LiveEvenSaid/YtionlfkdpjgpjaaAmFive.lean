/- The abstract machine, part five: ranges over functions, deferred calls that recover, code and calls: sound. Conditions: none. -/
import Derived.Test.YtionlfkdpjgpjaaAmFour
import Derived.RangeFuncNested
import Derived.RecoverIn
import Derived.RowKit3
import Derived.Maps.RangeWalk
import Derived.Maps.Ext
import Derived.Laws.IdiomRangeMap
import Derived.Deep.LoopGhost
import Derived.WalkKit
set_option linter.unusedVariables false
set_option linter.unusedSectionVars false
set_option linter.unusedSimpArgs false
/-
 The abstract machine: what a body yields; frames that are entered; blocks that are laid and held; what is so behind code.
-/
namespace Go.AM
section
variable {P:Program} {E:Env} {W:World} {cx:Cx} {h:Heap}
theorem iG (hE:EnvOk E P) (hs:Sat E W cx h) {t:Nat} {ti:TI} (ht:E.ti t=some ti) {x:Value} {a r:AV} (hx:Rep W cx x a) (hl:Bs ti a h=some r) :
 ∃ v p,x=.pointer (some p)∧(loadVar t p).run P W=.ok v W∧Rep W cx v r:=by
 obtain ⟨v,h1,h2⟩:=Pp (P:=P) hE hs ht hx hl
 have:∃ p,x=.pointer (some p):=by
  cases a with
  | fptr v off=>obtain ⟨b,o,e,_⟩:=hx.fptr_inv; exact ⟨_,e⟩
  | ptr id i off=>obtain ⟨_,e⟩:=hx.ptr_inv; exact ⟨_,e⟩
  | _=>cases hl
 obtain ⟨p,rfl⟩:=this
 exact ⟨v,p,rfl,by simpa [Instr.loadAt,Instr.sureAddr] using h1,h2⟩
def resVar (tmps:Array Value):ResultVar->Sem Value
 | .tmp t=>pure (tmps.getD t undef)
 | .cell a t=>do loadVar t (← asAddr (tmps.getD a undef))
theorem At (hE:EnvOk E P) (hs:Sat E W cx h) {tmps:Array Value} {fr:Tr}:∀ (l:List ResultVar) (vs:List AV),(∀ x∈l,Rep W cx (tmps.getD (Ct x) undef) (fr.get (Ct x)))->G7 E l fr h=some vs->∃ us,(l.mapM (resVar tmps)).run P W=.ok us W∧RepL W cx us vs
 | [],vs,hf,hr=>by
  cases hr
  exact ⟨[],rfl,.nil⟩
 | x :: l,vs,hf,hr=>by
  have hf':=fun y hy=>hf y (List.mem_cons_of_mem _ hy)
  have hx:=hf x (List.mem_cons_self ..)
  cases x with
  | tmp t =>
   have hr:A4 (G7 E l fr h) (fun vs=>some (fr.get t :: vs))=some vs:=hr
   obtain ⟨ws,h1,h2⟩:=A1 hr
   cases h2
   obtain ⟨us,h3,h4⟩:=At hE hs l ws hf' h1
   exact ⟨tmps.getD t undef :: us,by rw [List.mapM_cons]; simp [resVar,h3],.cons hx h4⟩
  | cell a t =>
   have hr:onTI E t none (fun ti=>A4 (Bs ti (fr.get a) h) fun v=>A4 (G7 E l fr h) fun vs=>some (v :: vs))=some vs:=hr
   obtain ⟨ti,ht,hr⟩:=F1 hr
   obtain ⟨v,hv,hr⟩:=A1 hr
   obtain ⟨ws,h1,h2⟩:=A1 hr
   cases h2
   obtain ⟨us,h3,h4⟩:=At hE hs l ws hf' h1
   have hx:Rep W cx (tmps.getD a undef) (fr.get a):=hx
   obtain ⟨u,p,e,h5,h6⟩:=iG (P:=P) hE hs ht hx hv
   exact ⟨u :: us,by rw [List.mapM_cons]; simp [resVar,e,asAddr,h5,h3],.cons h6 h4⟩
theorem Fm (hE:EnvOk E P) (hs:Sat E W cx h) {tmps:Array Value} {fr:Tr} {fn:Func} (hf:∀ x∈fn.results.toList,Rep W cx (tmps.getD (Ct x) undef) (fr.get (Ct x))) {vs:List AV} (hr:G7 E fn.results.toList fr h=some vs) :
 ∃ v,(results fn tmps).run P W=.ok v W∧Rep W cx v (oneOrTup vs):=by
 obtain ⟨us,h1,h2⟩:=At (P:=P) hE hs fn.results.toList vs hf hr
 have e1:(fn.results.mapM (resVar tmps)).run P W=.ok us.toArray W:=by
  rw [← Array.toArray_toList (xs:=fn.results),List.mapM_toArray]
  simp [h1]
 have e2:results fn tmps=(do
  let vs ← fn.results.mapM (resVar tmps)
  pure (if h:vs.size=1 then vs[0] else .tuple vs)):=by
  unfold results
  congr 1
 refine ⟨if h:us.toArray.size=1 then us.toArray[0] else .tuple us.toArray,by rw [e2]; simp only [Sem.run_bind,e1,Result.andThen_ok]; rfl,?_⟩
 cases us with
 | nil =>
  cases vs with
  | nil=>exact .tup #[] [] rfl (by simp)
  | cons _ _=>have:=h2.1; simp at this
 | cons u us =>
  cases vs with
  | nil=>have:=h2.1; simp at this
  | cons v vs =>
   cases us with
   | nil =>
    cases vs with
    | nil=>exact h2.2 0 _ _ rfl rfl
    | cons _ _=>have:=h2.1; simp at this
   | cons u2 us =>
    cases vs with
    | nil=>have:=h2.1; simp at this
    | cons v2 vs=>simp only [List.size_toArray,List.length_cons]; rw [dif_neg (by omega)]; exact Rep.tup_mk h2
theorem FrRep.set {tmps:Array Value} {fr:Tr} (hf:FrRep W cx tmps fr) {i:Nat} {x:AV} (hx:Rep W cx (tmps.getD i undef) x):FrRep W cx tmps (fr.set i x) where
 rep j:=by
  by_cases e:i=j
  . subst e
    rw [Tr.get_set_eq]
    split
    . exact hx
    . exact .und _
  . rw [Tr.get_set_ne _ _ _ _ e]; exact hf.rep j
 has j hj:=by rw [Tr.has_set] at hj; exact hf.has j hj
theorem FrRep.setAll {tmps:Array Value}:∀ (l:List AV) (i:Nat) (fr:Tr),FrRep W cx tmps fr->(∀ (j:Nat) x,l[j]?=some x->Rep W cx (tmps.getD (i + j) undef) x)->FrRep W cx tmps (Tr.setAll l i fr)
 | [],_,_,hf,_=>hf
 | v :: l,i,fr,hf,hx=>by
  show FrRep W cx tmps (Tr.setAll l (i + 1) (fr.set i v))
  exact FrRep.setAll l (i + 1) _ (hf.set (hx 0 v rfl)) fun j x hj=>by
   have:=hx (j + 1) x (by simpa using hj)
   rw [show i + 1 + j=i + (j + 1) by omega]; exact this
theorem Jq {args:Array Value} {l:List AV} (hl:RepL W cx args.toList l) {n:Nat} (hn:l.length≤n):FrRep W cx (args ++ Array.replicate (n - args.size) undef) (Tr.enter n l):=by
 have hsz:args.size=l.length:=by have:=hl.1; simpa using this
 refine FrRep.setAll l 0 _ ⟨fun i=>by rw [Tr.get_mk]; exact .und _,fun i hi=>?_⟩ fun j x hj=>?_
 . have:=Tr.has_mk _ _ _ hi
   simp; omega
 . obtain ⟨v,h1,h2⟩:=hl.get hj
   have hlt:j < args.size:=by rw [hsz]; exact F9 hj
   have:(args ++ Array.replicate (n - args.size) undef).getD (0 + j) undef=v:=by
    rw [Nat.zero_add,Array.getD_eq_getD_getElem?,Array.getElem?_append_left hlt]
    have:args[j]?=some v:=by simpa using h1
    rw [this]; rfl
   rw [this]; exact h2
def Cx.lay (cx:Cx) (b:Nat):Cx:=⟨cx.μ,cx.nx,fun x=>cx.own x∨x=b,fun x=>cx.held x∨x=b⟩
theorem Ext.lay (W:World) (cx:Cx) (o:Obj):Ext W cx (W.alloc o) (cx.lay W.heap.size) where
 nx:=Nat.le_refl _
 mu _ _:=rfl
 sz:=by simp
 keep b hb _:=C3 W o hb
 shape b hb:=by unfold V3; rw [C3 W o hb]
 own b hb h:=by rcases h with h | h; exact h; omega
 hold b hb h:=⟨.inl h,C3 W o hb⟩
 out:=⟨rfl,rfl,rfl⟩
theorem Sat.lay (hs:Sat E W cx h) (o:Obj):Sat E (W.alloc o) (cx.lay W.heap.size) h where
 nx:=hs.nx
 objs id y hy:=by
  obtain ⟨h1,h2,h3,h4⟩:=hs.objs id y hy
  exact ⟨h1,.inl h2,by show (cx.μ id).1 < _; simp; omega,h4.mono (Ext.lay W cx o) (C3 W o h3)⟩
 inj:=hs.inj
 gl:=hs.gl.mono (Ext.lay W cx o)
 held b hb:=by
  rcases hb with hb | rfl
  . exact ⟨by have:=(hs.held b hb).1; simp; omega,.inl (hs.held b hb).2⟩
  . exact ⟨by simp,.inr rfl⟩
 free id y hy:=by
  rintro (hb | hb)
  . exact hs.free id y hy hb
  . have:=(hs.objs id y hy).2.2.1
    have hb:(cx.μ id).1=W.heap.size:=hb
    omega
def Nh (o:Obj):Prop:=∀ c t f,o ≠ .cells c t f
theorem Yk {W:World} {b:Nat} (h:∀ o,W.heap[b]?=some o->Nh o):V3 W b=0:=by
 unfold V3
 cases hb:W.heap[b]? with
 | none=>rfl
 | some o =>
  cases o with
  | cells c t f=>exact absurd rfl (h _ hb c t f)
  | _=>rfl
theorem Ext0.putHeld (hs:Sat E W cx h) {l:Nat} {o₀ o:Obj} (hl:cx.held l) (h0:W.heap[l]?=some o₀) (hn:Nh o₀) (ho:Nh o):Ext0 W cx (W.putObj l o) cx where
 nx:=Nat.le_refl _
 mu _ _:=rfl
 sz:=by simp
 keep b _ hb:=World.putObj_heap_other fun e=>hb (e ▸ (hs.held l hl).2)
 shape b hb:=by
  by_cases e:b=l
  . subst e
    rw [Yk (W:=W) (fun o' h'=>by rw [h0] at h'; cases h'; exact hn),Yk (fun o' h'=>by rw [World.putObj_heap_same hb] at h'; cases h'; exact ho)]
  . unfold V3; rw [World.putObj_heap_other e]
 own _ _ h:=h
theorem Sat.putHeld (hs:Sat E W cx h) {l:Nat} {o:Obj} (hl:cx.held l) (he:Ext0 W cx (W.putObj l o) cx):Sat E (W.putObj l o) cx h where
 nx:=hs.nx
 objs id y hy:=by
  obtain ⟨h1,h2,h3,h4⟩:=hs.objs id y hy
  exact ⟨h1,h2,by simpa using h3,h4.mono0 he (World.putObj_heap_other fun e=>hs.free id y hy (e ▸ hl))⟩
 inj:=hs.inj
 gl:=hs.gl.mono0 he
 held b hb:=⟨by simpa using (hs.held b hb).1,(hs.held b hb).2⟩
 free:=hs.free
theorem Ext.putHi {W W':World} {cx cx':Cx} {l:Nat} {o:Obj} (he:Ext W cx W' cx') (hl:W.heap.size≤l) (h0:Ext0 W' cx' (W'.putObj l o) cx'):Ext W cx (W'.putObj l o) cx' where
 toExt0:=he.toExt0.trans h0
 hold b hb hh:=⟨(he.hold b hb hh).1,(World.putObj_heap_other (by omega)).trans (he.hold b hb hh).2⟩
 out:=he.out
abbrev DP:=World->Cx->Act->Prop
def CRes.End (E:Env) (r:CRes) (x:Exit) (a:Act) (w:World) (cx':Cx):Prop :=
 match r with
 | .ok e fr h=>x=Wj e∧Sat E w cx' h∧FrRep w cx' a.tmps fr
 | .pan v h=>∃ vv,x=.panic [{ v:=vv,recovered:=false }]∧Sat E w cx' h∧Rep w cx' vv v
 | .bad=>False
def U3 (E:Env) (W:World) (cx:Cx) (D:DP) (r:CRes) (x:Exit) (a:Act) (w:World):Prop:=∃ cx',Ext W cx w cx'∧D w cx' a∧r.End E x a w cx'
theorem U3.trans {W W₁:World} {cx cx₁:Cx} {D:DP} (he:Ext W cx W₁ cx₁) {r:CRes} {x:Exit} {a:Act} {w:World} (h:U3 E W₁ cx₁ D r x a w):U3 E W cx D r x a w:=by
 obtain ⟨cx',he',h⟩:=h
 exact ⟨cx',he.trans he',h⟩
def y6 (D:DP):Prop:=∀ W cx a W' cx',Ext W cx W' cx'->D W cx a->D W' cx' a
def Lm (D:DP) (d:Option Tmp):Prop:=∀ W cx,Hz (D W cx) d
theorem U3.of_post {D:DP} (hD:y6 D) {r:CRes} {x:Exit} {a:Act} {w:World} (h:r.Post E W cx (fun a=>D W cx a) x a w):U3 E W cx D r x a w:=by
 obtain ⟨hd,cx',he,h⟩:=h
 exact ⟨cx',he,hD _ _ _ _ _ he hd,h⟩
def Vn (r:Nat):Deferred:={ target:=.collected r,args:=#[] }
def iH (ro:Option Nat) (D:DP):Prop :=
 match ro with
 | none=>∀ W cx a W' cx' r,D W cx a->Ext W cx W' cx'->W.heap.size≤r->r < W'.heap.size->cx'.held r->W'.heap[r]?=some (.deferred (some []))->D W' cx' { a with defers:=Vn r :: a.defers }
 | some l=>∀ W cx a,D W cx a->∃ rc,W.heap[l]?=some (.loop rc)
def kQ (ro:Option Nat) (D:DP):Code->Prop
 | .region _ ops _=>∀ (i:Nat) (o:Oper),ops[i]?=some o->Lm D o.dst
 | .seq a b=>kQ ro D a∧kQ ro D b
 | .cond _ a b=>kQ ro D a∧kQ ro D b
 | .block _ a=>kQ ro D a
 | .loop a=>kQ ro D a
 | .scope a=>kQ ro D a
 | .rangeFunc ..=>iH ro D
 | _=>True
theorem Y9 {ro:Option Nat} {D:DP} (h:∀ d,Lm D d) (hr:iH ro D):∀ c,kQ ro D c
 | .region _ ops _=>fun _ _ _=>h _
 | .seq a b=>⟨Y9 h hr a,Y9 h hr b⟩
 | .cond _ a b=>⟨Y9 h hr a,Y9 h hr b⟩
 | .block _ a=>Y9 h hr a
 | .loop a=>Y9 h hr a
 | .scope a=>Y9 h hr a
 | .rangeFunc ..=>hr
 | .skip | .exit _ | .label _ | .goto _ | .ret | .refuse _=>trivial
theorem Cd {a:Act} {d:Option Tmp} {v:Value} {i:Nat} (h:∀ t,d=some t->t ≠ i):(a.put d v).tmps.getD i undef=a.tmps.getD i undef:=by
 cases d with
 | none=>rfl
 | some d =>
  show (a.tmps.setIfInBounds d v).getD i undef=_
  simp [Array.getD_eq_getD_getElem?,Array.getElem?_setIfInBounds_ne (h d rfl)]
theorem kT (a:Act) (d:Option Tmp) (v:Value):(a.put d v).tmps.size=a.tmps.size:=by
 cases d with
 | none=>rfl
 | some d=>show (a.tmps.setIfInBounds d v).size=_; simp
def DE:DP:=fun _ _ a=>a.defers=[]
theorem DE.mono:y6 DE:=fun _ _ _ _ _ _ h=>h
theorem DE.stab (d:Option Tmp):Lm DE d:=fun _ _ a v h=>by show (a.put d v).defers=[]; rw [m6]; exact h
def D0 (n0:Nat):DP:=fun W cx a=>n0≤W.heap.size∧∃ rs:List Nat,a.defers=rs.map Vn∧rs.Nodup∧∀ r∈rs,n0≤r∧r < W.heap.size∧cx.held r∧W.heap[r]?=some (.deferred (some []))
theorem D0.mono (n0:Nat):y6 (D0 n0):=fun W cx a W' cx' he h=>by
 obtain ⟨h0,rs,h1,h2,h3⟩:=h
 refine ⟨Nat.le_trans h0 he.sz,rs,h1,h2,fun r hr=>?_⟩
 obtain ⟨h4,h5,h6,h7⟩:=h3 r hr
 obtain ⟨h8,h9⟩:=he.hold r h5 h6
 exact ⟨h4,Nat.lt_of_lt_of_le h5 he.sz,h8,h9.trans h7⟩
theorem D0.stab (n0:Nat) (d:Option Tmp):Lm (D0 n0) d:=fun W cx a v h=>by
 obtain ⟨h0,rs,h1,h2⟩:=h
 exact ⟨h0,rs,by rw [m6]; exact h1,h2⟩
theorem D0.push (n0:Nat):iH none (D0 n0):=fun W cx a W' cx' r hd he hr hlt hh hb=>by
 obtain ⟨h0,rs,h1,h2,h3⟩:=D0.mono n0 _ _ _ _ _ he hd
 obtain ⟨h0',rs',h1',_,h3'⟩:=hd
 have:∀ r'∈rs,r' < W.heap.size:=fun r' hr'=>by
  have e:rs=rs':=by
   have inj:∀ (l l':List Nat),l.map Vn=l'.map Vn->l=l':=by
    intro l
    induction l with
    | nil=>intro l' e; cases l' <;> simp at e; rfl
    | cons x l ih=>intro l' e; cases l' with
     | nil=>simp at e
     | cons y l'=>simp [Vn] at e; rw [e.1,ih l' (by simpa [Vn] using e.2)]
   exact inj _ _ (h1.symm.trans h1')
  exact (h3' r' (e ▸ hr')).2.1
 refine ⟨h0,r :: rs,by show Vn r :: a.defers=_; rw [h1]; rfl,List.nodup_cons.2 ⟨fun hm=>by have:=this r hm; omega,h2⟩,fun r' hr'=>?_⟩
 rcases List.mem_cons.1 hr' with rfl | hr'
 . exact ⟨by omega,hlt,hh,hb⟩
 . exact h3 r' hr'
def DR (l:Nat) (rc:Loop):DP:=fun W cx a=>a.defers=[]∧cx.held l∧W.heap[l]?=some (.loop rc)
theorem DR.mono (l:Nat) (rc:Loop):y6 (DR l rc):=fun W cx a W' cx' he h=>by
 obtain ⟨h1,h2,h3⟩:=h
 obtain ⟨h4,h5⟩:=he.hold l (L3 h3) h2
 exact ⟨h1,h4,h5.trans h3⟩
theorem DR.stab (l:Nat) (rc:Loop) (d:Option Tmp):Lm (DR l rc) d:=fun W cx a v h=>by
 obtain ⟨h1,h2⟩:=h
 exact ⟨by rw [m6]; exact h1,h2⟩
theorem DR.rf (l:Nat) (rc:Loop):iH (some l) (DR l rc):=fun W cx a h=>⟨rc,h.2.2⟩
theorem Jr (l:List Oper) (hn:Fq l=true):∀ o∈l,Ol o:=fun o ho c e=>by
 have:=List.all_eq_true.1 hn o ho
 rw [e] at this
 cases this
end
end Go.AM
/-
 The abstract machine: pieces of regions; an iterator that hands elements on,walked.
-/
namespace Go.AM
theorem iI {F:Fence} {n:Nat} {P:Program} {o:Oper} {a:Act} {w:World} {K K':Act->World->Prop} {Q Q':Exit->Act->World->Prop} (hk:∀ a w,K a w->K' a w) (hq:∀ c a w,Q (.panic c) a w->Q' (.panic c) a w) (hq':∀ a w,Q .outgrown a w->Q' .outgrown a w)
 (h:o.wpIn F n P a w K Q):o.wpIn F n P a w K' Q':=by
 refine ⟨h.1,?_⟩
 have h:=h.2
 generalize (o.semAt F.round a.eval).run P w=r at h ⊢
 cases r with
 | ok x w' =>
  cases x with
  | value v=>exact hk _ _ h
  | skip=>exact hk _ _ h
  | defer d=>exact hk _ _ h
  | enter f args =>
   exact ⟨h.1,h.2.mono fun e w' hp=>by
    cases e with
    | returned v=>exact hk _ _ hp
    | panicked c=>exact hq _ _ _ hp
    | outgrown=>obtain ⟨a0,w0,h0⟩:=hp; exact ⟨a0,w0,hq' _ _ h0⟩⟩
  | row r args=>exact ⟨h.1,h.2.mono fun v w' hp=>hk _ _ hp⟩
  | round l f tmps as bo =>
   exact ⟨h.1,h.2.mono fun e w' hp=>by
    cases e with
    | returned v=>exact hk _ _ hp
    | panicked c=>exact hq _ _ _ hp
    | outgrown=>obtain ⟨a0,w0,h0⟩:=hp; exact ⟨a0,w0,hq' _ _ h0⟩⟩
  | _=>exact h.elim
 | halt x w'=>cases x <;> first | exact hq _ _ _ h | exact h.elim
theorem w8 {F:Fence} {n:Nat} {P:Program} {ops:Array Oper} {Q:Exit->Act->World->Prop} {rest:List Oper}:∀ (l:List Oper) (a:Act) (w:World),
 wpListIn F n P ops (Exit.then (wpListIn F n P ops Q rest) (fun _ _ _=>False)) l a w->wpListIn F n P ops Q (l ++ rest) a w
 | [],a,w,h=>h
 | o :: l,a,w,h=>by
  unfold wpListIn at h
  show wpListIn F n P ops Q (o :: (l ++ rest)) a w
  unfold wpListIn
  split
  . rename_i hw
    rw [if_pos hw] at h
    exact iI (fun a w h=>w8 l a w h) (fun c a w hq=>hq.elim) (fun a w hq=>hq.elim) h
  . rename_i hw
    rw [if_neg hw] at h
    exact ⟨h.1,w8 l _ w h.2⟩
def l5 (E:Env) (P:Program) (ih:F7):Prop :=
 ∀ (S:Act->Prop) (ops:Array Oper) (l:List Oper) (Q:Exit->Act->World->Prop) (W:World) (cx:Cx) (a:Act) (fr:Tr) (h:Heap),
   (∀ o∈l,Hz S o.dst)->FrRep W cx a.tmps fr->S a->Sat E W cx h->ih (xregP ops.toList l) fr h ≠ .bad ->
     (∀ o∈l,Ol o)∧((∀ x a' w',(ih (xregP ops.toList l) fr h).Post E W cx S x a' w'->Q x a' w')->wpList P ops Q l a W)
def l6 (E:Env) (P:Program) (ih:F7):Prop :=
 ∀ (ro:Option Nat) (D:DP) (c:Code) (W:World) (cx:Cx) (a:Act) (fr:Tr) (h:Heap),y6 D->kQ ro D c->FrRep W cx a.tmps fr->D W cx a->Sat E W cx h->ih (xc c) fr h ≠ .bad ->
   c.wpIn (WF ro) 0 P (U3 E W cx D (ih (xc c) fr h)) a W
section
variable {P:Program} {E:Env} {ih:F7}
theorem eU (hl:l5 E P ih) {ro:Option Nat} {ops:Array Oper} {S:Act->Prop} {l rest:List Oper} {Q:Exit->Act->World->Prop} {W:World} {cx:Cx} {a:Act} {fr fr':Tr} {h h':Heap} (hst:∀ o∈l,Hz S o.dst)
 (hf:FrRep W cx a.tmps fr) (hS:S a) (hs:Sat E W cx h) (hr:ih (xregP ops.toList l) fr h=.ok .normal fr' h')
 (hK:∀ a' W' cx',Ext W cx W' cx'->Sat E W' cx' h'->FrRep W' cx' a'.tmps fr'->S a'->wpListIn (WF ro) 0 P ops Q rest a' W'):wpListIn (WF ro) 0 P ops Q (l ++ rest) a W:=by
 obtain ⟨hn,hw⟩:=hl S ops l (Exit.then (wpListIn (WF ro) 0 P ops Q rest) (fun _ _ _=>False)) W cx a fr h hst hf hS hs (by rw [hr]; exact fun e=>by cases e)
 refine w8 l a W (Ni ?_ l hn a W (hw fun x a' w' hp=>?_))
 . rintro ⟨a,w,h⟩; exact h
 . rw [hr] at hp
   obtain ⟨hd,cx',he,rfl,h1,h2⟩:=hp
   exact hK a' w' cx' he h1 h2 hd
theorem Js (hl:l5 E P ih) {ro:Option Nat} {ops:Array Oper} {S:Act->Prop} {l:List Oper} {Q:Exit->Act->World->Prop} {W:World} {cx:Cx} {a:Act} {fr fr':Tr} {h h':Heap} (hst:∀ o∈l,Hz S o.dst)
 (hf:FrRep W cx a.tmps fr) (hS:S a) (hs:Sat E W cx h) (hr:ih (xregP ops.toList l) fr h=.ok .normal fr' h')
 (hK:∀ a' W' cx',Ext W cx W' cx'->Sat E W' cx' h'->FrRep W' cx' a'.tmps fr'->S a'->Q .normal a' W'):wpListIn (WF ro) 0 P ops Q l a W:=by
 have:=eU (rest:=[]) (ro:=ro) (ops:=ops) (Q:=Q) hl hst hf hS hs hr hK
 rwa [List.append_nil] at this
theorem Vo (hl:l5 E P ih) {ro:Option Nat} {id:Nat} {ops:Array Oper} {S:Act->Prop} {Q:Exit->Act->World->Prop} {W:World} {cx:Cx} {a:Act} {fr fr':Tr} {h h':Heap} (hst:∀ o∈ops.toList,Hz S o.dst)
 (hf:FrRep W cx a.tmps fr) (hS:S a) (hs:Sat E W cx h) (hr:ih (xregP ops.toList ops.toList) fr h=.ok .normal fr' h')
 (hK:∀ a' W' cx',Ext W cx W' cx'->Sat E W' cx' h'->FrRep W' cx' a'.tmps fr'->S a'->Q .normal a' W'):(Code.region id ops false).wpIn (WF ro) 0 P Q a W :=
 wpIn_region_list (Js hl hst hf hS hs hr hK)
theorem isNone_none {α:Type} {o:Option α} (h:isNone o=true):o=none:=by cases o; rfl; cases h
theorem y7 {ts:List Tmp} {l:List Oper} (h:R4 ts l=true) {o:Oper} (ho:o∈l):∀ d,o.dst=some d->d ∉ ts:=by
 have:=List.all_eq_true.1 h o ho
 intro d hd hm
 rw [hd] at this
 simp [hm] at this
theorem cD {o:Oper} {yt:Tmp} (h:isMv0 o=some yt):o.op=.move (.tmp 0)∧o.dst=some yt:=by
 obtain ⟨dst,op,type,pos,after,guard⟩:=o
 unfold isMv0 at h
 cases op with
 | move x =>
  cases x with
  | tmp t =>
   replace h:(bif Nat.beq t 0 then dst else none)=some yt:=h
   cases hc:Nat.beq t 0 with
   | false=>rw [hc] at h; cases h
   | true =>
    rw [hc] at h
    have:=beq_true hc
    subst this
    exact ⟨rfl,h⟩
  | _=>cases h
 | _=>cases h
theorem kU {o:Oper} {yt yd:Tmp} {args:List Operand} (h:isY yt o=some (yd,args)):∃ as tys,o.op=.call ⟨.value (.tmp yt),as,tys⟩∧as.toList=args∧o.dst=some yd:=by
 obtain ⟨dst,op,type,pos,after,guard⟩:=o
 unfold isY at h
 cases op with
 | call c =>
  obtain ⟨callee,as,tys⟩:=c
  cases callee with
  | value x =>
   cases x with
   | tmp t =>
    replace h:(bif Nat.beq t yt then (match dst with | some d=>some (d,as.toList) | none=>none) else none)=some (yd,args):=h
    cases hc:Nat.beq t yt with
    | false=>rw [hc] at h; cases h
    | true =>
     rw [hc] at h
     have:=beq_true hc
     subst this
     cases dst with
     | none=>cases h
     | some d=>cases h; exact ⟨as,tys,rfl,rfl,rfl⟩
   | _=>cases h
  | _=>cases h
 | _=>cases h
theorem Ln {yt:Tmp}:∀ {l:List Oper} {p:List Oper × Oper × List Oper},splitY yt l=some p->l=p.1 ++ p.2.1 :: p.2.2
 | [],_,h=>by cases h
 | o :: r,p,h=>by
  unfold splitY at h
  cases hy:isY yt o with
  | some q=>rw [hy] at h; cases h; rfl
  | none =>
   rw [hy] at h
   cases hs:splitY yt r with
   | none=>rw [hs] at h; cases h
   | some q =>
    rw [hs] at h; cases h
    have:=Ln hs
    rw [this]; rfl
theorem Lo:∀ {l:List Oper} {p:List Oper × Oper × List Oper},splitM l=some p->l=p.1 ++ p.2.1 :: p.2.2
 | [],_,h=>by cases h
 | o :: r,p,h=>by
  unfold splitM at h
  cases hy:isMv0 o with
  | some q=>rw [hy] at h; cases h; rfl
  | none =>
   rw [hy] at h
   cases hs:splitM r with
   | none=>rw [hs] at h; cases h
   | some q =>
    rw [hs] at h; cases h
    have:=Lo hs
    rw [this]; rfl
theorem qF {a b:Option (Nat × Bool)} (h:qO a b=true):a=b:=by
 cases a with
 | none=>cases b with
  | none=>rfl
  | some q=>cases h
 | some p =>
  cases b with
  | none=>cases h
  | some q =>
   obtain ⟨p1,p2⟩:=p
   obtain ⟨q1,q2⟩:=q
   unfold qO at h
   dsimp only at h
   rw [Bool.and_eq_true] at h
   obtain ⟨h1,h2⟩:=h
   have:=beq_true h1
   subst this
   cases p2 <;> cases q2 <;> first | rfl | cases h2
structure YP (ops:List Oper) (p0:List Oper) (m:Oper) (p1:List Oper) (y:Oper) (p2:List Oper) (yt yd:Tmp) (args:List Operand):Prop where
 ops:ops=p0 ++ m :: (p1 ++ y :: p2)
 mv:isMv0 m=some yt
 yl:isY yt y=some (yd,args)
 gd:m.guard=y.guard
 yt0:yt ≠ 0
 c0:R4 [0] p0=true
 c1:R4 [0,yt] p1=true
 cy:R4 [0] [y]=true
 c2:R4 [0] p2=true
theorem regI_some {ops:List Oper} {ic:IC} (h:l8 ops=some ic):(R4 [0] ops=true∧ic=.reg (xregP ops ops)) ∨
 ∃ p0 m p1 y p2 yt yd args,YP ops p0 m p1 y p2 yt yd args∧ic=.yreg (xregP ops p0) (F5 ops m) yt (xregP ops p1) yd args (xregP ops p2):=by
 unfold l8 at h
 cases hm:splitM ops with
 | none =>
  rw [hm] at h
  dsimp only at h
  cases hc:R4 [0] ops with
  | false=>rw [hc] at h; cases h
  | true=>rw [hc] at h; cases h; exact .inl ⟨rfl,rfl⟩
 | some q =>
  rw [hm] at h
  have hs:=Lo hm
  obtain ⟨p0,m,r⟩:=q
  replace h:wV ops (p0,m,r)=some ic:=h
  unfold wV at h
  dsimp only at h hs
  cases h1:isMv0 m with
  | none=>rw [h1] at h; cases h
  | some yt =>
   rw [h1] at h
   dsimp only at h
   cases h2:splitY yt r with
   | none=>rw [h2] at h; cases h
   | some p =>
    rw [h2] at h
    obtain ⟨p1,y,p2⟩:=p
    have hs2:=Ln h2
    dsimp only at h hs2
    cases h3:isY yt y with
    | none=>rw [h3] at h; cases h
    | some z =>
     rw [h3] at h
     obtain ⟨yd,args⟩:=z
     dsimp only at h
     cases hc:(qO m.guard y.guard && !(Nat.beq yt 0) && R4 [0] p0 && R4 [0,yt] p1 && R4 [0] [y] && R4 [0] p2) with
     | false=>rw [hc] at h; cases h
     | true =>
      rw [hc] at h
      cases h
      simp only [Bool.and_eq_true,Bool.not_eq_true'] at hc
      obtain ⟨⟨⟨⟨⟨c1,c2⟩,c3⟩,c4⟩,c5⟩,c6⟩:=hc
      exact .inr ⟨p0,m,p1,y,p2,yt,yd,args,⟨by rw [hs,hs2],h1,h3,qF c1,fun e=>by subst e; simp at c2,c3,c4,c5,c6⟩,rfl⟩
theorem Tc {f:IC->IC->IC} {a b:Option IC} {c:IC} (h:lU f a b=some c):∃ x y,a=some x∧b=some y∧c=f x y:=by
 cases a with
 | none=>cases h
 | some x=>cases b with
  | none=>cases h
  | some y=>cases h; exact ⟨x,y,rfl,rfl,rfl⟩
structure LA (W0:World) (cx0:Cx) (ro:Option Nat) (l:Nat) (st:Loop) (W:World) (cx:Cx):Prop where
 ext:Ext W0 cx0 W cx
 held:cx.held l
 rcd:W.heap[l]?=some (.loop st)
 blk:ro=none->cx.held W0.heap.size∧W.heap[W0.heap.size]?=some (.deferred (some []))
 hi:W0.heap.size≤l
 ne:ro=none->l ≠ W0.heap.size
section
variable {W0 W W':World} {cx0 cx cx':Cx} {ro:Option Nat} {l:Nat} {st st':Loop} {h:Heap}
theorem LA.mono (la:LA W0 cx0 ro l st W cx) (he:Ext W cx W' cx'):LA W0 cx0 ro l st W' cx' where
 ext:=la.ext.trans he
 held:=(he.hold l (L3 la.rcd) la.held).1
 rcd:=(he.hold l (L3 la.rcd) la.held).2.trans la.rcd
 blk hr:=by
  obtain ⟨h1,h2⟩:=la.blk hr
  obtain ⟨h3,h4⟩:=he.hold _ (L3 h2) h1
  exact ⟨h3,h4.trans h2⟩
 hi:=la.hi
 ne:=la.ne
theorem LA.ext0 (la:LA W0 cx0 ro l st W cx) (hs:Sat E W cx h):Ext0 W cx (W.putObj l (.loop st')) cx :=
 Ext0.putHeld hs la.held la.rcd (fun _ _ _ e=>by cases e) (fun _ _ _ e=>by cases e)
theorem LA.put (la:LA W0 cx0 ro l st W cx) (hs:Sat E W cx h):LA W0 cx0 ro l st' (W.putObj l (.loop st')) cx where
 ext:=la.ext.putHi la.hi (la.ext0 hs)
 held:=la.held
 rcd:=World.putObj_heap_same (L3 la.rcd)
 blk hr:=⟨(la.blk hr).1,(World.putObj_heap_other fun e=>la.ne hr e.symm).trans (la.blk hr).2⟩
 hi:=la.hi
 ne:=la.ne
end
def goOn (e:Ex):Bool:=match e with | .normal=>true | .exit _=>false | .ret=>false
def Fo (mk:LoopState->Option Code->Loop) (e:Ex):Loop:=match e with | .normal=>mk .ready none | .exit i=>mk .done (some (.exit i)) | .ret=>mk .done (some .ret)
def HV (E:Env) (P:Program) (W0:World) (cx0:Cx) (ro:Option Nat) (l:Nat) (mk:LoopState->Option Code->Loop) (Y:List AV->Heap->CRes):Prop :=
 ∀ (vs:Array Value) (args:List AV) (W:World) (cx:Cx) (h:Heap) (e:Ex) (fr':Tr) (h':Heap),Y args h=.ok e fr' h'->LA W0 cx0 ro l (mk .ready none) W cx->Sat E W cx h->RepL W cx vs.toList args ->
   ∃ f tmps as bo,(Instr.yield l vs).run P W=.ok (.round l f tmps as bo) W∧RoundIn (WF none) 0 P l f tmps as bo W fun en W' =>
     en=.returned (.bool (goOn e))∧∃ cx',LA W0 cx0 ro l (Fo mk e) W' cx'∧Ext0 W cx W' cx'∧Sat E W' cx' h'
def Y0 (l:Nat):Value:=.func (.yield l) #[] #[]
def SI (l nt:Nat) (a:Act):Prop:=a.defers=[]∧a.tmps.getD 0 undef=Y0 l∧a.tmps.size=nt
def SY (l nt:Nat) (yt:Tmp) (a:Act):Prop:=SI l nt a∧a.tmps.getD yt undef=Y0 l
theorem SI.stab {l nt:Nat} {d:Option Tmp} (h:∀ t,d=some t->t ≠ 0):Hz (SI l nt) d:=fun a v hp =>
 ⟨by rw [m6]; exact hp.1,(Cd h).trans hp.2.1,(kT ..).trans hp.2.2⟩
theorem SY.stab {l nt:Nat} {yt:Tmp} {d:Option Tmp} (h:∀ t,d=some t->t ≠ 0) (h':∀ t,d=some t->t ≠ yt):Hz (SY l nt yt) d:=fun a v hp =>
 ⟨SI.stab h a v hp.1,(Cd h').trans hp.2⟩
theorem SI.calm {l nt:Nat} {ls:List Oper} (h:R4 [0] ls=true):∀ o∈ls,Hz (SI l nt) o.dst:=fun o ho=>SI.stab fun t ht e=>y7 h ho t ht (by simp [e])
theorem SI.calm1 {l nt:Nat} {yt:Tmp} {ls:List Oper} (h:R4 [0,yt] ls=true):∀ o∈ls,Hz (SI l nt) o.dst:=fun o ho=>SI.stab fun t ht e=>y7 h ho t ht (by simp [e])
theorem SY.calm {l nt:Nat} {yt:Tmp} {ls:List Oper} (h:R4 [0,yt] ls=true):∀ o∈ls,Hz (SY l nt yt) o.dst:=fun o ho=>SY.stab (fun t ht e=>y7 h ho t ht (by simp [e])) (fun t ht e=>y7 h ho t ht (by simp [e]))
theorem kV {k:Tr->Heap->CRes} {r:CRes} {e:Ex} {fr':Tr} {h':Heap} (hr:Bt k r=.ok e fr' h'):∃ fr1 h1,r=.ok .normal fr1 h1∧k fr1 h1=.ok e fr' h':=by
 cases r with
 | bad=>cases hr
 | pan v h=>cases hr
 | ok e1 fr1 h1 =>
  cases e1 with
  | normal=>exact ⟨fr1,h1,rfl,hr⟩
  | _=>cases hr
theorem l7 {k:Tr->Heap->IRes} {r:CRes} {e:Ex} {p:Option Ex} {fr':Tr} {h':Heap} (hr:G8 k r=.ok e p fr' h'):∃ fr1 h1,r=.ok .normal fr1 h1∧k fr1 h1=.ok e p fr' h':=by
 cases r with
 | bad=>cases hr
 | pan v h=>cases hr
 | ok e1 fr1 h1 =>
  cases e1 with
  | normal=>exact ⟨fr1,h1,rfl,hr⟩
  | _=>cases hr
theorem onOB_okI {b:Option Bool} {x y:IRes} {e:Ex} {p:Option Ex} {fr:Tr} {h:Heap} (hr:Q5 b .bad x y=.ok e p fr h):(b=some true∧x=.ok e p fr h)∨(b=some false∧y=.ok e p fr h):=by
 cases b with
 | none=>cases hr
 | some b=>cases b; exact .inr ⟨rfl,hr⟩; exact .inl ⟨rfl,hr⟩
theorem Yl {b:Bool} {x:CRes} {e:Ex} {fr:Tr} {h:Heap} (hr:(bif b then x else .bad)=.ok e fr h):b=true∧x=.ok e fr h:=by
 cases b with
 | true=>exact ⟨rfl,hr⟩
 | false=>cases hr
theorem iJ {b:Bool} {x:IRes} {e:Ex} {p:Option Ex} {fr:Tr} {h:Heap} (hr:(bif b then x else .bad)=.ok e p fr h):b=true∧x=.ok e p fr h:=by
 cases b with
 | true=>exact ⟨rfl,hr⟩
 | false=>cases hr
def iK (mk:LoopState->Option Code->Loop) (p:Option Ex):Loop:=Fo mk (kR p)
def IQ (E:Env) (W0:World) (cx0:Cx) (ro:Option Nat) (l nt:Nat) (mk:LoopState->Option Code->Loop) (e:Ex) (p:Option Ex) (fr':Tr) (h':Heap) (ex:Exit) (a:Act) (w:World):Prop :=
 ex=Wj e∧SI l nt a∧∃ cx',LA W0 cx0 ro l (iK mk p) w cx'∧Sat E w cx' h'∧FrRep w cx' a.tmps fr'
section
variable {W0:World} {cx0:Cx} {ro:Option Nat} {l nt:Nat} {mk:LoopState->Option Code->Loop} {Y:List AV->Heap->CRes}
theorem iL (hl:l5 E P ih) (hY:HV E P W0 cx0 ro l mk Y) {id:Nat} {ops:Array Oper} {p0:List Oper} {m:Oper} {p1:List Oper} {y:Oper} {p2:List Oper} {yt yd:Tmp} {args:List Operand} (hp:YP ops.toList p0 m p1 y p2 yt yd args)
 {k:Nat} {p p':Option Ex} {a:Act} {W:World} {cx:Cx} {fr fr':Tr} {h h':Heap} {e:Ex}
 (hr:evI E ih nt Y (k + 1) (.yreg (xregP ops.toList p0) (F5 ops.toList m) yt (xregP ops.toList p1) yd args (xregP ops.toList p2)) p fr h=.ok e p' fr' h') (hf:FrRep W cx a.tmps fr) (hS:SI l nt a) (la:LA W0 cx0 ro l (iK mk p) W cx) (hs:Sat E W cx h) :
 (Code.region id ops false).wpIn (WF none) 0 P (IQ E W0 cx0 ro l nt mk e p' fr' h') a W:=by
 refine wpIn_region_list ?_
 rw [hp.ops]
 obtain ⟨fr1,h1,hr1,hr⟩:=l7 (show G8 (fun fr h=>Q5 (guardOk (F5 ops.toList m) fr) .bad (Yv E ih nt Y (F5 ops.toList m) yt (xregP ops.toList p1) yd args (xregP ops.toList p2) p fr h) (tX ih (F5 ops.toList m) yt (xregP ops.toList p1) yd (xregP ops.toList p2) p fr h)) (ih (xregP ops.toList p0) fr h)=.ok e p' fr' h' from hr)
 refine eU hl (SI.calm hp.c0) hf hS hs hr1 fun a1 W1 cx1 he1 hs1 hf1 hS1=>?_
 replace la:=la.mono he1
 obtain ⟨m1,m3⟩:=cD hp.mv
 obtain ⟨as,tys,y1,y2,y4⟩:=kU hp.yl
 have hyd:yd ≠ 0:=fun e=>y7 hp.cy (List.mem_cons_self ..) yd y4 (by simp [e])
 have hgd:F5 ops.toList y=F5 ops.toList m:=by unfold F5; rw [hp.gd]
 rcases onOB_okI hr with ⟨hg,hr⟩ | ⟨hg,hr⟩
 . -- it is called
   have hw:=M9 (ops:=ops) hf1 m hg
   cases p with
   | some _=>cases hr
   | none =>
    obtain ⟨hyt,hr⟩:=iJ (show (bif Nat.blt yt nt then G8 (fun fr h=>Q5 (guardOk (F5 ops.toList m) fr) .bad (Fj ih (xregP ops.toList p2) yd fr (Y (opvs E args fr) h)) .bad) (ih (xregP ops.toList p1) (fr1.set yt .any) h1) else .bad)=.ok e p' fr' h' from hr)
    have hyt:=H3 hyt
    obtain ⟨fr2,h2,hr2,hr⟩:=l7 hr
    unfold wpListIn
    rw [if_pos hw]
    refine ⟨fun _ _=>trivial,?_⟩
    have hm:((m.semAt (WF none).round a1.eval).run P W1)=.ok (.value (Y0 l)) W1:=by
     rw [show (WF none).round=none from rfl,Oper.semAt_none]
     have:a1.eval (.tmp 0)=Y0 l:=hS1.2.1
     simp [execOp,m1,this]
    rw [hm,Oper.uponIn_value,m3]
    have hSY:SY l nt yt (a1.put (some yt) (Y0 l)):=by
     refine ⟨SI.stab (fun t e=>by cases e; exact hp.yt0) a1 _ hS1,?_⟩
     show (a1.tmps.setIfInBounds yt (Y0 l)).getD yt undef=Y0 l
     have:yt < a1.tmps.size:=by rw [hS1.2.2]; exact hyt
     simp [Array.getD,this]
    refine eU hl (S:=SY l nt yt) (SY.calm hp.c1) (hf1.put (some yt) (.any _ rfl)) hSY hs1 hr2 fun a3 W3 cx3 he3 hs3 hf3 hS3=>?_
    replace la:=la.mono he3
    rcases onOB_okI hr with ⟨hg3,hr⟩ | ⟨_,hr⟩
    . have hw3:=M9 (ops:=ops) hf3 y (by rw [hgd]; exact hg3)
      unfold wpListIn
      rw [if_pos hw3]
      refine ⟨fun _ _=>trivial,?_⟩
      cases hq:Y (opvs E args fr2) h2 with
      | bad=>rw [hq] at hr; cases hr
      | pan v hh=>rw [hq] at hr; cases hr
      | ok e1 fry h3 =>
       rw [hq] at hr
       have hargs:RepL W3 cx3 (as.map a3.eval).toList (opvs E args fr2):=by
        have:=z8 (E:=E) hs3 hf3 args
        rw [← y2] at this ⊢
        simpa using this
       obtain ⟨f,tmps,asg,bo,hyr,hround⟩:=hY _ _ W3 cx3 h2 e1 fry h3 hq la hs3 hargs
       have hm:((y.semAt (WF none).round a3.eval).run P W3)=.ok (.round l f tmps asg bo) W3:=by
        rw [show (WF none).round=none from rfl,Oper.semAt_none]
        have:a3.eval (.tmp yt)=.func (.yield l) #[] #[]:=hS3.2
        simp [execOp,y1,resolve,this,Deferred.ofValue,invoke,hyr]
       rw [hm,Oper.uponIn_round]
       refine ⟨fun e=>by simp [WF,Fence.wide] at e,hround.mono fun en W4 hen=>?_⟩
       obtain ⟨rfl,cx4,la4,he4,hs4⟩:=hen
       show wpListIn (WF none) 0 P ops _ p2 (a3.put y.dst (.bool (goOn e1))) W4
       rw [y4]
       have hS4:SI l nt (a3.put (some yd) (.bool (goOn e1))):=SI.stab (fun t e=>by cases e; exact hyd) a3 _ hS3.1
       have hf4:FrRep W4 cx4 (a3.put (some yd) (.bool (goOn e1))).tmps (fr2.set yd (.bool (goOn e1))):=(hf3.mono0 he4).put (some yd) (.bool _)
       have out:∀ (q:Option Ex),kR q=e1->G8 (Z8 q) (ih (xregP ops.toList p2) (fr2.set yd (.bool (goOn e1))) h3)=.ok e p' fr' h'->wpListIn (WF none) 0 P ops (IQ E W0 cx0 ro l nt mk e p' fr' h') p2 (a3.put (some yd) (.bool (goOn e1))) W4:=fun q hq hr=>by
        obtain ⟨fr5,h5,hr5,hr⟩:=l7 hr
        cases hr
        refine Js hl (SI.calm hp.c2) hf4 hS4 hs4 hr5 fun a5 W5 cx5 he5 hs5 hf5 hS5=>⟨rfl,hS5,cx5,?_,hs5,hf5⟩
        unfold iK
        rw [hq]
        exact la4.mono he5
       cases e1 with
       | normal=>exact out none rfl hr
       | exit i=>exact out (some (.exit i)) rfl hr
       | ret=>exact out (some .ret) rfl hr
    . cases hr
 . -- it is not
   have hw:=M9 (ops:=ops) hf1 m hg
   obtain ⟨fr2,h2,hr2,hr⟩:=l7 (show G8 (fun fr h=>Q5 (guardOk (F5 ops.toList m) fr) .bad .bad (G8 (Z8 p) (ih (xregP ops.toList p2) (fr.set yd skipped) h))) (ih (xregP ops.toList p1) (fr1.set yt skipped) h1)=.ok e p' fr' h' from hr)
   unfold wpListIn
   rw [hw]
   refine ⟨fun _ _=>trivial,?_⟩
   rw [m3]
   refine eU hl (S:=SI l nt) (SI.calm1 hp.c1) (hf1.put (some yt) (show Rep W1 cx1 undef skipped from .tup #[] [] rfl (by simp))) (SI.stab (fun t e=>by cases e; exact hp.yt0) a1 _ hS1) hs1 hr2 fun a3 W3 cx3 he3 hs3 hf3 hS3=>?_
   rcases onOB_okI hr with ⟨_,hr⟩ | ⟨hg3,hr⟩
   . cases hr
   . have hw3:=M9 (ops:=ops) hf3 y (by rw [hgd]; exact hg3)
     obtain ⟨fr5,h5,hr5,hr⟩:=l7 hr
     cases hr
     unfold wpListIn
     rw [hw3]
     refine ⟨fun _ _=>trivial,?_⟩
     rw [y4]
     exact Js hl (SI.calm hp.c2) (hf3.put (some yd) (show Rep W3 cx3 undef skipped from .tup #[] [] rfl (by simp))) (SI.stab (fun t e=>by cases e; exact hyd) a3 _ hS3) hs3 hr5 fun a5 W5 cx5 he5 hs5 hf5 hS5 =>
      ⟨rfl,hS5,cx5,(la.mono he3).mono he5,hs5,hf5⟩
theorem IQ.seq {k:IF} {b:IC} {r:IRes} {e:Ex} {p':Option Ex} {fr':Tr} {h':Heap} {K:Act->World->Prop} (hr:Hs (k b) r=.ok e p' fr' h')
 (hK:∀ p1 fr1 h1 a1 w1,r=.ok .normal p1 fr1 h1->k b p1 fr1 h1=.ok e p' fr' h'->IQ E W0 cx0 ro l nt mk .normal p1 fr1 h1 .normal a1 w1->K a1 w1):∃ e1 p1 fr1 h1,r=.ok e1 p1 fr1 h1 ∧
   ∀ x a1 w1,IQ E W0 cx0 ro l nt mk e1 p1 fr1 h1 x a1 w1->Exit.then K (IQ E W0 cx0 ro l nt mk e p' fr' h') x a1 w1:=by
 cases r with
 | bad=>cases hr
 | ok e1 p1 fr1 h1 =>
  refine ⟨e1,p1,fr1,h1,rfl,fun x a1 w1 hq=>?_⟩
  obtain ⟨rfl,hq'⟩:=hq
  cases e1 with
  | normal=>exact hK p1 fr1 h1 a1 w1 rfl hr ⟨rfl,hq'⟩
  | exit i=>cases hr; exact ⟨rfl,hq'⟩
  | ret=>cases hr; exact ⟨rfl,hq'⟩
theorem eV (hc:l6 E P ih) (hl:l5 E P ih) (hY:HV E P W0 cx0 ro l mk Y):∀ (k:Nat),
 (∀ (c:Code) (ic:IC) (p p':Option Ex) (a:Act) (W:World) (cx:Cx) (fr fr':Tr) (h h':Heap) (e:Ex),parseI c=some ic->evI E ih nt Y k ic p fr h=.ok e p' fr' h'->FrRep W cx a.tmps fr->SI l nt a->LA W0 cx0 ro l (iK mk p) W cx->Sat E W cx h->c.wpIn (WF none) 0 P (IQ E W0 cx0 ro l nt mk e p' fr' h') a W) ∧
 (∀ (c:Code) (ic:IC) (p p':Option Ex) (a:Act) (W:World) (cx:Cx) (fr fr':Tr) (h h':Heap) (e:Ex),parseI c=some ic->evI E ih nt Y k (.loop ic) p fr h=.ok e p' fr' h'->FrRep W cx a.tmps fr->SI l nt a->LA W0 cx0 ro l (iK mk p) W cx->Sat E W cx h->Code.roundsIn (WF none) 0 P c (IQ E W0 cx0 ro l nt mk e p' fr' h') k a W)
 | 0=>⟨(fun c ic p p' a W cx fr fr' h h' e _ hr=>by cases hr),(fun c ic p p' a W cx fr fr' h h' e _ hr=>by cases hr)⟩
 | k + 1=>by
  obtain ⟨ihc,ihl⟩:=eV hc hl hY k
  have round:∀ (c:Code) (ic:IC) (p p':Option Ex) (a:Act) (W:World) (cx:Cx) (fr fr':Tr) (h h':Heap) (e:Ex),parseI c=some ic->evI E ih nt Y (k + 1) (.loop ic) p fr h=.ok e p' fr' h'->FrRep W cx a.tmps fr->SI l nt a->LA W0 cx0 ro l (iK mk p) W cx->Sat E W cx h->Code.roundsIn (WF none) 0 P c (IQ E W0 cx0 ro l nt mk e p' fr' h') (k + 1) a W:=by
   intro c ic p p' a W cx fr fr' h h' e hpc hr hf hS la hs
   obtain ⟨e1,p1,fr1,h1,hr1,hq⟩:=IQ.seq (E:=E) (W0:=W0) (cx0:=cx0) (ro:=ro) (l:=l) (nt:=nt) (mk:=mk) (k:=evI E ih nt Y k) (b:=.loop ic) (r:=evI E ih nt Y k ic p fr h) (K:=Code.roundsIn (WF none) 0 P c (IQ E W0 cx0 ro l nt mk e p' fr' h') k) hr
    (fun p1 fr1 h1 a1 w1 _ hk hq=>by obtain ⟨_,hS1,cx1,la1,hs1,hf1⟩:=hq; exact ihl c ic p1 p' a1 w1 cx1 fr1 fr' h1 h' e hpc hk hf1 hS1 la1 hs1)
   rw [roundsIn_succ]
   exact wpIn_mono (ihc c ic p p1 a W cx fr fr1 h h1 e1 hpc hr1 hf hS la hs) hq
  refine ⟨fun c ic p p' a W cx fr fr' h h' e hpc hr hf hS la hs=>?_,round⟩
  cases c with
  | skip=>cases hpc; cases hr; exact wpIn_skip ⟨rfl,hS,cx,la,hs,hf⟩
  | exit i=>cases hpc; cases hr; exact wpIn_exit ⟨rfl,hS,cx,la,hs,hf⟩
  | ret=>cases hpc; cases hr; exact wpIn_ret ⟨rfl,hS,cx,la,hs,hf⟩
  | region id ops draw =>
   cases draw with
   | false =>
    have hpc:l8 ops.toList=some ic:=hpc
    rcases regI_some hpc with ⟨hcalm,rfl⟩ | ⟨p0,m,p1,y,p2,yt,yd,args,hp,rfl⟩
    . obtain ⟨fr1,h1,hr1,hr⟩:=l7 (show G8 (Z8 p) (ih (xregP ops.toList ops.toList) fr h)=.ok e p' fr' h' from hr)
      cases hr
      exact Vo hl (SI.calm hcalm) hf hS hs hr1 fun a1 W1 cx1 he1 hs1 hf1 hS1=>⟨rfl,hS1,cx1,la.mono he1,hs1,hf1⟩
    . exact iL hl hY hp hr hf hS la hs
   | true =>
    have hpc:(bif R4 [0] ops.toList then some (IC.reg (xc (.region id ops true))) else none)=some ic:=hpc
    cases hcalm:R4 [0] ops.toList with
    | false=>rw [hcalm] at hpc; cases hpc
    | true =>
     rw [hcalm] at hpc
     cases hpc
     obtain ⟨fr1,h1,hr1,hr⟩:=l7 (show G8 (Z8 p) (ih (xc (.region id ops true)) fr h)=.ok e p' fr' h' from hr)
     cases hr
     refine wpIn_mono (hc none (fun _ _ a=>SI l nt a) (.region id ops true) W cx a fr h (fun _ _ _ _ _ _ h=>h) (fun i o ho _ _=>SI.calm hcalm o (List.mem_of_getElem? (by simpa using ho))) hf hS hs (by rw [hr1]; exact fun e=>by cases e)) fun x a1 w1 hq=>?_
     rw [hr1] at hq
     obtain ⟨cx1,he1,hS1,rfl,hs1,hf1⟩:=hq
     exact ⟨rfl,hS1,cx1,la.mono he1,hs1,hf1⟩
  | seq x y =>
   obtain ⟨ix,iy,h1,h2,rfl⟩:=Tc (show lU .seq (parseI x) (parseI y)=some ic from hpc)
   obtain ⟨e1,p1,fr1,h1',hr1,hq⟩:=IQ.seq (E:=E) (W0:=W0) (cx0:=cx0) (ro:=ro) (l:=l) (nt:=nt) (mk:=mk) (k:=evI E ih nt Y k) (b:=iy) (r:=evI E ih nt Y k ix p fr h) (K:=y.wpIn (WF none) 0 P (IQ E W0 cx0 ro l nt mk e p' fr' h')) hr
    (fun p1 fr1 h1' a1 w1 _ hk hq=>by obtain ⟨_,hS1,cx1,la1,hs1,hf1⟩:=hq; exact ihc y iy p1 p' a1 w1 cx1 fr1 fr' h1' h' e h2 hk hf1 hS1 la1 hs1)
   exact wpIn_seq (wpIn_mono (ihc x ix p p1 a W cx fr fr1 h h1' e1 h1 hr1 hf hS la hs) hq)
  | cond x c d =>
   obtain ⟨ix,iy,h1,h2,rfl⟩:=Tc (show lU (.cond x) (parseI c) (parseI d)=some ic from hpc)
   have hr:(opv E x fr).onBool .bad (fun t=>match t with | true=>evI E ih nt Y k ix p fr h | false=>evI E ih nt Y k iy p fr h)=.ok e p' fr' h':=hr
   have hx:=V6 (E:=E) hs hf x
   cases hv:opv E x fr with
   | bool t =>
    rw [hv] at hr hx
    cases t with
    | true=>exact wpIn_cond_true hx.bool_inv (ihc c ix p p' a W cx fr fr' h h' e h1 hr hf hS la hs)
    | false=>exact wpIn_cond_false hx.bool_inv (ihc d iy p p' a W cx fr fr' h h' e h2 hr hf hS la hs)
   | _=>rw [hv] at hr; cases hr
  | block i x =>
   obtain ⟨ix,h1,rfl⟩:=Option.map_eq_some_iff.1 (show (parseI x).map (.block i)=some ic from hpc)
   have hr:Gh i (evI E ih nt Y k ix p fr h)=.ok e p' fr' h':=hr
   cases hq:evI E ih nt Y k ix p fr h with
   | bad=>rw [hq] at hr; cases hr
   | ok e1 p1 fr1 h1' =>
    rw [hq] at hr
    refine wpIn_block (wpIn_mono (ihc x ix p p1 a W cx fr fr1 h h1' e1 h1 hq hf hS la hs) fun ex a1 w1 hi=>?_)
    obtain ⟨rfl,hi⟩:=hi
    cases e1 with
    | normal=>cases hr; exact ⟨rfl,hi⟩
    | ret=>cases hr; exact ⟨rfl,hi⟩
    | exit j =>
     have hr:(bif Nat.beq j i then IRes.ok .normal p1 fr1 h1' else .ok (.exit j) p1 fr1 h1')=.ok e p' fr' h':=hr
     show if j=i then _ else _
     by_cases hj:j=i
     . subst hj
       rw [Nat.beq_refl] at hr
       cases hr
       rw [if_pos rfl]; exact ⟨rfl,hi⟩
     . rw [Heap.beq_false hj] at hr
       cases hr
       rw [if_neg hj]; exact ⟨rfl,hi⟩
  | loop x =>
   obtain ⟨ix,h1,rfl⟩:=Option.map_eq_some_iff.1 (show (parseI x).map .loop=some ic from hpc)
   exact wpIn_loop_rounds (k + 1) (round x ix p p' a W cx fr fr' h h' e h1 hr hf hS la hs)
  | _=>cases hpc
def OR (E:Env) (W0:World) (cx0:Cx) (ro:Option Nat) (l:Nat) (mk:LoopState->Option Code->Loop) (e:Ex) (h':Heap) (ex:Exit) (a:Act) (w:World):Prop :=
 (ex=.normal∨ex=.ret)∧a.defers=[]∧∃ cx',LA W0 cx0 ro l (Fo mk e) w cx'∧Sat E w cx' h'
theorem qG (hc:l6 E P ih) (hl:l5 E P ih) {c:Code} {ic:IC} (hm:parseI c=some ic) (hY:HV E P W0 cx0 ro l mk Y) {caps:List AV} {e:Ex} {fr':Tr} {h h':Heap} (hr:itM E ih (.itf ic) nt caps Y h=.ok e fr' h')
 {a:Act} {W:World} {cx:Cx} (hf:FrRep W cx a.tmps (Tr.enter nt (.any :: caps))) (hS:SI l nt a) (la:LA W0 cx0 ro l (mk .ready none) W cx) (hs:Sat E W cx h):c.wpIn (WF none) 0 P (OR E W0 cx0 ro l mk e h') a W:=by
 have hr:finI (evI E ih nt Y itMax ic none (Tr.enter nt (.any :: caps)) h)=.ok e fr' h':=hr
 cases hq:evI E ih nt Y itMax ic none (Tr.enter nt (.any :: caps)) h with
 | bad=>rw [hq] at hr; cases hr
 | ok e1 p1 fr1 h1 =>
  rw [hq] at hr
  refine wpIn_mono ((eV hc hl hY itMax).1 c ic none p1 a W cx _ fr1 h h1 e1 hm hq hf hS la hs) fun ex a1 w1 hi=>?_
  obtain ⟨rfl,hS1,cx1,la1,hs1,_⟩:=hi
  cases e1 with
  | exit j=>cases hr
  | normal=>cases hr; exact ⟨.inl rfl,hS1.1,cx1,la1,hs1⟩
  | ret=>cases hr; exact ⟨.inr rfl,hS1.1,cx1,la1,hs1⟩
end
end
end Go.AM
/-
 The abstract machine: a range over a function,walked.
-/
namespace Go.AM
section
variable {P:Program} {E:Env} {ih:F7}
theorem Vp:∀ (l:List Nat),zO l=l.length
 | []=>rfl
 | _ :: r=>congrArg Nat.succ (Vp r)
theorem Td {W:World} {cx:Cx}:∀ (ps:List Tmp) (vs:List Value) (l:List AV) (tmps:Array Value) (fr:Tr),RepL W cx vs l->FrRep W cx tmps fr ->
 FrRep W cx ((ps.zip vs).foldl (fun tmps (p:Tmp × Value)=>tmps.setIfInBounds p.1 p.2) tmps) (setPs ps l fr)
 | [],vs,l,tmps,fr,_,hf=>hf
 | p :: ps,[],l,tmps,fr,hv,hf=>by
  cases l with
  | nil=>exact hf
  | cons x l=>have:=hv.1; simp at this
 | p :: ps,v :: vs,l,tmps,fr,hv,hf=>by
  cases l with
  | nil=>have:=hv.1; simp at this
  | cons x l =>
   show FrRep W cx ((ps.zip vs).foldl _ (tmps.setIfInBounds p v)) (setPs ps l (fr.set p x))
   refine Td ps vs l _ _ ⟨by have:=hv.1; simpa using this,fun i u c h1 h2=>hv.2 (i + 1) u c (by simpa using h1) (by simpa using h2)⟩ ?_
   have:=FrRep.put (a:=⟨tmps,[]⟩) hf (some p) (hv.2 0 v x rfl rfl)
   exact this
def bW (fn:FuncId) (tmps:Array Value) (ps:Array Tmp) (ca cb:Code) (dd:Nat) (st:LoopState) (pe:Option Code):Loop :=
 { state:=st,pending:=pe,fn,tmps,params:=ps,assign:=ca,body:=cb,defers:=dd }
theorem kW (hc:l6 E P ih) {W0:World} {cx0:Cx} {ro:Option Nat} {l:Nat} {fn:FuncId} {tmps:Array Value} {ps:Array Tmp} {ca cb:Code} {dd:Nat} {fr0:Tr} (hf0:FrRep W0 cx0 tmps fr0) :
 HV E P W0 cx0 ro l (bW fn tmps ps ca cb dd) (roundY ih ps.toList (xc ca) (xc cb) fr0):=by
 intro vs args W cx h e fr' h' hr la hs hv
 obtain ⟨hlen,hr⟩:=Yl hr
 obtain ⟨fr1,h1,hr1,hr2⟩:=kV hr
 have hsz:vs.size=ps.size:=by
  have h1:=beq_true hlen
  rw [A3,Vp] at h1
  have h2:=hv.1
  simp at h1 h2
  omega
 refine ⟨fn,_,ca,cb,run_yield la.rcd hsz,roundIn_of_wpIn trivial ?_⟩
 have hf:FrRep W cx ((ps.zip vs).foldl (fun tmps (p:Tmp × Value)=>tmps.setIfInBounds p.1 p.2) tmps) (setPs ps.toList args fr0):=by
  have:=Td ps.toList vs.toList args tmps fr0 hv (hf0.mono la.ext)
  rw [← Array.foldl_toList,Array.toList_zip]
  exact this
 show ca.wpIn (WF (some l)) 0 P _ _ W
 refine wpIn_mono (hc (some l) (DR l (bW fn tmps ps ca cb dd .ready none)) ca W cx ⟨_,[]⟩ _ h (DR.mono l _) (Y9 (DR.stab l _) (DR.rf l _) ca) hf ⟨rfl,la.held,la.rcd⟩ hs (by rw [hr1]; exact fun e=>by cases e)) fun x a1 w1 hp=>?_
 rw [hr1] at hp
 obtain ⟨cx1,he1,hd1,rfl,hs1,hf1⟩:=hp
 have la1:=la.mono he1
 refine ⟨_,run_beginRound la1.rcd rfl,?_⟩
 have e0:=la1.ext0 (st':=bW fn tmps ps ca cb dd .busy none) hs1
 have la2:=la1.put (st':=bW fn tmps ps ca cb dd .busy none) hs1
 have hs2:=hs1.putHeld la1.held e0
 show cb.wpIn (WF (some l)) 0 P _ a1 (w1.putObj l (.loop (bW fn tmps ps ca cb dd .busy none)))
 refine wpIn_mono (hc (some l) (DR l (bW fn tmps ps ca cb dd .busy none)) cb _ cx1 a1 fr1 h1 (DR.mono l _) (Y9 (DR.stab l _) (DR.rf l _) cb) (hf1.mono0 e0) ⟨hd1.1,la2.held,la2.rcd⟩ hs2 (by rw [hr2]; exact fun e=>by cases e)) fun x a3 w3 hp=>?_
 rw [hr2] at hp
 obtain ⟨cx3,he3,hd3,rfl,hs3,hf3⟩:=hp
 have la3:=la2.mono he3
 have fin:∀ st,st=Fo (bW fn tmps ps ca cb dd) e->LA W0 cx0 ro l (Fo (bW fn tmps ps ca cb dd) e) (w3.putObj l (.loop st)) cx3∧Ext0 W cx (w3.putObj l (.loop st)) cx3∧Sat E (w3.putObj l (.loop st)) cx3 h':=fun st e=>by
  subst e
  have e4:=la3.ext0 (st':=Fo (bW fn tmps ps ca cb dd) e) hs3
  exact ⟨la3.put hs3,((he1.toExt0.trans e0).trans he3.toExt0).trans e4,hs3.putHeld la3.held e4⟩
 cases e with
 | normal=>exact ⟨_,_,run_endRound none la3.rcd,rfl,cx3,fin _ rfl⟩
 | exit i=>exact ⟨_,_,run_endRound (some (.exit i)) la3.rcd,rfl,cx3,fin _ rfl⟩
 | ret=>exact ⟨_,_,run_endRound (some .ret) la3.rcd,rfl,cx3,fin _ rfl⟩
theorem kX {W:World} {cx:Cx} {h:Heap} {ro:Option Nat} {D:DP} (hD:y6 D) (hst:iH ro D) {a:Act} (hd:D W cx a) (hs:Sat E W cx h) (fn:FuncId) (ps:Array Tmp) (ca cb:Code) :
 ∃ l mk W1 cx1 dd,(Instr.enterLoop fn a.tmps ps ca cb ro).run P W=.ok (l,mk) W1∧LA W cx ro l (bW fn a.tmps ps ca cb dd .ready none) W1 cx1∧Sat E W1 cx1 h ∧
   ∀ W' cx' st,LA W cx ro l st W' cx'->D W' cx' { a with defers:=mk ++ a.defers }:=by
 cases ro with
 | none =>
  refine ⟨W.heap.size + 1,[Vn W.heap.size],_,((cx.lay W.heap.size).lay (W.alloc (.deferred (some []))).heap.size),W.heap.size,run_enterLoop_outer fn a.tmps ps ca cb,?_,(hs.lay _).lay _,?_⟩
  . have e1:=Ext.lay W cx (.deferred (some []))
    have e2:=Ext.lay (W.alloc (.deferred (some []))) (cx.lay W.heap.size) (.loop (bW fn a.tmps ps ca cb W.heap.size .ready none))
    refine ⟨e1.trans e2,.inr (by simp),?_,fun _=>⟨.inl (.inr rfl),?_⟩,Nat.le_succ _,fun _=>Nat.succ_ne_self _⟩
    . have:=I1 (W.alloc (.deferred (some []))) (.loop (bW fn a.tmps ps ca cb W.heap.size .ready none))
      rw [World.size_alloc] at this
      exact this
    . exact (C3 _ _ (by simp)).trans (I1 W _)
  . intro W' cx' st la
    obtain ⟨h1,h2⟩:=la.blk rfl
    exact hst W cx a W' cx' _ hd la.ext (Nat.le_refl _) (L3 h2) h1 h2
 | some l0 =>
  obtain ⟨rc,hrc⟩:=hst W cx a hd
  refine ⟨W.heap.size,[],_,cx.lay W.heap.size,rc.defers,run_enterLoop_inner hrc fn a.tmps ps ca cb,?_,hs.lay _,?_⟩
  . exact ⟨Ext.lay W cx _,.inr rfl,I1 W _,(fun e=>by cases e),Nat.le_refl _,(fun e=>by cases e)⟩
  . intro W' cx' st la
    exact hD _ _ _ _ _ la.ext hd
theorem orM_itf {x:Option FM} {y:FM} {m:FM} (h:HY x y=m):x=some m∨(x=none∧y=m):=by
 cases x with
 | none=>exact .inr ⟨rfl,h⟩
 | some z=>cases h; exact .inl rfl
theorem Lr {c:Code} {m:FM} (h:Kb c=some m):∃ id o o' rest d d2 ops,c=.seq (.region id ops false) rest∧ops.toList=[o,o']∧isRc o=some d∧isAs d o'=some d2∧X1 [] rest=true∧m=.rcv d d2 (xc rest):=by
 unfold Kb at h
 split at h
 . rename_i id ops rest
   split at h
   . rename_i o o' ho
     cases h1:isRc o with
     | none=>rw [h1] at h; cases h
     | some d =>
      rw [h1] at h
      dsimp only at h
      cases h2:isAs d o' with
      | none=>rw [h2] at h; cases h
      | some d2 =>
       rw [h2] at h
       dsimp only at h
       cases h3:X1 [] rest with
       | false=>rw [h3] at h; cases h
       | true=>rw [h3] at h; cases h; exact ⟨id,o,o',rest,d,d2,ops,rfl,ho,h1,h2,h3,rfl⟩
   . cases h
 . cases h
theorem Ls {rs:List ResultVar} {x:DfC} {m:FM} (h:Gj rs x=some m):∃ o r g,x.ops.toList.reverse=o :: r∧isDf o=some g∧fB [] r.reverse=true∧x.pre.all (X1 [])=true∧X1 (rs.map Ct) x.rest=true∧m=.dfr (x.pre.map xc ++ [xregP x.ops.toList r.reverse]) g (xc x.rest):=by
 unfold Gj at h
 split at h
 . cases h
 . rename_i o r ho
   cases h1:isDf o with
   | none=>rw [h1] at h; cases h
   | some g =>
    rw [h1] at h
    dsimp only at h
    cases h2:(fB [] r.reverse && x.pre.all (X1 []) && X1 (rs.map Ct) x.rest) with
    | false=>rw [h2] at h; cases h
    | true =>
     rw [h2] at h; cases h
     simp only [Bool.and_eq_true] at h2
     exact ⟨o,r,g,ho,h1,h2.1.1,h2.1.2,h2.2,rfl⟩
theorem zK {rs:List ResultVar} {c:Code} {m:FM} (h:(bif Bu rs then Kb c else none)=some m):Bu rs=true∧Kb c=some m:=by
 cases hn:Bu rs with
 | false=>rw [hn] at h; cases h
 | true=>rw [hn] at h; exact ⟨rfl,h⟩
theorem zL {rs:List ResultVar} {c:Code} {m:FM} (h:(match parseI c with | some x=>bif Bu rs && handsI x then some (.itf x) else none | none=>none)=some m):∃ x,parseI c=some x∧Bu rs=true∧m=.itf x:=by
 cases hp:parseI c with
 | none=>rw [hp] at h; cases h
 | some x =>
  rw [hp] at h
  dsimp only at h
  cases hn:(Bu rs && handsI x) with
  | false=>rw [hn] at h; cases h
  | true =>
   rw [hn] at h
   cases h
   rw [Bool.and_eq_true] at hn
   exact ⟨x,rfl,hn.1,rfl⟩
theorem zM {rs:List ResultVar} {c:Code} {m:FM} (h:(match parseD c with | some x=>Gj rs x | none=>none)=some m):∃ x,parseD c=some x∧Gj rs x=some m:=by
 cases hp:parseD c with
 | none=>rw [hp] at h; cases h
 | some x=>rw [hp] at h; exact ⟨x,rfl,h⟩
theorem fmOf_cases {rs:List ResultVar} {c:Code} {m:FM} (h:fmOf rs c=m) :
 (Bu rs=true∧Kb c=some m)∨(∃ x,parseD c=some x∧Gj rs x=some m)∨(∃ x,parseI c=some x∧Bu rs=true∧m=.itf x)∨m=.plain:=by
 unfold fmOf at h
 rcases orM_itf h with h | ⟨_,h⟩
 . exact .inl (zK h)
 . rcases orM_itf h with h | ⟨_,h⟩
   . exact .inr (.inl (zM h))
   . rcases orM_itf h with h | ⟨_,h⟩
     . exact .inr (.inr (.inl (zL h)))
     . exact .inr (.inr (.inr h.symm))
theorem Vq {f : FuncId} {fn : Func} {c : Code} (h1 : P.funcs[f]? = some fn) (h2 : fn.body = some c) (h3 : (fn.name == "runtime.NumGoroutine") = false) (args : Array Value) (w : World) : (callFunc f args).run P w = .ok (.enter f args) w := by
 have hn : ¬ fn.name = "runtime.NumGoroutine" := fun e => by rw [e] at h3; simp at h3
 simp [callFunc,h1,h2,hn]
theorem wO {W:World} {cx:Cx} {v:Value} {f:Nat} {caps:List AV} (h:Rep W cx v (.fn (.func f) [] caps)):∃ ws,v=.func (.func f) #[] ws∧RepL W cx ws.toList caps:=by
 cases h with
 | fn f vs ws cs ds hl hl' h h' =>
  have:vs=#[]:=Array.eq_empty_of_size_eq_zero (by simpa using hl)
  subst this
  exact ⟨ws,rfl,⟨by simpa using hl',fun i v c p q=>h' i v c (by simpa using p) q⟩⟩
theorem Ym {l:List AV} (h:noneL l=true):l=[]:=by cases l; rfl; cases h
theorem noRes_true {l:List ResultVar} (h:Bu l=true):l=[]:=by cases l; rfl; cases h
theorem kY {ps:List Tmp} {xa xb:XC} {fr:Tr} {h:Heap} {g:AV} (hb:rfnA E ih ps xa xb fr h g ≠ .bad) :
 ∃ f caps fi e fr' h',g=.fn (.func f) [] caps∧E.fn f=some fi∧caps.length + 1≤fi.ntmps∧itM E ih fi.mode fi.ntmps caps (roundY ih ps xa xb fr) h=.ok e fr' h'∧rfnA E ih ps xa xb fr h g=.ok e fr h':=by
 cases g with
 | fn f first caps =>
  cases f with
  | func n =>
   have e:rfnA E ih ps xa xb fr h (.fn (.func n) first caps)=bif noneL first then backA fr (itF E ih n caps (roundY ih ps xa xb fr) h) else .bad:=rfl
   rw [e] at hb ⊢
   cases hn:noneL first with
   | false=>rw [hn] at hb; exact absurd rfl hb
   | true =>
    rw [hn] at hb
    have:=Ym hn
    subst this
    simp only [cond_true] at hb ⊢
    cases hq:itF E ih n caps (roundY ih ps xa xb fr) h with
    | bad=>rw [hq] at hb; exact absurd rfl hb
    | pan v hh=>rw [hq] at hb; exact absurd rfl hb
    | ok ex fr' h' =>
     unfold itF at hq
     cases hf:E.fn n with
     | none=>rw [hf] at hq; cases hq
     | some fi =>
      rw [hf] at hq
      obtain ⟨h1,h2⟩:=Yl hq
      have h1:=C7 h1
      rw [A3] at h1
      exact ⟨n,caps,fi,ex,fr',h',rfl,hf,h1,h2,rfl⟩
  | _=>exact absurd rfl hb
 | _=>exact absurd rfl hb
theorem kZ {mo:FM} {nt:Nat} {caps:List AV} {Y:List AV->Heap->CRes} {h:Heap} {e:Ex} {fr':Tr} {h':Heap} (hr:itM E ih mo nt caps Y h=.ok e fr' h'):∃ c,mo=.itf c:=by
 cases mo with
 | itf c=>exact ⟨_,rfl⟩
 | _=>cases hr
theorem iM (hE:EnvOk E P) (hc:l6 E P ih) (hl:l5 E P ih) {ro:Option Nat} {D:DP} {g:Operand} {ps:Array Tmp} {ca cb:Code} {W:World} {cx:Cx} {a:Act} {fr:Tr} {h:Heap} (hD:y6 D) (hst:iH ro D) (hf:FrRep W cx a.tmps fr) (hd:D W cx a) (hs:Sat E W cx h)
 (hb:rfnA E ih ps.toList (xc ca) (xc cb) fr h (opv E g fr) ≠ .bad):(Code.rangeFunc g ps ca cb).wpIn (WF ro) 0 P (U3 E W cx D (rfnA E ih ps.toList (xc ca) (xc cb) fr h (opv E g fr))) a W:=by
 obtain ⟨f,caps,fi,e,fr',h',hg,hfi,hle,hit,hres⟩:=kY hb
 have hv:=V6 (E:=E) hs hf g
 rw [hres]
 rw [hg] at hv
 obtain ⟨ws,hv,hcaps⟩:=wO hv
 obtain ⟨fn,c,h1,h2,h3,h4,h5,h6,h7⟩:=hE.fn f fi hfi
 obtain ⟨ic,hmode⟩:=kZ hit
 have ⟨hx1,hx2⟩:parseI c=some ic∧Bu fn.results.toList=true:=by
  rcases fmOf_cases h7.symm with ⟨_,h⟩ | ⟨x,_,h⟩ | ⟨x,h1,h2,h⟩ | h
  . obtain ⟨_,_,_,_,_,_,_,_,_,_,_,_,h⟩:=Lr h; rw [hmode] at h; cases h
  . obtain ⟨_,_,_,_,_,_,_,_,h⟩:=Ls h; rw [hmode] at h; cases h
  . rw [hmode] at h; cases h; exact ⟨h1,h2⟩
  . rw [hmode] at h; cases h
 rw [hmode] at hit
 refine wpIn_rangeFunc fun fn0 _=>?_
 obtain ⟨l,mk,W1,cx1,dd,hen,la,hs1,hend⟩:=kX (P:=P) hD hst hd hs fn0 ps ca cb
 have eg:=Vq h1 h2 h3
 refine ⟨l,mk,W1,{ target:=.fn (.func f) ws,args:=#[Y0 l] },W1,f,#[Y0 l] ++ ws,W1,hen,?_,fun _ _=>trivial,?_,fun h=>by simp [WF,Fence.wide] at h,?_⟩
 . simp [resolve,rangeCall,hv,Deferred.ofValue,Y0,show ∀ v,a.eval (.const v)=v from fun _=>rfl]
 . simp [invoke,eg]
 . refine Hn.2 (Hn (ro:=none) (n:=0).1 (callsIn_of_wp (F:=WF none) (n:=0) h1 h2 trivial ?_ rfl))
   have hargs:RepL W1 cx1 (#[Y0 l] ++ ws).toList (.any :: caps):=by
    have:=hcaps.mono la.ext
    simpa using RepL.cons (Rep.any (Y0 l) rfl) this
   have hsz:ws.size=caps.length:=by have:=hcaps.1; simpa using this
   have hfr:=Jq hargs (n:=fi.ntmps) (by simpa using hle)
   rw [h5] at hfr hit hle
   refine wpIn_mono (qG hc hl hx1 (kW hc hf) hit (a:=⟨#[Y0 l] ++ ws ++ Array.replicate (fn.ntmps - (#[Y0 l] ++ ws).size) undef,[]⟩) hfr ⟨rfl,by simp [Array.getD],by simp; omega⟩ la hs1) fun ex a' w' hq=>?_
   obtain ⟨hex,hdf,cx',la',hs'⟩:=hq
   have hresults:∃ v,(results fn a'.tmps).run P w'=.ok v w':=by
    obtain ⟨v,hv,_⟩:=Fm (P:=P) (fr:=.nil) (tmps:=a'.tmps) (fn:=fn) (vs:=[]) hE hs' (fun x hx=>by rw [noRes_true hx2] at hx; cases hx) (by rw [noRes_true hx2]; rfl)
    exact ⟨v,hv⟩
   obtain ⟨v,hv⟩:=hresults
   have fin:rangePost (WF ro) 0 P l (U3 E W cx D (.ok e fr h')) { a with defers:=mk ++ a.defers } (.returned v) w':=by
    have nb:(Fo (bW fn0 a.tmps ps ca cb dd) e).state ≠ .busy:=by cases e <;> exact fun e=>by cases e
    have e4:=la'.ext0 (st':={ Fo (bW fn0 a.tmps ps ca cb dd) e with state:=.exhausted }) hs'
    have la4:=la'.put (st':={ Fo (bW fn0 a.tmps ps ca cb dd) e with state:=.exhausted }) hs'
    have hs4:=hs'.putHeld la'.held e4
    refine ⟨_,_,run_endLoop la'.rcd nb,?_⟩
    have post:U3 E W cx D (.ok e fr h') (Wj e) { a with defers:=mk ++ a.defers } (w'.putObj l (.loop { Fo (bW fn0 a.tmps ps ca cb dd) e with state:=.exhausted })) :=
     ⟨cx',la4.ext,hend _ _ _ la4,rfl,hs4,hf.mono la4.ext⟩
    cases e with
    | normal=>exact post
    | exit i=>exact wpIn_exit post
    | ret=>exact wpIn_ret post
   rcases hex with rfl | rfl
   . exact ⟨hdf,v,hv,fin⟩
   . exact ⟨hdf,v,hv,fin⟩
end
end Go.AM
/-
 The abstract machine: functions that defer a call which recovers; calls; code.
-/
namespace Go.AM
section
variable {P:Program} {E:Env}
theorem iN {E:Env} {rs:List ResultVar} {fr:Tr} {h:Heap} (hb:Ly (G7 E rs fr h) h ≠ .bad):∃ vs,G7 E rs fr h=some vs∧Ly (G7 E rs fr h) h=.ok (oneOrTup vs) h:=by
 cases hr:G7 E rs fr h with
 | none=>rw [hr] at hb; exact absurd rfl hb
 | some vs=>exact ⟨vs,rfl,rfl⟩
theorem Ce {cx:Cx} {fn:Func} {tmps:Array Value} {R:Ending->World->Prop} {J:World->Prop} {n0:Nat} {u:FrameMode} (hu:u ≠ .run)
 (hJ:∀ W r,J W->n0≤r->cx.held r->W.heap[r]?=some (.deferred (some []))->J (W.putObj r (.deferred none)))
 (hend:∀ W,J W->LeavesInM (WF none) 0 P fn tmps R [] u W):∀ (rs:List Nat) (W:World),rs.Nodup->(∀ r∈rs,n0≤r∧cx.held r∧W.heap[r]?=some (.deferred (some [])))->J W->LeavesInM (WF none) 0 P fn tmps R (rs.map Vn) u W
 | [],W,_,_,hj=>hend W hj
 | r :: rs,W,hn,hr,hj=>by
  obtain ⟨h1,h2,h3⟩:=hr r (List.mem_cons_self ..)
  obtain ⟨hnr,hn⟩:=List.nodup_cons.1 hn
  refine ⟨hu,.inl ⟨r,_,rfl,run_takeDeferred h3,?_⟩⟩
  refine Ce hu hJ hend rs _ hn (fun r' hr'=>?_) (hJ W r hj h1 h2 h3)
  obtain ⟨h4,h5,h6⟩:=hr r' (List.mem_cons_of_mem _ hr')
  exact ⟨h4,h5,(World.putObj_heap_other fun e=>hnr (by subst e; exact hr')).trans h6⟩
theorem qH {x:Option (List Deferred)}:Nh (.deferred x):=fun _ _ _ e=>by cases e
theorem Oj (hE:EnvOk E P) {ih:F7} (hc:l6 E P ih) {f:Nat} {fn:Func} {c:Code} (h1:P.funcs[f]?=some fn) (h2:fn.body=some c) {args:Array Value} {l:List AV} {W:World} {cx:Cx} {h:Heap} (hl:RepL W cx args.toList l) (hn:l.length≤fn.ntmps) (hs:Sat E W cx h)
 (hb:M1 E fn.results.toList (ih (xc c) (Tr.enter fn.ntmps l) h) ≠ .bad):Calls P f args W ((M1 E fn.results.toList (ih (xc c) (Tr.enter fn.ntmps l) h)).Post E W cx):=by
 have hfr:=Jq hl hn
 have hb1:ih (xc c) (Tr.enter fn.ntmps l) h ≠ .bad:=fun e=>by rw [e] at hb; exact hb rfl
 refine Hn.1 (callsIn_of_wp_marks (F:=WF none) (n:=0) h1 h2 trivial (wpIn_mono (hc none (D0 W.heap.size) c W cx ⟨_,[]⟩ _ h (D0.mono _) (Y9 (D0.stab _) (D0.push _) c) hfr ⟨Nat.le_refl _,[],rfl,List.nodup_nil,by simp⟩ hs hb1) fun x a w hp=>?_) rfl)
 obtain ⟨cx',he,⟨h0,rs,hrs,hnd,hmk⟩,hp⟩:=hp
 have hmk':∀ r∈rs,W.heap.size≤r∧cx'.held r∧w.heap[r]?=some (.deferred (some [])):=fun r hr=>by obtain ⟨a1,a2,a3,a4⟩:=hmk r hr; exact ⟨a1,a3,a4⟩
 generalize ih (xc c) (Tr.enter fn.ntmps l) h=r at *
 cases r with
 | bad=>exact absurd rfl hb1
 | pan v h' =>
  obtain ⟨vv,rfl,h7,h8⟩:=hp
  show LeavesInM (WF none) 0 P fn a.tmps _ a.defers (.panicking _) w
  rw [hrs]
  refine Ce (J:=fun w=>Ext W cx w cx'∧Sat E w cx' h'∧Rep w cx' vv v) (fun e=>by cases e) (fun w r hj hr1 hr2 hr3=>?_) (fun w hj=>?_) rs w hnd hmk' ⟨he,h7,h8⟩
  . have e0:=Ext0.putHeld (o:=.deferred none) hj.2.1 hr2 hr3 qH qH
    exact ⟨hj.1.putHi hr1 e0,hj.2.1.putHeld hr2 e0,hj.2.2.mono0 e0⟩
  . exact ⟨cx',vv,rfl,hj.1,hj.2.1,hj.2.2⟩
 | ok e fr h' =>
  obtain ⟨rfl,h7,h8⟩:=hp
  have key:Ly (G7 E fn.results.toList fr h') h' ≠ .bad->LeavesInM (WF none) 0 P fn a.tmps ((Ly (G7 E fn.results.toList fr h') h').Post E W cx) a.defers .returning w:=by
   intro hb
   obtain ⟨vs,hr,hr'⟩:=iN hb
   rw [hrs,hr']
   refine Ce (J:=fun w=>Ext W cx w cx'∧Sat E w cx' h'∧FrRep w cx' a.tmps fr) (fun e=>by cases e) (fun w r hj hr1 hr2 hr3=>?_) (fun w hj=>?_) rs w hnd hmk' ⟨he,h7,h8⟩
   . have e0:=Ext0.putHeld (o:=.deferred none) hj.2.1 hr2 hr3 qH qH
     exact ⟨hj.1.putHi hr1 e0,hj.2.1.putHeld hr2 e0,hj.2.2.mono0 e0⟩
   . obtain ⟨v,h9,h10⟩:=Fm (P:=P) hE hj.2.1 (fun x _=>hj.2.2.rep _) hr
     exact ⟨v,h9,cx',hj.1,hj.2.1,h10⟩
  cases e with
  | exit i=>exact absurd rfl hb
  | normal=>exact key hb
  | ret=>exact key hb
theorem iO (hE:EnvOk E P) {f:Nat} (ht:E.told f=true) {args:Array Value} {l:List AV} {W:World} {cx:Cx} {h:Heap} (hl:RepL W cx args.toList l) (hs:Sat E W cx h) (hb:toldA l h ≠ .bad) :
 (∃ fn c, P.funcs[f]? = some fn ∧ fn.body = some c ∧ (fn.name == "runtime.NumGoroutine") = false) ∧ Calls P f args W ((toldA l h).Post E W cx) := by
 obtain ⟨g,fn,c,hg,h1,h2,h3,h4⟩:=hE.told f ht
 refine ⟨⟨fn,c,h1,h2,h3⟩,?_⟩
 obtain ⟨⟨m,hm⟩,_,_⟩:=hs.gl.int g hg
 cases l with
 | nil=>exact absurd rfl hb
 | cons x r =>
  cases r with
  | nil=>exact absurd rfl hb
  | cons y r =>
   have e:toldA (x :: y :: r) h=bif noneL r then x.onStr .bad (fun s=>y.onStr .bad fun p=>bif Nat.ble (c8 s) 4000000000 || oneB p then (match contS p s with | true=>.ok (.bool true) h | false=>.ok (.bool false) h) else .bad) else .bad:=rfl
   rw [e] at hb ⊢
   cases hn:noneL r with
   | false=>rw [hn] at hb; exact absurd rfl hb
   | true =>
    rw [hn] at hb
    have:=Ym hn
    subst this
    simp only [cond_true] at hb ⊢
    cases x with
    | str s =>
     cases y with
     | str p =>
      have hb:(bif Nat.ble (c8 s) 4000000000 || oneB p then (match contS p s with | true=>Res.ok (.bool true) h | false=>.ok (.bool false) h) else .bad) ≠ .bad:=hb
      show Calls P f args W ((bif Nat.ble (c8 s) 4000000000 || oneB p then (match contS p s with | true=>Res.ok (.bool true) h | false=>.ok (.bool false) h) else .bad).Post E W cx)
      cases hle:(Nat.ble (c8 s) 4000000000 || oneB p) with
      | false=>rw [hle] at hb; exact absurd rfl hb
      | true =>
       have hle:s.length≤4000000000∨p.length=1:=by
        rcases Bool.or_eq_true_iff.1 hle with h1 | h1
        . have h1:=C7 h1
          rw [g9] at h1
          exact .inl h1
        . cases p with
          | nil=>cases h1
          | cons a q=>cases q with
           | nil=>exact .inr rfl
           | cons b q=>cases h1
       obtain ⟨v1,hv1,hr1⟩:=hl.get (i:=0) rfl
       obtain ⟨v2,hv2,hr2⟩:=hl.get (i:=1) rfl
       obtain ⟨s',rfl,hs'⟩:=hr1.str_inv
       obtain ⟨p',rfl,hp'⟩:=hr2.str_inv
       have hargs:args=#[.string s',.string p']:=by
        have hlen:args.size=2:=by have:=hl.1; simpa using this
        apply Array.ext_getElem?
        intro i
        match i with
        | 0=>simpa using hv1
        | 1=>simpa using hv2
        | i + 2=>simp [hlen]
       subst hargs
       have hsz:s'.size < 4294967281∨p'.size=1:=by
        rcases hle with hle | hle
        . have:s'.size=s'.data.toList.length:=by simp
          exact .inl (by rw [this,hs']; omega)
        . have:p'.size=p'.data.toList.length:=by simp
          exact .inr (by rw [this,hp']; exact hle)
       refine (h4 s' p' m W hsz hm).mono fun en w' he=>?_
       obtain ⟨rfl,rfl⟩:=he
       simp only [cond_true]
       rw [hs',hp']
       cases contS p s with
       | true=>exact ⟨cx,Ext.refl _ _,hs,.bool _⟩
       | false=>exact ⟨cx,Ext.refl _ _,hs,.bool _⟩
     | _=>exact absurd rfl hb
    | _=>exact absurd rfl hb
inductive Mode:FrameMode->FrameMode->Value->Prop
 | ret:Mode .returning .returning .nilIface
 | pan (v:Value):Mode (.panicking [{ v:=v,recovered:=false }]) (.panicking [{ v:=v,recovered:=true }]) v
end
end Go.AM
/-
 The abstract machine: maps.DeleteFunc,told of: its predicate is called at each entry,in whatever order.
-/
namespace Go.AM
section
variable {P:Program} {E:Env}
theorem Rep.cut {W1 W2:World} {cx1 cx2:Cx} {H:Nat->Prop} {v:Value} {a:AV} (h:Rep W2 cx2 v a):∀ {v0:Value},Rep W1 cx1 v0 a->Rep W2 ⟨cx2.μ,cx1.nx,cx2.own,H⟩ v a:=by
 have get:∀ {vs:Array Value} {cs:List AV} {i:Nat} {c:AV},vs.size=cs.length->cs[i]?=some c->∃ v,vs[i]?=some v:=fun {vs cs i c} hl hc=>by
  have:i < cs.length:=by
   rcases Nat.lt_or_ge i cs.length with h' | h'
   . exact h'
   . rw [List.getElem?_eq_none h'] at hc; cases hc
  exact ⟨vs[i],Array.getElem?_eq_getElem (by omega)⟩
 induction h with
 | int k n=>intro _ _; exact .int k n
 | bool b=>intro _ _; exact .bool b
 | str s=>intro _ _; exact .str s
 | agg vs cs hl _ ih =>
  intro v0 h0
  cases h0 with
  | agg vs0 _ hl0 h0=>exact .agg vs cs hl fun i v c h1 h2=>by obtain ⟨u,hu⟩:=get hl0 h2; exact ih i v c h1 h2 (h0 i u c hu h2)
 | tup vs cs hl _ ih =>
  intro v0 h0
  cases h0 with
  | tup vs0 _ hl0 h0=>exact .tup vs cs hl fun i v c h1 h2=>by obtain ⟨u,hu⟩:=get hl0 h2; exact ih i v c h1 h2 (h0 i u c hu h2)
 | fsl a b o n cap es full sz g hn hc hf ha hsz hcell hone _ hnn ih =>
  intro v0 h0
  cases h0 with
  | fsl a0 b0 o0 n0 cap0 _ _ sz0 g0 hn0 hc0 hf0 ha0 hsz0 hcell0 hone0 hrep0 _=>exact .fsl a b o n cap es full sz g hn hc hf ha hsz hcell hone (fun i e j c h1 h2=>ih i e j c h1 h2 (hrep0 i e j c h1 h2)) hnn
 | fptr b o off v g ho hb hcell hone _ ih =>
  intro v0 h0
  cases h0 with
  | fptr b0 o0 _ _ g0 ho0 hb0 hcell0 hone0 hrep0=>exact .fptr b o off v g ho hb hcell hone fun j c h1=>ih j c h1 (hrep0 j c h1)
 | msl a n cap id off sz hid hz hb hc ha hnn =>
  intro v0 h0
  cases h0 with
  | msl _ _ _ _ _ _ hid0 _ _ _ _ _=>exact .msl a n cap id off sz hid0 hz hb hc ha hnn
 | nilsl=>intro _ _; exact .nilsl
 | ptr id i off hid hb =>
  intro v0 h0
  cases h0 with
  | ptr _ _ _ hid0 hb0=>exact Rep.ptr (cx:=⟨cx2.μ,cx1.nx,cx2.own,H⟩) id i off hid0 hb
 | nilptr=>intro _ _; exact .nilptr
 | nilmap=>intro _ _; exact .nilmap
 | map id hid hb =>
  intro v0 h0
  cases h0 with
  | map _ hid0 hb0=>exact Rep.map (cx:=⟨cx2.μ,cx1.nx,cx2.own,H⟩) id hid0 hb
 | fn f vs ws cs ds hl hl' _ _ ih ih' =>
  intro v0 h0
  cases h0 with
  | fn _ vs0 ws0 _ _ hl0 hl0' h0 h0' =>
   exact .fn f vs ws cs ds hl hl' (fun i v c h1 h2=>by obtain ⟨u,hu⟩:=get hl0 h2; exact ih i v c h1 h2 (h0 i u c hu h2)) (fun i v c h1 h2=>by obtain ⟨u,hu⟩:=get hl0' h2; exact ih' i v c h1 h2 (h0' i u c hu h2))
 | nilfn=>intro _ _; exact .nilfn
 | iface t v a _ ih =>
  intro v0 h0
  cases h0 with
  | iface _ v0 _ h0=>exact .iface t v a (ih h0)
 | niliface=>intro _ _; exact .niliface
 | any v hv=>intro _ _; exact .any v hv
 | und v=>intro _ _; exact .und v
theorem I0.cut {W1 W2:World} {cx1 cx2:Cx} {H:Nat->Prop} {p p0:Nat × Nat × Nat} {o:AObj} (h:I0 W2 cx2 p o) (h0:I0 W1 cx1 p0 o):I0 W2 ⟨cx2.μ,cx1.nx,cx2.own,H⟩ p o:=by
 cases o with
 | row es sz =>
  obtain ⟨h1,c,t,g,h2,h3,h4,h5⟩:=h
  obtain ⟨_,_,_,_,_,_,_,k5⟩:=h0
  exact ⟨h1,c,t,g,h2,h3,h4,fun i e j c' a b=>let ⟨x,y,z⟩:=h5 i e j c' a b; ⟨x,y,z.cut (k5 i e j c' a b).2.2⟩⟩
 | mapo es =>
  obtain ⟨ents,clock,l,h1,hp,h2,h3,h4,h5⟩:=h
  obtain ⟨ents0,clock0,l0,k1,_,k2,k3,_,_⟩:=h0
  refine ⟨ents,clock,l,h1,hp,h2,fun i e q a b=>?_,h4,h5⟩
  have:i < es.length:=by
   rcases Nat.lt_or_ge i es.length with h' | h'
   . exact h'
   . rw [List.getElem?_eq_none h'] at b; cases b
  obtain ⟨x,y⟩:=h3 i e q a b
  obtain ⟨x0,y0⟩:=k3 i (l0[i]'(by omega)) q (List.getElem?_eq_getElem _) b
  exact ⟨x.cut x0,y.cut y0⟩
def Cx.holds (cx:Cx) (H:Nat->Prop):Cx:=⟨cx.μ,cx.nx,cx.own,fun i=>cx.held i∨H i⟩
theorem Cx.holds_ext (W:World) (cx:Cx) (H:Nat->Prop):Ext W cx W (cx.holds H):=⟨⟨Nat.le_refl _,fun _ _=>rfl,Nat.le_refl _,fun _ _ _=>rfl,fun _ _=>rfl,fun _ _ h=>h⟩,fun _ _ h=>⟨.inl h,rfl⟩,rfl,rfl,rfl⟩
theorem Sat.holds {W:World} {cx:Cx} {h:Heap} (hs:Sat E W cx h) {H:Nat->Prop} (hH:∀ b,H b->b < W.heap.size∧cx.own b) (hf:∀ id o,h.get id=some o->¬ H (cx.μ id).1):Sat E W (cx.holds H) h where
 nx:=hs.nx
 objs id o ho:=by obtain ⟨h1,h2,h3,h4⟩:=hs.objs id o ho; exact ⟨h1,h2,h3,h4.mono (Cx.holds_ext W cx H) rfl⟩
 inj:=hs.inj
 gl:=hs.gl.mono (Cx.holds_ext W cx H)
 held b hb:=hb.elim (hs.held b) (hH b)
 free id o ho hh:=hh.elim (hs.free id o ho) (hf id o ho)
theorem Sat.forget {W1 W2:World} {cx1 cx2:Cx} {H:Nat->Prop} {h h1:Heap} (hs:Sat E W1 cx1 h) (he:Ext W1 (cx1.holds H) W2 cx2) (hs2:Sat E W2 cx2 h1) (hg:∀ i,i < h.next->h1.get i=h.get i) :
 Ext W1 cx1 W2 ⟨cx2.μ,cx1.nx,cx2.own,cx1.held⟩∧Sat E W2 ⟨cx2.μ,cx1.nx,cx2.own,cx1.held⟩ h:=by
 have hext:Ext W1 cx1 W2 ⟨cx2.μ,cx1.nx,cx2.own,cx1.held⟩:=⟨⟨Nat.le_refl _,he.mu,he.sz,he.keep,he.shape,he.own⟩,fun b hb hh=>⟨hh,(he.hold b hb (.inl hh)).2⟩,he.out⟩
 refine ⟨hext,⟨hs.nx,fun id o ho=>?_,fun id id' o o' ho ho' e=>?_,hs.gl.mono hext,fun b hb=>?_,fun id o ho hh=>?_⟩⟩
 . obtain ⟨k1,k2,k3,k4⟩:=hs.objs id o ho
   have h1o:h1.get id=some o:=by rw [hg id (by rw [hs.nx]; exact k1)]; exact ho
   obtain ⟨_,m2,m3,m4⟩:=hs2.objs id o h1o
   exact ⟨k1,m2,m3,m4.cut k4⟩
 . have e1:=he.mu id (hs.objs id o ho).1
   have e2:=he.mu id' (hs.objs id' o' ho').1
   exact hs.inj id id' o o' ho ho' (by rw [← show cx2.μ id=cx1.μ id from e1,← show cx2.μ id'=cx1.μ id' from e2]; exact e)
 . obtain ⟨k1,k2⟩:=hs.held b hb
   exact hs2.held b (he.hold b k1 (.inl hb)).1
 . have e1:cx2.μ id=cx1.μ id:=he.mu id (hs.objs id o ho).1
   rw [show (Cx.μ ⟨cx2.μ,cx1.nx,cx2.own,cx1.held⟩ id)=cx2.μ id from rfl,e1] at hh
   exact hs.free id o ho hh
theorem lC (hE:EnvOk E P) {ih:F7} (hc:l6 E P ih) (hpr:∀ (c:XC) (fr:Tr) (h h':Heap),CRes.heap (ih c fr h)=some h'->Pres h h') {f:Nat} {ks:List Nat} (hd:E.dlf f=some ks) {args:Array Value} {l:List AV} {W:World} {cx:Cx} {h:Heap}
 (hl:RepL W cx args.toList l) (hs:Sat E W cx h) (hb:cM E ih ks l h ≠ .bad):Hv P f∧Calls P f args W ((cM E ih ks l h).Post E W cx):=absurd rfl hb
end
end Go.AM
/-
 The abstract machine: slices.Sorted at a map's keys,told of.
-/
namespace Go.AM
section
variable {P:Program} {E:Env}
theorem lD (hE:EnvOk E P) {f:Nat} {args:Array Value} {l:List AV} {W:World} {cx:Cx} {h:Heap} {r:Res}
 (hl:RepL W cx args.toList l) (hs:Sat E W cx h) (hr:srtA E f l h=some r) (hb:r ≠ .bad):Hv P f∧Calls P f args W (r.Post E W cx):=by cases hr
end
end Go.AM
/-
 The abstract machine: maps.DeleteFunc: its loop,step by step,over whatever is kept.
-/
namespace Go.AM
open Go.Maps (Keyed)
structure DlS (W:World) (b clock:Nat) (ents:Array MapEntry) (J:World->Prop) (K:MapEntry->Prop) (seen:Array Nat) (n:Nat) (wr:World):Prop where
 ex:∃ (es:Array MapEntry) (c0:Nat),wr.heap[b]?=some (.map es clock)∧wr.heap[W.heap.size]?=some (.mapIter (some b) clock seen c0)∧clock≤c0∧MapKept.Stamped es clock∧es.toList.Sublist ents.toList ∧
  (∀ x∈ents.toList,x∈es.toList ↔ K x)∧(leftOf es seen).size=n
 keep:J wr
 lt:W.heap.size < wr.heap.size
def OS (W:World) (b:Nat) (J:World->Prop):Prop :=
 ∀ W1 W2,J W1->W1.heap.size≤W2.heap.size->(∀ i,i ≠ b->i ≠ W.heap.size->i < W1.heap.size->W2.heap[i]?=W1.heap[i]?)->(∀ i,i < W1.heap.size->V3 W2 i=V3 W1 i)->W2.os=W1.os->W2.tape=W1.tape->W2.output=W1.output->J W2
section
variable {P:Program} {W:World} {b clock:Nat} {ents:Array MapEntry} {J:World->Prop} {K K':MapEntry->Prop} {seen:Array Nat} {n:Nat} {wr:World} {pd:MapEntry->Bool}
theorem Te {w:World} {i:Nat} {o:Obj} (h:w.heap[i]?=some o) (ho:∀ c t f,o ≠ .cells c t f):V3 w i=0:=by
 unfold V3
 rw [h]
 cases o with
 | cells c t f=>exact absurd rfl (ho c t f)
 | _=>rfl
theorem qI {w w':World} {i:Nat} (h:w'.heap[i]?=w.heap[i]?):V3 w' i=V3 w i:=by unfold V3; rw [h]
theorem DlS.next (hJ:OS W b J) (hst:MapKept.Stamped ents clock) (hbr:b < W.heap.size) (h:DlS W b clock ents J (fun x=>pd x=false∨x.born ∉ seen) seen n wr) (ty:TypeId) :
 (n=0∧(Instr.next (.pointer (some ⟨W.heap.size,0,none⟩)) false ty).run P wr=.ok (.tuple #[.bool false]) wr∧∃ ents',wr.heap[b]?=some (.map ents' clock)∧ents'.toList=ents.toList.filter fun e=>!pd e) ∨
 ∃ e w' n',e∈ents.toList∧(pd e=false∨e.born ∉ seen)∧e.born ∉ seen∧(Instr.next (.pointer (some ⟨W.heap.size,0,none⟩)) false ty).run P wr=.ok (.tuple #[.bool true,e.key,e.val]) w' ∧
   DlS W b clock ents J (fun x=>pd x=false∨x.born ∉ seen) (seen.push e.born) n' w'∧n' < n∧(Instr.entry (.pointer (some ⟨W.heap.size,0,none⟩))).run P w'=.ok (.tuple #[e.key,e.val]) w':=by
 obtain ⟨⟨es,c0,h1,h2,h3,h4,h5,h6,h7⟩,h8,h9⟩:=h
 have hne:W.heap.size ≠ b:=Nat.ne_of_gt hbr
 rcases run_next_at (P:=P) wr ty W.heap.size b clock c0 seen es clock h2 h1 h4.1 h3 with ⟨g1,g2⟩ | ⟨e,g1,w1,g2,g3⟩
 . refine .inl ⟨by rw [← h7]; exact g1,g2,es,h1,?_⟩
   have hall:=all_seen es seen g1
   have key:∀ {l l0:List MapEntry},l.Sublist l0->l0.Nodup->(∀ x∈l0,x∈l ↔ pd x=false)->l=l0.filter fun e=>!pd e:=by
    intro l l0 hs
    induction hs with
    | slnil=>intro _ _; rfl
    | @cons l l0 a hs ih =>
     intro hn hk
     have hn:=List.nodup_cons.1 hn
     have ha:pd a=true:=by
      cases hp:pd a with
      | true=>rfl
      | false=>exact absurd (hs.subset ((hk a (by simp)).2 hp)) hn.1
     rw [List.filter_cons,ha]
     simp only [Bool.not_true,Bool.false_eq_true,if_false]
     exact ih hn.2 fun x hx=>hk x (by simp [hx])
    | @cons_cons l l0 a hs ih =>
     intro hn hk
     have hn:=List.nodup_cons.1 hn
     have ha:pd a=false:=(hk a (by simp)).1 (by simp)
     rw [List.filter_cons,ha]
     simp only [Bool.not_false,if_true]
     congr 1
     refine ih hn.2 fun x hx=>?_
     have hxa:x ≠ a:=fun e=>hn.1 (by rw [← e]; exact hx)
     have:=hk x (by simp [hx])
     simpa [hxa] using this
   have hnd:ents.toList.Nodup:=(List.pairwise_map.1 hst.2.1).imp fun h e=>h (by rw [e])
   refine key h5 hnd fun x hx=>(h6 x hx).trans ⟨fun hk=>hk.elim (fun h=>h) fun hns=>?_,fun h=>.inl h⟩
   have hxe:x∈es.toList:=(h6 x hx).2 (.inr hns)
   have:=hall x hxe
   exact absurd (by simpa using this) hns
 . obtain ⟨m1,m2⟩:=mem_left g1
   have hw1:w1.heap=wr.heap∧w1.os=wr.os∧w1.tape=wr.tape∧w1.output=wr.output:=by rcases g2 with rfl | rfl <;> exact ⟨rfl,rfl,rfl,rfl⟩
   obtain ⟨q1,q2,q3,q4⟩:=hw1
   have hr1:W.heap.size < w1.heap.size:=by rw [q1]; exact h9
   have hsame:∀ i,i ≠ W.heap.size->(ChangeMaps.setBlock w1 W.heap.size (.mapIter (some b) clock (seen.push e.born) clock)).heap[i]?=wr.heap[i]?:=fun i hi=>by rw [← q1]; exact U5 w1 _ (fun e=>hi e.symm)
   have hb':=(hsame b (fun e=>hne e.symm)).trans h1
   have hi':(ChangeMaps.setBlock w1 W.heap.size (.mapIter (some b) clock (seen.push e.born) clock)).heap[W.heap.size]?=some (.mapIter (some b) clock (seen.push e.born) clock):=Z9 w1 (.mapIter (some b) clock (seen.push e.born) clock) hr1
   have hns:e.born ∉ seen:=by simpa using m2
   have hsize:(ChangeMaps.setBlock w1 W.heap.size (.mapIter (some b) clock (seen.push e.born) clock)).heap.size=wr.heap.size:=by simp [ChangeMaps.setBlock,q1]
   refine .inr ⟨e,_,(leftOf es (seen.push e.born)).size,h5.subset m1,.inr hns,hns,g3,⟨⟨es,clock,hb',hi',Nat.le_refl _,h4,h5,h6,rfl⟩,?_,by rw [hsize]; exact h9⟩,by rw [← h7]; exact left_shrinks es seen e g1,?_⟩
   . refine hJ wr _ h8 (by rw [hsize]; exact Nat.le_refl _) (fun i _ hi _=>hsame i hi) (fun i hi=>?_) q2 q3 q4
     by_cases e1:i=W.heap.size
     . subst e1
       rw [Te hi' (by intro c t f e; cases e),Te h2 (by intro c t f e; cases e)]
     . exact qI (hsame i e1)
   . exact run_entry_at _ W.heap.size b clock seen es clock e hi' hb' m1 h4.2.1
variable {ops:Array Oper} {rest:List Oper} {o:Oper} {a:Act} {Q:Exit->Act->World->Prop}
end
end Go.AM
/-
 The abstract machine: a range over a map in the code: whichever entry comes next,it comes to the same.
-/
namespace Go.AM
section
variable {P:Program} {E:Env} {ih:F7}
def HW (D:DP) (b r:Nat) (ws:List Nat) (t0:Array Value):DP:=fun W cx a =>
 D W ⟨cx.μ,cx.nx,cx.own,fun i=>cx.held i∧i ≠ b∧i ≠ r⟩ a∧a.tmps.size=t0.size∧∀ i,i ∉ ws->a.tmps.getD i undef=t0.getD i undef
theorem HW.mono {D:DP} (hD:y6 D) {b r:Nat} {ws:List Nat} {t0:Array Value}:y6 (HW D b r ws t0):=fun W cx a W' cx' he h =>
 ⟨hD _ _ _ _ _ (show Ext W ⟨cx.μ,cx.nx,cx.own,fun i=>cx.held i∧i ≠ b∧i ≠ r⟩ W' ⟨cx'.μ,cx'.nx,cx'.own,fun i=>cx'.held i∧i ≠ b∧i ≠ r⟩ from ⟨⟨he.nx,he.mu,he.sz,he.keep,he.shape,he.own⟩,fun i hi hh=>⟨⟨(he.hold i hi hh.1).1,hh.2⟩,(he.hold i hi hh.1).2⟩,he.out⟩) h.1,h.2⟩
theorem HW.stab {D:DP} {b r:Nat} {ws:List Nat} {t0:Array Value} (d:Option Tmp) (hd:∀ t,d=some t->t∈ws) (h:Lm D d):Lm (HW D b r ws t0) d:=fun W cx a v hh=>by
 refine ⟨h _ _ a v hh.1,?_,fun i hi=>?_⟩
 . cases d with
   | none=>exact hh.2.1
   | some d=>show (a.tmps.setIfInBounds d v).size=_; rw [Array.size_setIfInBounds]; exact hh.2.1
 . cases d with
   | none=>exact hh.2.2 i hi
   | some d =>
    have hne:d ≠ i:=fun e=>hi (by rw [← e]; exact hd d rfl)
    show (a.tmps.setIfInBounds d v).getD i undef=_
    rw [← hh.2.2 i hi]
    simp [Array.getD_eq_getD_getElem?,Array.getElem?_setIfInBounds_ne hne]
end
end Go.AM
/-
 The abstract machine: a range over a map in the code: what stands there,and that it is sound.
-/
namespace Go.AM
section
variable {P:Program} {E:Env} {ih:F7}
theorem wP {a b:Code} (h:rngC a b=none):xc (.seq a b)=.seq (xc a) (xc b):=by
 show (match rngC a b with | some R=>XC.rngm R (xc b) | none=>.seq (xc a) (xc b))=_
 rw [h]
theorem wQ {a b:Code} {R:RngD} (h:rngC a b=some R):xc (.seq a b)=.rngm R (xc b):=by
 show (match rngC a b with | some R=>XC.rngm R (xc b) | none=>.seq (xc a) (xc b))=_
 rw [h]
end
end Go.AM
/-
 The abstract machine: a range over a map in the code is sound.
-/
namespace Go.AM
section
variable {P:Program} {E:Env} {ih:F7} {ops:Array Oper} {rest:List Oper} {o:Oper} {a:Act} {w:World} {Q:Exit->Act->World->Prop}
theorem DlS.imp {W:World} {b clock:Nat} {ents:Array MapEntry} {J J':World->Prop} {K:MapEntry->Prop} {seen:Array Nat} {n:Nat} {wr:World} (h:DlS W b clock ents J K seen n wr) (hj:J wr->J' wr):DlS W b clock ents J' K seen n wr:=⟨h.ex,hj h.keep,h.lt⟩
theorem DlS.done {W:World} {b clock:Nat} {ents:Array MapEntry} {J:World->Prop} {seen:Array Nat} {wr:World} (h:DlS W b clock ents J (fun x=>(fun _=>false) x=false∨x.born ∉ seen) seen 0 wr):(∀ x∈ents.toList,x.born∈seen):=by
 obtain ⟨⟨es,c0,h1,h2,h3,h4,h5,h6,h7⟩,_,_⟩:=h
 intro x hx
 have:=all_seen es seen h7 x ((h6 x hx).2 (.inl rfl))
 simpa using this
theorem DlS.to {W:World} {b clock:Nat} {ents:Array MapEntry} {J J':World->Prop} {K K':MapEntry->Prop} {seen:Array Nat} {n:Nat} {wr w':World} (h:DlS W b clock ents J K seen n wr) (hk:∀ x∈ents.toList,K x ↔ K' x) (hJ:J' w') (hs:wr.heap.size≤w'.heap.size) (hb:w'.heap[b]?=wr.heap[b]?) (hr:w'.heap[W.heap.size]?=wr.heap[W.heap.size]?):DlS W b clock ents J' K' seen n w':=by
 obtain ⟨⟨es,c0,h1,h2,h3,h4,h5,h6,h7⟩,h8,h9⟩:=h
 exact ⟨⟨es,c0,by rw [hb]; exact h1,by rw [hr]; exact h2,h3,h4,h5,fun x hx=>(h6 x hx).trans (hk x hx),h7⟩,hJ,Nat.lt_of_lt_of_le h9 hs⟩
theorem iP (hE:EnvOk E P) (hc:l6 E P ih) (hpr:∀ (c:XC) (fr:Tr) (h h':Heap),CRes.heap (ih c fr h)=some h'->Pres h h') {ro:Option Nat} {D:DP} (hD:y6 D) {ca cb:Code} {R:RngD} (hR:rngC ca cb=some R)
 (hst:kQ ro D (.seq ca cb)) {W:World} {cx:Cx} {a:Act} {fr:Tr} {h:Heap} (hf:FrRep W cx a.tmps fr) (hd:D W cx a) (hs:Sat E W cx h) (hb:Tj E ih R (xc cb) fr h ≠ .bad) :
 (Code.seq ca cb).wpIn (WF ro) 0 P (U3 E W cx D (Tj E ih R (xc cb) fr h)) a W:=absurd rfl hb
end
end Go.AM
/-
 The abstract machine: calls and code.
-/
namespace Go.AM
section
variable {P:Program} {E:Env}
theorem Lt:∀ (c:Code) (x:DfC),parseD c=some x->c=x.code
 | .seq a b,x,h=>by
  have go:∀ (a:Code),(parseD b).map (fun x=>(⟨a :: x.pre,x.id,x.ops,x.rest⟩:DfC))=some x->Code.seq a b=x.code:=fun a h=>by
   cases hb:parseD b with
   | none=>rw [hb] at h; cases h
   | some y =>
    rw [hb] at h
    cases h
    show Code.seq a b=.seq a (y.code)
    rw [← Lt b y hb]
  cases a with
  | region id ops draw =>
   cases draw with
   | true=>exact go _ h
   | false =>
    have h:(bif cN ops.toList then some ⟨[],id,ops,b⟩ else (parseD b).map fun x=>⟨.region id ops false :: x.pre,x.id,x.ops,x.rest⟩)=some x:=h
    cases hh:cN ops.toList with
    | true=>rw [hh] at h; cases h; rfl
    | false=>rw [hh] at h; exact go _ h
  | _=>exact go _ h
 | .skip,_,h | .region ..,_,h | .cond ..,_,h | .block ..,_,h | .loop ..,_,h | .scope ..,_,h | .rangeFunc ..,_,h | .label ..,_,h | .goto ..,_,h | .exit ..,_,h | .ret,_,h | .refuse ..,_,h=>by cases h
def DX (d:Deferred) (ts:List Tmp) (vals:Tmp->Value):DP:=fun _ _ a=>a.defers=[d]∧∀ t∈ts,a.tmps.getD t undef=vals t
theorem DX.mono {d:Deferred} {ts:List Tmp} {vals:Tmp->Value}:y6 (DX d ts vals):=fun _ _ _ _ _ _ h=>h
theorem DX.stab {d:Deferred} {ts:List Tmp} {vals:Tmp->Value} {t:Option Tmp} (ht:∀ s,t=some s->s ∉ ts):Lm (DX d ts vals) t:=fun _ _ a v h =>
 ⟨by rw [m6]; exact h.1,fun s hs=>(Cd fun s' e e'=>ht s' e (e' ▸ hs)).trans (h.2 s hs)⟩
theorem qJ (hE:EnvOk E P) {ih:F7} (hc:l6 E P ih) (hl:l5 E P ih) {fn:Func} {x:DfC} {o:Oper} {r:List Oper} {g:Operand} (hops:x.ops.toList=r.reverse ++ [o]) (ho:isDf o=some g) (hcalm:fB [] r.reverse=true) (hrest:X1 (fn.results.toList.map Ct) x.rest=true)
 {W0:World} {cx0:Cx}:∀ (L:List Code) (a:Act) (W:World) (cx:Cx) (fr:Tr) (h:Heap),L.all (X1 [])=true->Ext W0 cx0 W cx->FrRep W cx a.tmps fr->a.defers=[]->Sat E W cx h ->
 jB E ih g (xc x.rest) fn.results.toList (L.map xc ++ [xregP x.ops.toList r.reverse]) fr h ≠ .bad ->
 (L.foldr Code.seq (.seq (.region x.id x.ops false) x.rest)).wpIn (WF none) 0 P (bodyPostM (WF none) 0 P fn ((jB E ih g (xc x.rest) fn.results.toList (L.map xc ++ [xregP x.ops.toList r.reverse]) fr h).Post E W0 cx0)) a W
 | [],_,_,_,_,_,_,_,_,_,_,hb=>absurd rfl hb
 | _ :: _,_,_,_,_,_,_,_,_,_,_,hb=>absurd rfl hb
theorem Yn (hE:EnvOk E P) {ih:F7} (hc:l6 E P ih) (hl:l5 E P ih) (hpr:∀ (c:XC) (fr:Tr) (h h':Heap),CRes.heap (ih c fr h)=some h'->Pres h h'):Cz E P (O5 E ih):=by
 intro f args l W cx h hv hs hb
 unfold O5 at hb ⊢
 cases ht:E.told f with
 | true=>rw [ht] at hb; exact iO hE ht hv hs hb
 | false =>
  rw [ht] at hb
  simp only [cond_false] at hb ⊢
  cases hdf:E.dlf f with
  | some ks=>rw [hdf] at hb; exact lC hE hc hpr hdf hv hs hb
  | none =>
   rw [hdf] at hb
   dsimp only at hb ⊢
   cases hsr:srtA E f l h with
   | some r=>rw [hsr] at hb; exact lD hE hv hs hsr hb
   | none =>
    rw [hsr] at hb
    dsimp only at hb ⊢
    cases hfi:E.fn f with
    | none=>rw [hfi] at hb; exact absurd rfl hb
    | some fi =>
     rw [hfi] at hb
     obtain ⟨fn,c,h1,h2,h3,h4,h5,h6,h7⟩:=hE.fn f fi hfi
     refine ⟨⟨fn,c,h1,h2,h3⟩,?_⟩
     dsimp only at hb ⊢
     cases hn:Nat.ble (lenL l) fi.ntmps with
     | false=>rw [hn] at hb; exact absurd rfl hb
     | true =>
      rw [hn] at hb
      simp only [cond_true] at hb ⊢
      have hn:=C7 hn
      rw [A3] at hn
      unfold Oy at hb ⊢
      cases hm:fi.mode with
      | rcv d d2 rest=>rw [hm] at hb; exact absurd rfl hb
      | plain =>
       rw [hm] at hb
       dsimp only at hb ⊢
       rw [h4,h5,h6] at hb ⊢
       rw [h5] at hn
       exact Oj hE hc h1 h2 hv hn hs hb
      | itf ic =>
       rw [hm] at hb
       dsimp only at hb ⊢
       rw [h4,h5,h6] at hb ⊢
       rw [h5] at hn
       exact Oj hE hc h1 h2 hv hn hs hb
      | dfr pre g rest =>
       rw [hm] at hb h7
       dsimp only at hb ⊢
       have ⟨x,hx1,hx2⟩:∃ x,parseD c=some x∧Gj fn.results.toList x=some (.dfr pre g rest):=by
        rcases fmOf_cases h7.symm with ⟨_,h⟩ | h | ⟨x,_,_,h⟩ | h
        . obtain ⟨_,_,_,_,_,_,_,_,_,_,_,_,h⟩:=Lr h; cases h
        . exact h
        . cases h
        . cases h
       obtain ⟨o,r,g',hops,ho,hcalm,hpre,hrest,hrr⟩:=Ls hx2
       cases hrr
       have hcode:=Lt c x hx1
       have hops':x.ops.toList=r.reverse ++ [o]:=by
        have:=congrArg List.reverse hops
        simpa using this
       rw [h5,h6] at hb ⊢
       rw [h5] at hn
       have hfr:=Jq hv hn
       refine Hn.1 (callsIn_of_wp_marks (F:=WF none) (n:=0) h1 h2 trivial ?_ rfl)
       rw [hcode]
       exact qJ hE hc hl hops' ho hcalm hrest x.pre ⟨_,[]⟩ W cx _ h hpre (Ext.refl _ _) hfr rfl hs hb
theorem Sat.sub {P:Program} {E:Env} {W:World} {cx:Cx} {h h':Heap} (hs:Sat E W cx h) (hn:h'.next=h.next) (hg:∀ id o,h'.get id=some o->h.get id=some o):Sat E W cx h' where
 nx:=hn.trans hs.nx
 objs id o ho:=hs.objs id o (hg id o ho)
 inj id id' o o' ho ho':=hs.inj id id' o o' (hg id o ho) (hg id' o' ho')
 gl:=hs.gl
 held:=hs.held
 free id o ho:=hs.free id o (hg id o ho)
theorem eW (hE:EnvOk E P) {ih:F7} (hc:l6 E P ih) (hl:l5 E P ih) (hpr:∀ (c:XC) (fr:Tr) (h h':Heap),CRes.heap (ih c fr h)=some h'->Pres h h'):Cz E P (H5 E ih):=by
 intro f args l W cx h hv hs hb
 unfold H5 at hb ⊢
 cases hg:E.gc f with
 | false=>rw [hg] at hb; exact Yn hE hc hl hpr f args l W cx h hv hs hb
 | true =>
  rw [hg] at hb
  have hb:HX h (O5 E ih f l { h with tch:=[] }) ≠ .bad:=hb
  show _∧Calls P f args W ((HX h (O5 E ih f l { h with tch:=[] })).Post E W cx)
  have h0:=Yn hE hc hl hpr f args l W cx { h with tch:=[] } hv (hs.sub (P:=P) rfl fun _ _ ho=>ho) (fun e=>hb (by rw [e]; rfl))
  refine ⟨h0.1,h0.2.mono fun e w hp=>?_⟩
  cases hq:O5 E ih f l { h with tch:=[] } with
  | bad=>rw [hq] at hb; exact absurd rfl hb
  | pan v h1=>rw [hq] at hb; exact absurd rfl hb
  | ok v h1 =>
   rw [hq] at hp
   cases e with
   | returned vv =>
    obtain ⟨cx',h1',h2,h3⟩:=hp
    refine ⟨cx',h1',h2.sub (P:=P) rfl fun id o ho=>?_,h3⟩
    have ho:(h.os.trunc h1.os).get id=some o:=ho
    show h1.os.get id=some o
    rcases HT.get_trunc h.os h1.os id with e1 | ⟨e1,_⟩
    . rw [← e1]; exact ho
    . rw [e1] at ho; cases ho
   | panicked c=>exact hp.elim
   | outgrown=>exact hp.elim
theorem Yo {b:Tr->Heap->CRes} {r:CRes} (h:Bz b r ≠ .bad):r ≠ .bad:=fun e=>by rw [e] at h; exact h rfl
theorem Yp {W:World} {cx:Cx} {D:DP} {r:CRes} {b:Tr->Heap->CRes} {K:Act->World->Prop} (hb:Bz b r ≠ .bad)
 (hK:∀ fr' h' cx' a' w',r=.ok .normal fr' h'->Ext W cx w' cx'->Sat E w' cx' h'->FrRep w' cx' a'.tmps fr'->D w' cx' a'->K a' w'):∀ x a' w',U3 E W cx D r x a' w'->Exit.then K (U3 E W cx D (Bz b r)) x a' w':=by
 intro x a' w' hp
 obtain ⟨cx',he,hd,hp⟩:=hp
 cases r with
 | bad=>exact hp.elim
 | pan v h' =>
  obtain ⟨vv,rfl,h1,h2⟩:=hp
  exact ⟨cx',he,hd,vv,rfl,h1,h2⟩
 | ok e fr h' =>
  obtain ⟨rfl,h1,h2⟩:=hp
  cases e with
  | normal=>exact hK fr h' cx' a' w' rfl he h1 h2 hd
  | exit i=>exact ⟨cx',he,hd,rfl,h1,h2⟩
  | ret=>exact ⟨cx',he,hd,rfl,h1,h2⟩
theorem Vr {W:World} {cx:Cx} {D:DP} {r:CRes} {l:Nat} {a:Act} {w:World} (hp:U3 E W cx D r (.goto l) a w):False:=by
 obtain ⟨cx',_,_,hp⟩:=hp
 cases r with
 | bad=>exact hp.elim
 | pan v h'=>obtain ⟨vv,e,_⟩:=hp; cases e
 | ok e fr' h'=>obtain ⟨e2,_⟩:=hp; cases e <;> cases e2
theorem Ok (hE:EnvOk E P):∀ n,l6 E P (ev E n) ∧
 (∀ (ro:Option Nat) (D:DP) (c:Code) (W:World) (cx:Cx) (a:Act) (fr:Tr) (h:Heap),y6 D->kQ ro D c->FrRep W cx a.tmps fr->D W cx a->Sat E W cx h->ev E n (.loop (xc c)) fr h ≠ .bad->Code.roundsIn (WF ro) 0 P c (U3 E W cx D (ev E n (.loop (xc c)) fr h)) n a W) ∧
 l5 E P (ev E n)
 | 0=>⟨fun ro D c W cx a fr h _ _ _ _ _ hb=>absurd rfl hb,fun ro D c W cx a fr h _ _ _ _ _ hb=>absurd rfl hb,fun S ops l Q W cx a fr h _ _ _ _ hb=>absurd rfl hb⟩
 | n + 1=>by
  obtain ⟨ihc,ihl,ihp⟩:=Ok hE n
  have hcall:=eW hE ihc ihp (y8 E n)
  have round:∀ (ro:Option Nat) (D:DP) (c:Code) (W:World) (cx:Cx) (a:Act) (fr:Tr) (h:Heap),y6 D->kQ ro D c->FrRep W cx a.tmps fr->D W cx a->Sat E W cx h->ev E (n + 1) (.loop (xc c)) fr h ≠ .bad->Code.roundsIn (WF ro) 0 P c (U3 E W cx D (ev E (n + 1) (.loop (xc c)) fr h)) (n + 1) a W:=by
   intro ro D c W cx a fr h hD hst hf hd hs hb
   have e:ev E (n + 1) (.loop (xc c)) fr h=Bz (ev E n (.loop (xc c))) (ev E n (xc c) fr h):=rfl
   rw [e] at hb ⊢
   rw [roundsIn_succ]
   refine wpIn_mono (ihc ro D c W cx a fr h hD hst hf hd hs (Yo hb)) (Yp hb fun fr' h' cx' a' w' e1 h1 h2 h3 h4=>?_)
   rw [e1] at hb ⊢
   have hb:ev E n (.loop (xc c)) fr' h' ≠ .bad:=hb
   have:=ihl ro D c w' cx' a' fr' h' hD hst h3 h4 h2 hb
   have mono:∀ m a w Q Q',(∀ x a w,Q x a w->Q' x a w)->Code.roundsIn (WF ro) 0 P c Q m a w->Code.roundsIn (WF ro) 0 P c Q' m a w:=by
    intro m
    induction m with
    | zero=>intro a w Q Q' _ h; exact h
    | succ m ih =>
     intro a w Q Q' hq h
     exact wpIn_mono h fun x a w hx=>by cases x <;> first | exact ih _ _ _ _ hq hx | exact hq _ _ _ hx
   exact mono n a' w' _ _ (fun x a w hp=>U3.trans h1 hp) this
  refine ⟨fun ro D c W cx a fr h hD hst hf hd hs hb=>?_,round,fun S ops l Q W cx a fr h hst hf hS hs hb=>?_⟩
  . cases c with
    | skip=>exact wpIn_skip ⟨cx,Ext.refl _ _,hd,rfl,hs,hf⟩
    | ret=>exact wpIn_ret ⟨cx,Ext.refl _ _,hd,rfl,hs,hf⟩
    | exit id=>exact wpIn_exit ⟨cx,Ext.refl _ _,hd,rfl,hs,hf⟩
    | label l=>exact wpIn_label ⟨cx,Ext.refl _ _,hd,rfl,hs,hf⟩
    | scope x =>
     have e:ev E (n + 1) (xc (.scope x)) fr h=ev E n (xc x) fr h:=rfl
     rw [e] at hb ⊢
     refine cE (wpIn_mono (ihc ro D x W cx a fr h hD hst hf hd hs hb) fun x' a' w' hp=>?_)
     cases x' with
     | goto l=>exact (Vr hp).elim
     | _=>exact hp
    | region id ops draw =>
     cases draw with
     | false =>
      have e:ev E (n + 1) (xc (.region id ops false)) fr h=step E (ev E n) (bif Fq ops.toList then .reg false (ops.toList.map (Wd ops.toList false [] false)) else .bad) fr h:=rfl
      rw [e] at hb ⊢
      cases hnd:Fq ops.toList with
      | false=>rw [hnd] at hb; exact absurd rfl hb
      | true =>
       rw [hnd] at hb
       have hb:G6 E (H5 E (ev E n)) (ops.toList.map (Wd ops.toList false [] false)) fr h ≠ .bad:=hb
       show (Code.region id ops false).wpIn (WF ro) 0 P (U3 E W cx D (G6 E (H5 E (ev E n)) (ops.toList.map (Wd ops.toList false [] false)) fr h)) a W
       exact wpIn_mono (iS (ro:=ro) (Q:=(G6 E (H5 E (ev E n)) (ops.toList.map (Wd ops.toList false [] false)) fr h).Post E W cx (fun a=>D W cx a)) lF (Jr _ hnd) (u6 hE hcall ops.toList W cx a fr h (fun o ho=>by obtain ⟨i,hi⟩:=List.getElem?_of_mem ho; exact hst i o (by simpa using hi) W cx) hf hd hs hb fun x a' w' hp=>hp)) fun x a w hp=>U3.of_post hD hp
     | true =>
      have e:ev E (n + 1) (xc (.region id ops true)) fr h=step E (ev E n) (bif Fq ops.toList then (bif Ka ops.toList (Cs ops.toList) (Np ops.toList (Cs ops.toList)) then .reg true (xops ops.toList (Cs ops.toList) [] (Np ops.toList (Cs ops.toList))) else .bad) else .bad) fr h:=rfl
      rw [e] at hb ⊢
      cases hnd:Fq ops.toList with
      | false=>rw [hnd] at hb; exact absurd rfl hb
      | true =>
       rw [hnd] at hb
       cases hok:Ka ops.toList (Cs ops.toList) (Np ops.toList (Cs ops.toList)) with
       | false=>rw [hok] at hb; exact absurd rfl hb
       | true =>
        rw [hok] at hb
        exact wpIn_mono (cF hE hs hf (S:=fun a=>D W cx a) hd hcall (qK E n) (fun i o ho=>hst i o ho W cx) (ro:=ro) (fun i o ho=>Jr _ hnd o (List.mem_of_getElem? (by simpa using ho))) hok hb) fun x a w hp=>U3.of_post hD hp
    | seq x y =>
     cases hR:rngC x y with
     | some R =>
      have e:ev E (n + 1) (xc (.seq x y)) fr h=Tj E (ev E n) R (xc y) fr h:=by rw [wQ hR]; rfl
      rw [e] at hb ⊢
      exact iP hE ihc (y8 E n) hD hR hst hf hd hs hb
     | none =>
      have e:ev E (n + 1) (xc (.seq x y)) fr h=Bz (ev E n (xc y)) (ev E n (xc x) fr h):=by rw [wP hR]; rfl
      rw [e] at hb ⊢
      refine wpIn_seq (wpIn_mono (ihc ro D x W cx a fr h hD hst.1 hf hd hs (Yo hb)) (Yp hb fun fr' h' cx' a' w' e1 h1 h2 h3 h4=>?_))
      rw [e1] at hb ⊢
      have hb:ev E n (xc y) fr' h' ≠ .bad:=hb
      exact wpIn_mono (ihc ro D y w' cx' a' fr' h' hD hst.2 h3 h4 h2 hb) fun x a w hp=>U3.trans h1 hp
    | cond c x y =>
     have e:ev E (n + 1) (xc (.cond c x y)) fr h=Lz (ev E n (xc x)) (ev E n (xc y)) (opv E c fr) fr h:=rfl
     rw [e] at hb ⊢
     have hc:=V6 (E:=E) hs hf c
     cases hv:opv E c fr with
     | bool b =>
      rw [hv] at hb hc
      refine wpIn_cond hc.bool_inv ?_
      cases b with
      | true=>exact ihc ro D x W cx a fr h hD hst.1 hf hd hs hb
      | false=>exact ihc ro D y W cx a fr h hD hst.2 hf hd hs hb
     | _=>rw [hv] at hb; exact absurd rfl hb
    | block id x =>
     have e:ev E (n + 1) (xc (.block id x)) fr h=Cr id (ev E n (xc x) fr h):=rfl
     rw [e] at hb ⊢
     have hb1:ev E n (xc x) fr h ≠ .bad:=fun e=>by rw [e] at hb; exact hb rfl
     refine wpIn_block (wpIn_mono (ihc ro D x W cx a fr h hD hst hf hd hs hb1) fun x' a' w' hp=>?_)
     clear e
     generalize ev E n (xc x) fr h=r at *
     obtain ⟨cx',he,hd',hp⟩:=hp
     cases r with
     | bad=>exact absurd rfl hb1
     | pan v h' =>
      obtain ⟨vv,rfl,h1,h2⟩:=hp
      exact ⟨cx',he,hd',vv,rfl,h1,h2⟩
     | ok e fr' h' =>
      obtain ⟨rfl,h1,h2⟩:=hp
      cases e with
      | normal=>exact ⟨cx',he,hd',rfl,h1,h2⟩
      | ret=>exact ⟨cx',he,hd',rfl,h1,h2⟩
      | exit j =>
       show Exit.inBlock id _ (.exit j) a' w'
       have e2:Cr id (.ok (.exit j) fr' h')=bif Nat.beq j id then .ok .normal fr' h' else .ok (.exit j) fr' h':=rfl
       rw [e2]
       show if j=id then _ else _
       by_cases hj:j=id
       . subst hj; rw [if_pos rfl]; simp only [Nat.beq_refl,cond_true]; exact ⟨cx',he,hd',rfl,h1,h2⟩
       . rw [if_neg hj,Heap.beq_false hj]; exact ⟨cx',he,hd',rfl,h1,h2⟩
    | loop x=>exact wpIn_loop_rounds (n + 1) (round ro D x W cx a fr h hD hst hf hd hs hb)
    | rangeFunc g ps x y=>exact iM hE ihc ihp hD hst hf hd hs hb
    | _=>exact absurd rfl hb
  . have e:ev E (n + 1) (xregP ops.toList l) fr h=step E (ev E n) (bif Fq l then .reg false (l.map (Wd ops.toList false [] false)) else .bad) fr h:=rfl
    rw [e] at hb ⊢
    cases hnd:Fq l with
    | false=>rw [hnd] at hb; exact absurd rfl hb
    | true =>
     rw [hnd] at hb
     exact ⟨Jr _ hnd,fun hQ=>u6 hE hcall l W cx a fr h hst hf hS hs hb hQ⟩
theorem iQ (hE:EnvOk E P) {W:World} {cx:Cx} {h:Heap} {n f:Nat} {args:Array Value} {l:List AV} (hl:RepL W cx args.toList l) (hs:Sat E W cx h) (hb:run E n f l h ≠ .bad):Calls P f args W ((run E n f l h).Post E W cx) :=
 (eW hE (Ok hE n).1 (Ok hE n).2.2 (y8 E n) f args l W cx h hl hs hb).2
end
end Go.AM
