/- The abstract machine, part five: ranges over functions, deferred calls that recover, code and calls: sound. Conditions: none. -/
import Derived.Test.YtjmbnofdnenjfaaAmFour
import Derived.RangeFuncNested
import Derived.RecoverIn
import Derived.RowKit3
import Derived.Maps.RangeWalk
import Derived.Maps.Ext
import Derived.Laws.IdiomRangeMap
import Derived.Deep.LoopGhost
import Derived.WalkKit
set_option linter.unusedVariables false
set_option linter.unusedSectionVars false
set_option linter.unusedSimpArgs false
/-
 The abstract machine: what a body yields; frames that are entered; blocks that are laid and held; what is so behind code.
set_option maxHeartbeats 4000000
-/
open Nat renaming le_refl→zqa
namespace Go.AM
section
variable {P:Program}{E:Env}{W:World}{cx:Cx}{h:Heap}
theorem oJ(hE:EnvOk E P)(hs:Sat E W cx h){t:Nat}{ti:TI}(ht:E.ti t=some ti){x:Value}{a r:AV}(hx:Rep W cx x a)(hl:Ev ti a h=some r):
 ∃v p,x=.pointer (some p)/\(loadVar t p).run P W=.ok v W/\Rep W cx v r:=by
 obtain⟨v,h1,h2⟩:=Tm (P:=P) hE hs ht hx hl
 have:∃p,x=.pointer (some p):=by
  cases a with
  |fptr v off=>obtain⟨b,o,e,_⟩:=hx.fptr_inv;grind
  |ptr id i off=>obtain⟨_,e⟩:=hx.ptr_inv;grind
  |_=>cases hl
 obtain⟨p,rfl⟩:=this;exact⟨v,p,rfl,by grind[Instr.loadAt,Instr.sureAddr],h2⟩
def resVar(tmps:Array Value):ResultVar->Sem Value
 | .tmp t=>pure (tmps.getD t undef)
 | .cell a t=>do loadVar t (<-asAddr (tmps.getD a undef))
theorem Cs(hE:EnvOk E P)(hs:Sat E W cx h){tmps:Array Value}{fr:Tr}:∀(l:List ResultVar)(vs:List AV),(∀x∈l,Rep W cx (tmps.getD (Jm x) undef) (fr.get (Jm x)))->J5 E l fr h=some vs->∃us,(l.mapM (resVar tmps)).run P W=.ok us W/\RepL W cx us vs
 | [],vs,hf,hr=>by
  cases hr;exact⟨[],rfl,.nil⟩
 | x::l,vs,hf,hr=>by
  have hf':=fun y hy=>hf y (List.mem_cons_of_mem _ hy)
  have hx:=hf x (List.mem_cons_self ..);cases x with
  | tmp t =>
   have hr:A7 (J5 E l fr h) (fun vs=>some (fr.get t::vs))=some vs:=hr;obtain⟨ws,h1,h2⟩:=A1 hr;cases h2;obtain⟨us,h3,h4⟩:=Cs hE hs l ws hf' h1;exact⟨tmps.getD t undef::us,by rw[List.mapM_cons];simp[resVar,h3],.cons hx h4⟩
  | cell a t =>
   have hr:onTI E t none (fun ti=>A7 (Ev ti (fr.get a) h) fun v=>A7 (J5 E l fr h) fun vs=>some (v::vs))=some vs:=hr;obtain⟨ti,ht,hr⟩:=F7 hr;obtain⟨v,hv,hr⟩:=A1 hr;obtain⟨ws,h1,h2⟩:=A1 hr;cases h2;obtain⟨us,h3,h4⟩:=Cs hE hs l ws hf' h1;have hx:Rep W cx (tmps.getD a undef) (fr.get a):=hx;obtain⟨u,p,e,h5,h6⟩:=oJ (P:=P) hE hs ht hx hv;exact⟨u::us,by rw[List.mapM_cons];simp[resVar,e,asAddr,h5,h3],.cons h6 h4⟩
theorem Ij(hE:EnvOk E P)(hs:Sat E W cx h){tmps:Array Value}{fr:Tr}{fn:Func}(hf:∀x∈fn.results.toList,Rep W cx (tmps.getD (Jm x) undef) (fr.get (Jm x))){vs:List AV}(hr:J5 E fn.results.toList fr h=some vs):
 ∃v,(results fn tmps).run P W=.ok v W/\Rep W cx v (oneOrTup vs):=by
 obtain ⟨us,h1,h2⟩:=Cs (P:=P) hE hs fn.results.toList vs hf hr;have e1:(fn.results.mapM (resVar tmps)).run P W=.ok us.toArray W:=by
  rw[<-Array.toArray_toList (xs:=fn.results),List.mapM_toArray];simp[h1]
 have e2:results fn tmps=(do
  let vs <-fn.results.mapM (resVar tmps)
  pure (if h:vs.size=1 then vs[0]else .tuple vs)):=by
  unfold results
  congr 1
 refine⟨if h:us.toArray.size=1 then us.toArray[0]else .tuple us.toArray,by simp_all,?_⟩;cases us with
 | nil =>
  cases vs with
  |nil=>exact .tup #[] [] rfl (by simp)
  |cons _ _=>have:=h2.1;simp at this
 | cons u us =>
  cases vs with
  |nil=>have:=h2.1;simp at this
  | cons v vs =>
   cases us with
   | nil =>
    cases vs with
    |nil=>exact h2.2 0 _ _ rfl rfl
    |cons _ _=>have:=h2.1;simp at this
   | cons u2 us =>
    cases vs with
    |nil=>have:=h2.1;simp at this
    |cons v2 vs=>simp only[List.size_toArray,List.length_cons];rw[dif_neg (by omega)];exact Rep.tup_mk h2
theorem FrRep.set{tmps:Array Value}{fr:Tr}(hf:FrRep W cx tmps fr){i:Nat}{x:AV}(hx:Rep W cx (tmps.getD i undef) x):FrRep W cx tmps (fr.set i x) where
 rep j:=by
  by_cases e:i=j
  . subst e
    rw[Tr.get_set_eq];split
    . exact hx
    . exact .und _
  . rw[Tr.get_set_ne _ _ _ _ e];exact hf.rep j
 has j hj:=by rw[Tr.has_set]at hj;exact hf.has j hj
theorem FrRep.setAll{tmps:Array Value}:∀(l:List AV)(i:Nat)(fr:Tr),FrRep W cx tmps fr->(∀(j:Nat) x,l[j]?=some x->Rep W cx (tmps.getD (i+j) undef) x)->FrRep W cx tmps (Tr.setAll l i fr)
 |[],_,_,hf,_=>hf
 | v::l,i,fr,hf,hx=>by
  show FrRep W cx tmps (Tr.setAll l (i+1) (fr.set i v))
  exact FrRep.setAll l (i+1) _ (hf.set (hx 0 v rfl)) fun j x hj=>by
   have:=hx (j+1) x (by grind)
   grind
theorem Mx{args:Array Value}{l:List AV}(hl:RepL W cx args.toList l){n:Nat}(hn:l.length<=n):FrRep W cx (args++Array.replicate (n-args.size) undef) (Tr.enter n l):=by
 have hsz:args.size=l.length:=by have:=hl.1;grind
 refine FrRep.setAll l 0 _ ⟨fun i=>by rw[Tr.get_mk];exact .und _,fun i hi=>?_⟩ fun j x hj=>?_
 . have:=Tr.has_mk _ _ _ hi
   simp;omega
 . obtain ⟨v,h1,h2⟩:=hl.get hj
   have hlt:j<args.size:=by grind
   have:(args++Array.replicate (n-args.size) undef).getD (0+j) undef=v:=by
    simp_all[Array.getElem?_append_left]
   grind
def Cx.lay(cx:Cx)(b:Nat):Cx:=⟨cx.μ,cx.nx,fun x=>cx.own x\/x=b,fun x=>cx.held x\/x=b⟩
theorem Ext.lay(W:World)(cx:Cx)(o:Obj):Ext W cx (W.alloc o) (cx.lay W.heap.size) where
 nx:=zqa _
 mu _ _:=rfl
 sz:=by simp
 keep b hb _:=heap_alloc_old W o hb
 shape b hb:=by grind[szOf,heap_alloc_old]
 own b hb h:=by rcases h with h|h;exact h;omega
 hold b hb h:=⟨.inl h,heap_alloc_old W o hb⟩
 out:=⟨rfl,rfl,rfl⟩
theorem Sat.lay(hs:Sat E W cx h)(o:Obj):Sat E (W.alloc o) (cx.lay W.heap.size) h where
 nx:=hs.nx
 objs id y hy:=by
  obtain⟨h1,h2,h3,h4⟩:=hs.objs id y hy;exact⟨h1,.inl h2,by show(cx.μ id).1<_;simp;omega,h4.mono (Ext.lay W cx o) (heap_alloc_old W o h3)⟩
 inj:=hs.inj
 gl:=hs.gl.mono (Ext.lay W cx o)
 held b hb:=by
  rcases hb with hb|rfl
  . exact⟨by have:=(hs.held b hb).1;simp;omega,.inl (hs.held b hb).2⟩
  . exact⟨by simp,.inr rfl⟩
 free id y hy:=by
  rintro(hb|hb)
  . exact hs.free id y hy hb
  . have:=(hs.objs id y hy).2.2.1
    have hb:(cx.μ id).1=W.heap.size:=hb;omega
def Rk(o:Obj):Prop:=∀c t f,o≠.cells c t f
theorem rO{W:World}{b:Nat}(h:∀o,W.heap[b]?=some o->Rk o):szOf W b=0:=by
 unfold szOf;cases hb:W.heap[b]? with
 |none=>rfl
 | some o =>
  cases o with
  |cells c t f=>exact absurd rfl (h _ hb c t f)
  |_=>rfl
theorem Ext0.putHeld(hs:Sat E W cx h){l:Nat}{o₀ o:Obj}(hl:cx.held l)(h0:W.heap[l]?=some o₀)(hn:Rk o₀)(ho:Rk o):Ext0 W cx (W.putObj l o) cx where
 nx:=zqa _
 mu _ _:=rfl
 sz:=by simp
 keep b _ hb:=World.putObj_heap_other fun e=>hb (e▸(hs.held l hl).2)
 shape b hb:=by
  grind[szOf,rO,World.putObj_heap_same,World.putObj_heap_other]
 own _ _ h:=h
theorem Sat.putHeld(hs:Sat E W cx h){l:Nat}{o:Obj}(hl:cx.held l)(he:Ext0 W cx (W.putObj l o) cx):Sat E (W.putObj l o) cx h where
 nx:=hs.nx
 objs id y hy:=by
  obtain⟨h1,h2,h3,h4⟩:=hs.objs id y hy;exact⟨h1,h2,by simpa using h3,h4.mono0 he (World.putObj_heap_other fun e=>hs.free id y hy (e▸hl))⟩
 inj:=hs.inj
 gl:=hs.gl.mono0 he
 held b hb:=⟨by simpa using(hs.held b hb).1,(hs.held b hb).2⟩
 free:=hs.free
theorem Ext.putHi{W W':World}{cx cx':Cx}{l:Nat}{o:Obj}(he:Ext W cx W' cx')(hl:W.heap.size<=l)(h0:Ext0 W' cx' (W'.putObj l o) cx'):Ext W cx (W'.putObj l o) cx' where
 toExt0:=he.toExt0.trans h0
 hold b hb hh:=⟨(he.hold b hb hh).1,(World.putObj_heap_other (by omega)).trans (he.hold b hb hh).2⟩
 out:=he.out
abbrev DP:=World->Cx->Act->Prop
def CRes.End(E:Env)(r:CRes)(x:Exit)(a:Act)(w:World)(cx':Cx):Prop:=
 match r with
 | .ok e fr h=>x=bA e/\Sat E w cx' h/\FrRep w cx' a.tmps fr
 | .pan v h=>∃vv,x=.panic [{v:=vv,recovered:=false}]/\Sat E w cx' h/\Rep w cx' vv v
 | .bad=>False
def Y3(E:Env)(W:World)(cx:Cx)(D:DP)(r:CRes)(x:Exit)(a:Act)(w:World):Prop:=∃cx',Ext W cx w cx'/\D w cx' a/\r.End E x a w cx'
theorem Y3.trans{W W₁:World}{cx cx₁:Cx}{D:DP}(he:Ext W cx W₁ cx₁){r:CRes}{x:Exit}{a:Act}{w:World}(h:Y3 E W₁ cx₁ D r x a w):Y3 E W cx D r x a w:=by
 obtain⟨cx',he',h⟩:=h;exact⟨cx',he.trans he',h⟩
def Ko(D:DP):Prop:=∀W cx a W' cx',Ext W cx W' cx'->D W cx a->D W' cx' a
def mF(D:DP)(d:Option Tmp):Prop:=∀W cx,Lc (D W cx) d
theorem Y3.of_post{D:DP}(hD:Ko D){r:CRes}{x:Exit}{a:Act}{w:World}(h:r.Post E W cx (fun a=>D W cx a) x a w):Y3 E W cx D r x a w:=by
 obtain⟨hd,cx',he,h⟩:=h;exact⟨cx',he,hD _ _ _ _ _ he hd,h⟩
def jH(r:Nat):Deferred:={target:=.collected r,args:=#[]}
def oK(ro:Option Nat)(D:DP):Prop:=
 match ro with
 |none=>∀W cx a W' cx' r,D W cx a->Ext W cx W' cx'->W.heap.size<=r->r<W'.heap.size->cx'.held r->W'.heap[r]?=some (.deferred (some []))->D W' cx' {a with defers:=jH r::a.defers}
 |some l=>∀W cx a,D W cx a->∃rc,W.heap[l]?=some (.loop rc)
def rJ(ro:Option Nat)(D:DP):Code->Prop
 | .region _ ops _=>∀(i:Nat)(o:Oper),ops[i]?=some o->mF D o.dst
 | .seq a b=>rJ ro D a/\rJ ro D b
 | .cond _ a b=>rJ ro D a/\rJ ro D b
 | .block _ a=>rJ ro D a
 | .loop a=>rJ ro D a
 | .scope a=>rJ ro D a
 | .rangeFunc ..=>oK ro D
 |_=>True
theorem m4{ro:Option Nat}{D:DP}(h:∀d,mF D d)(hr:oK ro D):∀c,rJ ro D c
 | .region _ ops _=>fun _ _ _=>h _
 | .seq a b=>⟨m4 h hr a,m4 h hr b⟩
 | .cond _ a b=>⟨m4 h hr a,m4 h hr b⟩
 | .block _ a=>m4 h hr a
 | .loop a=>m4 h hr a
 | .scope a=>m4 h hr a
 | .rangeFunc ..=>hr
 | .skip | .exit _ | .label _ | .goto _ | .ret | .refuse _=>trivial
theorem Pb{a:Act}{d:Option Tmp}{v:Value}{i:Nat}(h:∀t,d=some t->t≠i):(a.put d v).tmps.getD i undef=a.tmps.getD i undef:=by
 cases d with
 |none=>rfl
 | some d =>
  show(a.tmps.setIfInBounds d v).getD i undef=_
  simp_all
theorem rP(a:Act)(d:Option Tmp)(v:Value):(a.put d v).tmps.size=a.tmps.size:=by
 cases d with
 |none=>rfl
 |some d=>show(a.tmps.setIfInBounds d v).size=_;simp
def D0(n0:Nat):DP:=fun W cx a=>n0<=W.heap.size/\∃rs:List Nat,a.defers=rs.map jH/\rs.Nodup/\∀r∈rs,n0<=r/\r<W.heap.size/\cx.held r/\W.heap[r]?=some (.deferred (some []))
theorem D0.mono(n0:Nat):Ko (D0 n0):=fun W cx a W' cx' he h=>by
 obtain⟨h0,rs,h1,h2,h3⟩:=h;refine⟨Nat.le_trans h0 he.sz,rs,h1,h2,fun r hr=>?_⟩;obtain⟨h4,h5,h6,h7⟩:=h3 r hr;obtain⟨h8,h9⟩:=he.hold r h5 h6;grind
theorem D0.stab(n0:Nat)(d:Option Tmp):mF (D0 n0) d:=fun W cx a v h=>by
 obtain⟨h0,rs,h1,h2⟩:=h;exact⟨h0,rs,by rw[Jp];exact h1,h2⟩
theorem D0.push(n0:Nat):oK none (D0 n0):=fun W cx a W' cx' r hd he hr hlt hh hb=>by
 obtain⟨h0,rs,h1,h2,h3⟩:=D0.mono n0 _ _ _ _ _ he hd;obtain⟨h0',rs',h1',_,h3'⟩:=hd
 have:∀r'∈rs,r'<W.heap.size:=fun r' hr'=>by
  have e:rs=rs':=by
   have inj:∀(l l':List Nat),l.map jH=l'.map jH->l=l':=by
    intro l
    induction l with
    |nil=>simp_all
    | cons x l ih=>intro l' e;cases l' with
     |nil=>simp at e
     |cons y l'=>grind[jH]
   grind
  grind
 refine⟨h0,r::rs,by grind,(by grind),fun r' hr'=>?_⟩;grind
def DR(l:Nat)(rc:Loop):DP:=fun W cx a=>a.defers=[]/\cx.held l/\W.heap[l]?=some (.loop rc)
theorem DR.mono(l:Nat)(rc:Loop):Ko (DR l rc):=fun W cx a W' cx' he h=>by
 obtain⟨h1,h2,h3⟩:=h;obtain⟨h4,h5⟩:=he.hold l (Q2 h3) h2;exact⟨h1,h4,h5.trans h3⟩
theorem DR.stab(l:Nat)(rc:Loop)(d:Option Tmp):mF (DR l rc) d:=fun W cx a v h=>by
 obtain⟨h1,h2⟩:=h;exact⟨by rw[Jp];exact h1,h2⟩
theorem DR.rf(l:Nat)(rc:Loop):oK (some l) (DR l rc):=fun W cx a h=>⟨rc,h.2.2⟩
theorem noDfr_iff(l:List Oper)(hn:Im l=true):∀o∈l,Sk o:=fun o ho c e=>by
 have:=List.all_eq_true.1 hn o ho
 rw[e]at this;cases this
end
end Go.AM
/-
 The abstract machine: pieces of regions; an iterator that hands elements on,walked.
-/
namespace Go.AM
theorem oL{F:Fence}{n:Nat}{P:Program}{o:Oper}{a:Act}{w:World}{K K':Act->World->Prop}{Q Q':Exit->Act->World->Prop}(hk:∀a w,K a w->K' a w)(hq:∀c a w,Q (.panic c) a w->Q' (.panic c) a w)(hq':∀a w,Q .outgrown a w->Q' .outgrown a w)
 (h:o.wpIn F n P a w K Q):o.wpIn F n P a w K' Q':=by
 refine⟨h.1,?_⟩;have h:=h.2;generalize (o.semAt F.round a.eval).run P w=r at h|-;cases r with
 | ok x w' =>
  cases x with
  |value v=>exact hk _ _ h
  |skip=>exact hk _ _ h
  |defer d=>exact hk _ _ h
  | enter f args =>
   exact ⟨h.1,h.2.mono fun e w' hp=>by
    cases e with
    |returned v=>grind
    |panicked c=>grind
    |outgrown=>obtain⟨a0,w0,h0⟩:=hp;exact⟨a0,w0,hq' _ _ h0⟩⟩
  |row r args=>exact⟨h.1,h.2.mono fun v w' hp=>hk _ _ hp⟩
  | round l f tmps as bo =>
   exact ⟨h.1,h.2.mono fun e w' hp=>by
    cases e with
    |returned v=>grind
    |panicked c=>grind
    |outgrown=>obtain⟨a0,w0,h0⟩:=hp;exact⟨a0,w0,hq' _ _ h0⟩⟩
  |_=>exact h.elim
 |halt x w'=>cases x<;>first|exact hq _ _ _ h|exact h.elim
theorem Bm{F:Fence}{n:Nat}{P:Program}{ops:Array Oper}{Q:Exit->Act->World->Prop}{rest:List Oper}:∀(l:List Oper)(a:Act)(w:World),
 wpListIn F n P ops (Exit.then (wpListIn F n P ops Q rest) (fun _ _ _=>False)) l a w->wpListIn F n P ops Q (l++rest) a w
 |[],a,w,h=>h
 | o :: l,a,w,h=>by
  unfold wpListIn at h;show wpListIn F n P ops Q (o::(l++rest)) a w
  unfold wpListIn;split
  . rename_i hw
    rw[if_pos hw]at h;exact oL (fun a w h=>Bm l a w h) (fun c a w hq=>hq.elim) (fun a w hq=>hq.elim) h
  . rename_i hw
    rw[if_neg hw]at h;exact⟨h.1,Bm l _ w h.2⟩
def w7(E:Env)(P:Program)(ih:G8):Prop:=
 ∀ (S:Act->Prop) (ops:Array Oper) (l:List Oper) (Q:Exit->Act->World->Prop) (W:World) (cx:Cx) (a:Act) (fr:Tr) (h:Heap),
   (∀ o∈l,Lc S o.dst)->FrRep W cx a.tmps fr->S a->Sat E W cx h->ih (xregP ops.toList l) fr h≠.bad ->
     (∀o∈l,Sk o)/\((∀x a' w',(ih (xregP ops.toList l) fr h).Post E W cx S x a' w'->Q x a' w')->wpList P ops Q l a W)
def w8(E:Env)(P:Program)(ih:G8):Prop:=
 ∀ (ro:Option Nat) (D:DP) (c:Code) (W:World) (cx:Cx) (a:Act) (fr:Tr) (h:Heap),Ko D->rJ ro D c->FrRep W cx a.tmps fr->D W cx a->Sat E W cx h->ih (xc c) fr h≠.bad ->
   c.wpIn (WF ro) 0 P (Y3 E W cx D (ih (xc c) fr h)) a W
section
variable {P:Program}{E:Env}{ih:G8}
theorem mG(hl:w7 E P ih){ro:Option Nat}{ops:Array Oper}{S:Act->Prop}{l rest:List Oper}{Q:Exit->Act->World->Prop}{W:World}{cx:Cx}{a:Act}{fr fr':Tr}{h h':Heap}(hst:∀o∈l,Lc S o.dst)
 (hf:FrRep W cx a.tmps fr)(hS:S a)(hs:Sat E W cx h)(hr:ih (xregP ops.toList l) fr h=.ok .normal fr' h')
 (hK:∀a' W' cx',Ext W cx W' cx'->Sat E W' cx' h'->FrRep W' cx' a'.tmps fr'->S a'->wpListIn (WF ro) 0 P ops Q rest a' W'):wpListIn (WF ro) 0 P ops Q (l++rest) a W:=by
 obtain⟨hn,hw⟩:=hl S ops l (Exit.then (wpListIn (WF ro) 0 P ops Q rest) (fun _ _ _=>False)) W cx a fr h hst hf hS hs (by grind);refine Bm l a W (Rl ?_ l hn a W (hw fun x a' w' hp=>?_))
 . rintro⟨a,w,h⟩;exact h
 . rw[hr]at hp
   obtain⟨hd,cx',he,rfl,h1,h2⟩:=hp;exact hK a' w' cx' he h1 h2 hd
theorem My(hl:w7 E P ih){ro:Option Nat}{ops:Array Oper}{S:Act->Prop}{l:List Oper}{Q:Exit->Act->World->Prop}{W:World}{cx:Cx}{a:Act}{fr fr':Tr}{h h':Heap}(hst:∀o∈l,Lc S o.dst)
 (hf:FrRep W cx a.tmps fr)(hS:S a)(hs:Sat E W cx h)(hr:ih (xregP ops.toList l) fr h=.ok .normal fr' h')
 (hK:∀a' W' cx',Ext W cx W' cx'->Sat E W' cx' h'->FrRep W' cx' a'.tmps fr'->S a'->Q .normal a' W'):wpListIn (WF ro) 0 P ops Q l a W:=by
 have:=mG (rest:=[]) (ro:=ro) (ops:=ops) (Q:=Q) hl hst hf hS hs hr hK
 grind
theorem aF(hl:w7 E P ih){ro:Option Nat}{id:Nat}{ops:Array Oper}{S:Act->Prop}{Q:Exit->Act->World->Prop}{W:World}{cx:Cx}{a:Act}{fr fr':Tr}{h h':Heap}(hst:∀o∈ops.toList,Lc S o.dst)
 (hf:FrRep W cx a.tmps fr)(hS:S a)(hs:Sat E W cx h)(hr:ih (xregP ops.toList ops.toList) fr h=.ok .normal fr' h')
 (hK:∀a' W' cx',Ext W cx W' cx'->Sat E W' cx' h'->FrRep W' cx' a'.tmps fr'->S a'->Q .normal a' W'):(Code.region id ops false).wpIn (WF ro) 0 P Q a W:=
 wpIn_region_list (My hl hst hf hS hs hr hK)
theorem isNone_none{α:Type}{o:Option α}(h:isNone o=true):o=none:=by cases o;rfl;cases h
theorem Bv{ts:List Tmp}{l:List Oper}(h:W6 ts l=true){o:Oper}(ho:o∈l):∀d,o.dst=some d->d∉ts:=by
 have:=List.all_eq_true.1 h o ho
 grind
theorem jI{o:Oper}{yt:Tmp}(h:isMv0 o=some yt):o.op=.move (.tmp 0)/\o.dst=some yt:=by
 obtain⟨dst,op,type,pos,after,guard⟩:=o;unfold isMv0 at h;cases op with
 | move x =>
  cases x with
  | tmp t =>
   replace h:(bif Nat.beq t 0 then dst else none)=some yt:=h
   cases hc:Nat.beq t 0 with
   |false=>grind
   | true =>
    simp_all
  |_=>cases h
 |_=>cases h
theorem rQ{o:Oper}{yt yd:Tmp}{args:List Operand}(h:isY yt o=some (yd,args)):∃as tys,o.op=.call ⟨.value (.tmp yt),as,tys⟩/\as.toList=args/\o.dst=some yd:=by
 obtain⟨dst,op,type,pos,after,guard⟩:=o;unfold isY at h;cases op with
 | call c =>
  obtain⟨callee,as,tys⟩:=c;cases callee with
  | value x =>
   cases x with
   | tmp t =>
    replace h:(bif Nat.beq t yt then(match dst with|some d=>some (d,as.toList)|none=>none)else none)=some (yd,args):=h
    cases hc:Nat.beq t yt with
    |false=>grind
    | true =>
     rw[hc]at h
     have:=E5 hc
     subst this;grind
   |_=>cases h
  |_=>cases h
 |_=>cases h
theorem Pc{yt:Tmp}:∀{l:List Oper}{p:List Oper×Oper×List Oper},splitY yt l=some p->l=p.1++p.2.1::p.2.2
 |[],_,h=>by cases h
 | o :: r,p,h=>by
  unfold splitY at h;cases hy:isY yt o with
  |some q=>grind
  | none =>
   rw[hy]at h;cases hs:splitY yt r with
   |none=>grind
   | some q =>
    rw[hs]at h;cases h
    have:=Pc hs
    grind
theorem Pd:∀{l:List Oper}{p:List Oper×Oper×List Oper},splitM l=some p->l=p.1++p.2.1::p.2.2
 |[],_,h=>by cases h
 | o :: r,p,h=>by
  unfold splitM at h;cases hy:isMv0 o with
  |some q=>grind
  | none =>
   rw[hy]at h;cases hs:splitM r with
   |none=>grind
   | some q =>
    rw[hs]at h;cases h
    have:=Pd hs
    grind
theorem xO{a b:Option (Nat×Bool)}(h:xW a b=true):a=b:=by
 cases a with
 | none=>cases b with
  |none=>rfl
  |some q=>cases h
 | some p =>
  cases b with
  |none=>cases h
  | some q =>
   obtain⟨p1,p2⟩:=p;obtain⟨q1,q2⟩:=q;unfold xW at h;dsimp only at h;rw[Bool.and_eq_true]at h;grind[E5]
structure YP(ops:List Oper)(p0:List Oper)(m:Oper)(p1:List Oper)(y:Oper)(p2:List Oper)(yt yd:Tmp)(args:List Operand):Prop where
 ops:ops=p0++m::(p1++y::p2)
 mv:isMv0 m=some yt
 yl:isY yt y=some (yd,args)
 gd:m.guard=y.guard
 yt0:yt≠0
 c0:W6 [0] p0=true
 c1:W6 [0,yt] p1=true
 cy:W6 [0] [y]=true
 c2:W6 [0] p2=true
theorem regI_some{ops:List Oper}{ic:IC}(h:x5 ops=some ic):(W6 [0] ops=true/\ic=.reg (xregP ops ops))\/
 ∃p0 m p1 y p2 yt yd args,YP ops p0 m p1 y p2 yt yd args/\ic=.yreg (xregP ops p0) (G4 ops m) yt (xregP ops p1) yd args (xregP ops p2):=by
 unfold x5 at h;cases hm:splitM ops with
 | none =>
  grind
 | some q =>
  rw[hm]at h;have hs:=Pd hm;obtain⟨p0,m,r⟩:=q
  replace h:DK ops (p0,m,r)=some ic:=h
  unfold DK at h;dsimp only at h hs;cases h1:isMv0 m with
  |none=>grind
  | some yt =>
   rw[h1]at h;dsimp only at h;cases h2:splitY yt r with
   |none=>grind
   | some p =>
    rw[h2]at h;obtain⟨p1,y,p2⟩:=p;have hs2:=Pc h2;dsimp only at h hs2;cases h3:isY yt y with
    |none=>grind
    | some z =>
     rw[h3]at h;obtain⟨yd,args⟩:=z;dsimp only at h;cases hc:(xW m.guard y.guard && !(Nat.beq yt 0)&&W6 [0] p0&&W6 [0,yt] p1&&W6 [0] [y]&&W6 [0] p2)with
     |false=>grind
     | true =>
      rw[hc]at h;cases h;simp only[Bool.and_eq_true,Bool.not_eq_true']at hc;obtain⟨⟨⟨⟨⟨c1,c2⟩,c3⟩,c4⟩,c5⟩,c6⟩:=hc;exact .inr ⟨p0,m,p1,y,p2,yt,yd,args,⟨by rw[hs,hs2],h1,h3,xO c1,fun e=>by simp_all,c3,c4,c5,c6⟩,rfl⟩
theorem Xw{f:IC->IC->IC}{a b:Option IC}{c:IC}(h:sT f a b=some c):∃x y,a=some x/\b=some y/\c=f x y:=by
 cases a with
 |none=>cases h
 | some x=>cases b with
  |none=>cases h
  |some y=>cases h;grind
structure LA(W0:World)(cx0:Cx)(ro:Option Nat)(l:Nat)(st:Loop)(W:World)(cx:Cx):Prop where
 ext:Ext W0 cx0 W cx
 held:cx.held l
 rcd:W.heap[l]?=some (.loop st)
 blk:ro=none->cx.held W0.heap.size/\W.heap[W0.heap.size]?=some (.deferred (some []))
 hi:W0.heap.size<=l
 ne:ro=none->l≠W0.heap.size
section
variable {W0 W W':World}{cx0 cx cx':Cx}{ro:Option Nat}{l:Nat}{st st':Loop}{h:Heap}
theorem LA.mono(la:LA W0 cx0 ro l st W cx)(he:Ext W cx W' cx'):LA W0 cx0 ro l st W' cx' where
 ext:=la.ext.trans he
 held:=(he.hold l (Q2 la.rcd) la.held).1
 rcd:=(he.hold l (Q2 la.rcd) la.held).2.trans la.rcd
 blk hr:=by
  obtain⟨h1,h2⟩:=la.blk hr;obtain⟨h3,h4⟩:=he.hold _ (Q2 h2) h1;grind
 hi:=la.hi
 ne:=la.ne
theorem LA.ext0(la:LA W0 cx0 ro l st W cx)(hs:Sat E W cx h):Ext0 W cx (W.putObj l (.loop st')) cx:=
 Ext0.putHeld hs la.held la.rcd (fun _ _ _ e=>by cases e) (fun _ _ _ e=>by cases e)
theorem LA.put(la:LA W0 cx0 ro l st W cx)(hs:Sat E W cx h):LA W0 cx0 ro l st' (W.putObj l (.loop st')) cx where
 ext:=la.ext.putHi la.hi (la.ext0 hs)
 held:=la.held
 rcd:=World.putObj_heap_same (Q2 la.rcd)
 blk hr:=⟨(la.blk hr).1,(World.putObj_heap_other fun e=>la.ne hr e.symm).trans (la.blk hr).2⟩
 hi:=la.hi
 ne:=la.ne
end
def goOn(e:Ex):Bool:=match e with | .normal=>true | .exit _=>false | .ret=>false
def Ik(mk:LoopState->Option Code->Loop)(e:Ex):Loop:=match e with | .normal=>mk .ready none | .exit i=>mk .done (some (.exit i)) | .ret=>mk .done (some .ret)
def MW(E:Env)(P:Program)(W0:World)(cx0:Cx)(ro:Option Nat)(l:Nat)(mk:LoopState->Option Code->Loop)(Y:List AV->Heap->CRes):Prop:=
 ∀ (vs:Array Value) (args:List AV) (W:World) (cx:Cx) (h:Heap) (e:Ex) (fr':Tr) (h':Heap),Y args h=.ok e fr' h'->LA W0 cx0 ro l (mk .ready none) W cx->Sat E W cx h->RepL W cx vs.toList args ->
   ∃ f tmps as bo,(Instr.yield l vs).run P W=.ok (.round l f tmps as bo) W/\RoundIn (WF none) 0 P l f tmps as bo W fun en W' =>
     en=.returned (.bool (goOn e))/\∃cx',LA W0 cx0 ro l (Ik mk e) W' cx'/\Ext0 W cx W' cx'/\Sat E W' cx' h'
def Y0(l:Nat):Value:=.func (.yield l) #[] #[]
def SI(l nt:Nat)(a:Act):Prop:=a.defers=[]/\a.tmps.getD 0 undef=Y0 l/\a.tmps.size=nt
def SY(l nt:Nat)(yt:Tmp)(a:Act):Prop:=SI l nt a/\a.tmps.getD yt undef=Y0 l
theorem SI.stab{l nt:Nat}{d:Option Tmp}(h:∀t,d=some t->t≠0):Lc (SI l nt) d:=fun a v hp =>
 ⟨by rw[Jp];exact hp.1,(Pb h).trans hp.2.1,(rP ..).trans hp.2.2⟩
theorem SY.stab{l nt:Nat}{yt:Tmp}{d:Option Tmp}(h:∀t,d=some t->t≠0)(h':∀t,d=some t->t≠yt):Lc (SY l nt yt) d:=fun a v hp =>
 ⟨SI.stab h a v hp.1,(Pb h').trans hp.2⟩
theorem SI.calm{l nt:Nat}{ls:List Oper}(h:W6 [0] ls=true):∀o∈ls,Lc (SI l nt) o.dst:=fun o ho=>SI.stab fun t ht e=>Bv h ho t ht (by simp[e])
theorem SI.calm1{l nt:Nat}{yt:Tmp}{ls:List Oper}(h:W6 [0,yt] ls=true):∀o∈ls,Lc (SI l nt) o.dst:=fun o ho=>SI.stab fun t ht e=>Bv h ho t ht (by simp[e])
theorem SY.calm{l nt:Nat}{yt:Tmp}{ls:List Oper}(h:W6 [0,yt] ls=true):∀o∈ls,Lc (SY l nt yt) o.dst:=fun o ho=>SY.stab (fun t ht e=>Bv h ho t ht (by simp[e])) (fun t ht e=>Bv h ho t ht (by simp[e]))
theorem rR{k:Tr->Heap->CRes}{r:CRes}{e:Ex}{fr':Tr}{h':Heap}(hr:Dw k r=.ok e fr' h'):∃fr1 h1,r=.ok .normal fr1 h1/\k fr1 h1=.ok e fr' h':=by
 cases r with
 |bad=>cases hr
 |pan v h=>cases hr
 | ok e1 fr1 h1 =>
  cases e1 with
  |normal=>exact⟨fr1,h1,rfl,hr⟩
  |_=>cases hr
theorem w9{k:Tr->Heap->IRes}{r:CRes}{e:Ex}{p:Option Ex}{fr':Tr}{h':Heap}(hr:I9 k r=.ok e p fr' h'):∃fr1 h1,r=.ok .normal fr1 h1/\k fr1 h1=.ok e p fr' h':=by
 cases r with
 |bad=>cases hr
 |pan v h=>cases hr
 | ok e1 fr1 h1 =>
  cases e1 with
  |normal=>exact⟨fr1,h1,rfl,hr⟩
  |_=>cases hr
theorem onOB_okI{b:Option Bool}{x y:IRes}{e:Ex}{p:Option Ex}{fr:Tr}{h:Heap}(hr:R0 b .bad x y=.ok e p fr h):(b=some true/\x=.ok e p fr h)\/(b=some false/\y=.ok e p fr h):=by
 cases b with
 |none=>cases hr
 |some b=>cases b;exact .inr ⟨rfl,hr⟩;exact .inl ⟨rfl,hr⟩
theorem dT{b:Bool}{x:CRes}{e:Ex}{fr:Tr}{h:Heap}(hr:(bif b then x else .bad)=.ok e fr h):b=true/\x=.ok e fr h:=by
 grind
theorem oM{b:Bool}{x:IRes}{e:Ex}{p:Option Ex}{fr:Tr}{h:Heap}(hr:(bif b then x else .bad)=.ok e p fr h):b=true/\x=.ok e p fr h:=by
 grind
def oN(mk:LoopState->Option Code->Loop)(p:Option Ex):Loop:=Ik mk (rL p)
def IQ(E:Env)(W0:World)(cx0:Cx)(ro:Option Nat)(l nt:Nat)(mk:LoopState->Option Code->Loop)(e:Ex)(p:Option Ex)(fr':Tr)(h':Heap)(ex:Exit)(a:Act)(w:World):Prop:=
 ex=bA e/\SI l nt a/\∃cx',LA W0 cx0 ro l (oN mk p) w cx'/\Sat E w cx' h'/\FrRep w cx' a.tmps fr'
section
variable {W0:World}{cx0:Cx}{ro:Option Nat}{l nt:Nat}{mk:LoopState->Option Code->Loop}{Y:List AV->Heap->CRes}
theorem oO(hl:w7 E P ih)(hY:MW E P W0 cx0 ro l mk Y){id:Nat}{ops:Array Oper}{p0:List Oper}{m:Oper}{p1:List Oper}{y:Oper}{p2:List Oper}{yt yd:Tmp}{args:List Operand}(hp:YP ops.toList p0 m p1 y p2 yt yd args)
 {k:Nat}{p p':Option Ex}{a:Act}{W:World}{cx:Cx}{fr fr':Tr}{h h':Heap}{e:Ex}
 (hr:evI E ih nt Y (k+1) (.yreg (xregP ops.toList p0) (G4 ops.toList m) yt (xregP ops.toList p1) yd args (xregP ops.toList p2)) p fr h=.ok e p' fr' h')(hf:FrRep W cx a.tmps fr)(hS:SI l nt a)(la:LA W0 cx0 ro l (oN mk p) W cx)(hs:Sat E W cx h):
 (Code.region id ops false).wpIn (WF none) 0 P (IQ E W0 cx0 ro l nt mk e p' fr' h') a W:=by
 refine wpIn_region_list ?_;rw[hp.ops];obtain⟨fr1,h1,hr1,hr⟩:=w9 (show I9 (fun fr h=>R0 (guardOk (G4 ops.toList m) fr) .bad (eI E ih nt Y (G4 ops.toList m) yt (xregP ops.toList p1) yd args (xregP ops.toList p2) p fr h) (AE ih (G4 ops.toList m) yt (xregP ops.toList p1) yd (xregP ops.toList p2) p fr h)) (ih (xregP ops.toList p0) fr h)=.ok e p' fr' h' from hr);refine mG hl (SI.calm hp.c0) hf hS hs hr1 fun a1 W1 cx1 he1 hs1 hf1 hS1=>?_
 replace la:=la.mono he1
 obtain⟨m1,m3⟩:=jI hp.mv;obtain⟨as,tys,y1,y2,y4⟩:=rQ hp.yl;have hyd:yd≠0:=fun e=>Bv hp.cy (List.mem_cons_self ..) yd y4 (by simp[e])
 have hgd:G4 ops.toList y=G4 ops.toList m:=by unfold G4;rw[hp.gd]
 rcases onOB_okI hr with⟨hg,hr⟩|⟨hg,hr⟩
 . -- it is called
   have hw:=O6 (ops:=ops) hf1 m hg;cases p with
   |some _=>cases hr
   | none =>
    obtain ⟨hyt,hr⟩:=oM (show(bif Nat.blt yt nt then I9 (fun fr h=>R0 (guardOk (G4 ops.toList m) fr) .bad (Ib ih (xregP ops.toList p2) yd fr (Y (opvs E args fr) h)) .bad) (ih (xregP ops.toList p1) (fr1.set yt .any) h1)else .bad)=.ok e p' fr' h' from hr);have hyt:=M3 hyt;obtain⟨fr2,h2,hr2,hr⟩:=w9 hr;unfold wpListIn;rw[if_pos hw];refine⟨fun _ _=>trivial,?_⟩;have hm:((m.semAt (WF none).round a1.eval).run P W1)=.ok (.value (Y0 l)) W1:=by
     rw[show(WF none).round=none from rfl,Oper.semAt_none]
     have:a1.eval (.tmp 0)=Y0 l:=hS1.2.1
     simp[execOp,m1,this]
    rw [hm,Oper.uponIn_value,m3];have hSY:SY l nt yt (a1.put (some yt) (Y0 l)):=by
     refine⟨SI.stab (fun t e=>by cases e;exact hp.yt0) a1 _ hS1,?_⟩;show(a1.tmps.setIfInBounds yt (Y0 l)).getD yt undef=Y0 l
     have:yt<a1.tmps.size:=by rw[hS1.2.2];exact hyt
     simp_all
    refine mG hl (S:=SY l nt yt) (SY.calm hp.c1) (hf1.put (some yt) (.any _ rfl)) hSY hs1 hr2 fun a3 W3 cx3 he3 hs3 hf3 hS3=>?_
    replace la:=la.mono he3
    rcases onOB_okI hr with⟨hg3,hr⟩|⟨_,hr⟩
    . have hw3:=O6 (ops:=ops) hf3 y (by rw[hgd];exact hg3)
      unfold wpListIn;rw[if_pos hw3];refine⟨fun _ _=>trivial,?_⟩;cases hq:Y (opvs E args fr2) h2 with
      |bad=>rw[hq]at hr;cases hr
      |pan v hh=>rw[hq]at hr;cases hr
      | ok e1 fry h3 =>
       rw [hq]at hr;have hargs:RepL W3 cx3 (as.map a3.eval).toList (opvs E args fr2):=by
        have:=Bz (E:=E) hs3 hf3 args
        simp_all
       obtain ⟨f,tmps,asg,bo,hyr,hround⟩:=hY _ _ W3 cx3 h2 e1 fry h3 hq la hs3 hargs;have hm:((y.semAt (WF none).round a3.eval).run P W3)=.ok (.round l f tmps asg bo) W3:=by
        rw[show(WF none).round=none from rfl,Oper.semAt_none]
        have:a3.eval (.tmp yt)=.func (.yield l) #[] #[]:=hS3.2
        grind[execOp,resolve,Deferred.ofValue,invoke]
       rw[hm,Oper.uponIn_round];refine⟨fun e=>by simp[WF,Fence.wide]at e,hround.mono fun en W4 hen=>?_⟩;obtain⟨rfl,cx4,la4,he4,hs4⟩:=hen;show wpListIn (WF none) 0 P ops _ p2 (a3.put y.dst (.bool (goOn e1))) W4
       rw [y4];have hS4:SI l nt (a3.put (some yd) (.bool (goOn e1))):=SI.stab (fun t e=>by grind) a3 _ hS3.1;have hf4:FrRep W4 cx4 (a3.put (some yd) (.bool (goOn e1))).tmps (fr2.set yd (.bool (goOn e1))):=(hf3.mono0 he4).put (some yd) (.bool _);have out:∀(q:Option Ex),rL q=e1->I9 (n9 q) (ih (xregP ops.toList p2) (fr2.set yd (.bool (goOn e1))) h3)=.ok e p' fr' h'->wpListIn (WF none) 0 P ops (IQ E W0 cx0 ro l nt mk e p' fr' h') p2 (a3.put (some yd) (.bool (goOn e1))) W4:=fun q hq hr=>by
        obtain⟨fr5,h5,hr5,hr⟩:=w9 hr;cases hr;refine My hl (SI.calm hp.c2) hf4 hS4 hs4 hr5 fun a5 W5 cx5 he5 hs5 hf5 hS5=>⟨rfl,hS5,cx5,?_,hs5,hf5⟩
        unfold oN;rw[hq];exact la4.mono he5
       cases e1 with
       |normal=>exact out none rfl hr
       |exit i=>exact out (some (.exit i)) rfl hr
       |ret=>exact out (some .ret) rfl hr
    . cases hr
 . -- it is not
   have hw:=O6 (ops:=ops) hf1 m hg;obtain⟨fr2,h2,hr2,hr⟩:=w9 (show I9 (fun fr h=>R0 (guardOk (G4 ops.toList m) fr) .bad .bad (I9 (n9 p) (ih (xregP ops.toList p2) (fr.set yd skipped) h))) (ih (xregP ops.toList p1) (fr1.set yt skipped) h1)=.ok e p' fr' h' from hr);unfold wpListIn;rw[hw];refine⟨fun _ _=>trivial,?_⟩;rw[m3];refine mG hl (S:=SI l nt) (SI.calm1 hp.c1) (hf1.put (some yt) (show Rep W1 cx1 undef skipped from .tup #[] [] rfl (by simp))) (SI.stab (fun t e=>by cases e;exact hp.yt0) a1 _ hS1) hs1 hr2 fun a3 W3 cx3 he3 hs3 hf3 hS3=>?_
   rcases onOB_okI hr with⟨_,hr⟩|⟨hg3,hr⟩
   . cases hr
   . have hw3:=O6 (ops:=ops) hf3 y (by rw[hgd];exact hg3)
     obtain ⟨fr5,h5,hr5,hr⟩:=w9 hr;cases hr;unfold wpListIn;rw[hw3];refine⟨fun _ _=>trivial,?_⟩;rw[y4];exact My hl (SI.calm hp.c2) (hf3.put (some yd) (show Rep W3 cx3 undef skipped from .tup #[] [] rfl (by simp))) (SI.stab (fun t e=>by grind) a3 _ hS3) hs3 hr5 fun a5 W5 cx5 he5 hs5 hf5 hS5 =>
      ⟨rfl,hS5,cx5,(la.mono he3).mono he5,hs5,hf5⟩
theorem IQ.seq{k:IF}{b:IC}{r:IRes}{e:Ex}{p':Option Ex}{fr':Tr}{h':Heap}{K:Act->World->Prop}(hr:Kv (k b) r=.ok e p' fr' h')
 (hK:∀p1 fr1 h1 a1 w1,r=.ok .normal p1 fr1 h1->k b p1 fr1 h1=.ok e p' fr' h'->IQ E W0 cx0 ro l nt mk .normal p1 fr1 h1 .normal a1 w1->K a1 w1):∃e1 p1 fr1 h1,r=.ok e1 p1 fr1 h1/\
   ∀x a1 w1,IQ E W0 cx0 ro l nt mk e1 p1 fr1 h1 x a1 w1->Exit.then K (IQ E W0 cx0 ro l nt mk e p' fr' h') x a1 w1:=by
 cases r with
 |bad=>cases hr
 | ok e1 p1 fr1 h1 =>
  refine⟨e1,p1,fr1,h1,rfl,fun x a1 w1 hq=>?_⟩;obtain⟨rfl,hq'⟩:=hq;cases e1 with
  |normal=>exact hK p1 fr1 h1 a1 w1 rfl hr ⟨rfl,hq'⟩
  |exit i=>cases hr;exact⟨rfl,hq'⟩
  |ret=>cases hr;exact⟨rfl,hq'⟩
theorem mH(hc:w8 E P ih)(hl:w7 E P ih)(hY:MW E P W0 cx0 ro l mk Y):∀(k:Nat),
 (∀(c:Code)(ic:IC)(p p':Option Ex)(a:Act)(W:World)(cx:Cx)(fr fr':Tr)(h h':Heap)(e:Ex),parseI c=some ic->evI E ih nt Y k ic p fr h=.ok e p' fr' h'->FrRep W cx a.tmps fr->SI l nt a->LA W0 cx0 ro l (oN mk p) W cx->Sat E W cx h->c.wpIn (WF none) 0 P (IQ E W0 cx0 ro l nt mk e p' fr' h') a W)/\
 (∀(c:Code)(ic:IC)(p p':Option Ex)(a:Act)(W:World)(cx:Cx)(fr fr':Tr)(h h':Heap)(e:Ex),parseI c=some ic->evI E ih nt Y k (.loop ic) p fr h=.ok e p' fr' h'->FrRep W cx a.tmps fr->SI l nt a->LA W0 cx0 ro l (oN mk p) W cx->Sat E W cx h->Code.roundsIn (WF none) 0 P c (IQ E W0 cx0 ro l nt mk e p' fr' h') k a W)
 |0=>⟨(fun c ic p p' a W cx fr fr' h h' e _ hr=>by cases hr),(fun c ic p p' a W cx fr fr' h h' e _ hr=>by cases hr)⟩
 | k + 1=>by
  obtain ⟨ihc,ihl⟩:=mH hc hl hY k;have round:∀(c:Code)(ic:IC)(p p':Option Ex)(a:Act)(W:World)(cx:Cx)(fr fr':Tr)(h h':Heap)(e:Ex),parseI c=some ic->evI E ih nt Y (k+1) (.loop ic) p fr h=.ok e p' fr' h'->FrRep W cx a.tmps fr->SI l nt a->LA W0 cx0 ro l (oN mk p) W cx->Sat E W cx h->Code.roundsIn (WF none) 0 P c (IQ E W0 cx0 ro l nt mk e p' fr' h') (k+1) a W:=by
   intro c ic p p' a W cx fr fr' h h' e hpc hr hf hS la hs;obtain⟨e1,p1,fr1,h1,hr1,hq⟩:=IQ.seq (E:=E) (W0:=W0) (cx0:=cx0) (ro:=ro) (l:=l) (nt:=nt) (mk:=mk) (k:=evI E ih nt Y k) (b:=.loop ic) (r:=evI E ih nt Y k ic p fr h) (K:=Code.roundsIn (WF none) 0 P c (IQ E W0 cx0 ro l nt mk e p' fr' h') k) hr
    (fun p1 fr1 h1 a1 w1 _ hk hq=>by obtain⟨_,hS1,cx1,la1,hs1,hf1⟩:=hq;grind)
   rw[roundsIn_succ];exact wpIn_mono (ihc c ic p p1 a W cx fr fr1 h h1 e1 hpc hr1 hf hS la hs) hq
  refine⟨fun c ic p p' a W cx fr fr' h h' e hpc hr hf hS la hs=>?_,round⟩;cases c with
  |skip=>cases hpc;cases hr;exact wpIn_skip ⟨rfl,hS,cx,la,hs,hf⟩
  |exit i=>cases hpc;cases hr;exact wpIn_exit ⟨rfl,hS,cx,la,hs,hf⟩
  |ret=>cases hpc;cases hr;exact wpIn_ret ⟨rfl,hS,cx,la,hs,hf⟩
  | region id ops draw =>
   cases draw with
   | false =>
    have hpc:x5 ops.toList=some ic:=hpc;rcases regI_some hpc with⟨hcalm,rfl⟩|⟨p0,m,p1,y,p2,yt,yd,args,hp,rfl⟩
    . obtain⟨fr1,h1,hr1,hr⟩:=w9 (show I9 (n9 p) (ih (xregP ops.toList ops.toList) fr h)=.ok e p' fr' h' from hr)
      cases hr;exact aF hl (SI.calm hcalm) hf hS hs hr1 fun a1 W1 cx1 he1 hs1 hf1 hS1=>⟨rfl,hS1,cx1,la.mono he1,hs1,hf1⟩
    grind[oO]
   | true =>
    have hpc:(bif W6 [0] ops.toList then some (IC.reg (xc (.region id ops true)))else none)=some ic:=hpc;cases hcalm:W6 [0] ops.toList with
    |false=>grind
    | true =>
     rw[hcalm]at hpc;cases hpc;obtain⟨fr1,h1,hr1,hr⟩:=w9 (show I9 (n9 p) (ih (xc (.region id ops true)) fr h)=.ok e p' fr' h' from hr);cases hr;refine wpIn_mono (hc none (fun _ _ a=>SI l nt a) (.region id ops true) W cx a fr h (fun _ _ _ _ _ _ h=>h) (fun i o ho _ _=>(by grind[Go.AM.SI.calm])) hf hS hs (by grind)) fun x a1 w1 hq=>?_
     rw[hr1]at hq;obtain⟨cx1,he1,hS1,rfl,hs1,hf1⟩:=hq;exact⟨rfl,hS1,cx1,la.mono he1,hs1,hf1⟩
  | seq x y =>
   obtain ⟨ix,iy,h1,h2,rfl⟩:=Xw (show sT .seq (parseI x) (parseI y)=some ic from hpc);obtain⟨e1,p1,fr1,h1',hr1,hq⟩:=IQ.seq (E:=E) (W0:=W0) (cx0:=cx0) (ro:=ro) (l:=l) (nt:=nt) (mk:=mk) (k:=evI E ih nt Y k) (b:=iy) (r:=evI E ih nt Y k ix p fr h) (K:=y.wpIn (WF none) 0 P (IQ E W0 cx0 ro l nt mk e p' fr' h')) hr
    (fun p1 fr1 h1' a1 w1 _ hk hq=>by obtain⟨_,hS1,cx1,la1,hs1,hf1⟩:=hq;grind)
   grind[wpIn_seq,wpIn_mono]
  | cond x c d =>
   obtain⟨ix,iy,h1,h2,rfl⟩:=Xw (show sT (.cond x) (parseI c) (parseI d)=some ic from hpc);have hr:(opv E x fr).onBool .bad (fun t=>match t with|true=>evI E ih nt Y k ix p fr h|false=>evI E ih nt Y k iy p fr h)=.ok e p' fr' h':=hr;have hx:=c8 (E:=E) hs hf x;cases hv:opv E x fr with
   | bool t =>
    rw[hv]at hr hx;cases t with
    |true=>exact wpIn_cond_true hx.bool_inv (ihc c ix p p' a W cx fr fr' h h' e h1 hr hf hS la hs)
    |false=>exact wpIn_cond_false hx.bool_inv (ihc d iy p p' a W cx fr fr' h h' e h2 hr hf hS la hs)
   |_=>rw[hv]at hr;cases hr
  | block i x =>
   obtain⟨ix,h1,rfl⟩:=Option.map_eq_some_iff.1 (show(parseI x).map (.block i)=some ic from hpc);have hr:Jl i (evI E ih nt Y k ix p fr h)=.ok e p' fr' h':=hr;cases hq:evI E ih nt Y k ix p fr h with
   |bad=>rw[hq]at hr;cases hr
   | ok e1 p1 fr1 h1' =>
    rw[hq]at hr;refine wpIn_block (wpIn_mono (ihc x ix p p1 a W cx fr fr1 h h1' e1 h1 hq hf hS la hs) fun ex a1 w1 hi=>?_);obtain⟨rfl,hi⟩:=hi;cases e1 with
    |normal=>cases hr;exact⟨rfl,hi⟩
    |ret=>cases hr;exact⟨rfl,hi⟩
    | exit j =>
     have hr:(bif Nat.beq j i then IRes.ok .normal p1 fr1 h1' else .ok (.exit j) p1 fr1 h1')=.ok e p' fr' h':=hr;show if j=i then _ else _
     by_cases hj:j=i
     . subst hj
       rw[Nat.beq_refl]at hr;cases hr;rw[if_pos rfl];exact⟨rfl,hi⟩
     . rw[Heap.beq_false hj]at hr
       cases hr;rw[if_neg hj];exact⟨rfl,hi⟩
  | loop x =>
   obtain⟨ix,h1,rfl⟩:=Option.map_eq_some_iff.1 (show(parseI x).map .loop=some ic from hpc);grind[wpIn_loop_rounds]
  |_=>cases hpc
def ItQ(E:Env)(W0:World)(cx0:Cx)(ro:Option Nat)(l:Nat)(mk:LoopState->Option Code->Loop)(e:Ex)(h':Heap)(ex:Exit)(a:Act)(w:World):Prop:=
 (ex=.normal\/ex=.ret)/\a.defers=[]/\∃cx',LA W0 cx0 ro l (Ik mk e) w cx'/\Sat E w cx' h'
theorem xP(hc:w8 E P ih)(hl:w7 E P ih){c:Code}{ic:IC}(hm:parseI c=some ic)(hY:MW E P W0 cx0 ro l mk Y){caps:List AV}{e:Ex}{fr':Tr}{h h':Heap}(hr:itM E ih (.itf ic) nt caps Y h=.ok e fr' h')
 {a:Act}{W:World}{cx:Cx}(hf:FrRep W cx a.tmps (Tr.enter nt (.any::caps)))(hS:SI l nt a)(la:LA W0 cx0 ro l (mk .ready none) W cx)(hs:Sat E W cx h):c.wpIn (WF none) 0 P (ItQ E W0 cx0 ro l mk e h') a W:=by
 have hr:finI (evI E ih nt Y itMax ic none (Tr.enter nt (.any::caps)) h)=.ok e fr' h':=hr;cases hq:evI E ih nt Y itMax ic none (Tr.enter nt (.any::caps)) h with
 |bad=>rw[hq]at hr;cases hr
 | ok e1 p1 fr1 h1 =>
  rw[hq]at hr;refine wpIn_mono ((mH hc hl hY itMax).1 c ic none p1 a W cx _ fr1 h h1 e1 hm hq hf hS la hs) fun ex a1 w1 hi=>?_
  obtain⟨rfl,hS1,cx1,la1,hs1,_⟩:=hi;cases e1 with
  |exit j=>cases hr
  |normal=>cases hr;exact⟨.inl rfl,hS1.1,cx1,la1,hs1⟩
  |ret=>cases hr;exact⟨.inr rfl,hS1.1,cx1,la1,hs1⟩
end
end
end Go.AM
/-
 The abstract machine: a range over a function,walked.
-/
namespace Go.AM
section
variable {P:Program}{E:Env}{ih:G8}
theorem aG:∀(l:List Nat),GS l=l.length
 |[]=>rfl
 |_::r=>congrArg Nat.succ (aG r)
theorem Xx{W:World}{cx:Cx}:∀(ps:List Tmp)(vs:List Value)(l:List AV)(tmps:Array Value)(fr:Tr),RepL W cx vs l->FrRep W cx tmps fr ->
 FrRep W cx ((ps.zip vs).foldl (fun tmps (p:Tmp×Value)=>tmps.setIfInBounds p.1 p.2) tmps) (setPs ps l fr)
 |[],vs,l,tmps,fr,_,hf=>hf
 | p::ps,[],l,tmps,fr,hv,hf=>by
  cases l with
  |nil=>exact hf
  |cons x l=>have:=hv.1;simp at this
 | p::ps,v::vs,l,tmps,fr,hv,hf=>by
  cases l with
  |nil=>have:=hv.1;simp at this
  | cons x l =>
   show FrRep W cx ((ps.zip vs).foldl _ (tmps.setIfInBounds p v)) (setPs ps l (fr.set p x))
   refine Xx ps vs l _ _ ⟨by have:=hv.1;grind,fun i u c h1 h2=>hv.2 (i+1) u c (by grind) (by grind)⟩ ?_
   have:=FrRep.put (a:=⟨tmps,[]⟩) hf (some p) (hv.2 0 v x rfl rfl)
   exact this
def jC(fn:FuncId)(tmps:Array Value)(ps:Array Tmp)(ca cb:Code)(dd:Nat)(st:LoopState)(pe:Option Code):Loop:=
 {state:=st,pending:=pe,fn,tmps,params:=ps,assign:=ca,body:=cb,defers:=dd}
theorem rS(hc:w8 E P ih){W0:World}{cx0:Cx}{ro:Option Nat}{l:Nat}{fn:FuncId}{tmps:Array Value}{ps:Array Tmp}{ca cb:Code}{dd:Nat}{fr0:Tr}(hf0:FrRep W0 cx0 tmps fr0):
 MW E P W0 cx0 ro l (jC fn tmps ps ca cb dd) (roundY ih ps.toList (xc ca) (xc cb) fr0):=by
 intro vs args W cx h e fr' h' hr la hs hv;obtain⟨hlen,hr⟩:=dT hr;obtain⟨fr1,h1,hr1,hr2⟩:=rR hr;have hsz:vs.size=ps.size:=by
  have h1:=E5 hlen;rw[A9,aG]at h1;have h2:=hv.1;grind
 refine ⟨fn,_,ca,cb,run_yield la.rcd hsz,roundIn_of_wpIn trivial ?_⟩;have hf:FrRep W cx ((ps.zip vs).foldl (fun tmps (p:Tmp×Value)=>tmps.setIfInBounds p.1 p.2) tmps) (setPs ps.toList args fr0):=by
  have:=Xx ps.toList vs.toList args tmps fr0 hv (hf0.mono la.ext)
  grind[Array.toList_zip]
 show ca.wpIn (WF (some l)) 0 P _ _ W
 refine wpIn_mono (hc (some l) (DR l (jC fn tmps ps ca cb dd .ready none)) ca W cx ⟨_,[]⟩ _ h (DR.mono l _) (m4 (DR.stab l _) (DR.rf l _) ca) hf ⟨rfl,la.held,la.rcd⟩ hs (by grind)) fun x a1 w1 hp=>?_
 rw[hr1]at hp;obtain⟨cx1,he1,hd1,rfl,hs1,hf1⟩:=hp;have la1:=la.mono he1;refine⟨_,run_beginRound la1.rcd rfl,?_⟩;have e0:=la1.ext0 (st':=jC fn tmps ps ca cb dd .busy none) hs1;have la2:=la1.put (st':=jC fn tmps ps ca cb dd .busy none) hs1;have hs2:=hs1.putHeld la1.held e0;show cb.wpIn (WF (some l)) 0 P _ a1 (w1.putObj l (.loop (jC fn tmps ps ca cb dd .busy none)))
 refine wpIn_mono (hc (some l) (DR l (jC fn tmps ps ca cb dd .busy none)) cb _ cx1 a1 fr1 h1 (DR.mono l _) (m4 (DR.stab l _) (DR.rf l _) cb) (hf1.mono0 e0) ⟨hd1.1,la2.held,la2.rcd⟩ hs2 (by grind)) fun x a3 w3 hp=>?_
 rw [hr2]at hp;obtain⟨cx3,he3,hd3,rfl,hs3,hf3⟩:=hp;have la3:=la2.mono he3;have fin:∀st,st=Ik (jC fn tmps ps ca cb dd) e->LA W0 cx0 ro l (Ik (jC fn tmps ps ca cb dd) e) (w3.putObj l (.loop st)) cx3/\Ext0 W cx (w3.putObj l (.loop st)) cx3/\Sat E (w3.putObj l (.loop st)) cx3 h':=fun st e=>by
  subst e;have e4:=la3.ext0 (st':=Ik (jC fn tmps ps ca cb dd) e) hs3;exact⟨la3.put hs3,((he1.toExt0.trans e0).trans he3.toExt0).trans e4,hs3.putHeld la3.held e4⟩
 cases e with
 |normal=>exact⟨_,_,run_endRound none la3.rcd,rfl,cx3,fin _ rfl⟩
 |exit i=>exact⟨_,_,run_endRound (some (.exit i)) la3.rcd,rfl,cx3,fin _ rfl⟩
 |ret=>exact⟨_,_,run_endRound (some .ret) la3.rcd,rfl,cx3,fin _ rfl⟩
theorem rT{W:World}{cx:Cx}{h:Heap}{ro:Option Nat}{D:DP}(hD:Ko D)(hst:oK ro D){a:Act}(hd:D W cx a)(hs:Sat E W cx h)(fn:FuncId)(ps:Array Tmp)(ca cb:Code):
 ∃ l mk W1 cx1 dd,(Instr.enterLoop fn a.tmps ps ca cb ro).run P W=.ok (l,mk) W1/\LA W cx ro l (jC fn a.tmps ps ca cb dd .ready none) W1 cx1/\Sat E W1 cx1 h/\
   ∀W' cx' st,LA W cx ro l st W' cx'->D W' cx' {a with defers:=mk++a.defers}:=by
 cases ro with
 | none =>
  refine⟨W.heap.size+1,[jH W.heap.size],_,((cx.lay W.heap.size).lay (W.alloc (.deferred (some []))).heap.size),W.heap.size,run_enterLoop_outer fn a.tmps ps ca cb,?_,(hs.lay _).lay _,?_⟩
  . have e1:=Ext.lay W cx (.deferred (some []))
    have e2:=Ext.lay (W.alloc (.deferred (some []))) (cx.lay W.heap.size) (.loop (jC fn a.tmps ps ca cb W.heap.size .ready none));refine⟨e1.trans e2,.inr (by simp),?_,fun _=>⟨.inl (.inr rfl),?_⟩,Nat.le_succ _,fun _=>Nat.succ_ne_self _⟩
    . grind[jC,K7,World.size_alloc]
    grind[heap_alloc_old,K7]
  . intro W' cx' st la
    obtain⟨h1,h2⟩:=la.blk rfl;exact hst W cx a W' cx' _ hd la.ext (zqa _) (Q2 h2) h1 h2
 | some l0 =>
  obtain⟨rc,hrc⟩:=hst W cx a hd;refine⟨W.heap.size,[],_,cx.lay W.heap.size,rc.defers,run_enterLoop_inner hrc fn a.tmps ps ca cb,?_,hs.lay _,?_⟩
  . exact⟨Ext.lay W cx _,.inr rfl,K7 W _,(fun e=>by cases e),zqa _,(fun e=>by cases e)⟩
  . intro W' cx' st la
    exact hD _ _ _ _ _ la.ext hd
theorem orM_itf{x:Option FM}{y:FM}{m:FM}(h:MZ x y=m):x=some m\/(x=none/\y=m):=by
 cases x with
 |none=>exact .inr ⟨rfl,h⟩
 |some z=>cases h;exact .inl rfl
theorem Pe{c:Code}{m:FM}(h:aU c=some m):∃id o o' rest d d2 ops,c=.seq (.region id ops false) rest/\ops.toList=[o,o']/\isRc o=some d/\isAs d o'=some d2/\x6 [] rest=true/\m=.rcv d d2 (xc rest):=by
 unfold aU at h;grind
theorem Pf{rs:List ResultVar}{x:DfC}{m:FM}(h:Su rs x=some m):∃o r g,x.ops.toList.reverse=o::r/\isDf o=some g/\sS [] r.reverse=true/\x.pre.all (x6 [])=true/\x6 (rs.map Jm) x.rest=true/\m=.dfr (x.pre.map xc++[xregP x.ops.toList r.reverse]) g (xc x.rest):=by
 unfold Su at h;grind
theorem fmOf_cases{rs:List ResultVar}{c:Code}{m:FM}(h:fmOf rs c=m):
 (Yb rs=true/\aU c=some m)\/(∃x,parseD c=some x/\Su rs x=some m)\/(∃x,parseI c=some x/\Yb rs=true/\m=.itf x)\/m=.plain:=by
 unfold fmOf at h;rcases orM_itf h with h|⟨_,h⟩
 . grind
 . rcases orM_itf h with h|⟨_,h⟩
   . grind
   . rcases orM_itf h with h|⟨_,h⟩
     . grind
     grind
theorem aH {f : FuncId} {fn : Func} {c : Code} (h1 : P.funcs[f]? = some fn) (h2 : fn.body = some c) (h3 : (fn.name == "runtime.NumGoroutine") = false) (args : Array Value) (w : World) : (callFunc f args).run P w = .ok (.enter f args) w := by
 simp_all[callFunc]
theorem DD{W:World}{cx:Cx}{v:Value}{f:Nat}{caps:List AV}(h:Rep W cx v (.fn (.func f) [] caps)):∃ws,v=.func (.func f) #[] ws/\RepL W cx ws.toList caps:=by
 cases h with
 | fn f vs ws cs ds hl hl' h h' =>
  have:vs=#[]:=(by grind)
  subst this;exact⟨ws,rfl,⟨by grind,(by grind)⟩⟩
theorem dU{l:List AV}(h:noneL l=true):l=[]:=by cases l;rfl;cases h
theorem noRes_true{l:List ResultVar}(h:Yb l=true):l=[]:=by cases l;rfl;cases h
theorem rU{ps:List Tmp}{xa xb:XC}{fr:Tr}{h:Heap}{g:AV}(hb:rfnA E ih ps xa xb fr h g≠.bad):
 ∃f caps fi e fr' h',g=.fn (.func f) [] caps/\E.fn f=some fi/\caps.length+1<=fi.ntmps/\itM E ih fi.mode fi.ntmps caps (roundY ih ps xa xb fr) h=.ok e fr' h'/\rfnA E ih ps xa xb fr h g=.ok e fr h':=by
 cases g with
 | fn f first caps =>
  cases f with
  | func n =>
   have e:rfnA E ih ps xa xb fr h (.fn (.func n) first caps)=bif noneL first then backA fr (itF E ih n caps (roundY ih ps xa xb fr) h)else .bad:=rfl
   rw[e]at hb|-;cases hn:noneL first with
   |false=>grind
   | true =>
    rw[hn]at hb
    have:=dU hn
    subst this;simp only[cond_true]at hb|-;cases hq:itF E ih n caps (roundY ih ps xa xb fr) h with
    |bad=>rw[hq]at hb;exact absurd rfl hb
    |pan v hh=>rw[hq]at hb;exact absurd rfl hb
    | ok ex fr' h' =>
     unfold itF at hq;cases hf:E.fn n with
     |none=>grind
     | some fi =>
      rw[hf]at hq;obtain⟨h1,h2⟩:=dT hq;have h1:=E3 h1;rw[A9]at h1;exact⟨n,caps,fi,ex,fr',h',rfl,hf,h1,h2,rfl⟩
  |_=>exact absurd rfl hb
 |_=>exact absurd rfl hb
theorem rV{mo:FM}{nt:Nat}{caps:List AV}{Y:List AV->Heap->CRes}{h:Heap}{e:Ex}{fr':Tr}{h':Heap}(hr:itM E ih mo nt caps Y h=.ok e fr' h'):∃c,mo=.itf c:=by
 cases mo with
 |itf c=>grind
 |_=>cases hr
theorem oP(hE:EnvOk E P)(hc:w8 E P ih)(hl:w7 E P ih){ro:Option Nat}{D:DP}{g:Operand}{ps:Array Tmp}{ca cb:Code}{W:World}{cx:Cx}{a:Act}{fr:Tr}{h:Heap}(hD:Ko D)(hst:oK ro D)(hf:FrRep W cx a.tmps fr)(hd:D W cx a)(hs:Sat E W cx h)
 (hb:rfnA E ih ps.toList (xc ca) (xc cb) fr h (opv E g fr)≠.bad):(Code.rangeFunc g ps ca cb).wpIn (WF ro) 0 P (Y3 E W cx D (rfnA E ih ps.toList (xc ca) (xc cb) fr h (opv E g fr))) a W:=by
 obtain ⟨f,caps,fi,e,fr',h',hg,hfi,hle,hit,hres⟩:=rU hb;have hv:=c8 (E:=E) hs hf g;rw[hres];rw[hg]at hv;obtain⟨ws,hv,hcaps⟩:=DD hv;obtain⟨fn,c,h1,h2,h3,h4,h5,h6,h7⟩:=hE.fn f fi hfi;obtain⟨ic,hmode⟩:=rV hit;have⟨hx1,hx2⟩:parseI c=some ic/\Yb fn.results.toList=true:=by
  rcases fmOf_cases h7.symm with⟨_,h⟩|⟨x,_,h⟩|⟨x,h1,h2,h⟩|h
  . grind[Pe]
  . grind[Pf]
  . grind
  grind
 rw[hmode]at hit;refine wpIn_rangeFunc fun fn0 _=>?_
 obtain⟨l,mk,W1,cx1,dd,hen,la,hs1,hend⟩:=rT (P:=P) hD hst hd hs fn0 ps ca cb;have eg:=aH h1 h2 h3;refine⟨l,mk,W1,{target:=.fn (.func f) ws,args:=#[Y0 l]},W1,f,#[Y0 l]++ws,W1,hen,?_,fun _ _=>trivial,?_,fun h=>by simp[WF,Fence.wide]at h,?_⟩
 . simp[resolve,rangeCall,hv,Deferred.ofValue,Y0,show ∀v,a.eval (.const v)=v from fun _=>rfl]
 . simp[invoke,eg]
 . refine Kq.2 (Kq (ro:=none) (n:=0).1 (callsIn_of_wp (F:=WF none) (n:=0) h1 h2 trivial ?_ rfl))
   have hargs:RepL W1 cx1 (#[Y0 l]++ws).toList (.any::caps):=by
    have:=hcaps.mono la.ext
    simpa using RepL.cons (Rep.any (Y0 l) rfl) this
   have hsz:ws.size=caps.length:=by have:=hcaps.1;grind
   have hfr:=Mx hargs (n:=fi.ntmps) (by simpa using hle);rw[h5]at hfr hit hle;refine wpIn_mono (xP hc hl hx1 (rS hc hf) hit (a:=⟨#[Y0 l]++ws++Array.replicate (fn.ntmps-(#[Y0 l]++ws).size) undef,[]⟩) hfr ⟨rfl,by simp[Array.getD],by simp;omega⟩ la hs1) fun ex a' w' hq=>?_
   obtain ⟨hex,hdf,cx',la',hs'⟩:=hq;have hresults:∃v,(results fn a'.tmps).run P w'=.ok v w':=by
    obtain⟨v,hv,_⟩:=Ij (P:=P) (fr:=.nil) (tmps:=a'.tmps) (fn:=fn) (vs:=[]) hE hs' (by grind[Go.AM.noRes_true]) (by rw[noRes_true hx2];rfl);grind
   obtain ⟨v,hv⟩:=hresults;have fin:rangePost (WF ro) 0 P l (Y3 E W cx D (.ok e fr h')) {a with defers:=mk++a.defers} (.returned v) w':=by
    have nb:(Ik (jC fn0 a.tmps ps ca cb dd) e).state≠.busy:=by cases e<;>exact fun e=>by cases e
    have e4:=la'.ext0 (st':={Ik (jC fn0 a.tmps ps ca cb dd) e with state:=.exhausted}) hs';have la4:=la'.put (st':={Ik (jC fn0 a.tmps ps ca cb dd) e with state:=.exhausted}) hs';have hs4:=hs'.putHeld la'.held e4;refine⟨_,_,run_endLoop la'.rcd nb,?_⟩;have post:Y3 E W cx D (.ok e fr h') (bA e) {a with defers:=mk++a.defers} (w'.putObj l (.loop {Ik (jC fn0 a.tmps ps ca cb dd) e with state:=.exhausted})):=
     ⟨cx',la4.ext,hend _ _ _ la4,rfl,hs4,hf.mono la4.ext⟩
    cases e with
    |normal=>exact post
    |exit i=>exact wpIn_exit post
    |ret=>exact wpIn_ret post
   rcases hex with rfl|rfl
   . exact⟨hdf,v,hv,fin⟩
   . exact⟨hdf,v,hv,fin⟩
end
end Go.AM
/-
 The abstract machine: functions that defer a call which recovers; calls; code.
-/
namespace Go.AM
section
variable {P:Program}{E:Env}
theorem oQ{E:Env}{rs:List ResultVar}{fr:Tr}{h:Heap}(hb:Pm (J5 E rs fr h) h≠.bad):∃vs,J5 E rs fr h=some vs/\Pm (J5 E rs fr h) h=.ok (oneOrTup vs) h:=by
 cases hr:J5 E rs fr h with
 |none=>rw[hr]at hb;exact absurd rfl hb
 |some vs=>exact⟨vs,rfl,rfl⟩
theorem El{cx:Cx}{fn:Func}{tmps:Array Value}{R:Ending->World->Prop}{J:World->Prop}{n0:Nat}{u:FrameMode}(hu:u≠.run)
 (hJ:∀W r,J W->n0<=r->cx.held r->W.heap[r]?=some (.deferred (some []))->J (W.putObj r (.deferred none)))
 (hend:∀W,J W->LeavesInM (WF none) 0 P fn tmps R [] u W):∀(rs:List Nat)(W:World),rs.Nodup->(∀r∈rs,n0<=r/\cx.held r/\W.heap[r]?=some (.deferred (some [])))->J W->LeavesInM (WF none) 0 P fn tmps R (rs.map jH) u W
 |[],W,_,_,hj=>hend W hj
 | r::rs,W,hn,hr,hj=>by
  obtain⟨h1,h2,h3⟩:=hr r (List.mem_cons_self ..);obtain⟨hnr,hn⟩:=List.nodup_cons.1 hn;refine⟨hu,.inl ⟨r,_,rfl,run_takeDeferred h3,?_⟩⟩;refine El hu hJ hend rs _ hn (fun r' hr'=>?_) (hJ W r hj h1 h2 h3);grind[World.putObj_heap_other]
theorem xQ{x:Option (List Deferred)}:Rk (.deferred x):=fun _ _ _ e=>by cases e
theorem Si(hE:EnvOk E P){ih:G8}(hc:w8 E P ih){f:Nat}{fn:Func}{c:Code}(h1:P.funcs[f]?=some fn)(h2:fn.body=some c){args:Array Value}{l:List AV}{W:World}{cx:Cx}{h:Heap}(hl:RepL W cx args.toList l)(hn:l.length<=fn.ntmps)(hs:Sat E W cx h)
 (hb:M0 E fn.results.toList (ih (xc c) (Tr.enter fn.ntmps l) h)≠.bad):Calls P f args W ((M0 E fn.results.toList (ih (xc c) (Tr.enter fn.ntmps l) h)).Post E W cx):=by
 have hfr:=Mx hl hn;have hb1:ih (xc c) (Tr.enter fn.ntmps l) h≠.bad:=fun e=>by rw[e]at hb;exact hb rfl
 refine Kq.1 (callsIn_of_wp_marks (F:=WF none) (n:=0) h1 h2 trivial (wpIn_mono (hc none (D0 W.heap.size) c W cx ⟨_,[]⟩ _ h (D0.mono _) (m4 (D0.stab _) (D0.push _) c) hfr ⟨zqa _,[],rfl,List.nodup_nil,by simp⟩ hs hb1) fun x a w hp=>?_) rfl);obtain⟨cx',he,⟨h0,rs,hrs,hnd,hmk⟩,hp⟩:=hp;have hmk':∀r∈rs,W.heap.size<=r/\cx'.held r/\w.heap[r]?=some (.deferred (some [])):=(by grind)
 generalize ih (xc c) (Tr.enter fn.ntmps l) h=r at *;cases r with
 |bad=>grind
 | pan v h' =>
  obtain⟨vv,rfl,h7,h8⟩:=hp;show LeavesInM (WF none) 0 P fn a.tmps _ a.defers (.panicking _) w
  rw[hrs];refine El (J:=fun w=>Ext W cx w cx'/\Sat E w cx' h'/\Rep w cx' vv v) (fun e=>by cases e) (fun w r hj hr1 hr2 hr3=>?_) (fun w hj=>?_) rs w hnd hmk' ⟨he,h7,h8⟩
  . have e0:=Ext0.putHeld (o:=.deferred none) hj.2.1 hr2 hr3 xQ xQ
    exact⟨hj.1.putHi hr1 e0,hj.2.1.putHeld hr2 e0,hj.2.2.mono0 e0⟩
  . exact⟨cx',vv,rfl,hj.1,hj.2.1,hj.2.2⟩
 | ok e fr h' =>
  obtain ⟨rfl,h7,h8⟩:=hp;have key:Pm (J5 E fn.results.toList fr h') h'≠.bad->LeavesInM (WF none) 0 P fn a.tmps ((Pm (J5 E fn.results.toList fr h') h').Post E W cx) a.defers .returning w:=by
   intro hb;obtain⟨vs,hr,hr'⟩:=oQ hb;rw[hrs,hr'];refine El (J:=fun w=>Ext W cx w cx'/\Sat E w cx' h'/\FrRep w cx' a.tmps fr) (fun e=>by cases e) (fun w r hj hr1 hr2 hr3=>?_) (fun w hj=>?_) rs w hnd hmk' ⟨he,h7,h8⟩
   . have e0:=Ext0.putHeld (o:=.deferred none) hj.2.1 hr2 hr3 xQ xQ
     exact⟨hj.1.putHi hr1 e0,hj.2.1.putHeld hr2 e0,hj.2.2.mono0 e0⟩
   . obtain⟨v,h9,h10⟩:=Ij (P:=P) hE hj.2.1 (fun x _=>hj.2.2.rep _) hr
     exact⟨v,h9,cx',hj.1,hj.2.1,h10⟩
  cases e with
  |exit i=>exact absurd rfl hb
  |normal=>exact key hb
  |ret=>exact key hb
theorem oR(hE:EnvOk E P){f:Nat}(ht:E.told f=true){args:Array Value}{l:List AV}{W:World}{cx:Cx}{h:Heap}(hl:RepL W cx args.toList l)(hs:Sat E W cx h)(hb:toldA l h≠.bad):
 (∃ fn c, P.funcs[f]? = some fn ∧ fn.body = some c ∧ (fn.name == "runtime.NumGoroutine") = false) ∧ Calls P f args W ((toldA l h).Post E W cx) := by
 obtain⟨g,fn,c,hg,h1,h2,h3,h4⟩:=hE.told f ht;refine⟨⟨fn,c,h1,h2,h3⟩,?_⟩;obtain⟨⟨m,hm⟩,_,_⟩:=hs.gl.int g hg;cases l with
 |nil=>exact absurd rfl hb
 | cons x r =>
  cases r with
  |nil=>exact absurd rfl hb
  | cons y r =>
   have e:toldA (x::y::r) h=bif noneL r then x.onStr .bad (fun s=>y.onStr .bad fun p=>bif Nat.ble (o8 s) 4000000000||oneB p then(match contS p s with|true=>.ok (.bool true) h|false=>.ok (.bool false) h)else .bad)else .bad:=rfl;rw[e]at hb|-;cases hn:noneL r with
   |false=>grind
   | true =>
    rw[hn]at hb
    have:=dU hn
    subst this;simp only[cond_true]at hb|-;cases x with
    | str s =>
     cases y with
     | str p =>
      have hb:(bif Nat.ble (o8 s) 4000000000||oneB p then(match contS p s with|true=>Res.ok (.bool true) h|false=>.ok (.bool false) h)else .bad)≠.bad:=hb;show Calls P f args W ((bif Nat.ble (o8 s) 4000000000||oneB p then(match contS p s with|true=>Res.ok (.bool true) h|false=>.ok (.bool false) h)else .bad).Post E W cx)
      cases hle:(Nat.ble (o8 s) 4000000000||oneB p)with
      |false=>grind
      | true =>
       have hle:s.length<=4000000000\/p.length=1:=by
        rcases Bool.or_eq_true_iff.1 hle with h1|h1
        . simp_all[u3]
        . cases p with
          |nil=>cases h1
          | cons a q=>cases q with
           |nil=>grind
           |cons b q=>cases h1
       obtain ⟨v1,hv1,hr1⟩:=hl.get (i:=0) rfl;obtain⟨v2,hv2,hr2⟩:=hl.get (i:=1) rfl;obtain⟨s',rfl,hs'⟩:=hr1.str_inv;obtain⟨p',rfl,hp'⟩:=hr2.str_inv;have hargs:args=#[.string s',.string p']:=by
        have hlen:args.size=2:=by have:=hl.1;grind
        grind
       subst hargs;have hsz:s'.size<4294967281\/p'.size=1:=by
        rcases hle with hle|hle
        . have:s'.size=s'.data.toList.length:=by simp
          grind
        . have:p'.size=p'.data.toList.length:=by simp
          grind
       refine(h4 s' p' m W hsz hm).mono fun en w' he=>?_
       obtain⟨rfl,rfl⟩:=he;simp only[cond_true];rw[hs',hp'];cases contS p s with
       |true=>exact⟨cx,Ext.refl _ _,hs,.bool _⟩
       |false=>exact⟨cx,Ext.refl _ _,hs,.bool _⟩
     |_=>exact absurd rfl hb
    |_=>exact absurd rfl hb
inductive Mode:FrameMode->FrameMode->Value->Prop
 |ret:Mode .returning .returning .nilIface
 |pan (v:Value):Mode (.panicking [{v:=v,recovered:=false}]) (.panicking [{v:=v,recovered:=true}]) v
end
end Go.AM
/-
 The abstract machine: maps.DeleteFunc,told of: its predicate is called at each entry,in whatever order.
-/
namespace Go.AM
section
variable {P:Program}{E:Env}
theorem rW(hE:EnvOk E P){ih:G8}(hc:w8 E P ih)(hpr:∀(c:XC)(fr:Tr)(h h':Heap),CRes.heap (ih c fr h)=some h'->Pres h h'){f:Nat}{ks:List Nat}(hd:E.dlf f=some ks){args:Array Value}{l:List AV}{W:World}{cx:Cx}{h:Heap}
 (hl:RepL W cx args.toList l)(hs:Sat E W cx h)(hb:jS E ih ks l h≠.bad):Ky P f/\Calls P f args W ((jS E ih ks l h).Post E W cx):=absurd rfl hb
end
end Go.AM
/-
 The abstract machine: slices.Sorted at a map's keys,told of.
-/
namespace Go.AM
section
variable {P:Program}{E:Env}
theorem rX(hE:EnvOk E P){f:Nat}{args:Array Value}{l:List AV}{W:World}{cx:Cx}{h:Heap}{r:Res}
 (hl:RepL W cx args.toList l)(hs:Sat E W cx h)(hr:srtA E f l h=some r)(hb:r≠.bad):Ky P f/\Calls P f args W (r.Post E W cx):=by cases hr
end
end Go.AM
/-
 The abstract machine: maps.DeleteFunc: its loop,step by step,over whatever is kept.
-/
namespace Go.AM
open Go.Maps (Keyed)
section
variable {P:Program}{W:World}{b clock:Nat}{ents:Array MapEntry}{J:World->Prop}{K K':MapEntry->Prop}{seen:Array Nat}{n:Nat}{wr:World}{pd:MapEntry->Bool}
variable {ops:Array Oper}{rest:List Oper}{o:Oper}{a:Act}{Q:Exit->Act->World->Prop}
end
end Go.AM
/-
 The abstract machine: a range over a map in the code: whichever entry comes next,it comes to the same.
-/
namespace Go.AM
section
variable {P:Program}{E:Env}{ih:G8}
end
end Go.AM
/-
 The abstract machine: a range over a map in the code: what stands there,and that it is sound.
-/
namespace Go.AM
section
variable {P:Program}{E:Env}{ih:G8}
theorem DE{a b:Code}(h:rngC a b=none):xc (.seq a b)=.seq (xc a) (xc b):=by
 show(match rngC a b with|some R=>XC.rngm R (xc b)|none=>.seq (xc a) (xc b))=_
 rw[h]
theorem DF{a b:Code}{R:RngD}(h:rngC a b=some R):xc (.seq a b)=.rngm R (xc b):=by
 show(match rngC a b with|some R=>XC.rngm R (xc b)|none=>.seq (xc a) (xc b))=_
 rw[h]
end
end Go.AM
/-
 The abstract machine: a range over a map in the code is sound.
-/
namespace Go.AM
section
variable {P:Program}{E:Env}{ih:G8}{ops:Array Oper}{rest:List Oper}{o:Oper}{a:Act}{w:World}{Q:Exit->Act->World->Prop}
theorem oS(hE:EnvOk E P)(hc:w8 E P ih)(hpr:∀(c:XC)(fr:Tr)(h h':Heap),CRes.heap (ih c fr h)=some h'->Pres h h'){ro:Option Nat}{D:DP}(hD:Ko D){ca cb:Code}{R:RngD}(hR:rngC ca cb=some R)
 (hst:rJ ro D (.seq ca cb)){W:World}{cx:Cx}{a:Act}{fr:Tr}{h:Heap}(hf:FrRep W cx a.tmps fr)(hd:D W cx a)(hs:Sat E W cx h)(hb:Yc E ih R (xc cb) fr h≠.bad):
 (Code.seq ca cb).wpIn (WF ro) 0 P (Y3 E W cx D (Yc E ih R (xc cb) fr h)) a W:=absurd rfl hb
end
end Go.AM
/-
 The abstract machine: calls and code.
-/
namespace Go.AM
section
variable {P:Program}{E:Env}
theorem Pg:∀(c:Code)(x:DfC),parseD c=some x->c=x.code
 | .seq a b,x,h=>by
  have go:∀(a:Code),(parseD b).map (fun x=>(⟨a::x.pre,x.id,x.ops,x.rest⟩:DfC))=some x->Code.seq a b=x.code:=fun a h=>by
   cases hb:parseD b with
   |none=>grind
   | some y =>
    rw[hb]at h;cases h;show Code.seq a b=.seq a (y.code)
    rw[<-Pg b y hb]
  cases a with
  | region id ops draw =>
   cases draw with
   |true=>exact go _ h
   | false =>
    have h:(bif jT ops.toList then some ⟨[],id,ops,b⟩else(parseD b).map fun x=>⟨.region id ops false::x.pre,x.id,x.ops,x.rest⟩)=some x:=h;cases hh:jT ops.toList with
    |true=>rw[hh]at h;cases h;rfl
    |false=>grind
  |_=>exact go _ h
 | .skip,_,h | .region ..,_,h | .cond ..,_,h | .block ..,_,h | .loop ..,_,h | .scope ..,_,h | .rangeFunc ..,_,h | .label ..,_,h | .goto ..,_,h | .exit ..,_,h | .ret,_,h | .refuse ..,_,h=>by cases h
theorem xR(hE:EnvOk E P){ih:G8}(hc:w8 E P ih)(hl:w7 E P ih){fn:Func}{x:DfC}{o:Oper}{r:List Oper}{g:Operand}(hops:x.ops.toList=r.reverse++[o])(ho:isDf o=some g)(hcalm:sS [] r.reverse=true)(hrest:x6 (fn.results.toList.map Jm) x.rest=true)
 {W0:World}{cx0:Cx}:∀(L:List Code)(a:Act)(W:World)(cx:Cx)(fr:Tr)(h:Heap),L.all (x6 [])=true->Ext W0 cx0 W cx->FrRep W cx a.tmps fr->a.defers=[]->Sat E W cx h ->
 pF E ih g (xc x.rest) fn.results.toList (L.map xc++[xregP x.ops.toList r.reverse]) fr h≠.bad ->
 (L.foldr Code.seq (.seq (.region x.id x.ops false) x.rest)).wpIn (WF none) 0 P (bodyPostM (WF none) 0 P fn ((pF E ih g (xc x.rest) fn.results.toList (L.map xc++[xregP x.ops.toList r.reverse]) fr h).Post E W0 cx0)) a W
 |[],_,_,_,_,_,_,_,_,_,_,hb=>absurd rfl hb
 |_::_,_,_,_,_,_,_,_,_,_,_,hb=>absurd rfl hb
theorem dV(hE:EnvOk E P){ih:G8}(hc:w8 E P ih)(hl:w7 E P ih)(hpr:∀(c:XC)(fr:Tr)(h h':Heap),CRes.heap (ih c fr h)=some h'->Pres h h'):Fg E P (R5 E ih):=by
 intro f args l W cx h hv hs hb;unfold R5 at hb|-;cases ht:E.told f with
 |true=>grind[oR]
 | false =>
  rw[ht]at hb;simp only[cond_false]at hb|-;cases hdf:E.dlf f with
  |some ks=>rw[hdf]at hb;exact rW hE hc hpr hdf hv hs hb
  | none =>
   rw[hdf]at hb;dsimp only at hb|-;cases hsr:srtA E f l h with
   |some r=>rw[hsr]at hb;exact rX hE hv hs hsr hb
   | none =>
    rw[hsr]at hb;dsimp only at hb|-;cases hfi:E.fn f with
    |none=>grind
    | some fi =>
     rw[hfi]at hb;obtain⟨fn,c,h1,h2,h3,h4,h5,h6,h7⟩:=hE.fn f fi hfi;refine⟨⟨fn,c,h1,h2,h3⟩,?_⟩;dsimp only at hb|-;cases hn:Nat.ble (lenL l) fi.ntmps with
     |false=>grind
     | true =>
      rw[hn]at hb;simp only[cond_true]at hb|-;have hn:=E3 hn;rw[A9]at hn;unfold Ss at hb|-;cases hm:fi.mode with
      |rcv d d2 rest=>grind
      | plain =>
       grind[Si]
      | itf ic =>
       grind[Si]
      | dfr pre g rest =>
       rw [hm]at hb h7;dsimp only at hb|-;have⟨x,hx1,hx2⟩:∃x,parseD c=some x/\Su fn.results.toList x=some (.dfr pre g rest):=by
        rcases fmOf_cases h7.symm with⟨_,h⟩|h|⟨x,_,_,h⟩|h
        . grind[Pe]
        . exact h
        . cases h
        . cases h
       obtain ⟨o,r,g',hops,ho,hcalm,hpre,hrest,hrr⟩:=Pf hx2;cases hrr;have hcode:=Pg c x hx1;have hops':x.ops.toList=r.reverse++[o]:=by
        simp_all
       rw[h5,h6]at hb|-;rw[h5]at hn;have hfr:=Mx hv hn;refine Kq.1 (callsIn_of_wp_marks (F:=WF none) (n:=0) h1 h2 trivial ?_ rfl);rw[hcode];exact xR hE hc hl hops' ho hcalm hrest x.pre ⟨_,[]⟩ W cx _ h hpre (Ext.refl _ _) hfr rfl hs hb
theorem Sat.sub{P:Program}{E:Env}{W:World}{cx:Cx}{h h':Heap}(hs:Sat E W cx h)(hn:h'.next=h.next)(hg:∀id o,h'.get id=some o->h.get id=some o):Sat E W cx h' where
 nx:=hn.trans hs.nx
 objs id o ho:=hs.objs id o (hg id o ho)
 inj id id' o o' ho ho':=hs.inj id id' o o' (hg id o ho) (hg id' o' ho')
 gl:=hs.gl
 held:=hs.held
 free id o ho:=hs.free id o (hg id o ho)
theorem mI(hE:EnvOk E P){ih:G8}(hc:w8 E P ih)(hl:w7 E P ih)(hpr:∀(c:XC)(fr:Tr)(h h':Heap),CRes.heap (ih c fr h)=some h'->Pres h h'):Fg E P (J8 E ih):=by
 intro f args l W cx h hv hs hb;unfold J8 at hb|-;cases hg:E.gc f with
 |false=>rw[hg]at hb;exact dV hE hc hl hpr f args l W cx h hv hs hb
 | true =>
  rw[hg]at hb;have hb:MY h (R5 E ih f l {h with tch:=[]})≠.bad:=hb;show _/\Calls P f args W ((MY h (R5 E ih f l {h with tch:=[]})).Post E W cx)
  have h0:=dV hE hc hl hpr f args l W cx {h with tch:=[]} hv (hs.sub (P:=P) rfl fun _ _ ho=>ho) (fun e=>hb (by rw[e];rfl));refine⟨h0.1,h0.2.mono fun e w hp=>?_⟩;cases hq:R5 E ih f l {h with tch:=[]}with
  |bad=>rw[hq]at hb;exact absurd rfl hb
  |pan v h1=>rw[hq]at hb;exact absurd rfl hb
  | ok v h1 =>
   rw[hq]at hp;cases e with
   | returned vv =>
    obtain⟨cx',h1',h2,h3⟩:=hp;refine⟨cx',h1',h2.sub (P:=P) rfl fun id o ho=>?_,h3⟩;have ho:(h.os.trunc h1.os).get id=some o:=ho;show h1.os.get id=some o
    grind[HT.get_trunc]
   |panicked c=>exact hp.elim
   |outgrown=>exact hp.elim
theorem dW{b:Tr->Heap->CRes}{r:CRes}(h:Ec b r≠.bad):r≠.bad:=fun e=>by rw[e]at h;exact h rfl
theorem dX{W:World}{cx:Cx}{D:DP}{r:CRes}{b:Tr->Heap->CRes}{K:Act->World->Prop}(hb:Ec b r≠.bad)
 (hK:∀fr' h' cx' a' w',r=.ok .normal fr' h'->Ext W cx w' cx'->Sat E w' cx' h'->FrRep w' cx' a'.tmps fr'->D w' cx' a'->K a' w'):∀x a' w',Y3 E W cx D r x a' w'->Exit.then K (Y3 E W cx D (Ec b r)) x a' w':=by
 intro x a' w' hp;obtain⟨cx',he,hd,hp⟩:=hp;cases r with
 |bad=>exact hp.elim
 | pan v h' =>
  obtain⟨vv,rfl,h1,h2⟩:=hp;exact⟨cx',he,hd,vv,rfl,h1,h2⟩
 | ok e fr h' =>
  obtain⟨rfl,h1,h2⟩:=hp;cases e with
  |normal=>exact hK fr h' cx' a' w' rfl he h1 h2 hd
  |exit i=>exact⟨cx',he,hd,rfl,h1,h2⟩
  |ret=>exact⟨cx',he,hd,rfl,h1,h2⟩
theorem aI{W:World}{cx:Cx}{D:DP}{r:CRes}{l:Nat}{a:Act}{w:World}(hp:Y3 E W cx D r (.goto l) a w):False:=by
 obtain⟨cx',_,_,hp⟩:=hp;cases r with
 |bad=>exact hp.elim
 |pan v h'=>obtain⟨vv,e,_⟩:=hp;cases e
 |ok e fr' h'=>obtain⟨e2,_⟩:=hp;cases e<;>cases e2
theorem Sj(hE:EnvOk E P):∀n,w8 E P (ev E n)/\
 (∀(ro:Option Nat)(D:DP)(c:Code)(W:World)(cx:Cx)(a:Act)(fr:Tr)(h:Heap),Ko D->rJ ro D c->FrRep W cx a.tmps fr->D W cx a->Sat E W cx h->ev E n (.loop (xc c)) fr h≠.bad->Code.roundsIn (WF ro) 0 P c (Y3 E W cx D (ev E n (.loop (xc c)) fr h)) n a W)/\
 w7 E P (ev E n)
 |0=>⟨fun ro D c W cx a fr h _ _ _ _ _ hb=>absurd rfl hb,fun ro D c W cx a fr h _ _ _ _ _ hb=>absurd rfl hb,fun S ops l Q W cx a fr h _ _ _ _ hb=>absurd rfl hb⟩
 | n + 1=>by
  obtain ⟨ihc,ihl,ihp⟩:=Sj hE n;have hcall:=mI hE ihc ihp (Bw E n);have round:∀(ro:Option Nat)(D:DP)(c:Code)(W:World)(cx:Cx)(a:Act)(fr:Tr)(h:Heap),Ko D->rJ ro D c->FrRep W cx a.tmps fr->D W cx a->Sat E W cx h->ev E (n+1) (.loop (xc c)) fr h≠.bad->Code.roundsIn (WF ro) 0 P c (Y3 E W cx D (ev E (n+1) (.loop (xc c)) fr h)) (n+1) a W:=by
   intro ro D c W cx a fr h hD hst hf hd hs hb;have e:ev E (n+1) (.loop (xc c)) fr h=Ec (ev E n (.loop (xc c))) (ev E n (xc c) fr h):=rfl;rw[e]at hb|-;rw[roundsIn_succ];refine wpIn_mono (ihc ro D c W cx a fr h hD hst hf hd hs (dW hb)) (dX hb fun fr' h' cx' a' w' e1 h1 h2 h3 h4=>?_);rw[e1]at hb|-;have hb:ev E n (.loop (xc c)) fr' h'≠.bad:=hb
   have:=ihl ro D c w' cx' a' fr' h' hD hst h3 h4 h2 hb
   have mono:∀m a w Q Q',(∀x a w,Q x a w->Q' x a w)->Code.roundsIn (WF ro) 0 P c Q m a w->Code.roundsIn (WF ro) 0 P c Q' m a w:=by
    intro m
    induction m with
    |zero=>intro a w Q Q' _ h;exact h
    | succ m ih =>
     intro a w Q Q' hq h;exact wpIn_mono h fun x a w hx=>by cases x<;>first|exact ih _ _ _ _ hq hx|exact hq _ _ _ hx
   exact mono n a' w' _ _ (fun x a w hp=>Y3.trans h1 hp) this
  refine⟨fun ro D c W cx a fr h hD hst hf hd hs hb=>?_,round,fun S ops l Q W cx a fr h hst hf hS hs hb=>?_⟩
  . cases c with
    |skip=>exact wpIn_skip ⟨cx,Ext.refl _ _,hd,rfl,hs,hf⟩
    |ret=>exact wpIn_ret ⟨cx,Ext.refl _ _,hd,rfl,hs,hf⟩
    |exit id=>exact wpIn_exit ⟨cx,Ext.refl _ _,hd,rfl,hs,hf⟩
    |label l=>exact wpIn_label ⟨cx,Ext.refl _ _,hd,rfl,hs,hf⟩
    | scope x =>
     have e:ev E (n+1) (xc (.scope x)) fr h=ev E n (xc x) fr h:=rfl;rw[e]at hb|-;refine jJ (wpIn_mono (ihc ro D x W cx a fr h hD hst hf hd hs hb) fun x' a' w' hp=>?_);cases x' with
     |goto l=>grind[aI]
     |_=>exact hp
    | region id ops draw =>
     cases draw with
     | false =>
      have e:ev E (n+1) (xc (.region id ops false)) fr h=step E (ev E n) (bif Im ops.toList then .reg false (ops.toList.map (dM ops.toList false [] false))else .bad) fr h:=rfl;rw[e]at hb|-;cases hnd:Im ops.toList with
      |false=>rw[hnd]at hb;exact absurd rfl hb
      | true =>
       rw[hnd]at hb;have hb:I5 E (J8 E (ev E n)) (ops.toList.map (dM ops.toList false [] false)) fr h≠.bad:=hb;show(Code.region id ops false).wpIn (WF ro) 0 P (Y3 E W cx D (I5 E (J8 E (ev E n)) (ops.toList.map (dM ops.toList false [] false)) fr h)) a W
       exact wpIn_mono (oW (ro:=ro) (Q:=(I5 E (J8 E (ev E n)) (ops.toList.map (dM ops.toList false [] false)) fr h).Post E W cx (fun a=>D W cx a)) rZ (noDfr_iff _ hnd) (Bd hE hcall ops.toList W cx a fr h (fun o ho=>by obtain⟨i,hi⟩:=List.getElem?_of_mem ho;exact hst i o (by grind) W cx) hf hd hs hb fun x a' w' hp=>hp)) fun x a w hp=>Y3.of_post hD hp
     | true =>
      have e:ev E (n+1) (xc (.region id ops true)) fr h=step E (ev E n) (bif Im ops.toList then(bif Ng ops.toList (Ez ops.toList) (Rs ops.toList (Ez ops.toList))then .reg true (Aq ops.toList (Ez ops.toList) [] (Rs ops.toList (Ez ops.toList)))else .bad)else .bad) fr h:=rfl;rw[e]at hb|-;cases hnd:Im ops.toList with
      |false=>rw[hnd]at hb;exact absurd rfl hb
      | true =>
       rw[hnd]at hb;cases hok:Ng ops.toList (Ez ops.toList) (Rs ops.toList (Ez ops.toList))with
       |false=>rw[hok]at hb;exact absurd rfl hb
       | true =>
        rw[hok]at hb;exact wpIn_mono (jK hE hs hf (S:=fun a=>D W cx a) hd hcall (xS E n) (fun i o ho=>hst i o ho W cx) (ro:=ro) (by grind[Go.AM.noDfr_iff]) hok hb) fun x a w hp=>Y3.of_post hD hp
    | seq x y =>
     cases hR:rngC x y with
     | some R =>
      have e:ev E (n+1) (xc (.seq x y)) fr h=Yc E (ev E n) R (xc y) fr h:=by rw[DF hR];rfl
      rw[e]at hb|-;exact oS hE ihc (Bw E n) hD hR hst hf hd hs hb
     | none =>
      have e:ev E (n+1) (xc (.seq x y)) fr h=Ec (ev E n (xc y)) (ev E n (xc x) fr h):=by rw[DE hR];rfl
      rw[e]at hb|-;refine wpIn_seq (wpIn_mono (ihc ro D x W cx a fr h hD hst.1 hf hd hs (dW hb)) (dX hb fun fr' h' cx' a' w' e1 h1 h2 h3 h4=>?_));rw[e1]at hb|-;have hb:ev E n (xc y) fr' h'≠.bad:=hb;exact wpIn_mono (ihc ro D y w' cx' a' fr' h' hD hst.2 h3 h4 h2 hb) fun x a w hp=>Y3.trans h1 hp
    | cond c x y =>
     have e:ev E (n+1) (xc (.cond c x y)) fr h=Pn (ev E n (xc x)) (ev E n (xc y)) (opv E c fr) fr h:=rfl;rw[e]at hb|-;have hc:=c8 (E:=E) hs hf c;cases hv:opv E c fr with
     | bool b =>
      rw[hv]at hb hc;refine wpIn_cond hc.bool_inv ?_;cases b with
      |true=>exact ihc ro D x W cx a fr h hD hst.1 hf hd hs hb
      |false=>exact ihc ro D y W cx a fr h hD hst.2 hf hd hs hb
     |_=>rw[hv]at hb;exact absurd rfl hb
    | block id x =>
     have e:ev E (n+1) (xc (.block id x)) fr h=Ey id (ev E n (xc x) fr h):=rfl;rw[e]at hb|-;have hb1:ev E n (xc x) fr h≠.bad:=fun e=>by rw[e]at hb;exact hb rfl
     refine wpIn_block (wpIn_mono (ihc ro D x W cx a fr h hD hst hf hd hs hb1) fun x' a' w' hp=>?_);clear e;generalize ev E n (xc x) fr h=r at *;obtain⟨cx',he,hd',hp⟩:=hp;cases r with
     |bad=>grind
     | pan v h' =>
      obtain⟨vv,rfl,h1,h2⟩:=hp;exact⟨cx',he,hd',vv,rfl,h1,h2⟩
     | ok e fr' h' =>
      obtain⟨rfl,h1,h2⟩:=hp;cases e with
      |normal=>exact⟨cx',he,hd',rfl,h1,h2⟩
      |ret=>exact⟨cx',he,hd',rfl,h1,h2⟩
      | exit j =>
       show Exit.inBlock id _ (.exit j) a' w'
       have e2:Ey id (.ok (.exit j) fr' h')=bif Nat.beq j id then .ok .normal fr' h' else .ok (.exit j) fr' h':=rfl;rw[e2];show if j=id then _ else _
       by_cases hj:j=id
       . subst hj;rw[if_pos rfl];simp only[Nat.beq_refl,cond_true];exact⟨cx',he,hd',rfl,h1,h2⟩
       . rw[if_neg hj,Heap.beq_false hj];exact⟨cx',he,hd',rfl,h1,h2⟩
    |loop x=>exact wpIn_loop_rounds (n+1) (round ro D x W cx a fr h hD hst hf hd hs hb)
    |rangeFunc g ps x y=>exact oP hE ihc ihp hD hst hf hd hs hb
    |_=>exact absurd rfl hb
  . have e:ev E (n+1) (xregP ops.toList l) fr h=step E (ev E n) (bif Im l then .reg false (l.map (dM ops.toList false [] false))else .bad) fr h:=rfl
    rw[e]at hb|-;cases hnd:Im l with
    |false=>rw[hnd]at hb;exact absurd rfl hb
    | true =>
     rw[hnd]at hb;exact⟨noDfr_iff _ hnd,fun hQ=>Bd hE hcall l W cx a fr h hst hf hS hs hb hQ⟩
theorem oT(hE:EnvOk E P){W:World}{cx:Cx}{h:Heap}{n f:Nat}{args:Array Value}{l:List AV}(hl:RepL W cx args.toList l)(hs:Sat E W cx h)(hb:run E n f l h≠.bad):Calls P f args W ((run E n f l h).Post E W cx):=
 (mI hE (Sj hE n).1 (Sj hE n).2.2 (Bw E n) f args l W cx h hl hs hb).2
end
end Go.AM
