/- The abstract machine, part five: ranges over functions, deferred calls that recover, code and calls: sound. Conditions: none. -/
import Derived.Test.YtjbdobdlnccgpaaAmFour
import Derived.RangeFuncNested
import Derived.RecoverIn
import Derived.RowKit3
import Derived.Maps.RangeWalk
import Derived.Maps.Ext
import Derived.Laws.IdiomRangeMap
import Derived.Deep.LoopGhost
import Derived.WalkKit
set_option linter.unusedVariables false
set_option linter.unusedSectionVars false
set_option linter.unusedSimpArgs false
/-
 The abstract machine: what a body yields; frames that are entered; blocks that are laid and held; what is so behind code.
set_option maxHeartbeats 4000000
-/
open Option renaming some→zs,none→zn
open Bool renaming true→zt,false→zf
open Nat renaming le_refl→zqa
namespace Go.AM
section
variable {P:Program}{E:Env}{W:World}{cx:Cx}{h:Heap}
theorem pL(B:EnvOk E P)(C:Sat E W cx h){t:Nat}{ti:TI}(D:E.ti t=zs ti){x:Value}{a r:AV}(A:Rep W cx x a)(hl:Eg ti a h=zs r):
 ∃v p,x=.pointer (zs p)/\(loadVar t p).run P W=.ok v W/\Rep W cx v r:=by
 obtain⟨v,h1,h2⟩:=Tj (P:=P) B C D A hl
 have:∃p,x=.pointer (zs p):=by
  cases a with
  |fptr v off=>obtain⟨b,o,e,_⟩:=A.fptr_inv;grind
  |ptr id i off=>obtain⟨_,e⟩:=A.ptr_inv;grind
  |_=>cases hl
 obtain⟨p,rfl⟩:=this;exact⟨v,p,rfl,by grind[Instr.loadAt,Instr.sureAddr],h2⟩
def resVar(tmps:Array Value):ResultVar->Sem Value
 |.tmp t=>pure (tmps.getD t undef)
 | .cell a t=>do loadVar t (<-asAddr (tmps.getD a undef))
theorem Cq(D:EnvOk E P)(G:Sat E W cx h){tmps:Array Value}{fr:Tr}:∀(l:List ResultVar)(vs:List AV),(∀x∈l,Rep W cx (tmps.getD (Ia x) undef) (fr.get (Ia x)))->J9 E l fr h=zs vs->∃us,(l.mapM (resVar tmps)).run P W=.ok us W/\RepL W cx us vs
 |[],vs,hf,A=>by
  cases A;exact⟨[],rfl,.nil⟩
 |x::l,vs,hf,A=>by
  have B:=fun y N=>hf y (List.mem_cons_of_mem _ N)
  have C:=hf x (List.mem_cons_self ..);cases x with
  |tmp t=>
   have A:A6 (J9 E l fr h) (fun vs=>zs (fr.get t::vs))=zs vs:=A;obtain⟨ws,h1,h2⟩:=A2 A;cases h2;obtain⟨us,H,I⟩:=Cq D G l ws B h1;exact⟨tmps.getD t undef::us,by rw[List.mapM_cons];simp[resVar,H],.cons C I⟩
  |cell a t=>
   have A:onTI E t zn (fun ti=>A6 (Eg ti (fr.get a) h) fun v=>A6 (J9 E l fr h) fun vs=>zs (v::vs))=zs vs:=A;obtain⟨ti,U,A⟩:=F2 A;obtain⟨v,V,A⟩:=A2 A;obtain⟨ws,h1,h2⟩:=A2 A;cases h2;obtain⟨us,H,I⟩:=Cq D G l ws B h1;have C:Rep W cx (tmps.getD a undef) (fr.get a):=C;obtain⟨u,p,e,X,h6⟩:=pL (P:=P) D G U C V;exact⟨u::us,by rw[List.mapM_cons];simp[resVar,e,asAddr,X,H],.cons h6 I⟩
theorem He(A:EnvOk E P)(B:Sat E W cx h){tmps:Array Value}{fr:Tr}{fn:Func}(hf:∀x∈fn.results.toList,Rep W cx (tmps.getD (Ia x) undef) (fr.get (Ia x))){vs:List AV}(C:J9 E fn.results.toList fr h=zs vs):
 ∃v,(results fn tmps).run P W=.ok v W/\Rep W cx v (oneOrTup vs):=by
 obtain ⟨us,h1,h2⟩:=Cq (P:=P) A B fn.results.toList vs hf C;have e1:(fn.results.mapM (resVar tmps)).run P W=.ok us.toArray W:=by
  rw[<-Array.toArray_toList (xs:=fn.results),List.mapM_toArray];simp[h1]
 have e2:results fn tmps=(do
  let vs <-fn.results.mapM (resVar tmps)
  pure (if h:vs.size=1 then vs[0]else .tuple vs)):=by
  unfold results
  congr 1
 refine⟨if h:us.toArray.size=1 then us.toArray[0]else .tuple us.toArray,by simp_all,?_⟩;cases us with
 |nil=>
  cases vs with
  |nil=>exact .tup #[] [] rfl (by simp)
  |cons _ _=>have:=h2.1;simp at this
 |cons u us=>
  cases vs with
  |nil=>have:=h2.1;simp at this
  |cons v vs=>
   cases us with
   |nil=>
    cases vs with
    |nil=>exact h2.2 0 _ _ rfl rfl
    |cons _ _=>have:=h2.1;simp at this
   |cons u2 us=>
    cases vs with
    |nil=>have:=h2.1;simp at this
    |cons v2 vs=>simp only[List.size_toArray,List.length_cons];rw[dif_neg (by omega)];exact Rep.tup_mk h2
theorem FrRep.set{tmps:Array Value}{fr:Tr}(hf:FrRep W cx tmps fr){i:Nat}{x:AV}(A:Rep W cx (tmps.getD i undef) x):FrRep W cx tmps (fr.set i x) where
 rep j:=by
  by_cases e:i=j
  . subst e
    rw[Tr.get_set_eq];split
    . exact A
    . exact .und _
  . rw[Tr.get_set_ne _ _ _ _ e];exact hf.rep j
 has j hj:=by rw[Tr.has_set]at hj;exact hf.has j hj
theorem FrRep.setAll{tmps:Array Value}:∀(l:List AV)(i:Nat)(fr:Tr),FrRep W cx tmps fr->(∀(j:Nat) x,l[j]?=zs x->Rep W cx (tmps.getD (i+j) undef) x)->FrRep W cx tmps (Tr.setAll l i fr)
 |[],_,_,hf,_=>hf
 |v::l,i,fr,hf,hx=>by
  show FrRep W cx tmps (Tr.setAll l (i+1) (fr.set i v))
  exact FrRep.setAll l (i+1) _ (hf.set (hx 0 v rfl)) fun j x hj=>by
   have:=hx (j+1) x (by grind)
   grind
theorem Ml{args:Array Value}{l:List AV}(hl:RepL W cx args.toList l){n:Nat}(hn:l.length<=n):FrRep W cx (args++Array.replicate (n-args.size) undef) (Tr.enter n l):=by
 have hsz:args.size=l.length:=by have:=hl.1;grind
 refine FrRep.setAll l 0 _ ⟨fun i=>by rw[Tr.get_mk];exact .und _,fun i hi=>?_⟩ fun j x A=>?_
 . have:=Tr.has_mk _ _ _ hi
   simp;omega
 . obtain ⟨v,h1,h2⟩:=hl.get A
   have hlt:j<args.size:=by grind
   have:(args++Array.replicate (n-args.size) undef).getD (0+j) undef=v:=by
    simp_all[Array.getElem?_append_left]
   grind
def Cx.lay(cx:Cx)(b:Nat):Cx:=⟨cx.μ,cx.nx,fun x=>cx.own x\/x=b,fun x=>cx.held x\/x=b⟩
theorem Ext.lay(W:World)(cx:Cx)(o:Obj):Ext W cx (W.alloc o) (cx.lay W.heap.size) where
 nx:=zqa _
 mu _ _:=rfl
 sz:=by simp
 keep b hb _:=heap_alloc_old W o hb
 shape b hb:=by grind[szOf,heap_alloc_old]
 own b hb h:=by rcases h with h|h;exact h;omega
 hold b hb h:=⟨.inl h,heap_alloc_old W o hb⟩
 out:=⟨rfl,rfl,rfl⟩
theorem Sat.lay(A:Sat E W cx h)(o:Obj):Sat E (W.alloc o) (cx.lay W.heap.size) h where
 nx:=A.nx
 objs id y hy:=by
  obtain⟨h1,h2,B,C⟩:=A.objs id y hy;exact⟨h1,.inl h2,by show(cx.μ id).1<_;simp;omega,C.mono (Ext.lay W cx o) (heap_alloc_old W o B)⟩
 inj:=A.inj
 gl:=A.gl.mono (Ext.lay W cx o)
 held b hb:=by
  rcases hb with hb|rfl
  . exact⟨by have:=(A.held b hb).1;simp;omega,.inl (A.held b hb).2⟩
  . exact⟨by simp,.inr rfl⟩
 free id y hy:=by
  rintro(hb|hb)
  . exact A.free id y hy hb
  . have:=(A.objs id y hy).2.2.1
    have hb:(cx.μ id).1=W.heap.size:=hb;omega
def Re(o:Obj):Prop:=∀c t f,o≠.cells c t f
theorem sM{W:World}{b:Nat}(h:∀o,W.heap[b]?=zs o->Re o):szOf W b=0:=by
 unfold szOf;cases hb:W.heap[b]? with
 |none=>rfl
 |some o=>
  cases o with
  |cells c t f=>exact absurd rfl (h _ hb c t f)
  |_=>rfl
theorem Ext0.putHeld(A:Sat E W cx h){l:Nat}{o₀ o:Obj}(hl:cx.held l)(h0:W.heap[l]?=zs o₀)(hn:Re o₀)(ho:Re o):Ext0 W cx (W.putObj l o) cx where
 nx:=zqa _
 mu _ _:=rfl
 sz:=by simp
 keep b _ hb:=World.putObj_heap_other fun e=>hb (e▸(A.held l hl).2)
 shape b hb:=by
  grind[szOf,sM,World.putObj_heap_same,World.putObj_heap_other]
 own _ _ h:=h
theorem Sat.putHeld(A:Sat E W cx h){l:Nat}{o:Obj}(hl:cx.held l)(B:Ext0 W cx (W.putObj l o) cx):Sat E (W.putObj l o) cx h where
 nx:=A.nx
 objs id y hy:=by
  obtain⟨h1,h2,C,D⟩:=A.objs id y hy;exact⟨h1,h2,by simpa using C,D.mono0 B (World.putObj_heap_other fun e=>A.free id y hy (e▸hl))⟩
 inj:=A.inj
 gl:=A.gl.mono0 B
 held b hb:=⟨by simpa using(A.held b hb).1,(A.held b hb).2⟩
 free:=A.free
theorem Ext.putHi{W W':World}{cx cx':Cx}{l:Nat}{o:Obj}(A:Ext W cx W' cx')(hl:W.heap.size<=l)(h0:Ext0 W' cx' (W'.putObj l o) cx'):Ext W cx (W'.putObj l o) cx' where
 toExt0:=A.toExt0.trans h0
 hold b hb hh:=⟨(A.hold b hb hh).1,(World.putObj_heap_other (by omega)).trans (A.hold b hb hh).2⟩
 out:=A.out
abbrev DP:=World->Cx->Act->Prop
def CRes.End(E:Env)(r:CRes)(x:Exit)(a:Act)(w:World)(cx':Cx):Prop:=
 match r with
 |.ok e fr h=>x=bR e/\Sat E w cx' h/\FrRep w cx' a.tmps fr
 |.pan v h=>∃A,x=.panic [{v:=A,recovered:=zf}]/\Sat E w cx' h/\Rep w cx' A v
 | .bad=>False
def c7(E:Env)(W:World)(cx:Cx)(D:DP)(r:CRes)(x:Exit)(a:Act)(w:World):Prop:=∃cx',Ext W cx w cx'/\D w cx' a/\r.End E x a w cx'
theorem c7.trans{W B:World}{cx A:Cx}{D:DP}(G:Ext W cx B A){r:CRes}{x:Exit}{a:Act}{w:World}(h:c7 E B A D r x a w):c7 E W cx D r x a w:=by
 obtain⟨cx',C,h⟩:=h;exact⟨cx',G.trans C,h⟩
def Je(D:DP):Prop:=∀W cx a W' cx',Ext W cx W' cx'->D W cx a->D W' cx' a
def mV(D:DP)(d:Option Tmp):Prop:=∀W cx,Js (D W cx) d
theorem c7.of_post{D:DP}(B:Je D){r:CRes}{x:Exit}{a:Act}{w:World}(h:r.Post E W cx (fun a=>D W cx a) x a w):c7 E W cx D r x a w:=by
 obtain⟨C,cx',A,h⟩:=h;exact⟨cx',A,B _ _ _ _ _ A C,h⟩
def jL(r:Nat):Deferred:={target:=.collected r,args:=#[]}
def pM(ro:Option Nat)(D:DP):Prop:=
 match ro with
 |none=>∀W cx a W' cx' r,D W cx a->Ext W cx W' cx'->W.heap.size<=r->r<W'.heap.size->cx'.held r->W'.heap[r]?=zs (.deferred (zs []))->D W' cx' {a with defers:=jL r::a.defers}
 |some l=>∀W cx a,D W cx a->∃A,W.heap[l]?=zs (.loop A)
def sJ(ro:Option Nat)(D:DP):Code->Prop
 |.region _ ops _=>∀(i:Nat)(o:Oper),ops[i]?=zs o->mV D o.dst
 |.seq a b=>sJ ro D a/\sJ ro D b
 |.cond _ a b=>sJ ro D a/\sJ ro D b
 |.block _ a=>sJ ro D a
 |.loop a=>sJ ro D a
 |.scope a=>sJ ro D a
 |.rangeFunc ..=>pM ro D
 |_=>True
theorem o4{ro:Option Nat}{D:DP}(h:∀d,mV D d)(A:pM ro D):∀c,sJ ro D c
 |.region _ ops _=>fun _ _ _=>h _
 |.seq a b=>⟨o4 h A a,o4 h A b⟩
 |.cond _ a b=>⟨o4 h A a,o4 h A b⟩
 |.block _ a=>o4 h A a
 |.loop a=>o4 h A a
 |.scope a=>o4 h A a
 |.rangeFunc ..=>A
 | .skip | .exit _ | .label _ | .goto _ | .ret | .refuse _=>trivial
theorem On{a:Act}{d:Option Tmp}{v:Value}{i:Nat}(h:∀t,d=zs t->t≠i):(a.put d v).tmps.getD i undef=a.tmps.getD i undef:=by
 cases d with
 |none=>rfl
 |some d=>
  show(a.tmps.setIfInBounds d v).getD i undef=_
  simp_all
theorem sN(a:Act)(d:Option Tmp)(v:Value):(a.put d v).tmps.size=a.tmps.size:=by
 cases d with
 |none=>rfl
 |some d=>show(a.tmps.setIfInBounds d v).size=_;simp
def D0(n0:Nat):DP:=fun W cx a=>n0<=W.heap.size/\∃rs:List Nat,a.defers=rs.map jL/\rs.Nodup/\∀r∈rs,n0<=r/\r<W.heap.size/\cx.held r/\W.heap[r]?=zs (.deferred (zs []))
theorem D0.mono(n0:Nat):Je (D0 n0):=fun W cx a W' cx' A h=>by
 obtain⟨h0,rs,h1,h2,C⟩:=h;refine⟨Nat.le_trans h0 A.sz,rs,h1,h2,fun r B=>?_⟩;obtain⟨h4,D,G,h7⟩:=C r B;obtain⟨h8,h9⟩:=A.hold r D G;grind
theorem D0.stab(n0:Nat)(d:Option Tmp):mV (D0 n0) d:=fun W cx a v h=>by
 obtain⟨h0,rs,h1,h2⟩:=h;exact⟨h0,rs,by rw[Ie];exact h1,h2⟩
theorem D0.push(n0:Nat):pM zn (D0 n0):=fun W cx a W' cx' r G H hr hlt hh hb=>by
 obtain⟨h0,rs,h1,h2,h3⟩:=D0.mono n0 _ _ _ _ _ H G;obtain⟨h0',D,h1',_,h3'⟩:=G
 have:∀B∈rs,B<W.heap.size:=fun B C=>by
  have e:rs=D:=by
   have inj:∀(l A:List Nat),l.map jL=A.map jL->l=A:=by
    intro l
    induction l with
    |nil=>simp_all
    | cons x l ih=>intro A e;cases A with
     |nil=>simp at e
     |cons y A=>grind[jL]
   grind
  grind
 refine⟨h0,r::rs,by grind,(by grind),fun B C=>?_⟩;grind
def DR(l:Nat)(A:Loop):DP:=fun W cx a=>a.defers=[]/\cx.held l/\W.heap[l]?=zs (.loop A)
theorem DR.mono(l:Nat)(B:Loop):Je (DR l B):=fun W cx a W' cx' C h=>by
 obtain⟨h1,h2,A⟩:=h;obtain⟨D,G⟩:=C.hold l (Q5 A) h2;exact⟨h1,D,G.trans A⟩
theorem DR.stab(l:Nat)(A:Loop)(d:Option Tmp):mV (DR l A) d:=fun W cx a v h=>by
 obtain⟨h1,h2⟩:=h;exact⟨by rw[Ie];exact h1,h2⟩
theorem DR.rf(l:Nat)(A:Loop):pM (zs l) (DR l A):=fun W cx a h=>⟨A,h.2.2⟩
theorem noDfr_iff(l:List Oper)(hn:Hh l=zt):∀o∈l,Sj o:=fun o ho c e=>by
 have:=List.all_eq_true.1 hn o ho
 rw[e]at this;cases this
end
end Go.AM
/-
 The abstract machine: pieces of regions; an iterator that hands elements on,walked.
-/
namespace Go.AM
theorem pN{F:Fence}{n:Nat}{P:Program}{o:Oper}{a:Act}{w:World}{K K':Act->World->Prop}{Q D:Exit->Act->World->Prop}(C:∀a w,K a w->K' a w)(I:∀c a w,Q (.panic c) a w->D (.panic c) a w)(A:∀a w,Q .outgrown a w->D .outgrown a w)
 (h:o.wpIn F n P a w K Q):o.wpIn F n P a w K' D:=by
 refine⟨h.1,?_⟩;have h:=h.2;generalize (o.semAt F.round a.eval).run P w=r at h|-;cases r with
 |ok x w'=>
  cases x with
  |value v=>exact C _ _ h
  |skip=>exact C _ _ h
  |defer d=>exact C _ _ h
  |enter f args=>
   exact ⟨h.1,h.2.mono fun e w' B=>by
    cases e with
    |returned v=>grind
    |panicked c=>grind
    |outgrown=>obtain⟨G,H,h0⟩:=B;exact⟨G,H,A _ _ h0⟩⟩
  |row r args=>exact⟨h.1,h.2.mono fun v w' B=>C _ _ B⟩
  |round l f tmps as bo=>
   exact ⟨h.1,h.2.mono fun e w' B=>by
    cases e with
    |returned v=>grind
    |panicked c=>grind
    |outgrown=>obtain⟨G,H,h0⟩:=B;exact⟨G,H,A _ _ h0⟩⟩
  |_=>exact h.elim
 |halt x w'=>cases x<;>first|exact I _ _ _ h|exact h.elim
theorem Bl{F:Fence}{n:Nat}{P:Program}{ops:Array Oper}{Q:Exit->Act->World->Prop}{rest:List Oper}:∀(l:List Oper)(a:Act)(w:World),
 wpListIn F n P ops (Exit.then (wpListIn F n P ops Q rest) (fun _ _ _=>False)) l a w->wpListIn F n P ops Q (l++rest) a w
 |[],a,w,h=>h
 |o :: l,a,w,h=>by
  unfold wpListIn at h;show wpListIn F n P ops Q (o::(l++rest)) a w
  unfold wpListIn;split
  . rename_i A
    rw[if_pos A]at h;exact pN (fun a w h=>Bl l a w h) (fun c a w B=>B.elim) (fun a w B=>B.elim) h
  . rename_i A
    rw[if_neg A]at h;exact⟨h.1,Bl l _ w h.2⟩
def y3(E:Env)(P:Program)(ih:G8):Prop:=
 ∀ (S:Act->Prop) (ops:Array Oper) (l:List Oper) (Q:Exit->Act->World->Prop) (W:World) (cx:Cx) (a:Act) (fr:Tr) (h:Heap),
   (∀ o∈l,Js S o.dst)->FrRep W cx a.tmps fr->S a->Sat E W cx h->ih (xregP ops.toList l) fr h≠.bad ->
     (∀o∈l,Sj o)/\((∀x A w',(ih (xregP ops.toList l) fr h).Post E W cx S x A w'->Q x A w')->wpList P ops Q l a W)
def y5(E:Env)(P:Program)(ih:G8):Prop:=
 ∀ (ro:Option Nat) (D:DP) (c:Code) (W:World) (cx:Cx) (a:Act) (fr:Tr) (h:Heap),Je D->sJ ro D c->FrRep W cx a.tmps fr->D W cx a->Sat E W cx h->ih (xc c) fr h≠.bad ->
   c.wpIn (WF ro) 0 P (c7 E W cx D (ih (xc c) fr h)) a W
section
variable {P:Program}{E:Env}{ih:G8}
theorem mW(hl:y3 E P ih){ro:Option Nat}{ops:Array Oper}{S:Act->Prop}{l rest:List Oper}{Q:Exit->Act->World->Prop}{W:World}{cx:Cx}{a:Act}{fr fr':Tr}{h h':Heap}(B:∀o∈l,Js S o.dst)
 (hf:FrRep W cx a.tmps fr)(hS:S a)(hs:Sat E W cx h)(hr:ih (xregP ops.toList l) fr h=.ok .normal fr' h')
 (hK:∀A W' cx',Ext W cx W' cx'->Sat E W' cx' h'->FrRep W' cx' A.tmps fr'->S A->wpListIn (WF ro) 0 P ops Q rest A W'):wpListIn (WF ro) 0 P ops Q (l++rest) a W:=by
 obtain⟨hn,D⟩:=hl S ops l (Exit.then (wpListIn (WF ro) 0 P ops Q rest) (fun _ _ _=>False)) W cx a fr h B hf hS hs (by grind);refine Bl l a W (Rf ?_ l hn a W (D fun x A w' C=>?_))
 . rintro⟨a,w,h⟩;exact h
 . rw[hr]at C
   obtain⟨G,cx',H,rfl,h1,h2⟩:=C;exact hK A w' cx' H h1 h2 G
theorem Mm(hl:y3 E P ih){ro:Option Nat}{ops:Array Oper}{S:Act->Prop}{l:List Oper}{Q:Exit->Act->World->Prop}{W:World}{cx:Cx}{a:Act}{fr fr':Tr}{h h':Heap}(A:∀o∈l,Js S o.dst)
 (hf:FrRep W cx a.tmps fr)(hS:S a)(hs:Sat E W cx h)(hr:ih (xregP ops.toList l) fr h=.ok .normal fr' h')
 (hK:∀B W' cx',Ext W cx W' cx'->Sat E W' cx' h'->FrRep W' cx' B.tmps fr'->S B->Q .normal B W'):wpListIn (WF ro) 0 P ops Q l a W:=by
 have:=mW (rest:=[]) (ro:=ro) (ops:=ops) (Q:=Q) hl A hf hS hs hr hK
 grind
theorem aW(hl:y3 E P ih){ro:Option Nat}{id:Nat}{ops:Array Oper}{S:Act->Prop}{Q:Exit->Act->World->Prop}{W:World}{cx:Cx}{a:Act}{fr fr':Tr}{h h':Heap}(A:∀o∈ops.toList,Js S o.dst)
 (hf:FrRep W cx a.tmps fr)(hS:S a)(hs:Sat E W cx h)(hr:ih (xregP ops.toList ops.toList) fr h=.ok .normal fr' h')
 (hK:∀B W' cx',Ext W cx W' cx'->Sat E W' cx' h'->FrRep W' cx' B.tmps fr'->S B->Q .normal B W'):(Code.region id ops zf).wpIn (WF ro) 0 P Q a W:=
 wpIn_region_list (Mm hl A hf hS hs hr hK)
theorem isNone_none{α:Type}{o:Option α}(h:isNone o=zt):o=zn:=by cases o;rfl;cases h
theorem Bu{ts:List Tmp}{l:List Oper}(h:X9 ts l=zt){o:Oper}(ho:o∈l):∀d,o.dst=zs d->d∉ts:=by
 have:=List.all_eq_true.1 h o ho
 grind
theorem jM{o:Oper}{yt:Tmp}(h:isMv0 o=zs yt):o.op=.move (.tmp 0)/\o.dst=zs yt:=by
 obtain⟨dst,op,type,pos,after,guard⟩:=o;unfold isMv0 at h;cases op with
 |move x=>
  cases x with
  |tmp t=>
   replace h:(bif Nat.beq t 0 then dst else zn)=zs yt:=h
   cases hc:Nat.beq t 0 with
   |false=>grind
   |true=>
    simp_all
  |_=>cases h
 |_=>cases h
theorem sO{o:Oper}{yt yd:Tmp}{args:List Operand}(h:isY yt o=zs (yd,args)):∃C B,o.op=.call ⟨.value (.tmp yt),C,B⟩/\C.toList=args/\o.dst=zs yd:=by
 obtain⟨dst,op,type,pos,after,guard⟩:=o;unfold isY at h;cases op with
 |call c=>
  obtain⟨A,C,B⟩:=c;cases A with
  |value x=>
   cases x with
   |tmp t=>
    replace h:(bif Nat.beq t yt then(match dst with|some d=>zs (d,C.toList)|none=>zn)else zn)=zs (yd,args):=h
    cases hc:Nat.beq t yt with
    |false=>grind
    |true=>
     rw[hc]at h
     have:=D1 hc
     subst this;grind
   |_=>cases h
  |_=>cases h
 |_=>cases h
theorem Oo{yt:Tmp}:∀{l:List Oper}{p:List Oper×Oper×List Oper},splitY yt l=zs p->l=p.1++p.2.1::p.2.2
 |[],_,h=>by cases h
 |o :: r,p,h=>by
  unfold splitY at h;cases B:isY yt o with
  |some q=>grind
  |none=>
   rw[B]at h;cases A:splitY yt r with
   |none=>grind
   |some q=>
    rw[A]at h;cases h
    have:=Oo A
    grind
theorem Oq:∀{l:List Oper}{p:List Oper×Oper×List Oper},splitM l=zs p->l=p.1++p.2.1::p.2.2
 |[],_,h=>by cases h
 |o :: r,p,h=>by
  unfold splitM at h;cases B:isMv0 o with
  |some q=>grind
  |none=>
   rw[B]at h;cases A:splitM r with
   |none=>grind
   |some q=>
    rw[A]at h;cases h
    have:=Oq A
    grind
theorem yB{a b:Option (Nat×Bool)}(h:yJ a b=zt):a=b:=by
 cases a with
 | none=>cases b with
  |none=>rfl
  |some q=>cases h
 |some p=>
  cases b with
  |none=>cases h
  |some q=>
   obtain⟨p1,p2⟩:=p;obtain⟨q1,q2⟩:=q;unfold yJ at h;dsimp only at h;rw[Bool.and_eq_true]at h;grind[D1]
structure YP(ops:List Oper)(p0:List Oper)(m:Oper)(p1:List Oper)(y:Oper)(p2:List Oper)(yt yd:Tmp)(args:List Operand):Prop where
 ops:ops=p0++m::(p1++y::p2)
 mv:isMv0 m=zs yt
 yl:isY yt y=zs (yd,args)
 gd:m.guard=y.guard
 yt0:yt≠0
 c0:X9 [0] p0=zt
 c1:X9 [0,yt] p1=zt
 cy:X9 [0] [y]=zt
 c2:X9 [0] p2=zt
theorem regI_some{ops:List Oper}{ic:IC}(h:y8 ops=zs ic):(X9 [0] ops=zt/\ic=.reg (xregP ops ops))\/
 ∃p0 m p1 y p2 yt yd args,YP ops p0 m p1 y p2 yt yd args/\ic=.yreg (xregP ops p0) (G5 ops m) yt (xregP ops p1) yd args (xregP ops p2):=by
 unfold y8 at h;cases C:splitM ops with
 |none=>
  grind
 |some q=>
  rw[C]at h;have B:=Oq C;obtain⟨p0,m,r⟩:=q
  replace h:FK ops (p0,m,r)=zs ic:=h
  unfold FK at h;dsimp only at h B;cases h1:isMv0 m with
  |none=>grind
  |some yt=>
   rw[h1]at h;dsimp only at h;cases h2:splitY yt r with
   |none=>grind
   |some p=>
    rw[h2]at h;obtain⟨p1,y,p2⟩:=p;have A:=Oo h2;dsimp only at h A;cases D:isY yt y with
    |none=>grind
    |some z=>
     rw[D]at h;obtain⟨yd,args⟩:=z;dsimp only at h;cases hc:(yJ m.guard y.guard && !(Nat.beq yt 0)&&X9 [0] p0&&X9 [0,yt] p1&&X9 [0] [y]&&X9 [0] p2)with
     |false=>grind
     |true=>
      rw[hc]at h;cases h;simp only[Bool.and_eq_true,Bool.not_eq_true']at hc;obtain⟨⟨⟨⟨⟨c1,c2⟩,G⟩,H⟩,I⟩,N⟩:=hc;exact .inr ⟨p0,m,p1,y,p2,yt,yd,args,⟨by rw[B,A],h1,D,yB c1,fun e=>by simp_all,G,H,I,N⟩,rfl⟩
theorem Yn{f:IC->IC->IC}{a b:Option IC}{c:IC}(h:tO f a b=zs c):∃x y,a=zs x/\b=zs y/\c=f x y:=by
 cases a with
 |none=>cases h
 | some x=>cases b with
  |none=>cases h
  |some y=>cases h;grind
structure LA(W0:World)(cx0:Cx)(ro:Option Nat)(l:Nat)(st:Loop)(W:World)(cx:Cx):Prop where
 ext:Ext W0 cx0 W cx
 held:cx.held l
 rcd:W.heap[l]?=zs (.loop st)
 blk:ro=zn->cx.held W0.heap.size/\W.heap[W0.heap.size]?=zs (.deferred (zs []))
 hi:W0.heap.size<=l
 ne:ro=zn->l≠W0.heap.size
section
variable {W0 W W':World}{cx0 cx cx':Cx}{ro:Option Nat}{l:Nat}{st st':Loop}{h:Heap}
theorem LA.mono(A:LA W0 cx0 ro l st W cx)(B:Ext W cx W' cx'):LA W0 cx0 ro l st W' cx' where
 ext:=A.ext.trans B
 held:=(B.hold l (Q5 A.rcd) A.held).1
 rcd:=(B.hold l (Q5 A.rcd) A.held).2.trans A.rcd
 blk hr:=by
  obtain⟨h1,h2⟩:=A.blk hr;obtain⟨h3,h4⟩:=B.hold _ (Q5 h2) h1;grind
 hi:=A.hi
 ne:=A.ne
theorem LA.ext0(A:LA W0 cx0 ro l st W cx)(B:Sat E W cx h):Ext0 W cx (W.putObj l (.loop st')) cx:=
 Ext0.putHeld B A.held A.rcd (fun _ _ _ e=>by cases e) (fun _ _ _ e=>by cases e)
theorem LA.put(A:LA W0 cx0 ro l st W cx)(B:Sat E W cx h):LA W0 cx0 ro l st' (W.putObj l (.loop st')) cx where
 ext:=A.ext.putHi A.hi (A.ext0 B)
 held:=A.held
 rcd:=World.putObj_heap_same (Q5 A.rcd)
 blk hr:=⟨(A.blk hr).1,(World.putObj_heap_other fun e=>A.ne hr e.symm).trans (A.blk hr).2⟩
 hi:=A.hi
 ne:=A.ne
end
def goOn(e:Ex):Bool:=match e with | .normal=>zt | .exit _=>zf | .ret=>zf
def Hf(mk:LoopState->Option Code->Loop)(e:Ex):Loop:=match e with | .normal=>mk .ready zn | .exit i=>mk .done (zs (.exit i)) | .ret=>mk .done (zs .ret)
def RR(E:Env)(P:Program)(W0:World)(cx0:Cx)(ro:Option Nat)(l:Nat)(mk:LoopState->Option Code->Loop)(Y:List AV->Heap->CRes):Prop:=
 ∀ (vs:Array Value) (args:List AV) (W:World) (cx:Cx) (h:Heap) (e:Ex) (fr':Tr) (h':Heap),Y args h=.ok e fr' h'->LA W0 cx0 ro l (mk .ready zn) W cx->Sat E W cx h->RepL W cx vs.toList args ->
   ∃ f tmps A B,(Instr.yield l vs).run P W=.ok (.round l f tmps A B) W/\RoundIn (WF zn) 0 P l f tmps A B W fun C W' =>
     C=.returned (.bool (goOn e))/\∃cx',LA W0 cx0 ro l (Hf mk e) W' cx'/\Ext0 W cx W' cx'/\Sat E W' cx' h'
def Y0(l:Nat):Value:=.func (.yield l) #[] #[]
def SI(l nt:Nat)(a:Act):Prop:=a.defers=[]/\a.tmps.getD 0 undef=Y0 l/\a.tmps.size=nt
def SY(l nt:Nat)(yt:Tmp)(a:Act):Prop:=SI l nt a/\a.tmps.getD yt undef=Y0 l
theorem SI.stab{l nt:Nat}{d:Option Tmp}(h:∀t,d=zs t->t≠0):Js (SI l nt) d:=fun a v A =>
 ⟨by rw[Ie];exact A.1,(On h).trans A.2.1,(sN ..).trans A.2.2⟩
theorem SY.stab{l nt:Nat}{yt:Tmp}{d:Option Tmp}(h:∀t,d=zs t->t≠0)(h':∀t,d=zs t->t≠yt):Js (SY l nt yt) d:=fun a v A =>
 ⟨SI.stab h a v A.1,(On h').trans A.2⟩
theorem SI.calm{l nt:Nat}{A:List Oper}(h:X9 [0] A=zt):∀o∈A,Js (SI l nt) o.dst:=fun o ho=>SI.stab fun t B e=>Bu h ho t B (by simp[e])
theorem SI.calm1{l nt:Nat}{yt:Tmp}{A:List Oper}(h:X9 [0,yt] A=zt):∀o∈A,Js (SI l nt) o.dst:=fun o ho=>SI.stab fun t B e=>Bu h ho t B (by simp[e])
theorem SY.calm{l nt:Nat}{yt:Tmp}{B:List Oper}(h:X9 [0,yt] B=zt):∀o∈B,Js (SY l nt yt) o.dst:=fun o ho=>SY.stab (fun t A e=>Bu h ho t A (by simp[e])) (fun t A e=>Bu h ho t A (by simp[e]))
theorem sP{k:Tr->Heap->CRes}{r:CRes}{e:Ex}{fr':Tr}{h':Heap}(B:Do k r=.ok e fr' h'):∃A h1,r=.ok .normal A h1/\k A h1=.ok e fr' h':=by
 cases r with
 |ok e1 A h1=>
  cases e1 with
  |normal=>exact⟨A,h1,rfl,B⟩
  |_=>cases B
 |_=>cases B
theorem y6{k:Tr->Heap->IRes}{r:CRes}{e:Ex}{p:Option Ex}{fr':Tr}{h':Heap}(B:J5 k r=.ok e p fr' h'):∃A h1,r=.ok .normal A h1/\k A h1=.ok e p fr' h':=by
 cases r with
 |ok e1 A h1=>
  cases e1 with
  |normal=>exact⟨A,h1,rfl,B⟩
  |_=>cases B
 |_=>cases B
theorem onOB_okI{b:Option Bool}{x y:IRes}{e:Ex}{p:Option Ex}{fr:Tr}{h:Heap}(A:N9 b .bad x y=.ok e p fr h):(b=zs zt/\x=.ok e p fr h)\/(b=zs zf/\y=.ok e p fr h):=by
 cases b with
 |none=>cases A
 |some b=>cases b;exact .inr ⟨rfl,A⟩;exact .inl ⟨rfl,A⟩
theorem eM{b:Bool}{x:CRes}{e:Ex}{fr:Tr}{h:Heap}(hr:(bif b then x else .bad)=.ok e fr h):b=zt/\x=.ok e fr h:=by
 grind
theorem pO{b:Bool}{x:IRes}{e:Ex}{p:Option Ex}{fr:Tr}{h:Heap}(hr:(bif b then x else .bad)=.ok e p fr h):b=zt/\x=.ok e p fr h:=by
 grind
def pP(mk:LoopState->Option Code->Loop)(p:Option Ex):Loop:=Hf mk (qI p)
def IQ(E:Env)(W0:World)(cx0:Cx)(ro:Option Nat)(l nt:Nat)(mk:LoopState->Option Code->Loop)(e:Ex)(p:Option Ex)(fr':Tr)(h':Heap)(ex:Exit)(a:Act)(w:World):Prop:=
 ex=bR e/\SI l nt a/\∃cx',LA W0 cx0 ro l (pP mk p) w cx'/\Sat E w cx' h'/\FrRep w cx' a.tmps fr'
section
variable {W0:World}{cx0:Cx}{ro:Option Nat}{l nt:Nat}{mk:LoopState->Option Code->Loop}{Y:List AV->Heap->CRes}
theorem pQ(hl:y3 E P ih)(hY:RR E P W0 cx0 ro l mk Y){id:Nat}{ops:Array Oper}{p0:List Oper}{m:Oper}{p1:List Oper}{y:Oper}{p2:List Oper}{yt yd:Tmp}{args:List Operand}(C:YP ops.toList p0 m p1 y p2 yt yd args)
 {k:Nat}{p p':Option Ex}{a:Act}{W:World}{cx:Cx}{fr fr':Tr}{h h':Heap}{e:Ex}
 (A:evI E ih nt Y (k+1) (.yreg (xregP ops.toList p0) (G5 ops.toList m) yt (xregP ops.toList p1) yd args (xregP ops.toList p2)) p fr h=.ok e p' fr' h')(hf:FrRep W cx a.tmps fr)(hS:SI l nt a)(la:LA W0 cx0 ro l (pP mk p) W cx)(hs:Sat E W cx h):
 (Code.region id ops zf).wpIn (WF zn) 0 P (IQ E W0 cx0 ro l nt mk e p' fr' h') a W:=by
 refine wpIn_region_list ?_;rw[C.ops];obtain⟨ao,h1,ax,A⟩:=y6 (show J5 (fun fr h=>N9 (guardOk (G5 ops.toList m) fr) .bad (eY E ih nt Y (G5 ops.toList m) yt (xregP ops.toList p1) yd args (xregP ops.toList p2) p fr h) (BP ih (G5 ops.toList m) yt (xregP ops.toList p1) yd (xregP ops.toList p2) p fr h)) (ih (xregP ops.toList p0) fr h)=.ok e p' fr' h' from A);refine mW hl (SI.calm C.c0) hf hS hs ax fun a1 W1 ap aq am H I=>?_
 replace la:=la.mono aq
 obtain⟨m1,m3⟩:=jM C.mv;obtain⟨as,tys,y1,y2,y4⟩:=sO C.yl;have hyd:yd≠0:=fun e=>Bu C.cy (List.mem_cons_self ..) yd y4 (by simp[e])
 have an:G5 ops.toList y=G5 ops.toList m:=by unfold G5;rw[C.gd]
 rcases onOB_okI A with⟨hg,A⟩|⟨hg,A⟩
 . -- it is called
   have hw:=O8 (ops:=ops) H m hg;cases p with
   |some _=>cases A
   |none=>
    obtain ⟨ag,A⟩:=pO (show(bif Nat.blt yt nt then J5 (fun fr h=>N9 (guardOk (G5 ops.toList m) fr) .bad (Gy ih (xregP ops.toList p2) yd fr (Y (opvs E args fr) h)) .bad) (ih (xregP ops.toList p1) (ao.set yt .any) h1)else .bad)=.ok e p' fr' h' from A);have ag:=N3 ag;obtain⟨D,h2,aj,A⟩:=y6 A;unfold wpListIn;rw[if_pos hw];refine⟨fun _ _=>trivial,?_⟩;have hm:((m.semAt (WF zn).round a1.eval).run P W1)=.ok (.value (Y0 l)) W1:=by
     rw[show(WF zn).round=zn from rfl,Oper.semAt_none]
     have:a1.eval (.tmp 0)=Y0 l:=I.2.1
     simp[execOp,m1,this]
    rw [hm,Oper.uponIn_value,m3];have au:SY l nt yt (a1.put (zs yt) (Y0 l)):=by
     refine⟨SI.stab (fun t e=>by cases e;exact C.yt0) a1 _ I,?_⟩;show(a1.tmps.setIfInBounds yt (Y0 l)).getD yt undef=Y0 l
     have:yt<a1.tmps.size:=by rw[I.2.2];exact ag
     simp_all
    refine mW hl (S:=SY l nt yt) (SY.calm C.c1) (H.put (zs yt) (.any _ rfl)) au am aj fun G W3 N aa U B V=>?_
    replace la:=la.mono aa
    rcases onOB_okI A with⟨al,A⟩|⟨_,A⟩
    . have ah:=O8 (ops:=ops) B y (by rw[an];exact al)
      unfold wpListIn;rw[if_pos ah];refine⟨fun _ _=>trivial,?_⟩;cases hq:Y (opvs E args D) h2 with
      |ok e1 a7 h3=>
       rw [hq]at A;have ai:RepL W3 N (as.map G.eval).toList (opvs E args D):=by
        have:=Bz (E:=E) U B args
        simp_all
       obtain ⟨f,tmps,ay,bo,hyr,X⟩:=hY _ _ W3 N h2 e1 a7 h3 hq la U ai;have hm:((y.semAt (WF zn).round G.eval).run P W3)=.ok (.round l f tmps ay bo) W3:=by
        rw[show(WF zn).round=zn from rfl,Oper.semAt_none]
        have:G.eval (.tmp yt)=.func (.yield l) #[] #[]:=V.2
        grind[execOp,resolve,Deferred.ofValue,invoke]
       rw[hm,Oper.uponIn_round];refine⟨fun e=>by simp[WF,Fence.wide]at e,X.mono fun en W4 ar=>?_⟩;obtain⟨rfl,az,a0,a2,a4⟩:=ar;show wpListIn (WF zn) 0 P ops _ p2 (G.put y.dst (.bool (goOn e1))) W4
       rw [y4];have av:SI l nt (G.put (zs yd) (.bool (goOn e1))):=SI.stab (fun t e=>by grind) G _ V.1;have aw:FrRep W4 az (G.put (zs yd) (.bool (goOn e1))).tmps (D.set yd (.bool (goOn e1))):=(B.mono0 a2).put (zs yd) (.bool _);have out:∀(q:Option Ex),qI q=e1->J5 (r8 q) (ih (xregP ops.toList p2) (D.set yd (.bool (goOn e1))) h3)=.ok e p' fr' h'->wpListIn (WF zn) 0 P ops (IQ E W0 cx0 ro l nt mk e p' fr' h') p2 (G.put (zs yd) (.bool (goOn e1))) W4:=fun q hq A=>by
        obtain⟨a6,h5,ak,A⟩:=y6 A;cases A;refine Mm hl (SI.calm C.c2) aw av a4 ak fun a5 W5 ab ac ad ae af=>⟨rfl,af,ab,?_,ad,ae⟩
        unfold pP;rw[hq];exact a0.mono ac
       cases e1 with
       |normal=>exact out zn rfl A
       |exit i=>exact out (zs (.exit i)) rfl A
       |ret=>exact out (zs .ret) rfl A
      |_=>rw[hq]at A;cases A
    . cases A
 . -- it is not
   have hw:=O8 (ops:=ops) H m hg;obtain⟨D,h2,aj,A⟩:=y6 (show J5 (fun fr h=>N9 (guardOk (G5 ops.toList m) fr) .bad .bad (J5 (r8 p) (ih (xregP ops.toList p2) (fr.set yd skipped) h))) (ih (xregP ops.toList p1) (ao.set yt skipped) h1)=.ok e p' fr' h' from A);unfold wpListIn;rw[hw];refine⟨fun _ _=>trivial,?_⟩;rw[m3];refine mW hl (S:=SI l nt) (SI.calm1 C.c1) (H.put (zs yt) (show Rep W1 ap undef skipped from .tup #[] [] rfl (by simp))) (SI.stab (fun t e=>by cases e;exact C.yt0) a1 _ I) am aj fun G W3 N aa U B V=>?_
   rcases onOB_okI A with⟨_,A⟩|⟨al,A⟩
   . cases A
   . have ah:=O8 (ops:=ops) B y (by rw[an];exact al)
     obtain ⟨a6,h5,ak,A⟩:=y6 A;cases A;unfold wpListIn;rw[ah];refine⟨fun _ _=>trivial,?_⟩;rw[y4];exact Mm hl (SI.calm C.c2) (B.put (zs yd) (show Rep W3 N undef skipped from .tup #[] [] rfl (by simp))) (SI.stab (fun t e=>by grind) G _ V) U ak fun a5 W5 ab ac ad ae af =>
      ⟨rfl,af,ab,(la.mono aa).mono ac,ad,ae⟩
theorem IQ.seq{k:IF}{b:IC}{r:IRes}{e:Ex}{G:Option Ex}{fr':Tr}{h':Heap}{K:Act->World->Prop}(H:Jl (k b) r=.ok e G fr' h')
 (hK:∀p1 A h1 B C,r=.ok .normal p1 A h1->k b p1 A h1=.ok e G fr' h'->IQ E W0 cx0 ro l nt mk .normal p1 A h1 .normal B C->K B C):∃e1 p1 A h1,r=.ok e1 p1 A h1/\
   ∀x B C,IQ E W0 cx0 ro l nt mk e1 p1 A h1 x B C->Exit.then K (IQ E W0 cx0 ro l nt mk e G fr' h') x B C:=by
 cases r with
 |bad=>cases H
 |ok e1 p1 A h1=>
  refine⟨e1,p1,A,h1,rfl,fun x B C I=>?_⟩;obtain⟨rfl,D⟩:=I;cases e1 with
  |normal=>exact hK p1 A h1 B C rfl H ⟨rfl,D⟩
  |_=>cases H;exact⟨rfl,D⟩
theorem mX(hc:y5 E P ih)(hl:y3 E P ih)(hY:RR E P W0 cx0 ro l mk Y):∀(k:Nat),
 (∀(c:Code)(ic:IC)(p C:Option Ex)(a:Act)(W:World)(cx:Cx)(fr fr':Tr)(h h':Heap)(e:Ex),parseI c=zs ic->evI E ih nt Y k ic p fr h=.ok e C fr' h'->FrRep W cx a.tmps fr->SI l nt a->LA W0 cx0 ro l (pP mk p) W cx->Sat E W cx h->c.wpIn (WF zn) 0 P (IQ E W0 cx0 ro l nt mk e C fr' h') a W)/\
 (∀(c:Code)(ic:IC)(p C:Option Ex)(a:Act)(W:World)(cx:Cx)(fr fr':Tr)(h h':Heap)(e:Ex),parseI c=zs ic->evI E ih nt Y k (.loop ic) p fr h=.ok e C fr' h'->FrRep W cx a.tmps fr->SI l nt a->LA W0 cx0 ro l (pP mk p) W cx->Sat E W cx h->Code.roundsIn (WF zn) 0 P c (IQ E W0 cx0 ro l nt mk e C fr' h') k a W)
 |0=>⟨(fun c ic p C a W cx fr fr' h h' e _ A=>by cases A),(fun c ic p C a W cx fr fr' h h' e _ A=>by cases A)⟩
 |k + 1=>by
  obtain ⟨ac,ihl⟩:=mX hc hl hY k;have round:∀(c:Code)(ic:IC)(p C:Option Ex)(a:Act)(W:World)(cx:Cx)(fr fr':Tr)(h h':Heap)(e:Ex),parseI c=zs ic->evI E ih nt Y (k+1) (.loop ic) p fr h=.ok e C fr' h'->FrRep W cx a.tmps fr->SI l nt a->LA W0 cx0 ro l (pP mk p) W cx->Sat E W cx h->Code.roundsIn (WF zn) 0 P c (IQ E W0 cx0 ro l nt mk e C fr' h') (k+1) a W:=by
   intro c ic p C a W cx fr fr' h h' e B A hf hS la N;obtain⟨e1,p1,D,h1,I,H⟩:=IQ.seq (E:=E) (W0:=W0) (cx0:=cx0) (ro:=ro) (l:=l) (nt:=nt) (mk:=mk) (k:=evI E ih nt Y k) (b:=.loop ic) (r:=evI E ih nt Y k ic p fr h) (K:=Code.roundsIn (WF zn) 0 P c (IQ E W0 cx0 ro l nt mk e C fr' h') k) A
    (fun p1 D h1 a1 w1 _ hk H=>by obtain⟨_,aa,U,ae,V,X⟩:=H;grind)
   rw[roundsIn_succ];exact wpIn_mono (ac c ic p p1 a W cx fr D h h1 e1 B I hf hS la N) H
  refine⟨fun c ic p C a W cx fr fr' h h' e B A hf hS la N=>?_,round⟩;cases c with
  |skip=>cases B;cases A;exact wpIn_skip ⟨rfl,hS,cx,la,N,hf⟩
  |exit i=>cases B;cases A;exact wpIn_exit ⟨rfl,hS,cx,la,N,hf⟩
  |ret=>cases B;cases A;exact wpIn_ret ⟨rfl,hS,cx,la,N,hf⟩
  |region id ops draw=>
   cases draw with
   |false=>
    have B:y8 ops.toList=zs ic:=B;rcases regI_some B with⟨G,rfl⟩|⟨p0,m,p1,y,p2,yt,yd,args,hp,rfl⟩
    . obtain⟨D,h1,I,A⟩:=y6 (show J5 (r8 p) (ih (xregP ops.toList ops.toList) fr h)=.ok e C fr' h' from A)
      cases A;exact aW hl (SI.calm G) hf hS N I fun a1 W1 U ad V X aa=>⟨rfl,aa,U,la.mono ad,V,X⟩
    grind[pQ]
   |true=>
    have B:(bif X9 [0] ops.toList then zs (IC.reg (xc (.region id ops zt)))else zn)=zs ic:=B;cases G:X9 [0] ops.toList with
    |false=>grind
    |true=>
     rw[G]at B;cases B;obtain⟨D,h1,I,A⟩:=y6 (show J5 (r8 p) (ih (xc (.region id ops zt)) fr h)=.ok e C fr' h' from A);cases A;refine wpIn_mono (hc zn (fun _ _ a=>SI l nt a) (.region id ops zt) W cx a fr h (fun _ _ _ _ _ _ h=>h) (fun i o ho _ _=>(by grind[Go.AM.SI.calm])) hf hS N (by grind)) fun x a1 w1 H=>?_
     rw[I]at H;obtain⟨U,ad,aa,rfl,V,X⟩:=H;exact⟨rfl,aa,U,la.mono ad,V,X⟩
  |seq x y=>
   obtain ⟨ix,iy,h1,h2,rfl⟩:=Yn (show tO .seq (parseI x) (parseI y)=zs ic from B);obtain⟨e1,p1,D,ab,I,H⟩:=IQ.seq (E:=E) (W0:=W0) (cx0:=cx0) (ro:=ro) (l:=l) (nt:=nt) (mk:=mk) (k:=evI E ih nt Y k) (b:=iy) (r:=evI E ih nt Y k ix p fr h) (K:=y.wpIn (WF zn) 0 P (IQ E W0 cx0 ro l nt mk e C fr' h')) A
    (fun p1 D ab a1 w1 _ hk H=>by obtain⟨_,aa,U,ae,V,X⟩:=H;grind)
   grind[wpIn_seq,wpIn_mono]
  |cond x c d=>
   obtain⟨ix,iy,h1,h2,rfl⟩:=Yn (show tO (.cond x) (parseI c) (parseI d)=zs ic from B);have A:(opv E x fr).onBool .bad (fun t=>match t with|true=>evI E ih nt Y k ix p fr h|false=>evI E ih nt Y k iy p fr h)=.ok e C fr' h':=A;have hx:=j2 (E:=E) N hf x;cases hv:opv E x fr with
   |bool t=>
    rw[hv]at A hx;cases t with
    |true=>exact wpIn_cond_true hx.bool_inv (ac c ix p C a W cx fr fr' h h' e h1 A hf hS la N)
    |false=>exact wpIn_cond_false hx.bool_inv (ac d iy p C a W cx fr fr' h h' e h2 A hf hS la N)
   |_=>rw[hv]at A;cases A
  |block i x=>
   obtain⟨ix,h1,rfl⟩:=Option.map_eq_some_iff.1 (show(parseI x).map (.block i)=zs ic from B);have A:Hz i (evI E ih nt Y k ix p fr h)=.ok e C fr' h':=A;cases H:evI E ih nt Y k ix p fr h with
   |bad=>rw[H]at A;cases A
   |ok e1 p1 D ab=>
    rw[H]at A;refine wpIn_block (wpIn_mono (ac x ix p p1 a W cx fr D h ab e1 h1 H hf hS la N) fun ex a1 w1 hi=>?_);obtain⟨rfl,hi⟩:=hi;cases e1 with
    |exit j=>
     have A:(bif Nat.beq j i then IRes.ok .normal p1 D ab else .ok (.exit j) p1 D ab)=.ok e C fr' h':=A;show if j=i then _ else _
     by_cases hj:j=i
     . subst hj
       rw[Nat.beq_refl]at A;cases A;rw[if_pos rfl];exact⟨rfl,hi⟩
     . rw[Heap.beq_false hj]at A
       cases A;rw[if_neg hj];exact⟨rfl,hi⟩
    |_=>cases A;exact⟨rfl,hi⟩
  |loop x=>
   obtain⟨ix,h1,rfl⟩:=Option.map_eq_some_iff.1 (show(parseI x).map .loop=zs ic from B);grind[wpIn_loop_rounds]
  |_=>cases B
def ItQ(E:Env)(W0:World)(cx0:Cx)(ro:Option Nat)(l:Nat)(mk:LoopState->Option Code->Loop)(e:Ex)(h':Heap)(ex:Exit)(a:Act)(w:World):Prop:=
 (ex=.normal\/ex=.ret)/\a.defers=[]/\∃cx',LA W0 cx0 ro l (Hf mk e) w cx'/\Sat E w cx' h'
theorem yC(hc:y5 E P ih)(hl:y3 E P ih){c:Code}{ic:IC}(N:parseI c=zs ic)(U:RR E P W0 cx0 ro l mk Y){caps:List AV}{e:Ex}{fr':Tr}{h h':Heap}(A:itM E ih (.itf ic) nt caps Y h=.ok e fr' h')
 {a:Act}{W:World}{cx:Cx}(hf:FrRep W cx a.tmps (Tr.enter nt (.any::caps)))(hS:SI l nt a)(la:LA W0 cx0 ro l (mk .ready zn) W cx)(hs:Sat E W cx h):c.wpIn (WF zn) 0 P (ItQ E W0 cx0 ro l mk e h') a W:=by
 have A:finI (evI E ih nt Y itMax ic zn (Tr.enter nt (.any::caps)) h)=.ok e fr' h':=A;cases I:evI E ih nt Y itMax ic zn (Tr.enter nt (.any::caps)) h with
 |bad=>rw[I]at A;cases A
 |ok e1 p1 H h1=>
  rw[I]at A;refine wpIn_mono ((mX hc hl U itMax).1 c ic zn p1 a W cx _ H h h1 e1 N I hf hS la hs) fun ex a1 w1 hi=>?_
  obtain⟨rfl,B,C,D,G,_⟩:=hi;cases e1 with
  |exit j=>cases A
  |normal=>cases A;exact⟨.inl rfl,B.1,C,D,G⟩
  |ret=>cases A;exact⟨.inr rfl,B.1,C,D,G⟩
end
end
end Go.AM
/-
 The abstract machine: a range over a function,walked.
-/
namespace Go.AM
section
variable {P:Program}{E:Env}{ih:G8}
theorem aX:∀(l:List Nat),JL l=l.length
 |[]=>rfl
 |_::r=>congrArg Nat.succ (aX r)
theorem Yo{W:World}{cx:Cx}:∀(ps:List Tmp)(vs:List Value)(l:List AV)(tmps:Array Value)(fr:Tr),RepL W cx vs l->FrRep W cx tmps fr ->
 FrRep W cx ((ps.zip vs).foldl (fun tmps (p:Tmp×Value)=>tmps.setIfInBounds p.1 p.2) tmps) (setPs ps l fr)
 |[],vs,l,tmps,fr,_,hf=>hf
 |p::ps,[],l,tmps,fr,hv,hf=>by
  cases l with
  |nil=>exact hf
  |cons x l=>have:=hv.1;simp at this
 |p::ps,v::vs,l,tmps,fr,hv,hf=>by
  cases l with
  |nil=>have:=hv.1;simp at this
  |cons x l=>
   show FrRep W cx ((ps.zip vs).foldl _ (tmps.setIfInBounds p v)) (setPs ps l (fr.set p x))
   refine Yo ps vs l _ _ ⟨by have:=hv.1;grind,fun i u c h1 h2=>hv.2 (i+1) u c (by grind) (by grind)⟩ ?_
   have:=FrRep.put (a:=⟨tmps,[]⟩) hf (zs p) (hv.2 0 v x rfl rfl)
   exact this
def mkL(fn:FuncId)(tmps:Array Value)(ps:Array Tmp)(A B:Code)(C:Nat)(st:LoopState)(D:Option Code):Loop:=
 {state:=st,pending:=D,fn,tmps,params:=ps,assign:=A,body:=B,defers:=C}
theorem sQ(hc:y5 E P ih){W0:World}{cx0:Cx}{ro:Option Nat}{l:Nat}{fn:FuncId}{tmps:Array Value}{ps:Array Tmp}{A B:Code}{G:Nat}{H:Tr}(ad:FrRep W0 cx0 tmps H):
 RR E P W0 cx0 ro l (mkL fn tmps ps A B G) (roundY ih ps.toList (xc A) (xc B) H):=by
 intro vs args W cx h e fr' h' hr la hs hv;obtain⟨aa,hr⟩:=eM hr;obtain⟨af,h1,ag,ah⟩:=sP hr;have hsz:vs.size=ps.size:=by
  have h1:=D1 aa;rw[A7,aX]at h1;have h2:=hv.1;grind
 refine ⟨fn,_,A,B,run_yield la.rcd hsz,roundIn_of_wpIn trivial ?_⟩;have hf:FrRep W cx ((ps.zip vs).foldl (fun tmps (p:Tmp×Value)=>tmps.setIfInBounds p.1 p.2) tmps) (setPs ps.toList args H):=by
  have:=Yo ps.toList vs.toList args tmps H hv (ad.mono la.ext)
  grind[Array.toList_zip]
 show A.wpIn (WF (zs l)) 0 P _ _ W
 refine wpIn_mono (hc (zs l) (DR l (mkL fn tmps ps A B G .ready zn)) A W cx ⟨_,[]⟩ _ h (DR.mono l _) (o4 (DR.stab l _) (DR.rf l _) A) hf ⟨rfl,la.held,la.rcd⟩ hs (by grind)) fun x a1 w1 hp=>?_
 rw[ag]at hp;obtain⟨ai,ab,aj,rfl,V,ak⟩:=hp;have I:=la.mono ab;refine⟨_,run_beginRound I.rcd rfl,?_⟩;have e0:=I.ext0 (st':=mkL fn tmps ps A B G .busy zn) V;have N:=I.put (st':=mkL fn tmps ps A B G .busy zn) V;have ae:=V.putHeld I.held e0;show B.wpIn (WF (zs l)) 0 P _ a1 (w1.putObj l (.loop (mkL fn tmps ps A B G .busy zn)))
 refine wpIn_mono (hc (zs l) (DR l (mkL fn tmps ps A B G .busy zn)) B _ ai a1 af h1 (DR.mono l _) (o4 (DR.stab l _) (DR.rf l _) B) (ak.mono0 e0) ⟨aj.1,N.held,N.rcd⟩ ae (by grind)) fun x a3 w3 hp=>?_
 rw [ah]at hp;obtain⟨D,ac,hd3,rfl,X,hf3⟩:=hp;have C:=N.mono ac;have U:∀st,st=Hf (mkL fn tmps ps A B G) e->LA W0 cx0 ro l (Hf (mkL fn tmps ps A B G) e) (w3.putObj l (.loop st)) D/\Ext0 W cx (w3.putObj l (.loop st)) D/\Sat E (w3.putObj l (.loop st)) D h':=fun st e=>by
  subst e;have e4:=C.ext0 (st':=Hf (mkL fn tmps ps A B G) e) X;exact⟨C.put X,((ab.toExt0.trans e0).trans ac.toExt0).trans e4,X.putHeld C.held e4⟩
 cases e with
 |normal=>exact⟨_,_,run_endRound zn C.rcd,rfl,D,U _ rfl⟩
 |exit i=>exact⟨_,_,run_endRound (zs (.exit i)) C.rcd,rfl,D,U _ rfl⟩
 |ret=>exact⟨_,_,run_endRound (zs .ret) C.rcd,rfl,D,U _ rfl⟩
theorem sR{W:World}{cx:Cx}{h:Heap}{ro:Option Nat}{D:DP}(U:Je D)(A:pM ro D){a:Act}(H:D W cx a)(N:Sat E W cx h)(fn:FuncId)(ps:Array Tmp)(B C:Code):
 ∃ l mk W1 cx1 dd,(Instr.enterLoop fn a.tmps ps B C ro).run P W=.ok (l,mk) W1/\LA W cx ro l (mkL fn a.tmps ps B C dd .ready zn) W1 cx1/\Sat E W1 cx1 h/\
   ∀W' cx' st,LA W cx ro l st W' cx'->D W' cx' {a with defers:=mk++a.defers}:=by
 cases ro with
 |none=>
  refine⟨W.heap.size+1,[jL W.heap.size],_,((cx.lay W.heap.size).lay (W.alloc (.deferred (zs []))).heap.size),W.heap.size,run_enterLoop_outer fn a.tmps ps B C,?_,(N.lay _).lay _,?_⟩
  . have e1:=Ext.lay W cx (.deferred (zs []))
    have e2:=Ext.lay (W.alloc (.deferred (zs []))) (cx.lay W.heap.size) (.loop (mkL fn a.tmps ps B C W.heap.size .ready zn));refine⟨e1.trans e2,.inr (by simp),?_,fun _=>⟨.inl (.inr rfl),?_⟩,Nat.le_succ _,fun _=>Nat.succ_ne_self _⟩
    . grind[mkL,L7,World.size_alloc]
    grind[heap_alloc_old,L7]
  . intro W' cx' st G
    obtain⟨h1,h2⟩:=G.blk rfl;exact A W cx a W' cx' _ H G.ext (zqa _) (Q5 h2) h1 h2
 |some l0=>
  obtain⟨V,I⟩:=A W cx a H;refine⟨W.heap.size,[],_,cx.lay W.heap.size,V.defers,run_enterLoop_inner I fn a.tmps ps B C,?_,N.lay _,?_⟩
  . exact⟨Ext.lay W cx _,.inr rfl,L7 W _,(fun e=>by cases e),zqa _,(fun e=>by cases e)⟩
  . intro W' cx' st G
    exact U _ _ _ _ _ G.ext H
theorem orM_itf{x:Option FM}{y:FM}{m:FM}(h:RV x y=m):x=zs m\/(x=zn/\y=m):=by
 cases x with
 |none=>exact .inr ⟨rfl,h⟩
 |some z=>cases h;exact .inl rfl
theorem Ot{c:Code}{m:FM}(h:bL c=zs m):∃id o o' rest d d2 ops,c=.seq (.region id ops zf) rest/\ops.toList=[o,o']/\isRc o=zs d/\isAs d o'=zs d2/\y9 [] rest=zt/\m=.rcv d d2 (xc rest):=by
 unfold bL at h;grind
theorem Ou{rs:List ResultVar}{x:DfC}{m:FM}(h:Ss rs x=zs m):∃o r g,x.ops.toList.reverse=o::r/\isDf o=zs g/\tN [] r.reverse=zt/\x.pre.all (y9 [])=zt/\y9 (rs.map Ia) x.rest=zt/\m=.dfr (x.pre.map xc++[xregP x.ops.toList r.reverse]) g (xc x.rest):=by
 unfold Ss at h;grind
theorem fmOf_cases{rs:List ResultVar}{c:Code}{m:FM}(h:fmOf rs c=m):
 (Yt rs=zt/\bL c=zs m)\/(∃x,parseD c=zs x/\Ss rs x=zs m)\/(∃x,parseI c=zs x/\Yt rs=zt/\m=.itf x)\/m=.plain:=by
 unfold fmOf at h;rcases orM_itf h with h|⟨_,h⟩
 . grind
 . rcases orM_itf h with h|⟨_,h⟩
   . grind
   . rcases orM_itf h with h|⟨_,h⟩
     . grind
     grind
theorem aY {f : FuncId} {fn : Func} {c : Code} (h1 : P.funcs[f]? = zs fn) (h2 : fn.body = zs c) (h3 : (fn.name == "runtime.NumGoroutine") = zf) (args : Array Value) (w : World) : (callFunc f args).run P w = .ok (.enter f args) w := by
 simp_all[callFunc]
theorem FC{W:World}{cx:Cx}{v:Value}{f:Nat}{caps:List AV}(h:Rep W cx v (.fn (.func f) [] caps)):∃ws,v=.func (.func f) #[] ws/\RepL W cx ws.toList caps:=by
 cases h with
 |fn f vs ws cs ds hl hl' h h'=>
  have:vs=#[]:=(by grind)
  subst this;exact⟨ws,rfl,⟨by grind,(by grind)⟩⟩
theorem eN{l:List AV}(h:noneL l=zt):l=[]:=by cases l;rfl;cases h
theorem noRes_true{l:List ResultVar}(h:Yt l=zt):l=[]:=by cases l;rfl;cases h
theorem sS{ps:List Tmp}{xa xb:XC}{fr:Tr}{h:Heap}{g:AV}(hb:rfnA E ih ps xa xb fr h g≠.bad):
 ∃f caps A e fr' h',g=.fn (.func f) [] caps/\E.fn f=zs A/\caps.length+1<=A.ntmps/\itM E ih A.mode A.ntmps caps (roundY ih ps xa xb fr) h=.ok e fr' h'/\rfnA E ih ps xa xb fr h g=.ok e fr h':=by
 cases g with
 |fn f first caps=>
  cases f with
  |func n=>
   have e:rfnA E ih ps xa xb fr h (.fn (.func n) first caps)=bif noneL first then backA fr (itF E ih n caps (roundY ih ps xa xb fr) h)else .bad:=rfl
   rw[e]at hb|-;cases hn:noneL first with
   |false=>grind
   |true=>
    rw[hn]at hb
    have:=eN hn
    subst this;simp only[cond_true]at hb|-;cases B:itF E ih n caps (roundY ih ps xa xb fr) h with
    |ok ex fr' h'=>
     unfold itF at B;cases hf:E.fn n with
     |none=>grind
     |some A=>
      rw[hf]at B;obtain⟨h1,h2⟩:=eM B;have h1:=C8 h1;rw[A7]at h1;exact⟨n,caps,A,ex,fr',h',rfl,hf,h1,h2,rfl⟩
    |_=>rw[B]at hb;exact absurd rfl hb
  |_=>exact absurd rfl hb
 |_=>exact absurd rfl hb
theorem sT{A:FM}{nt:Nat}{caps:List AV}{Y:List AV->Heap->CRes}{h:Heap}{e:Ex}{fr':Tr}{h':Heap}(B:itM E ih A nt caps Y h=.ok e fr' h'):∃c,A=.itf c:=by
 cases A with
 |itf c=>grind
 |_=>cases B
theorem pR(hE:EnvOk E P)(hc:y5 E P ih)(hl:y3 E P ih){ro:Option Nat}{D:DP}{g:Operand}{ps:Array Tmp}{I N:Code}{W:World}{cx:Cx}{a:Act}{fr:Tr}{h:Heap}(hD:Je D)(ah:pM ro D)(hf:FrRep W cx a.tmps fr)(hd:D W cx a)(hs:Sat E W cx h)
 (hb:rfnA E ih ps.toList (xc I) (xc N) fr h (opv E g fr)≠.bad):(Code.rangeFunc g ps I N).wpIn (WF ro) 0 P (c7 E W cx D (rfnA E ih ps.toList (xc I) (xc N) fr h (opv E g fr))) a W:=by
 obtain ⟨f,caps,fi,e,fr',h',hg,al,ad,C,ae⟩:=sS hb;have U:=j2 (E:=E) hs hf g;rw[ae];rw[hg]at U;obtain⟨ws,U,B⟩:=FC U;obtain⟨fn,c,h1,h2,h3,h4,h5,h6,h7⟩:=hE.fn f fi al;obtain⟨ic,aa⟩:=sT C;have⟨ai,aj⟩:parseI c=zs ic/\Yt fn.results.toList=zt:=by
  rcases fmOf_cases h7.symm with⟨_,h⟩|⟨x,_,h⟩|⟨x,h1,h2,h⟩|h
  . grind[Ot]
  . grind[Ou]
  . grind
  grind
 rw[aa]at C;refine wpIn_rangeFunc fun fn0 _=>?_
 obtain⟨l,mk,W1,am,dd,an,la,ao,af⟩:=sR (P:=P) hD ah hd hs fn0 ps I N;have eg:=aY h1 h2 h3;refine⟨l,mk,W1,{target:=.fn (.func f) ws,args:=#[Y0 l]},W1,f,#[Y0 l]++ws,W1,an,?_,fun _ _=>trivial,?_,fun h=>by simp[WF,Fence.wide]at h,?_⟩
 . simp[resolve,rangeCall,U,Deferred.ofValue,Y0,show ∀v,a.eval (.const v)=v from fun _=>rfl]
 . simp[invoke,eg]
 . refine Jg.2 (Jg (ro:=zn) (n:=0).1 (callsIn_of_wp (F:=WF zn) (n:=0) h1 h2 trivial ?_ rfl))
   have V:RepL W1 am (#[Y0 l]++ws).toList (.any::caps):=by
    have:=B.mono la.ext
    simpa using RepL.cons (Rep.any (Y0 l) rfl) this
   have hsz:ws.size=caps.length:=by have:=B.1;grind
   have ab:=Ml V (n:=fi.ntmps) (by simpa using ad);rw[h5]at ab C ad;refine wpIn_mono (yC hc hl ai (sQ hc hf) C (a:=⟨#[Y0 l]++ws++Array.replicate (fn.ntmps-(#[Y0 l]++ws).size) undef,[]⟩) ab ⟨rfl,by simp[Array.getD],by simp;omega⟩ la ao) fun ex a' w' hq=>?_
   obtain ⟨ap,ag,cx',G,H⟩:=hq;have A:∃v,(results fn a'.tmps).run P w'=.ok v w':=by
    obtain⟨v,U,_⟩:=He (P:=P) (fr:=.nil) (tmps:=a'.tmps) (fn:=fn) (vs:=[]) hE H (by grind[Go.AM.noRes_true]) (by rw[noRes_true aj];rfl);grind
   obtain ⟨v,U⟩:=A;have ac:rangePost (WF ro) 0 P l (c7 E W cx D (.ok e fr h')) {a with defers:=mk++a.defers} (.returned v) w':=by
    have nb:(Hf (mkL fn0 a.tmps ps I N dd) e).state≠.busy:=by cases e<;>exact fun e=>by cases e
    have e4:=G.ext0 (st':={Hf (mkL fn0 a.tmps ps I N dd) e with state:=.exhausted}) H;have X:=G.put (st':={Hf (mkL fn0 a.tmps ps I N dd) e with state:=.exhausted}) H;have ak:=H.putHeld G.held e4;refine⟨_,_,run_endLoop G.rcd nb,?_⟩;have post:c7 E W cx D (.ok e fr h') (bR e) {a with defers:=mk++a.defers} (w'.putObj l (.loop {Hf (mkL fn0 a.tmps ps I N dd) e with state:=.exhausted})):=
     ⟨cx',X.ext,af _ _ _ X,rfl,ak,hf.mono X.ext⟩
    cases e with
    |normal=>exact post
    |exit i=>exact wpIn_exit post
    |ret=>exact wpIn_ret post
   rcases ap with rfl|rfl
   . exact⟨ag,v,U,ac⟩
   . exact⟨ag,v,U,ac⟩
end
end Go.AM
/-
 The abstract machine: functions that defer a call which recovers; calls; code.
-/
namespace Go.AM
section
variable {P:Program}{E:Env}
theorem pS{E:Env}{rs:List ResultVar}{fr:Tr}{h:Heap}(hb:Oz (J9 E rs fr h) h≠.bad):∃vs,J9 E rs fr h=zs vs/\Oz (J9 E rs fr h) h=.ok (oneOrTup vs) h:=by
 cases A:J9 E rs fr h with
 |none=>rw[A]at hb;exact absurd rfl hb
 |some vs=>exact⟨vs,rfl,rfl⟩
theorem Dx{cx:Cx}{fn:Func}{tmps:Array Value}{R:Ending->World->Prop}{J:World->Prop}{n0:Nat}{u:FrameMode}(A:u≠.run)
 (hJ:∀W r,J W->n0<=r->cx.held r->W.heap[r]?=zs (.deferred (zs []))->J (W.putObj r (.deferred zn)))
 (hend:∀W,J W->LeavesInM (WF zn) 0 P fn tmps R [] u W):∀(rs:List Nat)(W:World),rs.Nodup->(∀r∈rs,n0<=r/\cx.held r/\W.heap[r]?=zs (.deferred (zs [])))->J W->LeavesInM (WF zn) 0 P fn tmps R (rs.map jL) u W
 |[],W,_,_,hj=>hend W hj
 |r::rs,W,hn,hr,hj=>by
  obtain⟨h1,h2,B⟩:=hr r (List.mem_cons_self ..);obtain⟨hnr,hn⟩:=List.nodup_cons.1 hn;refine⟨A,.inl ⟨r,_,rfl,run_takeDeferred B,?_⟩⟩;refine Dx A hJ hend rs _ hn (fun r' hr'=>?_) (hJ W r hj h1 h2 B);grind[World.putObj_heap_other]
theorem yD{x:Option (List Deferred)}:Re (.deferred x):=fun _ _ _ e=>by cases e
theorem Sh(hE:EnvOk E P){ih:G8}(hc:y5 E P ih){f:Nat}{fn:Func}{c:Code}(h1:P.funcs[f]?=zs fn)(h2:fn.body=zs c){args:Array Value}{l:List AV}{W:World}{cx:Cx}{h:Heap}(hl:RepL W cx args.toList l)(hn:l.length<=fn.ntmps)(hs:Sat E W cx h)
 (hb:M7 E fn.results.toList (ih (xc c) (Tr.enter fn.ntmps l) h)≠.bad):Calls P f args W ((M7 E fn.results.toList (ih (xc c) (Tr.enter fn.ntmps l) h)).Post E W cx):=by
 have V:=Ml hl hn;have X:ih (xc c) (Tr.enter fn.ntmps l) h≠.bad:=fun e=>by rw[e]at hb;exact hb rfl
 refine Jg.1 (callsIn_of_wp_marks (F:=WF zn) (n:=0) h1 h2 trivial (wpIn_mono (hc zn (D0 W.heap.size) c W cx ⟨_,[]⟩ _ h (D0.mono _) (o4 (D0.stab _) (D0.push _) c) V ⟨zqa _,[],rfl,List.nodup_nil,by simp⟩ hs X) fun x a w U=>?_) rfl);obtain⟨cx',he,⟨h0,rs,I,N,hmk⟩,U⟩:=U;have C:∀r∈rs,W.heap.size<=r/\cx'.held r/\w.heap[r]?=zs (.deferred (zs [])):=(by grind)
 generalize ih (xc c) (Tr.enter fn.ntmps l) h=r at *;cases r with
 |bad=>grind
 |pan v h'=>
  obtain⟨vv,rfl,h7,h8⟩:=U;show LeavesInM (WF zn) 0 P fn a.tmps _ a.defers (.panicking _) w
  rw[I];refine Dx (J:=fun w=>Ext W cx w cx'/\Sat E w cx' h'/\Rep w cx' vv v) (fun e=>by cases e) (fun w r A D B G=>?_) (fun w A=>?_) rs w N C ⟨he,h7,h8⟩
  . have H:=Ext0.putHeld (o:=.deferred zn) A.2.1 B G yD yD
    exact⟨A.1.putHi D H,A.2.1.putHeld B H,A.2.2.mono0 H⟩
  . exact⟨cx',vv,rfl,A.1,A.2.1,A.2.2⟩
 |ok e fr h'=>
  obtain ⟨rfl,h7,h8⟩:=U;have aa:Oz (J9 E fn.results.toList fr h') h'≠.bad->LeavesInM (WF zn) 0 P fn a.tmps ((Oz (J9 E fn.results.toList fr h') h').Post E W cx) a.defers .returning w:=by
   intro hb;obtain⟨vs,hr,ab⟩:=pS hb;rw[I,ab];refine Dx (J:=fun w=>Ext W cx w cx'/\Sat E w cx' h'/\FrRep w cx' a.tmps fr) (fun e=>by cases e) (fun w r A D B G=>?_) (fun w A=>?_) rs w N C ⟨he,h7,h8⟩
   . have H:=Ext0.putHeld (o:=.deferred zn) A.2.1 B G yD yD
     exact⟨A.1.putHi D H,A.2.1.putHeld B H,A.2.2.mono0 H⟩
   . obtain⟨v,h9,ac⟩:=He (P:=P) hE A.2.1 (fun x _=>A.2.2.rep _) hr
     exact⟨v,h9,cx',A.1,A.2.1,ac⟩
  cases e with
  |exit i=>exact absurd rfl hb
  |_=>exact aa hb
theorem pT(hE:EnvOk E P){f:Nat}(ht:E.told f=zt){args:Array Value}{l:List AV}{W:World}{cx:Cx}{h:Heap}(hl:RepL W cx args.toList l)(hs:Sat E W cx h)(hb:toldA l h≠.bad):
 (∃ fn c, P.funcs[f]? = zs fn ∧ fn.body = zs c ∧ (fn.name == "runtime.NumGoroutine") = zf) ∧ Calls P f args W ((toldA l h).Post E W cx) := by
 obtain⟨g,fn,c,hg,h1,h2,h3,h4⟩:=hE.told f ht;refine⟨⟨fn,c,h1,h2,h3⟩,?_⟩;obtain⟨⟨m,hm⟩,_,_⟩:=hs.gl.int g hg;cases l with
 |nil=>exact absurd rfl hb
 |cons x r=>
  cases r with
  |nil=>exact absurd rfl hb
  |cons y r=>
   have e:toldA (x::y::r) h=bif noneL r then x.onStr .bad (fun s=>y.onStr .bad fun p=>bif Nat.ble (s5 s) 4000000000||oneB p then(match contS p s with|true=>.ok (.bool zt) h|false=>.ok (.bool zf) h)else .bad)else .bad:=rfl;rw[e]at hb|-;cases hn:noneL r with
   |false=>grind
   |true=>
    rw[hn]at hb
    have:=eN hn
    subst this;simp only[cond_true]at hb|-;cases x with
    |str s=>
     cases y with
     |str p=>
      have hb:(bif Nat.ble (s5 s) 4000000000||oneB p then(match contS p s with|true=>Res.ok (.bool zt) h|false=>.ok (.bool zf) h)else .bad)≠.bad:=hb;show Calls P f args W ((bif Nat.ble (s5 s) 4000000000||oneB p then(match contS p s with|true=>Res.ok (.bool zt) h|false=>.ok (.bool zf) h)else .bad).Post E W cx)
      cases hle:(Nat.ble (s5 s) 4000000000||oneB p)with
      |false=>grind
      |true=>
       have hle:s.length<=4000000000\/p.length=1:=by
        rcases Bool.or_eq_true_iff.1 hle with h1|h1
        . simp_all[v6]
        . cases p with
          |nil=>cases h1
          | cons a q=>cases q with
           |nil=>grind
           |cons b q=>cases h1
       obtain ⟨v1,hv1,hr1⟩:=hl.get (i:=0) rfl;obtain⟨v2,hv2,hr2⟩:=hl.get (i:=1) rfl;obtain⟨s',rfl,hs'⟩:=hr1.str_inv;obtain⟨p',rfl,hp'⟩:=hr2.str_inv;have hargs:args=#[.string s',.string p']:=by
        have hlen:args.size=2:=by have:=hl.1;grind
        grind
       subst hargs;have hsz:s'.size<4294967281\/p'.size=1:=by
        rcases hle with hle|hle
        . have:s'.size=s'.data.toList.length:=by simp
          grind
        . have:p'.size=p'.data.toList.length:=by simp
          grind
       refine(h4 s' p' m W hsz hm).mono fun en w' he=>?_
       obtain⟨rfl,rfl⟩:=he;simp only[cond_true];rw[hs',hp'];cases contS p s with
       |_=>exact⟨cx,Ext.refl _ _,hs,.bool _⟩
     |_=>exact absurd rfl hb
    |_=>exact absurd rfl hb
inductive Mode:FrameMode->FrameMode->Value->Prop
 |ret:Mode .returning .returning .nilIface
 |pan (v:Value):Mode (.panicking [{v:=v,recovered:=zf}]) (.panicking [{v:=v,recovered:=zt}]) v
end
end Go.AM
/-
 The abstract machine: maps.DeleteFunc,told of: its predicate is called at each entry,in whatever order.
-/
namespace Go.AM
section
variable {P:Program}{E:Env}
theorem sU(hE:EnvOk E P){ih:G8}(hc:y5 E P ih)(hpr:∀(c:XC)(fr:Tr)(h h':Heap),CRes.heap (ih c fr h)=zs h'->Pres h h'){f:Nat}{ks:List Nat}(hd:E.dlf f=zs ks){args:Array Value}{l:List AV}{W:World}{cx:Cx}{h:Heap}
 (hl:RepL W cx args.toList l)(hs:Sat E W cx h)(hb:jW E ih ks l h≠.bad):Jo P f/\Calls P f args W ((jW E ih ks l h).Post E W cx):=absurd rfl hb
end
end Go.AM
/-
 The abstract machine: slices.Sorted at a map's keys,told of.
-/
namespace Go.AM
section
variable {P:Program}{E:Env}
theorem sV(hE:EnvOk E P){f:Nat}{args:Array Value}{l:List AV}{W:World}{cx:Cx}{h:Heap}{r:Res}
 (hl:RepL W cx args.toList l)(hs:Sat E W cx h)(hr:srtA E f l h=zs r)(hb:r≠.bad):Jo P f/\Calls P f args W (r.Post E W cx):=by cases hr
end
end Go.AM
/-
 The abstract machine: maps.DeleteFunc: its loop,step by step,over whatever is kept.
-/
namespace Go.AM
open Go.Maps (Keyed)
section
variable {P:Program}{W:World}{b clock:Nat}{ents:Array MapEntry}{J:World->Prop}{K K':MapEntry->Prop}{seen:Array Nat}{n:Nat}{wr:World}{pd:MapEntry->Bool}
variable {ops:Array Oper}{rest:List Oper}{o:Oper}{a:Act}{Q:Exit->Act->World->Prop}
end
end Go.AM
/-
 The abstract machine: a range over a map in the code: whichever entry comes next,it comes to the same.
-/
namespace Go.AM
section
variable {P:Program}{E:Env}{ih:G8}
end
end Go.AM
/-
 The abstract machine: a range over a map in the code: what stands there,and that it is sound.
-/
namespace Go.AM
section
variable {P:Program}{E:Env}{ih:G8}
theorem FD{a b:Code}(h:rngC a b=zn):xc (.seq a b)=.seq (xc a) (xc b):=by
 show(match rngC a b with|some R=>XC.rngm R (xc b)|none=>.seq (xc a) (xc b))=_
 rw[h]
theorem FE{a b:Code}{R:RngD}(h:rngC a b=zs R):xc (.seq a b)=.rngm R (xc b):=by
 show(match rngC a b with|some R=>XC.rngm R (xc b)|none=>.seq (xc a) (xc b))=_
 rw[h]
end
end Go.AM
/-
 The abstract machine: a range over a map in the code is sound.
-/
namespace Go.AM
section
variable {P:Program}{E:Env}{ih:G8}{ops:Array Oper}{rest:List Oper}{o:Oper}{a:Act}{w:World}{Q:Exit->Act->World->Prop}
theorem pU(hE:EnvOk E P)(hc:y5 E P ih)(hpr:∀(c:XC)(fr:Tr)(h h':Heap),CRes.heap (ih c fr h)=zs h'->Pres h h'){ro:Option Nat}{D:DP}(hD:Je D){B A:Code}{R:RngD}(hR:rngC B A=zs R)
 (hst:sJ ro D (.seq B A)){W:World}{cx:Cx}{a:Act}{fr:Tr}{h:Heap}(hf:FrRep W cx a.tmps fr)(hd:D W cx a)(hs:Sat E W cx h)(hb:Yu E ih R (xc A) fr h≠.bad):
 (Code.seq B A).wpIn (WF ro) 0 P (c7 E W cx D (Yu E ih R (xc A) fr h)) a W:=absurd rfl hb
end
end Go.AM
/-
 The abstract machine: calls and code.
-/
namespace Go.AM
section
variable {P:Program}{E:Env}
theorem Ov:∀(c:Code)(x:DfC),parseD c=zs x->c=x.code
 |.seq a b,x,h=>by
  have A:∀(a:Code),(parseD b).map (fun x=>(⟨a::x.pre,x.id,x.ops,x.rest⟩:DfC))=zs x->Code.seq a b=x.code:=fun a h=>by
   cases hb:parseD b with
   |none=>grind
   |some y=>
    rw[hb]at h;cases h;show Code.seq a b=.seq a (y.code)
    rw[<-Ov b y hb]
  cases a with
  |region id ops draw=>
   cases draw with
   |true=>exact A _ h
   |false=>
    have h:(bif jX ops.toList then zs ⟨[],id,ops,b⟩else(parseD b).map fun x=>⟨.region id ops zf::x.pre,x.id,x.ops,x.rest⟩)=zs x:=h;cases hh:jX ops.toList with
    |true=>rw[hh]at h;cases h;rfl
    |false=>grind
  |_=>exact A _ h
 | .skip,_,h | .region ..,_,h | .cond ..,_,h | .block ..,_,h | .loop ..,_,h | .scope ..,_,h | .rangeFunc ..,_,h | .label ..,_,h | .goto ..,_,h | .exit ..,_,h | .ret,_,h | .refuse ..,_,h=>by cases h
theorem yE(hE:EnvOk E P){ih:G8}(hc:y5 E P ih)(hl:y3 E P ih){fn:Func}{x:DfC}{o:Oper}{r:List Oper}{g:Operand}(hops:x.ops.toList=r.reverse++[o])(ho:isDf o=zs g)(hcalm:tN [] r.reverse=zt)(hrest:y9 (fn.results.toList.map Ia) x.rest=zt)
 {W0:World}{cx0:Cx}:∀(L:List Code)(a:Act)(W:World)(cx:Cx)(fr:Tr)(h:Heap),L.all (y9 [])=zt->Ext W0 cx0 W cx->FrRep W cx a.tmps fr->a.defers=[]->Sat E W cx h ->
 qH E ih g (xc x.rest) fn.results.toList (L.map xc++[xregP x.ops.toList r.reverse]) fr h≠.bad ->
 (L.foldr Code.seq (.seq (.region x.id x.ops zf) x.rest)).wpIn (WF zn) 0 P (bodyPostM (WF zn) 0 P fn ((qH E ih g (xc x.rest) fn.results.toList (L.map xc++[xregP x.ops.toList r.reverse]) fr h).Post E W0 cx0)) a W
 |[],_,_,_,_,_,_,_,_,_,_,hb=>absurd rfl hb
 |_::_,_,_,_,_,_,_,_,_,_,_,hb=>absurd rfl hb
theorem eO(U:EnvOk E P){ih:G8}(hc:y5 E P ih)(hl:y3 E P ih)(V:∀(c:XC)(fr:Tr)(h h':Heap),CRes.heap (ih c fr h)=zs h'->Pres h h'):Ep E P (S6 E ih):=by
 intro f args l W cx h X hs hb;unfold S6 at hb|-;cases ht:E.told f with
 |true=>grind[pT]
 |false=>
  rw[ht]at hb;simp only[cond_false]at hb|-;cases G:E.dlf f with
  |some ks=>rw[G]at hb;exact sU U hc V G X hs hb
  |none=>
   rw[G]at hb;dsimp only at hb|-;cases H:srtA E f l h with
   |some r=>rw[H]at hb;exact sV U X hs H hb
   |none=>
    rw[H]at hb;dsimp only at hb|-;cases N:E.fn f with
    |none=>grind
    |some fi=>
     rw[N]at hb;obtain⟨fn,c,h1,h2,h3,h4,h5,h6,h7⟩:=U.fn f fi N;refine⟨⟨fn,c,h1,h2,h3⟩,?_⟩;dsimp only at hb|-;cases hn:Nat.ble (lenL l) fi.ntmps with
     |false=>grind
     |true=>
      rw[hn]at hb;simp only[cond_true]at hb|-;have hn:=C8 hn;rw[A7]at hn;unfold Sr at hb|-;cases hm:fi.mode with
      |rcv d d2 rest=>grind
      |plain=>
       grind[Sh]
      |itf ic=>
       grind[Sh]
      |dfr pre g rest=>
       rw [hm]at hb h7;dsimp only at hb|-;have⟨x,aa,ab⟩:∃x,parseD c=zs x/\Ss fn.results.toList x=zs (.dfr pre g rest):=by
        rcases fmOf_cases h7.symm with⟨_,h⟩|h|⟨x,_,_,h⟩|h
        . grind[Ot]
        . exact h
        . cases h
        . cases h
       obtain ⟨o,r,g',hops,ho,C,I,D,ad⟩:=Ou ab;cases ad;have A:=Ov c x aa;have B:x.ops.toList=r.reverse++[o]:=by
        simp_all
       rw[h5,h6]at hb|-;rw[h5]at hn;have ac:=Ml X hn;refine Jg.1 (callsIn_of_wp_marks (F:=WF zn) (n:=0) h1 h2 trivial ?_ rfl);rw[A];exact yE U hc hl B ho C D x.pre ⟨_,[]⟩ W cx _ h I (Ext.refl _ _) ac rfl hs hb
theorem Sat.sub{P:Program}{E:Env}{W:World}{cx:Cx}{h h':Heap}(A:Sat E W cx h)(hn:h'.next=h.next)(hg:∀id o,h'.get id=zs o->h.get id=zs o):Sat E W cx h' where
 nx:=hn.trans A.nx
 objs id o ho:=A.objs id o (hg id o ho)
 inj id id' o o' ho ho':=A.inj id id' o o' (hg id o ho) (hg id' o' ho')
 gl:=A.gl
 held:=A.held
 free id o ho:=A.free id o (hg id o ho)
theorem mY(D:EnvOk E P){ih:G8}(hc:y5 E P ih)(hl:y3 E P ih)(A:∀(c:XC)(fr:Tr)(h h':Heap),CRes.heap (ih c fr h)=zs h'->Pres h h'):Ep E P (K7 E ih):=by
 intro f args l W cx h G H hb;unfold K7 at hb|-;cases hg:E.gc f with
 |false=>rw[hg]at hb;exact eO D hc hl A f args l W cx h G H hb
 |true=>
  rw[hg]at hb;have hb:RU h (S6 E ih f l {h with tch:=[]})≠.bad:=hb;show _/\Calls P f args W ((RU h (S6 E ih f l {h with tch:=[]})).Post E W cx)
  have h0:=eO D hc hl A f args l W cx {h with tch:=[]} G (H.sub (P:=P) rfl fun _ _ ho=>ho) (fun e=>hb (by rw[e];rfl));refine⟨h0.1,h0.2.mono fun e w B=>?_⟩;cases I:S6 E ih f l {h with tch:=[]}with
  |ok v h1=>
   rw[I]at B;cases e with
   |returned vv=>
    obtain⟨cx',C,h2,N⟩:=B;refine⟨cx',C,h2.sub (P:=P) rfl fun id o ho=>?_,N⟩;have ho:(h.os.trunc h1.os).get id=zs o:=ho;show h1.os.get id=zs o
    grind[HT.get_trunc]
   |_=>exact B.elim
  |_=>rw[I]at hb;exact absurd rfl hb
theorem eP{b:Tr->Heap->CRes}{r:CRes}(h:Du b r≠.bad):r≠.bad:=fun e=>by rw[e]at h;exact h rfl
theorem eQ{W:World}{cx:Cx}{D:DP}{r:CRes}{b:Tr->Heap->CRes}{K:Act->World->Prop}(hb:Du b r≠.bad)
 (hK:∀fr' h' cx' A w',r=.ok .normal fr' h'->Ext W cx w' cx'->Sat E w' cx' h'->FrRep w' cx' A.tmps fr'->D w' cx' A->K A w'):∀x A w',c7 E W cx D r x A w'->Exit.then K (c7 E W cx D (Du b r)) x A w':=by
 intro x A w' B;obtain⟨cx',C,G,B⟩:=B;cases r with
 |bad=>exact B.elim
 |pan v h'=>
  obtain⟨H,rfl,h1,h2⟩:=B;exact⟨cx',C,G,H,rfl,h1,h2⟩
 |ok e fr h'=>
  obtain⟨rfl,h1,h2⟩:=B;cases e with
  |normal=>exact hK fr h' cx' A w' rfl C h1 h2 G
  |_=>exact⟨cx',C,G,rfl,h1,h2⟩
theorem aZ{W:World}{cx:Cx}{D:DP}{r:CRes}{l:Nat}{a:Act}{w:World}(A:c7 E W cx D r (.goto l) a w):False:=by
 obtain⟨cx',_,_,A⟩:=A;cases r with
 |bad=>exact A.elim
 |pan v h'=>obtain⟨vv,e,_⟩:=A;cases e
 |ok e fr' h'=>obtain⟨e2,_⟩:=A;cases e<;>cases e2
theorem Si(hE:EnvOk E P):∀n,y5 E P (ev E n)/\
 (∀(ro:Option Nat)(D:DP)(c:Code)(W:World)(cx:Cx)(a:Act)(fr:Tr)(h:Heap),Je D->sJ ro D c->FrRep W cx a.tmps fr->D W cx a->Sat E W cx h->ev E n (.loop (xc c)) fr h≠.bad->Code.roundsIn (WF ro) 0 P c (c7 E W cx D (ev E n (.loop (xc c)) fr h)) n a W)/\
 y3 E P (ev E n)
 |0=>⟨fun ro D c W cx a fr h _ _ _ _ _ hb=>absurd rfl hb,fun ro D c W cx a fr h _ _ _ _ _ hb=>absurd rfl hb,fun S ops l Q W cx a fr h _ _ _ _ hb=>absurd rfl hb⟩
 |n + 1=>by
  obtain ⟨B,ad,ab⟩:=Si hE n;have N:=mY hE B ab (Bv E n);have round:∀(ro:Option Nat)(D:DP)(c:Code)(W:World)(cx:Cx)(a:Act)(fr:Tr)(h:Heap),Je D->sJ ro D c->FrRep W cx a.tmps fr->D W cx a->Sat E W cx h->ev E (n+1) (.loop (xc c)) fr h≠.bad->Code.roundsIn (WF ro) 0 P c (c7 E W cx D (ev E (n+1) (.loop (xc c)) fr h)) (n+1) a W:=by
   intro ro D c W cx a fr h U A hf H G hb;have e:ev E (n+1) (.loop (xc c)) fr h=Du (ev E n (.loop (xc c))) (ev E n (xc c) fr h):=rfl;rw[e]at hb|-;rw[roundsIn_succ];refine wpIn_mono (B ro D c W cx a fr h U A hf H G (eP hb)) (eQ hb fun fr' h' cx' X w' e1 h1 h2 h3 h4=>?_);rw[e1]at hb|-;have hb:ev E n (.loop (xc c)) fr' h'≠.bad:=hb
   have:=ad ro D c w' cx' X fr' h' U A h3 h4 h2 hb
   have mono:∀m a w Q Q',(∀x a w,Q x a w->Q' x a w)->Code.roundsIn (WF ro) 0 P c Q m a w->Code.roundsIn (WF ro) 0 P c Q' m a w:=by
    intro m
    induction m with
    |zero=>intro a w Q Q' _ h;exact h
    |succ m ih=>
     intro a w Q Q' hq h;exact wpIn_mono h fun x a w hx=>by cases x<;>first|exact ih _ _ _ _ hq hx|exact hq _ _ _ hx
   exact mono n X w' _ _ (fun x a w I=>c7.trans h1 I) this
  refine⟨fun ro D c W cx a fr h U A hf H G hb=>?_,round,fun S ops l Q W cx a fr h A hf hS G hb=>?_⟩
  . cases c with
    |skip=>exact wpIn_skip ⟨cx,Ext.refl _ _,H,rfl,G,hf⟩
    |ret=>exact wpIn_ret ⟨cx,Ext.refl _ _,H,rfl,G,hf⟩
    |exit id=>exact wpIn_exit ⟨cx,Ext.refl _ _,H,rfl,G,hf⟩
    |label l=>exact wpIn_label ⟨cx,Ext.refl _ _,H,rfl,G,hf⟩
    |scope x=>
     have e:ev E (n+1) (xc (.scope x)) fr h=ev E n (xc x) fr h:=rfl;rw[e]at hb|-;refine jN (wpIn_mono (B ro D x W cx a fr h U A hf H G hb) fun x' X w' I=>?_);cases x' with
     |goto l=>grind[aZ]
     |_=>exact I
    |region id ops draw=>
     cases draw with
     |false=>
      have e:ev E (n+1) (xc (.region id ops zf)) fr h=step E (ev E n) (bif Hh ops.toList then .reg zf (ops.toList.map (eF ops.toList zf [] zf))else .bad) fr h:=rfl;rw[e]at hb|-;cases C:Hh ops.toList with
      |false=>rw[C]at hb;exact absurd rfl hb
      |true=>
       rw[C]at hb;have hb:I8 E (K7 E (ev E n)) (ops.toList.map (eF ops.toList zf [] zf)) fr h≠.bad:=hb;show(Code.region id ops zf).wpIn (WF ro) 0 P (c7 E W cx D (I8 E (K7 E (ev E n)) (ops.toList.map (eF ops.toList zf [] zf)) fr h)) a W
       exact wpIn_mono (pY (ro:=ro) (Q:=(I8 E (K7 E (ev E n)) (ops.toList.map (eF ops.toList zf [] zf)) fr h).Post E W cx (fun a=>D W cx a)) sX (noDfr_iff _ C) (Bc hE N ops.toList W cx a fr h (fun o ho=>by obtain⟨i,hi⟩:=List.getElem?_of_mem ho;exact A i o (by grind) W cx) hf H G hb fun x X w' I=>I)) fun x a w I=>c7.of_post U I
     |true=>
      have e:ev E (n+1) (xc (.region id ops zt)) fr h=step E (ev E n) (bif Hh ops.toList then(bif Mu ops.toList (Ej ops.toList) (Rm ops.toList (Ej ops.toList))then .reg zt (Ar ops.toList (Ej ops.toList) [] (Rm ops.toList (Ej ops.toList)))else .bad)else .bad) fr h:=rfl;rw[e]at hb|-;cases C:Hh ops.toList with
      |false=>rw[C]at hb;exact absurd rfl hb
      |true=>
       rw[C]at hb;cases aa:Mu ops.toList (Ej ops.toList) (Rm ops.toList (Ej ops.toList))with
       |false=>rw[aa]at hb;exact absurd rfl hb
       |true=>
        rw[aa]at hb;exact wpIn_mono (jO hE G hf (S:=fun a=>D W cx a) H N (yF E n) (fun i o ho=>A i o ho W cx) (ro:=ro) (by grind[Go.AM.noDfr_iff]) aa hb) fun x a w I=>c7.of_post U I
    |seq x y=>
     cases hR:rngC x y with
     |some R=>
      have e:ev E (n+1) (xc (.seq x y)) fr h=Yu E (ev E n) R (xc y) fr h:=by rw[FE hR];rfl
      rw[e]at hb|-;exact pU hE B (Bv E n) U hR A hf H G hb
     |none=>
      have e:ev E (n+1) (xc (.seq x y)) fr h=Du (ev E n (xc y)) (ev E n (xc x) fr h):=by rw[FD hR];rfl
      rw[e]at hb|-;refine wpIn_seq (wpIn_mono (B ro D x W cx a fr h U A.1 hf H G (eP hb)) (eQ hb fun fr' h' cx' X w' e1 h1 h2 h3 h4=>?_));rw[e1]at hb|-;have hb:ev E n (xc y) fr' h'≠.bad:=hb;exact wpIn_mono (B ro D y w' cx' X fr' h' U A.2 h3 h4 h2 hb) fun x a w I=>c7.trans h1 I
    |cond c x y=>
     have e:ev E (n+1) (xc (.cond c x y)) fr h=Pa (ev E n (xc x)) (ev E n (xc y)) (opv E c fr) fr h:=rfl;rw[e]at hb|-;have hc:=j2 (E:=E) G hf c;cases hv:opv E c fr with
     |bool b=>
      rw[hv]at hb hc;refine wpIn_cond hc.bool_inv ?_;cases b with
      |true=>exact B ro D x W cx a fr h U A.1 hf H G hb
      |false=>exact B ro D y W cx a fr h U A.2 hf H G hb
     |_=>rw[hv]at hb;exact absurd rfl hb
    |block id x=>
     have e:ev E (n+1) (xc (.block id x)) fr h=Ei id (ev E n (xc x) fr h):=rfl;rw[e]at hb|-;have ac:ev E n (xc x) fr h≠.bad:=fun e=>by rw[e]at hb;exact hb rfl
     refine wpIn_block (wpIn_mono (B ro D x W cx a fr h U A hf H G ac) fun x' X w' I=>?_);clear e;generalize ev E n (xc x) fr h=r at *;obtain⟨cx',he,V,I⟩:=I;cases r with
     |bad=>grind
     |pan v h'=>
      obtain⟨vv,rfl,h1,h2⟩:=I;exact⟨cx',he,V,vv,rfl,h1,h2⟩
     |ok e fr' h'=>
      obtain⟨rfl,h1,h2⟩:=I;cases e with
      |exit j=>
       show Exit.inBlock id _ (.exit j) X w'
       have e2:Ei id (.ok (.exit j) fr' h')=bif Nat.beq j id then .ok .normal fr' h' else .ok (.exit j) fr' h':=rfl;rw[e2];show if j=id then _ else _
       by_cases hj:j=id
       . subst hj;rw[if_pos rfl];simp only[Nat.beq_refl,cond_true];exact⟨cx',he,V,rfl,h1,h2⟩
       . rw[if_neg hj,Heap.beq_false hj];exact⟨cx',he,V,rfl,h1,h2⟩
      |_=>exact⟨cx',he,V,rfl,h1,h2⟩
    |loop x=>exact wpIn_loop_rounds (n+1) (round ro D x W cx a fr h U A hf H G hb)
    |rangeFunc g ps x y=>exact pR hE B ab U A hf H G hb
    |_=>exact absurd rfl hb
  . have e:ev E (n+1) (xregP ops.toList l) fr h=step E (ev E n) (bif Hh l then .reg zf (l.map (eF ops.toList zf [] zf))else .bad) fr h:=rfl
    rw[e]at hb|-;cases C:Hh l with
    |false=>rw[C]at hb;exact absurd rfl hb
    |true=>
     rw[C]at hb;exact⟨noDfr_iff _ C,fun hQ=>Bc hE N l W cx a fr h A hf hS G hb hQ⟩
theorem pV(A:EnvOk E P){W:World}{cx:Cx}{h:Heap}{n f:Nat}{args:Array Value}{l:List AV}(hl:RepL W cx args.toList l)(B:Sat E W cx h)(hb:run E n f l h≠.bad):Calls P f args W ((run E n f l h).Post E W cx):=
 (mY A (Si A n).1 (Si A n).2.2 (Bv E n) f args l W cx h hl B hb).2
end
end Go.AM
