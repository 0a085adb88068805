/- The abstract machine, part five: ranges over functions, deferred calls that recover, code and calls: sound. Conditions: none. -/
import Derived.Test.YtnglooakgahhhaaAmFour
import Derived.RangeFuncNested
import Derived.RecoverIn
import Derived.RowKit3
import Derived.Maps.RangeWalk
import Derived.Maps.Ext
import Derived.Laws.IdiomRangeMap
import Derived.Deep.LoopGhost
import Derived.WalkKit
set_option linter.unusedVariables false
set_option linter.unusedSectionVars false
set_option linter.unusedSimpArgs false
/-
 The abstract machine: what a body yields; frames that are entered; blocks that are laid and held; what is so behind code.
set_option maxHeartbeats 4000000
-/
open Option renaming some→zs,none→zn
open Bool renaming true→zt,false→zf
open Array renaming replicate→zqa,getElem?_toList→zqb
open Bool renaming and_eq_true→zqc
open Nat renaming le_refl→zqd
namespace Go.AM
section
variable {P:Program}{E:Env}{W:World}{cx:Cx}{h:Heap}
theorem nU(hE:EnvOk E P)(B:Sat E W cx h){t:Nat}{ti:TI}(C:E.ti t=zs ti){x:Value}{a r:AV}(A:Rep W cx x a)(hl:Fj ti a h=zs r):
 ∃v p,x=.pointer (zs p)/\(loadVar t p).run P W=.ok v W/\Rep W cx v r:=by
 obtain⟨v,h1,h2⟩:=Sc (P:=P) hE B C A hl
 have:∃p,x=.pointer (zs p):=by
  cases a with
  |fptr v off=>obtain⟨b,o,e,_⟩:=A.fptr_inv;grind
  |ptr id i off=>obtain⟨_,e⟩:=A.ptr_inv;grind
  |_=>cases hl
 obtain⟨p,rfl⟩:=this;exact⟨v,p,rfl,by grind[Instr.loadAt,Instr.sureAddr],h2⟩
def resVar(tmps:Array Value):ResultVar->Sem Value
 |.tmp t=>pure (tmps.getD t undef)
 | .cell a t=>do loadVar t (<-asAddr (tmps.getD a undef))
theorem Dj(hE:EnvOk E P)(D:Sat E W cx h){tmps:Array Value}{fr:Tr}:∀(l:List ResultVar)(vs:List AV),(∀x∈l,Rep W cx (tmps.getD (Dr x) undef) (fr.get (Dr x)))->E8 E l fr h=zs vs->∃us,(l.mapM (resVar tmps)).run P W=.ok us W/\RepL W cx us vs
 |[],vs,hf,A=>by
  cases A;exact⟨[],rfl,.nil⟩
 |x::l,vs,hf,A=>by
  have B:=fun y I=>hf y (List.mem_cons_of_mem _ I)
  have C:=hf x (List.mem_cons_self ..);cases x with
  |tmp t=>
   have A:A4 (E8 E l fr h) (fun vs=>zs (fr.get t::vs))=zs vs:=A;obtain⟨ws,h1,h2⟩:=A0 A;cases h2;obtain⟨us,G,H⟩:=Dj hE D l ws B h1;exact⟨tmps.getD t undef::us,by rw[List.mapM_cons];simp[resVar,G],.cons C H⟩
  |cell a t=>
   have A:onTI E t zn (fun ti=>A4 (Fj ti (fr.get a) h) fun v=>A4 (E8 E l fr h) fun vs=>zs (v::vs))=zs vs:=A;obtain⟨ti,N,A⟩:=D7 A;obtain⟨v,O,A⟩:=A0 A;obtain⟨ws,h1,h2⟩:=A0 A;cases h2;obtain⟨us,G,H⟩:=Dj hE D l ws B h1;have C:Rep W cx (tmps.getD a undef) (fr.get a):=C;obtain⟨u,p,e,U,V⟩:=nU (P:=P) hE D N C O;exact⟨u::us,by rw[List.mapM_cons];simp[resVar,e,asAddr,U,G],.cons V H⟩
theorem W8(hE:EnvOk E P)(A:Sat E W cx h){tmps:Array Value}{fr:Tr}{fn:Func}(hf:∀x∈fn.results.toList,Rep W cx (tmps.getD (Dr x) undef) (fr.get (Dr x))){vs:List AV}(B:E8 E fn.results.toList fr h=zs vs):
 ∃v,(results fn tmps).run P W=.ok v W/\Rep W cx v (oneOrTup vs):=by
 obtain ⟨us,h1,h2⟩:=Dj (P:=P) hE A fn.results.toList vs hf B;have e1:(fn.results.mapM (resVar tmps)).run P W=.ok us.toArray W:=by
  rw[<-Array.toArray_toList (xs:=fn.results),List.mapM_toArray];simp[h1]
 have e2:results fn tmps=(do
  let vs <-fn.results.mapM (resVar tmps)
  pure (if h:vs.size=1 then vs[0]else .tuple vs)):=by
  unfold results
  congr 1
 refine⟨if h:us.toArray.size=1 then us.toArray[0]else .tuple us.toArray,by simp_all,?_⟩;cases us with
 |nil=>
  cases vs with
  |nil=>exact .tup #[] [] rfl (by simp)
  |cons _ _=>have:=h2.1;simp at this
 |cons u us=>
  cases vs with
  |nil=>have:=h2.1;simp at this
  |cons v vs=>
   cases us with
   |nil=>
    cases vs with
    |nil=>exact h2.2 0 _ _ rfl rfl
    |cons _ _=>have:=h2.1;simp at this
   |cons u2 us=>
    cases vs with
    |nil=>have:=h2.1;simp at this
    |cons v2 vs=>simp only[List.size_toArray,List.length_cons];rw[dif_neg (by omega)];exact Rep.tup_mk h2
theorem FrRep.set{tmps:Array Value}{fr:Tr}(hf:FrRep W cx tmps fr){i:Nat}{x:AV}(A:Rep W cx (tmps.getD i undef) x):FrRep W cx tmps (fr.set i x) where
 rep j:=by
  by_cases e:i=j
  . subst e
    rw[Tr.get_set_eq];split
    . exact A
    . exact .und _
  . rw[Tr.get_set_ne _ _ _ _ e];exact hf.rep j
 has j hj:=by rw[Tr.has_set]at hj;exact hf.has j hj
theorem FrRep.setAll{tmps:Array Value}:∀(l:List AV)(i:Nat)(fr:Tr),FrRep W cx tmps fr->(∀(j:Nat) x,l[j]?=zs x->Rep W cx (tmps.getD (i+j) undef) x)->FrRep W cx tmps (Tr.setAll l i fr)
 |[],_,_,hf,_=>hf
 |v::l,i,fr,hf,hx=>by
  show FrRep W cx tmps (Tr.setAll l (i+1) (fr.set i v))
  exact FrRep.setAll l (i+1) _ (hf.set (hx 0 v rfl)) fun j x hj=>by
   have:=hx (j+1) x (by grind)
   grind
theorem Ha{args:Array Value}{l:List AV}(hl:RepL W cx args.toList l){n:Nat}(hn:l.length<=n):FrRep W cx (args++zqa (n-args.size) undef) (Tr.enter n l):=by
 have hsz:args.size=l.length:=by have:=hl.1;grind
 refine FrRep.setAll l 0 _ ⟨fun i=>by rw[Tr.get_mk];exact .und _,fun i hi=>?_⟩ fun j x A=>?_
 . have:=Tr.has_mk _ _ _ hi
   simp;omega
 . obtain ⟨v,h1,h2⟩:=hl.get A
   have hlt:j<args.size:=by grind
   have:(args++zqa (n-args.size) undef).getD (0+j) undef=v:=by
    simp_all[Array.getElem?_append_left]
   grind
def Cx.lay(cx:Cx)(b:Nat):Cx:=⟨cx.μ,cx.nx,fun x=>cx.own x\/x=b,fun x=>cx.held x\/x=b⟩
theorem Ext.lay(W:World)(cx:Cx)(o:Obj):Ext W cx (W.alloc o) (cx.lay W.heap.size) where
 nx:=zqd _
 mu _ _:=rfl
 sz:=by simp
 keep b hb _:=heap_alloc_old W o hb
 shape b hb:=by grind[szOf,heap_alloc_old]
 own b hb h:=by rcases h with h|h;exact h;omega
 hold b hb h:=⟨.inl h,heap_alloc_old W o hb⟩
 out:=⟨rfl,rfl,rfl⟩
theorem Sat.lay(A:Sat E W cx h)(o:Obj):Sat E (W.alloc o) (cx.lay W.heap.size) h where
 nx:=A.nx
 objs id y hy:=by
  obtain⟨h1,h2,B,C⟩:=A.objs id y hy;exact⟨h1,.inl h2,by show(cx.μ id).1<_;simp;omega,C.mono (Ext.lay W cx o) (heap_alloc_old W o B)⟩
 inj:=A.inj
 gl:=A.gl.mono (Ext.lay W cx o)
 held b hb:=by
  rcases hb with hb|rfl
  . exact⟨by have:=(A.held b hb).1;simp;omega,.inl (A.held b hb).2⟩
  . exact⟨by simp,.inr rfl⟩
 free id y hy:=by
  rintro(hb|hb)
  . exact A.free id y hy hb
  . have:=(A.objs id y hy).2.2.1
    have hb:(cx.μ id).1=W.heap.size:=hb;omega
def Pw(o:Obj):Prop:=∀c t f,o≠.cells c t f
theorem rF{W:World}{b:Nat}(h:∀o,W.heap[b]?=zs o->Pw o):szOf W b=0:=by
 unfold szOf;cases hb:W.heap[b]? with
 |none=>rfl
 |some o=>
  cases o with
  |cells c t f=>exact absurd rfl (h _ hb c t f)
  |_=>rfl
theorem Ext0.putHeld(A:Sat E W cx h){l:Nat}{o₀ o:Obj}(hl:cx.held l)(h0:W.heap[l]?=zs o₀)(hn:Pw o₀)(ho:Pw o):Ext0 W cx (W.putObj l o) cx where
 nx:=zqd _
 mu _ _:=rfl
 sz:=by simp
 keep b _ hb:=World.putObj_heap_other fun e=>hb (e▸(A.held l hl).2)
 shape b hb:=by
  grind[szOf,rF,World.putObj_heap_same,World.putObj_heap_other]
 own _ _ h:=h
theorem Sat.putHeld(A:Sat E W cx h){l:Nat}{o:Obj}(hl:cx.held l)(B:Ext0 W cx (W.putObj l o) cx):Sat E (W.putObj l o) cx h where
 nx:=A.nx
 objs id y hy:=by
  obtain⟨h1,h2,C,D⟩:=A.objs id y hy;exact⟨h1,h2,by simpa using C,D.mono0 B (World.putObj_heap_other fun e=>A.free id y hy (e▸hl))⟩
 inj:=A.inj
 gl:=A.gl.mono0 B
 held b hb:=⟨by simpa using(A.held b hb).1,(A.held b hb).2⟩
 free:=A.free
theorem Ext.putHi{W W':World}{cx cx':Cx}{l:Nat}{o:Obj}(A:Ext W cx W' cx')(hl:W.heap.size<=l)(h0:Ext0 W' cx' (W'.putObj l o) cx'):Ext W cx (W'.putObj l o) cx' where
 toExt0:=A.toExt0.trans h0
 hold b hb hh:=⟨(A.hold b hb hh).1,(World.putObj_heap_other (by omega)).trans (A.hold b hb hh).2⟩
 out:=A.out
abbrev DP:=World->Cx->Act->Prop
def CRes.End(E:Env)(r:CRes)(x:Exit)(a:Act)(w:World)(cx':Cx):Prop:=
 match r with
 |.ok e fr h=>x=Zi e/\Sat E w cx' h/\FrRep w cx' a.tmps fr
 |.pan v h=>∃A,x=.panic [{v:=A,recovered:=zf}]/\Sat E w cx' h/\Rep w cx' A v
 | .bad=>False
def Y7(E:Env)(W:World)(cx:Cx)(D:DP)(r:CRes)(x:Exit)(a:Act)(w:World):Prop:=∃cx',Ext W cx w cx'/\D w cx' a/\r.End E x a w cx'
theorem Y7.trans{W B:World}{cx A:Cx}{D:DP}(G:Ext W cx B A){r:CRes}{x:Exit}{a:Act}{w:World}(h:Y7 E B A D r x a w):Y7 E W cx D r x a w:=by
 obtain⟨cx',C,h⟩:=h;exact⟨cx',G.trans C,h⟩
def Ew(D:DP):Prop:=∀W cx a W' cx',Ext W cx W' cx'->D W cx a->D W' cx' a
def Qv(D:DP)(d:Option Tmp):Prop:=∀W cx,Kx (D W cx) d
theorem Y7.of_post{D:DP}(hD:Ew D){r:CRes}{x:Exit}{a:Act}{w:World}(h:r.Post E W cx (fun a=>D W cx a) x a w):Y7 E W cx D r x a w:=by
 obtain⟨B,cx',A,h⟩:=h;exact⟨cx',A,hD _ _ _ _ _ A B,h⟩
def hH(r:Nat):Deferred:={target:=.collected r,args:=#[]}
def nV(ro:Option Nat)(D:DP):Prop:=
 match ro with
 |none=>∀W cx a W' cx' r,D W cx a->Ext W cx W' cx'->W.heap.size<=r->r<W'.heap.size->cx'.held r->W'.heap[r]?=zs (.deferred (zs []))->D W' cx' {a with defers:=hH r::a.defers}
 |some l=>∀W cx a,D W cx a->∃A,W.heap[l]?=zs (.loop A)
def nW(ro:Option Nat)(D:DP):Code->Prop
 |.region _ ops _=>∀(i:Nat)(o:Oper),ops[i]?=zs o->Qv D o.dst
 |.seq a b=>nW ro D a/\nW ro D b
 |.cond _ a b=>nW ro D a/\nW ro D b
 |.block _ a=>nW ro D a
 |.loop a=>nW ro D a
 |.scope a=>nW ro D a
 |.rangeFunc ..=>nV ro D
 |_=>True
theorem m6{ro:Option Nat}{D:DP}(h:∀d,Qv D d)(A:nV ro D):∀c,nW ro D c
 |.region _ ops _=>fun _ _ _=>h _
 |.seq a b=>⟨m6 h A a,m6 h A b⟩
 |.cond _ a b=>⟨m6 h A a,m6 h A b⟩
 |.block _ a=>m6 h A a
 |.loop a=>m6 h A a
 |.scope a=>m6 h A a
 |.rangeFunc ..=>A
 | .skip | .exit _ | .label _ | .goto _ | .ret | .refuse _=>trivial
theorem W9{ro:Option Nat}{D:DP}{ts:List Tmp}(h:∀d,(∀t,d=zs t->t∉ts)->Qv D d):∀c,X2 ts c=zt->nW ro D c
 |.region _ ops _,hc=>fun i o ho=>h _ fun t ht hm=>by
  have hc:(ops.toList.all fun o=>(match o.dst with|none=>zt|some d=>!(ts.contains d)))=zt:=hc;grind
 |.seq a b,hc=>by
  have hc:(X2 ts a&&X2 ts b)=zt:=hc;rw[zqc]at hc;exact⟨W9 h a hc.1,W9 h b hc.2⟩
 |.cond _ a b,hc=>by
  have hc:(X2 ts a&&X2 ts b)=zt:=hc;rw[zqc]at hc;exact⟨W9 h a hc.1,W9 h b hc.2⟩
 |.block _ a,hc=>W9 h a hc
 |.loop a,hc=>W9 h a hc
 |.scope a,hc=>W9 h a hc
 |.rangeFunc ..,hc=>by cases hc
 | .skip,_ | .exit _,_ | .label _,_ | .goto _,_ | .ret,_ | .refuse _,_=>trivial
theorem Ey{a:Act}{d:Option Tmp}{v:Value}{i:Nat}(h:∀t,d=zs t->t≠i):(a.put d v).tmps.getD i undef=a.tmps.getD i undef:=by
 cases d with
 |none=>rfl
 |some d=>
  show(a.tmps.setIfInBounds d v).getD i undef=_
  simp_all
theorem rG(a:Act)(d:Option Tmp)(v:Value):(a.put d v).tmps.size=a.tmps.size:=by
 cases d with
 |none=>rfl
 |some d=>show(a.tmps.setIfInBounds d v).size=_;simp
def DE:DP:=fun _ _ a=>a.defers=[]
theorem DE.mono:Ew DE:=fun _ _ _ _ _ _ h=>h
theorem DE.stab(d:Option Tmp):Qv DE d:=fun _ _ a v h=>by show(a.put d v).defers=[];rw[Ab];exact h
def D0(n0:Nat):DP:=fun W cx a=>n0<=W.heap.size/\∃rs:List Nat,a.defers=rs.map hH/\rs.Nodup/\∀r∈rs,n0<=r/\r<W.heap.size/\cx.held r/\W.heap[r]?=zs (.deferred (zs []))
theorem D0.mono(n0:Nat):Ew (D0 n0):=fun W cx a W' cx' A h=>by
 obtain⟨h0,rs,h1,h2,C⟩:=h;refine⟨Nat.le_trans h0 A.sz,rs,h1,h2,fun r B=>?_⟩;obtain⟨h4,D,G,h7⟩:=C r B;obtain⟨h8,h9⟩:=A.hold r D G;grind
theorem D0.stab(n0:Nat)(d:Option Tmp):Qv (D0 n0) d:=fun W cx a v h=>by
 obtain⟨h0,rs,h1,h2⟩:=h;exact⟨h0,rs,by rw[Ab];exact h1,h2⟩
theorem D0.push(n0:Nat):nV zn (D0 n0):=fun W cx a W' cx' r G H hr hlt hh hb=>by
 obtain⟨h0,rs,h1,h2,h3⟩:=D0.mono n0 _ _ _ _ _ H G;obtain⟨h0',D,h1',_,h3'⟩:=G
 have:∀B∈rs,B<W.heap.size:=fun B C=>by
  have e:rs=D:=by
   have inj:∀(l A:List Nat),l.map hH=A.map hH->l=A:=by
    intro l
    induction l with
    |nil=>simp_all
    | cons x l ih=>intro A e;cases A with
     |nil=>simp at e
     |cons y A=>grind[hH]
   grind
  grind
 refine⟨h0,r::rs,by grind,(by grind),fun B C=>?_⟩;grind
def DR(l:Nat)(A:Loop):DP:=fun W cx a=>a.defers=[]/\cx.held l/\W.heap[l]?=zs (.loop A)
theorem DR.mono(l:Nat)(B:Loop):Ew (DR l B):=fun W cx a W' cx' C h=>by
 obtain⟨h1,h2,A⟩:=h;obtain⟨D,G⟩:=C.hold l (Q0 A) h2;exact⟨h1,D,G.trans A⟩
theorem DR.stab(l:Nat)(A:Loop)(d:Option Tmp):Qv (DR l A) d:=fun W cx a v h=>by
 obtain⟨h1,h2⟩:=h;exact⟨by rw[Ab];exact h1,h2⟩
theorem DR.rf(l:Nat)(A:Loop):nV (zs l) (DR l A):=fun W cx a h=>⟨A,h.2.2⟩
theorem noDfr_iff(l:List Oper)(hn:Ia l=zt):∀o∈l,Qz o:=fun o ho c e=>by
 have:=List.all_eq_true.1 hn o ho
 rw[e]at this;cases this
end
end Go.AM
/-
 The abstract machine: pieces of regions; an iterator that hands elements on,walked.
-/
namespace Go.AM
theorem Wg{F:Fence}{n:Nat}{P:Program}{o:Oper}{a:Act}{w:World}{K K':Act->World->Prop}{Q D:Exit->Act->World->Prop}(C:∀a w,K a w->K' a w)(I:∀c a w,Q (.panic c) a w->D (.panic c) a w)(A:∀a w,Q .outgrown a w->D .outgrown a w)
 (h:o.wpIn F n P a w K Q):o.wpIn F n P a w K' D:=by
 refine⟨h.1,?_⟩;have h:=h.2;generalize (o.semAt F.round a.eval).run P w=r at h|-;cases r with
 |ok x w'=>
  cases x with
  |value v=>exact C _ _ h
  |skip=>exact C _ _ h
  |defer d=>exact C _ _ h
  |enter f args=>
   exact ⟨h.1,h.2.mono fun e w' B=>by
    cases e with
    |returned v=>grind
    |panicked c=>grind
    |outgrown=>obtain⟨G,H,h0⟩:=B;exact⟨G,H,A _ _ h0⟩⟩
  |row r args=>exact⟨h.1,h.2.mono fun v w' B=>C _ _ B⟩
  |round l f tmps as bo=>
   exact ⟨h.1,h.2.mono fun e w' B=>by
    cases e with
    |returned v=>grind
    |panicked c=>grind
    |outgrown=>obtain⟨G,H,h0⟩:=B;exact⟨G,H,A _ _ h0⟩⟩
  |_=>exact h.elim
 |halt x w'=>cases x<;>first|exact I _ _ _ h|exact h.elim
theorem Bo{F:Fence}{n:Nat}{P:Program}{ops:Array Oper}{Q:Exit->Act->World->Prop}{rest:List Oper}:∀(l:List Oper)(a:Act)(w:World),
 wpListIn F n P ops (Exit.then (wpListIn F n P ops Q rest) (fun _ _ _=>False)) l a w->wpListIn F n P ops Q (l++rest) a w
 |[],a,w,h=>h
 |o :: l,a,w,h=>by
  unfold wpListIn at h;show wpListIn F n P ops Q (o::(l++rest)) a w
  unfold wpListIn;split
  . rename_i A
    rw[if_pos A]at h;exact Wg (fun a w h=>Bo l a w h) (fun c a w B=>B.elim) (fun a w B=>B.elim) h
  . rename_i A
    rw[if_neg A]at h;exact⟨h.1,Bo l _ w h.2⟩
def o9(E:Env)(P:Program)(ih:D9):Prop:=
 ∀ (S:Act->Prop) (ops:Array Oper) (l:List Oper) (Q:Exit->Act->World->Prop) (W:World) (cx:Cx) (a:Act) (fr:Tr) (h:Heap),
   (∀ o∈l,Kx S o.dst)->FrRep W cx a.tmps fr->S a->Sat E W cx h->ih (xregP ops.toList l) fr h≠.bad ->
     (∀o∈l,Qz o)/\((∀x A w',(ih (xregP ops.toList l) fr h).Post E W cx S x A w'->Q x A w')->wpList P ops Q l a W)
def f7(E:Env)(P:Program)(ih:D9):Prop:=
 ∀ (ro:Option Nat) (D:DP) (c:Code) (W:World) (cx:Cx) (a:Act) (fr:Tr) (h:Heap),Ew D->nW ro D c->FrRep W cx a.tmps fr->D W cx a->Sat E W cx h->ih (xc c) fr h≠.bad ->
   c.wpIn (WF ro) 0 P (Y7 E W cx D (ih (xc c) fr h)) a W
section
variable {P:Program}{E:Env}{ih:D9}
theorem kZ(hl:o9 E P ih){ro:Option Nat}{ops:Array Oper}{S:Act->Prop}{l rest:List Oper}{Q:Exit->Act->World->Prop}{W:World}{cx:Cx}{a:Act}{fr fr':Tr}{h h':Heap}(B:∀o∈l,Kx S o.dst)
 (hf:FrRep W cx a.tmps fr)(hS:S a)(hs:Sat E W cx h)(hr:ih (xregP ops.toList l) fr h=.ok .normal fr' h')
 (hK:∀A W' cx',Ext W cx W' cx'->Sat E W' cx' h'->FrRep W' cx' A.tmps fr'->S A->wpListIn (WF ro) 0 P ops Q rest A W'):wpListIn (WF ro) 0 P ops Q (l++rest) a W:=by
 obtain⟨hn,D⟩:=hl S ops l (Exit.then (wpListIn (WF ro) 0 P ops Q rest) (fun _ _ _=>False)) W cx a fr h B hf hS hs (by grind);refine Bo l a W (Ke ?_ l hn a W (D fun x A w' C=>?_))
 . rintro⟨a,w,h⟩;exact h
 . rw[hr]at C
   obtain⟨G,cx',H,rfl,h1,h2⟩:=C;exact hK A w' cx' H h1 h2 G
theorem Mt(hl:o9 E P ih){ro:Option Nat}{ops:Array Oper}{S:Act->Prop}{l:List Oper}{Q:Exit->Act->World->Prop}{W:World}{cx:Cx}{a:Act}{fr fr':Tr}{h h':Heap}(A:∀o∈l,Kx S o.dst)
 (hf:FrRep W cx a.tmps fr)(hS:S a)(hs:Sat E W cx h)(hr:ih (xregP ops.toList l) fr h=.ok .normal fr' h')
 (hK:∀B W' cx',Ext W cx W' cx'->Sat E W' cx' h'->FrRep W' cx' B.tmps fr'->S B->Q .normal B W'):wpListIn (WF ro) 0 P ops Q l a W:=by
 have:=kZ (rest:=[]) (ro:=ro) (ops:=ops) (Q:=Q) hl A hf hS hs hr hK
 grind
theorem Yo(hl:o9 E P ih){ro:Option Nat}{id:Nat}{ops:Array Oper}{S:Act->Prop}{Q:Exit->Act->World->Prop}{W:World}{cx:Cx}{a:Act}{fr fr':Tr}{h h':Heap}(A:∀o∈ops.toList,Kx S o.dst)
 (hf:FrRep W cx a.tmps fr)(hS:S a)(hs:Sat E W cx h)(hr:ih (xregP ops.toList ops.toList) fr h=.ok .normal fr' h')
 (hK:∀B W' cx',Ext W cx W' cx'->Sat E W' cx' h'->FrRep W' cx' B.tmps fr'->S B->Q .normal B W'):(Code.region id ops zf).wpIn (WF ro) 0 P Q a W:=
 wpIn_region_list (Mt hl A hf hS hs hr hK)
theorem isNone_none{α:Type}{o:Option α}(h:isNone o=zt):o=zn:=by cases o;rfl;cases h
theorem Bu{ts:List Tmp}{l:List Oper}(h:X1 ts l=zt){o:Oper}(ho:o∈l):∀d,o.dst=zs d->d∉ts:=by
 have:=List.all_eq_true.1 h o ho
 grind
theorem hO{o:Oper}{yt:Tmp}(h:isMv0 o=zs yt):o.op=.move (.tmp 0)/\o.dst=zs yt:=by
 obtain⟨dst,op,type,pos,after,guard⟩:=o;unfold isMv0 at h;cases op with
 |move x=>
  cases x with
  |tmp t=>
   replace h:(bif Nat.beq t 0 then dst else zn)=zs yt:=h
   cases hc:Nat.beq t 0 with
   |false=>grind
   |true=>
    simp_all
  |_=>cases h
 |_=>cases h
theorem rH{o:Oper}{yt yd:Tmp}{args:List Operand}(h:isY yt o=zs (yd,args)):∃C B,o.op=.call ⟨.value (.tmp yt),C,B⟩/\C.toList=args/\o.dst=zs yd:=by
 obtain⟨dst,op,type,pos,after,guard⟩:=o;unfold isY at h;cases op with
 |call c=>
  obtain⟨A,C,B⟩:=c;cases A with
  |value x=>
   cases x with
   |tmp t=>
    replace h:(bif Nat.beq t yt then(match dst with|some d=>zs (d,C.toList)|none=>zn)else zn)=zs (yd,args):=h
    cases hc:Nat.beq t yt with
    |false=>grind
    |true=>
     rw[hc]at h
     have:=C4 hc
     subst this;grind
   |_=>cases h
  |_=>cases h
 |_=>cases h
theorem Oc{yt:Tmp}:∀{l:List Oper}{p:List Oper×Oper×List Oper},splitY yt l=zs p->l=p.1++p.2.1::p.2.2
 |[],_,h=>by cases h
 |o :: r,p,h=>by
  unfold splitY at h;cases B:isY yt o with
  |some q=>grind
  |none=>
   rw[B]at h;cases A:splitY yt r with
   |none=>grind
   |some q=>
    rw[A]at h;cases h
    have:=Oc A
    grind
theorem Od:∀{l:List Oper}{p:List Oper×Oper×List Oper},splitM l=zs p->l=p.1++p.2.1::p.2.2
 |[],_,h=>by cases h
 |o :: r,p,h=>by
  unfold splitM at h;cases B:isMv0 o with
  |some q=>grind
  |none=>
   rw[B]at h;cases A:splitM r with
   |none=>grind
   |some q=>
    rw[A]at h;cases h
    have:=Od A
    grind
theorem wX{a b:Option (Nat×Bool)}(h:xE a b=zt):a=b:=by
 cases a with
 | none=>cases b with
  |none=>rfl
  |some q=>cases h
 |some p=>
  cases b with
  |none=>cases h
  |some q=>
   obtain⟨p1,p2⟩:=p;obtain⟨q1,q2⟩:=q;unfold xE at h;dsimp only at h;rw[zqc]at h;grind[C4]
structure YP(ops:List Oper)(p0:List Oper)(m:Oper)(p1:List Oper)(y:Oper)(p2:List Oper)(yt yd:Tmp)(args:List Operand):Prop where
 ops:ops=p0++m::(p1++y::p2)
 mv:isMv0 m=zs yt
 yl:isY yt y=zs (yd,args)
 gd:m.guard=y.guard
 yt0:yt≠0
 c0:X1 [0] p0=zt
 c1:X1 [0,yt] p1=zt
 cy:X1 [0] [y]=zt
 c2:X1 [0] p2=zt
theorem regI_some{ops:List Oper}{ic:IC}(h:z8 ops=zs ic):(X1 [0] ops=zt/\ic=.reg (xregP ops ops))\/
 ∃p0 m p1 y p2 yt yd args,YP ops p0 m p1 y p2 yt yd args/\ic=.yreg (xregP ops p0) (F3 ops m) yt (xregP ops p1) yd args (xregP ops p2):=by
 unfold z8 at h;cases C:splitM ops with
 |none=>
  grind
 |some q=>
  rw[C]at h;have B:=Od C;obtain⟨p0,m,r⟩:=q
  replace h:DA ops (p0,m,r)=zs ic:=h
  unfold DA at h;dsimp only at h B;cases h1:isMv0 m with
  |none=>grind
  |some yt=>
   rw[h1]at h;dsimp only at h;cases h2:splitY yt r with
   |none=>grind
   |some p=>
    rw[h2]at h;obtain⟨p1,y,p2⟩:=p;have A:=Oc h2;dsimp only at h A;cases D:isY yt y with
    |none=>grind
    |some z=>
     rw[D]at h;obtain⟨yd,args⟩:=z;dsimp only at h;cases hc:(xE m.guard y.guard && !(Nat.beq yt 0)&&X1 [0] p0&&X1 [0,yt] p1&&X1 [0] [y]&&X1 [0] p2)with
     |false=>grind
     |true=>
      rw[hc]at h;cases h;simp only[zqc,Bool.not_eq_true']at hc;obtain⟨⟨⟨⟨⟨c1,c2⟩,G⟩,H⟩,I⟩,N⟩:=hc;exact .inr ⟨p0,m,p1,y,p2,yt,yd,args,⟨by rw[B,A],h1,D,wX c1,fun e=>by simp_all,G,H,I,N⟩,rfl⟩
theorem Wh{f:IC->IC->IC}{a b:Option IC}{c:IC}(h:sF f a b=zs c):∃x y,a=zs x/\b=zs y/\c=f x y:=by
 cases a with
 |none=>cases h
 | some x=>cases b with
  |none=>cases h
  |some y=>cases h;grind
structure LA(W0:World)(cx0:Cx)(ro:Option Nat)(l:Nat)(st:Loop)(W:World)(cx:Cx):Prop where
 ext:Ext W0 cx0 W cx
 held:cx.held l
 rcd:W.heap[l]?=zs (.loop st)
 blk:ro=zn->cx.held W0.heap.size/\W.heap[W0.heap.size]?=zs (.deferred (zs []))
 hi:W0.heap.size<=l
 ne:ro=zn->l≠W0.heap.size
section
variable {W0 W W':World}{cx0 cx cx':Cx}{ro:Option Nat}{l:Nat}{st st':Loop}{h:Heap}
theorem LA.mono(A:LA W0 cx0 ro l st W cx)(B:Ext W cx W' cx'):LA W0 cx0 ro l st W' cx' where
 ext:=A.ext.trans B
 held:=(B.hold l (Q0 A.rcd) A.held).1
 rcd:=(B.hold l (Q0 A.rcd) A.held).2.trans A.rcd
 blk hr:=by
  obtain⟨h1,h2⟩:=A.blk hr;obtain⟨h3,h4⟩:=B.hold _ (Q0 h2) h1;grind
 hi:=A.hi
 ne:=A.ne
theorem LA.ext0(A:LA W0 cx0 ro l st W cx)(B:Sat E W cx h):Ext0 W cx (W.putObj l (.loop st')) cx:=
 Ext0.putHeld B A.held A.rcd (fun _ _ _ e=>by cases e) (fun _ _ _ e=>by cases e)
theorem LA.put(A:LA W0 cx0 ro l st W cx)(B:Sat E W cx h):LA W0 cx0 ro l st' (W.putObj l (.loop st')) cx where
 ext:=A.ext.putHi A.hi (A.ext0 B)
 held:=A.held
 rcd:=World.putObj_heap_same (Q0 A.rcd)
 blk hr:=⟨(A.blk hr).1,(World.putObj_heap_other fun e=>A.ne hr e.symm).trans (A.blk hr).2⟩
 hi:=A.hi
 ne:=A.ne
end
def goOn(e:Ex):Bool:=match e with | .normal=>zt | .exit _=>zf | .ret=>zf
def Hy(mk:LoopState->Option Code->Loop)(e:Ex):Loop:=match e with | .normal=>mk .ready zn | .exit i=>mk .done (zs (.exit i)) | .ret=>mk .done (zs .ret)
def PQ(E:Env)(P:Program)(W0:World)(cx0:Cx)(ro:Option Nat)(l:Nat)(mk:LoopState->Option Code->Loop)(Y:List AV->Heap->CRes):Prop:=
 ∀ (vs:Array Value) (args:List AV) (W:World) (cx:Cx) (h:Heap) (e:Ex) (fr':Tr) (h':Heap),Y args h=.ok e fr' h'->LA W0 cx0 ro l (mk .ready zn) W cx->Sat E W cx h->RepL W cx vs.toList args ->
   ∃ f tmps A B,(Instr.yield l vs).run P W=.ok (.round l f tmps A B) W/\RoundIn (WF zn) 0 P l f tmps A B W fun C W' =>
     C=.returned (.bool (goOn e))/\∃cx',LA W0 cx0 ro l (Hy mk e) W' cx'/\Ext0 W cx W' cx'/\Sat E W' cx' h'
def Y0(l:Nat):Value:=.func (.yield l) #[] #[]
def SI(l nt:Nat)(a:Act):Prop:=a.defers=[]/\a.tmps.getD 0 undef=Y0 l/\a.tmps.size=nt
def SY(l nt:Nat)(yt:Tmp)(a:Act):Prop:=SI l nt a/\a.tmps.getD yt undef=Y0 l
theorem SI.stab{l nt:Nat}{d:Option Tmp}(h:∀t,d=zs t->t≠0):Kx (SI l nt) d:=fun a v A =>
 ⟨by rw[Ab];exact A.1,(Ey h).trans A.2.1,(rG ..).trans A.2.2⟩
theorem SY.stab{l nt:Nat}{yt:Tmp}{d:Option Tmp}(h:∀t,d=zs t->t≠0)(h':∀t,d=zs t->t≠yt):Kx (SY l nt yt) d:=fun a v A =>
 ⟨SI.stab h a v A.1,(Ey h').trans A.2⟩
theorem SI.calm{l nt:Nat}{A:List Oper}(h:X1 [0] A=zt):∀o∈A,Kx (SI l nt) o.dst:=fun o ho=>SI.stab fun t B e=>Bu h ho t B (by simp[e])
theorem SI.calm1{l nt:Nat}{yt:Tmp}{A:List Oper}(h:X1 [0,yt] A=zt):∀o∈A,Kx (SI l nt) o.dst:=fun o ho=>SI.stab fun t B e=>Bu h ho t B (by simp[e])
theorem SY.calm{l nt:Nat}{yt:Tmp}{B:List Oper}(h:X1 [0,yt] B=zt):∀o∈B,Kx (SY l nt yt) o.dst:=fun o ho=>SY.stab (fun t A e=>Bu h ho t A (by simp[e])) (fun t A e=>Bu h ho t A (by simp[e]))
theorem rI{k:Tr->Heap->CRes}{r:CRes}{e:Ex}{fr':Tr}{h':Heap}(B:Ej k r=.ok e fr' h'):∃A h1,r=.ok .normal A h1/\k A h1=.ok e fr' h':=by
 cases r with
 |ok e1 A h1=>
  cases e1 with
  |normal=>exact⟨A,h1,rfl,B⟩
  |_=>cases B
 |_=>cases B
theorem y8{k:Tr->Heap->IRes}{r:CRes}{e:Ex}{p:Option Ex}{fr':Tr}{h':Heap}(B:H8 k r=.ok e p fr' h'):∃A h1,r=.ok .normal A h1/\k A h1=.ok e p fr' h':=by
 cases r with
 |ok e1 A h1=>
  cases e1 with
  |normal=>exact⟨A,h1,rfl,B⟩
  |_=>cases B
 |_=>cases B
theorem onOB_okI{b:Option Bool}{x y:IRes}{e:Ex}{p:Option Ex}{fr:Tr}{h:Heap}(A:onOB b .bad x y=.ok e p fr h):(b=zs zt/\x=.ok e p fr h)\/(b=zs zf/\y=.ok e p fr h):=by
 cases b with
 |none=>cases A
 |some b=>cases b;exact .inr ⟨rfl,A⟩;exact .inl ⟨rfl,A⟩
theorem cL{b:Bool}{x:CRes}{e:Ex}{fr:Tr}{h:Heap}(hr:(bif b then x else .bad)=.ok e fr h):b=zt/\x=.ok e fr h:=by
 grind
theorem nX{b:Bool}{x:IRes}{e:Ex}{p:Option Ex}{fr:Tr}{h:Heap}(hr:(bif b then x else .bad)=.ok e p fr h):b=zt/\x=.ok e p fr h:=by
 grind
def nY(mk:LoopState->Option Code->Loop)(p:Option Ex):Loop:=Hy mk (rB p)
def IQ(E:Env)(W0:World)(cx0:Cx)(ro:Option Nat)(l nt:Nat)(mk:LoopState->Option Code->Loop)(e:Ex)(p:Option Ex)(fr':Tr)(h':Heap)(ex:Exit)(a:Act)(w:World):Prop:=
 ex=Zi e/\SI l nt a/\∃cx',LA W0 cx0 ro l (nY mk p) w cx'/\Sat E w cx' h'/\FrRep w cx' a.tmps fr'
section
variable {W0:World}{cx0:Cx}{ro:Option Nat}{l nt:Nat}{mk:LoopState->Option Code->Loop}{Y:List AV->Heap->CRes}
theorem nZ(hl:o9 E P ih)(hY:PQ E P W0 cx0 ro l mk Y){id:Nat}{ops:Array Oper}{p0:List Oper}{m:Oper}{p1:List Oper}{y:Oper}{p2:List Oper}{yt yd:Tmp}{args:List Operand}(C:YP ops.toList p0 m p1 y p2 yt yd args)
 {k:Nat}{p p':Option Ex}{a:Act}{W:World}{cx:Cx}{fr fr':Tr}{h h':Heap}{e:Ex}
 (A:evI E ih nt Y (k+1) (.yreg (xregP ops.toList p0) (F3 ops.toList m) yt (xregP ops.toList p1) yd args (xregP ops.toList p2)) p fr h=.ok e p' fr' h')(hf:FrRep W cx a.tmps fr)(hS:SI l nt a)(la:LA W0 cx0 ro l (nY mk p) W cx)(hs:Sat E W cx h):
 (Code.region id ops zf).wpIn (WF zn) 0 P (IQ E W0 cx0 ro l nt mk e p' fr' h') a W:=by
 refine wpIn_region_list ?_;rw[C.ops];obtain⟨an,h1,aw,A⟩:=y8 (show H8 (fun fr h=>onOB (guardOk (F3 ops.toList m) fr) .bad (cZ E ih nt Y (F3 ops.toList m) yt (xregP ops.toList p1) yd args (xregP ops.toList p2) p fr h) (zY ih (F3 ops.toList m) yt (xregP ops.toList p1) yd (xregP ops.toList p2) p fr h)) (ih (xregP ops.toList p0) fr h)=.ok e p' fr' h' from A);refine kZ hl (SI.calm C.c0) hf hS hs aw fun V W1 ao ap al G H=>?_
 replace la:=la.mono ap
 obtain⟨m1,m3⟩:=hO C.mv;obtain⟨as,tys,y1,y2,y4⟩:=rH C.yl;have hyd:yd≠0:=fun e=>Bu C.cy (List.mem_cons_self ..) yd y4 (by simp[e])
 have am:F3 ops.toList y=F3 ops.toList m:=by unfold F3;rw[C.gd]
 rcases onOB_okI A with⟨hg,A⟩|⟨hg,A⟩
 . -- it is called
   have hw:=O4 (ops:=ops) G m hg;cases p with
   |some _=>cases A
   |none=>
    obtain ⟨af,A⟩:=nX (show(bif Nat.blt yt nt then H8 (fun fr h=>onOB (guardOk (F3 ops.toList m) fr) .bad (Ht ih (xregP ops.toList p2) yd fr (Y (opvs E args fr) h)) .bad) (ih (xregP ops.toList p1) (an.set yt .any) h1)else .bad)=.ok e p' fr' h' from A);have af:=I5 af;obtain⟨D,h2,ai,A⟩:=y8 A;unfold wpListIn;rw[if_pos hw];refine⟨fun _ _=>trivial,?_⟩;have hm:((m.semAt (WF zn).round V.eval).run P W1)=.ok (.value (Y0 l)) W1:=by
     rw[show(WF zn).round=zn from rfl,Oper.semAt_none]
     have:V.eval (.tmp 0)=Y0 l:=H.2.1
     simp[execOp,m1,this]
    rw [hm,Oper.uponIn_value,m3];have ar:SY l nt yt (V.put (zs yt) (Y0 l)):=by
     refine⟨SI.stab (fun t e=>by cases e;exact C.yt0) V _ H,?_⟩;show(V.tmps.setIfInBounds yt (Y0 l)).getD yt undef=Y0 l
     have:yt<V.tmps.size:=by rw[H.2.2];exact af
     simp_all
    refine kZ hl (S:=SY l nt yt) (SY.calm C.c1) (G.put (zs yt) (.any _ rfl)) ar al ai fun a3 W3 I X N B O=>?_
    replace la:=la.mono X
    rcases onOB_okI A with⟨ak,A⟩|⟨_,A⟩
    . have ag:=O4 (ops:=ops) B y (by rw[am];exact ak)
      unfold wpListIn;rw[if_pos ag];refine⟨fun _ _=>trivial,?_⟩;cases hq:Y (opvs E args D) h2 with
      |ok e1 a7 h3=>
       rw [hq]at A;have ah:RepL W3 I (as.map a3.eval).toList (opvs E args D):=by
        have:=By (E:=E) N B args
        simp_all
       obtain ⟨f,tmps,ax,bo,hyr,U⟩:=hY _ _ W3 I h2 e1 a7 h3 hq la N ah;have hm:((y.semAt (WF zn).round a3.eval).run P W3)=.ok (.round l f tmps ax bo) W3:=by
        rw[show(WF zn).round=zn from rfl,Oper.semAt_none]
        have:a3.eval (.tmp yt)=.func (.yield l) #[] #[]:=O.2
        grind[execOp,resolve,Deferred.ofValue,invoke]
       rw[hm,Oper.uponIn_round];refine⟨fun e=>by simp[WF,Fence.wide]at e,U.mono fun en W4 aq=>?_⟩;obtain⟨rfl,ay,az,a0,a4⟩:=aq;show wpListIn (WF zn) 0 P ops _ p2 (a3.put y.dst (.bool (goOn e1))) W4
       rw [y4];have au:SI l nt (a3.put (zs yd) (.bool (goOn e1))):=SI.stab (fun t e=>by grind) a3 _ O.1;have av:FrRep W4 ay (a3.put (zs yd) (.bool (goOn e1))).tmps (D.set yd (.bool (goOn e1))):=(B.mono0 a0).put (zs yd) (.bool _);have out:∀(q:Option Ex),rB q=e1->H8 (n9 q) (ih (xregP ops.toList p2) (D.set yd (.bool (goOn e1))) h3)=.ok e p' fr' h'->wpListIn (WF zn) 0 P ops (IQ E W0 cx0 ro l nt mk e p' fr' h') p2 (a3.put (zs yd) (.bool (goOn e1))) W4:=fun q hq A=>by
        obtain⟨a6,h5,aj,A⟩:=y8 A;cases A;refine Mt hl (SI.calm C.c2) av au a4 aj fun a5 W5 aa ab ac ad ae=>⟨rfl,ae,aa,?_,ac,ad⟩
        unfold nY;rw[hq];exact az.mono ab
       cases e1 with
       |normal=>exact out zn rfl A
       |exit i=>exact out (zs (.exit i)) rfl A
       |ret=>exact out (zs .ret) rfl A
      |_=>rw[hq]at A;cases A
    . cases A
 . -- it is not
   have hw:=O4 (ops:=ops) G m hg;obtain⟨D,h2,ai,A⟩:=y8 (show H8 (fun fr h=>onOB (guardOk (F3 ops.toList m) fr) .bad .bad (H8 (n9 p) (ih (xregP ops.toList p2) (fr.set yd skipped) h))) (ih (xregP ops.toList p1) (an.set yt skipped) h1)=.ok e p' fr' h' from A);unfold wpListIn;rw[hw];refine⟨fun _ _=>trivial,?_⟩;rw[m3];refine kZ hl (S:=SI l nt) (SI.calm1 C.c1) (G.put (zs yt) (show Rep W1 ao undef skipped from .tup #[] [] rfl (by simp))) (SI.stab (fun t e=>by cases e;exact C.yt0) V _ H) al ai fun a3 W3 I X N B O=>?_
   rcases onOB_okI A with⟨_,A⟩|⟨ak,A⟩
   . cases A
   . have ag:=O4 (ops:=ops) B y (by rw[am];exact ak)
     obtain ⟨a6,h5,aj,A⟩:=y8 A;cases A;unfold wpListIn;rw[ag];refine⟨fun _ _=>trivial,?_⟩;rw[y4];exact Mt hl (SI.calm C.c2) (B.put (zs yd) (show Rep W3 I undef skipped from .tup #[] [] rfl (by simp))) (SI.stab (fun t e=>by grind) a3 _ O) N aj fun a5 W5 aa ab ac ad ae =>
      ⟨rfl,ae,aa,(la.mono X).mono ab,ac,ad⟩
theorem IQ.seq{k:IF}{b:IC}{r:IRes}{e:Ex}{G:Option Ex}{fr':Tr}{h':Heap}{K:Act->World->Prop}(H:Kp (k b) r=.ok e G fr' h')
 (hK:∀p1 A h1 B C,r=.ok .normal p1 A h1->k b p1 A h1=.ok e G fr' h'->IQ E W0 cx0 ro l nt mk .normal p1 A h1 .normal B C->K B C):∃e1 p1 A h1,r=.ok e1 p1 A h1/\
   ∀x B C,IQ E W0 cx0 ro l nt mk e1 p1 A h1 x B C->Exit.then K (IQ E W0 cx0 ro l nt mk e G fr' h') x B C:=by
 cases r with
 |bad=>cases H
 |ok e1 p1 A h1=>
  refine⟨e1,p1,A,h1,rfl,fun x B C I=>?_⟩;obtain⟨rfl,D⟩:=I;cases e1 with
  |normal=>exact hK p1 A h1 B C rfl H ⟨rfl,D⟩
  |_=>cases H;exact⟨rfl,D⟩
theorem lA(hc:f7 E P ih)(hl:o9 E P ih)(hY:PQ E P W0 cx0 ro l mk Y):∀(k:Nat),
 (∀(c:Code)(ic:IC)(p C:Option Ex)(a:Act)(W:World)(cx:Cx)(fr fr':Tr)(h h':Heap)(e:Ex),parseI c=zs ic->evI E ih nt Y k ic p fr h=.ok e C fr' h'->FrRep W cx a.tmps fr->SI l nt a->LA W0 cx0 ro l (nY mk p) W cx->Sat E W cx h->c.wpIn (WF zn) 0 P (IQ E W0 cx0 ro l nt mk e C fr' h') a W)/\
 (∀(c:Code)(ic:IC)(p C:Option Ex)(a:Act)(W:World)(cx:Cx)(fr fr':Tr)(h h':Heap)(e:Ex),parseI c=zs ic->evI E ih nt Y k (.loop ic) p fr h=.ok e C fr' h'->FrRep W cx a.tmps fr->SI l nt a->LA W0 cx0 ro l (nY mk p) W cx->Sat E W cx h->Code.roundsIn (WF zn) 0 P c (IQ E W0 cx0 ro l nt mk e C fr' h') k a W)
 |0=>⟨(fun c ic p C a W cx fr fr' h h' e _ A=>by cases A),(fun c ic p C a W cx fr fr' h h' e _ A=>by cases A)⟩
 |k + 1=>by
  obtain ⟨ab,ihl⟩:=lA hc hl hY k;have round:∀(c:Code)(ic:IC)(p C:Option Ex)(a:Act)(W:World)(cx:Cx)(fr fr':Tr)(h h':Heap)(e:Ex),parseI c=zs ic->evI E ih nt Y (k+1) (.loop ic) p fr h=.ok e C fr' h'->FrRep W cx a.tmps fr->SI l nt a->LA W0 cx0 ro l (nY mk p) W cx->Sat E W cx h->Code.roundsIn (WF zn) 0 P c (IQ E W0 cx0 ro l nt mk e C fr' h') (k+1) a W:=by
   intro c ic p C a W cx fr fr' h h' e B A hf hS la N;obtain⟨e1,p1,D,h1,I,H⟩:=IQ.seq (E:=E) (W0:=W0) (cx0:=cx0) (ro:=ro) (l:=l) (nt:=nt) (mk:=mk) (k:=evI E ih nt Y k) (b:=.loop ic) (r:=evI E ih nt Y k ic p fr h) (K:=Code.roundsIn (WF zn) 0 P c (IQ E W0 cx0 ro l nt mk e C fr' h') k) A
    (fun p1 D h1 a1 w1 _ hk H=>by obtain⟨_,X,O,ad,U,V⟩:=H;grind)
   rw[roundsIn_succ];exact wpIn_mono (ab c ic p p1 a W cx fr D h h1 e1 B I hf hS la N) H
  refine⟨fun c ic p C a W cx fr fr' h h' e B A hf hS la N=>?_,round⟩;cases c with
  |skip=>cases B;cases A;exact wpIn_skip ⟨rfl,hS,cx,la,N,hf⟩
  |exit i=>cases B;cases A;exact wpIn_exit ⟨rfl,hS,cx,la,N,hf⟩
  |ret=>cases B;cases A;exact wpIn_ret ⟨rfl,hS,cx,la,N,hf⟩
  |region id ops draw=>
   cases draw with
   |false=>
    have B:z8 ops.toList=zs ic:=B;rcases regI_some B with⟨G,rfl⟩|⟨p0,m,p1,y,p2,yt,yd,args,hp,rfl⟩
    . obtain⟨D,h1,I,A⟩:=y8 (show H8 (n9 p) (ih (xregP ops.toList ops.toList) fr h)=.ok e C fr' h' from A)
      cases A;exact Yo hl (SI.calm G) hf hS N I fun a1 W1 O ac U V X=>⟨rfl,X,O,la.mono ac,U,V⟩
    grind[nZ]
   |true=>
    have B:(bif X1 [0] ops.toList then zs (IC.reg (xc (.region id ops zt)))else zn)=zs ic:=B;cases G:X1 [0] ops.toList with
    |false=>grind
    |true=>
     rw[G]at B;cases B;obtain⟨D,h1,I,A⟩:=y8 (show H8 (n9 p) (ih (xc (.region id ops zt)) fr h)=.ok e C fr' h' from A);cases A;refine wpIn_mono (hc zn (fun _ _ a=>SI l nt a) (.region id ops zt) W cx a fr h (fun _ _ _ _ _ _ h=>h) (fun i o ho _ _=>(by grind[Go.AM.SI.calm])) hf hS N (by grind)) fun x a1 w1 H=>?_
     rw[I]at H;obtain⟨O,ac,X,rfl,U,V⟩:=H;exact⟨rfl,X,O,la.mono ac,U,V⟩
  |seq x y=>
   obtain ⟨ix,iy,h1,h2,rfl⟩:=Wh (show sF .seq (parseI x) (parseI y)=zs ic from B);obtain⟨e1,p1,D,aa,I,H⟩:=IQ.seq (E:=E) (W0:=W0) (cx0:=cx0) (ro:=ro) (l:=l) (nt:=nt) (mk:=mk) (k:=evI E ih nt Y k) (b:=iy) (r:=evI E ih nt Y k ix p fr h) (K:=y.wpIn (WF zn) 0 P (IQ E W0 cx0 ro l nt mk e C fr' h')) A
    (fun p1 D aa a1 w1 _ hk H=>by obtain⟨_,X,O,ad,U,V⟩:=H;grind)
   grind[wpIn_seq,wpIn_mono]
  |cond x c d=>
   obtain⟨ix,iy,h1,h2,rfl⟩:=Wh (show sF (.cond x) (parseI c) (parseI d)=zs ic from B);have A:(opv E x fr).onBool .bad (fun t=>match t with|true=>evI E ih nt Y k ix p fr h|false=>evI E ih nt Y k iy p fr h)=.ok e C fr' h':=A;have hx:=X5 (E:=E) N hf x;cases hv:opv E x fr with
   |bool t=>
    rw[hv]at A hx;cases t with
    |true=>exact wpIn_cond_true hx.bool_inv (ab c ix p C a W cx fr fr' h h' e h1 A hf hS la N)
    |false=>exact wpIn_cond_false hx.bool_inv (ab d iy p C a W cx fr fr' h h' e h2 A hf hS la N)
   |_=>rw[hv]at A;cases A
  |block i x=>
   obtain⟨ix,h1,rfl⟩:=Option.map_eq_some_iff.1 (show(parseI x).map (.block i)=zs ic from B);have A:Iz i (evI E ih nt Y k ix p fr h)=.ok e C fr' h':=A;cases H:evI E ih nt Y k ix p fr h with
   |bad=>rw[H]at A;cases A
   |ok e1 p1 D aa=>
    rw[H]at A;refine wpIn_block (wpIn_mono (ab x ix p p1 a W cx fr D h aa e1 h1 H hf hS la N) fun ex a1 w1 hi=>?_);obtain⟨rfl,hi⟩:=hi;cases e1 with
    |exit j=>
     have A:(bif Nat.beq j i then IRes.ok .normal p1 D aa else .ok (.exit j) p1 D aa)=.ok e C fr' h':=A;show if j=i then _ else _
     by_cases hj:j=i
     . subst hj
       rw[Nat.beq_refl]at A;cases A;rw[if_pos rfl];exact⟨rfl,hi⟩
     . rw[Heap.beq_false hj]at A
       cases A;rw[if_neg hj];exact⟨rfl,hi⟩
    |_=>cases A;exact⟨rfl,hi⟩
  |loop x=>
   obtain⟨ix,h1,rfl⟩:=Option.map_eq_some_iff.1 (show(parseI x).map .loop=zs ic from B);grind[wpIn_loop_rounds]
  |_=>cases B
def ItQ(E:Env)(W0:World)(cx0:Cx)(ro:Option Nat)(l:Nat)(mk:LoopState->Option Code->Loop)(e:Ex)(h':Heap)(ex:Exit)(a:Act)(w:World):Prop:=
 (ex=.normal\/ex=.ret)/\a.defers=[]/\∃cx',LA W0 cx0 ro l (Hy mk e) w cx'/\Sat E w cx' h'
theorem wY(hc:f7 E P ih)(hl:o9 E P ih){c:Code}{ic:IC}(N:parseI c=zs ic)(O:PQ E P W0 cx0 ro l mk Y){caps:List AV}{e:Ex}{fr':Tr}{h h':Heap}(A:itM E ih (.itf ic) nt caps Y h=.ok e fr' h')
 {a:Act}{W:World}{cx:Cx}(hf:FrRep W cx a.tmps (Tr.enter nt (.any::caps)))(hS:SI l nt a)(la:LA W0 cx0 ro l (mk .ready zn) W cx)(hs:Sat E W cx h):c.wpIn (WF zn) 0 P (ItQ E W0 cx0 ro l mk e h') a W:=by
 have A:finI (evI E ih nt Y itMax ic zn (Tr.enter nt (.any::caps)) h)=.ok e fr' h':=A;cases I:evI E ih nt Y itMax ic zn (Tr.enter nt (.any::caps)) h with
 |bad=>rw[I]at A;cases A
 |ok e1 p1 H h1=>
  rw[I]at A;refine wpIn_mono ((lA hc hl O itMax).1 c ic zn p1 a W cx _ H h h1 e1 N I hf hS la hs) fun ex a1 w1 hi=>?_
  obtain⟨rfl,B,C,D,G,_⟩:=hi;cases e1 with
  |exit j=>cases A
  |normal=>cases A;exact⟨.inl rfl,B.1,C,D,G⟩
  |ret=>cases A;exact⟨.inr rfl,B.1,C,D,G⟩
end
end
end Go.AM
/-
 The abstract machine: a range over a function,walked.
-/
namespace Go.AM
section
variable {P:Program}{E:Env}{ih:D9}
theorem Yp:∀(l:List Nat),HZ l=l.length
 |[]=>rfl
 |_::r=>congrArg Nat.succ (Yp r)
theorem Wi{W:World}{cx:Cx}:∀(ps:List Tmp)(vs:List Value)(l:List AV)(tmps:Array Value)(fr:Tr),RepL W cx vs l->FrRep W cx tmps fr ->
 FrRep W cx ((ps.zip vs).foldl (fun tmps (p:Tmp×Value)=>tmps.setIfInBounds p.1 p.2) tmps) (setPs ps l fr)
 |[],vs,l,tmps,fr,_,hf=>hf
 |p::ps,[],l,tmps,fr,hv,hf=>by
  cases l with
  |nil=>exact hf
  |cons x l=>have:=hv.1;simp at this
 |p::ps,v::vs,l,tmps,fr,hv,hf=>by
  cases l with
  |nil=>have:=hv.1;simp at this
  |cons x l=>
   show FrRep W cx ((ps.zip vs).foldl _ (tmps.setIfInBounds p v)) (setPs ps l (fr.set p x))
   refine Wi ps vs l _ _ ⟨by have:=hv.1;grind,fun i u c h1 h2=>hv.2 (i+1) u c (by grind) (by grind)⟩ ?_
   have:=FrRep.put (a:=⟨tmps,[]⟩) hf (zs p) (hv.2 0 v x rfl rfl)
   exact this
def gX(fn:FuncId)(tmps:Array Value)(ps:Array Tmp)(ca A:Code)(dd:Nat)(st:LoopState)(B:Option Code):Loop:=
 {state:=st,pending:=B,fn,tmps,params:=ps,assign:=ca,body:=A,defers:=dd}
theorem rJ(hc:f7 E P ih){W0:World}{cx0:Cx}{ro:Option Nat}{l:Nat}{fn:FuncId}{tmps:Array Value}{ps:Array Tmp}{ca A:Code}{dd:Nat}{D:Tr}(ac:FrRep W0 cx0 tmps D):
 PQ E P W0 cx0 ro l (gX fn tmps ps ca A dd) (roundY ih ps.toList (xc ca) (xc A) D):=by
 intro vs args W cx h e fr' h' hr U hs hv;obtain⟨X,hr⟩:=cL hr;obtain⟨ae,h1,af,ag⟩:=rI hr;have hsz:vs.size=ps.size:=by
  have h1:=C4 X;rw[A3,Yp]at h1;have h2:=hv.1;grind
 refine ⟨fn,_,ca,A,run_yield U.rcd hsz,roundIn_of_wpIn trivial ?_⟩;have hf:FrRep W cx ((ps.zip vs).foldl (fun tmps (p:Tmp×Value)=>tmps.setIfInBounds p.1 p.2) tmps) (setPs ps.toList args D):=by
  have:=Wi ps.toList vs.toList args tmps D hv (ac.mono U.ext)
  grind[Array.toList_zip]
 show ca.wpIn (WF (zs l)) 0 P _ _ W
 refine wpIn_mono (hc (zs l) (DR l (gX fn tmps ps ca A dd .ready zn)) ca W cx ⟨_,[]⟩ _ h (DR.mono l _) (m6 (DR.stab l _) (DR.rf l _) ca) hf ⟨rfl,U.held,U.rcd⟩ hs (by grind)) fun x a1 w1 V=>?_
 rw[af]at V;obtain⟨ah,aa,ai,rfl,N,aj⟩:=V;have G:=U.mono aa;refine⟨_,run_beginRound G.rcd rfl,?_⟩;have e0:=G.ext0 (st':=gX fn tmps ps ca A dd .busy zn) N;have H:=G.put (st':=gX fn tmps ps ca A dd .busy zn) N;have ad:=N.putHeld G.held e0;show A.wpIn (WF (zs l)) 0 P _ a1 (w1.putObj l (.loop (gX fn tmps ps ca A dd .busy zn)))
 refine wpIn_mono (hc (zs l) (DR l (gX fn tmps ps ca A dd .busy zn)) A _ ah a1 ae h1 (DR.mono l _) (m6 (DR.stab l _) (DR.rf l _) A) (aj.mono0 e0) ⟨ai.1,H.held,H.rcd⟩ ad (by grind)) fun x a3 w3 V=>?_
 rw [ag]at V;obtain⟨C,ab,hd3,rfl,O,hf3⟩:=V;have B:=H.mono ab;have I:∀st,st=Hy (gX fn tmps ps ca A dd) e->LA W0 cx0 ro l (Hy (gX fn tmps ps ca A dd) e) (w3.putObj l (.loop st)) C/\Ext0 W cx (w3.putObj l (.loop st)) C/\Sat E (w3.putObj l (.loop st)) C h':=fun st e=>by
  subst e;have e4:=B.ext0 (st':=Hy (gX fn tmps ps ca A dd) e) O;exact⟨B.put O,((aa.toExt0.trans e0).trans ab.toExt0).trans e4,O.putHeld B.held e4⟩
 cases e with
 |normal=>exact⟨_,_,run_endRound zn B.rcd,rfl,C,I _ rfl⟩
 |exit i=>exact⟨_,_,run_endRound (zs (.exit i)) B.rcd,rfl,C,I _ rfl⟩
 |ret=>exact⟨_,_,run_endRound (zs .ret) B.rcd,rfl,C,I _ rfl⟩
theorem rK{W:World}{cx:Cx}{h:Heap}{ro:Option Nat}{D:DP}(hD:Ew D)(A:nV ro D){a:Act}(G:D W cx a)(I:Sat E W cx h)(fn:FuncId)(ps:Array Tmp)(ca B:Code):
 ∃ l mk W1 cx1 dd,(Instr.enterLoop fn a.tmps ps ca B ro).run P W=.ok (l,mk) W1/\LA W cx ro l (gX fn a.tmps ps ca B dd .ready zn) W1 cx1/\Sat E W1 cx1 h/\
   ∀W' cx' st,LA W cx ro l st W' cx'->D W' cx' {a with defers:=mk++a.defers}:=by
 cases ro with
 |none=>
  refine⟨W.heap.size+1,[hH W.heap.size],_,((cx.lay W.heap.size).lay (W.alloc (.deferred (zs []))).heap.size),W.heap.size,run_enterLoop_outer fn a.tmps ps ca B,?_,(I.lay _).lay _,?_⟩
  . have e1:=Ext.lay W cx (.deferred (zs []))
    have e2:=Ext.lay (W.alloc (.deferred (zs []))) (cx.lay W.heap.size) (.loop (gX fn a.tmps ps ca B W.heap.size .ready zn));refine⟨e1.trans e2,.inr (by simp),?_,fun _=>⟨.inl (.inr rfl),?_⟩,Nat.le_succ _,fun _=>Nat.succ_ne_self _⟩
    . grind[gX,J6,World.size_alloc]
    grind[heap_alloc_old,J6]
  . intro W' cx' st C
    obtain⟨h1,h2⟩:=C.blk rfl;exact A W cx a W' cx' _ G C.ext (zqd _) (Q0 h2) h1 h2
 |some l0=>
  obtain⟨N,H⟩:=A W cx a G;refine⟨W.heap.size,[],_,cx.lay W.heap.size,N.defers,run_enterLoop_inner H fn a.tmps ps ca B,?_,I.lay _,?_⟩
  . exact⟨Ext.lay W cx _,.inr rfl,J6 W _,(fun e=>by cases e),zqd _,(fun e=>by cases e)⟩
  . intro W' cx' st C
    exact hD _ _ _ _ _ C.ext G
theorem orM_itf{x:Option FM}{y:FM}{m:FM}(h:PV x y=m):x=zs m\/(x=zn/\y=m):=by
 cases x with
 |none=>exact .inr ⟨rfl,h⟩
 |some z=>cases h;exact .inl rfl
theorem Ez{c:Code}{m:FM}(h:Rj c=zs m):∃id o o' rest d d2 ops,c=.seq (.region id ops zf) rest/\ops.toList=[o,o']/\isRc o=zs d/\isAs d o'=zs d2/\X2 [] rest=zt/\m=.rcv d d2 (xc rest):=by
 unfold Rj at h;grind
theorem Fa{rs:List ResultVar}{x:DfC}{m:FM}(h:Ri rs x=zs m):∃o r g,x.ops.toList.reverse=o::r/\isDf o=zs g/\lH [] r.reverse=zt/\x.pre.all (X2 [])=zt/\X2 (rs.map Dr) x.rest=zt/\m=.dfr (x.pre.map xc++[xregP x.ops.toList r.reverse]) g (xc x.rest):=by
 unfold Ri at h;grind
theorem fmOf_cases{rs:List ResultVar}{c:Code}{m:FM}(h:fmOf rs c=m):
 (Ko rs=zt/\Rj c=zs m)\/(∃x,parseD c=zs x/\Ri rs x=zs m)\/(∃x,parseI c=zs x/\Ko rs=zt/\m=.itf x)\/m=.plain:=by
 unfold fmOf at h;rcases orM_itf h with h|⟨_,h⟩
 . grind
 . rcases orM_itf h with h|⟨_,h⟩
   . grind
   . rcases orM_itf h with h|⟨_,h⟩
     . grind
     grind
theorem Kb {f : FuncId} {fn : Func} {c : Code} (h1 : P.funcs[f]? = zs fn) (h2 : fn.body = zs c) (h3 : (fn.name == "runtime.NumGoroutine") = zf) (args : Array Value) (w : World) : (callFunc f args).run P w = .ok (.enter f args) w := by
 simp_all[callFunc]
theorem iA{W:World}{cx:Cx}{v:Value}{f:Nat}{caps:List AV}(h:Rep W cx v (.fn (.func f) [] caps)):∃ws,v=.func (.func f) #[] ws/\RepL W cx ws.toList caps:=by
 cases h with
 |fn f vs ws cs ds hl hl' h h'=>
  have:vs=#[]:=(by grind)
  subst this;exact⟨ws,rfl,⟨by grind,(by grind)⟩⟩
theorem Qw{l:List AV}(h:noneL l=zt):l=[]:=by cases l;rfl;cases h
theorem noRes_true{l:List ResultVar}(h:Ko l=zt):l=[]:=by cases l;rfl;cases h
theorem rL{ps:List Tmp}{xa xb:XC}{fr:Tr}{h:Heap}{g:AV}(hb:rfnA E ih ps xa xb fr h g≠.bad):
 ∃f caps A e fr' h',g=.fn (.func f) [] caps/\E.fn f=zs A/\caps.length+1<=A.ntmps/\itM E ih A.mode A.ntmps caps (roundY ih ps xa xb fr) h=.ok e fr' h'/\rfnA E ih ps xa xb fr h g=.ok e fr h':=by
 cases g with
 |fn f first caps=>
  cases f with
  |func n=>
   have e:rfnA E ih ps xa xb fr h (.fn (.func n) first caps)=bif noneL first then backA fr (itF E ih n caps (roundY ih ps xa xb fr) h)else .bad:=rfl
   rw[e]at hb|-;cases hn:noneL first with
   |false=>grind
   |true=>
    rw[hn]at hb
    have:=Qw hn
    subst this;simp only[cond_true]at hb|-;cases B:itF E ih n caps (roundY ih ps xa xb fr) h with
    |ok ex fr' h'=>
     unfold itF at B;cases hf:E.fn n with
     |none=>grind
     |some A=>
      rw[hf]at B;obtain⟨h1,h2⟩:=cL B;have h1:=B9 h1;rw[A3]at h1;exact⟨n,caps,A,ex,fr',h',rfl,hf,h1,h2,rfl⟩
    |_=>rw[B]at hb;exact absurd rfl hb
  |_=>exact absurd rfl hb
 |_=>exact absurd rfl hb
theorem rM{A:FM}{nt:Nat}{caps:List AV}{Y:List AV->Heap->CRes}{h:Heap}{e:Ex}{fr':Tr}{h':Heap}(B:itM E ih A nt caps Y h=.ok e fr' h'):∃c,A=.itf c:=by
 cases A with
 |itf c=>grind
 |_=>cases B
theorem oB(hE:EnvOk E P)(hc:f7 E P ih)(hl:o9 E P ih){ro:Option Nat}{D:DP}{g:Operand}{ps:Array Tmp}{ca N:Code}{W:World}{cx:Cx}{a:Act}{fr:Tr}{h:Heap}(hD:Ew D)(ag:nV ro D)(hf:FrRep W cx a.tmps fr)(hd:D W cx a)(hs:Sat E W cx h)
 (hb:rfnA E ih ps.toList (xc ca) (xc N) fr h (opv E g fr)≠.bad):(Code.rangeFunc g ps ca N).wpIn (WF ro) 0 P (Y7 E W cx D (rfnA E ih ps.toList (xc ca) (xc N) fr h (opv E g fr))) a W:=by
 obtain ⟨f,caps,fi,e,fr',h',hg,ak,ac,G,ad⟩:=rL hb;have O:=X5 (E:=E) hs hf g;rw[ad];rw[hg]at O;obtain⟨ws,O,C⟩:=iA O;obtain⟨fn,c,h1,h2,h3,h4,h5,h6,h7⟩:=hE.fn f fi ak;obtain⟨ic,X⟩:=rM G;have⟨ah,ai⟩:parseI c=zs ic/\Ko fn.results.toList=zt:=by
  rcases fmOf_cases h7.symm with⟨_,h⟩|⟨x,_,h⟩|⟨x,h1,h2,h⟩|h
  . grind[Ez]
  . grind[Fa]
  . grind
  grind
 rw[X]at G;refine wpIn_rangeFunc fun B _=>?_
 obtain⟨l,mk,W1,al,dd,am,la,an,ae⟩:=rK (P:=P) hD ag hd hs B ps ca N;have eg:=Kb h1 h2 h3;refine⟨l,mk,W1,{target:=.fn (.func f) ws,args:=#[Y0 l]},W1,f,#[Y0 l]++ws,W1,am,?_,fun _ _=>trivial,?_,fun h=>by simp[WF,Fence.wide]at h,?_⟩
 . simp[resolve,rangeCall,O,Deferred.ofValue,Y0,show ∀v,a.eval (.const v)=v from fun _=>rfl]
 . simp[invoke,eg]
 . refine Kd.2 (Kd (ro:=zn) (n:=0).1 (callsIn_of_wp (F:=WF zn) (n:=0) h1 h2 trivial ?_ rfl))
   have U:RepL W1 al (#[Y0 l]++ws).toList (.any::caps):=by
    have:=C.mono la.ext
    simpa using RepL.cons (Rep.any (Y0 l) rfl) this
   have hsz:ws.size=caps.length:=by have:=C.1;grind
   have aa:=Ha U (n:=fi.ntmps) (by simpa using ac);rw[h5]at aa G ac;refine wpIn_mono (wY hc hl ah (rJ hc hf) G (a:=⟨#[Y0 l]++ws++zqa (fn.ntmps-(#[Y0 l]++ws).size) undef,[]⟩) aa ⟨rfl,by simp[Array.getD],by simp;omega⟩ la an) fun ex a' w' hq=>?_
   obtain ⟨ao,af,cx',H,I⟩:=hq;have A:∃v,(results fn a'.tmps).run P w'=.ok v w':=by
    obtain⟨v,O,_⟩:=W8 (P:=P) (fr:=.nil) (tmps:=a'.tmps) (fn:=fn) (vs:=[]) hE I (by grind[Go.AM.noRes_true]) (by rw[noRes_true ai];rfl);grind
   obtain ⟨v,O⟩:=A;have ab:rangePost (WF ro) 0 P l (Y7 E W cx D (.ok e fr h')) {a with defers:=mk++a.defers} (.returned v) w':=by
    have nb:(Hy (gX B a.tmps ps ca N dd) e).state≠.busy:=by cases e<;>exact fun e=>by cases e
    have e4:=H.ext0 (st':={Hy (gX B a.tmps ps ca N dd) e with state:=.exhausted}) I;have V:=H.put (st':={Hy (gX B a.tmps ps ca N dd) e with state:=.exhausted}) I;have aj:=I.putHeld H.held e4;refine⟨_,_,run_endLoop H.rcd nb,?_⟩;have post:Y7 E W cx D (.ok e fr h') (Zi e) {a with defers:=mk++a.defers} (w'.putObj l (.loop {Hy (gX B a.tmps ps ca N dd) e with state:=.exhausted})):=
     ⟨cx',V.ext,ae _ _ _ V,rfl,aj,hf.mono V.ext⟩
    cases e with
    |normal=>exact post
    |exit i=>exact wpIn_exit post
    |ret=>exact wpIn_ret post
   rcases ao with rfl|rfl
   . exact⟨af,v,O,ab⟩
   . exact⟨af,v,O,ab⟩
end
end Go.AM
/-
 The abstract machine: functions that defer a call which recovers; calls; code.
-/
namespace Go.AM
section
variable {P:Program}{E:Env}
theorem Wj{E:Env}{rs:List ResultVar}{fr:Tr}{h:Heap}(hb:Kn (E8 E rs fr h) h≠.bad):∃vs,E8 E rs fr h=zs vs/\Kn (E8 E rs fr h) h=.ok (oneOrTup vs) h:=by
 cases A:E8 E rs fr h with
 |none=>rw[A]at hb;exact absurd rfl hb
 |some vs=>exact⟨vs,rfl,rfl⟩
theorem Fb{cx:Cx}{fn:Func}{tmps:Array Value}{R:Ending->World->Prop}{J:World->Prop}{n0:Nat}{u:FrameMode}(A:u≠.run)
 (hJ:∀W r,J W->n0<=r->cx.held r->W.heap[r]?=zs (.deferred (zs []))->J (W.putObj r (.deferred zn)))
 (hend:∀W,J W->LeavesInM (WF zn) 0 P fn tmps R [] u W):∀(rs:List Nat)(W:World),rs.Nodup->(∀r∈rs,n0<=r/\cx.held r/\W.heap[r]?=zs (.deferred (zs [])))->J W->LeavesInM (WF zn) 0 P fn tmps R (rs.map hH) u W
 |[],W,_,_,hj=>hend W hj
 |r::rs,W,hn,hr,hj=>by
  obtain⟨h1,h2,B⟩:=hr r (List.mem_cons_self ..);obtain⟨hnr,hn⟩:=List.nodup_cons.1 hn;refine⟨A,.inl ⟨r,_,rfl,run_takeDeferred B,?_⟩⟩;refine Fb A hJ hend rs _ hn (fun r' hr'=>?_) (hJ W r hj h1 h2 B);grind[World.putObj_heap_other]
theorem wZ{x:Option (List Deferred)}:Pw (.deferred x):=fun _ _ _ e=>by cases e
theorem Qx(hE:EnvOk E P){ih:D9}(hc:f7 E P ih){f:Nat}{fn:Func}{c:Code}(h1:P.funcs[f]?=zs fn)(h2:fn.body=zs c){args:Array Value}{l:List AV}{W:World}{cx:Cx}{h:Heap}(hl:RepL W cx args.toList l)(hn:l.length<=fn.ntmps)(hs:Sat E W cx h)
 (hb:H7 E fn.results.toList (ih (xc c) (Tr.enter fn.ntmps l) h)≠.bad):Calls P f args W ((H7 E fn.results.toList (ih (xc c) (Tr.enter fn.ntmps l) h)).Post E W cx):=by
 have U:=Ha hl hn;have V:ih (xc c) (Tr.enter fn.ntmps l) h≠.bad:=fun e=>by rw[e]at hb;exact hb rfl
 refine Kd.1 (callsIn_of_wp_marks (F:=WF zn) (n:=0) h1 h2 trivial (wpIn_mono (hc zn (D0 W.heap.size) c W cx ⟨_,[]⟩ _ h (D0.mono _) (m6 (D0.stab _) (D0.push _) c) U ⟨zqd _,[],rfl,List.nodup_nil,by simp⟩ hs V) fun x a w O=>?_) rfl);obtain⟨cx',he,⟨h0,rs,I,N,hmk⟩,O⟩:=O;have C:∀r∈rs,W.heap.size<=r/\cx'.held r/\w.heap[r]?=zs (.deferred (zs [])):=(by grind)
 generalize ih (xc c) (Tr.enter fn.ntmps l) h=r at *;cases r with
 |bad=>grind
 |pan v h'=>
  obtain⟨vv,rfl,h7,h8⟩:=O;show LeavesInM (WF zn) 0 P fn a.tmps _ a.defers (.panicking _) w
  rw[I];refine Fb (J:=fun w=>Ext W cx w cx'/\Sat E w cx' h'/\Rep w cx' vv v) (fun e=>by cases e) (fun w r A D B G=>?_) (fun w A=>?_) rs w N C ⟨he,h7,h8⟩
  . have H:=Ext0.putHeld (o:=.deferred zn) A.2.1 B G wZ wZ
    exact⟨A.1.putHi D H,A.2.1.putHeld B H,A.2.2.mono0 H⟩
  . exact⟨cx',vv,rfl,A.1,A.2.1,A.2.2⟩
 |ok e fr h'=>
  obtain ⟨rfl,h7,h8⟩:=O;have X:Kn (E8 E fn.results.toList fr h') h'≠.bad->LeavesInM (WF zn) 0 P fn a.tmps ((Kn (E8 E fn.results.toList fr h') h').Post E W cx) a.defers .returning w:=by
   intro hb;obtain⟨vs,hr,aa⟩:=Wj hb;rw[I,aa];refine Fb (J:=fun w=>Ext W cx w cx'/\Sat E w cx' h'/\FrRep w cx' a.tmps fr) (fun e=>by cases e) (fun w r A D B G=>?_) (fun w A=>?_) rs w N C ⟨he,h7,h8⟩
   . have H:=Ext0.putHeld (o:=.deferred zn) A.2.1 B G wZ wZ
     exact⟨A.1.putHi D H,A.2.1.putHeld B H,A.2.2.mono0 H⟩
   . obtain⟨v,h9,ab⟩:=W8 (P:=P) hE A.2.1 (fun x _=>A.2.2.rep _) hr
     exact⟨v,h9,cx',A.1,A.2.1,ab⟩
  cases e with
  |exit i=>exact absurd rfl hb
  |_=>exact X hb
theorem oC(hE:EnvOk E P){f:Nat}(ht:E.told f=zt){args:Array Value}{l:List AV}{W:World}{cx:Cx}{h:Heap}(hl:RepL W cx args.toList l)(hs:Sat E W cx h)(hb:toldA l h≠.bad):
 (∃ fn c, P.funcs[f]? = zs fn ∧ fn.body = zs c ∧ (fn.name == "runtime.NumGoroutine") = zf) ∧ Calls P f args W ((toldA l h).Post E W cx) := by
 obtain⟨g,fn,c,hg,h1,h2,h3,h4⟩:=hE.told f ht;refine⟨⟨fn,c,h1,h2,h3⟩,?_⟩;obtain⟨⟨m,hm⟩,_,_⟩:=hs.gl.int g hg;cases l with
 |nil=>exact absurd rfl hb
 |cons x r=>
  cases r with
  |nil=>exact absurd rfl hb
  |cons y r=>
   have e:toldA (x::y::r) h=bif noneL r then x.onStr .bad (fun s=>y.onStr .bad fun p=>bif Nat.ble (r6 s) 4000000000||oneB p then(match contS p s with|true=>.ok (.bool zt) h|false=>.ok (.bool zf) h)else .bad)else .bad:=rfl;rw[e]at hb|-;cases hn:noneL r with
   |false=>grind
   |true=>
    rw[hn]at hb
    have:=Qw hn
    subst this;simp only[cond_true]at hb|-;cases x with
    |str s=>
     cases y with
     |str p=>
      have hb:(bif Nat.ble (r6 s) 4000000000||oneB p then(match contS p s with|true=>Res.ok (.bool zt) h|false=>.ok (.bool zf) h)else .bad)≠.bad:=hb;show Calls P f args W ((bif Nat.ble (r6 s) 4000000000||oneB p then(match contS p s with|true=>Res.ok (.bool zt) h|false=>.ok (.bool zf) h)else .bad).Post E W cx)
      cases hle:(Nat.ble (r6 s) 4000000000||oneB p)with
      |false=>grind
      |true=>
       have hle:s.length<=4000000000\/p.length=1:=by
        rcases Bool.or_eq_true_iff.1 hle with h1|h1
        . simp_all[x4]
        . cases p with
          |nil=>cases h1
          | cons a q=>cases q with
           |nil=>grind
           |cons b q=>cases h1
       obtain ⟨v1,hv1,hr1⟩:=hl.get (i:=0) rfl;obtain⟨v2,hv2,hr2⟩:=hl.get (i:=1) rfl;obtain⟨s',rfl,hs'⟩:=hr1.str_inv;obtain⟨p',rfl,hp'⟩:=hr2.str_inv;have hargs:args=#[.string s',.string p']:=by
        have hlen:args.size=2:=by have:=hl.1;grind
        grind
       subst hargs;have hsz:s'.size<4294967281\/p'.size=1:=by
        rcases hle with hle|hle
        . have:s'.size=s'.data.toList.length:=by simp
          grind
        . have:p'.size=p'.data.toList.length:=by simp
          grind
       refine(h4 s' p' m W hsz hm).mono fun en w' he=>?_
       obtain⟨rfl,rfl⟩:=he;simp only[cond_true];rw[hs',hp'];cases contS p s with
       |_=>exact⟨cx,Ext.refl _ _,hs,.bool _⟩
     |_=>exact absurd rfl hb
    |_=>exact absurd rfl hb
theorem Fc{o:Oper}{f:Nat->Option Bool}(h:o.guard=zn):Region.wanted o f=zt:=by unfold Region.wanted;rw[h]
theorem oD{o:Oper}{d:Tmp}(h:isRc o=zs d):∃C B,o.op=.call ⟨.builtin .recover,C,B⟩/\C.toList=[]/\o.guard=zn/\o.dst=zs d:=by
 obtain⟨dst,op,type,pos,after,guard⟩:=o;unfold isRc at h;cases op with
 |call c=>
  obtain⟨A,C,B⟩:=c;cases A with
  |builtin b=>
   cases b with
   |recover=>
    replace h:(bif isNone guard&&(match C.toList with|[]=>zt|_=>zf)then dst else zn)=zs d:=h
    cases hc:(isNone guard&&(match C.toList with|[]=>zt|_=>zf))with
    |false=>grind
    |true=>
     rw[hc]at h;rw[zqc]at hc;refine⟨C,B,rfl,?_,isNone_none hc.1,h⟩;grind
   |_=>cases h
  |_=>cases h
 |_=>cases h
theorem oE{o:Oper}{d d2:Tmp}(h:isAs d o=zs d2):o.op=.assign (.tmp d)/\o.guard=zn/\o.dst=zs d2:=by
 obtain⟨dst,op,type,pos,after,guard⟩:=o;unfold isAs at h;cases op with
 |assign x=>
  cases x with
  |tmp t=>
   replace h:(bif Nat.beq t d&&isNone guard then dst else zn)=zs d2:=h
   cases hc:(Nat.beq t d&&isNone guard)with
   |false=>grind
   |true=>
    rw[hc]at h;rw[zqc]at hc;obtain⟨A,B⟩:=hc
    have:=C4 A
    subst this;exact⟨rfl,isNone_none B,h⟩
  |_=>cases h
 |_=>cases h
theorem oF{o:Oper}{g:Operand}(h:isDf o=zs g):∃C B,o.op=.defer ⟨.value g,C,B⟩/\C.toList=[]/\o.guard=zn/\o.dst=zn:=by
 obtain⟨dst,op,type,pos,after,guard⟩:=o;unfold isDf at h;cases op with
 |defer c=>
  obtain⟨A,C,B⟩:=c;cases A with
  |value x=>
   replace h:(bif isNone guard&&isNone dst&&(match C.toList with|[]=>zt|_=>zf)then zs x else zn)=zs g:=h
   cases hc:(isNone guard&&isNone dst&&(match C.toList with|[]=>zt|_=>zf))with
   |false=>grind
   |true=>
    rw[hc]at h;cases h;rw[zqc,zqc]at hc;refine⟨C,B,rfl,?_,isNone_none hc.1.1,isNone_none hc.1.2⟩;grind
  |_=>cases h
 |_=>cases h
inductive Mode:FrameMode->FrameMode->Value->Prop
 |ret:Mode .returning .returning .nilIface
 |pan (v:Value):Mode (.panicking [{v:=v,recovered:=zf}]) (.panicking [{v:=v,recovered:=zt}]) v
theorem Mode.settle{u A:FrameMode}{v:Value}(h:Mode u A v):Go.settle A=.returning:=by
 cases h with
 |ret=>rfl
 |pan v=>simp[Go.settle]
theorem cM{ih:D9}{x p:AV}{h h':Heap}{v:AV}(A:Ep E ih x p h=.ok v h'):∃f caps B d d2 rest e fr',x=.fn (.func f) [] caps/\E.fn f=zs B/\caps.length<=B.ntmps/\B.results=[]/\B.mode=.rcv d d2 rest/\d<B.ntmps/\(e=.normal\/e=.ret)/\
 ih rest (((Tr.enter B.ntmps caps).set d p).set d2 p) h=.ok e fr' h':=by
 cases x with
 |fn f first caps=>
  cases f with
  |func n=>
   have A:(bif noneL first then Rg E ih n caps p h else .bad)=.ok v h':=A;cases hn:noneL first with
   |false=>grind
   |true=>
    rw[hn]at A
    have:=Qw hn
    subst this;have A:Rg E ih n caps p h=.ok v h':=A;unfold Rg at A;cases hf:E.fn n with
    |none=>grind
    |some B=>
     rw[hf]at A;dsimp only at A;cases hc:(Nat.ble (lenL caps) B.ntmps&&Ko B.results)with
     |false=>grind
     |true=>
      rw[hc]at A;rw[zqc]at hc;have h1:=B9 hc.1;rw[A3]at h1;cases G:B.mode with
      |rcv d d2 rest=>
       rw[G]at A;have A:(bif Nat.blt d B.ntmps then rcvEnd (ih rest (((Tr.enter B.ntmps caps).set d p).set d2 p) h)else .bad)=.ok v h':=A;cases C:Nat.blt d B.ntmps with
       |false=>grind
       |true =>
       rw[C]at A;simp only[cond_true]at A;cases H:ih rest (((Tr.enter B.ntmps caps).set d p).set d2 p) h with
       |ok e D h1'=>
        rw[H]at A;cases e with
        |exit i=>cases A
        |normal=>cases A;exact⟨n,caps,B,d,d2,rest,_,D,rfl,hf,h1,noRes_true hc.2,G,I5 C,.inl rfl,H⟩
        |ret=>cases A;exact⟨n,caps,B,d,d2,rest,_,D,rfl,hf,h1,noRes_true hc.2,G,I5 C,.inr rfl,H⟩
       |_=>rw[H]at A;cases A
      |_=>rw[G]at A;cases A
  |_=>cases A
 |_=>cases A
theorem rN(hE:EnvOk E P){ih:D9}(hc:f7 E P ih){f:Nat}{caps:List AV}{V:FI}{d d2:Tmp}{rest:XC}{e:Ex}{fr':Tr}{h h':Heap}{p:AV}{pv:Value}{u N:FrameMode}(hu:Mode u N pv)(ak:E.fn f=zs V)(al:caps.length<=V.ntmps)(ad:V.results=[])(hm:V.mode=.rcv d d2 rest)(hdl:d<V.ntmps)(he:e=.normal\/e=.ret)
 (hr:ih rest (((Tr.enter V.ntmps caps).set d p).set d2 p) h=.ok e fr' h'){ws:Array Value}{W:World}{cx:Cx}(hws:RepL W cx ws.toList caps)(hp:Rep W cx pv p)(hs:Sat E W cx h):
 CallsDIn (WF zn) 0 P f ws u W fun X u1 w=>u1=N/\∃v,X=.returned v/\∃cx',Ext W cx w cx'/\Sat E w cx' h':=by
 obtain ⟨fn,c,h1,h2,h3,h4,h5,h6,h7⟩:=hE.fn f V ak;rw[ad]at h6;rw[hm]at h7;have⟨hx1,am⟩:Ko fn.results.toList=zt/\Rj c=zs (.rcv d d2 rest):=by
  grind[fmOf_cases,Fa]
 obtain⟨id,o,o',B,d',d2',ops,aa,I,ho,ar,ab,au⟩:=Ez am;cases au;obtain⟨as,tys,r1,r2,r3,r4⟩:=oD ho;obtain⟨s1,s2,s3⟩:=oE ar;have ae:=Ha hws al;rw[h5]at ae hr;refine callsDIn_of_wpSIn h1 h2 trivial fun A cs D=>?_
 rw[aa];refine wpSIn_seq (wpSIn_region ?_);have hsz:ops.size=2:=by have:=congrArg List.length I;grind
 have an:ops[0]?=zs o:=by rw[<-zqb,I];rfl
 have ao:ops[1]?=zs o':=by rw[<-zqb,I];rfl
 rw[hsz];show wpOpsSIn (WF zn) 0 P ops _ [0,1] _ _ _
 have af:∀(a:Act) w,(execOp a.eval o).run P w=.ok .recover w:=fun a w=>by
  simp_all[execOp,resolve,invoke,builtin]
 have ag:∀(a:Act) w,(execOp a.eval o').run P w=.ok (.value (a.tmps.getD d undef)) w:=fun a w=>by
  have:a.eval (.tmp d)=a.tmps.getD d undef:=rfl
  simp[execOp,s1,this]
 have ap:∀(C:List Frame),C={A with mode:=N}::cs ->
  (B.wpSIn (WF zn) 0 P (bodyPostS P fn A cs fun X u1 w=>u1=N/\∃v,X=.returned v/\∃cx',Ext W cx w cx'/\Sat E w cx' h') (((⟨ws++zqa (fn.ntmps-ws.size) undef,[]⟩:Act).put (zs d) pv).put (zs d2) (((⟨ws++zqa (fn.ntmps-ws.size) undef,[]⟩:Act).put (zs d) pv).tmps.getD d undef)) C W):=by
  intro C H;subst H;have ah:FrRep W cx ((⟨ws++zqa (fn.ntmps-ws.size) undef,[]⟩:Act).put (zs d) pv).tmps ((Tr.enter fn.ntmps caps).set d p):=ae.put (a:=⟨_,[]⟩) (zs d) hp;have hd:Rep W cx (((⟨ws++zqa (fn.ntmps-ws.size) undef,[]⟩:Act).put (zs d) pv).tmps.getD d undef) (((Tr.enter fn.ntmps caps).set d p).get d):=ah.rep d;have aq:FrRep W cx (((⟨ws++zqa (fn.ntmps-ws.size) undef,[]⟩:Act).put (zs d) pv).put (zs d2) (((⟨ws++zqa (fn.ntmps-ws.size) undef,[]⟩:Act).put (zs d) pv).tmps.getD d undef)).tmps (((Tr.enter fn.ntmps caps).set d p).set d2 p):=by
   have hlt:d<(ws++zqa (fn.ntmps-ws.size) undef).size:=by
    grind
   have:((⟨ws++zqa (fn.ntmps-ws.size) undef,[]⟩:Act).put (zs d) pv).tmps.getD d undef=pv:=by
    show((ws++zqa (fn.ntmps-ws.size) undef).setIfInBounds d pv).getD d undef=pv
    simp_all
   rw[this];exact ah.put (zs d2) hp
  refine wpSIn_of_wpIn rfl (wpIn_mono (hc zn DE B W cx _ _ h DE.mono (W9 (fun d _=>DE.stab d) B ab) aq rfl hs (by grind)) fun x a w hq=>?_);rw[hr]at hq;obtain⟨cx',ai,aj,rfl,ac,_⟩:=hq;have G:∃v,(results fn a.tmps).run P w=.ok v w:=by
   obtain⟨v,hv,_⟩:=W8 (P:=P) (fr:=.nil) (tmps:=a.tmps) (fn:=fn) (vs:=[]) hE ac (by grind) (by rw[<-h6];rfl);grind
  obtain⟨v,hv⟩:=G;rcases he with rfl|rfl
  . exact⟨aj,N,rfl,v,hv,rfl,v,rfl,cx',ai,ac⟩
  . exact⟨aj,N,rfl,v,hv,rfl,v,rfl,cx',ai,ac⟩
 unfold wpOpsSIn;rw[an];refine⟨fun _ _=>trivial,?_⟩;rw[if_pos (Fc r3),af,r4];dsimp only;have O:∀(C:List Frame),C={A with mode:=N}::cs->wpOpsSIn (WF zn) 0 P ops (Exit.thenS (B.wpSIn (WF zn) 0 P (bodyPostS P fn A cs fun X u1 w=>u1=N/\∃v,X=.returned v/\∃cx',Ext W cx w cx'/\Sat E w cx' h')) (bodyPostS P fn A cs fun X u1 w=>u1=N/\∃v,X=.returned v/\∃cx',Ext W cx w cx'/\Sat E w cx' h')) [1] ((⟨ws++zqa (fn.ntmps-ws.size) undef,[]⟩:Act).put (zs d) pv) C W:=by
  intro C H;unfold wpOpsSIn;rw[ao];refine⟨fun _ _=>trivial,?_⟩;rw[if_pos (Fc s2),ag,s3];exact ap C H
 cases hu with
 |ret=>
  have U:recoverD (A::cs)=zn:=by simp[recoverD,D]
  rw[U];exact O _ (by rw[<-D])
 |pan v=>
  have U:recoverD (A::cs)=zs (pv,{A with mode:=.panicking [{v:=pv,recovered:=zt}]}::cs):=by simp[recoverD,D]
  grind
end
end Go.AM
/-
 The abstract machine: maps.DeleteFunc,told of: its predicate is called at each entry,in whatever order.
-/
namespace Go.AM
section
variable {P:Program}{E:Env}
theorem rO(hE:EnvOk E P){ih:D9}(hc:f7 E P ih)(hpr:∀(c:XC)(fr:Tr)(h h':Heap),CRes.heap (ih c fr h)=zs h'->Pres h h'){f:Nat}{ks:List Nat}(hd:E.dlf f=zs ks){args:Array Value}{l:List AV}{W:World}{cx:Cx}{h:Heap}
 (hl:RepL W cx args.toList l)(hs:Sat E W cx h)(hb:iK E ih ks l h≠.bad):Kt P f/\Calls P f args W ((iK E ih ks l h).Post E W cx):=absurd rfl hb
end
end Go.AM
/-
 The abstract machine: slices.Sorted at a map's keys,told of.
-/
namespace Go.AM
section
variable {P:Program}{E:Env}
theorem rP(hE:EnvOk E P){f:Nat}{args:Array Value}{l:List AV}{W:World}{cx:Cx}{h:Heap}{r:Res}
 (hl:RepL W cx args.toList l)(hs:Sat E W cx h)(hr:srtA E f l h=zs r)(hb:r≠.bad):Kt P f/\Calls P f args W (r.Post E W cx):=by cases hr
end
end Go.AM
/-
 The abstract machine: maps.DeleteFunc: its loop,step by step,over whatever is kept.
-/
namespace Go.AM
open Go.Maps (Keyed)
section
variable {P:Program}{W:World}{b clock:Nat}{ents:Array MapEntry}{J:World->Prop}{K K':MapEntry->Prop}{seen:Array Nat}{n:Nat}{wr:World}{pd:MapEntry->Bool}
variable {ops:Array Oper}{rest:List Oper}{o:Oper}{a:Act}{Q:Exit->Act->World->Prop}
end
end Go.AM
/-
 The abstract machine: a range over a map in the code: whichever entry comes next,it comes to the same.
-/
namespace Go.AM
section
variable {P:Program}{E:Env}{ih:D9}
end
end Go.AM
/-
 The abstract machine: a range over a map in the code: what stands there,and that it is sound.
-/
namespace Go.AM
section
variable {P:Program}{E:Env}{ih:D9}
theorem CT{a b:Code}(h:rngC a b=zn):xc (.seq a b)=.seq (xc a) (xc b):=by
 show(match rngC a b with|some R=>XC.rngm R (xc b)|none=>.seq (xc a) (xc b))=_
 rw[h]
theorem CU{a b:Code}{R:RngD}(h:rngC a b=zs R):xc (.seq a b)=.rngm R (xc b):=by
 show(match rngC a b with|some R=>XC.rngm R (xc b)|none=>.seq (xc a) (xc b))=_
 rw[h]
end
end Go.AM
/-
 The abstract machine: a range over a map in the code is sound.
-/
namespace Go.AM
section
variable {P:Program}{E:Env}{ih:D9}{ops:Array Oper}{rest:List Oper}{o:Oper}{a:Act}{w:World}{Q:Exit->Act->World->Prop}
theorem oH(hE:EnvOk E P)(hc:f7 E P ih)(hpr:∀(c:XC)(fr:Tr)(h h':Heap),CRes.heap (ih c fr h)=zs h'->Pres h h'){ro:Option Nat}{D:DP}(hD:Ew D){ca A:Code}{R:RngD}(hR:rngC ca A=zs R)
 (hst:nW ro D (.seq ca A)){W:World}{cx:Cx}{a:Act}{fr:Tr}{h:Heap}(hf:FrRep W cx a.tmps fr)(hd:D W cx a)(hs:Sat E W cx h)(hb:Wp E ih R (xc A) fr h≠.bad):
 (Code.seq ca A).wpIn (WF ro) 0 P (Y7 E W cx D (Wp E ih R (xc A) fr h)) a W:=absurd rfl hb
end
end Go.AM
/-
 The abstract machine: calls and code.
-/
namespace Go.AM
theorem y9{F:Fence}{n:Nat}{P:Program}{ops:Array Oper}{Q:Exit->Act->World->Prop}{rest:List Oper}:∀(l:List Oper)(a:Act)(w:World),
 wpListIn F n P ops (Exit.then (wpListIn F n P ops Q rest) (fun e a w=>(∃c,e=.panic c)/\Q e a w)) l a w->wpListIn F n P ops Q (l++rest) a w
 |[],a,w,h=>h
 |o :: l,a,w,h=>by
  unfold wpListIn at h;show wpListIn F n P ops Q (o::(l++rest)) a w
  unfold wpListIn;split
  . rename_i A
    rw[if_pos A]at h;exact Wg (fun a w h=>y9 l a w h) (fun c a w B=>B.2) (fun a w B=>by obtain⟨⟨c,e⟩,_⟩:=B;cases e) h
  . rename_i A
    rw[if_neg A]at h;exact⟨h.1,y9 l _ w h.2⟩
section
variable {P:Program}{E:Env}
theorem Oe:∀(c:Code)(x:DfC),parseD c=zs x->c=x.code
 |.seq a b,x,h=>by
  have go:∀(a:Code),(parseD b).map (fun x=>(⟨a::x.pre,x.id,x.ops,x.rest⟩:DfC))=zs x->Code.seq a b=x.code:=fun a h=>by
   cases hb:parseD b with
   |none=>grind
   |some y=>
    rw[hb]at h;cases h;show Code.seq a b=.seq a (y.code)
    rw[<-Oe b y hb]
  cases a with
  |region id ops draw=>
   cases draw with
   |true=>exact go _ h
   |false=>
    have h:(bif iL ops.toList then zs ⟨[],id,ops,b⟩else(parseD b).map fun x=>⟨.region id ops zf::x.pre,x.id,x.ops,x.rest⟩)=zs x:=h;cases hh:iL ops.toList with
    |true=>rw[hh]at h;cases h;rfl
    |false=>grind
  |_=>exact go _ h
 | .skip,_,h | .region ..,_,h | .cond ..,_,h | .block ..,_,h | .loop ..,_,h | .scope ..,_,h | .rangeFunc ..,_,h | .label ..,_,h | .goto ..,_,h | .exit ..,_,h | .ret,_,h | .refuse ..,_,h=>by cases h
theorem Is{rs:List ResultVar}{fr:Tr}{r:Res}(hb:k8 E rs fr r≠.bad):∃v h vs,r=.ok v h/\E8 E rs fr h=zs vs/\k8 E rs fr r=.ok (oneOrTup vs) h:=by
 cases r with
 |ok v h=>obtain⟨vs,h1,h2⟩:=Wj hb;exact⟨v,h,vs,rfl,h1,h2⟩
 |_=>exact absurd rfl hb
theorem dfrEnd_inv{ih:D9}{x:AV}{rs:List ResultVar}{fr:Tr}{r:CRes}(hb:I0 E ih x rs fr r≠.bad):
 (∃e B h2 v A vs,r=.ok e B h2/\(e=.normal\/e=.ret)/\Ep E ih x .niliface h2=.ok v A/\E8 E rs B A=zs vs/\I0 E ih x rs fr r=.ok (oneOrTup vs) A)\/
 (∃p h2 v A vs,r=.pan p h2/\Ep E ih x p h2=.ok v A/\E8 E rs fr A=zs vs/\I0 E ih x rs fr r=.ok (oneOrTup vs) A):=by
 cases r with
 |bad=>exact absurd rfl hb
 |pan p h2=>obtain⟨v,A,vs,C,a2,a3⟩:=Is hb;exact .inr ⟨p,h2,v,A,vs,rfl,C,a2,a3⟩
 |ok e B h2=>
  cases e with
  |exit i=>exact absurd rfl hb
  |normal=>obtain⟨v,A,vs,C,a2,a3⟩:=Is hb;exact .inl ⟨_,B,h2,v,A,vs,rfl,.inl rfl,C,a2,a3⟩
  |ret=>obtain⟨v,A,vs,C,a2,a3⟩:=Is hb;exact .inl ⟨_,B,h2,v,A,vs,rfl,.inr rfl,C,a2,a3⟩
theorem Wl(hE:EnvOk E P){ih:D9}(hc:f7 E P ih){x p:AV}{pv:Value}{u u':FrameMode}(G:Mode u u' pv){h2 X:Heap}{v:AV}(hr:Ep E ih x p h2=.ok v X){B:Nat}{ws:Array Value}{w:World}{cx:Cx}(hx:Rep w cx (.func (.func B) #[] ws) x)(hp:Rep w cx pv p)(hs:Sat E w cx h2)
 {fn:Func}{tmps:Array Value}{R:Ending->World->Prop}(hR:∀w' cx',Ext w cx w' cx'->Sat E w' cx' X->∃v,(results fn tmps).run P w'=.ok v w'/\R (.returned v) w'):
 LeavesInM (WF zn) 0 P fn tmps R [{target:=.fn (.func B) ws,args:=#[]}] u w:=by
 obtain⟨f,caps,fi,d,d2,rest,e,fr',rfl,C,I,D,hm,N,he,A⟩:=cM hr;obtain⟨ws',e1,O⟩:=iA hx;cases e1;obtain⟨fn1,c1,h1,h2',h3',_⟩:=hE.fn B fi C;have H:u≠.run:=by cases G<;>exact fun e=>by cases e
 refine⟨H,.inr ⟨(fun e=>by simp[WF,Fence.wide]at e),.func B,ws,B,ws,rfl,?_,fun _ _=>trivial,?_⟩⟩
 . grind[invoke,Kb]
 . refine(rN hE hc G C I D hm N he A O hp hs).mono fun en u1 w' hq=>?_
   obtain⟨rfl,v',rfl,cx',U,V⟩:=hq;show LeavesInM (WF zn) 0 P fn tmps R [] (settle u1) w'
   rw[G.settle];exact hR w' cx' U V
def DX(d:Deferred)(ts:List Tmp)(A:Tmp->Value):DP:=fun _ _ a=>a.defers=[d]/\∀t∈ts,a.tmps.getD t undef=A t
theorem DX.mono{d:Deferred}{ts:List Tmp}{A:Tmp->Value}:Ew (DX d ts A):=fun _ _ _ _ _ _ h=>h
theorem DX.stab{d:Deferred}{ts:List Tmp}{A:Tmp->Value}{t:Option Tmp}(C:∀s,t=zs s->s∉ts):Qv (DX d ts A) t:=fun _ _ a v h =>
 ⟨by rw[Ab];exact h.1,fun s B=>(Ey fun D e G=>C D e (G▸B)).trans (h.2 s B)⟩
theorem dfr_last(hE:EnvOk E P){ih:D9}(hc:f7 E P ih)(hl:o9 E P ih){fn:Func}{x:DfC}{o:Oper}{r:List Oper}{g:Operand}(ad:x.ops.toList=r.reverse++[o])(ho:isDf o=zs g)(hcalm:lH [] r.reverse=zt)(N:X2 (fn.results.toList.map Dr) x.rest=zt)
 {W0:World}{cx0:Cx}{a:Act}{W:World}{cx:Cx}{fr:Tr}{h:Heap}(he:Ext W0 cx0 W cx)(hf:FrRep W cx a.tmps fr)(hd:a.defers=[])(hs:Sat E W cx h)
 (hb:r9 E ih g (xc x.rest) fn.results.toList [xregP x.ops.toList r.reverse] fr h≠.bad):
 (Code.seq (.region x.id x.ops zf) x.rest).wpIn (WF zn) 0 P (bodyPostM (WF zn) 0 P fn ((r9 E ih g (xc x.rest) fn.results.toList [xregP x.ops.toList r.reverse] fr h).Post E W0 cx0)) a W:=by
 have e:r9 E ih g (xc x.rest) fn.results.toList [xregP x.ops.toList r.reverse] fr h=Bc (fun fr h=>I0 E ih (opv E g fr) fn.results.toList fr (ih (xc x.rest) fr h)) (ih (xregP x.ops.toList r.reverse) fr h):=rfl;rw[e]at hb|-;clear e;refine wpIn_seq (wpIn_region_list ?_);refine Eq.mpr (congrArg (fun L=>wpListIn (WF zn) 0 P x.ops _ L a W) ad) ?_;have aj:ih (xregP x.ops.toList r.reverse) fr h≠.bad:=fun e=>by rw[e]at hb;exact hb rfl
 obtain ⟨hn,hw⟩:=hl (fun a=>a.defers=[]) x.ops r.reverse (Exit.then (wpListIn (WF zn) 0 P x.ops (Exit.then (x.rest.wpIn (WF zn) 0 P (bodyPostM (WF zn) 0 P fn ((Bc (fun fr h=>I0 E ih (opv E g fr) fn.results.toList fr (ih (xc x.rest) fr h)) (ih (xregP x.ops.toList r.reverse) fr h)).Post E W0 cx0))) (bodyPostM (WF zn) 0 P fn ((Bc (fun fr h=>I0 E ih (opv E g fr) fn.results.toList fr (ih (xc x.rest) fr h)) (ih (xregP x.ops.toList r.reverse) fr h)).Post E W0 cx0))) [o])
  (fun e a w=>(∃c,e=.panic c)/\(Exit.then (x.rest.wpIn (WF zn) 0 P (bodyPostM (WF zn) 0 P fn ((Bc (fun fr h=>I0 E ih (opv E g fr) fn.results.toList fr (ih (xc x.rest) fr h)) (ih (xregP x.ops.toList r.reverse) fr h)).Post E W0 cx0))) (bodyPostM (WF zn) 0 P fn ((Bc (fun fr h=>I0 E ih (opv E g fr) fn.results.toList fr (ih (xc x.rest) fr h)) (ih (xregP x.ops.toList r.reverse) fr h)).Post E W0 cx0))) e a w)) W cx a fr h
  (fun o _=>DE.stab o.dst W cx) hf hd hs aj
 refine y9 r.reverse a W (Ke ?_ r.reverse hn a W (hw fun x1 I w1 C=>?_))
 . rintro⟨a,w,⟨c,e⟩,_⟩;cases e
 obtain⟨af,ag,G,C⟩:=C
 replace G:=he.trans G
 generalize hq:ih (xregP x.ops.toList r.reverse) fr h=q at *;cases q with
 |bad=>grind
 |pan v h'=>
  obtain⟨vv,rfl,h7,h8⟩:=C;refine⟨⟨_,rfl⟩,?_⟩;show LeavesInM (WF zn) 0 P fn I.tmps _ I.defers (.panicking _) w1
  rw[af];exact⟨ag,vv,rfl,G,h7,h8⟩
 |ok e A h1=>
  obtain⟨rfl,ah,O⟩:=C;cases e with
  |normal=>
   have hb:I0 E ih (opv E g A) fn.results.toList A (ih (xc x.rest) A h1)≠.bad:=hb;show wpListIn (WF zn) 0 P x.ops (Exit.then (x.rest.wpIn (WF zn) 0 P (bodyPostM (WF zn) 0 P fn ((I0 E ih (opv E g A) fn.results.toList A (ih (xc x.rest) A h1)).Post E W0 cx0))) (bodyPostM (WF zn) 0 P fn ((I0 E ih (opv E g A) fn.results.toList A (ih (xc x.rest) A h1)).Post E W0 cx0))) [o] I w1
   obtain ⟨as,tys,o1,o2,o3,o4⟩:=oF ho;have hg:=X5 (E:=E) ah O g;have⟨f0,ws,ak⟩:∃f0 ws,I.eval g=.func (.func f0) #[] ws:=by
    grind[dfrEnd_inv,cM,iA]
   rw [ak]at hg;unfold wpListIn;rw[if_pos (Fc o3)];refine⟨fun _ _=>trivial,?_⟩;have hm:((o.semAt (WF zn).round I.eval).run P w1)=.ok (.defer {target:=.fn (.func f0) ws,args:=#[]}) w1:=by
    have:as=#[]:=by grind
    rw[show(WF zn).round=zn from rfl,Oper.semAt_none];simp_all[execOp,resolve,Deferred.ofValue]
   rw[hm,Oper.uponIn_defer,o4,af];show x.rest.wpIn (WF zn) 0 P _ {I with defers:=[_]} w1
   have al:ih (xc x.rest) A h1≠.bad:=fun e=>by rw[e]at hb;exact hb rfl
   refine wpIn_mono (hc zn (DX {target:=.fn (.func f0) ws,args:=#[]} (fn.results.toList.map Dr) fun t=>I.tmps.getD t undef) x.rest w1 ag {I with defers:=[{target:=.fn (.func f0) ws,args:=#[]}]} A h1 DX.mono (W9 (fun d hd=>DX.stab hd) _ N) O ⟨rfl,fun _ _=>rfl⟩ ah al) fun x2 a2 w2 C=>?_
   obtain⟨cx2,H,⟨ai,am⟩,C⟩:=C;rcases dfrEnd_inv hb with⟨e,fr2,h2,v,h3,vs,X,ao,aa,ab,ac⟩|⟨p,h2,v,h3,vs,X,aa,ab,ac⟩
   . rw [ac]
     rw [X]at C;obtain⟨rfl,U,an⟩:=C;have ae:LeavesInM (WF zn) 0 P fn a2.tmps ((Res.ok (oneOrTup vs) h3).Post E W0 cx0) a2.defers .returning w2:=by
      rw[ai];refine Wl hE hc .ret aa (hg.mono H) .niliface U fun w' cx' B D=>?_
      obtain⟨v,h9,V⟩:=W8 (P:=P) hE D (fun y _=>(an.mono B).rep _) ab;exact⟨v,h9,cx',(G.trans H).trans B,D,V⟩
     rcases ao with rfl|rfl
     . exact ae
     . exact ae
   . rw [ac]
     rw[X]at C;obtain⟨vv,rfl,U,hv⟩:=C;show LeavesInM (WF zn) 0 P fn a2.tmps _ a2.defers (.panicking _) w2
     rw[ai];refine Wl hE hc (.pan vv) aa (hg.mono H) hv U fun w' cx' B D=>?_
     obtain ⟨v,h9,V⟩:=W8 (P:=P) hE D (fun y hy=>by
      rw[am _ (List.mem_map.2 ⟨y,hy,rfl⟩)];exact((O.mono H).mono B).rep _) ab
     exact⟨v,h9,cx',(G.trans H).trans B,D,V⟩
  |_=>exact absurd rfl hb
theorem lB(hE:EnvOk E P){ih:D9}(hc:f7 E P ih)(hl:o9 E P ih){fn:Func}{x:DfC}{o:Oper}{r:List Oper}{g:Operand}(D:x.ops.toList=r.reverse++[o])(ho:isDf o=zs g)(B:lH [] r.reverse=zt)(C:X2 (fn.results.toList.map Dr) x.rest=zt)
 {W0:World}{cx0:Cx}:∀(L:List Code)(a:Act)(W:World)(cx:Cx)(fr:Tr)(h:Heap),L.all (X2 [])=zt->Ext W0 cx0 W cx->FrRep W cx a.tmps fr->a.defers=[]->Sat E W cx h ->
 r9 E ih g (xc x.rest) fn.results.toList (L.map xc++[xregP x.ops.toList r.reverse]) fr h≠.bad ->
 (L.foldr Code.seq (.seq (.region x.id x.ops zf) x.rest)).wpIn (WF zn) 0 P (bodyPostM (WF zn) 0 P fn ((r9 E ih g (xc x.rest) fn.results.toList (L.map xc++[xregP x.ops.toList r.reverse]) fr h).Post E W0 cx0)) a W
 |[],a,W,cx,fr,h,_,he,hf,hd,hs,hb=>(by grind[Go.AM.dfr_last])
 |c::L,a,W,cx,fr,h,hL,he,hf,hd,hs,hb=>by
  have e:r9 E ih g (xc x.rest) fn.results.toList ((c::L).map xc++[xregP x.ops.toList r.reverse]) fr h=Bc (r9 E ih g (xc x.rest) fn.results.toList (L.map xc++[xregP x.ops.toList r.reverse])) (ih (xc c) fr h):=rfl;rw[e]at hb|-;rw[List.all_cons,zqc]at hL;have O:ih (xc c) fr h≠.bad:=fun e=>by rw[e]at hb;exact hb rfl
  refine wpIn_seq (wpIn_mono (hc zn DE c W cx a fr h DE.mono (W9 (fun d _=>DE.stab d) c hL.1) hf hd hs O) fun x1 I w1 N=>?_);obtain⟨G,A,H,N⟩:=N
  replace A:=he.trans A
  clear e;generalize ih (xc c) fr h=q at *;cases q with
  |bad=>grind
  |pan v h'=>
   obtain⟨vv,rfl,h7,h8⟩:=N;show LeavesInM (WF zn) 0 P fn I.tmps _ I.defers (.panicking _) w1
   rw[show I.defers=[]from H];exact⟨G,vv,rfl,A,h7,h8⟩
  |ok e X h1=>
   obtain⟨rfl,U,V⟩:=N;cases e with
   |normal=>exact lB hE hc hl D ho B C L I w1 G X h1 hL.2 A V H U hb
   |_=>exact absurd rfl hb
theorem cN(hE:EnvOk E P){ih:D9}(hc:f7 E P ih)(hl:o9 E P ih)(O:∀(c:XC)(fr:Tr)(h h':Heap),CRes.heap (ih c fr h)=zs h'->Pres h h'):Fu E P (P0 E ih):=by
 intro f args l W cx h U V hb;unfold P0 at hb|-;cases ht:E.told f with
 |true=>grind[oC]
 |false=>
  rw[ht]at hb;simp only[cond_false]at hb|-;cases G:E.dlf f with
  |some ks=>rw[G]at hb;exact rO hE hc O G U V hb
  |none=>
   rw[G]at hb;dsimp only at hb|-;cases H:srtA E f l h with
   |some r=>rw[H]at hb;exact rP hE U V H hb
   |none=>
    rw[H]at hb;dsimp only at hb|-;cases N:E.fn f with
    |none=>grind
    |some fi=>
     rw[N]at hb;obtain⟨fn,c,h1,h2,h3,h4,h5,h6,h7⟩:=hE.fn f fi N;refine⟨⟨fn,c,h1,h2,h3⟩,?_⟩;dsimp only at hb|-;cases hn:Nat.ble (lenL l) fi.ntmps with
     |false=>grind
     |true=>
      rw[hn]at hb;simp only[cond_true]at hb|-;have hn:=B9 hn;rw[A3]at hn;unfold Oj at hb|-;cases hm:fi.mode with
      |rcv d d2 rest=>grind
      |plain=>
       grind[Qx]
      |itf ic=>
       grind[Qx]
      |dfr pre g rest=>
       rw [hm]at hb h7;dsimp only at hb|-;have⟨x,X,aa⟩:∃x,parseD c=zs x/\Ri fn.results.toList x=zs (.dfr pre g rest):=by
        rcases fmOf_cases h7.symm with⟨_,h⟩|h|⟨x,_,_,h⟩|h
        . grind[Ez]
        . exact h
        . cases h
        . cases h
       obtain ⟨o,r,g',hops,ho,C,I,D,ac⟩:=Fa aa;cases ac;have A:=Oe c x X;have B:x.ops.toList=r.reverse++[o]:=by
        simp_all
       rw[h5,h6]at hb|-;rw[h5]at hn;have ab:=Ha U hn;refine Kd.1 (callsIn_of_wp_marks (F:=WF zn) (n:=0) h1 h2 trivial ?_ rfl);rw[A];exact lB hE hc hl B ho C D x.pre ⟨_,[]⟩ W cx _ h I (Ext.refl _ _) ab rfl V hb
theorem Sat.sub{P:Program}{E:Env}{W:World}{cx:Cx}{h h':Heap}(A:Sat E W cx h)(hn:h'.next=h.next)(hg:∀id o,h'.get id=zs o->h.get id=zs o):Sat E W cx h' where
 nx:=hn.trans A.nx
 objs id o ho:=A.objs id o (hg id o ho)
 inj id id' o o' ho ho':=A.inj id id' o o' (hg id o ho) (hg id' o' ho')
 gl:=A.gl
 held:=A.held
 free id o ho:=A.free id o (hg id o ho)
theorem lC(hE:EnvOk E P){ih:D9}(hc:f7 E P ih)(hl:o9 E P ih)(A:∀(c:XC)(fr:Tr)(h h':Heap),CRes.heap (ih c fr h)=zs h'->Pres h h'):Fu E P (F9 E ih):=by
 intro f args l W cx h D G hb;unfold F9 at hb|-;cases hg:E.gc f with
 |false=>rw[hg]at hb;exact cN hE hc hl A f args l W cx h D G hb
 |true=>
  rw[hg]at hb;have hb:PU h (P0 E ih f l {h with tch:=[]})≠.bad:=hb;show _/\Calls P f args W ((PU h (P0 E ih f l {h with tch:=[]})).Post E W cx)
  have h0:=cN hE hc hl A f args l W cx {h with tch:=[]} D (G.sub (P:=P) rfl fun _ _ ho=>ho) (fun e=>hb (by rw[e];rfl));refine⟨h0.1,h0.2.mono fun e w B=>?_⟩;cases H:P0 E ih f l {h with tch:=[]}with
  |ok v h1=>
   rw[H]at B;cases e with
   |returned vv=>
    obtain⟨cx',C,h2,I⟩:=B;refine⟨cx',C,h2.sub (P:=P) rfl fun id o ho=>?_,I⟩;have ho:(h.os.trunc h1.os).get id=zs o:=ho;show h1.os.get id=zs o
    grind[HT.get_trunc]
   |_=>exact B.elim
  |_=>rw[H]at hb;exact absurd rfl hb
theorem cO{b:Tr->Heap->CRes}{r:CRes}(h:Er b r≠.bad):r≠.bad:=fun e=>by rw[e]at h;exact h rfl
theorem cP{W:World}{cx:Cx}{D:DP}{r:CRes}{b:Tr->Heap->CRes}{K:Act->World->Prop}(hb:Er b r≠.bad)
 (hK:∀fr' h' cx' A w',r=.ok .normal fr' h'->Ext W cx w' cx'->Sat E w' cx' h'->FrRep w' cx' A.tmps fr'->D w' cx' A->K A w'):∀x A w',Y7 E W cx D r x A w'->Exit.then K (Y7 E W cx D (Er b r)) x A w':=by
 intro x A w' B;obtain⟨cx',C,G,B⟩:=B;cases r with
 |bad=>exact B.elim
 |pan v h'=>
  obtain⟨H,rfl,h1,h2⟩:=B;exact⟨cx',C,G,H,rfl,h1,h2⟩
 |ok e fr h'=>
  obtain⟨rfl,h1,h2⟩:=B;cases e with
  |normal=>exact hK fr h' cx' A w' rfl C h1 h2 G
  |_=>exact⟨cx',C,G,rfl,h1,h2⟩
theorem Yq{W:World}{cx:Cx}{D:DP}{r:CRes}{l:Nat}{a:Act}{w:World}(A:Y7 E W cx D r (.goto l) a w):False:=by
 obtain⟨cx',_,_,A⟩:=A;cases r with
 |bad=>exact A.elim
 |pan v h'=>obtain⟨vv,e,_⟩:=A;cases e
 |ok e fr' h'=>obtain⟨e2,_⟩:=A;cases e<;>cases e2
theorem Qy(hE:EnvOk E P):∀n,f7 E P (ev E n)/\
 (∀(ro:Option Nat)(D:DP)(c:Code)(W:World)(cx:Cx)(a:Act)(fr:Tr)(h:Heap),Ew D->nW ro D c->FrRep W cx a.tmps fr->D W cx a->Sat E W cx h->ev E n (.loop (xc c)) fr h≠.bad->Code.roundsIn (WF ro) 0 P c (Y7 E W cx D (ev E n (.loop (xc c)) fr h)) n a W)/\
 o9 E P (ev E n)
 |0=>⟨fun ro D c W cx a fr h _ _ _ _ _ hb=>absurd rfl hb,fun ro D c W cx a fr h _ _ _ _ _ hb=>absurd rfl hb,fun S ops l Q W cx a fr h _ _ _ _ hb=>absurd rfl hb⟩
 |n + 1=>by
  obtain ⟨B,ab,X⟩:=Qy hE n;have N:=lC hE B X (Bv E n);have round:∀(ro:Option Nat)(D:DP)(c:Code)(W:World)(cx:Cx)(a:Act)(fr:Tr)(h:Heap),Ew D->nW ro D c->FrRep W cx a.tmps fr->D W cx a->Sat E W cx h->ev E (n+1) (.loop (xc c)) fr h≠.bad->Code.roundsIn (WF ro) 0 P c (Y7 E W cx D (ev E (n+1) (.loop (xc c)) fr h)) (n+1) a W:=by
   intro ro D c W cx a fr h hD A hf H G hb;have e:ev E (n+1) (.loop (xc c)) fr h=Er (ev E n (.loop (xc c))) (ev E n (xc c) fr h):=rfl;rw[e]at hb|-;rw[roundsIn_succ];refine wpIn_mono (B ro D c W cx a fr h hD A hf H G (cO hb)) (cP hb fun fr' h' cx' U w' e1 h1 h2 h3 h4=>?_);rw[e1]at hb|-;have hb:ev E n (.loop (xc c)) fr' h'≠.bad:=hb
   have:=ab ro D c w' cx' U fr' h' hD A h3 h4 h2 hb
   have mono:∀m a w Q Q',(∀x a w,Q x a w->Q' x a w)->Code.roundsIn (WF ro) 0 P c Q m a w->Code.roundsIn (WF ro) 0 P c Q' m a w:=by
    intro m
    induction m with
    |zero=>intro a w Q Q' _ h;exact h
    |succ m ih=>
     intro a w Q Q' hq h;exact wpIn_mono h fun x a w hx=>by cases x<;>first|exact ih _ _ _ _ hq hx|exact hq _ _ _ hx
   exact mono n U w' _ _ (fun x a w I=>Y7.trans h1 I) this
  refine⟨fun ro D c W cx a fr h hD A hf H G hb=>?_,round,fun S ops l Q W cx a fr h A hf hS G hb=>?_⟩
  . cases c with
    |skip=>exact wpIn_skip ⟨cx,Ext.refl _ _,H,rfl,G,hf⟩
    |ret=>exact wpIn_ret ⟨cx,Ext.refl _ _,H,rfl,G,hf⟩
    |exit id=>exact wpIn_exit ⟨cx,Ext.refl _ _,H,rfl,G,hf⟩
    |label l=>exact wpIn_label ⟨cx,Ext.refl _ _,H,rfl,G,hf⟩
    |scope x=>
     have e:ev E (n+1) (xc (.scope x)) fr h=ev E n (xc x) fr h:=rfl;rw[e]at hb|-;refine iB (wpIn_mono (B ro D x W cx a fr h hD A hf H G hb) fun x' U w' I=>?_);cases x' with
     |goto l=>grind[Yq]
     |_=>exact I
    |region id ops draw=>
     cases draw with
     |false=>
      have e:ev E (n+1) (xc (.region id ops zf)) fr h=step E (ev E n) (bif Ia ops.toList then .reg zf (ops.toList.map (cD ops.toList zf [] zf))else .bad) fr h:=rfl;rw[e]at hb|-;cases C:Ia ops.toList with
      |false=>rw[C]at hb;exact absurd rfl hb
      |true=>
       rw[C]at hb;have hb:H1 E (F9 E (ev E n)) (ops.toList.map (cD ops.toList zf [] zf)) fr h≠.bad:=hb;show(Code.region id ops zf).wpIn (WF ro) 0 P (Y7 E W cx D (H1 E (F9 E (ev E n)) (ops.toList.map (cD ops.toList zf [] zf)) fr h)) a W
       exact wpIn_mono (oL (ro:=ro) (Q:=(H1 E (F9 E (ev E n)) (ops.toList.map (cD ops.toList zf [] zf)) fr h).Post E W cx (fun a=>D W cx a)) rR (noDfr_iff _ C) (Bg hE N ops.toList W cx a fr h (fun o ho=>by obtain⟨i,hi⟩:=List.getElem?_of_mem ho;exact A i o (by grind) W cx) hf H G hb fun x U w' I=>I)) fun x a w I=>Y7.of_post hD I
     |true=>
      have e:ev E (n+1) (xc (.region id ops zt)) fr h=step E (ev E n) (bif Ia ops.toList then(bif Na ops.toList (Fm ops.toList) (Qd ops.toList (Fm ops.toList))then .reg zt (Av ops.toList (Fm ops.toList) [] (Qd ops.toList (Fm ops.toList)))else .bad)else .bad) fr h:=rfl;rw[e]at hb|-;cases C:Ia ops.toList with
      |false=>rw[C]at hb;exact absurd rfl hb
      |true=>
       rw[C]at hb;cases V:Na ops.toList (Fm ops.toList) (Qd ops.toList (Fm ops.toList))with
       |false=>rw[V]at hb;exact absurd rfl hb
       |true=>
        rw[V]at hb;exact wpIn_mono (iC hE G hf (S:=fun a=>D W cx a) H N (xA E n) (fun i o ho=>A i o ho W cx) (ro:=ro) (by grind[Go.AM.noDfr_iff]) V hb) fun x a w I=>Y7.of_post hD I
    |seq x y=>
     cases hR:rngC x y with
     |some R=>
      have e:ev E (n+1) (xc (.seq x y)) fr h=Wp E (ev E n) R (xc y) fr h:=by rw[CU hR];rfl
      rw[e]at hb|-;exact oH hE B (Bv E n) hD hR A hf H G hb
     |none=>
      have e:ev E (n+1) (xc (.seq x y)) fr h=Er (ev E n (xc y)) (ev E n (xc x) fr h):=by rw[CT hR];rfl
      rw[e]at hb|-;refine wpIn_seq (wpIn_mono (B ro D x W cx a fr h hD A.1 hf H G (cO hb)) (cP hb fun fr' h' cx' U w' e1 h1 h2 h3 h4=>?_));rw[e1]at hb|-;have hb:ev E n (xc y) fr' h'≠.bad:=hb;exact wpIn_mono (B ro D y w' cx' U fr' h' hD A.2 h3 h4 h2 hb) fun x a w I=>Y7.trans h1 I
    |cond c x y=>
     have e:ev E (n+1) (xc (.cond c x y)) fr h=Ok (ev E n (xc x)) (ev E n (xc y)) (opv E c fr) fr h:=rfl;rw[e]at hb|-;have hc:=X5 (E:=E) G hf c;cases hv:opv E c fr with
     |bool b=>
      rw[hv]at hb hc;refine wpIn_cond hc.bool_inv ?_;cases b with
      |true=>exact B ro D x W cx a fr h hD A.1 hf H G hb
      |false=>exact B ro D y W cx a fr h hD A.2 hf H G hb
     |_=>rw[hv]at hb;exact absurd rfl hb
    |block id x=>
     have e:ev E (n+1) (xc (.block id x)) fr h=Fl id (ev E n (xc x) fr h):=rfl;rw[e]at hb|-;have aa:ev E n (xc x) fr h≠.bad:=fun e=>by rw[e]at hb;exact hb rfl
     refine wpIn_block (wpIn_mono (B ro D x W cx a fr h hD A hf H G aa) fun x' U w' I=>?_);clear e;generalize ev E n (xc x) fr h=r at *;obtain⟨cx',he,O,I⟩:=I;cases r with
     |bad=>grind
     |pan v h'=>
      obtain⟨vv,rfl,h1,h2⟩:=I;exact⟨cx',he,O,vv,rfl,h1,h2⟩
     |ok e fr' h'=>
      obtain⟨rfl,h1,h2⟩:=I;cases e with
      |exit j=>
       show Exit.inBlock id _ (.exit j) U w'
       have e2:Fl id (.ok (.exit j) fr' h')=bif Nat.beq j id then .ok .normal fr' h' else .ok (.exit j) fr' h':=rfl;rw[e2];show if j=id then _ else _
       by_cases hj:j=id
       . subst hj;rw[if_pos rfl];simp only[Nat.beq_refl,cond_true];exact⟨cx',he,O,rfl,h1,h2⟩
       . rw[if_neg hj,Heap.beq_false hj];exact⟨cx',he,O,rfl,h1,h2⟩
      |_=>exact⟨cx',he,O,rfl,h1,h2⟩
    |loop x=>exact wpIn_loop_rounds (n+1) (round ro D x W cx a fr h hD A hf H G hb)
    |rangeFunc g ps x y=>exact oB hE B X hD A hf H G hb
    |_=>exact absurd rfl hb
  . have e:ev E (n+1) (xregP ops.toList l) fr h=step E (ev E n) (bif Ia l then .reg zf (l.map (cD ops.toList zf [] zf))else .bad) fr h:=rfl
    rw[e]at hb|-;cases C:Ia l with
    |false=>rw[C]at hb;exact absurd rfl hb
    |true=>
     rw[C]at hb;exact⟨noDfr_iff _ C,fun hQ=>Bg hE N l W cx a fr h A hf hS G hb hQ⟩
theorem oI(hE:EnvOk E P){W:World}{cx:Cx}{h:Heap}{n f:Nat}{args:Array Value}{l:List AV}(hl:RepL W cx args.toList l)(A:Sat E W cx h)(hb:run E n f l h≠.bad):Calls P f args W ((run E n f l h).Post E W cx):=
 (lC hE (Qy hE n).1 (Qy hE n).2.2 (Bv E n) f args l W cx h hl A hb).2
end
end Go.AM
