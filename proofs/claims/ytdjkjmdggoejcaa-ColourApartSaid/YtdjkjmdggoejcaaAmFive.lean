/- The abstract machine, part five: ranges over functions, deferred calls that recover, code and calls: sound. Conditions: none. -/
import Derived.Test.YtdjkjmdggoejcaaAmFour
import Derived.RangeFuncNested
import Derived.RecoverIn
import Derived.RowKit3
import Derived.Maps.RangeWalk
import Derived.Maps.Ext
import Derived.Laws.IdiomRangeMap
import Derived.Deep.LoopGhost
import Derived.WalkKit
set_option linter.unusedVariables false
set_option linter.unusedSectionVars false
set_option linter.unusedSimpArgs false
/-
 The abstract machine: what a body yields; frames that are entered; blocks that are laid and held; what is so behind code.
set_option maxHeartbeats 4000000
-/
open List renaming length→lz
open Option renaming some→zs,none→zn
open Bool renaming true→zt,false→zf
open Array renaming replicate→zqa,getElem?_toList→zqb
open Bool renaming and_eq_true→zqc
open Nat renaming le_refl→zqd
namespace Go.AM
section
variable {P:Program}{E:Env}{W:World}{cx:Cx}{h:Vg}
theorem nV(C:dn E P)(D:Sat E W cx h){t:Nat}{ti:TI}(G:E.ti t=zs ti){x:Value}{a r:AV}(B:Rep W cx x a)(hl:Ek ti a h=zs r):
 ∃v p,x=.pointer (zs p)/\(loadVar t p).run P W=.ok v W/\Rep W cx v r:=by
 obtain⟨v,h1,H⟩:=Tl (P:=P) C D G B hl
 have:∃p,x=.pointer (zs p):=by
  cases a with
  |fptr v off=>obtain⟨b,o,e,_⟩:=B.fptr_inv;grind
  |ptr id i off=>obtain⟨_,e⟩:=B.ptr_inv;grind
  |_=>cases hl
 obtain⟨p,rfl⟩:=this;exact⟨v,p,rfl,by grind[Instr.loadAt,Instr.sureAddr],H⟩
def oj(tmps:Array Value):ResultVar->Sem Value
 |.tmp t=>pure (tmps.getD t undef)
 | .cell a t=>do loadVar t (<-asAddr (tmps.getD a undef))
theorem Cl(G:dn E P)(H:Sat E W cx h){tmps:Array Value}{fr:Tr}:∀(l:List ResultVar)(vs:List AV),(∀x∈l,Rep W cx (tmps.getD (Ct x) undef) (fr.get (Ct x)))->G0 E l fr h=zs vs->∃us,(l.mapM (oj tmps)).run P W=.ok us W/\fc W cx us vs
 |[],vs,hf,B=>by
  cases B;exact⟨[],rfl,.nil⟩
 |x::l,vs,hf,B=>by
  have C:=fun y X=>hf y (List.mem_cons_of_mem _ X)
  have D:=hf x (List.mem_cons_self ..);cases x with
  |tmp t=>
   have B:A5 (G0 E l fr h) (fun vs=>zs (fr.get t::vs))=zs vs:=B;obtain⟨ws,I,N⟩:=A1 B;cases N;obtain⟨us,U,V⟩:=Cl G H l ws C I;exact⟨tmps.getD t undef::us,by rw[List.mapM_cons];simp[oj,U],.cons D V⟩
  |cell a t=>
   have B:onTI E t zn (fun ti=>A5 (Ek ti (fr.get a) h) fun v=>A5 (G0 E l fr h) fun vs=>zs (v::vs))=zs vs:=B;obtain⟨ti,ht,B⟩:=E8 B;obtain⟨v,hv,B⟩:=A1 B;obtain⟨ws,I,N⟩:=A1 B;cases N;obtain⟨us,U,V⟩:=Cl G H l ws C I;have D:Rep W cx (tmps.getD a undef) (fr.get a):=D;obtain⟨u,p,e,h5,h6⟩:=nV (P:=P) G H ht D hv;exact⟨u::us,by rw[List.mapM_cons];simp[oj,e,asAddr,h5,U],.cons h6 V⟩
theorem V4(C:dn E P)(D:Sat E W cx h){tmps:Array Value}{fr:Tr}{fn:Func}(hf:∀x∈fn.results.toList,Rep W cx (tmps.getD (Ct x) undef) (fr.get (Ct x))){vs:List AV}(G:G0 E fn.results.toList fr h=zs vs):
 ∃v,(results fn tmps).run P W=.ok v W/\Rep W cx v (cj vs):=by
 obtain ⟨us,H,B⟩:=Cl (P:=P) C D fn.results.toList vs hf G;have e1:(fn.results.mapM (oj tmps)).run P W=.ok us.toArray W:=by
  rw[<-Array.toArray_toList (xs:=fn.results),List.mapM_toArray];simp[H]
 have e2:results fn tmps=(do
  let vs <-fn.results.mapM (oj tmps)
  pure (if h:vs.size=1 then vs[0]else .tuple vs)):=by
  unfold results
  congr 1
 refine⟨if h:us.toArray.size=1 then us.toArray[0]else .tuple us.toArray,by simp_all,?_⟩;cases us with
 |nil=>
  cases vs with
  |nil=>exact .tup #[] [] rfl (by simp)
  |cons _ _=>have:=B.1;simp at this
 |cons u us=>
  cases vs with
  |nil=>have:=B.1;simp at this
  |cons v vs=>
   cases us with
   |nil=>
    cases vs with
    |nil=>exact B.2 0 _ _ rfl rfl
    |cons _ _=>have:=B.1;simp at this
   |cons u2 us=>
    cases vs with
    |nil=>have:=B.1;simp at this
    |cons v2 vs=>simp only[List.size_toArray,List.length_cons];rw[dif_neg (by omega)];exact Rep.tup_mk B
theorem dh.set{tmps:Array Value}{fr:Tr}(hf:dh W cx tmps fr){i:Nat}{x:AV}(B:Rep W cx (tmps.getD i undef) x):dh W cx tmps (fr.set i x) where
 rep j:=by
  by_cases e:i=j
  . subst e
    rw[Tr.get_set_eq];split
    . exact B
    . exact .und _
  . rw[Tr.get_set_ne _ _ _ _ e];exact hf.rep j
 has j hj:=by rw[Tr.has_set]at hj;exact hf.has j hj
theorem dh.setAll{tmps:Array Value}:∀(l:List AV)(i:Nat)(fr:Tr),dh W cx tmps fr->(∀(j:Nat) x,l[j]?=zs x->Rep W cx (tmps.getD (i+j) undef) x)->dh W cx tmps (Tr.setAll l i fr)
 |[],_,_,hf,_=>hf
 |v::l,i,fr,hf,hx=>by
  show dh W cx tmps (Tr.setAll l (i+1) (fr.set i v))
  exact dh.setAll l (i+1) _ (hf.set (hx 0 v rfl)) fun j x hj=>by
   have:=hx (j+1) x (by grind)
   grind
theorem Gu{args:Array Value}{l:List AV}(hl:fc W cx args.toList l){n:Nat}(hn:lz l<=n):dh W cx (args++zqa (n-args.size) undef) (Tr.enter n l):=by
 have hsz:args.size=lz l:=by have:=hl.1;grind
 refine dh.setAll l 0 _ ⟨fun i=>by rw[Tr.get_mk];exact .und _,fun i hi=>?_⟩ fun j x B=>?_
 . have:=Tr.has_mk _ _ _ hi
   simp;omega
 . obtain ⟨v,h1,h2⟩:=hl.get B
   have hlt:j<args.size:=by grind
   have:(args++zqa (n-args.size) undef).getD (0+j) undef=v:=by
    simp_all[Array.getElem?_append_left]
   grind
def Cx.lay(cx:Cx)(b:Nat):Cx:=⟨cx.μ,cx.nx,fun x=>cx.own x\/x=b,fun x=>cx.held x\/x=b⟩
theorem Ext.lay(W:World)(cx:Cx)(o:Obj):Ext W cx (W.alloc o) (cx.lay W.heap.size) where
 nx:=zqd _
 mu _ _:=rfl
 sz:=by simp
 keep b hb _:=cw W o hb
 shape b hb:=by grind[mm,cw]
 own b hb h:=by rcases h with h|h;exact h;omega
 hold b hb h:=⟨.inl h,cw W o hb⟩
 out:=⟨rfl,rfl,rfl⟩
theorem Sat.lay(B:Sat E W cx h)(o:Obj):Sat E (W.alloc o) (cx.lay W.heap.size) h where
 nx:=B.nx
 objs id y hy:=by
  obtain⟨C,D,G,H⟩:=B.objs id y hy;exact⟨C,.inl D,by show(cx.μ id).1<_;simp;omega,H.mono (Ext.lay W cx o) (cw W o G)⟩
 inj:=B.inj
 gl:=B.gl.mono (Ext.lay W cx o)
 held b hb:=by
  rcases hb with hb|rfl
  . exact⟨by have:=(B.held b hb).1;simp;omega,.inl (B.held b hb).2⟩
  . exact⟨by simp,.inr rfl⟩
 free id y hy:=by
  rintro(hb|hb)
  . exact B.free id y hy hb
  . have:=(B.objs id y hy).2.2.1
    have hb:(cx.μ id).1=W.heap.size:=hb;omega
def Re(o:Obj):Prop:=∀c t f,o≠.cells c t f
theorem qO{W:World}{b:Nat}(h:∀o,W.heap[b]?=zs o->Re o):mm W b=0:=by
 unfold mm;cases hb:W.heap[b]? with
 |none=>rfl
 |some o=>
  cases o with
  |cells c t f=>exact absurd rfl (h _ hb c t f)
  |_=>rfl
theorem Ext0.putHeld(B:Sat E W cx h){l:Nat}{o₀ o:Obj}(hl:cx.held l)(h0:W.heap[l]?=zs o₀)(hn:Re o₀)(ho:Re o):Ext0 W cx (W.putObj l o) cx where
 nx:=zqd _
 mu _ _:=rfl
 sz:=by simp
 keep b _ hb:=World.putObj_heap_other fun e=>hb (e▸(B.held l hl).2)
 shape b hb:=by
  grind[mm,qO,World.putObj_heap_same,World.putObj_heap_other]
 own _ _ h:=h
theorem Sat.putHeld(B:Sat E W cx h){l:Nat}{o:Obj}(hl:cx.held l)(C:Ext0 W cx (W.putObj l o) cx):Sat E (W.putObj l o) cx h where
 nx:=B.nx
 objs id y hy:=by
  obtain⟨D,G,H,I⟩:=B.objs id y hy;exact⟨D,G,by simpa using H,I.mono0 C (World.putObj_heap_other fun e=>B.free id y hy (e▸hl))⟩
 inj:=B.inj
 gl:=B.gl.mono0 C
 held b hb:=⟨by simpa using(B.held b hb).1,(B.held b hb).2⟩
 free:=B.free
theorem Ext.putHi{W W':World}{cx cx':Cx}{l:Nat}{o:Obj}(B:Ext W cx W' cx')(hl:W.heap.size<=l)(h0:Ext0 W' cx' (W'.putObj l o) cx'):Ext W cx (W'.putObj l o) cx' where
 toExt0:=B.toExt0.trans h0
 hold b hb hh:=⟨(B.hold b hb hh).1,(World.putObj_heap_other (by omega)).trans (B.hold b hb hh).2⟩
 out:=B.out
abbrev DP:=World->Cx->Act->Prop
def cz.End(E:Env)(r:cz)(x:Exit)(a:Act)(w:World)(cx':Cx):Prop:=
 match r with
 |.ok e fr h=>x=bH e/\Sat E w cx' h/\dh w cx' a.tmps fr
 |.pan v h=>∃B,x=.panic [{v:=B,recovered:=zf}]/\Sat E w cx' h/\Rep w cx' B v
 | .bad=>False
def X9(E:Env)(W:World)(cx:Cx)(D:DP)(r:cz)(x:Exit)(a:Act)(w:World):Prop:=∃cx',Ext W cx w cx'/\D w cx' a/\r.End E x a w cx'
theorem X9.trans{W C:World}{cx B:Cx}{D:DP}(H:Ext W cx C B){r:cz}{x:Exit}{a:Act}{w:World}(h:X9 E C B D r x a w):X9 E W cx D r x a w:=by
 obtain⟨cx',G,h⟩:=h;exact⟨cx',H.trans G,h⟩
def Dy(D:DP):Prop:=∀W cx a W' cx',Ext W cx W' cx'->D W cx a->D W' cx' a
def Se(D:DP)(d:Option Tmp):Prop:=∀W cx,Lv (D W cx) d
theorem X9.of_post{D:DP}(C:Dy D){r:cz}{x:Exit}{a:Act}{w:World}(h:r.Post E W cx (fun a=>D W cx a) x a w):X9 E W cx D r x a w:=by
 obtain⟨G,cx',B,h⟩:=h;exact⟨cx',B,C _ _ _ _ _ B G,h⟩
def iN(r:Nat):Deferred:={target:=.collected r,args:=#[]}
def nW(ro:Option Nat)(D:DP):Prop:=
 match ro with
 |none=>∀W cx a W' cx' r,D W cx a->Ext W cx W' cx'->W.heap.size<=r->r<W'.heap.size->cx'.held r->W'.heap[r]?=zs (.deferred (zs []))->D W' cx' {a with defers:=iN r::a.defers}
 |some l=>∀W cx a,D W cx a->∃B,W.heap[l]?=zs (.loop B)
def nX(ro:Option Nat)(D:DP):Code->Prop
 |.region _ ops _=>∀(i:Nat)(o:Oper),ops[i]?=zs o->Se D o.dst
 |.seq a b=>nX ro D a/\nX ro D b
 |.cond _ a b=>nX ro D a/\nX ro D b
 |.block _ a=>nX ro D a
 |.loop a=>nX ro D a
 |.scope a=>nX ro D a
 |.rangeFunc ..=>nW ro D
 |_=>True
theorem m5{ro:Option Nat}{D:DP}(h:∀d,Se D d)(B:nW ro D):∀c,nX ro D c
 |.region _ ops _=>fun _ _ _=>h _
 |.seq a b=>⟨m5 h B a,m5 h B b⟩
 |.cond _ a b=>⟨m5 h B a,m5 h B b⟩
 |.block _ a=>m5 h B a
 |.loop a=>m5 h B a
 |.scope a=>m5 h B a
 |.rangeFunc ..=>B
 | .skip | .exit _ | .label _ | .goto _ | .ret | .refuse _=>trivial
theorem V5{ro:Option Nat}{D:DP}{ts:List Tmp}(h:∀d,(∀t,d=zs t->t∉ts)->Se D d):∀c,V7 ts c=zt->nX ro D c
 |.region _ ops _,hc=>fun i o ho=>h _ fun t ht hm=>by
  have hc:(ops.toList.all fun o=>(match o.dst with|none=>zt|some d=>!(ts.contains d)))=zt:=hc;grind
 |.seq a b,hc=>by
  have hc:(V7 ts a&&V7 ts b)=zt:=hc;rw[zqc]at hc;exact⟨V5 h a hc.1,V5 h b hc.2⟩
 |.cond _ a b,hc=>by
  have hc:(V7 ts a&&V7 ts b)=zt:=hc;rw[zqc]at hc;exact⟨V5 h a hc.1,V5 h b hc.2⟩
 |.block _ a,hc=>V5 h a hc
 |.loop a,hc=>V5 h a hc
 |.scope a,hc=>V5 h a hc
 |.rangeFunc ..,hc=>by cases hc
 | .skip,_ | .exit _,_ | .label _,_ | .goto _,_ | .ret,_ | .refuse _,_=>trivial
theorem Dz{a:Act}{d:Option Tmp}{v:Value}{i:Nat}(h:∀t,d=zs t->t≠i):(a.put d v).tmps.getD i undef=a.tmps.getD i undef:=by
 cases d with
 |none=>rfl
 |some d=>
  show(a.tmps.setIfInBounds d v).getD i undef=_
  simp_all
theorem qP(a:Act)(d:Option Tmp)(v:Value):(a.put d v).tmps.size=a.tmps.size:=by
 cases d with
 |none=>rfl
 |some d=>show(a.tmps.setIfInBounds d v).size=_;simp
def DE:DP:=fun _ _ a=>a.defers=[]
theorem DE.mono:Dy DE:=fun _ _ _ _ _ _ h=>h
theorem DE.stab(d:Option Tmp):Se DE d:=fun _ _ a v h=>by show(a.put d v).defers=[];rw[x5];exact h
def D0(B:Nat):DP:=fun W cx a=>B<=W.heap.size/\∃rs:List Nat,a.defers=rs.map iN/\rs.Nodup/\∀r∈rs,B<=r/\r<W.heap.size/\cx.held r/\W.heap[r]?=zs (.deferred (zs []))
theorem D0.mono(C:Nat):Dy (D0 C):=fun W cx a W' cx' B h=>by
 obtain⟨h0,rs,G,H,I⟩:=h;refine⟨Nat.le_trans h0 B.sz,rs,G,H,fun r D=>?_⟩;obtain⟨h4,N,U,h7⟩:=I r D;obtain⟨h8,h9⟩:=B.hold r N U;grind
theorem D0.stab(B:Nat)(d:Option Tmp):Se (D0 B) d:=fun W cx a v h=>by
 obtain⟨h0,rs,C,D⟩:=h;exact⟨h0,rs,by rw[x5];exact C,D⟩
theorem D0.push(H:Nat):nW zn (D0 H):=fun W cx a W' cx' r I N hr hlt hh hb=>by
 obtain⟨h0,rs,h1,h2,h3⟩:=D0.mono H _ _ _ _ _ N I;obtain⟨h0',G,h1',_,h3'⟩:=I
 have:∀C∈rs,C<W.heap.size:=fun C D=>by
  have e:rs=G:=by
   have inj:∀(l B:List Nat),l.map iN=B.map iN->l=B:=by
    intro l
    induction l with
    |nil=>simp_all
    | cons x l ih=>intro B e;cases B with
     |nil=>simp at e
     |cons y B=>grind[iN]
   grind
  grind
 refine⟨h0,r::rs,by grind,(by grind),fun C D=>?_⟩;grind
def DR(l:Nat)(B:Loop):DP:=fun W cx a=>a.defers=[]/\cx.held l/\W.heap[l]?=zs (.loop B)
theorem DR.mono(l:Nat)(C:Loop):Dy (DR l C):=fun W cx a W' cx' D h=>by
 obtain⟨G,H,B⟩:=h;obtain⟨I,N⟩:=D.hold l (O8 B) H;exact⟨G,I,N.trans B⟩
theorem DR.stab(l:Nat)(B:Loop)(d:Option Tmp):Se (DR l B) d:=fun W cx a v h=>by
 obtain⟨C,D⟩:=h;exact⟨by rw[x5];exact C,D⟩
theorem DR.rf(l:Nat)(B:Loop):nW (zs l) (DR l B):=fun W cx a h=>⟨B,h.2.2⟩
theorem mi(l:List Oper)(hn:In l=zt):∀o∈l,Si o:=fun o ho c e=>by
 have:=List.all_eq_true.1 hn o ho
 rw[e]at this;cases this
end
end Go.AM
/-
 The abstract machine: pieces of regions; an iterator that hands elements on,walked.
-/
namespace Go.AM
theorem Xm{F:Fence}{n:Nat}{P:Program}{o:Oper}{a:Act}{w:World}{K K':Act->World->Prop}{Q G:Exit->Act->World->Prop}(D:∀a w,K a w->K' a w)(I:∀c a w,Q (.panic c) a w->G (.panic c) a w)(B:∀a w,Q .outgrown a w->G .outgrown a w)
 (h:o.wpIn F n P a w K Q):o.wpIn F n P a w K' G:=by
 refine⟨h.1,?_⟩;have h:=h.2;generalize (o.semAt F.round a.eval).run P w=r at h|-;cases r with
 |ok x w'=>
  cases x with
  |value v=>exact D _ _ h
  |skip=>exact D _ _ h
  |defer d=>exact D _ _ h
  |enter f args=>
   exact ⟨h.1,h.2.mono fun e w' C=>by
    cases e with
    |returned v=>grind
    |panicked c=>grind
    |outgrown=>obtain⟨H,w0,h0⟩:=C;exact⟨H,w0,B _ _ h0⟩⟩
  |row r args=>exact⟨h.1,h.2.mono fun v w' C=>D _ _ C⟩
  |round l f tmps as bo=>
   exact ⟨h.1,h.2.mono fun e w' C=>by
    cases e with
    |returned v=>grind
    |panicked c=>grind
    |outgrown=>obtain⟨H,w0,h0⟩:=C;exact⟨H,w0,B _ _ h0⟩⟩
  |_=>exact h.elim
 |halt x w'=>cases x<;>first|exact I _ _ _ h|exact h.elim
theorem At{F:Fence}{n:Nat}{P:Program}{ops:Array Oper}{Q:Exit->Act->World->Prop}{rest:List Oper}:∀(l:List Oper)(a:Act)(w:World),
 wpListIn F n P ops (Exit.then (wpListIn F n P ops Q rest) (fun _ _ _=>False)) l a w->wpListIn F n P ops Q (l++rest) a w
 |[],a,w,h=>h
 |o :: l,a,w,h=>by
  unfold wpListIn at h;show wpListIn F n P ops Q (o::(l++rest)) a w
  unfold wpListIn;split
  . rename_i B
    rw[if_pos B]at h;exact Xm (fun a w h=>At l a w h) (fun c a w C=>C.elim) (fun a w C=>C.elim) h
  . rename_i B
    rw[if_neg B]at h;exact⟨h.1,At l _ w h.2⟩
def r7(E:Env)(P:Program)(ih:E9):Prop:=
 ∀ (S:Act->Prop) (ops:Array Oper) (l:List Oper) (Q:Exit->Act->World->Prop) (W:World) (cx:Cx) (a:Act) (fr:Tr) (h:Vg),
   (∀ o∈l,Lv S o.dst)->dh W cx a.tmps fr->S a->Sat E W cx h->ih (eq ops.toList l) fr h≠.bad ->
     (∀o∈l,Si o)/\((∀x B w',(ih (eq ops.toList l) fr h).Post E W cx S x B w'->Q x B w')->wpList P ops Q l a W)
def Y8(E:Env)(P:Program)(ih:E9):Prop:=
 ∀ (ro:Option Nat) (D:DP) (c:Code) (W:World) (cx:Cx) (a:Act) (fr:Tr) (h:Vg),Dy D->nX ro D c->dh W cx a.tmps fr->D W cx a->Sat E W cx h->ih (xc c) fr h≠.bad ->
   c.wpIn (WF ro) 0 P (X9 E W cx D (ih (xc c) fr h)) a W
section
variable {P:Program}{E:Env}{ih:E9}
theorem lX(hl:r7 E P ih){ro:Option Nat}{ops:Array Oper}{S:Act->Prop}{l rest:List Oper}{Q:Exit->Act->World->Prop}{W:World}{cx:Cx}{a:Act}{fr fr':Tr}{h h':Vg}(C:∀o∈l,Lv S o.dst)
 (hf:dh W cx a.tmps fr)(hS:S a)(hs:Sat E W cx h)(hr:ih (eq ops.toList l) fr h=.ok .normal fr' h')
 (hK:∀B W' cx',Ext W cx W' cx'->Sat E W' cx' h'->dh W' cx' B.tmps fr'->S B->wpListIn (WF ro) 0 P ops Q rest B W'):wpListIn (WF ro) 0 P ops Q (l++rest) a W:=by
 obtain⟨hn,G⟩:=hl S ops l (Exit.then (wpListIn (WF ro) 0 P ops Q rest) (fun _ _ _=>False)) W cx a fr h C hf hS hs (by grind);refine At l a W (Lb ?_ l hn a W (G fun x B w' D=>?_))
 . rintro⟨a,w,h⟩;exact h
 . rw[hr]at D
   obtain⟨H,cx',I,rfl,N,U⟩:=D;exact hK B w' cx' I N U H
theorem Nq(hl:r7 E P ih){ro:Option Nat}{ops:Array Oper}{S:Act->Prop}{l:List Oper}{Q:Exit->Act->World->Prop}{W:World}{cx:Cx}{a:Act}{fr fr':Tr}{h h':Vg}(B:∀o∈l,Lv S o.dst)
 (hf:dh W cx a.tmps fr)(hS:S a)(hs:Sat E W cx h)(hr:ih (eq ops.toList l) fr h=.ok .normal fr' h')
 (hK:∀C W' cx',Ext W cx W' cx'->Sat E W' cx' h'->dh W' cx' C.tmps fr'->S C->Q .normal C W'):wpListIn (WF ro) 0 P ops Q l a W:=by
 have:=lX (rest:=[]) (ro:=ro) (ops:=ops) (Q:=Q) hl B hf hS hs hr hK
 grind
theorem aN(hl:r7 E P ih){ro:Option Nat}{id:Nat}{ops:Array Oper}{S:Act->Prop}{Q:Exit->Act->World->Prop}{W:World}{cx:Cx}{a:Act}{fr fr':Tr}{h h':Vg}(B:∀o∈ops.toList,Lv S o.dst)
 (hf:dh W cx a.tmps fr)(hS:S a)(hs:Sat E W cx h)(hr:ih (eq ops.toList ops.toList) fr h=.ok .normal fr' h')
 (hK:∀C W' cx',Ext W cx W' cx'->Sat E W' cx' h'->dh W' cx' C.tmps fr'->S C->Q .normal C W'):(Code.region id ops zf).wpIn (WF ro) 0 P Q a W:=
 wpIn_region_list (Nq hl B hf hS hs hr hK)
theorem isNone_none{α:Type}{o:Option α}(h:isNone o=zt):o=zn:=by cases o;rfl;cases h
theorem Bi{ts:List Tmp}{l:List Oper}(h:V6 ts l=zt){o:Oper}(ho:o∈l):∀d,o.dst=zs d->d∉ts:=by
 have:=List.all_eq_true.1 h o ho
 grind
theorem iO{o:Oper}{yt:Tmp}(h:pm o=zs yt):o.op=.move (.tmp 0)/\o.dst=zs yt:=by
 obtain⟨dst,op,type,pos,after,guard⟩:=o;unfold pm at h;cases op with
 |move x=>
  cases x with
  |tmp t=>
   replace h:(bif Nat.beq t 0 then dst else zn)=zs yt:=h
   cases hc:Nat.beq t 0 with
   |false=>grind
   |true=>
    simp_all
  |_=>cases h
 |_=>cases h
theorem qQ{o:Oper}{yt yd:Tmp}{args:List Operand}(h:isY yt o=zs (yd,args)):∃D C,o.op=.call ⟨.value (.tmp yt),D,C⟩/\D.toList=args/\o.dst=zs yd:=by
 obtain⟨dst,op,type,pos,after,guard⟩:=o;unfold isY at h;cases op with
 |call c=>
  obtain⟨B,D,C⟩:=c;cases B with
  |value x=>
   cases x with
   |tmp t=>
    replace h:(bif Nat.beq t yt then(match dst with|some d=>zs (d,D.toList)|none=>zn)else zn)=zs (yd,args):=h
    cases hc:Nat.beq t yt with
    |false=>grind
    |true=>
     rw[hc]at h
     have:=D8 hc
     subst this;grind
   |_=>cases h
  |_=>cases h
 |_=>cases h
theorem Pk{yt:Tmp}:∀{l:List Oper}{p:List Oper×Oper×List Oper},nl yt l=zs p->l=p.1++p.2.1::p.2.2
 |[],_,h=>by cases h
 |o :: r,p,h=>by
  unfold nl at h;cases C:isY yt o with
  |some q=>grind
  |none=>
   rw[C]at h;cases B:nl yt r with
   |none=>grind
   |some q=>
    rw[B]at h;cases h
    have:=Pk B
    grind
theorem Pl:∀{l:List Oper}{p:List Oper×Oper×List Oper},nq l=zs p->l=p.1++p.2.1::p.2.2
 |[],_,h=>by cases h
 |o :: r,p,h=>by
  unfold nq at h;cases C:pm o with
  |some q=>grind
  |none=>
   rw[C]at h;cases B:nq r with
   |none=>grind
   |some q=>
    rw[B]at h;cases h
    have:=Pl B
    grind
theorem wQ{a b:Option (Nat×Bool)}(h:wX a b=zt):a=b:=by
 cases a with
 | none=>cases b with
  |none=>rfl
  |some q=>cases h
 |some p=>
  cases b with
  |none=>cases h
  |some q=>
   obtain⟨p1,p2⟩:=p;obtain⟨q1,q2⟩:=q;unfold wX at h;dsimp only at h;rw[zqc]at h;grind[D8]
structure YP(ops:List Oper)(p0:List Oper)(m:Oper)(p1:List Oper)(y:Oper)(p2:List Oper)(yt yd:Tmp)(args:List Operand):Prop where
 ops:ops=p0++m::(p1++y::p2)
 mv:pm m=zs yt
 yl:isY yt y=zs (yd,args)
 gd:m.guard=y.guard
 yt0:yt≠0
 c0:V6 [0] p0=zt
 c1:V6 [0,yt] p1=zt
 cy:V6 [0] [y]=zt
 c2:V6 [0] p2=zt
theorem qr{ops:List Oper}{ic:IC}(h:w9 ops=zs ic):(V6 [0] ops=zt/\ic=.reg (eq ops ops))\/
 ∃p0 m p1 y p2 yt yd args,YP ops p0 m p1 y p2 yt yd args/\ic=.yreg (eq ops p0) (G3 ops m) yt (eq ops p1) yd args (eq ops p2):=by
 unfold w9 at h;cases D:nq ops with
 |none=>
  grind
 |some q=>
  rw[D]at h;have C:=Pl D;obtain⟨p0,m,r⟩:=q
  replace h:DH ops (p0,m,r)=zs ic:=h
  unfold DH at h;dsimp only at h C;cases G:pm m with
  |none=>grind
  |some yt=>
   rw[G]at h;dsimp only at h;cases H:nl yt r with
   |none=>grind
   |some p=>
    rw[H]at h;obtain⟨p1,y,p2⟩:=p;have B:=Pk H;dsimp only at h B;cases I:isY yt y with
    |none=>grind
    |some z=>
     rw[I]at h;obtain⟨yd,args⟩:=z;dsimp only at h;cases hc:(wX m.guard y.guard && !(Nat.beq yt 0)&&V6 [0] p0&&V6 [0,yt] p1&&V6 [0] [y]&&V6 [0] p2)with
     |false=>grind
     |true=>
      rw[hc]at h;cases h;simp only[zqc,Bool.not_eq_true']at hc;obtain⟨⟨⟨⟨⟨c1,c2⟩,N⟩,U⟩,V⟩,X⟩:=hc;exact .inr ⟨p0,m,p1,y,p2,yt,yd,args,⟨by rw[C,B],G,I,wQ c1,fun e=>by simp_all,N,U,V,X⟩,rfl⟩
theorem Xn{f:IC->IC->IC}{a b:Option IC}{c:IC}(h:rO f a b=zs c):∃x y,a=zs x/\b=zs y/\c=f x y:=by
 cases a with
 |none=>cases h
 | some x=>cases b with
  |none=>cases h
  |some y=>cases h;grind
structure LA(W0:World)(cx0:Cx)(ro:Option Nat)(l:Nat)(st:Loop)(W:World)(cx:Cx):Prop where
 ext:Ext W0 cx0 W cx
 held:cx.held l
 rcd:W.heap[l]?=zs (.loop st)
 blk:ro=zn->cx.held W0.heap.size/\W.heap[W0.heap.size]?=zs (.deferred (zs []))
 hi:W0.heap.size<=l
 ne:ro=zn->l≠W0.heap.size
section
variable {W0 W W':World}{cx0 cx cx':Cx}{ro:Option Nat}{l:Nat}{st st':Loop}{h:Vg}
theorem LA.mono(B:LA W0 cx0 ro l st W cx)(C:Ext W cx W' cx'):LA W0 cx0 ro l st W' cx' where
 ext:=B.ext.trans C
 held:=(C.hold l (O8 B.rcd) B.held).1
 rcd:=(C.hold l (O8 B.rcd) B.held).2.trans B.rcd
 blk hr:=by
  obtain⟨D,G⟩:=B.blk hr;obtain⟨h3,h4⟩:=C.hold _ (O8 G) D;grind
 hi:=B.hi
 ne:=B.ne
theorem LA.ext0(B:LA W0 cx0 ro l st W cx)(C:Sat E W cx h):Ext0 W cx (W.putObj l (.loop st')) cx:=
 Ext0.putHeld C B.held B.rcd (fun _ _ _ e=>by cases e) (fun _ _ _ e=>by cases e)
theorem LA.put(B:LA W0 cx0 ro l st W cx)(C:Sat E W cx h):LA W0 cx0 ro l st' (W.putObj l (.loop st')) cx where
 ext:=B.ext.putHi B.hi (B.ext0 C)
 held:=B.held
 rcd:=World.putObj_heap_same (O8 B.rcd)
 blk hr:=⟨(B.blk hr).1,(World.putObj_heap_other fun e=>B.ne hr e.symm).trans (B.blk hr).2⟩
 hi:=B.hi
 ne:=B.ne
end
def xe(e:Ex):Bool:=match e with | .normal=>zt | .exit _=>zf | .ret=>zf
def Ik(mk:LoopState->Option Code->Loop)(e:Ex):Loop:=match e with | .normal=>mk .ready zn | .exit i=>mk .done (zs (.exit i)) | .ret=>mk .done (zs .ret)
def NR(E:Env)(P:Program)(W0:World)(cx0:Cx)(ro:Option Nat)(l:Nat)(mk:LoopState->Option Code->Loop)(Y:List AV->Vg->cz):Prop:=
 ∀ (vs:Array Value) (args:List AV) (W:World) (cx:Cx) (h:Vg) (e:Ex) (fr':Tr) (h':Vg),Y args h=.ok e fr' h'->LA W0 cx0 ro l (mk .ready zn) W cx->Sat E W cx h->fc W cx vs.toList args ->
   ∃ f tmps B C,(Instr.yield l vs).run P W=.ok (.round l f tmps B C) W/\RoundIn (WF zn) 0 P l f tmps B C W fun D W' =>
     D=.returned (.bool (xe e))/\∃cx',LA W0 cx0 ro l (Ik mk e) W' cx'/\Ext0 W cx W' cx'/\Sat E W' cx' h'
def Y0(l:Nat):Value:=.func (.yield l) #[] #[]
def SI(l nt:Nat)(a:Act):Prop:=a.defers=[]/\a.tmps.getD 0 undef=Y0 l/\a.tmps.size=nt
def SY(l nt:Nat)(yt:Tmp)(a:Act):Prop:=SI l nt a/\a.tmps.getD yt undef=Y0 l
theorem SI.stab{l nt:Nat}{d:Option Tmp}(h:∀t,d=zs t->t≠0):Lv (SI l nt) d:=fun a v B =>
 ⟨by rw[x5];exact B.1,(Dz h).trans B.2.1,(qP ..).trans B.2.2⟩
theorem SY.stab{l nt:Nat}{yt:Tmp}{d:Option Tmp}(h:∀t,d=zs t->t≠0)(h':∀t,d=zs t->t≠yt):Lv (SY l nt yt) d:=fun a v B =>
 ⟨SI.stab h a v B.1,(Dz h').trans B.2⟩
theorem SI.calm{l nt:Nat}{B:List Oper}(h:V6 [0] B=zt):∀o∈B,Lv (SI l nt) o.dst:=fun o ho=>SI.stab fun t C e=>Bi h ho t C (by simp[e])
theorem SI.calm1{l nt:Nat}{yt:Tmp}{B:List Oper}(h:V6 [0,yt] B=zt):∀o∈B,Lv (SI l nt) o.dst:=fun o ho=>SI.stab fun t C e=>Bi h ho t C (by simp[e])
theorem SY.calm{l nt:Nat}{yt:Tmp}{C:List Oper}(h:V6 [0,yt] C=zt):∀o∈C,Lv (SY l nt yt) o.dst:=fun o ho=>SY.stab (fun t B e=>Bi h ho t B (by simp[e])) (fun t B e=>Bi h ho t B (by simp[e]))
theorem qR{k:Tr->Vg->cz}{r:cz}{e:Ex}{fr':Tr}{h':Vg}(D:Dm k r=.ok e fr' h'):∃B C,r=.ok .normal B C/\k B C=.ok e fr' h':=by
 cases r with
 |ok e1 B C=>
  cases e1 with
  |normal=>exact⟨B,C,rfl,D⟩
  |_=>cases D
 |_=>cases D
theorem w6{k:Tr->Vg->gn}{r:cz}{e:Ex}{p:Option Ex}{fr':Tr}{h':Vg}(D:J1 k r=.ok e p fr' h'):∃B C,r=.ok .normal B C/\k B C=.ok e p fr' h':=by
 cases r with
 |ok e1 B C=>
  cases e1 with
  |normal=>exact⟨B,C,rfl,D⟩
  |_=>cases D
 |_=>cases D
theorem nv{b:Option Bool}{x y:gn}{e:Ex}{p:Option Ex}{fr:Tr}{h:Vg}(B:iw b .bad x y=.ok e p fr h):(b=zs zt/\x=.ok e p fr h)\/(b=zs zf/\y=.ok e p fr h):=by
 cases b with
 |none=>cases B
 |some b=>cases b;exact .inr ⟨rfl,B⟩;exact .inl ⟨rfl,B⟩
theorem dK{b:Bool}{x:cz}{e:Ex}{fr:Tr}{h:Vg}(hr:(bif b then x else .bad)=.ok e fr h):b=zt/\x=.ok e fr h:=by
 grind
theorem nY{b:Bool}{x:gn}{e:Ex}{p:Option Ex}{fr:Tr}{h:Vg}(hr:(bif b then x else .bad)=.ok e p fr h):b=zt/\x=.ok e p fr h:=by
 grind
def nZ(mk:LoopState->Option Code->Loop)(p:Option Ex):Loop:=Ik mk (qK p)
def IQ(E:Env)(W0:World)(cx0:Cx)(ro:Option Nat)(l nt:Nat)(mk:LoopState->Option Code->Loop)(e:Ex)(p:Option Ex)(fr':Tr)(h':Vg)(ex:Exit)(a:Act)(w:World):Prop:=
 ex=bH e/\SI l nt a/\∃cx',LA W0 cx0 ro l (nZ mk p) w cx'/\Sat E w cx' h'/\dh w cx' a.tmps fr'
section
variable {W0:World}{cx0:Cx}{ro:Option Nat}{l nt:Nat}{mk:LoopState->Option Code->Loop}{Y:List AV->Vg->cz}
theorem oA(hl:r7 E P ih)(hY:NR E P W0 cx0 ro l mk Y){id:Nat}{ops:Array Oper}{p0:List Oper}{m:Oper}{p1:List Oper}{y:Oper}{p2:List Oper}{yt yd:Tmp}{args:List Operand}(D:YP ops.toList p0 m p1 y p2 yt yd args)
 {k:Nat}{p p':Option Ex}{a:Act}{W:World}{cx:Cx}{fr fr':Tr}{h h':Vg}{e:Ex}
 (B:evI E ih nt Y (k+1) (.yreg (eq ops.toList p0) (G3 ops.toList m) yt (eq ops.toList p1) yd args (eq ops.toList p2)) p fr h=.ok e p' fr' h')(hf:dh W cx a.tmps fr)(hS:SI l nt a)(la:LA W0 cx0 ro l (nZ mk p) W cx)(hs:Sat E W cx h):
 (Code.region id ops zf).wpIn (WF zn) 0 P (IQ E W0 cx0 ro l nt mk e p' fr' h') a W:=by
 refine wpIn_region_list ?_;rw[D.ops];obtain⟨aq,h1,az,B⟩:=w6 (show J1 (fun fr h=>iw (cm (G3 ops.toList m) fr) .bad (dY E ih nt Y (G3 ops.toList m) yt (eq ops.toList p1) yd args (eq ops.toList p2) p fr h) (zJ ih (G3 ops.toList m) yt (eq ops.toList p1) yd (eq ops.toList p2) p fr h)) (ih (eq ops.toList p0) fr h)=.ok e p' fr' h' from B);refine lX hl (SI.calm D.c0) hf hS hs az fun a1 W1 ar au an I N=>?_
 replace la:=la.mono au
 obtain⟨m1,m3⟩:=iO D.mv;obtain⟨as,tys,y1,y2,y4⟩:=qQ D.yl;have hyd:yd≠0:=fun e=>Bi D.cy (List.mem_cons_self ..) yd y4 (by simp[e])
 have ao:G3 ops.toList y=G3 ops.toList m:=by unfold G3;rw[D.gd]
 rcases nv B with⟨hg,B⟩|⟨hg,B⟩
 . -- it is called
   have hw:=O1 (ops:=ops) I m hg;cases p with
   |some _=>cases B
   |none=>
    obtain ⟨ah,B⟩:=nY (show(bif Nat.blt yt nt then J1 (fun fr h=>iw (cm (G3 ops.toList m) fr) .bad (Ia ih (eq ops.toList p2) yd fr (Y (fk E args fr) h)) .bad) (ih (eq ops.toList p1) (aq.set yt .any) h1)else .bad)=.ok e p' fr' h' from B);have ah:=K5 ah;obtain⟨G,h2,ak,B⟩:=w6 B;unfold wpListIn;rw[if_pos hw];refine⟨fun _ _=>trivial,?_⟩;have hm:((m.semAt (WF zn).round a1.eval).run P W1)=.ok (.value (Y0 l)) W1:=by
     rw[show(WF zn).round=zn from rfl,Oper.semAt_none]
     have:a1.eval (.tmp 0)=Y0 l:=N.2.1
     simp[execOp,m1,this]
    rw [hm,Oper.uponIn_value,m3];have aw:SY l nt yt (a1.put (zs yt) (Y0 l)):=by
     refine⟨SI.stab (fun t e=>by cases e;exact D.yt0) a1 _ N,?_⟩;show(a1.tmps.setIfInBounds yt (Y0 l)).getD yt undef=Y0 l
     have:yt<a1.tmps.size:=by rw[N.2.2];exact ah
     simp_all
    refine lX hl (S:=SY l nt yt) (SY.calm D.c1) (I.put (zs yt) (.any _ rfl)) aw an ak fun H W3 U ab V C X=>?_
    replace la:=la.mono ab
    rcases nv B with⟨am,B⟩|⟨_,B⟩
    . have ai:=O1 (ops:=ops) C y (by rw[ao];exact am)
      unfold wpListIn;rw[if_pos ai];refine⟨fun _ _=>trivial,?_⟩;cases hq:Y (fk E args G) h2 with
      |ok e1 ba h3=>
       rw [hq]at B;have aj:fc W3 U (as.map H.eval).toList (fk E args G):=by
        have:=Bn (E:=E) V C args
        simp_all
       obtain ⟨f,tmps,a0,bo,hyr,aa⟩:=hY _ _ W3 U h2 e1 ba h3 hq la V aj;have hm:((y.semAt (WF zn).round H.eval).run P W3)=.ok (.round l f tmps a0 bo) W3:=by
        rw[show(WF zn).round=zn from rfl,Oper.semAt_none]
        have:H.eval (.tmp yt)=.func (.yield l) #[] #[]:=X.2
        grind[execOp,resolve,Deferred.ofValue,invoke]
       rw[hm,Oper.uponIn_round];refine⟨fun e=>by simp[WF,Fence.wide]at e,aa.mono fun en W4 av=>?_⟩;obtain⟨rfl,a2,a4,a6,a7⟩:=av;show wpListIn (WF zn) 0 P ops _ p2 (H.put y.dst (.bool (xe e1))) W4
       rw [y4];have ax:SI l nt (H.put (zs yd) (.bool (xe e1))):=SI.stab (fun t e=>by grind) H _ X.1;have ay:dh W4 a2 (H.put (zs yd) (.bool (xe e1))).tmps (G.set yd (.bool (xe e1))):=(C.mono0 a6).put (zs yd) (.bool _);have out:∀(q:Option Ex),qK q=e1->J1 (n8 q) (ih (eq ops.toList p2) (G.set yd (.bool (xe e1))) h3)=.ok e p' fr' h'->wpListIn (WF zn) 0 P ops (IQ E W0 cx0 ro l nt mk e p' fr' h') p2 (H.put (zs yd) (.bool (xe e1))) W4:=fun q hq B=>by
        obtain⟨a9,h5,al,B⟩:=w6 B;cases B;refine Nq hl (SI.calm D.c2) ay ax a7 al fun a5 W5 ac ad ae af ag=>⟨rfl,ag,ac,?_,ae,af⟩
        unfold nZ;rw[hq];exact a4.mono ad
       cases e1 with
       |normal=>exact out zn rfl B
       |exit i=>exact out (zs (.exit i)) rfl B
       |ret=>exact out (zs .ret) rfl B
      |_=>rw[hq]at B;cases B
    . cases B
 . -- it is not
   have hw:=O1 (ops:=ops) I m hg;obtain⟨G,h2,ak,B⟩:=w6 (show J1 (fun fr h=>iw (cm (G3 ops.toList m) fr) .bad .bad (J1 (n8 p) (ih (eq ops.toList p2) (fr.set yd Yw) h))) (ih (eq ops.toList p1) (aq.set yt Yw) h1)=.ok e p' fr' h' from B);unfold wpListIn;rw[hw];refine⟨fun _ _=>trivial,?_⟩;rw[m3];refine lX hl (S:=SI l nt) (SI.calm1 D.c1) (I.put (zs yt) (show Rep W1 ar undef Yw from .tup #[] [] rfl (by simp))) (SI.stab (fun t e=>by cases e;exact D.yt0) a1 _ N) an ak fun H W3 U ab V C X=>?_
   rcases nv B with⟨_,B⟩|⟨am,B⟩
   . cases B
   . have ai:=O1 (ops:=ops) C y (by rw[ao];exact am)
     obtain ⟨a9,h5,al,B⟩:=w6 B;cases B;unfold wpListIn;rw[ai];refine⟨fun _ _=>trivial,?_⟩;rw[y4];exact Nq hl (SI.calm D.c2) (C.put (zs yd) (show Rep W3 U undef Yw from .tup #[] [] rfl (by simp))) (SI.stab (fun t e=>by grind) H _ X) V al fun a5 W5 ac ad ae af ag =>
      ⟨rfl,ag,ac,(la.mono ab).mono ad,ae,af⟩
theorem IQ.seq{k:IF}{b:IC}{r:gn}{e:Ex}{I:Option Ex}{fr':Tr}{h':Vg}{K:Act->World->Prop}(N:Ll (k b) r=.ok e I fr' h')
 (hK:∀p1 B C D G,r=.ok .normal p1 B C->k b p1 B C=.ok e I fr' h'->IQ E W0 cx0 ro l nt mk .normal p1 B C .normal D G->K D G):∃e1 p1 B C,r=.ok e1 p1 B C/\
   ∀x D G,IQ E W0 cx0 ro l nt mk e1 p1 B C x D G->Exit.then K (IQ E W0 cx0 ro l nt mk e I fr' h') x D G:=by
 cases r with
 |bad=>cases N
 |ok e1 p1 B C=>
  refine⟨e1,p1,B,C,rfl,fun x D G U=>?_⟩;obtain⟨rfl,H⟩:=U;cases e1 with
  |normal=>exact hK p1 B C D G rfl N ⟨rfl,H⟩
  |_=>cases N;exact⟨rfl,H⟩
theorem lY(hc:Y8 E P ih)(hl:r7 E P ih)(hY:NR E P W0 cx0 ro l mk Y):∀(k:Nat),
 (∀(c:Code)(ic:IC)(p D:Option Ex)(a:Act)(W:World)(cx:Cx)(fr fr':Tr)(h h':Vg)(e:Ex),fx c=zs ic->evI E ih nt Y k ic p fr h=.ok e D fr' h'->dh W cx a.tmps fr->SI l nt a->LA W0 cx0 ro l (nZ mk p) W cx->Sat E W cx h->c.wpIn (WF zn) 0 P (IQ E W0 cx0 ro l nt mk e D fr' h') a W)/\
 (∀(c:Code)(ic:IC)(p D:Option Ex)(a:Act)(W:World)(cx:Cx)(fr fr':Tr)(h h':Vg)(e:Ex),fx c=zs ic->evI E ih nt Y k (.loop ic) p fr h=.ok e D fr' h'->dh W cx a.tmps fr->SI l nt a->LA W0 cx0 ro l (nZ mk p) W cx->Sat E W cx h->Code.roundsIn (WF zn) 0 P c (IQ E W0 cx0 ro l nt mk e D fr' h') k a W)
 |0=>⟨(fun c ic p D a W cx fr fr' h h' e _ B=>by cases B),(fun c ic p D a W cx fr fr' h h' e _ B=>by cases B)⟩
 |k + 1=>by
  obtain ⟨ad,ihl⟩:=lY hc hl hY k;have round:∀(c:Code)(ic:IC)(p D:Option Ex)(a:Act)(W:World)(cx:Cx)(fr fr':Tr)(h h':Vg)(e:Ex),fx c=zs ic->evI E ih nt Y (k+1) (.loop ic) p fr h=.ok e D fr' h'->dh W cx a.tmps fr->SI l nt a->LA W0 cx0 ro l (nZ mk p) W cx->Sat E W cx h->Code.roundsIn (WF zn) 0 P c (IQ E W0 cx0 ro l nt mk e D fr' h') (k+1) a W:=by
   intro c ic p D a W cx fr fr' h h' e C B hf hS la U;obtain⟨e1,p1,G,h1,N,I⟩:=IQ.seq (E:=E) (W0:=W0) (cx0:=cx0) (ro:=ro) (l:=l) (nt:=nt) (mk:=mk) (k:=evI E ih nt Y k) (b:=.loop ic) (r:=evI E ih nt Y k ic p fr h) (K:=Code.roundsIn (WF zn) 0 P c (IQ E W0 cx0 ro l nt mk e D fr' h') k) B
    (fun p1 G h1 a1 w1 _ hk I=>by obtain⟨_,ab,V,af,X,aa⟩:=I;grind)
   rw[roundsIn_succ];exact wpIn_mono (ad c ic p p1 a W cx fr G h h1 e1 C N hf hS la U) I
  refine⟨fun c ic p D a W cx fr fr' h h' e C B hf hS la U=>?_,round⟩;cases c with
  |skip=>cases C;cases B;exact wpIn_skip ⟨rfl,hS,cx,la,U,hf⟩
  |exit i=>cases C;cases B;exact wpIn_exit ⟨rfl,hS,cx,la,U,hf⟩
  |ret=>cases C;cases B;exact wpIn_ret ⟨rfl,hS,cx,la,U,hf⟩
  |region id ops draw=>
   cases draw with
   |false=>
    have C:w9 ops.toList=zs ic:=C;rcases qr C with⟨H,rfl⟩|⟨p0,m,p1,y,p2,yt,yd,args,hp,rfl⟩
    . obtain⟨G,h1,N,B⟩:=w6 (show J1 (n8 p) (ih (eq ops.toList ops.toList) fr h)=.ok e D fr' h' from B)
      cases B;exact aN hl (SI.calm H) hf hS U N fun a1 W1 V ae X aa ab=>⟨rfl,ab,V,la.mono ae,X,aa⟩
    grind[oA]
   |true=>
    have C:(bif V6 [0] ops.toList then zs (IC.reg (xc (.region id ops zt)))else zn)=zs ic:=C;cases H:V6 [0] ops.toList with
    |false=>grind
    |true=>
     rw[H]at C;cases C;obtain⟨G,h1,N,B⟩:=w6 (show J1 (n8 p) (ih (xc (.region id ops zt)) fr h)=.ok e D fr' h' from B);cases B;refine wpIn_mono (hc zn (fun _ _ a=>SI l nt a) (.region id ops zt) W cx a fr h (fun _ _ _ _ _ _ h=>h) (fun i o ho _ _=>(by grind[Go.AM.SI.calm])) hf hS U (by grind)) fun x a1 w1 I=>?_
     rw[N]at I;obtain⟨V,ae,ab,rfl,X,aa⟩:=I;exact⟨rfl,ab,V,la.mono ae,X,aa⟩
  |seq x y=>
   obtain ⟨ix,iy,h1,h2,rfl⟩:=Xn (show rO .seq (fx x) (fx y)=zs ic from C);obtain⟨e1,p1,G,ac,N,I⟩:=IQ.seq (E:=E) (W0:=W0) (cx0:=cx0) (ro:=ro) (l:=l) (nt:=nt) (mk:=mk) (k:=evI E ih nt Y k) (b:=iy) (r:=evI E ih nt Y k ix p fr h) (K:=y.wpIn (WF zn) 0 P (IQ E W0 cx0 ro l nt mk e D fr' h')) B
    (fun p1 G ac a1 w1 _ hk I=>by obtain⟨_,ab,V,af,X,aa⟩:=I;grind)
   grind[wpIn_seq,wpIn_mono]
  |cond x c d=>
   obtain⟨ix,iy,h1,h2,rfl⟩:=Xn (show rO (.cond x) (fx c) (fx d)=zs ic from C);have B:(opv E x fr).onBool .bad (fun t=>match t with|true=>evI E ih nt Y k ix p fr h|false=>evI E ih nt Y k iy p fr h)=.ok e D fr' h':=B;have hx:=W7 (E:=E) U hf x;cases hv:opv E x fr with
   |bool t=>
    rw[hv]at B hx;cases t with
    |true=>exact wpIn_cond_true hx.bool_inv (ad c ix p D a W cx fr fr' h h' e h1 B hf hS la U)
    |false=>exact wpIn_cond_false hx.bool_inv (ad d iy p D a W cx fr fr' h h' e h2 B hf hS la U)
   |_=>rw[hv]at B;cases B
  |block i x=>
   obtain⟨ix,h1,rfl⟩:=Option.map_eq_some_iff.1 (show(fx x).map (.block i)=zs ic from C);have B:Js i (evI E ih nt Y k ix p fr h)=.ok e D fr' h':=B;cases I:evI E ih nt Y k ix p fr h with
   |bad=>rw[I]at B;cases B
   |ok e1 p1 G ac=>
    rw[I]at B;refine wpIn_block (wpIn_mono (ad x ix p p1 a W cx fr G h ac e1 h1 I hf hS la U) fun ex a1 w1 hi=>?_);obtain⟨rfl,hi⟩:=hi;cases e1 with
    |exit j=>
     have B:(bif Nat.beq j i then gn.ok .normal p1 G ac else .ok (.exit j) p1 G ac)=.ok e D fr' h':=B;show if j=i then _ else _
     by_cases hj:j=i
     . subst hj
       rw[Nat.beq_refl]at B;cases B;rw[if_pos rfl];exact⟨rfl,hi⟩
     . rw[Vg.beq_false hj]at B
       cases B;rw[if_neg hj];exact⟨rfl,hi⟩
    |_=>cases B;exact⟨rfl,hi⟩
  |loop x=>
   obtain⟨ix,h1,rfl⟩:=Option.map_eq_some_iff.1 (show(fx x).map .loop=zs ic from C);grind[wpIn_loop_rounds]
  |_=>cases C
def ItQ(E:Env)(W0:World)(cx0:Cx)(ro:Option Nat)(l:Nat)(mk:LoopState->Option Code->Loop)(e:Ex)(h':Vg)(ex:Exit)(a:Act)(w:World):Prop:=
 (ex=.normal\/ex=.ret)/\a.defers=[]/\∃cx',LA W0 cx0 ro l (Ik mk e) w cx'/\Sat E w cx' h'
theorem wR(hc:Y8 E P ih)(hl:r7 E P ih){c:Code}{ic:IC}(U:fx c=zs ic)(V:NR E P W0 cx0 ro l mk Y){caps:List AV}{e:Ex}{fr':Tr}{h h':Vg}(B:itM E ih (.itf ic) nt caps Y h=.ok e fr' h')
 {a:Act}{W:World}{cx:Cx}(hf:dh W cx a.tmps (Tr.enter nt (.any::caps)))(hS:SI l nt a)(la:LA W0 cx0 ro l (mk .ready zn) W cx)(hs:Sat E W cx h):c.wpIn (WF zn) 0 P (ItQ E W0 cx0 ro l mk e h') a W:=by
 have B:wh (evI E ih nt Y je ic zn (Tr.enter nt (.any::caps)) h)=.ok e fr' h':=B;cases N:evI E ih nt Y je ic zn (Tr.enter nt (.any::caps)) h with
 |bad=>rw[N]at B;cases B
 |ok e1 p1 I X=>
  rw[N]at B;refine wpIn_mono ((lY hc hl V je).1 c ic zn p1 a W cx _ I h X e1 U N hf hS la hs) fun ex a1 w1 hi=>?_
  obtain⟨rfl,C,D,G,H,_⟩:=hi;cases e1 with
  |exit j=>cases B
  |normal=>cases B;exact⟨.inl rfl,C.1,D,G,H⟩
  |ret=>cases B;exact⟨.inr rfl,C.1,D,G,H⟩
end
end
end Go.AM
/-
 The abstract machine: a range over a function,walked.
-/
namespace Go.AM
section
variable {P:Program}{E:Env}{ih:E9}
theorem aO:∀(l:List Nat),HM l=lz l
 |[]=>rfl
 |_::r=>congrArg Nat.succ (aO r)
theorem Xo{W:World}{cx:Cx}:∀(ps:List Tmp)(vs:List Value)(l:List AV)(tmps:Array Value)(fr:Tr),fc W cx vs l->dh W cx tmps fr ->
 dh W cx ((ps.zip vs).foldl (fun tmps (p:Tmp×Value)=>tmps.setIfInBounds p.1 p.2) tmps) (pj ps l fr)
 |[],vs,l,tmps,fr,_,hf=>hf
 |p::ps,[],l,tmps,fr,hv,hf=>by
  cases l with
  |nil=>exact hf
  |cons x l=>have:=hv.1;simp at this
 |p::ps,v::vs,l,tmps,fr,hv,hf=>by
  cases l with
  |nil=>have:=hv.1;simp at this
  |cons x l=>
   show dh W cx ((ps.zip vs).foldl _ (tmps.setIfInBounds p v)) (pj ps l (fr.set p x))
   refine Xo ps vs l _ _ ⟨by have:=hv.1;grind,fun i u c h1 h2=>hv.2 (i+1) u c (by grind) (by grind)⟩ ?_
   have:=dh.put (a:=⟨tmps,[]⟩) hf (zs p) (hv.2 0 v x rfl rfl)
   exact this
def iJ(fn:FuncId)(tmps:Array Value)(ps:Array Tmp)(ca cb:Code)(B:Nat)(st:LoopState)(C:Option Code):Loop:=
 {state:=st,pending:=C,fn,tmps,params:=ps,assign:=ca,body:=cb,defers:=B}
theorem qS(hc:Y8 E P ih){W0:World}{cx0:Cx}{ro:Option Nat}{l:Nat}{fn:FuncId}{tmps:Array Value}{ps:Array Tmp}{ca cb:Code}{D:Nat}{G:Tr}(ad:dh W0 cx0 tmps G):
 NR E P W0 cx0 ro l (iJ fn tmps ps ca cb D) (ee ih ps.toList (xc ca) (xc cb) G):=by
 intro vs args W cx h e fr' h' hr X hs hv;obtain⟨aa,hr⟩:=dK hr;obtain⟨af,h1,ag,ah⟩:=qR hr;have hsz:vs.size=ps.size:=by
  have h1:=D8 aa;rw[A4,aO]at h1;have h2:=hv.1;grind
 refine ⟨fn,_,ca,cb,run_yield X.rcd hsz,roundIn_of_wpIn trivial ?_⟩;have hf:dh W cx ((ps.zip vs).foldl (fun tmps (p:Tmp×Value)=>tmps.setIfInBounds p.1 p.2) tmps) (pj ps.toList args G):=by
  have:=Xo ps.toList vs.toList args tmps G hv (ad.mono X.ext)
  grind[Array.toList_zip]
 show ca.wpIn (WF (zs l)) 0 P _ _ W
 refine wpIn_mono (hc (zs l) (DR l (iJ fn tmps ps ca cb D .ready zn)) ca W cx ⟨_,[]⟩ _ h (DR.mono l _) (m5 (DR.stab l _) (DR.rf l _) ca) hf ⟨rfl,X.held,X.rcd⟩ hs (by grind)) fun x a1 w1 hp=>?_
 rw[ag]at hp;obtain⟨ai,ab,aj,rfl,U,ak⟩:=hp;have H:=X.mono ab;refine⟨_,run_beginRound H.rcd rfl,?_⟩;have e0:=H.ext0 (st':=iJ fn tmps ps ca cb D .busy zn) U;have I:=H.put (st':=iJ fn tmps ps ca cb D .busy zn) U;have ae:=U.putHeld H.held e0;show cb.wpIn (WF (zs l)) 0 P _ a1 (w1.putObj l (.loop (iJ fn tmps ps ca cb D .busy zn)))
 refine wpIn_mono (hc (zs l) (DR l (iJ fn tmps ps ca cb D .busy zn)) cb _ ai a1 af h1 (DR.mono l _) (m5 (DR.stab l _) (DR.rf l _) cb) (ak.mono0 e0) ⟨aj.1,I.held,I.rcd⟩ ae (by grind)) fun x a3 w3 hp=>?_
 rw [ah]at hp;obtain⟨C,ac,hd3,rfl,V,hf3⟩:=hp;have B:=I.mono ac;have N:∀st,st=Ik (iJ fn tmps ps ca cb D) e->LA W0 cx0 ro l (Ik (iJ fn tmps ps ca cb D) e) (w3.putObj l (.loop st)) C/\Ext0 W cx (w3.putObj l (.loop st)) C/\Sat E (w3.putObj l (.loop st)) C h':=fun st e=>by
  subst e;have e4:=B.ext0 (st':=Ik (iJ fn tmps ps ca cb D) e) V;exact⟨B.put V,((ab.toExt0.trans e0).trans ac.toExt0).trans e4,V.putHeld B.held e4⟩
 cases e with
 |normal=>exact⟨_,_,run_endRound zn B.rcd,rfl,C,N _ rfl⟩
 |exit i=>exact⟨_,_,run_endRound (zs (.exit i)) B.rcd,rfl,C,N _ rfl⟩
 |ret=>exact⟨_,_,run_endRound (zs .ret) B.rcd,rfl,C,N _ rfl⟩
theorem qT{W:World}{cx:Cx}{h:Vg}{ro:Option Nat}{D:DP}(U:Dy D)(B:nW ro D){a:Act}(G:D W cx a)(I:Sat E W cx h)(fn:FuncId)(ps:Array Tmp)(ca cb:Code):
 ∃ l mk W1 cx1 dd,(Instr.enterLoop fn a.tmps ps ca cb ro).run P W=.ok (l,mk) W1/\LA W cx ro l (iJ fn a.tmps ps ca cb dd .ready zn) W1 cx1/\Sat E W1 cx1 h/\
   ∀W' cx' st,LA W cx ro l st W' cx'->D W' cx' {a with defers:=mk++a.defers}:=by
 cases ro with
 |none=>
  refine⟨W.heap.size+1,[iN W.heap.size],_,((cx.lay W.heap.size).lay (W.alloc (.deferred (zs []))).heap.size),W.heap.size,run_enterLoop_outer fn a.tmps ps ca cb,?_,(I.lay _).lay _,?_⟩
  . have e1:=Ext.lay W cx (.deferred (zs []))
    have e2:=Ext.lay (W.alloc (.deferred (zs []))) (cx.lay W.heap.size) (.loop (iJ fn a.tmps ps ca cb W.heap.size .ready zn));refine⟨e1.trans e2,.inr (by simp),?_,fun _=>⟨.inl (.inr rfl),?_⟩,Nat.le_succ _,fun _=>Nat.succ_ne_self _⟩
    . grind[iJ,K7,World.size_alloc]
    grind[cw,K7]
  . intro W' cx' st C
    obtain⟨V,N⟩:=C.blk rfl;exact B W cx a W' cx' _ G C.ext (zqd _) (O8 N) V N
 |some l0=>
  obtain⟨X,H⟩:=B W cx a G;refine⟨W.heap.size,[],_,cx.lay W.heap.size,X.defers,run_enterLoop_inner H fn a.tmps ps ca cb,?_,I.lay _,?_⟩
  . exact⟨Ext.lay W cx _,.inr rfl,K7 W _,(fun e=>by cases e),zqd _,(fun e=>by cases e)⟩
  . intro W' cx' st C
    exact U _ _ _ _ _ C.ext G
theorem ph{x:Option FM}{y:FM}{m:FM}(h:NU x y=m):x=zs m\/(x=zn/\y=m):=by
 cases x with
 |none=>exact .inr ⟨rfl,h⟩
 |some z=>cases h;exact .inl rfl
theorem Ea{c:Code}{m:FM}(h:Ss c=zs m):∃id o o' rest d d2 ops,c=.seq (.region id ops zf) rest/\ops.toList=[o,o']/\e0w o=zs d/\e0x d o'=zs d2/\V7 [] rest=zt/\m=.rcv d d2 (xc rest):=by
 unfold Ss at h;grind
theorem Eb{rs:List ResultVar}{x:DfC}{m:FM}(h:Sr rs x=zs m):∃o r g,x.ops.toList.reverse=o::r/\a02 o=zs g/\mF [] r.reverse=zt/\x.pre.all (V7 [])=zt/\V7 (rs.map Ct) x.rest=zt/\m=.dfr (x.pre.map xc++[eq x.ops.toList r.reverse]) g (xc x.rest):=by
 unfold Sr at h;grind
theorem lm{rs:List ResultVar}{c:Code}{m:FM}(h:a04 rs c=m):
 (Lj rs=zt/\Ss c=zs m)\/(∃x,ku c=zs x/\Sr rs x=zs m)\/(∃x,fx c=zs x/\Lj rs=zt/\m=.itf x)\/m=.plain:=by
 unfold a04 at h;rcases ph h with h|⟨_,h⟩
 . grind
 . rcases ph h with h|⟨_,h⟩
   . grind
   . rcases ph h with h|⟨_,h⟩
     . grind
     grind
theorem Ky {f : FuncId} {fn : Func} {c : Code} (h1 : P.funcs[f]? = zs fn) (h2 : fn.body = zs c) (h3 : (fn.name == "runtime.NumGoroutine") = zf) (args : Array Value) (w : World) : (callFunc f args).run P w = .ok (.enter f args) w := by
 simp_all[callFunc]
theorem iP{W:World}{cx:Cx}{v:Value}{f:Nat}{caps:List AV}(h:Rep W cx v (.fn (.func f) [] caps)):∃ws,v=.func (.func f) #[] ws/\fc W cx ws.toList caps:=by
 cases h with
 |fn f vs ws cs ds hl hl' h h'=>
  have:vs=#[]:=(by grind)
  subst this;exact⟨ws,rfl,⟨by grind,(by grind)⟩⟩
theorem Sf{l:List AV}(h:gv l=zt):l=[]:=by cases l;rfl;cases h
theorem jt{l:List ResultVar}(h:Lj l=zt):l=[]:=by cases l;rfl;cases h
theorem qU{ps:List Tmp}{xa xb:XC}{fr:Tr}{h:Vg}{g:AV}(hb:qq E ih ps xa xb fr h g≠.bad):
 ∃f caps B e fr' h',g=.fn (.func f) [] caps/\E.fn f=zs B/\lz caps+1<=B.ntmps/\itM E ih B.mode B.ntmps caps (ee ih ps xa xb fr) h=.ok e fr' h'/\qq E ih ps xa xb fr h g=.ok e fr h':=by
 cases g with
 |fn f first caps=>
  cases f with
  |func n=>
   have e:qq E ih ps xa xb fr h (.fn (.func n) first caps)=bif gv first then mz fr (itF E ih n caps (ee ih ps xa xb fr) h)else .bad:=rfl
   rw[e]at hb|-;cases hn:gv first with
   |false=>grind
   |true=>
    rw[hn]at hb
    have:=Sf hn
    subst this;simp only[cond_true]at hb|-;cases D:itF E ih n caps (ee ih ps xa xb fr) h with
    |ok ex fr' h'=>
     unfold itF at D;cases hf:E.fn n with
     |none=>grind
     |some B=>
      rw[hf]at D;obtain⟨C,G⟩:=dK D;have C:=C5 C;rw[A4]at C;exact⟨n,caps,B,ex,fr',h',rfl,hf,C,G,rfl⟩
    |_=>rw[D]at hb;exact absurd rfl hb
  |_=>exact absurd rfl hb
 |_=>exact absurd rfl hb
theorem qV{B:FM}{nt:Nat}{caps:List AV}{Y:List AV->Vg->cz}{h:Vg}{e:Ex}{fr':Tr}{h':Vg}(C:itM E ih B nt caps Y h=.ok e fr' h'):∃c,B=.itf c:=by
 cases B with
 |itf c=>grind
 |_=>cases C
theorem oB(hE:dn E P)(hc:Y8 E P ih)(hl:r7 E P ih){ro:Option Nat}{D:DP}{g:Operand}{ps:Array Tmp}{ca cb:Code}{W:World}{cx:Cx}{a:Act}{fr:Tr}{h:Vg}(hD:Dy D)(ah:nW ro D)(hf:dh W cx a.tmps fr)(hd:D W cx a)(hs:Sat E W cx h)
 (hb:qq E ih ps.toList (xc ca) (xc cb) fr h (opv E g fr)≠.bad):(Code.rangeFunc g ps ca cb).wpIn (WF ro) 0 P (X9 E W cx D (qq E ih ps.toList (xc ca) (xc cb) fr h (opv E g fr))) a W:=by
 obtain ⟨f,caps,fi,e,fr',h',hg,al,ad,H,ae⟩:=qU hb;have U:=W7 (E:=E) hs hf g;rw[ae];rw[hg]at U;obtain⟨ws,U,G⟩:=iP U;obtain⟨fn,c,h1,h2,h3,h4,h5,h6,h7⟩:=hE.fn f fi al;obtain⟨ic,aa⟩:=qV H;have⟨ai,aj⟩:fx c=zs ic/\Lj fn.results.toList=zt:=by
  rcases lm h7.symm with⟨_,h⟩|⟨x,_,h⟩|⟨x,h1,h2,h⟩|h
  . grind[Ea]
  . grind[Eb]
  . grind
  grind
 rw[aa]at H;refine wpIn_rangeFunc fun C _=>?_
 obtain⟨l,mk,W1,am,dd,an,la,ao,af⟩:=qT (P:=P) hD ah hd hs C ps ca cb;have eg:=Ky h1 h2 h3;refine⟨l,mk,W1,{target:=.fn (.func f) ws,args:=#[Y0 l]},W1,f,#[Y0 l]++ws,W1,an,?_,fun _ _=>trivial,?_,fun h=>by simp[WF,Fence.wide]at h,?_⟩
 . simp[resolve,rangeCall,U,Deferred.ofValue,Y0,show ∀v,a.eval (.const v)=v from fun _=>rfl]
 . simp[invoke,eg]
 . refine La.2 (La (ro:=zn) (n:=0).1 (callsIn_of_wp (F:=WF zn) (n:=0) h1 h2 trivial ?_ rfl))
   have V:fc W1 am (#[Y0 l]++ws).toList (.any::caps):=by
    have:=G.mono la.ext
    simpa using fc.cons (Rep.any (Y0 l) rfl) this
   have hsz:ws.size=lz caps:=by have:=G.1;grind
   have ab:=Gu V (n:=fi.ntmps) (by simpa using ad);rw[h5]at ab H ad;refine wpIn_mono (wR hc hl ai (qS hc hf) H (a:=⟨#[Y0 l]++ws++zqa (fn.ntmps-(#[Y0 l]++ws).size) undef,[]⟩) ab ⟨rfl,by simp[Array.getD],by simp;omega⟩ la ao) fun ex a' w' hq=>?_
   obtain ⟨aq,ag,cx',I,N⟩:=hq;have B:∃v,(results fn a'.tmps).run P w'=.ok v w':=by
    obtain⟨v,U,_⟩:=V4 (P:=P) (fr:=.nil) (tmps:=a'.tmps) (fn:=fn) (vs:=[]) hE N (by grind[Go.AM.jt]) (by rw[jt aj];rfl);grind
   obtain ⟨v,U⟩:=B;have ac:rangePost (WF ro) 0 P l (X9 E W cx D (.ok e fr h')) {a with defers:=mk++a.defers} (.returned v) w':=by
    have nb:(Ik (iJ C a.tmps ps ca cb dd) e).state≠.busy:=by cases e<;>exact fun e=>by cases e
    have e4:=I.ext0 (st':={Ik (iJ C a.tmps ps ca cb dd) e with state:=.exhausted}) N;have X:=I.put (st':={Ik (iJ C a.tmps ps ca cb dd) e with state:=.exhausted}) N;have ak:=N.putHeld I.held e4;refine⟨_,_,run_endLoop I.rcd nb,?_⟩;have post:X9 E W cx D (.ok e fr h') (bH e) {a with defers:=mk++a.defers} (w'.putObj l (.loop {Ik (iJ C a.tmps ps ca cb dd) e with state:=.exhausted})):=
     ⟨cx',X.ext,af _ _ _ X,rfl,ak,hf.mono X.ext⟩
    cases e with
    |normal=>exact post
    |exit i=>exact wpIn_exit post
    |ret=>exact wpIn_ret post
   rcases aq with rfl|rfl
   . exact⟨ag,v,U,ac⟩
   . exact⟨ag,v,U,ac⟩
end
end Go.AM
/-
 The abstract machine: functions that defer a call which recovers; calls; code.
-/
namespace Go.AM
section
variable {P:Program}{E:Env}
theorem Xp{E:Env}{rs:List ResultVar}{fr:Tr}{h:Vg}(hb:Li (G0 E rs fr h) h≠.bad):∃vs,G0 E rs fr h=zs vs/\Li (G0 E rs fr h) h=.ok (cj vs) h:=by
 cases B:G0 E rs fr h with
 |none=>rw[B]at hb;exact absurd rfl hb
 |some vs=>exact⟨vs,rfl,rfl⟩
theorem Ec{cx:Cx}{fn:Func}{tmps:Array Value}{R:Ending->World->Prop}{J:World->Prop}{B:Nat}{u:FrameMode}(C:u≠.run)
 (hJ:∀W r,J W->B<=r->cx.held r->W.heap[r]?=zs (.deferred (zs []))->J (W.putObj r (.deferred zn)))
 (hend:∀W,J W->LeavesInM (WF zn) 0 P fn tmps R [] u W):∀(rs:List Nat)(W:World),rs.Nodup->(∀r∈rs,B<=r/\cx.held r/\W.heap[r]?=zs (.deferred (zs [])))->J W->LeavesInM (WF zn) 0 P fn tmps R (rs.map iN) u W
 |[],W,_,_,hj=>hend W hj
 |r::rs,W,hn,hr,hj=>by
  obtain⟨G,H,D⟩:=hr r (List.mem_cons_self ..);obtain⟨hnr,hn⟩:=List.nodup_cons.1 hn;refine⟨C,.inl ⟨r,_,rfl,run_takeDeferred D,?_⟩⟩;refine Ec C hJ hend rs _ hn (fun r' hr'=>?_) (hJ W r hj G H D);grind[World.putObj_heap_other]
theorem wS{x:Option (List Deferred)}:Re (.deferred x):=fun _ _ _ e=>by cases e
theorem Sg(hE:dn E P){ih:E9}(hc:Y8 E P ih){f:Nat}{fn:Func}{c:Code}(h1:P.funcs[f]?=zs fn)(h2:fn.body=zs c){args:Array Value}{l:List AV}{W:World}{cx:Cx}{h:Vg}(hl:fc W cx args.toList l)(hn:lz l<=fn.ntmps)(hs:Sat E W cx h)
 (hb:J0 E fn.results.toList (ih (xc c) (Tr.enter fn.ntmps l) h)≠.bad):Calls P f args W ((J0 E fn.results.toList (ih (xc c) (Tr.enter fn.ntmps l) h)).Post E W cx):=by
 have X:=Gu hl hn;have aa:ih (xc c) (Tr.enter fn.ntmps l) h≠.bad:=fun e=>by rw[e]at hb;exact hb rfl
 refine La.1 (callsIn_of_wp_marks (F:=WF zn) (n:=0) h1 h2 trivial (wpIn_mono (hc zn (D0 W.heap.size) c W cx ⟨_,[]⟩ _ h (D0.mono _) (m5 (D0.stab _) (D0.push _) c) X ⟨zqd _,[],rfl,List.nodup_nil,by simp⟩ hs aa) fun x a w V=>?_) rfl);obtain⟨cx',he,⟨h0,rs,N,U,hmk⟩,V⟩:=V;have D:∀r∈rs,W.heap.size<=r/\cx'.held r/\w.heap[r]?=zs (.deferred (zs [])):=(by grind)
 generalize ih (xc c) (Tr.enter fn.ntmps l) h=r at *;cases r with
 |bad=>grind
 |pan v h'=>
  obtain⟨vv,rfl,h7,h8⟩:=V;show LeavesInM (WF zn) 0 P fn a.tmps _ a.defers (.panicking _) w
  rw[N];refine Ec (J:=fun w=>Ext W cx w cx'/\Sat E w cx' h'/\Rep w cx' vv v) (fun e=>by cases e) (fun w r B G C H=>?_) (fun w B=>?_) rs w U D ⟨he,h7,h8⟩
  . have I:=Ext0.putHeld (o:=.deferred zn) B.2.1 C H wS wS
    exact⟨B.1.putHi G I,B.2.1.putHeld C I,B.2.2.mono0 I⟩
  . exact⟨cx',vv,rfl,B.1,B.2.1,B.2.2⟩
 |ok e fr h'=>
  obtain ⟨rfl,h7,h8⟩:=V;have ab:Li (G0 E fn.results.toList fr h') h'≠.bad->LeavesInM (WF zn) 0 P fn a.tmps ((Li (G0 E fn.results.toList fr h') h').Post E W cx) a.defers .returning w:=by
   intro hb;obtain⟨vs,hr,ac⟩:=Xp hb;rw[N,ac];refine Ec (J:=fun w=>Ext W cx w cx'/\Sat E w cx' h'/\dh w cx' a.tmps fr) (fun e=>by cases e) (fun w r B G C H=>?_) (fun w B=>?_) rs w U D ⟨he,h7,h8⟩
   . have I:=Ext0.putHeld (o:=.deferred zn) B.2.1 C H wS wS
     exact⟨B.1.putHi G I,B.2.1.putHeld C I,B.2.2.mono0 I⟩
   . obtain⟨v,h9,ad⟩:=V4 (P:=P) hE B.2.1 (fun x _=>B.2.2.rep _) hr
     exact⟨v,h9,cx',B.1,B.2.1,ad⟩
  cases e with
  |exit i=>exact absurd rfl hb
  |_=>exact ab hb
theorem oC(hE:dn E P){f:Nat}(ht:E.told f=zt){args:Array Value}{l:List AV}{W:World}{cx:Cx}{h:Vg}(hl:fc W cx args.toList l)(hs:Sat E W cx h)(hb:pi l h≠.bad):
 (∃ fn c, P.funcs[f]? = zs fn ∧ fn.body = zs c ∧ (fn.name == "runtime.NumGoroutine") = zf) ∧ Calls P f args W ((pi l h).Post E W cx) := by
 obtain⟨g,fn,c,hg,h1,h2,h3,h4⟩:=hE.told f ht;refine⟨⟨fn,c,h1,h2,h3⟩,?_⟩;obtain⟨⟨m,hm⟩,_,_⟩:=hs.gl.int g hg;cases l with
 |nil=>exact absurd rfl hb
 |cons x r=>
  cases r with
  |nil=>exact absurd rfl hb
  |cons y r=>
   have e:pi (x::y::r) h=bif gv r then x.onStr .bad (fun s=>y.onStr .bad fun p=>bif Nat.ble (r8 s) 4000000000||sn p then(match gw p s with|true=>.ok (.bool zt) h|false=>.ok (.bool zf) h)else .bad)else .bad:=rfl;rw[e]at hb|-;cases hn:gv r with
   |false=>grind
   |true=>
    rw[hn]at hb
    have:=Sf hn
    subst this;simp only[cond_true]at hb|-;cases x with
    |str s=>
     cases y with
     |str p=>
      have hb:(bif Nat.ble (r8 s) 4000000000||sn p then(match gw p s with|true=>Res.ok (.bool zt) h|false=>.ok (.bool zf) h)else .bad)≠.bad:=hb;show Calls P f args W ((bif Nat.ble (r8 s) 4000000000||sn p then(match gw p s with|true=>Res.ok (.bool zt) h|false=>.ok (.bool zf) h)else .bad).Post E W cx)
      cases hle:(Nat.ble (r8 s) 4000000000||sn p)with
      |false=>grind
      |true=>
       have hle:lz s<=4000000000\/lz p=1:=by
        rcases Bool.or_eq_true_iff.1 hle with h1|h1
        . simp_all[u7]
        . cases p with
          |nil=>cases h1
          | cons a q=>cases q with
           |nil=>grind
           |cons b q=>cases h1
       obtain ⟨v1,hv1,hr1⟩:=hl.get (i:=0) rfl;obtain⟨v2,hv2,hr2⟩:=hl.get (i:=1) rfl;obtain⟨s',rfl,hs'⟩:=hr1.str_inv;obtain⟨p',rfl,hp'⟩:=hr2.str_inv;have hargs:args=#[.string s',.string p']:=by
        have hlen:args.size=2:=by have:=hl.1;grind
        grind
       subst hargs;have hsz:s'.size<4294967281\/p'.size=1:=by
        rcases hle with hle|hle
        . have:s'.size=lz s'.data.toList:=by simp
          grind
        . have:p'.size=lz p'.data.toList:=by simp
          grind
       refine(h4 s' p' m W hsz hm).mono fun en w' he=>?_
       obtain⟨rfl,rfl⟩:=he;simp only[cond_true];rw[hs',hp'];cases gw p s with
       |_=>exact⟨cx,Ext.refl _ _,hs,.bool _⟩
     |_=>exact absurd rfl hb
    |_=>exact absurd rfl hb
theorem Ed{o:Oper}{f:Nat->Option Bool}(h:o.guard=zn):Region.wanted o f=zt:=by unfold Region.wanted;rw[h]
theorem oD{o:Oper}{d:Tmp}(h:e0w o=zs d):∃D C,o.op=.call ⟨.builtin .recover,D,C⟩/\D.toList=[]/\o.guard=zn/\o.dst=zs d:=by
 obtain⟨dst,op,type,pos,after,guard⟩:=o;unfold e0w at h;cases op with
 |call c=>
  obtain⟨B,D,C⟩:=c;cases B with
  |builtin b=>
   cases b with
   |recover=>
    replace h:(bif isNone guard&&(match D.toList with|[]=>zt|_=>zf)then dst else zn)=zs d:=h
    cases hc:(isNone guard&&(match D.toList with|[]=>zt|_=>zf))with
    |false=>grind
    |true=>
     rw[hc]at h;rw[zqc]at hc;refine⟨D,C,rfl,?_,isNone_none hc.1,h⟩;grind
   |_=>cases h
  |_=>cases h
 |_=>cases h
theorem oE{o:Oper}{d d2:Tmp}(h:e0x d o=zs d2):o.op=.assign (.tmp d)/\o.guard=zn/\o.dst=zs d2:=by
 obtain⟨dst,op,type,pos,after,guard⟩:=o;unfold e0x at h;cases op with
 |assign x=>
  cases x with
  |tmp t=>
   replace h:(bif Nat.beq t d&&isNone guard then dst else zn)=zs d2:=h
   cases hc:(Nat.beq t d&&isNone guard)with
   |false=>grind
   |true=>
    rw[hc]at h;rw[zqc]at hc;obtain⟨B,C⟩:=hc
    have:=D8 B
    subst this;exact⟨rfl,isNone_none C,h⟩
  |_=>cases h
 |_=>cases h
theorem oF{o:Oper}{g:Operand}(h:a02 o=zs g):∃D C,o.op=.defer ⟨.value g,D,C⟩/\D.toList=[]/\o.guard=zn/\o.dst=zn:=by
 obtain⟨dst,op,type,pos,after,guard⟩:=o;unfold a02 at h;cases op with
 |defer c=>
  obtain⟨B,D,C⟩:=c;cases B with
  |value x=>
   replace h:(bif isNone guard&&isNone dst&&(match D.toList with|[]=>zt|_=>zf)then zs x else zn)=zs g:=h
   cases hc:(isNone guard&&isNone dst&&(match D.toList with|[]=>zt|_=>zf))with
   |false=>grind
   |true=>
    rw[hc]at h;cases h;rw[zqc,zqc]at hc;refine⟨D,C,rfl,?_,isNone_none hc.1.1,isNone_none hc.1.2⟩;grind
  |_=>cases h
 |_=>cases h
inductive Mode:FrameMode->FrameMode->Value->Prop
 |ret:Mode .returning .returning .nilIface
 |pan (v:Value):Mode (.panicking [{v:=v,recovered:=zf}]) (.panicking [{v:=v,recovered:=zt}]) v
theorem Mode.settle{u B:FrameMode}{v:Value}(h:Mode u B v):Go.settle B=.returning:=by
 cases h with
 |ret=>rfl
 |pan v=>simp[Go.settle]
theorem dL{ih:E9}{x p:AV}{h h':Vg}{v:AV}(B:Du E ih x p h=.ok v h'):∃f caps C d d2 rest e fr',x=.fn (.func f) [] caps/\E.fn f=zs C/\lz caps<=C.ntmps/\C.results=[]/\C.mode=.rcv d d2 rest/\d<C.ntmps/\(e=.normal\/e=.ret)/\
 ih rest (((Tr.enter C.ntmps caps).set d p).set d2 p) h=.ok e fr' h':=by
 cases x with
 |fn f first caps=>
  cases f with
  |func n=>
   have B:(bif gv first then Sp E ih n caps p h else .bad)=.ok v h':=B;cases hn:gv first with
   |false=>grind
   |true=>
    rw[hn]at B
    have:=Sf hn
    subst this;have B:Sp E ih n caps p h=.ok v h':=B;unfold Sp at B;cases hf:E.fn n with
    |none=>grind
    |some C=>
     rw[hf]at B;dsimp only at B;cases hc:(Nat.ble (dw caps) C.ntmps&&Lj C.results)with
     |false=>grind
     |true=>
      rw[hc]at B;rw[zqc]at hc;have N:=C5 hc.1;rw[A4]at N;cases H:C.mode with
      |rcv d d2 rest=>
       rw[H]at B;have B:(bif Nat.blt d C.ntmps then om (ih rest (((Tr.enter C.ntmps caps).set d p).set d2 p) h)else .bad)=.ok v h':=B;cases D:Nat.blt d C.ntmps with
       |false=>grind
       |true =>
       rw[D]at B;simp only[cond_true]at B;cases I:ih rest (((Tr.enter C.ntmps caps).set d p).set d2 p) h with
       |ok e G h1'=>
        rw[I]at B;cases e with
        |exit i=>cases B
        |normal=>cases B;exact⟨n,caps,C,d,d2,rest,_,G,rfl,hf,N,jt hc.2,H,K5 D,.inl rfl,I⟩
        |ret=>cases B;exact⟨n,caps,C,d,d2,rest,_,G,rfl,hf,N,jt hc.2,H,K5 D,.inr rfl,I⟩
       |_=>rw[I]at B;cases B
      |_=>rw[H]at B;cases B
  |_=>cases B
 |_=>cases B
theorem qW(hE:dn E P){ih:E9}(hc:Y8 E P ih){f:Nat}{caps:List AV}{fi:FI}{d d2:Tmp}{rest:XC}{e:Ex}{fr':Tr}{h h':Vg}{p:AV}{pv:Value}{u U:FrameMode}(hu:Mode u U pv)(ak:E.fn f=zs fi)(al:lz caps<=fi.ntmps)(ad:fi.results=[])(hm:fi.mode=.rcv d d2 rest)(hdl:d<fi.ntmps)(he:e=.normal\/e=.ret)
 (hr:ih rest (((Tr.enter fi.ntmps caps).set d p).set d2 p) h=.ok e fr' h'){ws:Array Value}{W:World}{cx:Cx}(hws:fc W cx ws.toList caps)(hp:Rep W cx pv p)(hs:Sat E W cx h):
 CallsDIn (WF zn) 0 P f ws u W fun en u1 w=>u1=U/\∃v,en=.returned v/\∃cx',Ext W cx w cx'/\Sat E w cx' h':=by
 obtain ⟨fn,c,h1,h2,h3,h4,h5,h6,h7⟩:=hE.fn f fi ak;rw[ad]at h6;rw[hm]at h7;have⟨hx1,am⟩:Lj fn.results.toList=zt/\Ss c=zs (.rcv d d2 rest):=by
  grind[lm,Eb]
 obtain⟨id,o,o',C,d',d2',ops,aa,N,ho,au,ab,av⟩:=Ea am;cases av;obtain⟨as,tys,r1,r2,r3,r4⟩:=oD ho;obtain⟨s1,s2,s3⟩:=oE au;have ae:=Gu hws al;rw[h5]at ae hr;refine callsDIn_of_wpSIn h1 h2 trivial fun B cs G=>?_
 rw[aa];refine wpSIn_seq (wpSIn_region ?_);have hsz:ops.size=2:=by have:=congrArg List.length N;grind
 have an:ops[0]?=zs o:=by rw[<-zqb,N];rfl
 have ao:ops[1]?=zs o':=by rw[<-zqb,N];rfl
 rw[hsz];show wpOpsSIn (WF zn) 0 P ops _ [0,1] _ _ _
 have af:∀(a:Act) w,(execOp a.eval o).run P w=.ok .recover w:=fun a w=>by
  simp_all[execOp,resolve,invoke,builtin]
 have ag:∀(a:Act) w,(execOp a.eval o').run P w=.ok (.value (a.tmps.getD d undef)) w:=fun a w=>by
  have:a.eval (.tmp d)=a.tmps.getD d undef:=rfl
  simp[execOp,s1,this]
 have aq:∀(D:List Frame),D={B with mode:=U}::cs ->
  (C.wpSIn (WF zn) 0 P (bodyPostS P fn B cs fun en u1 w=>u1=U/\∃v,en=.returned v/\∃cx',Ext W cx w cx'/\Sat E w cx' h') (((⟨ws++zqa (fn.ntmps-ws.size) undef,[]⟩:Act).put (zs d) pv).put (zs d2) (((⟨ws++zqa (fn.ntmps-ws.size) undef,[]⟩:Act).put (zs d) pv).tmps.getD d undef)) D W):=by
  intro D I;subst I;have ah:dh W cx ((⟨ws++zqa (fn.ntmps-ws.size) undef,[]⟩:Act).put (zs d) pv).tmps ((Tr.enter fn.ntmps caps).set d p):=ae.put (a:=⟨_,[]⟩) (zs d) hp;have hd:Rep W cx (((⟨ws++zqa (fn.ntmps-ws.size) undef,[]⟩:Act).put (zs d) pv).tmps.getD d undef) (((Tr.enter fn.ntmps caps).set d p).get d):=ah.rep d;have ar:dh W cx (((⟨ws++zqa (fn.ntmps-ws.size) undef,[]⟩:Act).put (zs d) pv).put (zs d2) (((⟨ws++zqa (fn.ntmps-ws.size) undef,[]⟩:Act).put (zs d) pv).tmps.getD d undef)).tmps (((Tr.enter fn.ntmps caps).set d p).set d2 p):=by
   have hlt:d<(ws++zqa (fn.ntmps-ws.size) undef).size:=by
    grind
   have:((⟨ws++zqa (fn.ntmps-ws.size) undef,[]⟩:Act).put (zs d) pv).tmps.getD d undef=pv:=by
    show((ws++zqa (fn.ntmps-ws.size) undef).setIfInBounds d pv).getD d undef=pv
    simp_all
   rw[this];exact ah.put (zs d2) hp
  refine wpSIn_of_wpIn rfl (wpIn_mono (hc zn DE C W cx _ _ h DE.mono (V5 (fun d _=>DE.stab d) C ab) ar rfl hs (by grind)) fun x a w hq=>?_);rw[hr]at hq;obtain⟨cx',ai,aj,rfl,ac,_⟩:=hq;have H:∃v,(results fn a.tmps).run P w=.ok v w:=by
   obtain⟨v,hv,_⟩:=V4 (P:=P) (fr:=.nil) (tmps:=a.tmps) (fn:=fn) (vs:=[]) hE ac (by grind) (by rw[<-h6];rfl);grind
  obtain⟨v,hv⟩:=H;rcases he with rfl|rfl
  . exact⟨aj,U,rfl,v,hv,rfl,v,rfl,cx',ai,ac⟩
  . exact⟨aj,U,rfl,v,hv,rfl,v,rfl,cx',ai,ac⟩
 unfold wpOpsSIn;rw[an];refine⟨fun _ _=>trivial,?_⟩;rw[if_pos (Ed r3),af,r4];dsimp only;have V:∀(D:List Frame),D={B with mode:=U}::cs->wpOpsSIn (WF zn) 0 P ops (Exit.thenS (C.wpSIn (WF zn) 0 P (bodyPostS P fn B cs fun en u1 w=>u1=U/\∃v,en=.returned v/\∃cx',Ext W cx w cx'/\Sat E w cx' h')) (bodyPostS P fn B cs fun en u1 w=>u1=U/\∃v,en=.returned v/\∃cx',Ext W cx w cx'/\Sat E w cx' h')) [1] ((⟨ws++zqa (fn.ntmps-ws.size) undef,[]⟩:Act).put (zs d) pv) D W:=by
  intro D I;unfold wpOpsSIn;rw[ao];refine⟨fun _ _=>trivial,?_⟩;rw[if_pos (Ed s2),ag,s3];exact aq D I
 cases hu with
 |ret=>
  have X:recoverD (B::cs)=zn:=by simp[recoverD,G]
  rw[X];exact V _ (by rw[<-G])
 |pan v=>
  have X:recoverD (B::cs)=zs (pv,{B with mode:=.panicking [{v:=pv,recovered:=zt}]}::cs):=by simp[recoverD,G]
  grind
end
end Go.AM
/-
 The abstract machine: maps.DeleteFunc,told of: its predicate is called at each entry,in whatever order.
-/
namespace Go.AM
section
variable {P:Program}{E:Env}
theorem qX(hE:dn E P){ih:E9}(hc:Y8 E P ih)(hpr:∀(c:XC)(fr:Tr)(h h':Vg),cz.heap (ih c fr h)=zs h'->gg h h'){f:Nat}{ks:List Nat}(hd:E.dlf f=zs ks){args:Array Value}{l:List AV}{W:World}{cx:Cx}{h:Vg}
 (hl:fc W cx args.toList l)(hs:Sat E W cx h)(hb:iZ E ih ks l h≠.bad):Lr P f/\Calls P f args W ((iZ E ih ks l h).Post E W cx):=absurd rfl hb
end
end Go.AM
/-
 The abstract machine: slices.Sorted at a map's keys,told of.
-/
namespace Go.AM
section
variable {P:Program}{E:Env}
theorem qY(hE:dn E P){f:Nat}{args:Array Value}{l:List AV}{W:World}{cx:Cx}{h:Vg}{r:Res}
 (hl:fc W cx args.toList l)(hs:Sat E W cx h)(hr:wg E f l h=zs r)(hb:r≠.bad):Lr P f/\Calls P f args W (r.Post E W cx):=by cases hr
end
end Go.AM
/-
 The abstract machine: maps.DeleteFunc: its loop,step by step,over whatever is kept.
-/
namespace Go.AM
open Go.Maps (Keyed)
section
variable {P:Program}{W:World}{b clock:Nat}{ents:Array MapEntry}{J:World->Prop}{K K':MapEntry->Prop}{seen:Array Nat}{n:Nat}{wr:World}{pd:MapEntry->Bool}
variable {ops:Array Oper}{rest:List Oper}{o:Oper}{a:Act}{Q:Exit->Act->World->Prop}
end
end Go.AM
/-
 The abstract machine: a range over a map in the code: whichever entry comes next,it comes to the same.
-/
namespace Go.AM
section
variable {P:Program}{E:Env}{ih:E9}
end
end Go.AM
/-
 The abstract machine: a range over a map in the code: what stands there,and that it is sound.
-/
namespace Go.AM
section
variable {P:Program}{E:Env}{ih:E9}
theorem CZ{a b:Code}(h:xp a b=zn):xc (.seq a b)=.seq (xc a) (xc b):=by
 show(match xp a b with|some R=>XC.rngm R (xc b)|none=>.seq (xc a) (xc b))=_
 rw[h]
theorem DA{a b:Code}{R:a01}(h:xp a b=zs R):xc (.seq a b)=.rngm R (xc b):=by
 show(match xp a b with|some R=>XC.rngm R (xc b)|none=>.seq (xc a) (xc b))=_
 rw[h]
end
end Go.AM
/-
 The abstract machine: a range over a map in the code is sound.
-/
namespace Go.AM
section
variable {P:Program}{E:Env}{ih:E9}{ops:Array Oper}{rest:List Oper}{o:Oper}{a:Act}{w:World}{Q:Exit->Act->World->Prop}
theorem oG(hE:dn E P)(hc:Y8 E P ih)(hpr:∀(c:XC)(fr:Tr)(h h':Vg),cz.heap (ih c fr h)=zs h'->gg h h'){ro:Option Nat}{D:DP}(hD:Dy D){ca cb:Code}{R:a01}(hR:xp ca cb=zs R)
 (hst:nX ro D (.seq ca cb)){W:World}{cx:Cx}{a:Act}{fr:Tr}{h:Vg}(hf:dh W cx a.tmps fr)(hd:D W cx a)(hs:Sat E W cx h)(hb:Xv E ih R (xc cb) fr h≠.bad):
 (Code.seq ca cb).wpIn (WF ro) 0 P (X9 E W cx D (Xv E ih R (xc cb) fr h)) a W:=absurd rfl hb
end
end Go.AM
/-
 The abstract machine: calls and code.
-/
namespace Go.AM
theorem w7{F:Fence}{n:Nat}{P:Program}{ops:Array Oper}{Q:Exit->Act->World->Prop}{rest:List Oper}:∀(l:List Oper)(a:Act)(w:World),
 wpListIn F n P ops (Exit.then (wpListIn F n P ops Q rest) (fun e a w=>(∃c,e=.panic c)/\Q e a w)) l a w->wpListIn F n P ops Q (l++rest) a w
 |[],a,w,h=>h
 |o :: l,a,w,h=>by
  unfold wpListIn at h;show wpListIn F n P ops Q (o::(l++rest)) a w
  unfold wpListIn;split
  . rename_i B
    rw[if_pos B]at h;exact Xm (fun a w h=>w7 l a w h) (fun c a w C=>C.2) (fun a w C=>by obtain⟨⟨c,e⟩,_⟩:=C;cases e) h
  . rename_i B
    rw[if_neg B]at h;exact⟨h.1,w7 l _ w h.2⟩
section
variable {P:Program}{E:Env}
theorem Pm:∀(c:Code)(x:DfC),ku c=zs x->c=x.code
 |.seq a b,x,h=>by
  have B:∀(a:Code),(ku b).map (fun x=>(⟨a::x.pre,x.id,x.ops,x.rest⟩:DfC))=zs x->Code.seq a b=x.code:=fun a h=>by
   cases hb:ku b with
   |none=>grind
   |some y=>
    rw[hb]at h;cases h;show Code.seq a b=.seq a (y.code)
    rw[<-Pm b y hb]
  cases a with
  |region id ops draw=>
   cases draw with
   |true=>exact B _ h
   |false=>
    have h:(bif jA ops.toList then zs ⟨[],id,ops,b⟩else(ku b).map fun x=>⟨.region id ops zf::x.pre,x.id,x.ops,x.rest⟩)=zs x:=h;cases hh:jA ops.toList with
    |true=>rw[hh]at h;cases h;rfl
    |false=>grind
  |_=>exact B _ h
 | .skip,_,h | .region ..,_,h | .cond ..,_,h | .block ..,_,h | .loop ..,_,h | .scope ..,_,h | .rangeFunc ..,_,h | .label ..,_,h | .goto ..,_,h | .exit ..,_,h | .ret,_,h | .refuse ..,_,h=>by cases h
theorem Jn{rs:List ResultVar}{fr:Tr}{r:Res}(hb:j8 E rs fr r≠.bad):∃v h vs,r=.ok v h/\G0 E rs fr h=zs vs/\j8 E rs fr r=.ok (cj vs) h:=by
 cases r with
 |ok v h=>obtain⟨vs,B,C⟩:=Xp hb;exact⟨v,h,vs,rfl,B,C⟩
 |_=>exact absurd rfl hb
theorem nk{ih:E9}{x:AV}{rs:List ResultVar}{fr:Tr}{r:cz}(hb:J4 E ih x rs fr r≠.bad):
 (∃e C D v B vs,r=.ok e C D/\(e=.normal\/e=.ret)/\Du E ih x .x0b D=.ok v B/\G0 E rs C B=zs vs/\J4 E ih x rs fr r=.ok (cj vs) B)\/
 (∃p D v B vs,r=.pan p D/\Du E ih x p D=.ok v B/\G0 E rs fr B=zs vs/\J4 E ih x rs fr r=.ok (cj vs) B):=by
 cases r with
 |bad=>exact absurd rfl hb
 |pan p D=>obtain⟨v,B,vs,G,H,I⟩:=Jn hb;exact .inr ⟨p,D,v,B,vs,rfl,G,H,I⟩
 |ok e C D=>
  cases e with
  |exit i=>exact absurd rfl hb
  |normal=>obtain⟨v,B,vs,G,H,I⟩:=Jn hb;exact .inl ⟨_,C,D,v,B,vs,rfl,.inl rfl,G,H,I⟩
  |ret=>obtain⟨v,B,vs,G,H,I⟩:=Jn hb;exact .inl ⟨_,C,D,v,B,vs,rfl,.inr rfl,G,H,I⟩
theorem Xq(hE:dn E P){ih:E9}(hc:Y8 E P ih){x p:AV}{pv:Value}{u u':FrameMode}(H:Mode u u' pv){h2 h3:Vg}{v:AV}(hr:Du E ih x p h2=.ok v h3){C:Nat}{ws:Array Value}{w:World}{cx:Cx}(hx:Rep w cx (.func (.func C) #[] ws) x)(hp:Rep w cx pv p)(hs:Sat E w cx h2)
 {fn:Func}{tmps:Array Value}{R:Ending->World->Prop}(hR:∀w' cx',Ext w cx w' cx'->Sat E w' cx' h3->∃v,(results fn tmps).run P w'=.ok v w'/\R (.returned v) w'):
 LeavesInM (WF zn) 0 P fn tmps R [{target:=.fn (.func C) ws,args:=#[]}] u w:=by
 obtain⟨f,caps,fi,d,d2,rest,e,fr',rfl,D,N,G,hm,U,he,B⟩:=dL hr;obtain⟨ws',e1,V⟩:=iP hx;cases e1;obtain⟨fn1,c1,h1,h2',h3',_⟩:=hE.fn C fi D;have I:u≠.run:=by cases H<;>exact fun e=>by cases e
 refine⟨I,.inr ⟨(fun e=>by simp[WF,Fence.wide]at e),.func C,ws,C,ws,rfl,?_,fun _ _=>trivial,?_⟩⟩
 . grind[invoke,Ky]
 . refine(qW hE hc H D N G hm U he B V hp hs).mono fun en u1 w' hq=>?_
   obtain⟨rfl,v',rfl,cx',X,aa⟩:=hq;show LeavesInM (WF zn) 0 P fn tmps R [] (settle u1) w'
   rw[H.settle];exact hR w' cx' X aa
def DX(d:Deferred)(ts:List Tmp)(B:Tmp->Value):DP:=fun _ _ a=>a.defers=[d]/\∀t∈ts,a.tmps.getD t undef=B t
theorem DX.mono{d:Deferred}{ts:List Tmp}{B:Tmp->Value}:Dy (DX d ts B):=fun _ _ _ _ _ _ h=>h
theorem DX.stab{d:Deferred}{ts:List Tmp}{B:Tmp->Value}{t:Option Tmp}(D:∀s,t=zs s->s∉ts):Se (DX d ts B) t:=fun _ _ a v h =>
 ⟨by rw[x5];exact h.1,fun s C=>(Dz fun G e H=>D G e (H▸C)).trans (h.2 s C)⟩
theorem sj(hE:dn E P){ih:E9}(hc:Y8 E P ih)(hl:r7 E P ih){fn:Func}{x:DfC}{o:Oper}{r:List Oper}{g:Operand}(af:x.ops.toList=r.reverse++[o])(ho:a02 o=zs g)(hcalm:mF [] r.reverse=zt)(U:V7 (fn.results.toList.map Ct) x.rest=zt)
 {W0:World}{cx0:Cx}{a:Act}{W:World}{cx:Cx}{fr:Tr}{h:Vg}(he:Ext W0 cx0 W cx)(hf:dh W cx a.tmps fr)(hd:a.defers=[])(hs:Sat E W cx h)
 (hb:s5 E ih g (xc x.rest) fn.results.toList [eq x.ops.toList r.reverse] fr h≠.bad):
 (Code.seq (.region x.id x.ops zf) x.rest).wpIn (WF zn) 0 P (bodyPostM (WF zn) 0 P fn ((s5 E ih g (xc x.rest) fn.results.toList [eq x.ops.toList r.reverse] fr h).Post E W0 cx0)) a W:=by
 have e:s5 E ih g (xc x.rest) fn.results.toList [eq x.ops.toList r.reverse] fr h=Ah (fun fr h=>J4 E ih (opv E g fr) fn.results.toList fr (ih (xc x.rest) fr h)) (ih (eq x.ops.toList r.reverse) fr h):=rfl;rw[e]at hb|-;clear e;refine wpIn_seq (wpIn_region_list ?_);refine Eq.mpr (congrArg (fun L=>wpListIn (WF zn) 0 P x.ops _ L a W) af) ?_;have al:ih (eq x.ops.toList r.reverse) fr h≠.bad:=fun e=>by rw[e]at hb;exact hb rfl
 obtain ⟨hn,hw⟩:=hl (fun a=>a.defers=[]) x.ops r.reverse (Exit.then (wpListIn (WF zn) 0 P x.ops (Exit.then (x.rest.wpIn (WF zn) 0 P (bodyPostM (WF zn) 0 P fn ((Ah (fun fr h=>J4 E ih (opv E g fr) fn.results.toList fr (ih (xc x.rest) fr h)) (ih (eq x.ops.toList r.reverse) fr h)).Post E W0 cx0))) (bodyPostM (WF zn) 0 P fn ((Ah (fun fr h=>J4 E ih (opv E g fr) fn.results.toList fr (ih (xc x.rest) fr h)) (ih (eq x.ops.toList r.reverse) fr h)).Post E W0 cx0))) [o])
  (fun e a w=>(∃c,e=.panic c)/\(Exit.then (x.rest.wpIn (WF zn) 0 P (bodyPostM (WF zn) 0 P fn ((Ah (fun fr h=>J4 E ih (opv E g fr) fn.results.toList fr (ih (xc x.rest) fr h)) (ih (eq x.ops.toList r.reverse) fr h)).Post E W0 cx0))) (bodyPostM (WF zn) 0 P fn ((Ah (fun fr h=>J4 E ih (opv E g fr) fn.results.toList fr (ih (xc x.rest) fr h)) (ih (eq x.ops.toList r.reverse) fr h)).Post E W0 cx0))) e a w)) W cx a fr h
  (fun o _=>DE.stab o.dst W cx) hf hd hs al
 refine w7 r.reverse a W (Lb ?_ r.reverse hn a W (hw fun x1 N w1 D=>?_))
 . rintro⟨a,w,⟨c,e⟩,_⟩;cases e
 obtain⟨ah,ai,H,D⟩:=D
 replace H:=he.trans H
 generalize hq:ih (eq x.ops.toList r.reverse) fr h=q at *;cases q with
 |bad=>grind
 |pan v h'=>
  obtain⟨vv,rfl,h7,h8⟩:=D;refine⟨⟨_,rfl⟩,?_⟩;show LeavesInM (WF zn) 0 P fn N.tmps _ N.defers (.panicking _) w1
  rw[ah];exact⟨ai,vv,rfl,H,h7,h8⟩
 |ok e B h1=>
  obtain⟨rfl,aj,V⟩:=D;cases e with
  |normal=>
   have hb:J4 E ih (opv E g B) fn.results.toList B (ih (xc x.rest) B h1)≠.bad:=hb;show wpListIn (WF zn) 0 P x.ops (Exit.then (x.rest.wpIn (WF zn) 0 P (bodyPostM (WF zn) 0 P fn ((J4 E ih (opv E g B) fn.results.toList B (ih (xc x.rest) B h1)).Post E W0 cx0))) (bodyPostM (WF zn) 0 P fn ((J4 E ih (opv E g B) fn.results.toList B (ih (xc x.rest) B h1)).Post E W0 cx0))) [o] N w1
   obtain ⟨as,tys,o1,o2,o3,o4⟩:=oF ho;have hg:=W7 (E:=E) aj V g;have⟨f0,ws,am⟩:∃f0 ws,N.eval g=.func (.func f0) #[] ws:=by
    grind[nk,dL,iP]
   rw [am]at hg;unfold wpListIn;rw[if_pos (Ed o3)];refine⟨fun _ _=>trivial,?_⟩;have hm:((o.semAt (WF zn).round N.eval).run P w1)=.ok (.defer {target:=.fn (.func f0) ws,args:=#[]}) w1:=by
    have:as=#[]:=by grind
    rw[show(WF zn).round=zn from rfl,Oper.semAt_none];simp_all[execOp,resolve,Deferred.ofValue]
   rw[hm,Oper.uponIn_defer,o4,ah];show x.rest.wpIn (WF zn) 0 P _ {N with defers:=[_]} w1
   have an:ih (xc x.rest) B h1≠.bad:=fun e=>by rw[e]at hb;exact hb rfl
   refine wpIn_mono (hc zn (DX {target:=.fn (.func f0) ws,args:=#[]} (fn.results.toList.map Ct) fun t=>N.tmps.getD t undef) x.rest w1 ai {N with defers:=[{target:=.fn (.func f0) ws,args:=#[]}]} B h1 DX.mono (V5 (fun d hd=>DX.stab hd) _ U) V ⟨rfl,fun _ _=>rfl⟩ aj an) fun x2 a2 w2 D=>?_
   obtain⟨cx2,I,⟨ak,ao⟩,D⟩:=D;rcases nk hb with⟨e,fr2,h2,v,h3,vs,ab,ar,ac,ad,ae⟩|⟨p,h2,v,h3,vs,ab,ac,ad,ae⟩
   . rw [ae]
     rw [ab]at D;obtain⟨rfl,X,aq⟩:=D;have ag:LeavesInM (WF zn) 0 P fn a2.tmps ((Res.ok (cj vs) h3).Post E W0 cx0) a2.defers .returning w2:=by
      rw[ak];refine Xq hE hc .ret ac (hg.mono I) .x0b X fun w' cx' C G=>?_
      obtain⟨v,h9,aa⟩:=V4 (P:=P) hE G (fun y _=>(aq.mono C).rep _) ad;exact⟨v,h9,cx',(H.trans I).trans C,G,aa⟩
     rcases ar with rfl|rfl
     . exact ag
     . exact ag
   . rw [ae]
     rw[ab]at D;obtain⟨vv,rfl,X,hv⟩:=D;show LeavesInM (WF zn) 0 P fn a2.tmps _ a2.defers (.panicking _) w2
     rw[ak];refine Xq hE hc (.pan vv) ac (hg.mono I) hv X fun w' cx' C G=>?_
     obtain ⟨v,h9,aa⟩:=V4 (P:=P) hE G (fun y hy=>by
      rw[ao _ (List.mem_map.2 ⟨y,hy,rfl⟩)];exact((V.mono I).mono C).rep _) ad
     exact⟨v,h9,cx',(H.trans I).trans C,G,aa⟩
  |_=>exact absurd rfl hb
theorem lZ(hE:dn E P){ih:E9}(hc:Y8 E P ih)(hl:r7 E P ih){fn:Func}{x:DfC}{o:Oper}{r:List Oper}{g:Operand}(G:x.ops.toList=r.reverse++[o])(ho:a02 o=zs g)(C:mF [] r.reverse=zt)(D:V7 (fn.results.toList.map Ct) x.rest=zt)
 {W0:World}{cx0:Cx}:∀(L:List Code)(a:Act)(W:World)(cx:Cx)(fr:Tr)(h:Vg),L.all (V7 [])=zt->Ext W0 cx0 W cx->dh W cx a.tmps fr->a.defers=[]->Sat E W cx h ->
 s5 E ih g (xc x.rest) fn.results.toList (L.map xc++[eq x.ops.toList r.reverse]) fr h≠.bad ->
 (L.foldr Code.seq (.seq (.region x.id x.ops zf) x.rest)).wpIn (WF zn) 0 P (bodyPostM (WF zn) 0 P fn ((s5 E ih g (xc x.rest) fn.results.toList (L.map xc++[eq x.ops.toList r.reverse]) fr h).Post E W0 cx0)) a W
 |[],a,W,cx,fr,h,_,he,hf,hd,hs,hb=>(by grind[Go.AM.sj])
 |c::L,a,W,cx,fr,h,hL,he,hf,hd,hs,hb=>by
  have e:s5 E ih g (xc x.rest) fn.results.toList ((c::L).map xc++[eq x.ops.toList r.reverse]) fr h=Ah (s5 E ih g (xc x.rest) fn.results.toList (L.map xc++[eq x.ops.toList r.reverse])) (ih (xc c) fr h):=rfl;rw[e]at hb|-;rw[List.all_cons,zqc]at hL;have V:ih (xc c) fr h≠.bad:=fun e=>by rw[e]at hb;exact hb rfl
  refine wpIn_seq (wpIn_mono (hc zn DE c W cx a fr h DE.mono (V5 (fun d _=>DE.stab d) c hL.1) hf hd hs V) fun x1 N w1 U=>?_);obtain⟨H,B,I,U⟩:=U
  replace B:=he.trans B
  clear e;generalize ih (xc c) fr h=q at *;cases q with
  |bad=>grind
  |pan v h'=>
   obtain⟨vv,rfl,h7,h8⟩:=U;show LeavesInM (WF zn) 0 P fn N.tmps _ N.defers (.panicking _) w1
   rw[show N.defers=[]from I];exact⟨H,vv,rfl,B,h7,h8⟩
  |ok e ab h1=>
   obtain⟨rfl,X,aa⟩:=U;cases e with
   |normal=>exact lZ hE hc hl G ho C D L N w1 H ab h1 hL.2 B aa I X hb
   |_=>exact absurd rfl hb
theorem dM(V:dn E P){ih:E9}(hc:Y8 E P ih)(hl:r7 E P ih)(X:∀(c:XC)(fr:Tr)(h h':Vg),cz.heap (ih c fr h)=zs h'->gg h h'):Ev E P (O7 E ih):=by
 intro f args l W cx h hv hs hb;unfold O7 at hb|-;cases ht:E.told f with
 |true=>grind[oC]
 |false=>
  rw[ht]at hb;simp only[cond_false]at hb|-;cases H:E.dlf f with
  |some ks=>rw[H]at hb;exact qX V hc X H hv hs hb
  |none=>
   rw[H]at hb;dsimp only at hb|-;cases I:wg E f l h with
   |some r=>rw[I]at hb;exact qY V hv hs I hb
   |none=>
    rw[I]at hb;dsimp only at hb|-;cases U:E.fn f with
    |none=>grind
    |some fi=>
     rw[U]at hb;obtain⟨fn,c,h1,h2,h3,h4,h5,h6,h7⟩:=V.fn f fi U;refine⟨⟨fn,c,h1,h2,h3⟩,?_⟩;dsimp only at hb|-;cases hn:Nat.ble (dw l) fi.ntmps with
     |false=>grind
     |true=>
      rw[hn]at hb;simp only[cond_true]at hb|-;have hn:=C5 hn;rw[A4]at hn;unfold Ps at hb|-;cases hm:fi.mode with
      |rcv d d2 rest=>grind
      |plain=>
       grind[Sg]
      |itf ic=>
       grind[Sg]
      |dfr pre g rest=>
       rw [hm]at hb h7;dsimp only at hb|-;have⟨x,aa,ab⟩:∃x,ku c=zs x/\Sr fn.results.toList x=zs (.dfr pre g rest):=by
        rcases lm h7.symm with⟨_,h⟩|h|⟨x,_,_,h⟩|h
        . grind[Ea]
        . exact h
        . cases h
        . cases h
       obtain ⟨o,r,g',hops,ho,D,N,G,ad⟩:=Eb ab;cases ad;have B:=Pm c x aa;have C:x.ops.toList=r.reverse++[o]:=by
        simp_all
       rw[h5,h6]at hb|-;rw[h5]at hn;have ac:=Gu hv hn;refine La.1 (callsIn_of_wp_marks (F:=WF zn) (n:=0) h1 h2 trivial ?_ rfl);rw[B];exact lZ V hc hl C ho D G x.pre ⟨_,[]⟩ W cx _ h N (Ext.refl _ _) ac rfl hs hb
theorem Sat.sub{P:Program}{E:Env}{W:World}{cx:Cx}{h h':Vg}(B:Sat E W cx h)(hn:h'.next=h.next)(hg:∀id o,h'.get id=zs o->h.get id=zs o):Sat E W cx h' where
 nx:=hn.trans B.nx
 objs id o ho:=B.objs id o (hg id o ho)
 inj id id' o o' ho ho':=B.inj id id' o o' (hg id o ho) (hg id' o' ho')
 gl:=B.gl
 held:=B.held
 free id o ho:=B.free id o (hg id o ho)
theorem mA(G:dn E P){ih:E9}(hc:Y8 E P ih)(hl:r7 E P ih)(B:∀(c:XC)(fr:Tr)(h h':Vg),cz.heap (ih c fr h)=zs h'->gg h h'):Ev E P (G8 E ih):=by
 intro f args l W cx h H I hb;unfold G8 at hb|-;cases hg:E.gc f with
 |false=>rw[hg]at hb;exact dM G hc hl B f args l W cx h H I hb
 |true=>
  rw[hg]at hb;have hb:NT h (O7 E ih f l {h with tch:=[]})≠.bad:=hb;show _/\Calls P f args W ((NT h (O7 E ih f l {h with tch:=[]})).Post E W cx)
  have h0:=dM G hc hl B f args l W cx {h with tch:=[]} H (I.sub (P:=P) rfl fun _ _ ho=>ho) (fun e=>hb (by rw[e];rfl));refine⟨h0.1,h0.2.mono fun e w C=>?_⟩;cases U:O7 E ih f l {h with tch:=[]}with
  |ok v N=>
   rw[U]at C;cases e with
   |returned vv=>
    obtain⟨cx',D,V,X⟩:=C;refine⟨cx',D,V.sub (P:=P) rfl fun id o ho=>?_,X⟩;have ho:(h.os.trunc N.os).get id=zs o:=ho;show N.os.get id=zs o
    grind[HT.get_trunc]
   |_=>exact C.elim
  |_=>rw[U]at hb;exact absurd rfl hb
theorem dN{b:Tr->Vg->cz}{r:cz}(h:Dv b r≠.bad):r≠.bad:=fun e=>by rw[e]at h;exact h rfl
theorem dO{W:World}{cx:Cx}{D:DP}{r:cz}{b:Tr->Vg->cz}{K:Act->World->Prop}(hb:Dv b r≠.bad)
 (hK:∀fr' h' cx' B w',r=.ok .normal fr' h'->Ext W cx w' cx'->Sat E w' cx' h'->dh w' cx' B.tmps fr'->D w' cx' B->K B w'):∀x B w',X9 E W cx D r x B w'->Exit.then K (X9 E W cx D (Dv b r)) x B w':=by
 intro x B w' C;obtain⟨cx',I,N,C⟩:=C;cases r with
 |bad=>exact C.elim
 |pan v h'=>
  obtain⟨U,rfl,G,H⟩:=C;exact⟨cx',I,N,U,rfl,G,H⟩
 |ok e fr h'=>
  obtain⟨rfl,G,H⟩:=C;cases e with
  |normal=>exact hK fr h' cx' B w' rfl I G H N
  |_=>exact⟨cx',I,N,rfl,G,H⟩
theorem aP{W:World}{cx:Cx}{D:DP}{r:cz}{l:Nat}{a:Act}{w:World}(B:X9 E W cx D r (.goto l) a w):False:=by
 obtain⟨cx',_,_,B⟩:=B;cases r with
 |bad=>exact B.elim
 |pan v h'=>obtain⟨vv,e,_⟩:=B;cases e
 |ok e fr' h'=>obtain⟨e2,_⟩:=B;cases e<;>cases e2
theorem Sh(hE:dn E P):∀n,Y8 E P (ev E n)/\
 (∀(ro:Option Nat)(D:DP)(c:Code)(W:World)(cx:Cx)(a:Act)(fr:Tr)(h:Vg),Dy D->nX ro D c->dh W cx a.tmps fr->D W cx a->Sat E W cx h->ev E n (.loop (xc c)) fr h≠.bad->Code.roundsIn (WF ro) 0 P c (X9 E W cx D (ev E n (.loop (xc c)) fr h)) n a W)/\
 r7 E P (ev E n)
 |0=>⟨fun ro D c W cx a fr h _ _ _ _ _ hb=>absurd rfl hb,fun ro D c W cx a fr h _ _ _ _ _ hb=>absurd rfl hb,fun S ops l Q W cx a fr h _ _ _ _ hb=>absurd rfl hb⟩
 |n + 1=>by
  obtain ⟨C,ae,ac⟩:=Sh hE n;have U:=mA hE C ac (Bj E n);have round:∀(ro:Option Nat)(D:DP)(c:Code)(W:World)(cx:Cx)(a:Act)(fr:Tr)(h:Vg),Dy D->nX ro D c->dh W cx a.tmps fr->D W cx a->Sat E W cx h->ev E (n+1) (.loop (xc c)) fr h≠.bad->Code.roundsIn (WF ro) 0 P c (X9 E W cx D (ev E (n+1) (.loop (xc c)) fr h)) (n+1) a W:=by
   intro ro D c W cx a fr h V B hf I H hb;have e:ev E (n+1) (.loop (xc c)) fr h=Dv (ev E n (.loop (xc c))) (ev E n (xc c) fr h):=rfl;rw[e]at hb|-;rw[roundsIn_succ];refine wpIn_mono (C ro D c W cx a fr h V B hf I H (dN hb)) (dO hb fun fr' h' cx' a' w' e1 X h2 h3 h4=>?_);rw[e1]at hb|-;have hb:ev E n (.loop (xc c)) fr' h'≠.bad:=hb
   have:=ae ro D c w' cx' a' fr' h' V B h3 h4 h2 hb
   have mono:∀m a w Q Q',(∀x a w,Q x a w->Q' x a w)->Code.roundsIn (WF ro) 0 P c Q m a w->Code.roundsIn (WF ro) 0 P c Q' m a w:=by
    intro m
    induction m with
    |zero=>intro a w Q Q' _ h;exact h
    |succ m ih=>
     intro a w Q Q' hq h;exact wpIn_mono h fun x a w hx=>by cases x<;>first|exact ih _ _ _ _ hq hx|exact hq _ _ _ hx
   exact mono n a' w' _ _ (fun x a w N=>X9.trans X N) this
  refine⟨fun ro D c W cx a fr h V B hf I H hb=>?_,round,fun S ops l Q W cx a fr h B hf hS H hb=>?_⟩
  . cases c with
    |skip=>exact wpIn_skip ⟨cx,Ext.refl _ _,I,rfl,H,hf⟩
    |ret=>exact wpIn_ret ⟨cx,Ext.refl _ _,I,rfl,H,hf⟩
    |exit id=>exact wpIn_exit ⟨cx,Ext.refl _ _,I,rfl,H,hf⟩
    |label l=>exact wpIn_label ⟨cx,Ext.refl _ _,I,rfl,H,hf⟩
    |scope x=>
     have e:ev E (n+1) (xc (.scope x)) fr h=ev E n (xc x) fr h:=rfl;rw[e]at hb|-;refine iQ (wpIn_mono (C ro D x W cx a fr h V B hf I H hb) fun x' a' w' N=>?_);cases x' with
     |goto l=>grind[aP]
     |_=>exact N
    |region id ops draw=>
     cases draw with
     |false=>
      have e:ev E (n+1) (xc (.region id ops zf)) fr h=step E (ev E n) (bif In ops.toList then .reg zf (ops.toList.map (dD ops.toList zf [] zf))else .bad) fr h:=rfl;rw[e]at hb|-;cases G:In ops.toList with
      |false=>rw[G]at hb;exact absurd rfl hb
      |true=>
       rw[G]at hb;have hb:I3 E (G8 E (ev E n)) (ops.toList.map (dD ops.toList zf [] zf)) fr h≠.bad:=hb;show(Code.region id ops zf).wpIn (WF ro) 0 P (X9 E W cx D (I3 E (G8 E (ev E n)) (ops.toList.map (dD ops.toList zf [] zf)) fr h)) a W
       exact wpIn_mono (oK (ro:=ro) (Q:=(I3 E (G8 E (ev E n)) (ops.toList.map (dD ops.toList zf [] zf)) fr h).Post E W cx (fun a=>D W cx a)) rA (mi _ G) (Al hE U ops.toList W cx a fr h (fun o ho=>by obtain⟨i,hi⟩:=List.getElem?_of_mem ho;exact B i o (by grind) W cx) hf I H hb fun x a' w' N=>N)) fun x a w N=>X9.of_post V N
     |true=>
      have e:ev E (n+1) (xc (.region id ops zt)) fr h=step E (ev E n) (bif In ops.toList then(bif Ny ops.toList (En ops.toList) (Rl ops.toList (En ops.toList))then .reg zt (Ac ops.toList (En ops.toList) [] (Rl ops.toList (En ops.toList)))else .bad)else .bad) fr h:=rfl;rw[e]at hb|-;cases G:In ops.toList with
      |false=>rw[G]at hb;exact absurd rfl hb
      |true=>
       rw[G]at hb;cases ab:Ny ops.toList (En ops.toList) (Rl ops.toList (En ops.toList))with
       |false=>rw[ab]at hb;exact absurd rfl hb
       |true=>
        rw[ab]at hb;exact wpIn_mono (iR hE H hf (S:=fun a=>D W cx a) I U (wT E n) (fun i o ho=>B i o ho W cx) (ro:=ro) (by grind[Go.AM.mi]) ab hb) fun x a w N=>X9.of_post V N
    |seq x y=>
     cases hR:xp x y with
     |some R=>
      have e:ev E (n+1) (xc (.seq x y)) fr h=Xv E (ev E n) R (xc y) fr h:=by rw[DA hR];rfl
      rw[e]at hb|-;exact oG hE C (Bj E n) V hR B hf I H hb
     |none=>
      have e:ev E (n+1) (xc (.seq x y)) fr h=Dv (ev E n (xc y)) (ev E n (xc x) fr h):=by rw[CZ hR];rfl
      rw[e]at hb|-;refine wpIn_seq (wpIn_mono (C ro D x W cx a fr h V B.1 hf I H (dN hb)) (dO hb fun fr' h' cx' a' w' e1 X h2 h3 h4=>?_));rw[e1]at hb|-;have hb:ev E n (xc y) fr' h'≠.bad:=hb;exact wpIn_mono (C ro D y w' cx' a' fr' h' V B.2 h3 h4 h2 hb) fun x a w N=>X9.trans X N
    |cond c x y=>
     have e:ev E (n+1) (xc (.cond c x y)) fr h=Pt (ev E n (xc x)) (ev E n (xc y)) (opv E c fr) fr h:=rfl;rw[e]at hb|-;have hc:=W7 (E:=E) H hf c;cases hv:opv E c fr with
     |bool b=>
      rw[hv]at hb hc;refine wpIn_cond hc.bool_inv ?_;cases b with
      |true=>exact C ro D x W cx a fr h V B.1 hf I H hb
      |false=>exact C ro D y W cx a fr h V B.2 hf I H hb
     |_=>rw[hv]at hb;exact absurd rfl hb
    |block id x=>
     have e:ev E (n+1) (xc (.block id x)) fr h=Em id (ev E n (xc x) fr h):=rfl;rw[e]at hb|-;have ad:ev E n (xc x) fr h≠.bad:=fun e=>by rw[e]at hb;exact hb rfl
     refine wpIn_block (wpIn_mono (C ro D x W cx a fr h V B hf I H ad) fun x' a' w' N=>?_);clear e;generalize ev E n (xc x) fr h=r at *;obtain⟨cx',he,aa,N⟩:=N;cases r with
     |bad=>grind
     |pan v h'=>
      obtain⟨vv,rfl,X,h2⟩:=N;exact⟨cx',he,aa,vv,rfl,X,h2⟩
     |ok e fr' h'=>
      obtain⟨rfl,X,h2⟩:=N;cases e with
      |exit j=>
       show Exit.inBlock id _ (.exit j) a' w'
       have e2:Em id (.ok (.exit j) fr' h')=bif Nat.beq j id then .ok .normal fr' h' else .ok (.exit j) fr' h':=rfl;rw[e2];show if j=id then _ else _
       by_cases hj:j=id
       . subst hj;rw[if_pos rfl];simp only[Nat.beq_refl,cond_true];exact⟨cx',he,aa,rfl,X,h2⟩
       . rw[if_neg hj,Vg.beq_false hj];exact⟨cx',he,aa,rfl,X,h2⟩
      |_=>exact⟨cx',he,aa,rfl,X,h2⟩
    |loop x=>exact wpIn_loop_rounds (n+1) (round ro D x W cx a fr h V B hf I H hb)
    |rangeFunc g ps x y=>exact oB hE C ac V B hf I H hb
    |_=>exact absurd rfl hb
  . have e:ev E (n+1) (eq ops.toList l) fr h=step E (ev E n) (bif In l then .reg zf (l.map (dD ops.toList zf [] zf))else .bad) fr h:=rfl
    rw[e]at hb|-;cases G:In l with
    |false=>rw[G]at hb;exact absurd rfl hb
    |true=>
     rw[G]at hb;exact⟨mi _ G,fun hQ=>Al hE U l W cx a fr h B hf hS H hb hQ⟩
theorem oH(B:dn E P){W:World}{cx:Cx}{h:Vg}{n f:Nat}{args:Array Value}{l:List AV}(hl:fc W cx args.toList l)(C:Sat E W cx h)(hb:run E n f l h≠.bad):Calls P f args W ((run E n f l h).Post E W cx):=
 (mA B (Sh B n).1 (Sh B n).2.2 (Bj E n) f args l W cx h hl C hb).2
end
end Go.AM
