/- The abstract machine, part three: operations, calls, and regions that draw their order: planned. Conditions: none. -/
import Derived.Test.YtekhlbomopiemaaAmTwo
import Derived.LoopN
import Derived.Tactics
import Derived.Orders
set_option linter.unusedVariables false
set_option linter.unusedSectionVars false
set_option linter.unusedSimpArgs false
/-
 The abstract machine: each operation but a call is sound.
set_option maxHeartbeats 4000000
-/
open Option renaming some→zs,none→zn
open Bool renaming true→zt,false→zf
open Bool renaming and_eq_true→zqa,not_eq_true'→zqb
open Array renaming getElem?_toList→zqc,getD_eq_getD_getElem?→zqd
open List renaming all_eq_true→zqe,mem_cons_self→zqf,mem_cons→zqg,mem_of_getElem?→zqh,getElem?_of_mem→zqi,getElem?_eq_getElem→zqj,length_cons→zqk
open Nat renaming le_refl→zql,le_trans→zqm
open Option renaming map_eq_some_iff→zqn,bind_some→zqo
namespace Go.AM
section
variable {P:Program}{E:Env}{W:World}{cx:Cx}{h:Heap}
theorem H1{x:Option AV}{v:AV}{h h':Heap}(A:lift x h=.ok v h'):x=zs v/\h'=h:=by
 cases x with
 |none=>cases A
 |some a=>cases A;grind
theorem bY(A:Sat E W cx h){a:Act}{fr:Tr}(hf:FrRep W cx a.tmps fr)(o:Option Operand):W9 W cx (o.map a.eval) (Nk E o fr):=by
 cases o with
 |none=>trivial
 |some x=>exact W8 A hf x
theorem Gr(a:Act)(ps:Array (Nat×Operand)):(ps.map fun p=>(p.1,a.eval p.2)).toList=ps.toList.map fun p=>(p.1,a.eval p.2):=by simp
theorem Sy(hE:EnvOk E P)(hs:Sat E W cx h){ts:Array TypeId}{ty:TypeId}{args:Array Value}{l:List AV}(hl:RepL W cx args.toList l){r:AV}{h':Heap}(hb:Ks E ts.toList l h=zs (r,h')):
 ∃v W' cx',(Builtin.append_ ts ty args).run P W=.ok v W'/\Ext W cx W' cx'/\Sat E W' cx' h'/\Rep W' cx' v r:=by
 unfold Ks at hb;cases ab:ts.toList with
 |nil=>grind
 |cons t am=>
  cases am with
  |nil=>grind
  |cons tx ts2=>
   cases l with
   |nil=>grind
   |cons s l1=>
    cases l1 with
    |nil=>grind
    |cons x l2=>
     rw[ab]at hb;obtain⟨ti,ht,hb⟩:=E1 hb;obtain⟨te,D,hb⟩:=A1 hb;obtain⟨V,hb⟩:=A7 hb;have V:=I9 V;obtain⟨X,ag,hb⟩:=E1 hb;obtain⟨e,hk,D⟩:=f7 D;have hd:=(hE.ti t ti ht).desc;unfold I5 at hd;rw[hk]at hd;have ac:ts[0]?=zs t:=by rw[<-zqc,ab];rfl
     have ae:ts[1]?=zs tx:=by rw[<-zqc,ab];rfl
     obtain⟨sv,A,Q⟩:=hl.get (i:=0) (c:=s) rfl;obtain⟨xv,B,U⟩:=hl.get (i:=1) (c:=x) rfl;have A:args[0]?=zs sv:=by grind
     have B:args[1]?=zs xv:=by grind
     obtain⟨dx,Y⟩:=(hE.ti tx X ag).under;have I:=(hE.ti tx X ag).desc;have C:=hE.ti e te D;have elemCase:(∀k,dx≠.int k)->A6 (elems x h) (fun xs=>B3 (F7 te.size xs) (H4 te s xs h))=zs (r,h') ->
      ∃v W' cx',(Builtin.append_ ts ty args).run P W=.ok v W'/\Ext W cx W' cx'/\Sat E W' cx' h'/\Rep W' cx' v r:=by
      intro ai hb;obtain⟨xs,ak,hb⟩:=A1 hb;obtain⟨G,hb⟩:=A7 hb;rw[o8]at G;obtain⟨ad,cap,us,sz,e1,e2,H,al⟩:=Y6 (P:=P) hs U ak;have N:RowRep W cx us xs te.size:=by
       cases ah:xs with
       |nil=>rw[ah]at H;exact⟨by have:=H.len;grind,by simp,by simp⟩
       |cons x0 xr=>
        rw[ah]at H G
        have:sz=te.size:=by rw[<-H.size 0 x0 rfl];grind
        grind
      . exact Lr hE hs D ac hd ae Y A B Q N (.inl ⟨ai,⟨ad,cap,e1⟩,fun W' aj=>by
         have:=al W' aj xs.length te.size (zql _) G
         rw[<-H.len,List.take_length]at this;exact this⟩) N.oneL (C.pos (by omega)) hb
     unfold I5 at I;cases an:X.desc with
     |int kx=>
      rw[an]at hb I;rw[I]at Y;cases Y;obtain⟨n,hn,J⟩:=A1 hb;obtain⟨hg,J⟩:=A7 J;clear hb;have hg:n*te.bytes<=140737488355328:=C0 hg;obtain⟨k',rfl⟩:=S4 hn;cases U.int_inv;obtain⟨i,z,hi1,hi2,hi3,hi4,aa⟩:=C.info;have hzs:z.cells.size=te.size:=by have:=((aa.rep W cx).cells aa.und).1;simp at this;rw[this];exact C.zsz
      . have hp:0<te.size:=V
        have af:=C.pos hp;have hn47:n<=140737488355328:=zqm (Nat.le_mul_of_pos_right n af) hg;obtain⟨a1,a2⟩:=Rk (W:=W) (cx:=cx) aa C.zsz hp n (c:=Builtin.zeroCells z.cells n) (by grind[Go.Builtin.zeroCells,Go.AM.rangeMap_get]);have hzl:(Builtin.zeroCells z.cells n).toList=(List.range (n*te.size)).map fun k=>(z.cells[k%te.size]?).getD undef:=by
         apply List.ext_getElem?;grind[Builtin.zeroCells]
        rw[m9]at J;have hlen:(List.replicate n te.zero).length=n:=List.length_replicate;exact Lr hE hs D ac hd ae I A B Q a1 (by grind) a1.oneL af J
     |_=>grind
theorem Xn(hE:EnvOk E P)(I:Sat E W cx h){b:Builtin}{ts:Array TypeId}{ty:TypeId}{cs:Array Bool}{args:Array Value}{l:List AV}(hl:RepL W cx args.toList l){r:AV}{h':Heap}(hb:E9 E b ts.toList l h=zs (r,h')):
 Jl P E W cx (builtin b ts ty cs args) r h':=by
 cases b with
 |append=>
  obtain⟨v,W',cx',C,A,G,h4⟩:=Sy hE I (ts:=ts) (ty:=ty) hl hb;exact Jl.value (s:=Builtin.append_ ts ty args) C A G h4
 |len=>
  have hb:Xi E ts.toList l h=zs (r,h'):=hb;unfold Xi at hb;cases B:ts.toList with
  |nil=>rw[B]at hb;cases hb
  |cons t ab=>
   rw[B]at hb;cases l with
   |nil=>cases hb
   |cons x l1=>
    obtain⟨ti,ht,hb⟩:=E1 hb;obtain⟨n,hn,hb⟩:=A1 hb;rw[B6]at hb;cases hb;have D:ts[0]?=zs t:=by rw[<-zqc,B];rfl
    obtain⟨xv,J,N⟩:=hl.get (i:=0) (c:=x) rfl
    have:=sR hE I ht (ty:=ty) D (args:=args) (by simpa using J) N hn
    exact Jl.same (s:=Builtin.len_ ts ty args) I this (.int _ _)
 |copy=>
  have hb:fJ E ts.toList l h=zs (r,h'):=hb;unfold fJ at hb;cases B:ts.toList with
  |nil=>rw[B]at hb;cases hb
  |cons t ab=>
   rw[B]at hb;cases l with
   |nil=>cases hb
   |cons d l1=>
    cases l1 with
    |nil=>cases hb
    |cons s l2=>
     obtain⟨ti,ht,hb⟩:=E1 hb;obtain⟨te,H,hb⟩:=A1 hb;obtain⟨xs,aa,hb⟩:=A1 hb;obtain⟨Q,hb⟩:=A7 hb;obtain⟨e,hk,H⟩:=f7 H;have hd:=(hE.ti t ti ht).desc;unfold I5 at hd;rw[hk]at hd;have D:ts[0]?=zs t:=by rw[<-zqc,B];rfl
     obtain⟨dv,U,V⟩:=hl.get (i:=0) (c:=d) rfl;obtain⟨sv,X,Y⟩:=hl.get (i:=1) (c:=s) rfl;obtain⟨v,W',cx',C,A,G,h4⟩:=lY hE I H (ty:=ty) D hd (args:=args) (by simpa using U) (by simpa using X) V Y aa Q hb;exact Jl.value (s:=Builtin.copy_ ts ty args) C A G h4
 |max=>
  cases l with
  |nil=>cases hb
  |cons x l=>
   obtain⟨r',C,A⟩:=zqn.1 (show(Ni l x).map (·,h)=zs (r,h')from hb);cases A;obtain⟨args⟩:=args;cases args with
   |nil=>have:=hl.1;simp at this
   |cons xv vs=>
    obtain⟨v,A,G⟩:=Zi (P:=P) (vs:=vs) (xv:=xv) ⟨by have:=hl.1;simpa using this,fun i v c C A=>hl.2 (i+1) v c (by simpa using C) (by simpa using A)⟩ (hl.2 0 _ _ rfl rfl) C;refine Jl.same (s:=Builtin.max_ ts ty ⟨xv::vs⟩) I ?_ G;simpa[Builtin.max_]using A
 |min=>
  cases l with
  |nil=>cases hb
  |cons x l=>
   obtain⟨r',C,A⟩:=zqn.1 (show(Qg l x).map (·,h)=zs (r,h')from hb);cases A;obtain⟨args⟩:=args;cases args with
   |nil=>have:=hl.1;simp at this
   |cons xv vs=>
    obtain⟨v,A,G⟩:=Zj (P:=P) (vs:=vs) (xv:=xv) ⟨by have:=hl.1;simpa using this,fun i v c C A=>hl.2 (i+1) v c (by simpa using C) (by simpa using A)⟩ (hl.2 0 _ _ rfl rfl) C;refine Jl.same (s:=Builtin.min_ ts ty ⟨xv::vs⟩) I ?_ G;simpa[Builtin.min_]using A
 |_=>cases hb
theorem lR(hE:EnvOk E P)(C:Sat E W cx h){a:Act}{fr:Tr}(hf:FrRep W cx a.tmps fr){call:D4}(o:Oper)(hc:∀c f,o.op=.call c->c.callee≠.value f){v:AV}{h':Heap}
 (A:evOp E call o.op fr h=.ok v h'):Jl P E W cx (execOp a.eval o) v h':=by
 have H:=fun x=>W8 (E:=E) C hf x
 obtain⟨dst,op,aj,pos,ae,guard⟩:=o;cases op with
 |move x=>cases A;exact⟨_,W,cx,.inl rfl,Ext.refl _ _,C,H x⟩
 |assign x=>cases A;exact⟨_,W,cx,.inl rfl,Ext.refl _ _,C,H x⟩
 |pick c x y=>
  obtain⟨b,hb,A⟩:=sL A;have ah:=H c;rw[hb]at ah;have e:=ah.bool_inv;refine⟨if b then a.eval x else a.eval y,W,cx,.inl ?_,Ext.refl _ _,?_,?_⟩
  . simp[execOp,e,asBool]
  . cases b<;>(cases A;exact C)
  . cases b<;>(cases A;exact H _)
 |alloc t=>
  obtain⟨ti,J,A⟩:=E7 A;have ai:=hE.ti t ti J;obtain⟨z,an,af⟩:=ai.run_zero (W:=W);obtain⟨v',W',cx',G,D,h3,h4⟩:=Tj (P:=P) C (t:=t) (af.rep W cx) af.one af.und ai.zsz A;refine Jl.value (s:=Instr.alloc t zt (.tuple #[])) ?_ D h3 h4;simp only[Instr.alloc,Sem.run_bind,an,Result.andThen_ok];simpa using G
 |box t x=>
  obtain⟨ti,J,A⟩:=E7 A;cases hg:(Nat.beq (lenL (opv E x fr).cells) ti.size&&D5 (opv E x fr).cells)with
  |false=>rw[hg]at A;cases A
  |true=>
   rw [hg]at A;rw[zqa,A5,G5]at hg;have N:opv E x fr≠.und:=fun e=>by
    have:=hg.2 .und (by rw[e];simp[AV.cells])
    cases this
   obtain⟨v',W',cx',G,D,h3,h4⟩:=Tj (P:=P) C (t:=t) (H x) (((H x).cells N).one hg.2) N (C9 hg.1) A;refine Jl.value (s:=Instr.box t (a.eval x)) ?_ D h3 h4;simpa[Instr.box]using G
 |build t ps=>
  obtain⟨ti,J,A⟩:=E7 A;obtain⟨B,hh⟩:=H1 A;subst hh;obtain⟨l1,l2⟩:=Gs C hf ps.toList;obtain⟨v',G,D⟩:=gK hE J (ps:=ps.map fun p=>(p.1,a.eval p.2)) (by rw[Gr];exact l1) (by rw[Gr];exact l2) B;exact Jl.same (s:=Instr.build t _) C G D
 |buildSlice t n ps=>
  obtain⟨ti,J,A⟩:=E7 A;cases U:elemOfT E ti.desc with
  |none=>rw[U]at A;cases A
  |some te=>
   rw[U]at A;cases hg:(Nat.ble (Nat.mul n te.size) 65536&&Nat.blt 0 te.size)with
   |false=>simp only[hg]at A;cases A
   |true=>
    simp only[hg,cond_true]at A;cases I:placeL te.size (opvps E ps.toList fr) (repL n te.zero)with
    |none=>rw[I]at A;cases A
    |some es=>
     rw[I]at A;cases A;obtain⟨l1,l2⟩:=Gs C hf ps.toList;obtain⟨v',W',cx',G,D,h3,h4⟩:=Nr hE C J U (ps:=ps.map fun p=>(p.1,a.eval p.2)) (by rw[Gr];exact l1) (by rw[Gr];exact l2) hg I;exact Jl.value (s:=Instr.buildSlice t n _) G D h3 h4
 |load t x=>
  obtain⟨ti,J,A⟩:=E7 A;obtain⟨B,hh⟩:=H1 A;subst hh;obtain⟨v',G,D⟩:=Th hE C J (H x) B;exact Jl.same (s:=Instr.loadAt t _) C G D
 |store t x y=>
  obtain⟨ti,J,A⟩:=E7 A
  have:Cw ti (opv E x fr) (opv E y fr) h=zs h'/\v=.und:=by
   cases B:Cw ti (opv E x fr) (opv E y fr) h with
   |none=>rw[B]at A;cases A
   |some D=>rw[B]at A;cases A;exact⟨rfl,rfl⟩
  obtain⟨B,rfl⟩:=this;obtain⟨W',G,D,h3⟩:=gE hE C J (H x) (H y) B;exact Jl.unit (s:=Instr.storeAt t _ _) G D h3
 |nilCheck x=>
  obtain ⟨B,hh⟩:=H1 A;subst hh;have Q:=H x;have aa:∀u:Value,a.eval x=u->(match u with | .pointer zn | .nilIface | .nilFunc=>False | .func (.method _) _ _=>False|_=>True)->(execOp a.eval ⟨dst,.nilCheck x,aj,pos,ae,guard⟩).run P W=.ok (.value u) W:=by
   intro u N hm;simp only[execOp,N];cases u with
   | pointer p=>cases p with
    |none=>exact hm.elim
    |some p=>rfl
   | func f a b=>cases f with
    |method n=>exact hm.elim
    |_=>rfl
   |nilIface=>exact hm.elim
   |nilFunc=>exact hm.elim
   |_=>rfl
  cases X:opv E x fr with
  |fptr w o=>
   rw[X]at B Q;cases B;obtain⟨b,o',e,_⟩:=Q.fptr_inv;exact⟨_,W,cx,.inl (aa _ e trivial),Ext.refl _ _,C,e▸Q⟩
  |ptr i j o=>
   rw[X]at B Q;cases B;obtain⟨_,e⟩:=Q.ptr_inv;exact⟨_,W,cx,.inl (aa _ e trivial),Ext.refl _ _,C,e▸Q⟩
  |fn f l1 l2=>
   rw[X]at B Q;cases f with
   |func f=>
    cases B;cases N:a.eval x with
    |func f' vs ws=>
     rw[N]at Q
     have:f'=.func f:=by cases Q;rfl
     subst this;exact⟨_,W,cx,.inl (aa _ N trivial),Ext.refl _ _,C,Q⟩
    |_=>rw[N]at Q;cases Q
   |_=>cases B
  |map i=>
   rw[X]at B Q;cases B;cases N:a.eval x with
   |map r=>
    rw[N]at Q;exact⟨_,W,cx,.inl (aa _ N trivial),Ext.refl _ _,C,Q⟩
   |_=>rw[N]at Q;cases Q
  |_=>rw[X]at B;cases B
 |binOp op t x y yt=>
  obtain ⟨B,hh⟩:=H1 A;subst hh;obtain⟨v',G,D⟩:∃v',V1 P W op t x y (a.eval x) (a.eval y) v'/\Rep W cx v' v:=by
   rcases orO_some B with B|B
   . exact lN hE (H x) (H y) B x y
   . exact fT hE (H x) (H y) B x y
  exact Jl.same (s:=do eqGuard op t x y (a.eval x) (a.eval y);binOp op t (a.eval x) (a.eval y)) C G D
 |unOp op t x=>
  obtain⟨B,hh⟩:=H1 A;subst hh;obtain⟨v',G,D⟩:=lX (P:=P) (H x) B;exact Jl.same (s:=Op.unary op _) C G D
 |convert s d x=>
  obtain⟨ts,ao,A⟩:=E7 A;obtain⟨td,ap,A⟩:=E7 A;obtain⟨B,hh⟩:=H1 A;subst hh;obtain⟨v',G,D⟩:=Xp hE ao ap (H x) B;exact Jl.same (s:=convert s d _) C G D
 |makeFunc f first caps=>
  cases A;have r1:=Bu (E:=E) C hf first.toList
  have r2:=Bu (E:=E) C hf caps.toList;refine⟨.func f (first.map a.eval) (caps.map a.eval),W,cx,.inl (by simp[execOp,Instr.makeFunc]),Ext.refl _ _,C,?_⟩;refine .fn f _ _ _ _ (by have:=r1.1;simpa using this) (by have:=r2.1;simpa using this) (fun i v c G D=>r1.2 i v c ?_ D) (fun i v c G D=>r2.2 i v c ?_ D)
  . simpa using G
  . simpa using G
 |makeMap t r=>
  cases r with
  |some r=>cases A
  |none=>
   cases A;have he:=Ext.alloc W cx (.map #[] 0) 0;refine⟨.map (zs W.heap.size),W.alloc (.map #[] 0),_,.inl (by simp[execOp,Instr.makeMap]),he,C.push _ _ 0 ⟨#[],0,[],J4 W _,List.Perm.refl _,rfl,by simp,MapKept.stamped_empty 0,fun q B=>by cases B⟩,?_⟩
   have:=Rep.map (W:=W.alloc (.map #[] 0)) (cx:=cx.push W.heap.size 0) h.next (by rw[C.nx];exact Nat.lt_succ_self _) (by rw[C.nx,Cx.push_new];simp)
   rw[C.nx,Cx.push_new]at this;rw[C.nx];exact this
 |makeInterface t x=>
  obtain⟨ti,J,A⟩:=E7 A;cases I:V0 ti.desc with
  |false=>rw[I]at A;cases A
  |true=>
   rw[I]at A;cases A;have V:=(hE.ti t ti J).desc;unfold I5 at V
   have:∃d,P.underlying t=zs d/\∀ms,d≠.interface ms:=by
    cases Y:ti.desc with
    |func=>rw[Y]at I;cases I
    |iface=>rw[Y]at I;cases I
    |other=>rw[Y]at I;cases I
    |struct fs fl=>rw[Y]at V;obtain⟨fields,N,_⟩:=V;exact⟨_,N,by simp⟩
    |_=>rw[Y]at V;exact⟨_,V,by simp⟩
   obtain⟨d,N,hn⟩:=this;have r1:∀W:World,(underlying t).run P W=.ok d W:=fun W=>A3 N
   refine Jl.same (s:=Instr.makeInterface t (a.eval x)) (v':=.iface t (a.eval x)) C ?_ (.iface t _ _ (H x));simp only[Instr.makeInterface,Sem.run_bind,r1,Result.andThen_ok];cases d<;>first|rfl|exact absurd rfl (hn _)
 |typeAssert x xt t ok=>
  obtain⟨ti,J,A⟩:=E7 A;cases I:(V0 ti.desc && !ok)with
  |false=>rw[I]at A;cases A
  |true=>
   rw[I]at A;rw[zqa]at I;obtain⟨I,ad⟩:=I;obtain⟨B,hh⟩:=H1 A;subst hh;have V:=(hE.ti t ti J).desc;unfold I5 at V
   have:∃d,P.underlying t=zs d/\∀ms,d≠.interface ms:=by
    cases Y:ti.desc with
    |func=>rw[Y]at I;cases I
    |iface=>rw[Y]at I;cases I
    |other=>rw[Y]at I;cases I
    |struct fs fl=>rw[Y]at V;obtain⟨fields,N,_⟩:=V;exact⟨_,N,by simp⟩
    |_=>rw[Y]at V;exact⟨_,V,by simp⟩
   obtain⟨d,N,hn⟩:=this;have r1:∀W:World,(underlying t).run P W=.ok d W:=fun W=>A3 N
   have ac:=H x;cases ak:opv E x fr with
   |iface u w=>
    rw[ak]at B ac;have B:(bif Nat.beq u t then zs w else zn)=zs v:=B;cases hb:Nat.beq u t with
    |false=>rw[hb]at B;cases B
    |true=>
     rw [hb]at B;cases B;have al:=C9 hb;have⟨u',am,hr⟩:∃u',a.eval x=.iface t u'/\Rep W cx u' v:=by
      generalize a.eval x=z at ac;cases ac with
      |iface _ u' _ hr=>exact⟨u',by rw[al],hr⟩
     refine Jl.same (s:=Instr.typeAssert (a.eval x) xt t ok) (v':=u') C ?_ hr;rw[am];have ad:ok=zf:=by simpa using ad
     subst ad;simp only[Instr.typeAssert,Sem.run_bind,r1,Result.andThen_ok];cases d<;>first|exact absurd rfl (hn _)|(simp;done)|simp
   |_=>rw[ak]at B;cases B
 |makeSlice t l c=>
  obtain⟨ti,J,A⟩:=E7 A;cases U:elemOfT E ti.desc with
  |none=>rw[U]at A;cases A
  |some te=>
   rw[U]at A;cases hl:asNat (opv E l fr)with
   |none=>simp only[hl]at A;cases A
   |some n=>
    simp only[hl]at A;cases hm:asNat (opv E c fr)with
    |none=>simp only[hm]at A;cases A
    |some m=>
     simp only[hm]at A;cases hg:(Nat.ble n m&&Nat.ble (Nat.mul m te.bytes) 140737488355328&&Nat.blt 0 te.size)with
     |false=>simp only[hg]at A;cases A
     |true=>
      simp only[hg,cond_true]at A;cases A;obtain⟨v',W',cx',G,D,h3,h4⟩:=Ql hE C J U (H l) (H c) hl hm hg;exact Jl.value (s:=Instr.makeSlice t _ _) G D h3 h4
 |slice t x lo hi mx=>
  have A:Gp E t x lo hi mx fr h=.ok v h':=A;unfold Gp at A;obtain⟨ti,J,A⟩:=E7 A;cases ag:hi.isNone&&mx.isSome with
  |true=>rw[ag]at A;cases A
  |false=>
   rw [ag]at A;obtain⟨B,hh⟩:=H1 A;subst hh;obtain⟨v',G,D⟩:=gI hE J (H x) (bY C hf lo) (bY C hf hi) (bY C hf mx) (fun hn=>by
    cases hi with
    |some hi=>cases hn
    | none=>cases mx with
     |none=>rfl
     |some mx=>cases ag) B
   exact Jl.same (s:=Instr.sliceAt t _ _ _ _) C G D
 |fieldAddr t x f=>
  obtain⟨ti,J,A⟩:=E7 A;obtain⟨B,hh⟩:=H1 A;subst hh;obtain⟨p,I,B⟩:=A1 B;obtain⟨v',G,D⟩:=Qj hE J (H x) I B;exact Jl.same (s:=Instr.fieldAt t _ f) C G D
 |field t x f=>
  obtain⟨ti,J,A⟩:=E7 A;obtain⟨B,hh⟩:=H1 A;subst hh;obtain⟨p,I,B⟩:=A1 B;obtain⟨v',G,D⟩:=gG hE J (H x) I B;exact Jl.same (s:=Instr.field t _ f) C G D
 |indexAddr t x i=>
  obtain⟨ti,J,A⟩:=E7 A;obtain⟨B,hh⟩:=H1 A;subst hh;obtain⟨n,hn,B⟩:=A1 B;obtain⟨v',G,D⟩:=Qk hE J (H x) (H i) hn B;exact Jl.same (s:=Instr.indexAt t _ _) C G D
 |index t x i=>
  obtain⟨ti,J,A⟩:=E7 A;obtain⟨B,hh⟩:=H1 A;subst hh;obtain⟨n,hn,B⟩:=A1 B;obtain⟨v',G,D⟩:=gH hE J (H x) (H i) hn B;exact Jl.same (s:=Instr.index t _ _) C G D
 |lookup t m k ok=>cases A
 |mapUpdate t m k x=>cases A
 |insert t m k x=>cases A
 |extract t i=>
  obtain⟨vs,aq,A⟩:=vX A;obtain⟨B,hh⟩:=H1 A;subst hh
  have:=H t
  rw[aq]at this;obtain⟨v',G,D⟩:=Xq (P:=P) this B;exact Jl.same (s:=Instr.extract _ i) C G D
 |call c=>
  obtain⟨ab,args,argTypes⟩:=c;cases ab with
  |value f=>exact absurd rfl (hc _ f rfl)
  |invoke f n=>cases A
  |builtin b=>
   have A:lift2 (E9 E b argTypes.toList (opvs E args.toList fr) h)=.ok v h':=A;cases B:E9 E b argTypes.toList (opvs E args.toList fr) h with
   |none=>rw[B]at A;cases A
   |some p=>
    rw [B]at A;cases A;have hl:RepL W cx (args.map a.eval).toList (opvs E args.toList fr):=by
     have:=Bu (E:=E) C hf args.toList;simpa using this
    exact Xn hE C hl B
 |panic x=>
  exfalso
  have A:sJ (opv E x fr) h=.ok v h':=A;cases B:opv E x fr<;>rw[B]at A<;>cases A
 |_=>cases A
end
end Go.AM
/-
 The abstract machine: operations,calls among them,and rows of operations in the order of the text.
-/
namespace Go.AM
def Res.Post(E:Env)(W:World)(cx:Cx):Res->Ending->World->Prop
 |.ok v h,.returned A,w=>∃cx',Ext W cx w cx'/\Sat E w cx' h/\Rep w cx' A v
 |.pan v h,.panicked chain,w=>∃cx' A,chain=[{v:=A,recovered:=zf}]/\Ext W cx w cx'/\Sat E w cx' h/\Rep w cx' A v
 |_,_,_=>False
def Fe(E:Env)(P:Program)(call:D4):Prop:=
 ∀ f (args:Array Value) l W cx h,RepL W cx args.toList l->Sat E W cx h->call f l h≠.bad ->
   (∃ fn c, P.funcs[f]? = zs fn ∧ fn.body = zs c ∧ (fn.name == "runtime.NumGoroutine") = zf) ∧ Calls P f args W ((call f l h).Post E W cx)
def bZ:Ex->Exit
 |.normal=>.normal
 |.exit i=>.exit i
 | .ret=>.ret
def CRes.Post(E:Env)(W:World)(cx:Cx)(S:Act->Prop)(r:CRes)(x:Exit)(a:Act)(w:World):Prop:=
 S a/\∃cx',Ext W cx w cx'/\
   match r with
   |.ok e fr h=>x=bZ e/\Sat E w cx' h/\FrRep w cx' a.tmps fr
   |.pan v h=>∃A,x=.panic [{v:=A,recovered:=zf}]/\Sat E w cx' h/\Rep w cx' A v
   | .bad=>False
def Lh(S:Act->Prop)(d:Option Tmp):Prop:=∀a v,S a->S (a.put d v)
theorem CRes.Post.trans{E:Env}{W B:World}{cx A:Cx}{S:Act->Prop}(D:Ext W cx B A){r:CRes}{x:Exit}{a:Act}{w:World}(h:r.Post E B A S x a w):r.Post E W cx S x a w:=by
 obtain⟨G,cx',C,h⟩:=h;exact⟨G,cx',D.trans C,h⟩
section
variable {P:Program}{E:Env}{W:World}{cx:Cx}{h:Heap}
def Y4(r:Res):Prop:=∀v h,r≠.pan v h
theorem Y4.ok{v:AV}{h:Heap}:Y4 (.ok v h):=fun _ _ e=>by cases e
theorem Y4.bad:Y4 .bad:=fun _ _ e=>by cases e
theorem Y4.lift{x:Option AV}{h:Heap}:Y4 (lift x h):=by cases x;exact .bad;exact .ok
theorem Y4.liftH{x:Option Heap}:Y4 (liftH x):=by cases x;exact .bad;exact .ok
theorem Y4.lift2{x:Option (AV×Heap)}:Y4 (lift2 x):=by cases x;exact .bad;exact .ok
theorem Y4.onTI{t:Nat}{f:TI->Res}(hf:∀x,Y4 (f x)):Y4 (onTI E t .bad f):=by
 unfold AM.onTI;cases E.ti t;exact .bad;exact hf _
theorem Y4.cond{b:Bool}{x y:Res}(hx:Y4 x)(hy:Y4 y):Y4 (bif b then x else y):=by grind
theorem Sz{call:D4}{op:Op}{fr:Tr}(B:∀x,op≠.panic x)(hc:∀c f,op=.call c->c.callee≠.value f):Y4 (evOp E call op fr h):=by
 cases op with
 |panic x=>exact absurd rfl (B x)
 |call c=>
  obtain⟨A,args,argTypes⟩:=c;cases A with
  |value f=>exact absurd rfl (hc _ f rfl)
  |invoke f n=>exact .bad
  |builtin b=>exact .lift2
 |move x=>exact .ok
 |assign x=>exact .ok
 |pick c x y=>
  show Y4 ((opv E c fr).onBool .bad fun t=>match t with|true=>.ok (opv E x fr) h|false=>.ok (opv E y fr) h)
  cases opv E c fr with
  |bool b=>cases b<;>exact .ok
  |_=>exact .bad
 |alloc t=>exact .onTI fun _=>.ok
 |box t x=>exact .onTI fun _=>.cond .ok .bad
 |build t ps=>exact .onTI fun _=>.lift
 |buildSlice t n ps=>
  refine .onTI fun ti=>?_
  cases elemOfT E ti.desc with
  |none=>exact .bad
  |some te=>
   refine .cond ?_ .bad;cases placeL te.size (opvps E ps.toList fr) (repL n te.zero)with
   |none=>exact .bad
   |some es=>exact .ok
 |load t x=>exact .onTI fun _=>.lift
 |store t x y=>exact .onTI fun _=>.liftH
 |nilCheck x=>exact .lift
 |binOp op t x y yt=>exact .lift
 |unOp op t x=>exact .lift
 |convert s d x=>exact .onTI fun _=>.onTI fun _=>.lift
 |makeFunc f first caps=>exact .ok
 |makeMap t r=>cases r;exact .ok;exact .bad
 |makeInterface t x=>exact .onTI fun _=>.cond .ok .bad
 |typeAssert x xt t ok=>exact .onTI fun _=>.cond .lift .bad
 |makeSlice t l c=>
  refine .onTI fun ti=>?_
  cases elemOfT E ti.desc with
  |none=>exact .bad
  |some te=>
   cases h1:asNat (opv E l fr)with
   |none=>exact .bad
   |some n=>
    cases h2:asNat (opv E c fr)with
    |none=>exact .bad
    |some m=>exact .cond .ok .bad
 |slice t x lo hi mx=>exact .onTI fun _=>.cond .bad .lift
 |fieldAddr t x f=>exact .onTI fun _=>.lift
 |field t x f=>exact .onTI fun _=>.lift
 |indexAddr t x i=>exact .onTI fun _=>.lift
 |index t x i=>exact .onTI fun _=>.lift
 |lookup t m k ok=>exact .bad
 |mapUpdate t m k x=>exact .bad
 |insert t m k x=>exact .bad
 |extract t i=>
  show Y4 ((opv E t fr).onTup .bad fun vs=>lift (Es vs i) h)
  cases opv E t fr with
  |tup vs=>exact .lift
  |_=>exact .bad
 |_=>exact .bad
theorem Li(hE:EnvOk E P)(hs:Sat E W cx h){a:Act}{fr:Tr}(hf:FrRep W cx a.tmps fr){call:D4}(hcall:Fe E P call)(o:Oper){K:Act->World->Prop}{Q:Exit->Act->World->Prop}
 (hb:evOp E call o.op fr h≠.bad)
 (hK:∀v h' v' W' cx',evOp E call o.op fr h=.ok v h'->Ext W cx W' cx'->Sat E W' cx' h'->Rep W' cx' v' v->K (a.put o.dst v') W')
 (hQ:∀v h' v' W' cx',evOp E call o.op fr h=.pan v h'->Ext W cx W' cx'->Sat E W' cx' h'->Rep W' cx' v' v->Q (.panic [{v:=v',recovered:=zf}]) a W'):o.wp P a W K Q:=by
 by_cases hc:∀c f,o.op=.call c->c.callee≠.value f
 . by_cases hp:∀x,o.op≠.panic x
   . cases hev:evOp E call o.op fr h with
     |bad=>grind
     |pan v h'=>exact absurd hev (Sz hp hc v h')
     |ok v h'=>
      obtain⟨v',W',cx',hr,h1,h2,h3⟩:=lR hE hs hf o hc hev;have hk:=hK v h' v' W' cx' hev h1 h2 h3;unfold Oper.wp;rcases hr with hr|⟨hr,rfl⟩
      . rw[hr];exact hk
      . rw[hr];exact hk
   . have ⟨x,hx⟩:∃x,o.op=.panic x:=by
      grind
     have ov:=W8 (E:=E) hs hf x;rw[hx]at hb hQ;have e:evOp E call (.panic x) fr h=sJ (opv E x fr) h:=rfl;rw[e]at hb hQ;cases hq:opv E x fr with
     |iface t v=>
      rw[hq]at hQ ov;have hk:=hQ (.iface t v) h (a.eval x) W cx rfl (Ext.refl _ _) hs ov
      have:∃u,a.eval x=.iface t u:=by
       generalize a.eval x=u at ov;cases ov;grind
      obtain⟨u,hu⟩:=this;unfold Oper.wp
      have:(execOp a.eval o).run P W=.halt (.panic (a.eval x)) W:=by
       simp_all[execOp,Instr.panic]
      rw[this];exact hk
     |_=>rw[hq]at hb;exact absurd rfl hb
 . have ⟨c,f,hop,hcf⟩:∃c f,o.op=.call c/\c.callee=.value f:=by
    grind
   obtain⟨dst,op,type,pos,after,guard⟩:=o;simp only at hop;subst hop;obtain⟨callee,args,argTypes⟩:=c;simp only at hcf;subst hcf;have e:evOp E call (.call ⟨.value f,args,argTypes⟩) fr h=c8 call (opv E f fr) (opvs E args.toList fr) h:=rfl;rw[e]at hb hK hQ;have ov:=W8 (E:=E) hs hf f;have oa:=Bu (E:=E) hs hf args.toList;cases hq:opv E f fr with
   |fn g first caps=>
    rw[hq]at hb hK hQ ov;cases g with
    |func n=>
     have e:c8 call (.fn (.func n) first caps) (opvs E args.toList fr) h=call n (appL first (appL (opvs E args.toList fr) caps)) h:=rfl;rw[e]at hb hK hQ;have⟨vs,ws,hv,h1,h2⟩:∃vs ws,a.eval f=.func (.func n) vs ws/\RepL W cx vs.toList first/\RepL W cx ws.toList caps:=by
      generalize a.eval f=u at ov;cases ov with
      |fn f vs ws cs ds hl hl' h h'=>exact⟨vs,ws,rfl,⟨by grind,(by grind)⟩,⟨by grind,(by grind)⟩⟩
     rw [L7,L7]at hb hK hQ;have hl:RepL W cx (vs++args.map a.eval++ws).toList (first++(opvs E args.toList fr++caps)):=by
      have:(vs++args.map a.eval++ws).toList=vs.toList++(args.toList.map a.eval++ws.toList):=by simp
      rw[this];exact h1.append (oa.append h2)
     obtain⟨⟨fn,c,hf1,hf2,hf3⟩,hcl⟩:=hcall n _ _ W cx h hl hs hb;unfold Oper.wp
     have:(execOp a.eval ⟨dst,.call ⟨.value f,args,argTypes⟩,type,pos,after,guard⟩).run P W=.ok (.enter n (vs++args.map a.eval++ws)) W:=by
      have hn : ¬ fn.name = "runtime.NumGoroutine" := fun e => by grind
      simp[execOp,resolve,hv,Deferred.ofValue,invoke,callFunc,hf1,hf2,hn]
     rw[this,Oper.upon_enter];refine hcl.mono fun e w' hp=>?_
     generalize call n (first++(opvs E args.toList fr++caps)) h=r at *;cases r with
     |bad=>grind
     |ok v h'=>
      cases e with
      |returned vv=>obtain⟨cx',h1,h2,h3⟩:=hp;grind
      |_=>exact hp.elim
     |pan v h'=>
      cases e with
      |panicked c=>obtain⟨cx',vv,rfl,h1,h2,h3⟩:=hp;grind
      |_=>exact hp.elim
    |_=>exact absurd rfl hb
   |_=>rw[hq]at hb;exact absurd rfl hb
theorem O1{ops:Array Oper}{a:Act}{fr:Tr}(hf:FrRep W cx a.tmps fr)(o:Oper){b:Bool}(hg:guardOk (G0 ops.toList o) fr=zs b):Region.wanted o (yielded ops a.tmps)=b:=by
 unfold G0 at hg;unfold Region.wanted;cases C:o.guard with
 |none=>rw[C]at hg;cases hg;rfl
 |some p=>
  obtain ⟨g,A⟩:=p;rw[C]at hg;dsimp only at hg|-;have hg:Ku ((match ops.toList[g]? with|some q=>q.dst|none=>zn),A) fr=zs b:=hg;have B:yielded ops a.tmps g=match((match ops.toList[g]? with|some q=>q.dst|none=>zn).bind (a.tmps[·]?))with|some (.bool b)=>zs b|_=>zn:=by
   grind[yielded]
  generalize hdst:(match ops.toList[g]? with|some q=>q.dst|none=>zn)=d at hg B;cases d with
  |none=>
   cases hg;grind
  |some t=>
   have hg:j8 A (fr.get t)=zs b:=hg;have D:=hf.rep t;cases G:fr.get t with
   |bool c=>
    rw [G]at hg D;have e:=D.bool_inv;have e2:a.tmps[t]?=zs (.bool c):=by
     rw[zqd]at e;cases H:a.tmps[t]? with
     |none=>rw[H]at e;cases e
     |some u=>grind
    rw[B];simp only[zqo,e2];cases A<;>cases c<;>cases hg<;>rfl
   |tup l=>
    rw[G]at hg D;cases l with
    |cons x l=>cases hg
    |nil=>
     cases hg;obtain⟨vs,e,_⟩:=D.tup_inv;rw[B];simp only[zqo];rw[zqd]at e;grind
   |_=>rw[G]at hg;cases hg
theorem y5(a:Act)(d:Option Tmp)(v:Value):(a.put d v).defers=a.defers:=by cases d<;>rfl
theorem Aw(hE:EnvOk E P){call:D4}(A:Fe E P call){S:Act->Prop}{ops:Array Oper}{Q:Exit->Act->World->Prop}:∀(l:List Oper)(W:World)(cx:Cx)(a:Act)(fr:Tr)(h:Heap),(∀o∈l,Lh S o.dst)->FrRep W cx a.tmps fr->S a->Sat E W cx h ->
 H5 E call (l.map (eR ops.toList zf [] zf)) fr h≠.bad->(∀x D w',(H5 E call (l.map (eR ops.toList zf [] zf)) fr h).Post E W cx S x D w'->Q x D w')->wpList P ops Q l a W
 |[],W,cx,a,fr,h,_,hf,hd,hs,hb,B=>B .normal a W ⟨hd,cx,Ext.refl _ _,rfl,hs,hf⟩
 |o :: l,W,cx,a,fr,h,hst,hf,hd,hs,hb,B=>by
  have C:∀o∈l,Lh S o.dst:=(by grind)
  have G:=hst o (zqf ..);have V:H5 E call ((o::l).map (eR ops.toList zf [] zf)) fr h =
   onOB (guardOk (G0 ops.toList o) fr) .bad (X4 o.dst (H5 E call (l.map (eR ops.toList zf [] zf))) fr (evOp E call o.op fr h)) (H5 E call (l.map (eR ops.toList zf [] zf)) (setDst o.dst skipped fr) h):=rfl
  rw[V]at hb B;cases hg:guardOk (G0 ops.toList o) fr with
  |none=>rw[hg]at hb;exact absurd rfl hb
  |some b=>
   have N:=O1 (ops:=ops) hf o hg;rw[hg]at hb B;unfold wpList;cases b with
   |false=>
    rw[N];have hb:H5 E call (l.map (eR ops.toList zf [] zf)) (setDst o.dst skipped fr) h≠.bad:=hb;exact Aw hE A l W cx _ _ h C (hf.put o.dst (show Rep W cx undef skipped from .tup #[] [] rfl (by simp))) (G _ _ hd) hs hb B
   |true=>
    rw[N];have hb:X4 o.dst (H5 E call (l.map (eR ops.toList zf [] zf))) fr (evOp E call o.op fr h)≠.bad:=hb;have B:∀x D w',(X4 o.dst (H5 E call (l.map (eR ops.toList zf [] zf))) fr (evOp E call o.op fr h)).Post E W cx S x D w'->Q x D w':=B;refine .inl (Li hE hs hf A o (fun e=>by rw[e]at hb;exact hb rfl) (fun v h' v' W' cx' e H I J=>?_) (fun v h' v' W' cx' e H I J=>?_))
    . rw[e]at hb B
      exact Aw hE A l W' cx' _ _ h' C ((hf.mono H).put o.dst J) (G _ _ hd) I hb (fun x D w' U=>B x D w' (CRes.Post.trans H U))
    . rw[e]at B
      exact B _ _ _ ⟨hd,cx',H,v',rfl,I,J⟩
end
end Go.AM
/-
 The abstract machine: on what an operation hangs,and what it leaves.
-/
namespace Go.AM
section
variable {E:Env}{call:D4}{h:Heap}
theorem Dg{fr fr':Tr}:∀(l:List Operand),(∀y∈l,opv E y fr=opv E y fr')->opvs E l fr=opvs E l fr'
 |[],_=>rfl
 |x::l,hy=>by
  show opv E x fr::opvs E l fr=opv E x fr'::opvs E l fr'
  rw[hy x (zqf ..),Dg l fun y A=>hy y (List.mem_cons_of_mem _ A)]
theorem Ff{fr fr':Tr}:∀(l:List (Nat×Operand)),(∀y∈l.map (·.2),opv E y fr=opv E y fr')->opvps E l fr=opvps E l fr'
 |[],_=>rfl
 |x::l,hy=>by
  show(x.1,opv E x.2 fr)::opvps E l fr=(x.1,opv E x.2 fr')::opvps E l fr'
  rw[hy x.2 (by simp),Ff l fun y A=>hy y (by simp at A|-;exact .inr A)]
theorem Jj{fr fr':Tr}(o:Option Operand)(hy:∀y,o=zs y->opv E y fr=opv E y fr'):Nk E o fr=Nk E o fr':=by
 cases o with
 |none=>rfl
 |some x=>show zs _=zs _;grind
theorem y6{fr fr':Tr}(op:Op)(A:∀y∈op.operands.toList,opv E y fr=opv E y fr')(h:Heap):evOp E call op fr h=evOp E call op fr' h:=by
 cases op with
 |move x=>show Res.ok _ _=Res.ok _ _;rw[A x (by simp[Op.operands])]
 |assign x=>show Res.ok _ _=Res.ok _ _;rw[A x (by simp[Op.operands])]
 |pick c a b=>show bO E c a b fr h=bO E c a b fr' h;unfold bO;rw[A c (by simp[Op.operands]),A a (by simp[Op.operands]),A b (by simp[Op.operands])]
 |alloc t=>rfl
 |box t x=>show oJ E t x fr h=oJ E t x fr' h;unfold oJ;rw[A x (by simp[Op.operands])]
 |build t ps=>show Ra E t ps fr h=Ra E t ps fr' h;unfold Ra;rw[Ff ps.toList (fun y B=>A y (by simpa[Op.operands]using B))]
 |buildSlice t n ps=>show L6 E t n ps fr h=L6 E t n ps fr' h;unfold L6;rw[Ff ps.toList (fun y B=>A y (by simpa[Op.operands]using B))]
 |load t x=>show bP E t x fr h=bP E t x fr' h;unfold bP;rw[A x (by simp[Op.operands])]
 |store t a x=>show Rb E t a x fr h=Rb E t a x fr' h;unfold Rb;rw[A a (by simp[Op.operands]),A x (by simp[Op.operands])]
 |nilCheck x=>show Cy E x fr h=Cy E x fr' h;unfold Cy;rw[A x (by simp[Op.operands])]
 |binOp op t x y u=>show Rc E op t x y fr h=Rc E op t x y fr' h;unfold Rc;rw[A x (by simp[Op.operands]),A y (by simp[Op.operands])]
 |unOp op t x=>show bQ E op x fr h=bQ E op x fr' h;unfold bQ;rw[A x (by simp[Op.operands])]
 |convert s d x=>show Gm E s d x fr h=Gm E s d x fr' h;unfold Gm;rw[A x (by simp[Op.operands])]
 |makeFunc f first caps=>show Cz E f first caps fr h=Cz E f first caps fr' h;unfold Cz;rw[Dg first.toList (fun y B=>A y (by simp[Op.operands];exact .inl (by simpa using B))),Dg caps.toList (fun y B=>A y (by simp[Op.operands];exact .inr (by simpa using B)))]
 |makeMap t r=>rfl
 |typeAssert x xt t ok=>show u9 E t ok x fr h=u9 E t ok x fr' h;unfold u9;rw[A x (by simp[Op.operands])]
 |makeInterface t x=>show W7 E t x fr h=W7 E t x fr' h;unfold W7;rw[A x (by simp[Op.operands])]
 |makeSlice t l c=>show O0 E t l c fr h=O0 E t l c fr' h;unfold O0;rw[A l (by simp[Op.operands]),A c (by simp[Op.operands])]
 |slice t x lo hi mx=>
  show Gp E t x lo hi mx fr h=Gp E t x lo hi mx fr' h;unfold Gp
  rw[A x (by simp[Op.operands]),Jj lo (fun y e=>A y (by simp[Op.operands,e])),Jj hi (fun y e=>A y (by simp[Op.operands,e])),Jj mx (fun y e=>A y (by simp[Op.operands,e]))]
 |fieldAddr t x f=>show Ap E t x f fr h=Ap E t x f fr' h;unfold Ap;rw[A x (by simp[Op.operands])]
 |field t x f=>show Rd E t x f fr h=Rd E t x f fr' h;unfold Rd;rw[A x (by simp[Op.operands])]
 |indexAddr t x i=>show Aq E t x i fr h=Aq E t x i fr' h;unfold Aq;rw[A x (by simp[Op.operands]),A i (by simp[Op.operands])]
 |index t x i=>show Re E t x i fr h=Re E t x i fr' h;unfold Re;rw[A x (by simp[Op.operands]),A i (by simp[Op.operands])]
 |lookup t m k ok=>rfl
 |mapUpdate t m k x=>rfl
 |insert t m k x=>rfl
 |extract t i=>show Gq E t i fr h=Gq E t i fr' h;unfold Gq;rw[A t (by simp[Op.operands])]
 |call c=>
  show lH E call c fr h=lH E call c fr' h
  obtain⟨C,args,argTypes⟩:=c;have ha:=Dg (E:=E) (fr:=fr) (fr':=fr') args.toList (fun y B=>A y (by simp[Op.operands,Call.operands];exact .inr (by simpa using B)));cases C with
  |value f=>
   have hf:=A f (by simp[Op.operands,Call.operands]);show c8 call (opv E f fr) (opvs E args.toList fr) h=c8 call (opv E f fr') (opvs E args.toList fr') h
   rw[hf,ha]
  |invoke f n=>rfl
  |builtin b=>
   show lift2 (E9 E b argTypes.toList (opvs E args.toList fr) h)=lift2 (E9 E b argTypes.toList (opvs E args.toList fr') h)
   rw[ha]
 |panic x=>show Rf E x fr h=Rf E x fr' h;unfold Rf;rw[A x (by simp[Op.operands])]
 |_=>rfl
theorem K9{x:Option AV}{v:AV}{h h':Heap}(B:lift x h=.ok v h')(A:Heap):h'=h/\lift x A=.ok v A:=by
 cases x with
 |none=>cases B
 |some a=>cases B;exact⟨rfl,rfl⟩
theorem Q7{t:Nat}{f:Heap->TI->Res}{v:AV}{h':Heap}{A:Heap}(hf:∀x,f h x=.ok v h'->h'=h/\f A x=.ok v A)(B:onTI E t .bad (f h)=.ok v h'):h'=h/\onTI E t .bad (f A)=.ok v A:=by
 unfold onTI at B|-;cases C:E.ti t with
 |none=>simp_all
 |some x=>rw[C]at B;grind
theorem Nq{op:Op}(hc:Hr op=0){fr:Tr}{v:AV}{h':Heap}(A:evOp E call op fr h=.ok v h')(B:Heap):h'=h/\evOp E call op fr B=.ok v B:=by
 cases op with
 |move x=>cases A;exact⟨rfl,rfl⟩
 |assign x=>cases A;exact⟨rfl,rfl⟩
 |pick c x y=>
  have A:(opv E c fr).onBool Res.bad (fun t=>match t with|true=>Res.ok (opv E x fr) h|false=>Res.ok (opv E y fr) h)=Res.ok v h':=A;show _/\(opv E c fr).onBool Res.bad (fun t=>match t with|true=>Res.ok (opv E x fr) B|false=>Res.ok (opv E y fr) B)=Res.ok v B
  cases G:opv E c fr with
  |bool b=>rw[G]at A;cases b<;>(cases A;exact⟨rfl,rfl⟩)
  |_=>rw[G]at A;cases A
 |binOp op t x y u=>exact K9 A B
 |unOp op t x=>exact K9 A B
 |convert s d x=>exact Q7 (f:=fun h _=>onTI E d .bad fun H=>lift (R8 H.desc (opv E x fr)) h) (fun _ C=>Q7 (f:=fun h H=>lift (R8 H.desc (opv E x fr)) h) (fun _ C=>K9 C B) C) A
 |extract t i=>
  have A:(opv E t fr).onTup Res.bad (fun vs=>lift (Es vs i) h)=Res.ok v h':=A;show _/\(opv E t fr).onTup Res.bad (fun vs=>lift (Es vs i) B)=Res.ok v B
  cases G:opv E t fr with
  |tup vs=>rw[G]at A;exact K9 A B
  |_=>rw[G]at A;cases A
 |field t x f=>exact Q7 (f:=fun h ti=>lift (A6 (fieldAt E ti f) fun p=>(opv E x fr).onAgg zn fun cs=>partOf p.1 cs p.2) h) (fun _ C=>K9 C B) A
 |fieldAddr t x f=>exact Q7 (f:=fun h ti=>lift (A6 (fieldAt E ti f) fun p=>B3 (Nat.blt 0 p.1.size) (B0 (opv E x fr) p.2)) h) (fun _ C=>K9 C B) A
 |indexAddr t x i=>exact Q7 (f:=fun h ti=>lift (A6 (asNat (opv E i fr)) fun i=>S3 E ti.desc i (opv E x fr)) h) (fun _ C=>K9 C B) A
 |index t x i=>exact Q7 (f:=fun h ti=>lift (A6 (asNat (opv E i fr)) fun i=>Ew E ti.desc i (opv E x fr)) h) (fun _ C=>K9 C B) A
 |slice t x lo hi mx=>
  refine Q7 (f:=fun h ti=>bif hi.isNone&&mx.isSome then .bad else lift (sliceA E ti.desc (Nk E lo fr) (Nk E hi fr) (Nk E mx fr) (opv E x fr)) h) (fun _ C=>?_) A;grind[K9]
 |nilCheck x=>exact K9 A B
 |build t ps=>exact Q7 (f:=fun h ti=>lift (R9 E ti (opvps E ps.toList fr)) h) (fun _ C=>K9 C B) A
 |makeInterface t x=>
  refine Q7 (f:=fun h ti=>bif V0 ti.desc then .ok (.iface t (opv E x fr)) h else .bad) (fun ti C=>?_) A;grind
 |makeFunc f first caps=>cases A;exact⟨rfl,rfl⟩
 |call c=>
  exfalso
  obtain⟨D,args,argTypes⟩:=c;cases D with
  |builtin b=>cases b<;>cases hc
  |_=>cases hc
 |_=>cases hc
theorem lS{α:Type}{i:Nat}{d:α}{f:List AV->Nat->α}{A:Heap}(hg:A.get i=h.get i):A.onRow i d f=h.onRow i d f:=by grind[Heap.onRow]
theorem fV{α:Type}{i:Nat}{d:α}{f:List (AV×AV)->α}{A:Heap}(hg:A.get i=h.get i):A.onMapo i d f=h.onMapo i d f:=by grind[Heap.onMapo]
theorem wC{x y:Option AV}{v:AV}{h h' A:Heap}(e:y=x)(hx:lift x h=.ok v h'):h'=h/\lift y A=.ok v A:=by
 grind[K9]
theorem lT{A:Heap}{t:TI}{x:AV}(hg:∀i,o6 x=zs i->A.get i=h.get i):Ev t x A=Ev t x h:=by
 cases x with
 |ptr id i off=>exact lS (hg id rfl)
 |_=>rfl
theorem sN{A:Heap}{d:TD}{x:AV}(hg:∀i,o6 x=zs i->A.get i=h.get i):lF d x A=lF d x h:=by
 cases d with
 |map k e=>
  cases x with
  |map id=>exact fV (hg id rfl)
  |_=>rfl
 |_=>rfl
theorem map_lt{W:World}{cx:Cx}{u:Value}{id:Nat}(A:Rep W cx u (.map id)):id<cx.nx:=by
 cases A;assumption
theorem Ta{W:World}{cx:Cx}{u:Value}{x:AV}(B:Rep W cx u x){i:Nat}(A:o6 x=zs i):i<cx.nx:=by
 cases x with
 |ptr id i off=>cases A;exact B.ptr_inv.1
 |map id=>cases A;exact map_lt B
 |_=>cases A
theorem wD{W:World}{cx:Cx}{op:Op}{fr:Tr}(D:∀y∈op.operands.toList,∃u,Rep W cx u (opv E y fr)){i:Nat}(B:readO E op fr=zs i):i<cx.nx:=by
 cases op with
 |load t x=>obtain⟨u,C⟩:=D x (by simp[Op.operands]);exact Ta C B
 |lookup t m k ok=>obtain⟨u,C⟩:=D m (by simp[Op.operands]);exact Ta C B
 |call c=>
  obtain⟨callee,args,argTypes⟩:=c;have B:(match args.toList with|[]=>zn|x::_=>o6 (opv E x fr))=zs i:=B;cases A:args.toList with
  |nil=>grind
  |cons a r=>
   rw[A]at B;obtain⟨u,C⟩:=D a (by simp[Op.operands,Call.operands];exact .inr (Array.mem_toList_iff.1 (by rw[A];exact zqf ..)));exact Ta C B
 |_=>cases B
theorem lU{op:Op}(hc:Hr op=1){fr:Tr}{B:Heap}(hg:∀i,readO E op fr=zs i->B.get i=h.get i){v:AV}{h':Heap}(A:evOp E call op fr h=.ok v h'):h'=h/\evOp E call op fr B=.ok v B:=by
 cases op with
 |load t x=>
  exact Q7 (f:=fun h ti=>lift (Ev ti (opv E x fr) h) h) (fun ti I=>wC (lT hg) I) A
 |lookup t m k ok=>cases A
 |call c=>
  obtain⟨D,args,argTypes⟩:=c;cases D with
  |builtin b=>
   have A:lift2 (E9 E b argTypes.toList (opvs E args.toList fr) h)=.ok v h':=A;show _/\lift2 (E9 E b argTypes.toList (opvs E args.toList fr) B)=.ok v B
   have hrep:∀x l,opvs E args.toList fr=x::l->∀i,o6 x=zs i->B.get i=h.get i:=by
    intro x l e i hi;refine hg i ?_;show(match args.toList with|[]=>zn|x::_=>o6 (opv E x fr))=zs i
    cases C:args.toList with
    |nil=>rw[C]at e;cases e
    |cons a r=>
     rw[C]at e;have e:opv E a fr::opvs E r fr=x::l:=e
     have:=(List.cons.inj e).1
     show o6 (opv E a fr)=_
     rw[this];exact hi
   cases b with
   |len=>
    have A:lift2 (Xi E argTypes.toList (opvs E args.toList fr) h)=.ok v h':=A;show _/\lift2 (Xi E argTypes.toList (opvs E args.toList fr) B)=.ok v B
    unfold Xi at A|-;generalize argTypes.toList=H at A|-;generalize opvs E args.toList fr=vs at A hrep|-;cases H with
    |nil=>cases A
    |cons t ts=>
     cases vs with
     |nil=>cases A
     |cons x l=>
      have J:=hrep x l rfl;dsimp only at A|-;unfold onTI at A|-;generalize E.ti t=N at A|-;cases N with
      |none=>cases A
      |some ti=>
       dsimp only at A|-;rw[sN J];cases hl:lF ti.desc x h with
       |none=>rw[hl]at A;cases A
       |some n=>
        rw[hl]at A;simp only[A6,B6,lift2]at A|-;cases A;exact⟨rfl,rfl⟩
   |max=>
    have A:lift2 (sF (opvs E args.toList fr) h)=.ok v h':=A;show _/\lift2 (sF (opvs E args.toList fr) B)=.ok v B
    unfold sF at A|-;generalize opvs E args.toList fr=vs at A|-;cases vs with
    |nil=>cases A
    |cons x l=>
     dsimp only at A|-;cases G:Ni l x with
     |none=>rw[G]at A;cases A
     |some r=>rw[G]at A;cases A;exact⟨rfl,rfl⟩
   |min=>
    have A:lift2 (sG (opvs E args.toList fr) h)=.ok v h':=A;show _/\lift2 (sG (opvs E args.toList fr) B)=.ok v B
    unfold sG at A|-;generalize opvs E args.toList fr=vs at A|-;cases vs with
    |nil=>cases A
    |cons x l=>
     dsimp only at A|-;cases G:Qg l x with
     |none=>rw[G]at A;cases A
     |some r=>rw[G]at A;cases A;exact⟨rfl,rfl⟩
   |_=>cases hc
  |_=>cases hc
 |_=>cases hc
end
end Go.AM
/-
 The abstract machine: new objects; what is left as it was.
-/
namespace Go.AM
section
variable {P:Program}{E:Env}{W:World}{cx:Cx}{h:Heap}{call:D4}
def EW(P:Program)(W:World)(cx:Cx)(s:Sem Next)(es:List AV)(sz:Nat)(nx:Nat->AV):Prop:=
 ∃ (c:Array Value) (t:TypeId) (vs:List Value) (v':Value),s.run P W=.ok (.value v') (W.alloc (.cells c t))/\RowRep W cx vs es sz/\(∀(k:Nat) v,vs[k]?=zs v->c[k]?=zs v)/\es.length*sz<=c.size/\
   ∀(W₂:World)(cx₂:Cx)(id:Nat),cx₂.μ id=(W.heap.size,0,sz)->id<cx₂.nx->W.heap.size<W₂.heap.size->szOf W₂ W.heap.size=c.size->Rep W₂ cx₂ v' (nx id)
theorem Zb{v:Value}{a:AV}{sz:Nat}(C:Rep W cx v a)(B:Xj v.cells.toList)(D:a≠.und)(hz:a.cells.length=sz)(t:TypeId){s:Sem Next}(G:s.run P W=.ok (.value (.pointer (zs ⟨W.heap.size,0,zn⟩))) (W.alloc (.cells v.cells t))):
 EW P W cx s [a] sz (fun id=>.ptr id 0 0):=by
 have A:=C.cells D;refine⟨v.cells,t,_,_,G,RowRep.one A B hz,fun k v hk=>by grind,by have:=A.1;grind,fun W₂ cx₂ id h1 H h3 h4=>?_⟩
 have:=Rep.ptr (W:=W₂) (cx:=cx₂) id 0 0 H (by grind)
 grind
theorem wE(hE:EnvOk E P)(Q:Sat E W cx h){a:Act}{fr:Tr}(hf:FrRep W cx a.tmps fr)(o:Oper)(hc:Hr o.op=2){v:AV}{C h':Heap}(H:evOp E call o.op fr C=.ok v h'):
 ∃es sz nx,v=nx C.next/\h'=C.push (.row es sz)/\(∀A,evOp E call o.op fr A=.ok (nx A.next) (A.push (.row es sz)))/\EW P W cx (execOp a.eval o) es sz nx:=by
 have U:=fun x=>W8 (E:=E) Q hf x
 obtain⟨dst,op,type,pos,after,guard⟩:=o;cases op with
 |alloc t=>
  obtain⟨ti,G,B⟩:=E7 H;have N:=hE.ti t ti G;obtain⟨z,Y,J⟩:=N.run_zero (W:=W);cases B;refine⟨[ti.zero],ti.size,fun id=>.ptr id 0 0,rfl,rfl,fun A=>?_,Zb (J.rep W cx) J.one J.und N.zsz t ?_⟩
  . show onTI E t .bad (fun ti=>lG ti.size ti.zero A)=_
    unfold onTI;rw[G];rfl
  . simp[execOp,Instr.alloc,Y,newVar,newRow]
 |box t x=>
  obtain⟨ti,G,B⟩:=E7 H;cases hg:(Nat.beq (lenL (opv E x fr).cells) ti.size&&D5 (opv E x fr).cells)with
  |false=>grind
  |true=>
   rw [hg]at B;cases B;have X:=hg;rw[zqa,A5,G5]at hg;have hu:opv E x fr≠.und:=fun e=>by
    have:=hg.2 .und (by rw[e];simp[AV.cells])
    cases this
   refine⟨[opv E x fr],ti.size,fun id=>.ptr id 0 0,rfl,rfl,fun A=>?_,Zb (U x) (((U x).cells hu).one hg.2) hu (C9 hg.1) t ?_⟩
   . show onTI E t .bad (fun ti=>bif Nat.beq (lenL (opv E x fr).cells) ti.size&&D5 (opv E x fr).cells then lG ti.size (opv E x fr) A else .bad)=_
     unfold onTI;rw[G];dsimp only;rw[X];rfl
   . simp[execOp,Instr.box,newVar,newRow]
 |buildSlice t n ps=>
  obtain⟨ti,G,B⟩:=E7 H;cases D:elemOfT E ti.desc with
  |none=>grind
  |some te=>
   rw[D]at B;cases hg:(Nat.ble (Nat.mul n te.size) 65536&&Nat.blt 0 te.size)with
   |false=>grind
   |true=>
    simp only[hg,cond_true]at B;cases hp:placeL te.size (opvps E ps.toList fr) (repL n te.zero)with
    |none=>grind
    |some es=>
     rw[hp]at B;cases B;obtain⟨l1,l2⟩:=Gs Q hf ps.toList;obtain⟨e,V,h1,h2,h3,h4⟩:=Fi hE Q G D (ps:=ps.map fun p=>(p.1,a.eval p.2)) (by grind) (by grind) hg hp;refine⟨es,te.size,fun id=>.msl id 0 n te.size,rfl,rfl,fun A=>?_,V,e,V.toList,.slice (zs ⟨W.heap.size,0,zn⟩) n n,?_,h2,fun k v hk=>by grind,by grind,fun W₂ cx₂ id k1 k2 k3 k4=>?_⟩
     . show L6 E t n ps fr A=_
       unfold L6;unfold onTI;rw[G];grind
     . show((do pure (.value (<-Instr.buildSlice t n (ps.map fun p=>(p.1,a.eval p.2))))):Sem Next).run P W=_
       simp_all
     simp_all[cF]
 |makeSlice t l c=>
  obtain⟨ti,G,B⟩:=E7 H;cases D:elemOfT E ti.desc with
  |none=>grind
  |some te=>
   rw[D]at B;dsimp only at B;cases hl:asNat (opv E l fr)with
   |none=>grind
   |some n=>
    rw[hl]at B;dsimp only at B;cases hm:asNat (opv E c fr)with
    |none=>grind
    |some m=>
     rw[hm]at B;dsimp only at B;cases hg:(Nat.ble n m&&Nat.ble (Nat.mul m te.bytes) 140737488355328&&Nat.blt 0 te.size)with
     |false=>grind
     |true=>
      rw[hg]at B;cases B;obtain⟨e,V,vs,h1,h2,h3,h4,h5⟩:=Xr hE Q G D (U l) (U c) hl hm hg;refine⟨repL n te.zero,te.size,fun id=>.msl id 0 n te.size,rfl,rfl,fun A=>?_,V,e,vs,.slice (zs ⟨W.heap.size,0,zn⟩) n m,?_,h2,h3,by simp_all[m9,Nat.mul_le_mul_right],fun W₂ cx₂ id k1 k2 k3 k4=>?_⟩
      . show O0 E t l c fr A=_
        unfold O0;unfold onTI;rw[G];grind
      . show((do pure (.value (<-Instr.makeSlice t (a.eval l) (a.eval c)))):Sem Next).run P W=_
        simp_all
      grind[cF]
 |call c=>
  exfalso
  obtain⟨I,args,argTypes⟩:=c;cases I with
  |builtin b=>cases b<;>cases hc
  |_=>cases hc
 |_=>cases hc
structure Pres(h h':Heap):Prop where
 next:h.next<=h'.next
 get:∃new,h'.tch=new++h.tch/\∀i,i<h.next->i∉new->h'.get i=h.get i
def Res.heap(r:Res):Option Heap:=match r with | .ok _ h=>zs h | .pan _ h=>zs h | .bad=>zn
def N4(call:D4):Prop:=∀f l h h',Res.heap (call f l h)=zs h'->Pres h h'
theorem Pres.refl(h:Heap):Pres h h:=⟨zql _,[],rfl,fun _ _ _=>rfl⟩
theorem Pres.trans{h A B:Heap}(a:Pres h A)(b:Pres A B):Pres h B:=by
 obtain⟨C,D,a2,a3⟩:=a;obtain⟨G,H,b2,b3⟩:=b;refine⟨zqm C G,H++D,by grind,fun i hi hn=>?_⟩;grind
theorem Pres.set(h:Heap)(i:Nat)(x:AObj):Pres h (h.set i x):=
 ⟨zql _,[i],rfl,(by grind[Go.AM.Heap.get_set_ne])⟩
theorem Pres.del(h:Heap)(i:Nat):Pres h (h.del i):=
 ⟨zql _,[i],rfl,(by grind[Go.AM.Heap.get_del_ne])⟩
theorem Pres.push(h:Heap)(x:AObj):Pres h (h.push x):=
 ⟨Nat.le_succ _,[],rfl,(by grind[Go.AM.Heap.get_push_ne])⟩
theorem l6{t:Nat}{f:TI->Res}{v:AV}{h':Heap}(hx:onTI E t .bad f=.ok v h')(hf:∀x,f x=.ok v h'->Pres h h'):Pres h h':=by
 grind[E7]
theorem Zc{x:Option AV}{v:AV}{h':Heap}(A:lift x h=.ok v h'):Pres h h':=by
 rw[(H1 A).2];exact .refl h
theorem Lj{te:TI}{s:AV}{xs:List AV}{r:AV}{h':Heap}(ha:H4 te s xs h=zs (r,h')):Pres h h':=by
 unfold H4 at ha;cases xs with
 |nil=>cases s<;>first|(cases ha;exact .refl h)|cases ha
 |cons x xs=>
  cases s with
  |nilsl=>
   have ha:Ao te [] zt (x::xs) h=zs (r,h'):=ha;rw[Jf]at ha;rw[B6]at ha;obtain⟨_,ha⟩:=A7 ha;cases ha;exact .push _ _
  |fsl es full=>
   have ha:Ao te es full (x::xs) h=zs (r,h'):=ha;rw[Jf]at ha;rw[B6]at ha;obtain⟨_,ha⟩:=A7 ha;cases ha;exact .push _ _
  |msl id off n sz=>
   obtain⟨es,sz',_,ha⟩:=Heap.onRow_some ha;rw[Sq]at ha;rw[B6]at ha;obtain⟨_,ha⟩:=A7 ha;cases ha;exact(Pres.del h id).trans (.push _ _)
  |_=>cases ha
theorem builtinA_pres{b:Builtin}{ts:List TypeId}{args:List AV}{r:AV}{h':Heap}(hb:E9 E b ts args h=zs (r,h')):Pres h h':=by
 cases b with
 |append=>
  have hb:Ks E ts args h=zs (r,h'):=hb;unfold Ks at hb;cases ts with
  |nil=>cases hb
  |cons t ts=>
   cases ts with
   |nil=>cases hb
   |cons tx ts=>
    cases args with
    |nil=>cases hb
    |cons s l=>
     cases l with
     |nil=>cases hb
     |cons x l=>
      obtain ⟨ti,_,hb⟩:=E1 hb;obtain⟨te,_,hb⟩:=A1 hb;obtain⟨_,hb⟩:=A7 hb;obtain⟨B,_,hb⟩:=E1 hb;have A:A6 (elems x h) (fun xs=>B3 (F7 te.size xs) (H4 te s xs h))=zs (r,h')->Pres h h':=fun hb=>by
       obtain⟨xs,_,hb⟩:=A1 hb;obtain⟨_,hb⟩:=A7 hb;exact Lj hb
      cases C:B.desc with
      |int k=>
       rw[C]at hb;obtain⟨n,_,hb⟩:=A1 hb;obtain⟨_,hb⟩:=A7 hb;exact Lj hb
      |_=>rw[C]at hb;exact A hb
 |len=>
  have hb:Xi E ts args h=zs (r,h'):=hb;unfold Xi at hb;cases ts with
  |nil=>cases hb
  |cons t ts=>
   cases args with
   |nil=>cases hb
   |cons x l=>
    obtain⟨ti,_,hb⟩:=E1 hb;obtain⟨n,_,hb⟩:=A1 hb;rw[B6]at hb;cases hb;exact .refl _
 |copy=>
  have hb:fJ E ts args h=zs (r,h'):=hb;unfold fJ at hb;cases ts with
  |nil=>cases hb
  |cons t ts=>
   cases args with
   |nil=>cases hb
   |cons d l=>
    cases l with
    |nil=>cases hb
    |cons s l=>
     obtain⟨ti,_,hb⟩:=E1 hb;obtain⟨te,_,hb⟩:=A1 hb;obtain⟨xs,_,hb⟩:=A1 hb;obtain⟨_,hb⟩:=A7 hb;cases d with
     |msl id off n sz=>
      obtain⟨es,sz',_,hb⟩:=Heap.onRow_some hb;unfold Kr at hb;rw[B6]at hb;obtain⟨_,hb⟩:=A7 hb;cases hb;exact .set _ _ _
     |nilsl=>cases hb;exact .refl _
     |_=>cases hb
 |max=>
  cases args with
  |nil=>cases hb
  |cons x l=>
   obtain⟨y,_,hb⟩:=zqn.1 (show(Ni l x).map (·,h)=zs (r,h')from hb);cases hb;exact .refl _
 |min=>
  cases args with
  |nil=>cases hb
  |cons x l=>
   obtain⟨y,_,hb⟩:=zqn.1 (show(Qg l x).map (·,h)=zs (r,h')from hb);cases hb;exact .refl _
 |_=>cases hb
theorem evOp_pres(H:N4 call){op:Op}{fr:Tr}{v:AV}{h':Heap}(A:evOp E call op fr h=.ok v h'):Pres h h':=by
 by_cases h0:Hr op=0
 . rw[(Nq h0 A h).1];exact .refl _
 cases op with
 |alloc t=>exact l6 A fun ti B=>by cases B;exact .push _ _
 |box t x=>
  refine l6 A fun ti B=>?_
  cases hb:(Nat.beq (lenL (opv E x fr).cells) ti.size&&D5 (opv E x fr).cells)with
  |true=>rw[hb]at B;cases B;exact .push _ _
  |false=>rw[hb]at B;cases B
 |buildSlice t n ps=>
  refine l6 A fun ti B=>?_
  cases D:elemOfT E ti.desc with
  |none=>rw[D]at B;cases B
  |some te=>
   rw[D]at B;dsimp only at B;cases hg:(Nat.ble (Nat.mul n te.size) 65536&&Nat.blt 0 te.size)with
   |false=>rw[hg]at B;cases B
   |true=>
    rw[hg]at B;simp only[cond_true]at B;cases I:placeL te.size (opvps E ps.toList fr) (repL n te.zero)with
    |none=>rw[I]at B;cases B
    |some es=>rw[I]at B;cases B;exact .push _ _
 |load t x=>exact l6 A fun ti B=>Zc B
 |typeAssert x xt t ok=>
  refine l6 A fun ti B=>?_
  cases hb:(V0 ti.desc && !ok)with
  |true=>rw[hb]at B;exact Zc B
  |false=>rw[hb]at B;cases B
 |lookup t m k ok=>cases A
 |store t x y=>
  refine l6 A fun ti B=>?_
  cases C:Cw ti (opv E x fr) (opv E y fr) h with
  |none=>rw[C]at B;cases B
  |some h2=>
   rw[C]at B;cases B;cases I:opv E x fr with
   |ptr id i off=>
    rw[I]at C;obtain⟨es,sz,_,C⟩:=Heap.onRow_some C;obtain⟨old,_,C⟩:=A1 C;obtain⟨_,C⟩:=A7 C;cases C;exact .set _ _ _
   |_=>rw[I]at C;cases C
 |makeMap t r=>
  cases r with
  |none=>cases A;exact .push _ _
  |some r=>cases A
 |makeSlice t l c=>
  refine l6 A fun ti B=>?_
  cases D:elemOfT E ti.desc with
  |none=>rw[D]at B;cases B
  |some te=>
   rw[D]at B;dsimp only at B;cases hl:asNat (opv E l fr)with
   |none=>rw[hl]at B;cases B
   |some n=>
    rw[hl]at B;dsimp only at B;cases J:asNat (opv E c fr)with
    |none=>rw[J]at B;cases B
    |some m=>
     rw[J]at B;dsimp only at B;cases hg:(Nat.ble n m&&Nat.ble (Nat.mul m te.bytes) 140737488355328&&Nat.blt 0 te.size)with
     |false=>rw[hg]at B;cases B
     |true=>rw[hg]at B;cases B;exact .push _ _
 |mapUpdate t m k x=>cases A
 |insert t m k x=>cases A
 |call c=>
  obtain⟨G,args,argTypes⟩:=c;cases G with
  |value f=>
   have A:c8 call (opv E f fr) (opvs E args.toList fr) h=.ok v h':=A;cases C:opv E f fr with
   |fn g first caps=>
    rw[C]at A;cases g with
    |func n=>exact H _ _ _ _ (by show Res.heap (c8 call (.fn (.func n) first caps) (opvs E args.toList fr) h)=_;rw[A];rfl)
    |_=>cases A
   |_=>rw[C]at A;cases A
  |invoke f n=>cases A
  |builtin b=>
   have A:lift2 (E9 E b argTypes.toList (opvs E args.toList fr) h)=.ok v h':=A;cases C:E9 E b argTypes.toList (opvs E args.toList fr) h with
   |none=>rw[C]at A;cases A
   |some p=>rw[C]at A;cases A;exact builtinA_pres C
 |panic x=>
  exfalso
  have A:sJ (opv E x fr) h=.ok v h':=A;cases C:opv E x fr<;>rw[C]at A<;>cases A
 |_=>first|exact absurd rfl h0|cases A
theorem evOp_pres_pan(B:N4 call){op:Op}{fr:Tr}{v:AV}{h':Heap}(A:evOp E call op fr h=.pan v h'):Pres h h':=by
 by_cases D:∃x,op=.panic x
 . obtain⟨x,rfl⟩:=D
   have A:sJ (opv E x fr) h=.pan v h':=A;cases C:opv E x fr with
   |iface t w=>rw[C]at A;cases A;exact .refl h
   |_=>rw[C]at A;cases A
 . by_cases hc:∃c f,op=.call c/\c.callee=.value f
   . obtain ⟨c,f,rfl,hf⟩:=hc
     obtain⟨callee,args,argTypes⟩:=c;dsimp only at hf;subst hf;have A:c8 call (opv E f fr) (opvs E args.toList fr) h=.pan v h':=A;cases C:opv E f fr with
     |fn g first caps=>
      rw[C]at A;cases g with
      |func n=>exact B _ _ _ _ (by show Res.heap (c8 call (.fn (.func n) first caps) (opvs E args.toList fr) h)=_;rw[A];rfl)
      |_=>cases A
     |_=>rw[C]at A;cases A
   . exact absurd A (Sz (fun x e=>D ⟨x,e⟩) (fun c f e e2=>hc ⟨c,f,e,e2⟩) v h')
end
end Go.AM
/-
 The abstract machine: a region that draws its order: the plan,and the run in the order of reference.
-/
namespace Go.AM
structure Plan(ops:Array Oper)(ms l:List Nat):Prop where
 len:l.length=ops.size
 lt:∀(m i:Nat),l[m]?=zs i->i<ops.size
 all:∀(i:Nat),i<ops.size->∃m:Nat,l[m]?=zs i
 inj:∀(m m' i:Nat),l[m]?=zs i->l[m']?=zs i->m=m'
 pair:∀(m m' i j:Nat),m<m'->l[m]?=zs i->l[m']?=zs j->bR ops.toList ms i j=zt/\bit (ms.getD i 0) j=zf
 mask:∀(i j:Nat),i<ops.size->j<ops.size->bit (ms.getD j 0) i=zt->∃o,ops[j]?=zs o/\∃e∈directs o,e=i\/bit (ms.getD e 0) i=zt
 news:∀(m i:Nat)(o:Oper),l[m]?=zs i->ops[i]?=zs o->Hr o.op=2->∀(m' j:Nat),m<m'->l[m']?=zs j->bit (ms.getD j 0) i=zt->∀(m'' k:Nat),m''<m->l[m'']?=zs k->bit (ms.getD j 0) k=zt
 edge:∀(j:Nat)(o:Oper)(e:Nat),ops[j]?=zs o->e∈directs o->e<ops.size/\bit (ms.getD j 0) e=zt/\e≠j
 dst:∀(m m' i j:Nat)(x y:Oper)(d:Tmp),m<m'->l[m]?=zs i->l[m']?=zs j->ops[i]?=zs x->ops[j]?=zs y->x.dst=zs d->y.dst≠zs d
theorem Tb:∀(l:List Nat),bT l=zt->∀(m m':Nat) i,l[m]?=zs i->l[m']?=zs i->m=m'
 |[],_,m,m',i,h,_=>by simp at h
 |a :: r,hn,m,m',i,h,h'=>by
  unfold bT at hn;rw[zqa]at hn;have hc:a∉r:=by
   grind
  cases m with
  |zero=>
   grind
  |succ m=>
   cases m' with
   |zero=>
    grind
   |succ m'=>
    simp at h h';rw[Tb r hn.2 m m' i h h']
theorem pairsOk_get{ops:List Oper}{ms:List Nat}:∀(l:List Nat),Rh ops ms l=zt->∀(m m':Nat) i j,m<m'->l[m]?=zs i->l[m']?=zs j->bR ops ms i j=zt/\bit (ms.getD i 0) j=zf
 |[],_,m,m',i,j,_,h,_=>by simp at h
 |a :: r,hn,m,m',i,j,hlt,h,h'=>by
  unfold Rh at hn;rw[zqa]at hn;cases m' with
  |zero=>omega
  |succ m'=>
   simp at h';cases m with
   |zero=>
    grind
   |succ m=>
    simp at h;exact pairsOk_get r hn.2 m m' i j (by omega) h h'
theorem Tc{ops:List Oper}:∀(l:List Nat),bU ops l=zt->∀(m m':Nat) i j x y d,m<m'->l[m]?=zs i->l[m']?=zs j->ops[i]?=zs x->ops[j]?=zs y->x.dst=zs d->y.dst≠zs d
 |[],_,m,m',i,j,x,y,d,_,h,_,_,_,_=>by simp at h
 |a :: r,hn,m,m',i,j,x,y,d,hlt,h,h',hx,hy,hd=>by
  unfold bU at hn;rw[zqa]at hn;cases m' with
  |zero=>omega
  |succ m'=>
   simp at h';cases m with
   |zero=>
    simp at h;subst h
    have:=(zqe.1 hn.1) j (zqh h')
    grind
   |succ m=>
    simp at h;exact Tc r hn.2 m m' i j x y d (by omega) h h' hx hy hd
theorem Td{ops:List Oper}{ms:List Nat}:∀(l A:List Nat),bS ops ms A l=zt->∀(m:Nat) i o,l[m]?=zs i->ops[i]?=zs o->Hr o.op=2->∀m' j,m<m'->l[m']?=zs j->bit (ms.getD j 0) i=zt ->
 (∀k∈A,bit (ms.getD j 0) k=zt)/\∀m'' k,m''<m->l[m'']?=zs k->bit (ms.getD j 0) k=zt
 |[],_,_,m,i,o,h,_,_,_,_,_,_,_=>by simp at h
 |a :: r,A,hn,m,i,o,h,ho,hc,m',j,hlt,h',hb=>by
  unfold bS at hn;rw[zqa]at hn;cases m' with
  |zero=>omega
  |succ m'=>
   simp at h';cases m with
   |zero=>
    simp at h;subst h;have C:=hn.1;have B:clsAt ops a=2:=by grind[clsAt]
    rw[B]at C;have h2:(r.all fun j=>!(bit (ms.getD j 0) a)||A.all fun i=>bit (ms.getD j 0) i)=zt:=by simpa using C
    grind
   |succ m=>
    simp at h;obtain⟨h4,h5⟩:=Td r (a::A) hn.2 m i o h ho hc m' j (by omega) h' hb;grind
theorem BX{ops:Array Oper}{ms l:List Nat}(h:Nl ops.toList ms l=zt):Plan ops ms l:=by
 unfold Nl at h;simp only[zqa]at h;obtain⟨⟨⟨⟨⟨⟨Q,h2⟩,U⟩,h4⟩,h5⟩,V⟩,h7⟩:=h;unfold vT at Q;simp only[zqa]at Q;obtain⟨⟨⟨a1,a2⟩,a3⟩,a4⟩:=Q;have D:l.length=ops.size:=by simp_all
 have J:∀(m i:Nat),l[m]?=zs i->i<ops.size:=fun m i B=>by
  have:=I9 ((zqe.1 a3) i (zqh B));simpa using this
 refine⟨D,J,fun i hi=>?_,fun m m' i=>Tb l a4 m m' i,(by grind[Go.AM.pairsOk_get]),fun i j hi H hb=>?_,fun m i o B ho hc m' j A C hb m'' k X I=>?_,fun j o e ho Y=>?_,fun m m' i j x y d A B C hx hy hd=>?_⟩
 . have:=(zqe.1 a2) i (by unfold Qi;simp;exact hi)
   have B:i∈l:=by simpa using this
   exact zqi B
 . unfold oL at U
   have G:=(zqe.1 U) j (by unfold Qi;simp;exact H);have N:=(zqe.1 G) i (by unfold Qi;simp;exact hi);simp_all
 . exact(Td l [] h4 m i o B (by rw[zqc];exact ho) hc m' j A C hb).2 m'' k X I
 . have H:j<ops.size:=by
    grind
   unfold oM at V;have G:=(zqe.1 V) j (by unfold Qi;simp;exact H);rw[zqc,ho]at G;have N:=(zqe.1 G) e Y;simp only[zqa,zqb]at N;obtain⟨⟨b1,b2⟩,b3⟩:=N;refine⟨by simp_all,b2,fun e'=>?_⟩;simp_all
 grind[Tc]
theorem Plan.apart{ops:Array Oper}{ms l:List Nat}(I:Plan ops ms l){m m' i j:Nat}{x y:Oper}(B:m<m')(C:l[m]?=zs i)(D:l[m']?=zs j)(J:ops[i]?=zs x)(H:ops[j]?=zs y)(hb:bit (ms.getD j 0) i=zf):
 Hr y.op≠3/\(∀d,x.dst=zs d->d∉AM.looksAt ops.toList y)/\(∀d,y.dst=zs d->d∉AM.looksAt ops.toList x):=by
 have h:=(I.pair m m' i j B C D).1;unfold bR at h;rw[hb]at h;simp only[Bool.false_or,zqa,zqb]at h;obtain⟨G,A⟩:=h;unfold clsAt at G;rw[zqc,H]at G;unfold apartAt at A;rw[zqc,J]at A;dsimp only at A;rw[zqc,H]at A;dsimp only at G A;unfold vR at A;rw[zqa]at A;refine⟨fun e=>(by simp_all),fun d N C=>?_,fun d N C=>?_⟩
 . grind
 grind
section
variable (E:Env)(call:D4)
abbrev HD:=Heap×List Nat
def EX(r:DRes):Option (AV×HD):=match r with | .ok v h d=>zs (v,h,d)|_=>zn
noncomputable def stp(x:XOp)(fr:Tr)(h:HD):Option (AV×HD):=
 match guardOk x.gd fr with
 |none=>zn
 |some b=>match b with|false=>zs (skipped,h)|true=>EX (evOpD E call x fr h.1 h.2)
noncomputable def MC(x:XOp)(s:Tr×HD):Option (Tr×HD):=A6 (stp E call x s.1 s.2) fun r=>zs (setDst x.dst r.1 s.1,r.2)
noncomputable def St(xs:List XOp)(s₀:Tr×HD):Nat->Option (Tr×HD)
 |0=>zs s₀
 |m+1=>A6 (St xs s₀ m) fun s=>A6 xs[m]? fun x=>MC E call x s
end
section
variable {E:Env}{call:D4}{xs:List XOp}{s₀:Tr×HD}
theorem cA{m:Nat}{s:Tr×HD}(h:St E call xs s₀ (m+1)=zs s):∃A x r,St E call xs s₀ m=zs A/\xs[m]?=zs x/\stp E call x A.1 A.2=zs r/\s=(setDst x.dst r.1 A.1,r.2):=by
 obtain⟨A,h1,h⟩:=A1 h;obtain⟨x,h2,h⟩:=A1 h;obtain⟨r,h3,h⟩:=A1 h;grind
theorem Ll{m:Nat}{A:Tr×HD}{x:XOp}{r:AV×HD}(B:St E call xs s₀ m=zs A)(C:xs[m]?=zs x)(D:stp E call x A.1 A.2=zs r):St E call xs s₀ (m+1)=zs (setDst x.dst r.1 A.1,r.2):=by
 show A6 (St E call xs s₀ m) _=_
 rw[B];show A6 xs[m]? _=_
 rw[C];show A6 (stp E call x A.1 A.2) _=_
 rw[D];rfl
theorem EY{m:Nat}{s:Tr×HD}(h:St E call xs s₀ m=zs s):∀{k:Nat},k<=m->∃A,St E call xs s₀ k=zs A:=by
 induction m generalizing s with
 |zero=>grind
 |succ m ih=>
  intro k hk;rcases Nat.lt_or_ge k (m+1)with h'|h'
  . grind[cA]
  grind
theorem run_cases:∀(n k:Nat),xs.length-k=n->k<=xs.length->∀(fr:Tr)(h:HD),St E call xs s₀ k=zs (fr,h)->evOpsD E call (xs.drop k) fr h.1 h.2≠.bad ->
 (∃ fr' h',St E call xs s₀ xs.length=zs (fr',h')/\evOpsD E call (xs.drop k) fr h.1 h.2=.ok .normal fr' h'.1)\/
   ∃m x fr' h' v hh,k<=m/\St E call xs s₀ m=zs (fr',h')/\xs[m]?=zs x/\guardOk x.gd fr'=zs zt/\evOpD E call x fr' h'.1 h'.2=.pan v hh/\virtD E call (xs.drop (m+1)) x.late (setDst x.dst skipped fr') h'.1 h'.2=zt/\evOpsD E call (xs.drop k) fr h.1 h.2=.pan v hh
 |0,k,hn,hk,fr,h,hs,hb=>by
  have:k=xs.length:=by omega
  subst this;exact .inl ⟨fr,h,hs,by rw[List.drop_length];rfl⟩
 |n + 1,k,hn,hk,fr,h,hs,hb=>by
  have C:k<xs.length:=by omega
  have Y:xs.drop k=xs[k]::xs.drop (k+1):=List.drop_eq_getElem_cons C;have I:xs[k]?=zs xs[k]:=zqj C;rw[Y]at hb|-;have e:evOpsD E call (xs[k]::xs.drop (k+1)) fr h.1 h.2=onOB (guardOk xs[k].gd fr) .bad (O6 xs[k].dst (evOpsD E call (xs.drop (k+1))) (virtD E call (xs.drop (k+1)) xs[k].late (setDst xs[k].dst skipped fr) h.1 h.2) fr (evOpD E call xs[k] fr h.1 h.2)) (evOpsD E call (xs.drop (k+1)) (setDst xs[k].dst skipped fr) h.1 h.2):=rfl;rw[e]at hb|-;cases hg:guardOk xs[k].gd fr with
  |none=>rw[hg]at hb;exact absurd rfl hb
  |some b=>
   rw[hg]at hb;cases b with
   |false=>
    have A:stp E call xs[k] fr h=zs (skipped,h):=by unfold stp;rw[hg]
    have G:=Ll hs I A;have hb:evOpsD E call (xs.drop (k+1)) (setDst xs[k].dst skipped fr) h.1 h.2≠.bad:=hb;rcases run_cases n (k+1) (by omega) C _ _ G hb with⟨fr',h',D,H⟩|⟨m,x,fr',h',v,hh,D,H,J,N,Q,U,V⟩
    . exact .inl ⟨fr',h',D,H⟩
    . exact .inr ⟨m,x,fr',h',v,hh,by omega,H,J,N,Q,U,V⟩
   |true=>
    have hb:O6 xs[k].dst (evOpsD E call (xs.drop (k+1))) (virtD E call (xs.drop (k+1)) xs[k].late (setDst xs[k].dst skipped fr) h.1 h.2) fr (evOpD E call xs[k] fr h.1 h.2)≠.bad:=hb;show(∃fr' h',_/\O6 xs[k].dst (evOpsD E call (xs.drop (k+1))) (virtD E call (xs.drop (k+1)) xs[k].late (setDst xs[k].dst skipped fr) h.1 h.2) fr (evOpD E call xs[k] fr h.1 h.2)=_)\/∃m x fr' h' v hh,k<=m/\_/\_/\_/\_/\_/\O6 xs[k].dst (evOpsD E call (xs.drop (k+1))) (virtD E call (xs.drop (k+1)) xs[k].late (setDst xs[k].dst skipped fr) h.1 h.2) fr (evOpD E call xs[k] fr h.1 h.2)=_
    cases B:evOpD E call xs[k] fr h.1 h.2 with
    |bad=>rw[B]at hb;exact absurd rfl hb
    |pan v hh=>
     rw[B]at hb;cases X:virtD E call (xs.drop (k+1)) xs[k].late (setDst xs[k].dst skipped fr) h.1 h.2 with
     |false=>rw[X]at hb;exact absurd rfl hb
     |true=>exact .inr ⟨k,xs[k],fr,h,v,hh,zql _,hs,I,hg,B,X,rfl⟩
    |ok v D d1=>
     rw[B]at hb;have A:stp E call xs[k] fr h=zs (v,D,d1):=by unfold stp;rw[hg];dsimp only;rw[B];rfl
     have G:=Ll hs I A;have hb:evOpsD E call (xs.drop (k+1)) (setDst xs[k].dst v fr) D d1≠.bad:=hb;rcases run_cases n (k+1) (by omega) C _ _ G hb with⟨fr',h',D,H⟩|⟨m,x,fr',h',v,hh,D,H,J,N,Q,U,V⟩
     . exact .inl ⟨fr',h',D,H⟩
     . exact .inr ⟨m,x,fr',h',v,hh,by omega,H,J,N,Q,U,V⟩
end
theorem Zd{ops:List Oper}{ms A:List Nat}{a:Nat}{r:List Nat}{B:Oper}(hoa:ops[a]?=zs B):
 Al ops ms A (a::r)=eR ops (m8 ops ms a r) (Nm ops ms a r) (l5 ops ms a A) B::Al ops ms (a::A) r:=by
 grind[Al]
theorem fW{ops:List Oper}{ms:List Nat}:∀(l A:List Nat),(∀i∈l,∃o,ops[i]?=zs o)->∀(m i:Nat) o,l[m]?=zs i->ops[i]?=zs o ->
 (Al ops ms A l)[m]?=zs (eR ops (m8 ops ms i (l.drop (m+1))) (Nm ops ms i (l.drop (m+1))) (l5 ops ms i ((l.take m).reverse++A)) o)
 |[],_,_,m,i,o,h,_=>by simp at h
 |a::r,A,hl,m,i,o,h,ho=>by
  obtain⟨oa,B⟩:=hl a (zqf ..);rw[Zd B];cases m with
  |zero=>grind
  |succ m=>
   simp at h
   have:=fW (ms:=ms) r (a::A) (by grind) m i o h ho
   grind
theorem Pn{ops:List Oper}{ms:List Nat}:∀(l A:List Nat),(∀i∈l,∃o,ops[i]?=zs o)->(Al ops ms A l).length=l.length
 |[],_,_=>rfl
 |a::r,A,hl=>by
  obtain⟨oa,B⟩:=hl a (zqf ..);rw[Zd B,zqk,zqk,Pn r (a::A) (by grind)]
structure PlanX(ops:Array Oper)(ms l:List Nat)(sk:Nat->Prop)(xs:List XOp):Prop extends Plan ops ms l where
 xlen:xs.length=l.length
 xat:∀(m i:Nat)(o:Oper),l[m]?=zs i->ops[i]?=zs o->∃x,xs[m]?=zs x/\x.dst=o.dst/\x.op=o.op/\x.quiet=m8 ops.toList ms i (l.drop (m+1))/\x.careful=l5 ops.toList ms i ((l.take m).reverse++[])/\(¬sk m->x.gd=G0 ops.toList o)
theorem Plan.have{ops:Array Oper}{ms l:List Nat}(A:Plan ops ms l):∀i∈l,∃o,ops.toList[i]?=zs o:=by
 intro i hi;obtain⟨m,B⟩:=zqi hi
 have:=A.lt m i B
 simp_all
theorem Plan.xget{ops:Array Oper}{ms l:List Nat}(A:Plan ops ms l){m i:Nat}{o:Oper}(B:l[m]?=zs i)(ho:ops[i]?=zs o):
 (Al ops.toList ms [] l)[m]?=zs (eR ops.toList (m8 ops.toList ms i (l.drop (m+1))) (Nm ops.toList ms i (l.drop (m+1))) (l5 ops.toList ms i ((l.take m).reverse++[])) o):=
 fW l [] A.have m i o B (by grind)
def Te(x:XOp):XOp:={x with gd:=zs (zn,zt)}
def cB:List XOp->List Bool->List XOp
 |[],_=>[]
 |x::xs,[]=>x::xs
 |x::xs,b::bs=>(match b with|true=>Te x|false=>x)::cB xs bs
theorem fX:∀(xs:List XOp)(bs:List Bool),(cB xs bs).length=xs.length
 |[],bs=>by cases bs<;>rfl
 |x::xs,[]=>rfl
 |x::xs,b::bs=>by show(cB xs bs).length+1=_;rw[fX xs bs];rfl
theorem fY:∀(xs:List XOp)(bs:List Bool)(m:Nat)(x:XOp),xs[m]?=zs x->(cB xs bs)[m]?=zs (if bs[m]?=zs zt then Te x else x)
 |[],bs,m,x,h=>by simp at h
 |y::xs,[],m,x,h=>by grind[cB]
 |y::xs,b::bs,0,x,h=>by
  simp at h;subst h;cases b<;>rfl
 |y::xs,b::bs,m+1,x,h=>by
  have:=fY xs bs m x (by grind)
  simp_all[cB]
section
variable {E:Env}{call:D4}
theorem Ze(x:XOp)(fr:Tr)(h:HD):stp E call (Te x) fr h=zs (skipped,h):=rfl
theorem fZ{xs ys:List XOp}{s₀:Tr×HD}:∀(m:Nat),(∀q,q<m->ys[q]?=xs[q]?)->St E call ys s₀ m=St E call xs s₀ m
 |0,_=>rfl
 |m+1,h=>by
  show A6 (St E call ys s₀ m) _=A6 (St E call xs s₀ m) _
  rw[fZ m fun q hq=>h q (by omega),h m (by omega)]
theorem Lm{ys:List XOp}{s₀:Tr×HD}:∀(xs:List XOp)(late:List Bool)(k:Nat)(fr:Tr)(h:HD),virtD E call xs late fr h.1 h.2=zt->(∀(q:Nat)(x:XOp),xs[q]?=zs x->ys[k+q]?=zs (if late[q]?=zs zt then Te x else x)) ->
 St E call ys s₀ k=zs (fr,h)->∃s,St E call ys s₀ (k+xs.length)=zs s
 |[],late,k,fr,h,_,_,hs=>⟨_,hs⟩
 |x::xs,[],k,fr,h,A,_,_=>by cases A
 |x :: xs,b::late,k,fr,h,A,hy,hs=>by
  have h0:=hy 0 x rfl;have B:∀(q:Nat)(z:XOp),xs[q]?=zs z->ys[k+1+q]?=zs (if late[q]?=zs zt then Te z else z):=fun q z hz=>by
   have:=hy (q+1) z (by grind)
   grind
  have e:k+(x::xs).length=k+1+xs.length:=by simp;omega
  rw[e];cases b with
  |true=>
   have A:virtD E call xs late (setDst x.dst skipped fr) h.1 h.2=zt:=A;have h0:ys[k]?=zs (Te x):=by grind
   exact Lm xs late (k+1) _ h A B (Ll hs h0 (Ze x fr h))
  |false=>
   have A:onOB (guardOk x.gd fr) zf (virtThen x.dst (virtD E call xs late) fr (evOpD E call x fr h.1 h.2)) (virtD E call xs late (setDst x.dst skipped fr) h.1 h.2)=zt:=A;have h0:ys[k]?=zs x:=by grind
   cases hg:guardOk x.gd fr with
   |none=>rw[hg]at A;cases A
   |some b=>
    rw[hg]at A;cases b with
    |false=>
     have A:virtD E call xs late (setDst x.dst skipped fr) h.1 h.2=zt:=A;exact Lm xs late (k+1) _ h A B (Ll hs h0 (by unfold stp;rw[hg]))
    |true=>
     have A:virtThen x.dst (virtD E call xs late) fr (evOpD E call x fr h.1 h.2)=zt:=A;cases C:evOpD E call x fr h.1 h.2 with
     |ok v D d1=>
      rw[C]at A;exact Lm xs late (k+1) _ (D,d1) A B (Ll hs h0 (by unfold stp;rw[hg];dsimp only;rw[C];rfl))
     |_=>rw[C]at A;cases A
end
end Go.AM
/-
 The abstract machine: a region that draws its order: what holds between its operations.
-/
namespace Go.AM
structure Keeps(h h':Heap):Prop where
 next:h.next<=h'.next
 get:∀i,i<h.next->h'.get i=h.get i
theorem Keeps.refl(h:Heap):Keeps h h:=⟨zql _,fun _ _=>rfl⟩
theorem Keeps.trans{h A B:Heap}(a:Keeps h A)(b:Keeps A B):Keeps h B:=⟨zqm a.next b.next,fun i hi=>(b.get i (Nat.lt_of_lt_of_le hi a.next)).trans (a.get i hi)⟩
theorem Keeps.push(h:Heap)(x:AObj):Keeps h (h.push x):=⟨Nat.le_succ _,(by grind[Go.AM.Heap.get_push_ne])⟩
section
variable {E:Env}{call:D4}{h:Heap}
theorem sO{op:Op}(hc:Hr op=1){fr:Tr}{v:AV}{h':Heap}(A:evOp E call op fr h=.ok v h'):h'=h:=by
 cases op with
 |load t x=>obtain⟨ti,_,C⟩:=E7 A;exact(H1 C).2
 |lookup t m k ok=>cases A
 |call c=>
  obtain⟨B,args,argTypes⟩:=c;cases B with
  |builtin b=>
   have A:lift2 (E9 E b argTypes.toList (opvs E args.toList fr) h)=.ok v h':=A;cases C:E9 E b argTypes.toList (opvs E args.toList fr) h with
   |none=>rw[C]at A;cases A
   |some p=>
    rw[C]at A;cases A;obtain⟨p1,p2⟩:=p;cases b with
    |len=>
     have hb:Xi E argTypes.toList (opvs E args.toList fr) h=zs (p1,p2):=C;unfold Xi at hb;generalize argTypes.toList=D at hb;generalize opvs E args.toList fr=vs at hb;cases D with
     |nil=>cases hb
     |cons t ts=>
      cases vs with
      |nil=>cases hb
      |cons x l=>
       obtain⟨ti,_,hb⟩:=E1 hb;obtain⟨n,_,hb⟩:=A1 hb;rw[B6]at hb;cases hb;rfl
    |max=>
     have hb:sF (opvs E args.toList fr) h=zs (p1,p2):=C;unfold sF at hb;generalize opvs E args.toList fr=vs at hb;cases vs with
     |nil=>cases hb
     |cons x l=>
      obtain⟨y,_,hb⟩:=zqn.1 hb;cases hb;rfl
    |min=>
     have hb:sG (opvs E args.toList fr) h=zs (p1,p2):=C;unfold sG at hb;generalize opvs E args.toList fr=vs at hb;cases vs with
     |nil=>cases hb
     |cons x l=>
      obtain⟨y,_,hb⟩:=zqn.1 hb;cases hb;rfl
    |_=>cases hc
  |_=>cases hc
 |_=>cases hc
theorem sP{op:Op}(hc:Hr op=2){fr:Tr}{v:AV}{h':Heap}(A:evOp E call op fr h=.ok v h'):∃x,h'=h.push x:=by
 cases op with
 |alloc t=>obtain⟨ti,_,C⟩:=E7 A;cases C;grind
 |box t x=>
  obtain⟨ti,_,C⟩:=E7 A;cases hb:(Nat.beq (lenL (opv E x fr).cells) ti.size&&D5 (opv E x fr).cells)with
  |true=>rw[hb]at C;cases C;grind
  |false=>grind
 |buildSlice t n ps=>
  obtain⟨ti,_,C⟩:=E7 A;grind
 |makeSlice t l c=>
  obtain⟨ti,_,C⟩:=E7 A;grind
 |call c=>
  exfalso
  obtain⟨B,args,argTypes⟩:=c;cases B with
  |builtin b=>cases b<;>cases hc
  |_=>cases hc
 |_=>cases hc
theorem cls_cases(op:Op):Hr op=0\/Hr op=1\/Hr op=2\/Hr op=3:=by
 cases op with
 |call c=>
  grind[Hr]
 |_=>simp[Hr]
theorem Tf{op:Op}(hc:Hr op≠3){fr:Tr}{v:AV}{h':Heap}(A:evOp E call op fr h=.ok v h'):Keeps h h':=by
 rcases cls_cases op with h0|h0|h0|h0
 . rw[(Nq h0 A h).1];exact .refl _
 . rw[sO h0 A];exact .refl _
 . obtain⟨x,rfl⟩:=sP h0 A;exact .push _ _
 grind
theorem Jk{r:DRes}{p:AV×HD}(h:EX r=zs p):r=.ok p.1 p.2.1 p.2.2:=by
 cases r with
 |ok v h' d=>cases h;rfl
 |_=>cases h
theorem Tg{i:Nat}{b:List Nat}:∀{a:List Nat},i∈Bj a b↔i∈a\/i∈b
 |[]=>by show i∈b↔_;simp
 |x::a=>by
  show i∈x::Bj a b↔_
  rw[zqg,Tg (a:=a),zqg,or_assoc]
theorem l7{i n:Nat}:∀{l:List Nat},i∈H6 n l↔i∈l/\i<n
 |[]=>by show i∈([]:List Nat)↔_;simp
 |x::l=>by
  show i∈(bif Nat.blt x n then x::H6 n l else H6 n l)↔_
  cases hb:Nat.blt x n with
  |true=>
   have:=I9 hb
   simp only[cond_true,zqg,l7 (l:=l)];grind
  |false=>
   have hx:¬x<n:=(by grind[Nat.blt,Nat.ble_eq_true_of_le])
   simp only[cond_false,zqg,l7 (l:=l)];grind
theorem Zf{i:Nat}:∀{l:List Nat},uR i l=zf->i∉l
 |[],_=>by simp
 |x::l,h=>by
  have h:(bif Nat.beq x i then zt else uR i l)=zf:=h;cases hb:Nat.beq x i with
  |true=>grind
  |false=>
   rw[hb]at h;have hne:x≠i:=fun e=>by simp_all
   intro B;rcases zqg.1 B with A|A
   . grind
   . exact Zf (l:=l) h A
theorem Ln{x:XOp}{fr:Tr}{v:AV}{h':Heap}{d C:List Nat}(A:evOpD E call x fr h d=.ok v h' C):
 ∃ t B t',evOp E call x.op fr {h with tch:=t}=.ok v B/\h'={B with tch:=t'}/\
   (x.quiet=zt->t=[]/\t'=Bj (H6 h.next B.tch) h.tch/\C=Bj (H6 h.next B.tch) d)/\
   (x.quiet=zf->t=h.tch/\t'=B.tch/\C=d/\(x.careful=zt->readOk (readO E x.op fr) d=zt)):=by
 unfold evOpD at A;cases J:x.quiet with
 |false=>
  rw [J]at A;simp only[cond_false]at A;have D:v6 d (evOp E call x.op fr h)=.ok v h' C->evOp E call x.op fr h=.ok v h'/\C=d:=fun A=>by
   cases H:evOp E call x.op fr h with
   |ok Q G=>rw[H]at A;cases A;grind
   |_=>rw[H]at A;cases A
  cases hc:x.careful with
  |false=>
   rw[hc]at A;obtain⟨G,N⟩:=D A;exact⟨h.tch,h',h'.tch,G,rfl,fun e=>(by cases e),(by grind)⟩
  |true=>
   rw[hc]at A;simp only[cond_true]at A;cases I:readOk (readO E x.op fr) d with
   |false=>grind
   |true=>
    rw[I]at A;obtain⟨G,N⟩:=D A;exact⟨h.tch,h',h'.tch,G,rfl,fun e=>(by cases e),(by grind)⟩
 |true=>
  rw[J]at A;have A:x9 h.next h.tch d (evOp E call x.op fr {h with tch:=[]})=.ok v h' C:=A;cases H:evOp E call x.op fr {h with tch:=[]}with
  |ok Q G=>
   rw[H]at A;cases A;grind
  |_=>rw[H]at A;cases A
theorem gA{x:XOp}(hc:Hr x.op≠3){fr:Tr}{v:AV}{h':Heap}{d C:List Nat}(A:evOpD E call x fr h d=.ok v h' C):Keeps h h':=by
 obtain⟨t,h₁,t',D,rfl,_⟩:=Ln A;have B:=Tf hc D;exact⟨B.next,fun i hi=>B.get i hi⟩
theorem lV(A:N4 call){x:XOp}(J:Hr x.op=3->x.quiet=zt){fr:Tr}{v:AV}{h':Heap}{d B:List Nat}(C:evOpD E call x fr h d=.ok v h' B):
 h.next<=h'.next/\(∀i,i∈d->i∈B)/\∀i,i<h.next->i∉B->h'.get i=h.get i:=by
 obtain ⟨t,h₁,t',I,rfl,N,h3⟩:=Ln C;have G:∀i,i∈d->i∈B:=fun i hi=>by
  cases hq:x.quiet with
  |true=>grind[Tg]
  |false=>grind
 by_cases hc:Hr x.op=3
 . obtain⟨rfl,_,h4⟩:=N (J hc)
   obtain⟨hn,new,e,hg⟩:=evOp_pres A I;refine⟨hn,G,fun i hi D=>hg i hi fun hm=>D ?_⟩;grind[Tg,l7]
 . have H:=Tf hc I
   exact⟨H.next,G,fun i hi _=>H.get i hi⟩
theorem gB{fr fr':Tr}(op:Op)(hy:∀y∈op.operands.toList,opv E y fr=opv E y fr'):readO E op fr=readO E op fr':=by
 cases op with
 |load t x=>show o6 (opv E x fr)=o6 (opv E x fr');grind[Op.operands]
 |lookup t m k ok=>show o6 (opv E m fr)=o6 (opv E m fr');grind[Op.operands]
 |call c=>
  obtain⟨callee,args,argTypes⟩:=c;show(match args.toList with|[]=>zn|x::_=>o6 (opv E x fr))=(match args.toList with|[]=>zn|x::_=>o6 (opv E x fr'))
  grind[Op.operands,Call.operands]
 |_=>rfl
end
section
variable {E:Env}{call:D4}{ops:Array Oper}{ms l:List Nat}{sk:Nat->Prop}{xs:List XOp}{s₀:Tr×HD}
theorem Plan.at(A:Plan ops ms l){m:Nat}(B:m<l.length):∃i o,l[m]?=zs i/\ops[i]?=zs o:=by
 have C:l[m]?=zs l[m]:=zqj B
 have:=A.lt m _ C
 simp_all
theorem Rj(B:PlanX ops ms l sk xs){m:Nat}{s:Tr×HD}(h:St E call xs s₀ (m+1)=zs s):
 ∃i o A x r,l[m]?=zs i/\ops[i]?=zs o/\St E call xs s₀ m=zs A/\xs[m]?=zs x/\(x.op=o.op/\x.quiet=m8 ops.toList ms i (l.drop (m+1)))/\stp E call x A.1 A.2=zs r/\s=(setDst o.dst r.1 A.1,r.2):=by
 obtain ⟨A,x,r,h1,h2,h3,h4⟩:=cA h;have C:m<l.length:=by
  rw[<-B.xlen];grind
 obtain⟨i,o,D,G⟩:=B.at C;obtain⟨x',h7,h8,h9,h10,_⟩:=B.xat m i o D G;grind
theorem S5(d:Option Tmp)(v:AV)(fr:Tr)(t:Nat):(setDst d v fr).has t=fr.has t:=by
 cases d with
 |none=>rfl
 |some d=>exact Tr.has_set _ _ _ _
theorem Y5{d:Option Tmp}{v:AV}{fr:Tr}{t:Nat}(h:d≠zs t):(setDst d v fr).get t=fr.get t:=by
 cases d with
 |none=>rfl
 |some d=>exact Tr.get_set_ne _ _ _ _ (fun e=>h (by rw[e]))
theorem l8{v:AV}{fr:Tr}{t:Nat}:(setDst (zs t) v fr).get t=if fr.has t then v else .und:=Tr.get_set_eq _ _ _
theorem St_has(B:PlanX ops ms l sk xs){k:Nat}{s:Tr×HD}(C:St E call xs s₀ k=zs s):∀(n:Nat)(A:Tr×HD),St E call xs s₀ (k+n)=zs A->∀t,A.1.has t=s.1.has t
 |0,A,h,t=>by grind
 |n+1,A,h,t=>by
  obtain⟨i,o,D,x,r,_,_,G,_,_,_,rfl⟩:=Rj B h;show(setDst _ _ _).has t=_
  rw[S5];exact St_has B C n D G t
theorem lW(B:PlanX ops ms l sk xs){k:Nat}{s:Tr×HD}(C:St E call xs s₀ k=zs s){t:Nat}:∀(n:Nat)(A:Tr×HD),St E call xs s₀ (k+n)=zs A ->
 (∀(m i:Nat)(o:Oper),k<=m->m<k+n->l[m]?=zs i->ops[i]?=zs o->o.dst≠zs t)->A.1.get t=s.1.get t
 |0,A,h,_=>by grind
 |n+1,A,h,hn=>by
  obtain⟨i,o,D,x,r,G,H,I,_,_,_,rfl⟩:=Rj B h;show(setDst _ _ _).get t=_
  rw[Y5 (hn (k+n) i o (by omega) (by omega) G H)];exact lW B C n D I fun m i o a b=>hn m i o a (by omega)
theorem HS(B:PlanX ops ms l sk xs){k p m i:Nat}{s sp C:Tr×HD}(hs:St E call xs s₀ k=zs s)(hk:k<=p)(hm:p<m)(D:St E call xs s₀ p=zs sp)(G:St E call xs s₀ m=zs C)
 {x:XOp}{r:AV×HD}(hx:xs[p]?=zs x)(hr:stp E call x sp.1 sp.2=zs r){o:Oper}(hl:l[p]?=zs i)(ho:ops[i]?=zs o){t:Nat}(hd:o.dst=zs t):C.1.get t=if s.1.has t then r.1 else .und:=by
 have I:=Ll D hx hr;obtain⟨x',A,H,_⟩:=B.xat p i o hl ho;rw[hx]at A;cases A;obtain⟨n,rfl⟩:∃n,m=p+1+n:=⟨m-(p+1),by omega⟩
 have J:=lW B I n C G (t:=t) fun q j o' a b c d=>B.dst p q i j o o' t (by omega) hl c ho d hd
 rw[J,H,hd];show(setDst (zs t) r.1 sp.1).get t=_
 rw[l8];obtain⟨n',rfl⟩:∃n',p=k+n':=⟨p-k,by omega⟩
 grind[St_has]
theorem stp_some{x:XOp}{fr:Tr}{h:HD}{r:AV×HD}(A:stp E call x fr h=zs r):(guardOk x.gd fr=zs zf/\r=(skipped,h))\/(guardOk x.gd fr=zs zt/\evOpD E call x fr h.1 h.2=.ok r.1 r.2.1 r.2.2):=by
 unfold stp at A;cases hg:guardOk x.gd fr with
 |none=>grind
 |some b=>
  rw[hg]at A;cases b with
  |false=>grind
  |true=>exact .inr ⟨rfl,Jk A⟩
theorem gC(B:PlanX ops ms l sk xs){k:Nat}{s:Tr×HD}(C:St E call xs s₀ k=zs s):∀(n:Nat)(A:Tr×HD),St E call xs s₀ (k+n)=zs A ->
 (∀(m i:Nat)(o:Oper),k<=m->m<k+n->l[m]?=zs i->ops[i]?=zs o->Hr o.op≠3)->Keeps s.2.1 A.2.1
 |0,A,h,_=>by rw[Nat.add_zero]at h;rw[C]at h;cases h;exact .refl _
 |n+1,A,h,hn=>by
  obtain⟨i,o,D,x,r,h1,h2,G,_,h5,H,rfl⟩:=Rj B h;refine(gC B C n D G fun m i o a b=>hn m i o a (by omega)).trans ?_;show Keeps D.2.1 r.2.1
  rcases stp_some H with⟨_,rfl⟩|⟨_,h7⟩
  . exact .refl _
  grind[gA]
theorem oU(D:PlanX ops ms l sk xs)(A:N4 call){k:Nat}{s:Tr×HD}(G:St E call xs s₀ k=zs s):∀(n:Nat)(B:Tr×HD),St E call xs s₀ (k+n)=zs B ->
 (∀ (m i:Nat) (o:Oper),k<=m->m<k+n->l[m]?=zs i->ops[i]?=zs o->Hr o.op=3->m8 ops.toList ms i (l.drop (m+1))=zt) ->
   s.2.1.next<=B.2.1.next/\(∀i,i∈s.2.2->i∈B.2.2)/\∀i,i<s.2.1.next->i∉B.2.2->B.2.1.get i=s.2.1.get i
 |0,B,h,_=>by grind
 |n + 1,B,h,hn=>by
  obtain⟨i,o,C,x,r,h1,h2,H,_,h5,I,rfl⟩:=Rj D h;obtain⟨a1,a2,a3⟩:=oU D A G n C H fun m i o a b=>hn m i o a (by omega)
  have hb:C.2.1.next<=r.2.1.next/\(∀i,i∈C.2.2->i∈r.2.2)/\∀i,i<C.2.1.next->i∉r.2.2->r.2.1.get i=C.2.1.get i:=by
   rcases stp_some I with⟨_,rfl⟩|⟨_,J⟩
   . grind
   . refine lV A (fun hc=>?_) J
     grind
  grind
end
end Go.AM
