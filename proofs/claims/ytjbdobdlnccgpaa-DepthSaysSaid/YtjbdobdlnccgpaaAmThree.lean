/- The abstract machine, part three: operations, calls, and regions that draw their order: planned. Conditions: none. -/
import Derived.Test.YtjbdobdlnccgpaaAmTwo
import Derived.LoopN
import Derived.Tactics
import Derived.Orders
set_option linter.unusedVariables false
set_option linter.unusedSectionVars false
set_option linter.unusedSimpArgs false
/-
 The abstract machine: each operation but a call is sound.
set_option maxHeartbeats 4000000
-/
open Option renaming some→zs,none→zn
open Bool renaming true→zt,false→zf
open Bool renaming and_eq_true→zqa,not_eq_true'→zqb
open Array renaming getElem?_toList→zqc,getD_eq_getD_getElem?→zqd
open List renaming all_eq_true→zqe,mem_cons_self→zqf,mem_cons→zqg,mem_of_getElem?→zqh,getElem?_of_mem→zqi,getElem?_eq_getElem→zqj,length_cons→zqk
open Nat renaming le_refl→zql,le_trans→zqm
open Option renaming map_eq_some_iff→zqn,bind_some→zqo
namespace Go.AM
section
variable {P:Program}{E:Env}{W:World}{cx:Cx}{h:Heap}
theorem I2{x:Option AV}{v:AV}{h h':Heap}(A:lift x h=.ok v h'):x=zs v/\h'=h:=by
 cases x with
 |none=>cases A
 |some a=>cases A;grind
theorem bQ(A:Sat E W cx h){a:Act}{fr:Tr}(hf:FrRep W cx a.tmps fr)(o:Option Operand):Y4 W cx (o.map a.eval) (Mt E o fr):=by
 cases o with
 |none=>trivial
 |some x=>exact j2 A hf x
theorem Gf(a:Act)(ps:Array (Nat×Operand)):(ps.map fun p=>(p.1,a.eval p.2)).toList=ps.toList.map fun p=>(p.1,a.eval p.2):=by simp
theorem Tb(hE:EnvOk E P)(hs:Sat E W cx h){ts:Array TypeId}{ty:TypeId}{args:Array Value}{l:List AV}(hl:RepL W cx args.toList l){r:AV}{h':Heap}(hb:Jj E ts.toList l h=zs (r,h')):
 ∃v W' cx',(Builtin.append_ ts ty args).run P W=.ok v W'/\Ext W cx W' cx'/\Sat E W' cx' h'/\Rep W' cx' v r:=by
 unfold Jj at hb;cases ab:ts.toList with
 |nil=>grind
 |cons t am=>
  cases am with
  |nil=>grind
  |cons tx ts2=>
   cases l with
   |nil=>grind
   |cons s l1=>
    cases l1 with
    |nil=>grind
    |cons x l2=>
     rw[ab]at hb;obtain⟨ti,ht,hb⟩:=F2 hb;obtain⟨te,D,hb⟩:=A2 hb;obtain⟨V,hb⟩:=A8 hb;have V:=N3 V;obtain⟨X,ag,hb⟩:=F2 hb;obtain⟨e,hk,D⟩:=v7 D;have hd:=(hE.ti t ti ht).desc;unfold J7 at hd;rw[hk]at hd;have ac:ts[0]?=zs t:=by rw[<-zqc,ab];rfl
     have ae:ts[1]?=zs tx:=by rw[<-zqc,ab];rfl
     obtain⟨sv,A,Q⟩:=hl.get (i:=0) (c:=s) rfl;obtain⟨xv,B,U⟩:=hl.get (i:=1) (c:=x) rfl;have A:args[0]?=zs sv:=by grind
     have B:args[1]?=zs xv:=by grind
     obtain⟨dx,Y⟩:=(hE.ti tx X ag).under;have I:=(hE.ti tx X ag).desc;have C:=hE.ti e te D;have elemCase:(∀k,dx≠.int k)->A6 (elems x h) (fun xs=>B0 (J4 te.size xs) (I7 te s xs h))=zs (r,h') ->
      ∃v W' cx',(Builtin.append_ ts ty args).run P W=.ok v W'/\Ext W cx W' cx'/\Sat E W' cx' h'/\Rep W' cx' v r:=by
      intro ai hb;obtain⟨xs,ak,hb⟩:=A2 hb;obtain⟨G,hb⟩:=A8 hb;rw[Ax]at G;obtain⟨ad,cap,us,sz,e1,e2,H,al⟩:=Bd (P:=P) hs U ak;have N:RowRep W cx us xs te.size:=by
       cases ah:xs with
       |nil=>rw[ah]at H;exact⟨by have:=H.len;grind,by simp,by simp⟩
       |cons x0 xr=>
        rw[ah]at H G
        have:sz=te.size:=by rw[<-H.size 0 x0 rfl];grind
        grind
      . exact Jy hE hs D ac hd ae Y A B Q N (.inl ⟨ai,⟨ad,cap,e1⟩,fun W' aj=>by
         have:=al W' aj xs.length te.size (zql _) G
         rw[<-H.len,List.take_length]at this;exact this⟩) N.oneL (C.pos (by omega)) hb
     unfold J7 at I;cases an:X.desc with
     |int kx=>
      rw[an]at hb I;rw[I]at Y;cases Y;obtain⟨n,hn,J⟩:=A2 hb;obtain⟨hg,J⟩:=A8 J;clear hb;have hg:n*te.bytes<=140737488355328:=C8 hg;obtain⟨k',rfl⟩:=U3 hn;cases U.int_inv;obtain⟨i,z,hi1,hi2,hi3,hi4,aa⟩:=C.info;have hzs:z.cells.size=te.size:=by have:=((aa.rep W cx).cells aa.und).1;simp at this;rw[this];exact C.zsz
      . have hp:0<te.size:=V
        have af:=C.pos hp;have hn47:n<=140737488355328:=zqm (Nat.le_mul_of_pos_right n af) hg;obtain⟨a1,a2⟩:=Rq (W:=W) (cx:=cx) aa C.zsz hp n (c:=Builtin.zeroCells z.cells n) (by grind[Go.Builtin.zeroCells,Go.AM.rangeMap_get]);have hzl:(Builtin.zeroCells z.cells n).toList=(List.range (n*te.size)).map fun k=>(z.cells[k%te.size]?).getD undef:=by
         apply List.ext_getElem?;grind[Builtin.zeroCells]
        rw[o6]at J;have hlen:(List.replicate n te.zero).length=n:=List.length_replicate;exact Jy hE hs D ac hd ae I A B Q a1 (by grind) a1.oneL af J
     |_=>grind
theorem Xi(I:EnvOk E P)(B:Sat E W cx h){b:Builtin}{ts:Array TypeId}{ty:TypeId}{cs:Array Bool}{args:Array Value}{l:List AV}(hl:RepL W cx args.toList l){r:AV}{h':Heap}(hb:F5 E b ts.toList l h=zs (r,h')):
 Jb P E W cx (builtin b ts ty cs args) r h':=by
 cases b with
 |append=>
  obtain⟨v,W',cx',h1,h2,C,J⟩:=Tb I B (ts:=ts) (ty:=ty) hl hb;exact Jb.value (s:=Builtin.append_ ts ty args) h1 h2 C J
 |len=>
  have hb:Xe E ts.toList l h=zs (r,h'):=hb;unfold Xe at hb;cases A:ts.toList with
  |nil=>rw[A]at hb;cases hb
  |cons t ts1=>
   rw[A]at hb;cases l with
   |nil=>cases hb
   |cons x l1=>
    obtain⟨ti,N,hb⟩:=F2 hb;obtain⟨n,hn,hb⟩:=A2 hb;rw[C0]at hb;cases hb;have H:ts[0]?=zs t:=by rw[<-zqc,A];rfl
    obtain⟨xv,D,G⟩:=hl.get (i:=0) (c:=x) rfl
    have:=qQ I B N (ty:=ty) H (args:=args) (by simpa using D) G hn
    exact Jb.same (s:=Builtin.len_ ts ty args) B this (.int _ _)
 |max=>
  cases l with
  |nil=>cases hb
  |cons x l=>
   obtain⟨Q,h1,h2⟩:=zqn.1 (show(Mp l x).map (·,h)=zs (r,h')from hb);cases h2;obtain⟨args⟩:=args;cases args with
   |nil=>have:=hl.1;simp at this
   |cons xv vs=>
    obtain⟨v,h2,C⟩:=Zi (P:=P) (vs:=vs) (xv:=xv) ⟨by have:=hl.1;simpa using this,fun i v c h1 h2=>hl.2 (i+1) v c (by simpa using h1) (by simpa using h2)⟩ (hl.2 0 _ _ rfl rfl) h1;refine Jb.same (s:=Builtin.max_ ts ty ⟨xv::vs⟩) B ?_ C;simpa[Builtin.max_]using h2
 |min=>
  cases l with
  |nil=>cases hb
  |cons x l=>
   obtain⟨Q,h1,h2⟩:=zqn.1 (show(Qi l x).map (·,h)=zs (r,h')from hb);cases h2;obtain⟨args⟩:=args;cases args with
   |nil=>have:=hl.1;simp at this
   |cons xv vs=>
    obtain⟨v,h2,C⟩:=Zj (P:=P) (vs:=vs) (xv:=xv) ⟨by have:=hl.1;simpa using this,fun i v c h1 h2=>hl.2 (i+1) v c (by simpa using h1) (by simpa using h2)⟩ (hl.2 0 _ _ rfl rfl) h1;refine Jb.same (s:=Builtin.min_ ts ty ⟨xv::vs⟩) B ?_ C;simpa[Builtin.min_]using h2
 |_=>cases hb
theorem kE(J:EnvOk E P)(C:Sat E W cx h){a:Act}{fr:Tr}(hf:FrRep W cx a.tmps fr){call:D5}(o:Oper)(hc:∀c f,o.op=.call c->c.callee≠.value f){v:AV}{h':Heap}
 (A:evOp E call o.op fr h=.ok v h'):Jb P E W cx (execOp a.eval o) v h':=by
 have D:=fun x=>j2 (E:=E) C hf x
 obtain⟨dst,op,ai,pos,ad,guard⟩:=o;cases op with
 |move x=>cases A;exact⟨_,W,cx,.inl rfl,Ext.refl _ _,C,D x⟩
 |assign x=>cases A;exact⟨_,W,cx,.inl rfl,Ext.refl _ _,C,D x⟩
 |pick c x y=>
  obtain⟨b,hb,A⟩:=qJ A;have ag:=D c;rw[hb]at ag;have e:=ag.bool_inv;refine⟨if b then a.eval x else a.eval y,W,cx,.inl ?_,Ext.refl _ _,?_,?_⟩
  . simp[execOp,e,asBool]
  . cases b<;>(cases A;exact C)
  . cases b<;>(cases A;exact D _)
 |alloc t=>
  obtain⟨ti,H,A⟩:=F0 A;have ah:=J.ti t ti H;obtain⟨z,am,ae⟩:=ah.run_zero (W:=W);obtain⟨v',W',cx',h1,h2,h3,h4⟩:=Tl (P:=P) C (t:=t) (ae.rep W cx) ae.one ae.und ah.zsz A;refine Jb.value (s:=Instr.alloc t zt (.tuple #[])) ?_ h2 h3 h4;simp only[Instr.alloc,Sem.run_bind,am,Result.andThen_ok];simpa using h1
 |box t x=>
  obtain⟨ti,H,A⟩:=F0 A;cases hg:(Nat.beq (lenL (opv E x fr).cells) ti.size&&D7 (opv E x fr).cells)with
  |false=>rw[hg]at A;cases A
  |true=>
   rw [hg]at A;rw[zqa,A7,G9]at hg;have I:opv E x fr≠.und:=fun e=>by
    have:=hg.2 .und (by rw[e];simp[AV.cells])
    cases this
   obtain⟨v',W',cx',h1,h2,h3,h4⟩:=Tl (P:=P) C (t:=t) (D x) (((D x).cells I).one hg.2) I (D1 hg.1) A;refine Jb.value (s:=Instr.box t (a.eval x)) ?_ h2 h3 h4;simpa[Instr.box]using h1
 |build t ps=>
  obtain⟨ti,H,A⟩:=F0 A;obtain⟨B,hh⟩:=I2 A;subst hh;obtain⟨l1,l2⟩:=Gg C hf ps.toList;obtain⟨v',h1,h2⟩:=fW J H (ps:=ps.map fun p=>(p.1,a.eval p.2)) (by rw[Gf];exact l1) (by rw[Gf];exact l2) B;exact Jb.same (s:=Instr.build t _) C h1 h2
 |buildSlice t n ps=>
  obtain⟨ti,H,A⟩:=F0 A;cases Q:elemOfT E ti.desc with
  |none=>rw[Q]at A;cases A
  |some te=>
   rw[Q]at A;cases hg:(Nat.ble (Nat.mul n te.size) 65536&&Nat.blt 0 te.size)with
   |false=>simp only[hg]at A;cases A
   |true=>
    simp only[hg,cond_true]at A;cases G:placeL te.size (opvps E ps.toList fr) (repL n te.zero)with
    |none=>rw[G]at A;cases A
    |some es=>
     rw[G]at A;cases A;obtain⟨l1,l2⟩:=Gg C hf ps.toList;obtain⟨v',W',cx',h1,h2,h3,h4⟩:=Na J C H Q (ps:=ps.map fun p=>(p.1,a.eval p.2)) (by rw[Gf];exact l1) (by rw[Gf];exact l2) hg G;exact Jb.value (s:=Instr.buildSlice t n _) h1 h2 h3 h4
 |load t x=>
  obtain⟨ti,H,A⟩:=F0 A;obtain⟨B,hh⟩:=I2 A;subst hh;obtain⟨v',h1,h2⟩:=Tj J C H (D x) B;exact Jb.same (s:=Instr.loadAt t _) C h1 h2
 |store t x y=>
  obtain⟨ti,H,A⟩:=F0 A
  have:Ct ti (opv E x fr) (opv E y fr) h=zs h'/\v=.und:=by
   cases B:Ct ti (opv E x fr) (opv E y fr) h with
   |none=>rw[B]at A;cases A
   |some h2=>rw[B]at A;cases A;exact⟨rfl,rfl⟩
  obtain⟨B,rfl⟩:=this;obtain⟨W',h1,h2,h3⟩:=fR J C H (D x) (D y) B;exact Jb.unit (s:=Instr.storeAt t _ _) h1 h2 h3
 |nilCheck x=>
  obtain ⟨B,hh⟩:=I2 A;subst hh;have N:=D x;have Y:∀u:Value,a.eval x=u->(match u with | .pointer zn | .nilIface | .nilFunc=>False | .func (.method _) _ _=>False|_=>True)->(execOp a.eval ⟨dst,.nilCheck x,ai,pos,ad,guard⟩).run P W=.ok (.value u) W:=by
   intro u I hm;simp only[execOp,I];cases u with
   | pointer p=>cases p with
    |none=>exact hm.elim
    |some p=>rfl
   | func f a b=>cases f with
    |method n=>exact hm.elim
    |_=>rfl
   |nilIface=>exact hm.elim
   |nilFunc=>exact hm.elim
   |_=>rfl
  cases V:opv E x fr with
  |fptr w o=>
   rw[V]at B N;cases B;obtain⟨b,o',e,_⟩:=N.fptr_inv;exact⟨_,W,cx,.inl (Y _ e trivial),Ext.refl _ _,C,e▸N⟩
  |ptr i j o=>
   rw[V]at B N;cases B;obtain⟨_,e⟩:=N.ptr_inv;exact⟨_,W,cx,.inl (Y _ e trivial),Ext.refl _ _,C,e▸N⟩
  |fn f l1 l2=>
   rw[V]at B N;cases f with
   |func f=>
    cases B;cases I:a.eval x with
    |func f' vs ws=>
     rw[I]at N
     have:f'=.func f:=by cases N;rfl
     subst this;exact⟨_,W,cx,.inl (Y _ I trivial),Ext.refl _ _,C,N⟩
    |_=>rw[I]at N;cases N
   |_=>cases B
  |map i=>
   rw[V]at B N;cases B;cases I:a.eval x with
   |map r=>
    rw[I]at N;exact⟨_,W,cx,.inl (Y _ I trivial),Ext.refl _ _,C,N⟩
   |_=>rw[I]at N;cases N
  |_=>rw[V]at B;cases B
 |binOp op t x y yt=>
  obtain ⟨B,hh⟩:=I2 A;subst hh;obtain⟨v',h1,h2⟩:∃v',Z6 P W op t x y (a.eval x) (a.eval y) v'/\Rep W cx v' v:=by
   rcases orO_some B with B|B
   . exact kB J (D x) (D y) B x y
   . exact fG J (D x) (D y) B x y
  exact Jb.same (s:=do eqGuard op t x y (a.eval x) (a.eval y);binOp op t (a.eval x) (a.eval y)) C h1 h2
 |unOp op t x=>
  obtain⟨B,hh⟩:=I2 A;subst hh;obtain⟨v',h1,h2⟩:=kK (P:=P) (D x) B;exact Jb.same (s:=Op.unary op _) C h1 h2
 |convert s d x=>
  obtain⟨ts,an,A⟩:=F0 A;obtain⟨td,ao,A⟩:=F0 A;obtain⟨B,hh⟩:=I2 A;subst hh;obtain⟨v',h1,h2⟩:=Xk J an ao (D x) B;exact Jb.same (s:=convert s d _) C h1 h2
 |makeFunc f first caps=>
  cases A;have r1:=Bz (E:=E) C hf first.toList
  have r2:=Bz (E:=E) C hf caps.toList;refine⟨.func f (first.map a.eval) (caps.map a.eval),W,cx,.inl (by simp[execOp,Instr.makeFunc]),Ext.refl _ _,C,?_⟩;refine .fn f _ _ _ _ (by have:=r1.1;simpa using this) (by have:=r2.1;simpa using this) (fun i v c h1 h2=>r1.2 i v c ?_ h2) (fun i v c h1 h2=>r2.2 i v c ?_ h2)
  . simpa using h1
  . simpa using h1
 |makeMap t r=>
  cases r with
  |some r=>cases A
  |none=>
   cases A;have he:=Ext.alloc W cx (.map #[] 0) 0;refine⟨.map (zs W.heap.size),W.alloc (.map #[] 0),_,.inl (by simp[execOp,Instr.makeMap]),he,C.push _ _ 0 ⟨#[],0,[],L7 W _,List.Perm.refl _,rfl,by simp,MapKept.stamped_empty 0,fun q B=>by cases B⟩,?_⟩
   have:=Rep.map (W:=W.alloc (.map #[] 0)) (cx:=cx.push W.heap.size 0) h.next (by rw[C.nx];exact Nat.lt_succ_self _) (by rw[C.nx,Cx.push_new];simp)
   rw[C.nx,Cx.push_new]at this;rw[C.nx];exact this
 |makeInterface t x=>
  obtain⟨ti,H,A⟩:=F0 A;cases G:X7 ti.desc with
  |false=>rw[G]at A;cases A
  |true=>
   rw[G]at A;cases A;have U:=(J.ti t ti H).desc;unfold J7 at U
   have:∃d,P.underlying t=zs d/\∀ms,d≠.interface ms:=by
    cases X:ti.desc with
    |func=>rw[X]at G;cases G
    |iface=>rw[X]at G;cases G
    |other=>rw[X]at G;cases G
    |struct fs fl=>rw[X]at U;obtain⟨fields,I,_⟩:=U;exact⟨_,I,by simp⟩
    |_=>rw[X]at U;exact⟨_,U,by simp⟩
   obtain⟨d,I,hn⟩:=this;have r1:∀W:World,(underlying t).run P W=.ok d W:=fun W=>A4 I
   refine Jb.same (s:=Instr.makeInterface t (a.eval x)) (v':=.iface t (a.eval x)) C ?_ (.iface t _ _ (D x));simp only[Instr.makeInterface,Sem.run_bind,r1,Result.andThen_ok];cases d<;>first|rfl|exact absurd rfl (hn _)
 |typeAssert x xt t ok=>
  obtain⟨ti,H,A⟩:=F0 A;cases G:(X7 ti.desc && !ok)with
  |false=>rw[G]at A;cases A
  |true=>
   rw[G]at A;rw[zqa]at G;obtain⟨G,ac⟩:=G;obtain⟨B,hh⟩:=I2 A;subst hh;have U:=(J.ti t ti H).desc;unfold J7 at U
   have:∃d,P.underlying t=zs d/\∀ms,d≠.interface ms:=by
    cases X:ti.desc with
    |func=>rw[X]at G;cases G
    |iface=>rw[X]at G;cases G
    |other=>rw[X]at G;cases G
    |struct fs fl=>rw[X]at U;obtain⟨fields,I,_⟩:=U;exact⟨_,I,by simp⟩
    |_=>rw[X]at U;exact⟨_,U,by simp⟩
   obtain⟨d,I,hn⟩:=this;have r1:∀W:World,(underlying t).run P W=.ok d W:=fun W=>A4 I
   have ab:=D x;cases aj:opv E x fr with
   |iface u w=>
    rw[aj]at B ab;have B:(bif Nat.beq u t then zs w else zn)=zs v:=B;cases hb:Nat.beq u t with
    |false=>rw[hb]at B;cases B
    |true=>
     rw [hb]at B;cases B;have ak:=D1 hb;have⟨u',al,hr⟩:∃u',a.eval x=.iface t u'/\Rep W cx u' v:=by
      generalize a.eval x=z at ab;cases ab with
      |iface _ u' _ hr=>exact⟨u',by rw[ak],hr⟩
     refine Jb.same (s:=Instr.typeAssert (a.eval x) xt t ok) (v':=u') C ?_ hr;rw[al];have ac:ok=zf:=by simpa using ac
     subst ac;simp only[Instr.typeAssert,Sem.run_bind,r1,Result.andThen_ok];cases d<;>first|exact absurd rfl (hn _)|(simp;done)|simp
   |_=>rw[aj]at B;cases B
 |makeSlice t l c=>
  obtain⟨ti,H,A⟩:=F0 A;cases Q:elemOfT E ti.desc with
  |none=>rw[Q]at A;cases A
  |some te=>
   rw[Q]at A;cases hl:asNat (opv E l fr)with
   |none=>simp only[hl]at A;cases A
   |some n=>
    simp only[hl]at A;cases hm:asNat (opv E c fr)with
    |none=>simp only[hm]at A;cases A
    |some m=>
     simp only[hm]at A;cases hg:(Nat.ble n m&&Nat.ble (Nat.mul m te.bytes) 140737488355328&&Nat.blt 0 te.size)with
     |false=>simp only[hg]at A;cases A
     |true=>
      simp only[hg,cond_true]at A;cases A;obtain⟨v',W',cx',h1,h2,h3,h4⟩:=Qn J C H Q (D l) (D c) hl hm hg;exact Jb.value (s:=Instr.makeSlice t _ _) h1 h2 h3 h4
 |slice t x lo hi mx=>
  have A:Gd E t x lo hi mx fr h=.ok v h':=A;unfold Gd at A;obtain⟨ti,H,A⟩:=F0 A;cases af:hi.isNone&&mx.isSome with
  |true=>rw[af]at A;cases A
  |false=>
   rw [af]at A;obtain⟨B,hh⟩:=I2 A;subst hh;obtain⟨v',h1,h2⟩:=fU J H (D x) (bQ C hf lo) (bQ C hf hi) (bQ C hf mx) (fun hn=>by
    cases hi with
    |some hi=>cases hn
    | none=>cases mx with
     |none=>rfl
     |some mx=>cases af) B
   exact Jb.same (s:=Instr.sliceAt t _ _ _ _) C h1 h2
 |fieldAddr t x f=>
  obtain⟨ti,H,A⟩:=F0 A;obtain⟨B,hh⟩:=I2 A;subst hh;obtain⟨p,G,B⟩:=A2 B;obtain⟨v',h1,h2⟩:=Ql J H (D x) G B;exact Jb.same (s:=Instr.fieldAt t _ f) C h1 h2
 |field t x f=>
  obtain⟨ti,H,A⟩:=F0 A;obtain⟨B,hh⟩:=I2 A;subst hh;obtain⟨p,G,B⟩:=A2 B;obtain⟨v',h1,h2⟩:=fS J H (D x) G B;exact Jb.same (s:=Instr.field t _ f) C h1 h2
 |indexAddr t x i=>
  obtain⟨ti,H,A⟩:=F0 A;obtain⟨B,hh⟩:=I2 A;subst hh;obtain⟨n,hn,B⟩:=A2 B;obtain⟨v',h1,h2⟩:=Qm J H (D x) (D i) hn B;exact Jb.same (s:=Instr.indexAt t _ _) C h1 h2
 |index t x i=>
  obtain⟨ti,H,A⟩:=F0 A;obtain⟨B,hh⟩:=I2 A;subst hh;obtain⟨n,hn,B⟩:=A2 B;obtain⟨v',h1,h2⟩:=fT J H (D x) (D i) hn B;exact Jb.same (s:=Instr.index t _ _) C h1 h2
 |lookup t m k ok=>cases A
 |mapUpdate t m k x=>cases A
 |insert t m k x=>cases A
 |extract t i=>
  obtain⟨vs,ap,A⟩:=tS A;obtain⟨B,hh⟩:=I2 A;subst hh
  have:=D t
  rw[ap]at this;obtain⟨v',h1,h2⟩:=Xl (P:=P) this B;exact Jb.same (s:=Instr.extract _ i) C h1 h2
 |call c=>
  obtain⟨aa,args,argTypes⟩:=c;cases aa with
  |value f=>exact absurd rfl (hc _ f rfl)
  |invoke f n=>cases A
  |builtin b=>
   have A:lift2 (F5 E b argTypes.toList (opvs E args.toList fr) h)=.ok v h':=A;cases B:F5 E b argTypes.toList (opvs E args.toList fr) h with
   |none=>rw[B]at A;cases A
   |some p=>
    rw [B]at A;cases A;have hl:RepL W cx (args.map a.eval).toList (opvs E args.toList fr):=by
     have:=Bz (E:=E) C hf args.toList;simpa using this
    exact Xi J C hl B
 |panic x=>
  exfalso
  have A:qG (opv E x fr) h=.ok v h':=A;cases B:opv E x fr<;>rw[B]at A<;>cases A
 |_=>cases A
end
end Go.AM
/-
 The abstract machine: operations,calls among them,and rows of operations in the order of the text.
-/
namespace Go.AM
def Res.Post(E:Env)(W:World)(cx:Cx):Res->Ending->World->Prop
 |.ok v h,.returned A,w=>∃cx',Ext W cx w cx'/\Sat E w cx' h/\Rep w cx' A v
 |.pan v h,.panicked chain,w=>∃cx' A,chain=[{v:=A,recovered:=zf}]/\Ext W cx w cx'/\Sat E w cx' h/\Rep w cx' A v
 |_,_,_=>False
def Ep(E:Env)(P:Program)(call:D5):Prop:=
 ∀ f (args:Array Value) l W cx h,RepL W cx args.toList l->Sat E W cx h->call f l h≠.bad ->
   (∃ fn c, P.funcs[f]? = zs fn ∧ fn.body = zs c ∧ (fn.name == "runtime.NumGoroutine") = zf) ∧ Calls P f args W ((call f l h).Post E W cx)
def bR:Ex->Exit
 |.normal=>.normal
 |.exit i=>.exit i
 | .ret=>.ret
def CRes.Post(E:Env)(W:World)(cx:Cx)(S:Act->Prop)(r:CRes)(x:Exit)(a:Act)(w:World):Prop:=
 S a/\∃cx',Ext W cx w cx'/\
   match r with
   |.ok e fr h=>x=bR e/\Sat E w cx' h/\FrRep w cx' a.tmps fr
   |.pan v h=>∃A,x=.panic [{v:=A,recovered:=zf}]/\Sat E w cx' h/\Rep w cx' A v
   | .bad=>False
def Js(S:Act->Prop)(d:Option Tmp):Prop:=∀a v,S a->S (a.put d v)
theorem CRes.Post.trans{E:Env}{W B:World}{cx A:Cx}{S:Act->Prop}(D:Ext W cx B A){r:CRes}{x:Exit}{a:Act}{w:World}(h:r.Post E B A S x a w):r.Post E W cx S x a w:=by
 obtain⟨G,cx',C,h⟩:=h;exact⟨G,cx',D.trans C,h⟩
section
variable {P:Program}{E:Env}{W:World}{cx:Cx}{h:Heap}
def c9(r:Res):Prop:=∀v h,r≠.pan v h
theorem c9.ok{v:AV}{h:Heap}:c9 (.ok v h):=fun _ _ e=>by cases e
theorem c9.bad:c9 .bad:=fun _ _ e=>by cases e
theorem c9.lift{x:Option AV}{h:Heap}:c9 (lift x h):=by cases x;exact .bad;exact .ok
theorem c9.liftH{x:Option Heap}:c9 (liftH x):=by cases x;exact .bad;exact .ok
theorem c9.lift2{x:Option (AV×Heap)}:c9 (lift2 x):=by cases x;exact .bad;exact .ok
theorem c9.onTI{t:Nat}{f:TI->Res}(hf:∀x,c9 (f x)):c9 (onTI E t .bad f):=by
 unfold AM.onTI;cases E.ti t;exact .bad;exact hf _
theorem c9.cond{b:Bool}{x y:Res}(hx:c9 x)(hy:c9 y):c9 (bif b then x else y):=by grind
theorem Tc{call:D5}{op:Op}{fr:Tr}(B:∀x,op≠.panic x)(hc:∀c f,op=.call c->c.callee≠.value f):c9 (evOp E call op fr h):=by
 cases op with
 |panic x=>exact absurd rfl (B x)
 |call c=>
  obtain⟨A,args,argTypes⟩:=c;cases A with
  |value f=>exact absurd rfl (hc _ f rfl)
  |invoke f n=>exact .bad
  |builtin b=>exact .lift2
 |move x=>exact .ok
 |assign x=>exact .ok
 |pick c x y=>
  show c9 ((opv E c fr).onBool .bad fun t=>match t with|true=>.ok (opv E x fr) h|false=>.ok (opv E y fr) h)
  cases opv E c fr with
  |bool b=>cases b<;>exact .ok
  |_=>exact .bad
 |alloc t=>exact .onTI fun _=>.ok
 |box t x=>exact .onTI fun _=>.cond .ok .bad
 |build t ps=>exact .onTI fun _=>.lift
 |buildSlice t n ps=>
  refine .onTI fun ti=>?_
  cases elemOfT E ti.desc with
  |none=>exact .bad
  |some te=>
   refine .cond ?_ .bad;cases placeL te.size (opvps E ps.toList fr) (repL n te.zero)with
   |none=>exact .bad
   |some es=>exact .ok
 |load t x=>exact .onTI fun _=>.lift
 |store t x y=>exact .onTI fun _=>.liftH
 |nilCheck x=>exact .lift
 |binOp op t x y yt=>exact .lift
 |unOp op t x=>exact .lift
 |convert s d x=>exact .onTI fun _=>.onTI fun _=>.lift
 |makeFunc f first caps=>exact .ok
 |makeMap t r=>cases r;exact .ok;exact .bad
 |makeInterface t x=>exact .onTI fun _=>.cond .ok .bad
 |typeAssert x xt t ok=>exact .onTI fun _=>.cond .lift .bad
 |makeSlice t l c=>
  refine .onTI fun ti=>?_
  cases elemOfT E ti.desc with
  |none=>exact .bad
  |some te=>
   cases h1:asNat (opv E l fr)with
   |none=>exact .bad
   |some n=>
    cases h2:asNat (opv E c fr)with
    |none=>exact .bad
    |some m=>exact .cond .ok .bad
 |slice t x lo hi mx=>exact .onTI fun _=>.cond .bad .lift
 |fieldAddr t x f=>exact .onTI fun _=>.lift
 |field t x f=>exact .onTI fun _=>.lift
 |indexAddr t x i=>exact .onTI fun _=>.lift
 |index t x i=>exact .onTI fun _=>.lift
 |lookup t m k ok=>exact .bad
 |mapUpdate t m k x=>exact .bad
 |insert t m k x=>exact .bad
 |extract t i=>
  show c9 ((opv E t fr).onTup .bad fun vs=>lift (Eb vs i) h)
  cases opv E t fr with
  |tup vs=>exact .lift
  |_=>exact .bad
 |_=>exact .bad
theorem Jt(hE:EnvOk E P)(hs:Sat E W cx h){a:Act}{fr:Tr}(hf:FrRep W cx a.tmps fr){call:D5}(hcall:Ep E P call)(o:Oper){K:Act->World->Prop}{Q:Exit->Act->World->Prop}
 (hb:evOp E call o.op fr h≠.bad)
 (hK:∀v h' v' W' cx',evOp E call o.op fr h=.ok v h'->Ext W cx W' cx'->Sat E W' cx' h'->Rep W' cx' v' v->K (a.put o.dst v') W')
 (hQ:∀v h' v' W' cx',evOp E call o.op fr h=.pan v h'->Ext W cx W' cx'->Sat E W' cx' h'->Rep W' cx' v' v->Q (.panic [{v:=v',recovered:=zf}]) a W'):o.wp P a W K Q:=by
 by_cases hc:∀c f,o.op=.call c->c.callee≠.value f
 . by_cases hp:∀x,o.op≠.panic x
   . cases hev:evOp E call o.op fr h with
     |bad=>grind
     |pan v h'=>exact absurd hev (Tc hp hc v h')
     |ok v h'=>
      obtain⟨v',W',cx',hr,h1,h2,h3⟩:=kE hE hs hf o hc hev;have hk:=hK v h' v' W' cx' hev h1 h2 h3;unfold Oper.wp;rcases hr with hr|⟨hr,rfl⟩
      . rw[hr];exact hk
      . rw[hr];exact hk
   . have ⟨x,hx⟩:∃x,o.op=.panic x:=by
      grind
     have ov:=j2 (E:=E) hs hf x;rw[hx]at hb hQ;have e:evOp E call (.panic x) fr h=qG (opv E x fr) h:=rfl;rw[e]at hb hQ;cases hq:opv E x fr with
     |iface t v=>
      rw[hq]at hQ ov;have hk:=hQ (.iface t v) h (a.eval x) W cx rfl (Ext.refl _ _) hs ov
      have:∃u,a.eval x=.iface t u:=by
       generalize a.eval x=u at ov;cases ov;grind
      obtain⟨u,hu⟩:=this;unfold Oper.wp
      have:(execOp a.eval o).run P W=.halt (.panic (a.eval x)) W:=by
       simp_all[execOp,Instr.panic]
      rw[this];exact hk
     |_=>rw[hq]at hb;exact absurd rfl hb
 . have ⟨c,f,hop,hcf⟩:∃c f,o.op=.call c/\c.callee=.value f:=by
    grind
   obtain⟨dst,op,type,pos,after,guard⟩:=o;simp only at hop;subst hop;obtain⟨callee,args,argTypes⟩:=c;simp only at hcf;subst hcf;have e:evOp E call (.call ⟨.value f,args,argTypes⟩) fr h=i6 call (opv E f fr) (opvs E args.toList fr) h:=rfl;rw[e]at hb hK hQ;have ov:=j2 (E:=E) hs hf f;have oa:=Bz (E:=E) hs hf args.toList;cases hq:opv E f fr with
   |fn g first caps=>
    rw[hq]at hb hK hQ ov;cases g with
    |func n=>
     have e:i6 call (.fn (.func n) first caps) (opvs E args.toList fr) h=call n (appL first (appL (opvs E args.toList fr) caps)) h:=rfl;rw[e]at hb hK hQ;have⟨vs,ws,hv,h1,h2⟩:∃vs ws,a.eval f=.func (.func n) vs ws/\RepL W cx vs.toList first/\RepL W cx ws.toList caps:=by
      generalize a.eval f=u at ov;cases ov with
      |fn f vs ws cs ds hl hl' h h'=>exact⟨vs,ws,rfl,⟨by grind,(by grind)⟩,⟨by grind,(by grind)⟩⟩
     rw [Q3,Q3]at hb hK hQ;have hl:RepL W cx (vs++args.map a.eval++ws).toList (first++(opvs E args.toList fr++caps)):=by
      have:(vs++args.map a.eval++ws).toList=vs.toList++(args.toList.map a.eval++ws.toList):=by simp
      rw[this];exact h1.append (oa.append h2)
     obtain⟨⟨fn,c,hf1,hf2,hf3⟩,hcl⟩:=hcall n _ _ W cx h hl hs hb;unfold Oper.wp
     have:(execOp a.eval ⟨dst,.call ⟨.value f,args,argTypes⟩,type,pos,after,guard⟩).run P W=.ok (.enter n (vs++args.map a.eval++ws)) W:=by
      have hn : ¬ fn.name = "runtime.NumGoroutine" := fun e => by grind
      simp[execOp,resolve,hv,Deferred.ofValue,invoke,callFunc,hf1,hf2,hn]
     rw[this,Oper.upon_enter];refine hcl.mono fun e w' hp=>?_
     generalize call n (first++(opvs E args.toList fr++caps)) h=r at *;cases r with
     |bad=>grind
     |ok v h'=>
      cases e with
      |returned vv=>obtain⟨cx',h1,h2,h3⟩:=hp;grind
      |_=>exact hp.elim
     |pan v h'=>
      cases e with
      |panicked c=>obtain⟨cx',vv,rfl,h1,h2,h3⟩:=hp;grind
      |_=>exact hp.elim
    |_=>exact absurd rfl hb
   |_=>rw[hq]at hb;exact absurd rfl hb
theorem O8{ops:Array Oper}{a:Act}{fr:Tr}(hf:FrRep W cx a.tmps fr)(o:Oper){b:Bool}(hg:guardOk (G5 ops.toList o) fr=zs b):Region.wanted o (yielded ops a.tmps)=b:=by
 unfold G5 at hg;unfold Region.wanted;cases C:o.guard with
 |none=>rw[C]at hg;cases hg;rfl
 |some p=>
  obtain ⟨g,A⟩:=p;rw[C]at hg;dsimp only at hg|-;have hg:Jk ((match ops.toList[g]? with|some q=>q.dst|none=>zn),A) fr=zs b:=hg;have B:yielded ops a.tmps g=match((match ops.toList[g]? with|some q=>q.dst|none=>zn).bind (a.tmps[·]?))with|some (.bool b)=>zs b|_=>zn:=by
   grind[yielded]
  generalize hdst:(match ops.toList[g]? with|some q=>q.dst|none=>zn)=d at hg B;cases d with
  |none=>
   cases hg;grind
  |some t=>
   have hg:i7 A (fr.get t)=zs b:=hg;have D:=hf.rep t;cases G:fr.get t with
   |bool c=>
    rw [G]at hg D;have e:=D.bool_inv;have e2:a.tmps[t]?=zs (.bool c):=by
     rw[zqd]at e;cases H:a.tmps[t]? with
     |none=>rw[H]at e;cases e
     |some u=>grind
    rw[B];simp only[zqo,e2];cases A<;>cases c<;>cases hg<;>rfl
   |tup l=>
    rw[G]at hg D;cases l with
    |cons x l=>cases hg
    |nil=>
     cases hg;obtain⟨vs,e,_⟩:=D.tup_inv;rw[B];simp only[zqo];rw[zqd]at e;grind
   |_=>rw[G]at hg;cases hg
theorem Ie(a:Act)(d:Option Tmp)(v:Value):(a.put d v).defers=a.defers:=by cases d<;>rfl
theorem Bc(H:EnvOk E P){call:D5}(A:Ep E P call){S:Act->Prop}{ops:Array Oper}{Q:Exit->Act->World->Prop}:∀(l:List Oper)(W:World)(cx:Cx)(a:Act)(fr:Tr)(h:Heap),(∀o∈l,Js S o.dst)->FrRep W cx a.tmps fr->S a->Sat E W cx h ->
 I8 E call (l.map (eF ops.toList zf [] zf)) fr h≠.bad->(∀x D w',(I8 E call (l.map (eF ops.toList zf [] zf)) fr h).Post E W cx S x D w'->Q x D w')->wpList P ops Q l a W
 |[],W,cx,a,fr,h,_,hf,hd,hs,hb,B=>B .normal a W ⟨hd,cx,Ext.refl _ _,rfl,hs,hf⟩
 |o :: l,W,cx,a,fr,h,hst,hf,hd,hs,hb,B=>by
  have C:∀o∈l,Js S o.dst:=(by grind)
  have G:=hst o (zqf ..);have U:I8 E call ((o::l).map (eF ops.toList zf [] zf)) fr h =
   N9 (guardOk (G5 ops.toList o) fr) .bad (Y9 o.dst (I8 E call (l.map (eF ops.toList zf [] zf))) fr (evOp E call o.op fr h)) (I8 E call (l.map (eF ops.toList zf [] zf)) (setDst o.dst skipped fr) h):=rfl
  rw[U]at hb B;cases hg:guardOk (G5 ops.toList o) fr with
  |none=>rw[hg]at hb;exact absurd rfl hb
  |some b=>
   have J:=O8 (ops:=ops) hf o hg;rw[hg]at hb B;unfold wpList;cases b with
   |false=>
    rw[J];have hb:I8 E call (l.map (eF ops.toList zf [] zf)) (setDst o.dst skipped fr) h≠.bad:=hb;exact Bc H A l W cx _ _ h C (hf.put o.dst (show Rep W cx undef skipped from .tup #[] [] rfl (by simp))) (G _ _ hd) hs hb B
   |true=>
    rw[J];have hb:Y9 o.dst (I8 E call (l.map (eF ops.toList zf [] zf))) fr (evOp E call o.op fr h)≠.bad:=hb;have B:∀x D w',(Y9 o.dst (I8 E call (l.map (eF ops.toList zf [] zf))) fr (evOp E call o.op fr h)).Post E W cx S x D w'->Q x D w':=B;refine .inl (Jt H hs hf A o (fun e=>by rw[e]at hb;exact hb rfl) (fun v h' v' W' cx' e h1 h2 I=>?_) (fun v h' v' W' cx' e h1 h2 I=>?_))
    . rw[e]at hb B
      exact Bc H A l W' cx' _ _ h' C ((hf.mono h1).put o.dst I) (G _ _ hd) h2 hb (fun x D w' N=>B x D w' (CRes.Post.trans h1 N))
    . rw[e]at B
      exact B _ _ _ ⟨hd,cx',h1,v',rfl,h2,I⟩
end
end Go.AM
/-
 The abstract machine: on what an operation hangs,and what it leaves.
-/
namespace Go.AM
section
variable {E:Env}{call:D5}{h:Heap}
theorem Da{fr fr':Tr}:∀(l:List Operand),(∀y∈l,opv E y fr=opv E y fr')->opvs E l fr=opvs E l fr'
 |[],_=>rfl
 |x::l,hy=>by
  show opv E x fr::opvs E l fr=opv E x fr'::opvs E l fr'
  rw[hy x (zqf ..),Da l fun y A=>hy y (List.mem_cons_of_mem _ A)]
theorem Er{fr fr':Tr}:∀(l:List (Nat×Operand)),(∀y∈l.map (·.2),opv E y fr=opv E y fr')->opvps E l fr=opvps E l fr'
 |[],_=>rfl
 |x::l,hy=>by
  show(x.1,opv E x.2 fr)::opvps E l fr=(x.1,opv E x.2 fr')::opvps E l fr'
  rw[hy x.2 (by simp),Er l fun y A=>hy y (by simp at A|-;exact .inr A)]
theorem If{fr fr':Tr}(o:Option Operand)(hy:∀y,o=zs y->opv E y fr=opv E y fr'):Mt E o fr=Mt E o fr':=by
 cases o with
 |none=>rfl
 |some x=>show zs _=zs _;grind
theorem z8{fr fr':Tr}(op:Op)(A:∀y∈op.operands.toList,opv E y fr=opv E y fr')(h:Heap):evOp E call op fr h=evOp E call op fr' h:=by
 cases op with
 |move x=>show Res.ok _ _=Res.ok _ _;rw[A x (by simp[Op.operands])]
 |assign x=>show Res.ok _ _=Res.ok _ _;rw[A x (by simp[Op.operands])]
 |pick c a b=>show bD E c a b fr h=bD E c a b fr' h;unfold bD;rw[A c (by simp[Op.operands]),A a (by simp[Op.operands]),A b (by simp[Op.operands])]
 |alloc t=>rfl
 |box t x=>show mZ E t x fr h=mZ E t x fr' h;unfold mZ;rw[A x (by simp[Op.operands])]
 |build t ps=>show Rg E t ps fr h=Rg E t ps fr' h;unfold Rg;rw[Er ps.toList (fun y B=>A y (by simpa[Op.operands]using B))]
 |buildSlice t n ps=>show N2 E t n ps fr h=N2 E t n ps fr' h;unfold N2;rw[Er ps.toList (fun y B=>A y (by simpa[Op.operands]using B))]
 |load t x=>show bE E t x fr h=bE E t x fr' h;unfold bE;rw[A x (by simp[Op.operands])]
 |store t a x=>show Rh E t a x fr h=Rh E t a x fr' h;unfold Rh;rw[A a (by simp[Op.operands]),A x (by simp[Op.operands])]
 |nilCheck x=>show Cu E x fr h=Cu E x fr' h;unfold Cu;rw[A x (by simp[Op.operands])]
 |binOp op t x y u=>show Ri E op t x y fr h=Ri E op t x y fr' h;unfold Ri;rw[A x (by simp[Op.operands]),A y (by simp[Op.operands])]
 |unOp op t x=>show bF E op x fr h=bF E op x fr' h;unfold bF;rw[A x (by simp[Op.operands])]
 |convert s d x=>show Gc E s d x fr h=Gc E s d x fr' h;unfold Gc;rw[A x (by simp[Op.operands])]
 |makeFunc f first caps=>show Cv E f first caps fr h=Cv E f first caps fr' h;unfold Cv;rw[Da first.toList (fun y B=>A y (by simp[Op.operands];exact .inl (by simpa using B))),Da caps.toList (fun y B=>A y (by simp[Op.operands];exact .inr (by simpa using B)))]
 |makeMap t r=>rfl
 |typeAssert x xt t ok=>show u7 E t ok x fr h=u7 E t ok x fr' h;unfold u7;rw[A x (by simp[Op.operands])]
 |makeInterface t x=>show Y3 E t x fr h=Y3 E t x fr' h;unfold Y3;rw[A x (by simp[Op.operands])]
 |makeSlice t l c=>show O7 E t l c fr h=O7 E t l c fr' h;unfold O7;rw[A l (by simp[Op.operands]),A c (by simp[Op.operands])]
 |slice t x lo hi mx=>
  show Gd E t x lo hi mx fr h=Gd E t x lo hi mx fr' h;unfold Gd
  rw[A x (by simp[Op.operands]),If lo (fun y e=>A y (by simp[Op.operands,e])),If hi (fun y e=>A y (by simp[Op.operands,e])),If mx (fun y e=>A y (by simp[Op.operands,e]))]
 |fieldAddr t x f=>show At E t x f fr h=At E t x f fr' h;unfold At;rw[A x (by simp[Op.operands])]
 |field t x f=>show Rj E t x f fr h=Rj E t x f fr' h;unfold Rj;rw[A x (by simp[Op.operands])]
 |indexAddr t x i=>show Au E t x i fr h=Au E t x i fr' h;unfold Au;rw[A x (by simp[Op.operands]),A i (by simp[Op.operands])]
 |index t x i=>show Rk E t x i fr h=Rk E t x i fr' h;unfold Rk;rw[A x (by simp[Op.operands]),A i (by simp[Op.operands])]
 |lookup t m k ok=>rfl
 |mapUpdate t m k x=>rfl
 |insert t m k x=>rfl
 |extract t i=>show Ge E t i fr h=Ge E t i fr' h;unfold Ge;rw[A t (by simp[Op.operands])]
 |call c=>
  show jV E call c fr h=jV E call c fr' h
  obtain⟨C,args,argTypes⟩:=c;have ha:=Da (E:=E) (fr:=fr) (fr':=fr') args.toList (fun y B=>A y (by simp[Op.operands,Call.operands];exact .inr (by simpa using B)));cases C with
  |value f=>
   have hf:=A f (by simp[Op.operands,Call.operands]);show i6 call (opv E f fr) (opvs E args.toList fr) h=i6 call (opv E f fr') (opvs E args.toList fr') h
   rw[hf,ha]
  |invoke f n=>rfl
  |builtin b=>
   show lift2 (F5 E b argTypes.toList (opvs E args.toList fr) h)=lift2 (F5 E b argTypes.toList (opvs E args.toList fr') h)
   rw[ha]
 |panic x=>show Rl E x fr h=Rl E x fr' h;unfold Rl;rw[A x (by simp[Op.operands])]
 |_=>rfl
theorem M8{x:Option AV}{v:AV}{h h':Heap}(B:lift x h=.ok v h')(A:Heap):h'=h/\lift x A=.ok v A:=by
 cases x with
 |none=>cases B
 |some a=>cases B;exact⟨rfl,rfl⟩
theorem S5{t:Nat}{f:Heap->TI->Res}{v:AV}{h':Heap}{A:Heap}(hf:∀x,f h x=.ok v h'->h'=h/\f A x=.ok v A)(B:onTI E t .bad (f h)=.ok v h'):h'=h/\onTI E t .bad (f A)=.ok v A:=by
 unfold onTI at B|-;cases C:E.ti t with
 |none=>simp_all
 |some x=>rw[C]at B;grind
theorem Mz{op:Op}(hc:Gz op=0){fr:Tr}{v:AV}{h':Heap}(A:evOp E call op fr h=.ok v h')(B:Heap):h'=h/\evOp E call op fr B=.ok v B:=by
 cases op with
 |move x=>cases A;exact⟨rfl,rfl⟩
 |assign x=>cases A;exact⟨rfl,rfl⟩
 |pick c x y=>
  have A:(opv E c fr).onBool Res.bad (fun t=>match t with|true=>Res.ok (opv E x fr) h|false=>Res.ok (opv E y fr) h)=Res.ok v h':=A;show _/\(opv E c fr).onBool Res.bad (fun t=>match t with|true=>Res.ok (opv E x fr) B|false=>Res.ok (opv E y fr) B)=Res.ok v B
  cases G:opv E c fr with
  |bool b=>rw[G]at A;cases b<;>(cases A;exact⟨rfl,rfl⟩)
  |_=>rw[G]at A;cases A
 |binOp op t x y u=>exact M8 A B
 |unOp op t x=>exact M8 A B
 |convert s d x=>exact S5 (f:=fun h _=>onTI E d .bad fun H=>lift (U0 H.desc (opv E x fr)) h) (fun _ C=>S5 (f:=fun h H=>lift (U0 H.desc (opv E x fr)) h) (fun _ C=>M8 C B) C) A
 |extract t i=>
  have A:(opv E t fr).onTup Res.bad (fun vs=>lift (Eb vs i) h)=Res.ok v h':=A;show _/\(opv E t fr).onTup Res.bad (fun vs=>lift (Eb vs i) B)=Res.ok v B
  cases G:opv E t fr with
  |tup vs=>rw[G]at A;exact M8 A B
  |_=>rw[G]at A;cases A
 |field t x f=>exact S5 (f:=fun h ti=>lift (A6 (fieldAt E ti f) fun p=>(opv E x fr).onAgg zn fun cs=>partOf p.1 cs p.2) h) (fun _ C=>M8 C B) A
 |fieldAddr t x f=>exact S5 (f:=fun h ti=>lift (A6 (fieldAt E ti f) fun p=>B0 (Nat.blt 0 p.1.size) (B9 (opv E x fr) p.2)) h) (fun _ C=>M8 C B) A
 |indexAddr t x i=>exact S5 (f:=fun h ti=>lift (A6 (asNat (opv E i fr)) fun i=>U2 E ti.desc i (opv E x fr)) h) (fun _ C=>M8 C B) A
 |index t x i=>exact S5 (f:=fun h ti=>lift (A6 (asNat (opv E i fr)) fun i=>Eh E ti.desc i (opv E x fr)) h) (fun _ C=>M8 C B) A
 |slice t x lo hi mx=>
  refine S5 (f:=fun h ti=>bif hi.isNone&&mx.isSome then .bad else lift (sliceA E ti.desc (Mt E lo fr) (Mt E hi fr) (Mt E mx fr) (opv E x fr)) h) (fun _ C=>?_) A;grind[M8]
 |nilCheck x=>exact M8 A B
 |build t ps=>exact S5 (f:=fun h ti=>lift (U1 E ti (opvps E ps.toList fr)) h) (fun _ C=>M8 C B) A
 |makeInterface t x=>
  refine S5 (f:=fun h ti=>bif X7 ti.desc then .ok (.iface t (opv E x fr)) h else .bad) (fun ti C=>?_) A;grind
 |makeFunc f first caps=>cases A;exact⟨rfl,rfl⟩
 |call c=>
  exfalso
  obtain⟨D,args,argTypes⟩:=c;cases D with
  |builtin b=>cases b<;>cases hc
  |_=>cases hc
 |_=>cases hc
theorem kF{α:Type}{i:Nat}{d:α}{f:List AV->Nat->α}{A:Heap}(hg:A.get i=h.get i):A.onRow i d f=h.onRow i d f:=by grind[Heap.onRow]
theorem fI{α:Type}{i:Nat}{d:α}{f:List (AV×AV)->α}{A:Heap}(hg:A.get i=h.get i):A.onMapo i d f=h.onMapo i d f:=by grind[Heap.onMapo]
theorem tW{x y:Option AV}{v:AV}{h h' A:Heap}(e:y=x)(hx:lift x h=.ok v h'):h'=h/\lift y A=.ok v A:=by
 grind[M8]
theorem kG{A:Heap}{t:TI}{x:AV}(hg:∀i,r7 x=zs i->A.get i=h.get i):Eg t x A=Eg t x h:=by
 cases x with
 |ptr id i off=>exact kF (hg id rfl)
 |_=>rfl
theorem qL{A:Heap}{d:TD}{x:AV}(hg:∀i,r7 x=zs i->A.get i=h.get i):jT d x A=jT d x h:=by
 cases d with
 |map k e=>
  cases x with
  |map id=>exact fI (hg id rfl)
  |_=>rfl
 |_=>rfl
theorem map_lt{W:World}{cx:Cx}{u:Value}{id:Nat}(A:Rep W cx u (.map id)):id<cx.nx:=by
 cases A;assumption
theorem Td{W:World}{cx:Cx}{u:Value}{x:AV}(B:Rep W cx u x){i:Nat}(A:r7 x=zs i):i<cx.nx:=by
 cases x with
 |ptr id i off=>cases A;exact B.ptr_inv.1
 |map id=>cases A;exact map_lt B
 |_=>cases A
theorem tX{W:World}{cx:Cx}{op:Op}{fr:Tr}(D:∀y∈op.operands.toList,∃u,Rep W cx u (opv E y fr)){i:Nat}(B:readO E op fr=zs i):i<cx.nx:=by
 cases op with
 |load t x=>obtain⟨u,C⟩:=D x (by simp[Op.operands]);exact Td C B
 |lookup t m k ok=>obtain⟨u,C⟩:=D m (by simp[Op.operands]);exact Td C B
 |call c=>
  obtain⟨callee,args,argTypes⟩:=c;have B:(match args.toList with|[]=>zn|x::_=>r7 (opv E x fr))=zs i:=B;cases A:args.toList with
  |nil=>grind
  |cons a r=>
   rw[A]at B;obtain⟨u,C⟩:=D a (by simp[Op.operands,Call.operands];exact .inr (Array.mem_toList_iff.1 (by rw[A];exact zqf ..)));exact Td C B
 |_=>cases B
theorem kH{op:Op}(hc:Gz op=1){fr:Tr}{B:Heap}(hg:∀i,readO E op fr=zs i->B.get i=h.get i){v:AV}{h':Heap}(A:evOp E call op fr h=.ok v h'):h'=h/\evOp E call op fr B=.ok v B:=by
 cases op with
 |load t x=>
  exact S5 (f:=fun h ti=>lift (Eg ti (opv E x fr) h) h) (fun ti I=>tW (kG hg) I) A
 |lookup t m k ok=>cases A
 |call c=>
  obtain⟨D,args,argTypes⟩:=c;cases D with
  |builtin b=>
   have A:lift2 (F5 E b argTypes.toList (opvs E args.toList fr) h)=.ok v h':=A;show _/\lift2 (F5 E b argTypes.toList (opvs E args.toList fr) B)=.ok v B
   have hrep:∀x l,opvs E args.toList fr=x::l->∀i,r7 x=zs i->B.get i=h.get i:=by
    intro x l e i hi;refine hg i ?_;show(match args.toList with|[]=>zn|x::_=>r7 (opv E x fr))=zs i
    cases C:args.toList with
    |nil=>rw[C]at e;cases e
    |cons a r=>
     rw[C]at e;have e:opv E a fr::opvs E r fr=x::l:=e
     have:=(List.cons.inj e).1
     show r7 (opv E a fr)=_
     rw[this];exact hi
   cases b with
   |len=>
    have A:lift2 (Xe E argTypes.toList (opvs E args.toList fr) h)=.ok v h':=A;show _/\lift2 (Xe E argTypes.toList (opvs E args.toList fr) B)=.ok v B
    unfold Xe at A|-;generalize argTypes.toList=H at A|-;generalize opvs E args.toList fr=vs at A hrep|-;cases H with
    |nil=>cases A
    |cons t ts=>
     cases vs with
     |nil=>cases A
     |cons x l=>
      have J:=hrep x l rfl;dsimp only at A|-;unfold onTI at A|-;generalize E.ti t=N at A|-;cases N with
      |none=>cases A
      |some ti=>
       dsimp only at A|-;rw[qL J];cases hl:jT ti.desc x h with
       |none=>rw[hl]at A;cases A
       |some n=>
        rw[hl]at A;simp only[A6,C0,lift2]at A|-;cases A;exact⟨rfl,rfl⟩
   |max=>
    have A:lift2 (qD (opvs E args.toList fr) h)=.ok v h':=A;show _/\lift2 (qD (opvs E args.toList fr) B)=.ok v B
    unfold qD at A|-;generalize opvs E args.toList fr=vs at A|-;cases vs with
    |nil=>cases A
    |cons x l=>
     dsimp only at A|-;cases G:Mp l x with
     |none=>rw[G]at A;cases A
     |some r=>rw[G]at A;cases A;exact⟨rfl,rfl⟩
   |min=>
    have A:lift2 (qE (opvs E args.toList fr) h)=.ok v h':=A;show _/\lift2 (qE (opvs E args.toList fr) B)=.ok v B
    unfold qE at A|-;generalize opvs E args.toList fr=vs at A|-;cases vs with
    |nil=>cases A
    |cons x l=>
     dsimp only at A|-;cases G:Qi l x with
     |none=>rw[G]at A;cases A
     |some r=>rw[G]at A;cases A;exact⟨rfl,rfl⟩
   |_=>cases hc
  |_=>cases hc
 |_=>cases hc
end
end Go.AM
/-
 The abstract machine: new objects; what is left as it was.
-/
namespace Go.AM
section
variable {P:Program}{E:Env}{W:World}{cx:Cx}{h:Heap}{call:D5}
def BT(P:Program)(W:World)(cx:Cx)(s:Sem Next)(es:List AV)(sz:Nat)(nx:Nat->AV):Prop:=
 ∃ (c:Array Value) (t:TypeId) (vs:List Value) (v':Value),s.run P W=.ok (.value v') (W.alloc (.cells c t))/\RowRep W cx vs es sz/\(∀(k:Nat) v,vs[k]?=zs v->c[k]?=zs v)/\es.length*sz<=c.size/\
   ∀(W₂:World)(cx₂:Cx)(id:Nat),cx₂.μ id=(W.heap.size,0,sz)->id<cx₂.nx->W.heap.size<W₂.heap.size->szOf W₂ W.heap.size=c.size->Rep W₂ cx₂ v' (nx id)
theorem Zb{v:Value}{a:AV}{sz:Nat}(C:Rep W cx v a)(B:Xf v.cells.toList)(D:a≠.und)(hz:a.cells.length=sz)(t:TypeId){s:Sem Next}(G:s.run P W=.ok (.value (.pointer (zs ⟨W.heap.size,0,zn⟩))) (W.alloc (.cells v.cells t))):
 BT P W cx s [a] sz (fun id=>.ptr id 0 0):=by
 have A:=C.cells D;refine⟨v.cells,t,_,_,G,RowRep.one A B hz,fun k v hk=>by grind,by have:=A.1;grind,fun W₂ cx₂ id h1 h2 h3 h4=>?_⟩
 have:=Rep.ptr (W:=W₂) (cx:=cx₂) id 0 0 h2 (by grind)
 grind
theorem tY(X:EnvOk E P)(Q:Sat E W cx h){a:Act}{fr:Tr}(hf:FrRep W cx a.tmps fr)(o:Oper)(hc:Gz o.op=2){v:AV}{C h':Heap}(H:evOp E call o.op fr C=.ok v h'):
 ∃es sz nx,v=nx C.next/\h'=C.push (.row es sz)/\(∀A,evOp E call o.op fr A=.ok (nx A.next) (A.push (.row es sz)))/\BT P W cx (execOp a.eval o) es sz nx:=by
 have U:=fun x=>j2 (E:=E) Q hf x
 obtain⟨dst,op,type,pos,after,guard⟩:=o;cases op with
 |alloc t=>
  obtain⟨ti,G,B⟩:=F0 H;have N:=X.ti t ti G;obtain⟨z,aa,J⟩:=N.run_zero (W:=W);cases B;refine⟨[ti.zero],ti.size,fun id=>.ptr id 0 0,rfl,rfl,fun A=>?_,Zb (J.rep W cx) J.one J.und N.zsz t ?_⟩
  . show onTI E t .bad (fun ti=>jU ti.size ti.zero A)=_
    unfold onTI;rw[G];rfl
  . simp[execOp,Instr.alloc,aa,newVar,newRow]
 |box t x=>
  obtain⟨ti,G,B⟩:=F0 H;cases hg:(Nat.beq (lenL (opv E x fr).cells) ti.size&&D7 (opv E x fr).cells)with
  |false=>grind
  |true=>
   rw [hg]at B;cases B;have Y:=hg;rw[zqa,A7,G9]at hg;have hu:opv E x fr≠.und:=fun e=>by
    have:=hg.2 .und (by rw[e];simp[AV.cells])
    cases this
   refine⟨[opv E x fr],ti.size,fun id=>.ptr id 0 0,rfl,rfl,fun A=>?_,Zb (U x) (((U x).cells hu).one hg.2) hu (D1 hg.1) t ?_⟩
   . show onTI E t .bad (fun ti=>bif Nat.beq (lenL (opv E x fr).cells) ti.size&&D7 (opv E x fr).cells then jU ti.size (opv E x fr) A else .bad)=_
     unfold onTI;rw[G];dsimp only;rw[Y];rfl
   . simp[execOp,Instr.box,newVar,newRow]
 |buildSlice t n ps=>
  obtain⟨ti,G,B⟩:=F0 H;cases D:elemOfT E ti.desc with
  |none=>grind
  |some te=>
   rw[D]at B;cases hg:(Nat.ble (Nat.mul n te.size) 65536&&Nat.blt 0 te.size)with
   |false=>grind
   |true=>
    simp only[hg,cond_true]at B;cases hp:placeL te.size (opvps E ps.toList fr) (repL n te.zero)with
    |none=>grind
    |some es=>
     rw[hp]at B;cases B;obtain⟨l1,l2⟩:=Gg Q hf ps.toList;obtain⟨e,V,h1,h2,h3,h4⟩:=Et X Q G D (ps:=ps.map fun p=>(p.1,a.eval p.2)) (by grind) (by grind) hg hp;refine⟨es,te.size,fun id=>.msl id 0 n te.size,rfl,rfl,fun A=>?_,V,e,V.toList,.slice (zs ⟨W.heap.size,0,zn⟩) n n,?_,h2,fun k v hk=>by grind,by grind,fun W₂ cx₂ id k1 k2 k3 k4=>?_⟩
     . show N2 E t n ps fr A=_
       unfold N2;unfold onTI;rw[G];grind
     . show((do pure (.value (<-Instr.buildSlice t n (ps.map fun p=>(p.1,a.eval p.2))))):Sem Next).run P W=_
       simp_all
     simp_all[bX]
 |makeSlice t l c=>
  obtain⟨ti,G,B⟩:=F0 H;cases D:elemOfT E ti.desc with
  |none=>grind
  |some te=>
   rw[D]at B;dsimp only at B;cases hl:asNat (opv E l fr)with
   |none=>grind
   |some n=>
    rw[hl]at B;dsimp only at B;cases hm:asNat (opv E c fr)with
    |none=>grind
    |some m=>
     rw[hm]at B;dsimp only at B;cases hg:(Nat.ble n m&&Nat.ble (Nat.mul m te.bytes) 140737488355328&&Nat.blt 0 te.size)with
     |false=>grind
     |true=>
      rw[hg]at B;cases B;obtain⟨e,V,vs,h1,h2,h3,h4,h5⟩:=Xm X Q G D (U l) (U c) hl hm hg;refine⟨repL n te.zero,te.size,fun id=>.msl id 0 n te.size,rfl,rfl,fun A=>?_,V,e,vs,.slice (zs ⟨W.heap.size,0,zn⟩) n m,?_,h2,h3,by simp_all[o6,Nat.mul_le_mul_right],fun W₂ cx₂ id k1 k2 k3 k4=>?_⟩
      . show O7 E t l c fr A=_
        unfold O7;unfold onTI;rw[G];grind
      . show((do pure (.value (<-Instr.makeSlice t (a.eval l) (a.eval c)))):Sem Next).run P W=_
        simp_all
      grind[bX]
 |call c=>
  exfalso
  obtain⟨I,args,argTypes⟩:=c;cases I with
  |builtin b=>cases b<;>cases hc
  |_=>cases hc
 |_=>cases hc
structure Pres(h h':Heap):Prop where
 next:h.next<=h'.next
 get:∃new,h'.tch=new++h.tch/\∀i,i<h.next->i∉new->h'.get i=h.get i
def Res.heap(r:Res):Option Heap:=match r with | .ok _ h=>zs h | .pan _ h=>zs h | .bad=>zn
def O3(call:D5):Prop:=∀f l h h',Res.heap (call f l h)=zs h'->Pres h h'
theorem Pres.refl(h:Heap):Pres h h:=⟨zql _,[],rfl,fun _ _ _=>rfl⟩
theorem Pres.trans{h A B:Heap}(a:Pres h A)(b:Pres A B):Pres h B:=by
 obtain⟨C,D,a2,a3⟩:=a;obtain⟨G,H,b2,b3⟩:=b;refine⟨zqm C G,H++D,by grind,fun i hi hn=>?_⟩;grind
theorem Pres.set(h:Heap)(i:Nat)(x:AObj):Pres h (h.set i x):=
 ⟨zql _,[i],rfl,(by grind[Go.AM.Heap.get_set_ne])⟩
theorem Pres.del(h:Heap)(i:Nat):Pres h (h.del i):=
 ⟨zql _,[i],rfl,(by grind[Go.AM.Heap.get_del_ne])⟩
theorem Pres.push(h:Heap)(x:AObj):Pres h (h.push x):=
 ⟨Nat.le_succ _,[],rfl,(by grind[Go.AM.Heap.get_push_ne])⟩
theorem m2{t:Nat}{f:TI->Res}{v:AV}{h':Heap}(hx:onTI E t .bad f=.ok v h')(hf:∀x,f x=.ok v h'->Pres h h'):Pres h h':=by
 grind[F0]
theorem Zc{x:Option AV}{v:AV}{h':Heap}(A:lift x h=.ok v h'):Pres h h':=by
 rw[(I2 A).2];exact .refl h
theorem Ju{te:TI}{s:AV}{xs:List AV}{r:AV}{h':Heap}(ha:I7 te s xs h=zs (r,h')):Pres h h':=by
 unfold I7 at ha;cases xs with
 |nil=>cases s<;>first|(cases ha;exact .refl h)|cases ha
 |cons x xs=>
  cases s with
  |nilsl=>
   have ha:As te [] zt (x::xs) h=zs (r,h'):=ha;rw[Ib]at ha;rw[C0]at ha;obtain⟨_,ha⟩:=A8 ha;cases ha;exact .push _ _
  |fsl es full=>
   have ha:As te es full (x::xs) h=zs (r,h'):=ha;rw[Ib]at ha;rw[C0]at ha;obtain⟨_,ha⟩:=A8 ha;cases ha;exact .push _ _
  |msl id off n sz=>
   obtain⟨es,sz',_,ha⟩:=Heap.onRow_some ha;rw[Su]at ha;rw[C0]at ha;obtain⟨_,ha⟩:=A8 ha;cases ha;exact(Pres.del h id).trans (.push _ _)
  |_=>cases ha
theorem builtinA_pres{b:Builtin}{ts:List TypeId}{args:List AV}{r:AV}{h':Heap}(hb:F5 E b ts args h=zs (r,h')):Pres h h':=by
 cases b with
 |append=>
  have hb:Jj E ts args h=zs (r,h'):=hb;unfold Jj at hb;cases ts with
  |nil=>cases hb
  |cons t ts=>
   cases ts with
   |nil=>cases hb
   |cons tx ts=>
    cases args with
    |nil=>cases hb
    |cons s l=>
     cases l with
     |nil=>cases hb
     |cons x l=>
      obtain ⟨ti,_,hb⟩:=F2 hb;obtain⟨te,_,hb⟩:=A2 hb;obtain⟨_,hb⟩:=A8 hb;obtain⟨B,_,hb⟩:=F2 hb;have A:A6 (elems x h) (fun xs=>B0 (J4 te.size xs) (I7 te s xs h))=zs (r,h')->Pres h h':=fun hb=>by
       obtain⟨xs,_,hb⟩:=A2 hb;obtain⟨_,hb⟩:=A8 hb;exact Ju hb
      cases C:B.desc with
      |int k=>
       rw[C]at hb;obtain⟨n,_,hb⟩:=A2 hb;obtain⟨_,hb⟩:=A8 hb;exact Ju hb
      |_=>rw[C]at hb;exact A hb
 |len=>
  have hb:Xe E ts args h=zs (r,h'):=hb;unfold Xe at hb;cases ts with
  |nil=>cases hb
  |cons t ts=>
   cases args with
   |nil=>cases hb
   |cons x l=>
    obtain⟨ti,_,hb⟩:=F2 hb;obtain⟨n,_,hb⟩:=A2 hb;rw[C0]at hb;cases hb;exact .refl _
 |max=>
  cases args with
  |nil=>cases hb
  |cons x l=>
   obtain⟨y,_,hb⟩:=zqn.1 (show(Mp l x).map (·,h)=zs (r,h')from hb);cases hb;exact .refl _
 |min=>
  cases args with
  |nil=>cases hb
  |cons x l=>
   obtain⟨y,_,hb⟩:=zqn.1 (show(Qi l x).map (·,h)=zs (r,h')from hb);cases hb;exact .refl _
 |_=>cases hb
theorem evOp_pres(H:O3 call){op:Op}{fr:Tr}{v:AV}{h':Heap}(A:evOp E call op fr h=.ok v h'):Pres h h':=by
 by_cases h0:Gz op=0
 . rw[(Mz h0 A h).1];exact .refl _
 cases op with
 |alloc t=>exact m2 A fun ti B=>by cases B;exact .push _ _
 |box t x=>
  refine m2 A fun ti B=>?_
  cases hb:(Nat.beq (lenL (opv E x fr).cells) ti.size&&D7 (opv E x fr).cells)with
  |true=>rw[hb]at B;cases B;exact .push _ _
  |false=>rw[hb]at B;cases B
 |buildSlice t n ps=>
  refine m2 A fun ti B=>?_
  cases D:elemOfT E ti.desc with
  |none=>rw[D]at B;cases B
  |some te=>
   rw[D]at B;dsimp only at B;cases hg:(Nat.ble (Nat.mul n te.size) 65536&&Nat.blt 0 te.size)with
   |false=>rw[hg]at B;cases B
   |true=>
    rw[hg]at B;simp only[cond_true]at B;cases I:placeL te.size (opvps E ps.toList fr) (repL n te.zero)with
    |none=>rw[I]at B;cases B
    |some es=>rw[I]at B;cases B;exact .push _ _
 |load t x=>exact m2 A fun ti B=>Zc B
 |typeAssert x xt t ok=>
  refine m2 A fun ti B=>?_
  cases hb:(X7 ti.desc && !ok)with
  |true=>rw[hb]at B;exact Zc B
  |false=>rw[hb]at B;cases B
 |lookup t m k ok=>cases A
 |store t x y=>
  refine m2 A fun ti B=>?_
  cases C:Ct ti (opv E x fr) (opv E y fr) h with
  |none=>rw[C]at B;cases B
  |some h2=>
   rw[C]at B;cases B;cases I:opv E x fr with
   |ptr id i off=>
    rw[I]at C;obtain⟨es,sz,_,C⟩:=Heap.onRow_some C;obtain⟨old,_,C⟩:=A2 C;obtain⟨_,C⟩:=A8 C;cases C;exact .set _ _ _
   |_=>rw[I]at C;cases C
 |makeMap t r=>
  cases r with
  |none=>cases A;exact .push _ _
  |some r=>cases A
 |makeSlice t l c=>
  refine m2 A fun ti B=>?_
  cases D:elemOfT E ti.desc with
  |none=>rw[D]at B;cases B
  |some te=>
   rw[D]at B;dsimp only at B;cases hl:asNat (opv E l fr)with
   |none=>rw[hl]at B;cases B
   |some n=>
    rw[hl]at B;dsimp only at B;cases J:asNat (opv E c fr)with
    |none=>rw[J]at B;cases B
    |some m=>
     rw[J]at B;dsimp only at B;cases hg:(Nat.ble n m&&Nat.ble (Nat.mul m te.bytes) 140737488355328&&Nat.blt 0 te.size)with
     |false=>rw[hg]at B;cases B
     |true=>rw[hg]at B;cases B;exact .push _ _
 |mapUpdate t m k x=>cases A
 |insert t m k x=>cases A
 |call c=>
  obtain⟨G,args,argTypes⟩:=c;cases G with
  |value f=>
   have A:i6 call (opv E f fr) (opvs E args.toList fr) h=.ok v h':=A;cases C:opv E f fr with
   |fn g first caps=>
    rw[C]at A;cases g with
    |func n=>exact H _ _ _ _ (by show Res.heap (i6 call (.fn (.func n) first caps) (opvs E args.toList fr) h)=_;rw[A];rfl)
    |_=>cases A
   |_=>rw[C]at A;cases A
  |invoke f n=>cases A
  |builtin b=>
   have A:lift2 (F5 E b argTypes.toList (opvs E args.toList fr) h)=.ok v h':=A;cases C:F5 E b argTypes.toList (opvs E args.toList fr) h with
   |none=>rw[C]at A;cases A
   |some p=>rw[C]at A;cases A;exact builtinA_pres C
 |panic x=>
  exfalso
  have A:qG (opv E x fr) h=.ok v h':=A;cases C:opv E x fr<;>rw[C]at A<;>cases A
 |_=>first|exact absurd rfl h0|cases A
theorem evOp_pres_pan(B:O3 call){op:Op}{fr:Tr}{v:AV}{h':Heap}(A:evOp E call op fr h=.pan v h'):Pres h h':=by
 by_cases D:∃x,op=.panic x
 . obtain⟨x,rfl⟩:=D
   have A:qG (opv E x fr) h=.pan v h':=A;cases C:opv E x fr with
   |iface t w=>rw[C]at A;cases A;exact .refl h
   |_=>rw[C]at A;cases A
 . by_cases hc:∃c f,op=.call c/\c.callee=.value f
   . obtain ⟨c,f,rfl,hf⟩:=hc
     obtain⟨callee,args,argTypes⟩:=c;dsimp only at hf;subst hf;have A:i6 call (opv E f fr) (opvs E args.toList fr) h=.pan v h':=A;cases C:opv E f fr with
     |fn g first caps=>
      rw[C]at A;cases g with
      |func n=>exact B _ _ _ _ (by show Res.heap (i6 call (.fn (.func n) first caps) (opvs E args.toList fr) h)=_;rw[A];rfl)
      |_=>cases A
     |_=>rw[C]at A;cases A
   . exact absurd A (Tc (fun x e=>D ⟨x,e⟩) (fun c f e e2=>hc ⟨c,f,e,e2⟩) v h')
end
end Go.AM
/-
 The abstract machine: a region that draws its order: the plan,and the run in the order of reference.
-/
namespace Go.AM
structure Plan(ops:Array Oper)(ms l:List Nat):Prop where
 len:l.length=ops.size
 lt:∀(m i:Nat),l[m]?=zs i->i<ops.size
 all:∀(i:Nat),i<ops.size->∃m:Nat,l[m]?=zs i
 inj:∀(m m' i:Nat),l[m]?=zs i->l[m']?=zs i->m=m'
 pair:∀(m m' i j:Nat),m<m'->l[m]?=zs i->l[m']?=zs j->bH ops.toList ms i j=zt/\bit (ms.getD i 0) j=zf
 mask:∀(i j:Nat),i<ops.size->j<ops.size->bit (ms.getD j 0) i=zt->∃o,ops[j]?=zs o/\∃e∈directs o,e=i\/bit (ms.getD e 0) i=zt
 news:∀(m i:Nat)(o:Oper),l[m]?=zs i->ops[i]?=zs o->Gz o.op=2->∀(m' j:Nat),m<m'->l[m']?=zs j->bit (ms.getD j 0) i=zt->∀(m'' k:Nat),m''<m->l[m'']?=zs k->bit (ms.getD j 0) k=zt
 edge:∀(j:Nat)(o:Oper)(e:Nat),ops[j]?=zs o->e∈directs o->e<ops.size/\bit (ms.getD j 0) e=zt/\e≠j
 dst:∀(m m' i j:Nat)(x y:Oper)(d:Tmp),m<m'->l[m]?=zs i->l[m']?=zs j->ops[i]?=zs x->ops[j]?=zs y->x.dst=zs d->y.dst≠zs d
theorem Te:∀(l:List Nat),bJ l=zt->∀(m m':Nat) i,l[m]?=zs i->l[m']?=zs i->m=m'
 |[],_,m,m',i,h,_=>by simp at h
 |a :: r,hn,m,m',i,h,h'=>by
  unfold bJ at hn;rw[zqa]at hn;have hc:a∉r:=by
   grind
  cases m with
  |zero=>
   grind
  |succ m=>
   cases m' with
   |zero=>
    grind
   |succ m'=>
    simp at h h';rw[Te r hn.2 m m' i h h']
theorem pairsOk_get{ops:List Oper}{ms:List Nat}:∀(l:List Nat),Rn ops ms l=zt->∀(m m':Nat) i j,m<m'->l[m]?=zs i->l[m']?=zs j->bH ops ms i j=zt/\bit (ms.getD i 0) j=zf
 |[],_,m,m',i,j,_,h,_=>by simp at h
 |a :: r,hn,m,m',i,j,hlt,h,h'=>by
  unfold Rn at hn;rw[zqa]at hn;cases m' with
  |zero=>omega
  |succ m'=>
   simp at h';cases m with
   |zero=>
    grind
   |succ m=>
    simp at h;exact pairsOk_get r hn.2 m m' i j (by omega) h h'
theorem Tf{ops:List Oper}:∀(l:List Nat),bK ops l=zt->∀(m m':Nat) i j x y d,m<m'->l[m]?=zs i->l[m']?=zs j->ops[i]?=zs x->ops[j]?=zs y->x.dst=zs d->y.dst≠zs d
 |[],_,m,m',i,j,x,y,d,_,h,_,_,_,_=>by simp at h
 |a :: r,hn,m,m',i,j,x,y,d,hlt,h,h',hx,hy,hd=>by
  unfold bK at hn;rw[zqa]at hn;cases m' with
  |zero=>omega
  |succ m'=>
   simp at h';cases m with
   |zero=>
    simp at h;subst h
    have:=(zqe.1 hn.1) j (zqh h')
    grind
   |succ m=>
    simp at h;exact Tf r hn.2 m m' i j x y d (by omega) h h' hx hy hd
theorem Tg{ops:List Oper}{ms:List Nat}:∀(l A:List Nat),bI ops ms A l=zt->∀(m:Nat) i o,l[m]?=zs i->ops[i]?=zs o->Gz o.op=2->∀m' j,m<m'->l[m']?=zs j->bit (ms.getD j 0) i=zt ->
 (∀k∈A,bit (ms.getD j 0) k=zt)/\∀m'' k,m''<m->l[m'']?=zs k->bit (ms.getD j 0) k=zt
 |[],_,_,m,i,o,h,_,_,_,_,_,_,_=>by simp at h
 |a :: r,A,hn,m,i,o,h,ho,hc,m',j,hlt,h',hb=>by
  unfold bI at hn;rw[zqa]at hn;cases m' with
  |zero=>omega
  |succ m'=>
   simp at h';cases m with
   |zero=>
    simp at h;subst h;have h1:=hn.1;have B:clsAt ops a=2:=by grind[clsAt]
    rw[B]at h1;have h2:(r.all fun j=>!(bit (ms.getD j 0) a)||A.all fun i=>bit (ms.getD j 0) i)=zt:=by simpa using h1
    grind
   |succ m=>
    simp at h;obtain⟨h4,h5⟩:=Tg r (a::A) hn.2 m i o h ho hc m' j (by omega) h' hb;grind
theorem yT{ops:Array Oper}{ms l:List Nat}(h:Mu ops.toList ms l=zt):Plan ops ms l:=by
 unfold Mu at h;simp only[zqa]at h;obtain⟨⟨⟨⟨⟨⟨h1,h2⟩,N⟩,X⟩,h5⟩,Q⟩,h7⟩:=h;unfold tM at h1;simp only[zqa]at h1;obtain⟨⟨⟨a1,Y⟩,a3⟩,a4⟩:=h1;have D:l.length=ops.size:=by simp_all
 have I:∀(m i:Nat),l[m]?=zs i->i<ops.size:=fun m i B=>by
  have:=N3 ((zqe.1 a3) i (zqh B));simpa using this
 refine⟨D,I,fun i hi=>?_,fun m m' i=>Te l a4 m m' i,(by grind[Go.AM.pairsOk_get]),fun i j hi G hb=>?_,fun m i o B ho hc m' j A C hb m'' k U H=>?_,fun j o e ho V=>?_,fun m m' i j x y d A B C hx hy hd=>?_⟩
 . have:=(zqe.1 Y) i (by unfold Qk;simp;exact hi)
   have B:i∈l:=by simpa using this
   exact zqi B
 . unfold nA at N
   have h8:=(zqe.1 N) j (by unfold Qk;simp;exact G);have J:=(zqe.1 h8) i (by unfold Qk;simp;exact hi);simp_all
 . exact(Tg l [] X m i o B (by rw[zqc];exact ho) hc m' j A C hb).2 m'' k U H
 . have G:j<ops.size:=by
    grind
   unfold nB at Q;have h8:=(zqe.1 Q) j (by unfold Qk;simp;exact G);rw[zqc,ho]at h8;have J:=(zqe.1 h8) e V;simp only[zqa,zqb]at J;obtain⟨⟨b1,b2⟩,b3⟩:=J;refine⟨by simp_all,b2,fun e'=>?_⟩;simp_all
 grind[Tf]
theorem Plan.apart{ops:Array Oper}{ms l:List Nat}(G:Plan ops ms l){m m' i j:Nat}{x y:Oper}(A:m<m')(B:l[m]?=zs i)(C:l[m']?=zs j)(H:ops[i]?=zs x)(D:ops[j]?=zs y)(hb:bit (ms.getD j 0) i=zf):
 Gz y.op≠3/\(∀d,x.dst=zs d->d∉AM.looksAt ops.toList y)/\(∀d,y.dst=zs d->d∉AM.looksAt ops.toList x):=by
 have h:=(G.pair m m' i j A B C).1;unfold bH at h;rw[hb]at h;simp only[Bool.false_or,zqa,zqb]at h;obtain⟨h1,h2⟩:=h;unfold clsAt at h1;rw[zqc,D]at h1;unfold apartAt at h2;rw[zqc,H]at h2;dsimp only at h2;rw[zqc,D]at h2;dsimp only at h1 h2;unfold tK at h2;rw[zqa]at h2;refine⟨fun e=>(by simp_all),fun d I B=>?_,fun d I B=>?_⟩
 . grind
 grind
section
variable (E:Env)(call:D5)
abbrev HD:=Heap×List Nat
def BU(r:DRes):Option (AV×HD):=match r with | .ok v h d=>zs (v,h,d)|_=>zn
noncomputable def stp(x:XOp)(fr:Tr)(h:HD):Option (AV×HD):=
 match guardOk x.gd fr with
 |none=>zn
 |some b=>match b with|false=>zs (skipped,h)|true=>BU (evOpD E call x fr h.1 h.2)
noncomputable def JP(x:XOp)(s:Tr×HD):Option (Tr×HD):=A6 (stp E call x s.1 s.2) fun r=>zs (setDst x.dst r.1 s.1,r.2)
noncomputable def St(xs:List XOp)(s₀:Tr×HD):Nat->Option (Tr×HD)
 |0=>zs s₀
 |m+1=>A6 (St xs s₀ m) fun s=>A6 xs[m]? fun x=>JP E call x s
end
section
variable {E:Env}{call:D5}{xs:List XOp}{s₀:Tr×HD}
theorem bS{m:Nat}{s:Tr×HD}(h:St E call xs s₀ (m+1)=zs s):∃A x r,St E call xs s₀ m=zs A/\xs[m]?=zs x/\stp E call x A.1 A.2=zs r/\s=(setDst x.dst r.1 A.1,r.2):=by
 obtain⟨A,h1,h⟩:=A2 h;obtain⟨x,h2,h⟩:=A2 h;obtain⟨r,h3,h⟩:=A2 h;grind
theorem Zd{m:Nat}{A:Tr×HD}{x:XOp}{r:AV×HD}(h1:St E call xs s₀ m=zs A)(h2:xs[m]?=zs x)(B:stp E call x A.1 A.2=zs r):St E call xs s₀ (m+1)=zs (setDst x.dst r.1 A.1,r.2):=by
 show A6 (St E call xs s₀ m) _=_
 rw[h1];show A6 xs[m]? _=_
 rw[h2];show A6 (stp E call x A.1 A.2) _=_
 rw[B];rfl
theorem BV{m:Nat}{s:Tr×HD}(h:St E call xs s₀ m=zs s):∀{k:Nat},k<=m->∃A,St E call xs s₀ k=zs A:=by
 induction m generalizing s with
 |zero=>grind
 |succ m ih=>
  intro k hk;rcases Nat.lt_or_ge k (m+1)with h'|h'
  . grind[bS]
  grind
theorem run_cases:∀(n k:Nat),xs.length-k=n->k<=xs.length->∀(fr:Tr)(h:HD),St E call xs s₀ k=zs (fr,h)->evOpsD E call (xs.drop k) fr h.1 h.2≠.bad ->
 (∃ fr' h',St E call xs s₀ xs.length=zs (fr',h')/\evOpsD E call (xs.drop k) fr h.1 h.2=.ok .normal fr' h'.1)\/
   ∃m x fr' h' v hh,k<=m/\St E call xs s₀ m=zs (fr',h')/\xs[m]?=zs x/\guardOk x.gd fr'=zs zt/\evOpD E call x fr' h'.1 h'.2=.pan v hh/\j1 E call (xs.drop (m+1)) x.late (setDst x.dst skipped fr') h'.1 h'.2=zt/\evOpsD E call (xs.drop k) fr h.1 h.2=.pan v hh
 |0,k,hn,hk,fr,h,hs,hb=>by
  have:k=xs.length:=by omega
  subst this;exact .inl ⟨fr,h,hs,by rw[List.drop_length];rfl⟩
 |n + 1,k,hn,hk,fr,h,hs,hb=>by
  have C:k<xs.length:=by omega
  have V:xs.drop k=xs[k]::xs.drop (k+1):=List.drop_eq_getElem_cons C;have G:xs[k]?=zs xs[k]:=zqj C;rw[V]at hb|-;have e:evOpsD E call (xs[k]::xs.drop (k+1)) fr h.1 h.2=N9 (guardOk xs[k].gd fr) .bad (Q2 xs[k].dst (evOpsD E call (xs.drop (k+1))) (j1 E call (xs.drop (k+1)) xs[k].late (setDst xs[k].dst skipped fr) h.1 h.2) fr (evOpD E call xs[k] fr h.1 h.2)) (evOpsD E call (xs.drop (k+1)) (setDst xs[k].dst skipped fr) h.1 h.2):=rfl;rw[e]at hb|-;cases hg:guardOk xs[k].gd fr with
  |none=>rw[hg]at hb;exact absurd rfl hb
  |some b=>
   rw[hg]at hb;cases b with
   |false=>
    have A:stp E call xs[k] fr h=zs (skipped,h):=by unfold stp;rw[hg]
    have D:=Zd hs G A;have hb:evOpsD E call (xs.drop (k+1)) (setDst xs[k].dst skipped fr) h.1 h.2≠.bad:=hb;rcases run_cases n (k+1) (by omega) C _ _ D hb with⟨fr',h',h1,h2⟩|⟨m,x,fr',h',v,hh,h1,h2,H,I,J,N,Q⟩
    . exact .inl ⟨fr',h',h1,h2⟩
    . exact .inr ⟨m,x,fr',h',v,hh,by omega,h2,H,I,J,N,Q⟩
   |true=>
    have hb:Q2 xs[k].dst (evOpsD E call (xs.drop (k+1))) (j1 E call (xs.drop (k+1)) xs[k].late (setDst xs[k].dst skipped fr) h.1 h.2) fr (evOpD E call xs[k] fr h.1 h.2)≠.bad:=hb;show(∃fr' h',_/\Q2 xs[k].dst (evOpsD E call (xs.drop (k+1))) (j1 E call (xs.drop (k+1)) xs[k].late (setDst xs[k].dst skipped fr) h.1 h.2) fr (evOpD E call xs[k] fr h.1 h.2)=_)\/∃m x fr' h' v hh,k<=m/\_/\_/\_/\_/\_/\Q2 xs[k].dst (evOpsD E call (xs.drop (k+1))) (j1 E call (xs.drop (k+1)) xs[k].late (setDst xs[k].dst skipped fr) h.1 h.2) fr (evOpD E call xs[k] fr h.1 h.2)=_
    cases B:evOpD E call xs[k] fr h.1 h.2 with
    |bad=>rw[B]at hb;exact absurd rfl hb
    |pan v hh=>
     rw[B]at hb;cases U:j1 E call (xs.drop (k+1)) xs[k].late (setDst xs[k].dst skipped fr) h.1 h.2 with
     |false=>rw[U]at hb;exact absurd rfl hb
     |true=>exact .inr ⟨k,xs[k],fr,h,v,hh,zql _,hs,G,hg,B,U,rfl⟩
    |ok v h1 d1=>
     rw[B]at hb;have A:stp E call xs[k] fr h=zs (v,h1,d1):=by unfold stp;rw[hg];dsimp only;rw[B];rfl
     have D:=Zd hs G A;have hb:evOpsD E call (xs.drop (k+1)) (setDst xs[k].dst v fr) h1 d1≠.bad:=hb;rcases run_cases n (k+1) (by omega) C _ _ D hb with⟨fr',h',h1,h2⟩|⟨m,x,fr',h',v,hh,h1,h2,H,I,J,N,Q⟩
     . exact .inl ⟨fr',h',h1,h2⟩
     . exact .inr ⟨m,x,fr',h',v,hh,by omega,h2,H,I,J,N,Q⟩
end
theorem Ze{ops:List Oper}{ms A:List Nat}{a:Nat}{r:List Nat}{B:Oper}(hoa:ops[a]?=zs B):
 Ar ops ms A (a::r)=eF ops (o5 ops ms a r) (Mv ops ms a r) (m0 ops ms a A) B::Ar ops ms (a::A) r:=by
 grind[Ar]
theorem fJ{ops:List Oper}{ms:List Nat}:∀(l A:List Nat),(∀i∈l,∃o,ops[i]?=zs o)->∀(m i:Nat) o,l[m]?=zs i->ops[i]?=zs o ->
 (Ar ops ms A l)[m]?=zs (eF ops (o5 ops ms i (l.drop (m+1))) (Mv ops ms i (l.drop (m+1))) (m0 ops ms i ((l.take m).reverse++A)) o)
 |[],_,_,m,i,o,h,_=>by simp at h
 |a::r,A,hl,m,i,o,h,ho=>by
  obtain⟨oa,B⟩:=hl a (zqf ..);rw[Ze B];cases m with
  |zero=>grind
  |succ m=>
   simp at h
   have:=fJ (ms:=ms) r (a::A) (by grind) m i o h ho
   grind
theorem Pc{ops:List Oper}{ms:List Nat}:∀(l A:List Nat),(∀i∈l,∃o,ops[i]?=zs o)->(Ar ops ms A l).length=l.length
 |[],_,_=>rfl
 |a::r,A,hl=>by
  obtain⟨oa,B⟩:=hl a (zqf ..);rw[Ze B,zqk,zqk,Pc r (a::A) (by grind)]
structure PlanX(ops:Array Oper)(ms l:List Nat)(sk:Nat->Prop)(xs:List XOp):Prop extends Plan ops ms l where
 xlen:xs.length=l.length
 xat:∀(m i:Nat)(o:Oper),l[m]?=zs i->ops[i]?=zs o->∃x,xs[m]?=zs x/\x.dst=o.dst/\x.op=o.op/\x.quiet=o5 ops.toList ms i (l.drop (m+1))/\x.careful=m0 ops.toList ms i ((l.take m).reverse++[])/\(¬sk m->x.gd=G5 ops.toList o)
theorem Plan.have{ops:Array Oper}{ms l:List Nat}(A:Plan ops ms l):∀i∈l,∃o,ops.toList[i]?=zs o:=by
 intro i hi;obtain⟨m,B⟩:=zqi hi
 have:=A.lt m i B
 simp_all
theorem Plan.xget{ops:Array Oper}{ms l:List Nat}(A:Plan ops ms l){m i:Nat}{o:Oper}(B:l[m]?=zs i)(ho:ops[i]?=zs o):
 (Ar ops.toList ms [] l)[m]?=zs (eF ops.toList (o5 ops.toList ms i (l.drop (m+1))) (Mv ops.toList ms i (l.drop (m+1))) (m0 ops.toList ms i ((l.take m).reverse++[])) o):=
 fJ l [] A.have m i o B (by grind)
def fK(x:XOp):XOp:={x with gd:=zs (zn,zt)}
def bT:List XOp->List Bool->List XOp
 |[],_=>[]
 |x::xs,[]=>x::xs
 |x::xs,b::bs=>(match b with|true=>fK x|false=>x)::bT xs bs
theorem fL:∀(xs:List XOp)(bs:List Bool),(bT xs bs).length=xs.length
 |[],bs=>by cases bs<;>rfl
 |x::xs,[]=>rfl
 |x::xs,b::bs=>by show(bT xs bs).length+1=_;rw[fL xs bs];rfl
theorem fM:∀(xs:List XOp)(bs:List Bool)(m:Nat)(x:XOp),xs[m]?=zs x->(bT xs bs)[m]?=zs (if bs[m]?=zs zt then fK x else x)
 |[],bs,m,x,h=>by simp at h
 |y::xs,[],m,x,h=>by grind[bT]
 |y::xs,b::bs,0,x,h=>by
  simp at h;subst h;cases b<;>rfl
 |y::xs,b::bs,m+1,x,h=>by
  have:=fM xs bs m x (by grind)
  simp_all[bT]
section
variable {E:Env}{call:D5}
theorem qM(x:XOp)(fr:Tr)(h:HD):stp E call (fK x) fr h=zs (skipped,h):=rfl
theorem fN{xs ys:List XOp}{s₀:Tr×HD}:∀(m:Nat),(∀q,q<m->ys[q]?=xs[q]?)->St E call ys s₀ m=St E call xs s₀ m
 |0,_=>rfl
 |m+1,h=>by
  show A6 (St E call ys s₀ m) _=A6 (St E call xs s₀ m) _
  rw[fN m fun q hq=>h q (by omega),h m (by omega)]
theorem tZ{ys:List XOp}{s₀:Tr×HD}:∀(xs:List XOp)(late:List Bool)(k:Nat)(fr:Tr)(h:HD),j1 E call xs late fr h.1 h.2=zt->(∀(q:Nat)(x:XOp),xs[q]?=zs x->ys[k+q]?=zs (if late[q]?=zs zt then fK x else x)) ->
 St E call ys s₀ k=zs (fr,h)->∃s,St E call ys s₀ (k+xs.length)=zs s:=fun _ _ _ _ _ A _ _=>by cases A
end
end Go.AM
/-
 The abstract machine: a region that draws its order: what holds between its operations.
-/
namespace Go.AM
structure Keeps(h h':Heap):Prop where
 next:h.next<=h'.next
 get:∀i,i<h.next->h'.get i=h.get i
theorem Keeps.refl(h:Heap):Keeps h h:=⟨zql _,fun _ _=>rfl⟩
theorem Keeps.trans{h A B:Heap}(a:Keeps h A)(b:Keeps A B):Keeps h B:=⟨zqm a.next b.next,fun i hi=>(b.get i (Nat.lt_of_lt_of_le hi a.next)).trans (a.get i hi)⟩
theorem Keeps.push(h:Heap)(x:AObj):Keeps h (h.push x):=⟨Nat.le_succ _,(by grind[Go.AM.Heap.get_push_ne])⟩
section
variable {E:Env}{call:D5}{h:Heap}
theorem qN{op:Op}(hc:Gz op=1){fr:Tr}{v:AV}{h':Heap}(A:evOp E call op fr h=.ok v h'):h'=h:=by
 cases op with
 |load t x=>obtain⟨ti,_,C⟩:=F0 A;exact(I2 C).2
 |lookup t m k ok=>cases A
 |call c=>
  obtain⟨B,args,argTypes⟩:=c;cases B with
  |builtin b=>
   have A:lift2 (F5 E b argTypes.toList (opvs E args.toList fr) h)=.ok v h':=A;cases C:F5 E b argTypes.toList (opvs E args.toList fr) h with
   |none=>rw[C]at A;cases A
   |some p=>
    rw[C]at A;cases A;obtain⟨p1,p2⟩:=p;cases b with
    |len=>
     have hb:Xe E argTypes.toList (opvs E args.toList fr) h=zs (p1,p2):=C;unfold Xe at hb;generalize argTypes.toList=D at hb;generalize opvs E args.toList fr=vs at hb;cases D with
     |nil=>cases hb
     |cons t ts=>
      cases vs with
      |nil=>cases hb
      |cons x l=>
       obtain⟨ti,_,hb⟩:=F2 hb;obtain⟨n,_,hb⟩:=A2 hb;rw[C0]at hb;cases hb;rfl
    |max=>
     have hb:qD (opvs E args.toList fr) h=zs (p1,p2):=C;unfold qD at hb;generalize opvs E args.toList fr=vs at hb;cases vs with
     |nil=>cases hb
     |cons x l=>
      obtain⟨y,_,hb⟩:=zqn.1 hb;cases hb;rfl
    |min=>
     have hb:qE (opvs E args.toList fr) h=zs (p1,p2):=C;unfold qE at hb;generalize opvs E args.toList fr=vs at hb;cases vs with
     |nil=>cases hb
     |cons x l=>
      obtain⟨y,_,hb⟩:=zqn.1 hb;cases hb;rfl
    |_=>cases hc
  |_=>cases hc
 |_=>cases hc
theorem qO{op:Op}(hc:Gz op=2){fr:Tr}{v:AV}{h':Heap}(A:evOp E call op fr h=.ok v h'):∃x,h'=h.push x:=by
 cases op with
 |alloc t=>obtain⟨ti,_,C⟩:=F0 A;cases C;grind
 |box t x=>
  obtain⟨ti,_,C⟩:=F0 A;cases hb:(Nat.beq (lenL (opv E x fr).cells) ti.size&&D7 (opv E x fr).cells)with
  |true=>rw[hb]at C;cases C;grind
  |false=>grind
 |buildSlice t n ps=>
  obtain⟨ti,_,C⟩:=F0 A;grind
 |makeSlice t l c=>
  obtain⟨ti,_,C⟩:=F0 A;grind
 |call c=>
  exfalso
  obtain⟨B,args,argTypes⟩:=c;cases B with
  |builtin b=>cases b<;>cases hc
  |_=>cases hc
 |_=>cases hc
theorem cls_cases(op:Op):Gz op=0\/Gz op=1\/Gz op=2\/Gz op=3:=by
 cases op with
 |call c=>
  grind[Gz]
 |_=>simp[Gz]
theorem Th{op:Op}(hc:Gz op≠3){fr:Tr}{v:AV}{h':Heap}(A:evOp E call op fr h=.ok v h'):Keeps h h':=by
 rcases cls_cases op with h0|h0|h0|h0
 . rw[(Mz h0 A h).1];exact .refl _
 . rw[qN h0 A];exact .refl _
 . obtain⟨x,rfl⟩:=qO h0 A;exact .push _ _
 grind
theorem Ig{r:DRes}{p:AV×HD}(h:BU r=zs p):r=.ok p.1 p.2.1 p.2.2:=by
 cases r with
 |ok v h' d=>cases h;rfl
 |_=>cases h
theorem Ti{i:Nat}{b:List Nat}:∀{a:List Nat},i∈Bm a b↔i∈a\/i∈b
 |[]=>by show i∈b↔_;simp
 |x::a=>by
  show i∈x::Bm a b↔_
  rw[zqg,Ti (a:=a),zqg,or_assoc]
theorem m4{i n:Nat}:∀{l:List Nat},i∈I9 n l↔i∈l/\i<n
 |[]=>by show i∈([]:List Nat)↔_;simp
 |x::l=>by
  show i∈(bif Nat.blt x n then x::I9 n l else I9 n l)↔_
  cases hb:Nat.blt x n with
  |true=>
   have:=N3 hb
   simp only[cond_true,zqg,m4 (l:=l)];grind
  |false=>
   have hx:¬x<n:=(by grind[Nat.blt,Nat.ble_eq_true_of_le])
   simp only[cond_false,zqg,m4 (l:=l)];grind
theorem Zf{i:Nat}:∀{l:List Nat},sK i l=zf->i∉l
 |[],_=>by simp
 |x::l,h=>by
  have h:(bif Nat.beq x i then zt else sK i l)=zf:=h;cases hb:Nat.beq x i with
  |true=>grind
  |false=>
   rw[hb]at h;have hne:x≠i:=fun e=>by simp_all
   intro A;rcases zqg.1 A with h1|h1
   . grind
   . exact Zf (l:=l) h h1
theorem Jv{x:XOp}{fr:Tr}{v:AV}{h':Heap}{d C:List Nat}(A:evOpD E call x fr h d=.ok v h' C):
 ∃ t B t',evOp E call x.op fr {h with tch:=t}=.ok v B/\h'={B with tch:=t'}/\
   (x.quiet=zt->t=[]/\t'=Bm (I9 h.next B.tch) h.tch/\C=Bm (I9 h.next B.tch) d)/\
   (x.quiet=zf->t=h.tch/\t'=B.tch/\C=d/\(x.careful=zt->readOk (readO E x.op fr) d=zt)):=by
 unfold evOpD at A;cases I:x.quiet with
 |false=>
  rw [I]at A;simp only[cond_false]at A;have D:u9 d (evOp E call x.op fr h)=.ok v h' C->evOp E call x.op fr h=.ok v h'/\C=d:=fun A=>by
   cases G:evOp E call x.op fr h with
   |ok J h1=>rw[G]at A;cases A;grind
   |_=>rw[G]at A;cases A
  cases hc:x.careful with
  |false=>
   rw[hc]at A;obtain⟨h1,h2⟩:=D A;exact⟨h.tch,h',h'.tch,h1,rfl,fun e=>(by cases e),(by grind)⟩
  |true=>
   rw[hc]at A;simp only[cond_true]at A;cases H:readOk (readO E x.op fr) d with
   |false=>grind
   |true=>
    rw[H]at A;obtain⟨h1,h2⟩:=D A;exact⟨h.tch,h',h'.tch,h1,rfl,fun e=>(by cases e),(by grind)⟩
 |true=>
  rw[I]at A;have A:y7 h.next h.tch d (evOp E call x.op fr {h with tch:=[]})=.ok v h' C:=A;cases G:evOp E call x.op fr {h with tch:=[]}with
  |ok J h1=>
   rw[G]at A;cases A;grind
  |_=>rw[G]at A;cases A
theorem fO{x:XOp}(hc:Gz x.op≠3){fr:Tr}{v:AV}{h':Heap}{d C:List Nat}(A:evOpD E call x fr h d=.ok v h' C):Keeps h h':=by
 obtain⟨t,h₁,t',h1,rfl,_⟩:=Jv A;have B:=Th hc h1;exact⟨B.next,fun i hi=>B.get i hi⟩
theorem kI(A:O3 call){x:XOp}(I:Gz x.op=3->x.quiet=zt){fr:Tr}{v:AV}{h':Heap}{d B:List Nat}(C:evOpD E call x fr h d=.ok v h' B):
 h.next<=h'.next/\(∀i,i∈d->i∈B)/\∀i,i<h.next->i∉B->h'.get i=h.get i:=by
 obtain ⟨t,h₁,t',h1,rfl,h2,h3⟩:=Jv C;have G:∀i,i∈d->i∈B:=fun i hi=>by
  cases hq:x.quiet with
  |true=>grind[Ti]
  |false=>grind
 by_cases hc:Gz x.op=3
 . obtain⟨rfl,_,h4⟩:=h2 (I hc)
   obtain⟨hn,new,e,hg⟩:=evOp_pres A h1;refine⟨hn,G,fun i hi D=>hg i hi fun hm=>D ?_⟩;grind[Ti,m4]
 . have H:=Th hc h1
   exact⟨H.next,G,fun i hi _=>H.get i hi⟩
theorem fP{fr fr':Tr}(op:Op)(hy:∀y∈op.operands.toList,opv E y fr=opv E y fr'):readO E op fr=readO E op fr':=by
 cases op with
 |load t x=>show r7 (opv E x fr)=r7 (opv E x fr');grind[Op.operands]
 |lookup t m k ok=>show r7 (opv E m fr)=r7 (opv E m fr');grind[Op.operands]
 |call c=>
  obtain⟨callee,args,argTypes⟩:=c;show(match args.toList with|[]=>zn|x::_=>r7 (opv E x fr))=(match args.toList with|[]=>zn|x::_=>r7 (opv E x fr'))
  grind[Op.operands,Call.operands]
 |_=>rfl
end
section
variable {E:Env}{call:D5}{ops:Array Oper}{ms l:List Nat}{sk:Nat->Prop}{xs:List XOp}{s₀:Tr×HD}
theorem Plan.at(A:Plan ops ms l){m:Nat}(B:m<l.length):∃i o,l[m]?=zs i/\ops[i]?=zs o:=by
 have h1:l[m]?=zs l[m]:=zqj B
 have:=A.lt m _ h1
 simp_all
theorem Rp(B:PlanX ops ms l sk xs){m:Nat}{s:Tr×HD}(h:St E call xs s₀ (m+1)=zs s):
 ∃i o A x r,l[m]?=zs i/\ops[i]?=zs o/\St E call xs s₀ m=zs A/\xs[m]?=zs x/\(x.op=o.op/\x.quiet=o5 ops.toList ms i (l.drop (m+1)))/\stp E call x A.1 A.2=zs r/\s=(setDst o.dst r.1 A.1,r.2):=by
 obtain ⟨A,x,r,h1,h2,h3,h4⟩:=bS h;have C:m<l.length:=by
  rw[<-B.xlen];grind
 obtain⟨i,o,D,G⟩:=B.at C;obtain⟨x',h7,h8,h9,h10,_⟩:=B.xat m i o D G;grind
theorem U4(d:Option Tmp)(v:AV)(fr:Tr)(t:Nat):(setDst d v fr).has t=fr.has t:=by
 cases d with
 |none=>rfl
 |some d=>exact Tr.has_set _ _ _ _
theorem d8{d:Option Tmp}{v:AV}{fr:Tr}{t:Nat}(h:d≠zs t):(setDst d v fr).get t=fr.get t:=by
 cases d with
 |none=>rfl
 |some d=>exact Tr.get_set_ne _ _ _ _ (fun e=>h (by rw[e]))
theorem m5{v:AV}{fr:Tr}{t:Nat}:(setDst (zs t) v fr).get t=if fr.has t then v else .und:=Tr.get_set_eq _ _ _
theorem St_has(B:PlanX ops ms l sk xs){k:Nat}{s:Tr×HD}(C:St E call xs s₀ k=zs s):∀(n:Nat)(A:Tr×HD),St E call xs s₀ (k+n)=zs A->∀t,A.1.has t=s.1.has t
 |0,A,h,t=>by grind
 |n+1,A,h,t=>by
  obtain⟨i,o,D,x,r,_,_,G,_,_,_,rfl⟩:=Rp B h;show(setDst _ _ _).has t=_
  rw[U4];exact St_has B C n D G t
theorem kJ(B:PlanX ops ms l sk xs){k:Nat}{s:Tr×HD}(C:St E call xs s₀ k=zs s){t:Nat}:∀(n:Nat)(A:Tr×HD),St E call xs s₀ (k+n)=zs A ->
 (∀(m i:Nat)(o:Oper),k<=m->m<k+n->l[m]?=zs i->ops[i]?=zs o->o.dst≠zs t)->A.1.get t=s.1.get t
 |0,A,h,_=>by grind
 |n+1,A,h,hn=>by
  obtain⟨i,o,D,x,r,h1,h2,G,_,_,_,rfl⟩:=Rp B h;show(setDst _ _ _).get t=_
  rw[d8 (hn (k+n) i o (by omega) (by omega) h1 h2)];exact kJ B C n D G fun m i o a b=>hn m i o a (by omega)
theorem FQ(B:PlanX ops ms l sk xs){k p m i:Nat}{s sp C:Tr×HD}(hs:St E call xs s₀ k=zs s)(hk:k<=p)(hm:p<m)(D:St E call xs s₀ p=zs sp)(G:St E call xs s₀ m=zs C)
 {x:XOp}{r:AV×HD}(hx:xs[p]?=zs x)(hr:stp E call x sp.1 sp.2=zs r){o:Oper}(hl:l[p]?=zs i)(ho:ops[i]?=zs o){t:Nat}(hd:o.dst=zs t):C.1.get t=if s.1.has t then r.1 else .und:=by
 have h1:=Zd D hx hr;obtain⟨x',A,H,_⟩:=B.xat p i o hl ho;rw[hx]at A;cases A;obtain⟨n,rfl⟩:∃n,m=p+1+n:=⟨m-(p+1),by omega⟩
 have h2:=kJ B h1 n C G (t:=t) fun q j o' a b c d=>B.dst p q i j o o' t (by omega) hl c ho d hd
 rw[h2,H,hd];show(setDst (zs t) r.1 sp.1).get t=_
 rw[m5];obtain⟨n',rfl⟩:∃n',p=k+n':=⟨p-k,by omega⟩
 grind[St_has]
theorem stp_some{x:XOp}{fr:Tr}{h:HD}{r:AV×HD}(A:stp E call x fr h=zs r):(guardOk x.gd fr=zs zf/\r=(skipped,h))\/(guardOk x.gd fr=zs zt/\evOpD E call x fr h.1 h.2=.ok r.1 r.2.1 r.2.2):=by
 unfold stp at A;cases hg:guardOk x.gd fr with
 |none=>grind
 |some b=>
  rw[hg]at A;cases b with
  |false=>grind
  |true=>exact .inr ⟨rfl,Ig A⟩
theorem fQ(B:PlanX ops ms l sk xs){k:Nat}{s:Tr×HD}(C:St E call xs s₀ k=zs s):∀(n:Nat)(A:Tr×HD),St E call xs s₀ (k+n)=zs A ->
 (∀(m i:Nat)(o:Oper),k<=m->m<k+n->l[m]?=zs i->ops[i]?=zs o->Gz o.op≠3)->Keeps s.2.1 A.2.1
 |0,A,h,_=>by rw[Nat.add_zero]at h;rw[C]at h;cases h;exact .refl _
 |n+1,A,h,hn=>by
  obtain⟨i,o,D,x,r,h1,h2,G,_,h5,H,rfl⟩:=Rp B h;refine(fQ B C n D G fun m i o a b=>hn m i o a (by omega)).trans ?_;show Keeps D.2.1 r.2.1
  rcases stp_some H with⟨_,rfl⟩|⟨_,h7⟩
  . exact .refl _
  grind[fO]
theorem nF(D:PlanX ops ms l sk xs)(A:O3 call){k:Nat}{s:Tr×HD}(G:St E call xs s₀ k=zs s):∀(n:Nat)(B:Tr×HD),St E call xs s₀ (k+n)=zs B ->
 (∀ (m i:Nat) (o:Oper),k<=m->m<k+n->l[m]?=zs i->ops[i]?=zs o->Gz o.op=3->o5 ops.toList ms i (l.drop (m+1))=zt) ->
   s.2.1.next<=B.2.1.next/\(∀i,i∈s.2.2->i∈B.2.2)/\∀i,i<s.2.1.next->i∉B.2.2->B.2.1.get i=s.2.1.get i
 |0,B,h,_=>by grind
 |n + 1,B,h,hn=>by
  obtain⟨i,o,C,x,r,h1,h2,H,_,h5,I,rfl⟩:=Rp D h;obtain⟨a1,a2,a3⟩:=nF D A G n C H fun m i o a b=>hn m i o a (by omega)
  have hb:C.2.1.next<=r.2.1.next/\(∀i,i∈C.2.2->i∈r.2.2)/\∀i,i<C.2.1.next->i∉r.2.2->r.2.1.get i=C.2.1.get i:=by
   rcases stp_some I with⟨_,rfl⟩|⟨_,J⟩
   . grind
   . refine kI A (fun hc=>?_) J
     grind
  grind
end
end Go.AM
