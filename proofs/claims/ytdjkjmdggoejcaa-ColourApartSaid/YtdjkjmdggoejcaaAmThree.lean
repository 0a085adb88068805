/- The abstract machine, part three: operations, calls, and regions that draw their order: planned. Conditions: none. -/
import Derived.Test.YtdjkjmdggoejcaaAmTwo
import Derived.LoopN
import Derived.Tactics
import Derived.Orders
set_option linter.unusedVariables false
set_option linter.unusedSectionVars false
set_option linter.unusedSimpArgs false
/-
 The abstract machine: each operation but a call is sound.
set_option maxHeartbeats 4000000
-/
open List renaming length→lz
open Option renaming some→zs,none→zn
open Bool renaming true→zt,false→zf
open Bool renaming and_eq_true→zqa,not_eq_true'→zqb
open Array renaming getElem?_toList→zqc,getD_eq_getD_getElem?→zqd
open List renaming all_eq_true→zqe,mem_cons_self→zqf,mem_cons→zqg,mem_of_getElem?→zqh,getElem?_of_mem→zqi,getElem?_eq_getElem→zqj,length_cons→zqk
open Nat renaming le_refl→zql,le_trans→zqm
open Option renaming map_eq_some_iff→zqn,bind_some→zqo
namespace Go.AM
section
variable {P:Program}{E:Env}{W:World}{cx:Cx}{h:Vg}
theorem H8{x:Option AV}{v:AV}{h h':Vg}(B:lift x h=.ok v h'):x=zs v/\h'=h:=by
 cases x with
 |none=>cases B
 |some a=>cases B;grind
theorem bG(B:Sat E W cx h){a:Act}{fr:Tr}(hf:dh W cx a.tmps fr)(o:Option Operand):W8 W cx (o.map a.eval) (Nx E o fr):=by
 cases o with
 |none=>trivial
 |some x=>exact W7 B hf x
theorem Gz(a:Act)(ps:Array (Nat×Operand)):(ps.map fun p=>(p.1,a.eval p.2)).toList=ps.toList.map fun p=>(p.1,a.eval p.2):=by simp
theorem Tc(hE:dn E P)(hs:Sat E W cx h){ts:Array TypeId}{ty:TypeId}{args:Array Value}{l:List AV}(hl:fc W cx args.toList l){r:AV}{h':Vg}(hb:Lg E ts.toList l h=zs (r,h')):
 ∃v W' cx',(Builtin.append_ ts ty args).run P W=.ok v W'/\Ext W cx W' cx'/\Sat E W' cx' h'/\Rep W' cx' v r:=by
 unfold Lg at hb;cases ac:ts.toList with
 |nil=>grind
 |cons t an=>
  cases an with
  |nil=>grind
  |cons tx ts2=>
   cases l with
   |nil=>grind
   |cons s l1=>
    cases l1 with
    |nil=>grind
    |cons x l2=>
     rw[ac]at hb;obtain⟨ti,ht,hb⟩:=E8 hb;obtain⟨te,G,hb⟩:=A1 hb;obtain⟨X,hb⟩:=A6 hb;have X:=K5 X;obtain⟨Y,ah,hb⟩:=E8 hb;obtain⟨e,hk,G⟩:=Z6 G;have hd:=(hE.ti t ti ht).desc;unfold I7 at hd;rw[hk]at hd;have ae:ts[0]?=zs t:=by rw[<-zqc,ac];rfl
     have af:ts[1]?=zs tx:=by rw[<-zqc,ac];rfl
     obtain⟨sv,B,U⟩:=hl.get (i:=0) (c:=s) rfl;obtain⟨xv,C,V⟩:=hl.get (i:=1) (c:=x) rfl;have B:args[0]?=zs sv:=by grind
     have C:args[1]?=zs xv:=by grind
     obtain⟨dx,aa⟩:=(hE.ti tx Y ah).under;have J:=(hE.ti tx Y ah).desc;have D:=hE.ti e te G;have elemCase:(∀k,dx≠.int k)->A5 (elems x h) (fun xs=>B5 (G1 te.size xs) (I1 te s xs h))=zs (r,h') ->
      ∃v W' cx',(Builtin.append_ ts ty args).run P W=.ok v W'/\Ext W cx W' cx'/\Sat E W' cx' h'/\Rep W' cx' v r:=by
      intro aj hb;obtain⟨xs,al,hb⟩:=A1 hb;obtain⟨H,hb⟩:=A6 hb;rw[n9]at H;obtain⟨ad,cap,us,sz,e1,e2,I,am⟩:=Y4 (P:=P) hs V al;have Q:db W cx us xs te.size:=by
       cases ai:xs with
       |nil=>rw[ai]at I;exact⟨by have:=I.len;grind,by simp,by simp⟩
       |cons x0 xr=>
        rw[ai]at I H
        have:sz=te.size:=by rw[<-I.size 0 x0 rfl];grind
        grind
      . exact Mc hE hs G ae hd af aa B C U Q (.inl ⟨aj,⟨ad,cap,e1⟩,fun W' ak=>by
         have:=am W' ak (lz xs) te.size (zql _) H
         rw[<-I.len,List.take_length]at this;exact this⟩) Q.oneL (D.pos (by omega)) hb
     unfold I7 at J;cases ao:Y.desc with
     |int kx=>
      rw[ao]at hb J;rw[J]at aa;cases aa;obtain⟨n,hn,N⟩:=A1 hb;obtain⟨hg,N⟩:=A6 N;clear hb;have hg:n*te.bytes<=140737488355328:=C5 hg;obtain⟨k',rfl⟩:=R7 hn;cases V.int_inv;obtain⟨i,z,hi1,hi2,hi3,hi4,ab⟩:=D.info;have hzs:z.cells.size=te.size:=by have:=((ab.rep W cx).cells ab.und).1;simp at this;rw[this];exact D.zsz
      . have hp:0<te.size:=X
        have ag:=D.pos hp;have hn47:n<=140737488355328:=zqm (Nat.le_mul_of_pos_right n ag) hg;obtain⟨a1,a2⟩:=Rp (W:=W) (cx:=cx) ab D.zsz hp n (c:=Builtin.zeroCells z.cells n) (by grind[Go.Builtin.zeroCells,Go.AM.ie]);have hzl:(Builtin.zeroCells z.cells n).toList=(List.range (n*te.size)).map fun k=>(z.cells[k%te.size]?).getD undef:=by
         apply List.ext_getElem?;grind[Builtin.zeroCells]
        rw[m7]at N;have hlen:lz (List.replicate n te.zero)=n:=List.length_replicate;exact Mc hE hs G ae hd af J B C U a1 (by grind) a1.oneL ag N
     |_=>grind
theorem Wp(hE:dn E P)(J:Sat E W cx h){b:Builtin}{ts:Array TypeId}{ty:TypeId}{cs:Array Bool}{args:Array Value}{l:List AV}(hl:fc W cx args.toList l){r:AV}{h':Vg}(hb:F5 E b ts.toList l h=zs (r,h')):
 Jy P E W cx (builtin b ts ty cs args) r h':=by
 cases b with
 |append=>
  obtain⟨v,W',cx',D,B,H,h4⟩:=Tc hE J (ts:=ts) (ty:=ty) hl hb;exact Jy.value (s:=Builtin.append_ ts ty args) D B H h4
 |len=>
  have hb:Wi E ts.toList l h=zs (r,h'):=hb;unfold Wi at hb;cases C:ts.toList with
  |nil=>rw[C]at hb;cases hb
  |cons t ac=>
   rw[C]at hb;cases l with
   |nil=>cases hb
   |cons x l1=>
    obtain⟨ti,ht,hb⟩:=E8 hb;obtain⟨n,hn,hb⟩:=A1 hb;rw[C1]at hb;cases hb;have G:ts[0]?=zs t:=by rw[<-zqc,C];rfl
    obtain⟨xv,N,Q⟩:=hl.get (i:=0) (c:=x) rfl
    have:=pA hE J ht (ty:=ty) G (args:=args) (by simpa using N) Q hn
    exact Jy.same (s:=Builtin.len_ ts ty args) J this (.int _ _)
 |copy=>
  have hb:dV E ts.toList l h=zs (r,h'):=hb;unfold dV at hb;cases C:ts.toList with
  |nil=>rw[C]at hb;cases hb
  |cons t ac=>
   rw[C]at hb;cases l with
   |nil=>cases hb
   |cons d l1=>
    cases l1 with
    |nil=>cases hb
    |cons s l2=>
     obtain⟨ti,ht,hb⟩:=E8 hb;obtain⟨te,I,hb⟩:=A1 hb;obtain⟨xs,ab,hb⟩:=A1 hb;obtain⟨U,hb⟩:=A6 hb;obtain⟨e,hk,I⟩:=Z6 I;have hd:=(hE.ti t ti ht).desc;unfold I7 at hd;rw[hk]at hd;have G:ts[0]?=zs t:=by rw[<-zqc,C];rfl
     obtain⟨dv,V,X⟩:=hl.get (i:=0) (c:=d) rfl;obtain⟨sv,Y,aa⟩:=hl.get (i:=1) (c:=s) rfl;obtain⟨v,W',cx',D,B,H,h4⟩:=jP hE J I (ty:=ty) G hd (args:=args) (by simpa using V) (by simpa using Y) X aa ab U hb;exact Jy.value (s:=Builtin.copy_ ts ty args) D B H h4
 |max=>
  cases l with
  |nil=>cases hb
  |cons x l=>
   obtain⟨r',D,B⟩:=zqn.1 (show(Nt l x).map (·,h)=zs (r,h')from hb);cases B;obtain⟨args⟩:=args;cases args with
   |nil=>have:=hl.1;simp at this
   |cons xv vs=>
    obtain⟨v,B,H⟩:=Yi (P:=P) (vs:=vs) (xv:=xv) ⟨by have:=hl.1;simpa using this,fun i v c D B=>hl.2 (i+1) v c (by simpa using D) (by simpa using B)⟩ (hl.2 0 _ _ rfl rfl) D;refine Jy.same (s:=Builtin.max_ ts ty ⟨xv::vs⟩) J ?_ H;simpa[Builtin.max_]using B
 |min=>
  cases l with
  |nil=>cases hb
  |cons x l=>
   obtain⟨r',D,B⟩:=zqn.1 (show(Qm l x).map (·,h)=zs (r,h')from hb);cases B;obtain⟨args⟩:=args;cases args with
   |nil=>have:=hl.1;simp at this
   |cons xv vs=>
    obtain⟨v,B,H⟩:=Yj (P:=P) (vs:=vs) (xv:=xv) ⟨by have:=hl.1;simpa using this,fun i v c D B=>hl.2 (i+1) v c (by simpa using D) (by simpa using B)⟩ (hl.2 0 _ _ rfl rfl) D;refine Jy.same (s:=Builtin.min_ ts ty ⟨xv::vs⟩) J ?_ H;simpa[Builtin.min_]using B
 |_=>cases hb
theorem jI(U:dn E P)(D:Sat E W cx h){a:Act}{fr:Tr}(hf:dh W cx a.tmps fr){call:E3}(o:Oper)(hc:∀c f,o.op=.call c->c.callee≠.value f){v:AV}{h':Vg}
 (B:fg E call o.op fr h=.ok v h'):Jy P E W cx (execOp a.eval o) v h':=by
 have I:=fun x=>W7 (E:=E) D hf x
 obtain⟨dst,op,ak,pos,af,guard⟩:=o;cases op with
 |move x=>cases B;exact⟨_,W,cx,.inl rfl,Ext.refl _ _,D,I x⟩
 |assign x=>cases B;exact⟨_,W,cx,.inl rfl,Ext.refl _ _,D,I x⟩
 |pick c x y=>
  obtain⟨b,hb,B⟩:=oU B;have ai:=I c;rw[hb]at ai;have e:=ai.bool_inv;refine⟨if b then a.eval x else a.eval y,W,cx,.inl ?_,Ext.refl _ _,?_,?_⟩
  . simp[execOp,e,asBool]
  . cases b<;>(cases B;exact D)
  . cases b<;>(cases B;exact I _)
 |alloc t=>
  obtain⟨ti,N,B⟩:=F4 B;have aj:=U.ti t ti N;obtain⟨z,ao,ag⟩:=aj.run_zero (W:=W);obtain⟨v',W',cx',H,G,h3,h4⟩:=Tn (P:=P) D (t:=t) (ag.rep W cx) ag.one ag.und aj.zsz B;refine Jy.value (s:=Instr.alloc t zt (.tuple #[])) ?_ G h3 h4;simp only[Instr.alloc,Sem.run_bind,ao,Result.andThen_ok];simpa using H
 |box t x=>
  obtain⟨ti,N,B⟩:=F4 B;cases hg:(Nat.beq (dw (opv E x fr).cells) ti.size&&E4 (opv E x fr).cells)with
  |false=>rw[hg]at B;cases B
  |true=>
   rw [hg]at B;rw[zqa,A4,G9]at hg;have Q:opv E x fr≠.und:=fun e=>by
    have:=hg.2 .und (by rw[e];simp[AV.cells])
    cases this
   obtain⟨v',W',cx',H,G,h3,h4⟩:=Tn (P:=P) D (t:=t) (I x) (((I x).cells Q).one hg.2) Q (D8 hg.1) B;refine Jy.value (s:=Instr.box t (a.eval x)) ?_ G h3 h4;simpa[Instr.box]using H
 |build t ps=>
  obtain⟨ti,N,B⟩:=F4 B;obtain⟨C,hh⟩:=H8 B;subst hh;obtain⟨l1,l2⟩:=Ha D hf ps.toList;obtain⟨v',H,G⟩:=eT U N (ps:=ps.map fun p=>(p.1,a.eval p.2)) (by rw[Gz];exact l1) (by rw[Gz];exact l2) C;exact Jy.same (s:=Instr.build t _) D H G
 |buildSlice t n ps=>
  obtain⟨ti,N,B⟩:=F4 B;cases X:cu E ti.desc with
  |none=>rw[X]at B;cases B
  |some te=>
   rw[X]at B;cases hg:(Nat.ble (Nat.mul n te.size) 65536&&Nat.blt 0 te.size)with
   |false=>simp only[hg]at B;cases B
   |true=>
    simp only[hg,cond_true]at B;cases J:gi te.size (iz E ps.toList fr) (oi n te.zero)with
    |none=>rw[J]at B;cases B
    |some es=>
     rw[J]at B;cases B;obtain⟨l1,l2⟩:=Ha D hf ps.toList;obtain⟨v',W',cx',H,G,h3,h4⟩:=Oe U D N X (ps:=ps.map fun p=>(p.1,a.eval p.2)) (by rw[Gz];exact l1) (by rw[Gz];exact l2) hg J;exact Jy.value (s:=Instr.buildSlice t n _) H G h3 h4
 |load t x=>
  obtain⟨ti,N,B⟩:=F4 B;obtain⟨C,hh⟩:=H8 B;subst hh;obtain⟨v',H,G⟩:=Tl U D N (I x) C;exact Jy.same (s:=Instr.loadAt t _) D H G
 |store t x y=>
  obtain⟨ti,N,B⟩:=F4 B
  have:Cp ti (opv E x fr) (opv E y fr) h=zs h'/\v=.und:=by
   cases C:Cp ti (opv E x fr) (opv E y fr) h with
   |none=>rw[C]at B;cases B
   |some G=>rw[C]at B;cases B;exact⟨rfl,rfl⟩
  obtain⟨C,rfl⟩:=this;obtain⟨W',H,G,h3⟩:=eO U D N (I x) (I y) C;exact Jy.unit (s:=Instr.storeAt t _ _) H G h3
 |nilCheck x=>
  obtain ⟨C,hh⟩:=H8 B;subst hh;have V:=I x;have ab:∀u:Value,a.eval x=u->(match u with | .pointer zn | .nilIface | .nilFunc=>False | .func (.method _) _ _=>False|_=>True)->(execOp a.eval ⟨dst,.nilCheck x,ak,pos,af,guard⟩).run P W=.ok (.value u) W:=by
   intro u Q hm;simp only[execOp,Q];cases u with
   | pointer p=>cases p with
    |none=>exact hm.elim
    |some p=>rfl
   | func f a b=>cases f with
    |method n=>exact hm.elim
    |_=>rfl
   |nilIface=>exact hm.elim
   |nilFunc=>exact hm.elim
   |_=>rfl
  cases aa:opv E x fr with
  |fptr w o=>
   rw[aa]at C V;cases C;obtain⟨b,o',e,_⟩:=V.fptr_inv;exact⟨_,W,cx,.inl (ab _ e trivial),Ext.refl _ _,D,e▸V⟩
  |ptr i j o=>
   rw[aa]at C V;cases C;obtain⟨_,e⟩:=V.ptr_inv;exact⟨_,W,cx,.inl (ab _ e trivial),Ext.refl _ _,D,e▸V⟩
  |fn f l1 l2=>
   rw[aa]at C V;cases f with
   |func f=>
    cases C;cases Q:a.eval x with
    |func f' vs ws=>
     rw[Q]at V
     have:f'=.func f:=by cases V;rfl
     subst this;exact⟨_,W,cx,.inl (ab _ Q trivial),Ext.refl _ _,D,V⟩
    |_=>rw[Q]at V;cases V
   |_=>cases C
  |map i=>
   rw[aa]at C V;cases C;cases Q:a.eval x with
   |map r=>
    rw[Q]at V;exact⟨_,W,cx,.inl (ab _ Q trivial),Ext.refl _ _,D,V⟩
   |_=>rw[Q]at V;cases V
  |_=>rw[aa]at C;cases C
 |binOp op t x y yt=>
  obtain ⟨C,hh⟩:=H8 B;subst hh;obtain⟨v',H,G⟩:∃v',V1 P W op t x y (a.eval x) (a.eval y) v'/\Rep W cx v' v:=by
   rcases sr C with C|C
   . exact jE U (I x) (I y) C x y
   . exact eE U (I x) (I y) C x y
  exact Jy.same (s:=do eqGuard op t x y (a.eval x) (a.eval y);binOp op t (a.eval x) (a.eval y)) D H G
 |unOp op t x=>
  obtain⟨C,hh⟩:=H8 B;subst hh;obtain⟨v',H,G⟩:=jO (P:=P) (I x) C;exact Jy.same (s:=Op.unary op _) D H G
 |convert s d x=>
  obtain⟨ts,aq,B⟩:=F4 B;obtain⟨td,ar,B⟩:=F4 B;obtain⟨C,hh⟩:=H8 B;subst hh;obtain⟨v',H,G⟩:=Wr U aq ar (I x) C;exact Jy.same (s:=convert s d _) D H G
 |makeFunc f first caps=>
  cases B;have r1:=Bn (E:=E) D hf first.toList
  have r2:=Bn (E:=E) D hf caps.toList;refine⟨.func f (first.map a.eval) (caps.map a.eval),W,cx,.inl (by simp[execOp,Instr.makeFunc]),Ext.refl _ _,D,?_⟩;refine .fn f _ _ _ _ (by have:=r1.1;simpa using this) (by have:=r2.1;simpa using this) (fun i v c H G=>r1.2 i v c ?_ G) (fun i v c H G=>r2.2 i v c ?_ G)
  . simpa using H
  . simpa using H
 |makeMap t r=>
  cases r with
  |some r=>cases B
  |none=>
   cases B;have he:=Ext.alloc W cx (.map #[] 0) 0;refine⟨.map (zs W.heap.size),W.alloc (.map #[] 0),_,.inl (by simp[execOp,Instr.makeMap]),he,D.push _ _ 0 ⟨#[],0,[],K7 W _,List.Perm.refl _,rfl,by simp,MapKept.stamped_empty 0,fun q C=>by cases C⟩,?_⟩
   have:=Rep.map (W:=W.alloc (.map #[] 0)) (cx:=cx.push W.heap.size 0) h.next (by rw[D.nx];exact Nat.lt_succ_self _) (by rw[D.nx,Cx.push_new];simp)
   rw[D.nx,Cx.push_new]at this;rw[D.nx];exact this
 |makeInterface t x=>
  obtain⟨ti,N,B⟩:=F4 B;cases J:V0 ti.desc with
  |false=>rw[J]at B;cases B
  |true=>
   rw[J]at B;cases B;have Y:=(U.ti t ti N).desc;unfold I7 at Y
   have:∃d,P.underlying t=zs d/\∀ms,d≠.interface ms:=by
    cases hk:ti.desc with
    |func=>rw[hk]at J;cases J
    |iface=>rw[hk]at J;cases J
    |other=>rw[hk]at J;cases J
    |struct fs fl=>rw[hk]at Y;obtain⟨fields,Q,_⟩:=Y;exact⟨_,Q,by simp⟩
    |_=>rw[hk]at Y;exact⟨_,Y,by simp⟩
   obtain⟨d,Q,hn⟩:=this;have r1:∀W:World,(underlying t).run P W=.ok d W:=fun W=>A3 Q
   refine Jy.same (s:=Instr.makeInterface t (a.eval x)) (v':=.iface t (a.eval x)) D ?_ (.iface t _ _ (I x));simp only[Instr.makeInterface,Sem.run_bind,r1,Result.andThen_ok];cases d<;>first|rfl|exact absurd rfl (hn _)
 |typeAssert x xt t ok=>
  obtain⟨ti,N,B⟩:=F4 B;cases J:(V0 ti.desc && !ok)with
  |false=>rw[J]at B;cases B
  |true=>
   rw[J]at B;rw[zqa]at J;obtain⟨J,ae⟩:=J;obtain⟨C,hh⟩:=H8 B;subst hh;have Y:=(U.ti t ti N).desc;unfold I7 at Y
   have:∃d,P.underlying t=zs d/\∀ms,d≠.interface ms:=by
    cases hk:ti.desc with
    |func=>rw[hk]at J;cases J
    |iface=>rw[hk]at J;cases J
    |other=>rw[hk]at J;cases J
    |struct fs fl=>rw[hk]at Y;obtain⟨fields,Q,_⟩:=Y;exact⟨_,Q,by simp⟩
    |_=>rw[hk]at Y;exact⟨_,Y,by simp⟩
   obtain⟨d,Q,hn⟩:=this;have r1:∀W:World,(underlying t).run P W=.ok d W:=fun W=>A3 Q
   have ad:=I x;cases al:opv E x fr with
   |iface u w=>
    rw[al]at C ad;have C:(bif Nat.beq u t then zs w else zn)=zs v:=C;cases hb:Nat.beq u t with
    |false=>rw[hb]at C;cases C
    |true=>
     rw [hb]at C;cases C;have am:=D8 hb;have⟨u',an,hr⟩:∃u',a.eval x=.iface t u'/\Rep W cx u' v:=by
      generalize a.eval x=z at ad;cases ad with
      |iface _ u' _ hr=>exact⟨u',by rw[am],hr⟩
     refine Jy.same (s:=Instr.typeAssert (a.eval x) xt t ok) (v':=u') D ?_ hr;rw[an];have ae:ok=zf:=by simpa using ae
     subst ae;simp only[Instr.typeAssert,Sem.run_bind,r1,Result.andThen_ok];cases d<;>first|exact absurd rfl (hn _)|(simp;done)|simp
   |_=>rw[al]at C;cases C
 |makeSlice t l c=>
  obtain⟨ti,N,B⟩:=F4 B;cases X:cu E ti.desc with
  |none=>rw[X]at B;cases B
  |some te=>
   rw[X]at B;cases hl:ew (opv E l fr)with
   |none=>simp only[hl]at B;cases B
   |some n=>
    simp only[hl]at B;cases hm:ew (opv E c fr)with
    |none=>simp only[hm]at B;cases B
    |some m=>
     simp only[hm]at B;cases hg:(Nat.ble n m&&Nat.ble (Nat.mul m te.bytes) 140737488355328&&Nat.blt 0 te.size)with
     |false=>simp only[hg]at B;cases B
     |true=>
      simp only[hg,cond_true]at B;cases B;obtain⟨v',W',cx',H,G,h3,h4⟩:=Qq U D N X (I l) (I c) hl hm hg;exact Jy.value (s:=Instr.makeSlice t _ _) H G h3 h4
 |slice t x lo hi mx=>
  have B:Gx E t x lo hi mx fr h=.ok v h':=B;unfold Gx at B;obtain⟨ti,N,B⟩:=F4 B;cases ah:hi.isNone&&mx.isSome with
  |true=>rw[ah]at B;cases B
  |false=>
   rw [ah]at B;obtain⟨C,hh⟩:=H8 B;subst hh;obtain⟨v',H,G⟩:=eR U N (I x) (bG D hf lo) (bG D hf hi) (bG D hf mx) (fun hn=>by
    cases hi with
    |some hi=>cases hn
    | none=>cases mx with
     |none=>rfl
     |some mx=>cases ah) C
   exact Jy.same (s:=Instr.sliceAt t _ _ _ _) D H G
 |fieldAddr t x f=>
  obtain⟨ti,N,B⟩:=F4 B;obtain⟨C,hh⟩:=H8 B;subst hh;obtain⟨p,J,C⟩:=A1 C;obtain⟨v',H,G⟩:=Qo U N (I x) J C;exact Jy.same (s:=Instr.fieldAt t _ f) D H G
 |field t x f=>
  obtain⟨ti,N,B⟩:=F4 B;obtain⟨C,hh⟩:=H8 B;subst hh;obtain⟨p,J,C⟩:=A1 C;obtain⟨v',H,G⟩:=eP U N (I x) J C;exact Jy.same (s:=Instr.field t _ f) D H G
 |indexAddr t x i=>
  obtain⟨ti,N,B⟩:=F4 B;obtain⟨C,hh⟩:=H8 B;subst hh;obtain⟨n,hn,C⟩:=A1 C;obtain⟨v',H,G⟩:=Qp U N (I x) (I i) hn C;exact Jy.same (s:=Instr.indexAt t _ _) D H G
 |index t x i=>
  obtain⟨ti,N,B⟩:=F4 B;obtain⟨C,hh⟩:=H8 B;subst hh;obtain⟨n,hn,C⟩:=A1 C;obtain⟨v',H,G⟩:=eQ U N (I x) (I i) hn C;exact Jy.same (s:=Instr.index t _ _) D H G
 |lookup t m k ok=>cases B
 |mapUpdate t m k x=>cases B
 |insert t m k x=>cases B
 |extract t i=>
  obtain⟨vs,au,B⟩:=rR B;obtain⟨C,hh⟩:=H8 B;subst hh
  have:=I t
  rw[au]at this;obtain⟨v',H,G⟩:=Ws (P:=P) this C;exact Jy.same (s:=Instr.extract _ i) D H G
 |call c=>
  obtain⟨ac,args,argTypes⟩:=c;cases ac with
  |value f=>exact absurd rfl (hc _ f rfl)
  |invoke f n=>cases B
  |builtin b=>
   have B:lift2 (F5 E b argTypes.toList (fk E args.toList fr) h)=.ok v h':=B;cases C:F5 E b argTypes.toList (fk E args.toList fr) h with
   |none=>rw[C]at B;cases B
   |some p=>
    rw [C]at B;cases B;have hl:fc W cx (args.map a.eval).toList (fk E args.toList fr):=by
     have:=Bn (E:=E) D hf args.toList;simpa using this
    exact Wp U D hl C
 |panic x=>
  exfalso
  have B:oS (opv E x fr) h=.ok v h':=B;cases C:opv E x fr<;>rw[C]at B<;>cases B
 |_=>cases B
end
end Go.AM
/-
 The abstract machine: operations,calls among them,and rows of operations in the order of the text.
-/
namespace Go.AM
def Res.Post(E:Env)(W:World)(cx:Cx):Res->Ending->World->Prop
 |.ok v h,.returned B,w=>∃cx',Ext W cx w cx'/\Sat E w cx' h/\Rep w cx' B v
 |.pan v h,.panicked chain,w=>∃cx' B,chain=[{v:=B,recovered:=zf}]/\Ext W cx w cx'/\Sat E w cx' h/\Rep w cx' B v
 |_,_,_=>False
def Ev(E:Env)(P:Program)(call:E3):Prop:=
 ∀ f (args:Array Value) l W cx h,fc W cx args.toList l->Sat E W cx h->call f l h≠.bad ->
   (∃ fn c, P.funcs[f]? = zs fn ∧ fn.body = zs c ∧ (fn.name == "runtime.NumGoroutine") = zf) ∧ Calls P f args W ((call f l h).Post E W cx)
def bH:Ex->Exit
 |.normal=>.normal
 |.exit i=>.exit i
 | .ret=>.ret
def cz.Post(E:Env)(W:World)(cx:Cx)(S:Act->Prop)(r:cz)(x:Exit)(a:Act)(w:World):Prop:=
 S a/\∃cx',Ext W cx w cx'/\
   match r with
   |.ok e fr h=>x=bH e/\Sat E w cx' h/\dh w cx' a.tmps fr
   |.pan v h=>∃B,x=.panic [{v:=B,recovered:=zf}]/\Sat E w cx' h/\Rep w cx' B v
   | .bad=>False
def Lv(S:Act->Prop)(d:Option Tmp):Prop:=∀a v,S a->S (a.put d v)
theorem cz.Post.trans{E:Env}{W C:World}{cx B:Cx}{S:Act->Prop}(G:Ext W cx C B){r:cz}{x:Exit}{a:Act}{w:World}(h:r.Post E C B S x a w):r.Post E W cx S x a w:=by
 obtain⟨H,cx',D,h⟩:=h;exact⟨H,cx',G.trans D,h⟩
section
variable {P:Program}{E:Env}{W:World}{cx:Cx}{h:Vg}
def Y2(r:Res):Prop:=∀v h,r≠.pan v h
theorem Y2.ok{v:AV}{h:Vg}:Y2 (.ok v h):=fun _ _ e=>by cases e
theorem Y2.bad:Y2 .bad:=fun _ _ e=>by cases e
theorem Y2.lift{x:Option AV}{h:Vg}:Y2 (lift x h):=by cases x;exact .bad;exact .ok
theorem Y2.liftH{x:Option Vg}:Y2 (liftH x):=by cases x;exact .bad;exact .ok
theorem Y2.lift2{x:Option (AV×Vg)}:Y2 (lift2 x):=by cases x;exact .bad;exact .ok
theorem Y2.onTI{t:Nat}{f:TI->Res}(hf:∀x,Y2 (f x)):Y2 (onTI E t .bad f):=by
 unfold AM.onTI;cases E.ti t;exact .bad;exact hf _
theorem Y2.cond{b:Bool}{x y:Res}(hx:Y2 x)(hy:Y2 y):Y2 (bif b then x else y):=by grind
theorem Td{call:E3}{op:Op}{fr:Tr}(C:∀x,op≠.panic x)(hc:∀c f,op=.call c->c.callee≠.value f):Y2 (fg E call op fr h):=by
 cases op with
 |panic x=>exact absurd rfl (C x)
 |call c=>
  obtain⟨B,args,argTypes⟩:=c;cases B with
  |value f=>exact absurd rfl (hc _ f rfl)
  |invoke f n=>exact .bad
  |builtin b=>exact .lift2
 |move x=>exact .ok
 |assign x=>exact .ok
 |pick c x y=>
  show Y2 ((opv E c fr).onBool .bad fun t=>match t with|true=>.ok (opv E x fr) h|false=>.ok (opv E y fr) h)
  cases opv E c fr with
  |bool b=>cases b<;>exact .ok
  |_=>exact .bad
 |alloc t=>exact .onTI fun _=>.ok
 |box t x=>exact .onTI fun _=>.cond .ok .bad
 |build t ps=>exact .onTI fun _=>.lift
 |buildSlice t n ps=>
  refine .onTI fun ti=>?_
  cases cu E ti.desc with
  |none=>exact .bad
  |some te=>
   refine .cond ?_ .bad;cases gi te.size (iz E ps.toList fr) (oi n te.zero)with
   |none=>exact .bad
   |some es=>exact .ok
 |load t x=>exact .onTI fun _=>.lift
 |store t x y=>exact .onTI fun _=>.liftH
 |nilCheck x=>exact .lift
 |binOp op t x y yt=>exact .lift
 |unOp op t x=>exact .lift
 |convert s d x=>exact .onTI fun _=>.onTI fun _=>.lift
 |makeFunc f first caps=>exact .ok
 |makeMap t r=>cases r;exact .ok;exact .bad
 |makeInterface t x=>exact .onTI fun _=>.cond .ok .bad
 |typeAssert x xt t ok=>exact .onTI fun _=>.cond .lift .bad
 |makeSlice t l c=>
  refine .onTI fun ti=>?_
  cases cu E ti.desc with
  |none=>exact .bad
  |some te=>
   cases h1:ew (opv E l fr)with
   |none=>exact .bad
   |some n=>
    cases h2:ew (opv E c fr)with
    |none=>exact .bad
    |some m=>exact .cond .ok .bad
 |slice t x lo hi mx=>exact .onTI fun _=>.cond .bad .lift
 |fieldAddr t x f=>exact .onTI fun _=>.lift
 |field t x f=>exact .onTI fun _=>.lift
 |indexAddr t x i=>exact .onTI fun _=>.lift
 |index t x i=>exact .onTI fun _=>.lift
 |lookup t m k ok=>exact .bad
 |mapUpdate t m k x=>exact .bad
 |insert t m k x=>exact .bad
 |extract t i=>
  show Y2 ((opv E t fr).onTup .bad fun vs=>lift (Eh vs i) h)
  cases opv E t fr with
  |tup vs=>exact .lift
  |_=>exact .bad
 |_=>exact .bad
theorem Lw(hE:dn E P)(hs:Sat E W cx h){a:Act}{fr:Tr}(hf:dh W cx a.tmps fr){call:E3}(hcall:Ev E P call)(o:Oper){K:Act->World->Prop}{Q:Exit->Act->World->Prop}
 (hb:fg E call o.op fr h≠.bad)
 (hK:∀v h' v' W' cx',fg E call o.op fr h=.ok v h'->Ext W cx W' cx'->Sat E W' cx' h'->Rep W' cx' v' v->K (a.put o.dst v') W')
 (hQ:∀v h' v' W' cx',fg E call o.op fr h=.pan v h'->Ext W cx W' cx'->Sat E W' cx' h'->Rep W' cx' v' v->Q (.panic [{v:=v',recovered:=zf}]) a W'):o.wp P a W K Q:=by
 by_cases hc:∀c f,o.op=.call c->c.callee≠.value f
 . by_cases hp:∀x,o.op≠.panic x
   . cases hev:fg E call o.op fr h with
     |bad=>grind
     |pan v h'=>exact absurd hev (Td hp hc v h')
     |ok v h'=>
      obtain⟨v',W',cx',hr,h1,h2,h3⟩:=jI hE hs hf o hc hev;have hk:=hK v h' v' W' cx' hev h1 h2 h3;unfold Oper.wp;rcases hr with hr|⟨hr,rfl⟩
      . rw[hr];exact hk
      . rw[hr];exact hk
   . have ⟨x,hx⟩:∃x,o.op=.panic x:=by
      grind
     have ov:=W7 (E:=E) hs hf x;rw[hx]at hb hQ;have e:fg E call (.panic x) fr h=oS (opv E x fr) h:=rfl;rw[e]at hb hQ;cases hq:opv E x fr with
     |iface t v=>
      rw[hq]at hQ ov;have hk:=hQ (.iface t v) h (a.eval x) W cx rfl (Ext.refl _ _) hs ov
      have:∃u,a.eval x=.iface t u:=by
       generalize a.eval x=u at ov;cases ov;grind
      obtain⟨u,hu⟩:=this;unfold Oper.wp
      have:(execOp a.eval o).run P W=.halt (.panic (a.eval x)) W:=by
       simp_all[execOp,Instr.panic]
      rw[this];exact hk
     |_=>rw[hq]at hb;exact absurd rfl hb
 . have ⟨c,f,hop,hcf⟩:∃c f,o.op=.call c/\c.callee=.value f:=by
    grind
   obtain⟨dst,op,type,pos,after,guard⟩:=o;simp only at hop;subst hop;obtain⟨callee,args,argTypes⟩:=c;simp only at hcf;subst hcf;have e:fg E call (.call ⟨.value f,args,argTypes⟩) fr h=Y9 call (opv E f fr) (fk E args.toList fr) h:=rfl;rw[e]at hb hK hQ;have ov:=W7 (E:=E) hs hf f;have oa:=Bn (E:=E) hs hf args.toList;cases hq:opv E f fr with
   |fn g first caps=>
    rw[hq]at hb hK hQ ov;cases g with
    |func n=>
     have e:Y9 call (.fn (.func n) first caps) (fk E args.toList fr) h=call n (ma first (ma (fk E args.toList fr) caps)) h:=rfl;rw[e]at hb hK hQ;have⟨vs,ws,hv,h1,h2⟩:∃vs ws,a.eval f=.func (.func n) vs ws/\fc W cx vs.toList first/\fc W cx ws.toList caps:=by
      generalize a.eval f=u at ov;cases ov with
      |fn f vs ws cs ds hl hl' h h'=>exact⟨vs,ws,rfl,⟨by grind,(by grind)⟩,⟨by grind,(by grind)⟩⟩
     rw [M0,M0]at hb hK hQ;have hl:fc W cx (vs++args.map a.eval++ws).toList (first++(fk E args.toList fr++caps)):=by
      have:(vs++args.map a.eval++ws).toList=vs.toList++(args.toList.map a.eval++ws.toList):=by simp
      rw[this];exact h1.append (oa.append h2)
     obtain⟨⟨fn,c,hf1,hf2,hf3⟩,hcl⟩:=hcall n _ _ W cx h hl hs hb;unfold Oper.wp
     have:(execOp a.eval ⟨dst,.call ⟨.value f,args,argTypes⟩,type,pos,after,guard⟩).run P W=.ok (.enter n (vs++args.map a.eval++ws)) W:=by
      have hn : ¬ fn.name = "runtime.NumGoroutine" := fun e => by grind
      simp[execOp,resolve,hv,Deferred.ofValue,invoke,callFunc,hf1,hf2,hn]
     rw[this,Oper.upon_enter];refine hcl.mono fun e w' hp=>?_
     generalize call n (first++(fk E args.toList fr++caps)) h=r at *;cases r with
     |bad=>grind
     |ok v h'=>
      cases e with
      |returned vv=>obtain⟨cx',h1,h2,h3⟩:=hp;grind
      |_=>exact hp.elim
     |pan v h'=>
      cases e with
      |panicked c=>obtain⟨cx',vv,rfl,h1,h2,h3⟩:=hp;grind
      |_=>exact hp.elim
    |_=>exact absurd rfl hb
   |_=>rw[hq]at hb;exact absurd rfl hb
theorem O1{ops:Array Oper}{a:Act}{fr:Tr}(hf:dh W cx a.tmps fr)(o:Oper){b:Bool}(hg:cm (G3 ops.toList o) fr=zs b):Region.wanted o (yielded ops a.tmps)=b:=by
 unfold G3 at hg;unfold Region.wanted;cases D:o.guard with
 |none=>rw[D]at hg;cases hg;rfl
 |some p=>
  obtain ⟨g,B⟩:=p;rw[D]at hg;dsimp only at hg|-;have hg:Lh ((match ops.toList[g]? with|some q=>q.dst|none=>zn),B) fr=zs b:=hg;have C:yielded ops a.tmps g=match((match ops.toList[g]? with|some q=>q.dst|none=>zn).bind (a.tmps[·]?))with|some (.bool b)=>zs b|_=>zn:=by
   grind[yielded]
  generalize hdst:(match ops.toList[g]? with|some q=>q.dst|none=>zn)=d at hg C;cases d with
  |none=>
   cases hg;grind
  |some t=>
   have hg:i7 B (fr.get t)=zs b:=hg;have G:=hf.rep t;cases H:fr.get t with
   |bool c=>
    rw [H]at hg G;have e:=G.bool_inv;have e2:a.tmps[t]?=zs (.bool c):=by
     rw[zqd]at e;cases I:a.tmps[t]? with
     |none=>rw[I]at e;cases e
     |some u=>grind
    rw[C];simp only[zqo,e2];cases B<;>cases c<;>cases hg<;>rfl
   |tup l=>
    rw[H]at hg G;cases l with
    |cons x l=>cases hg
    |nil=>
     cases hg;obtain⟨vs,e,_⟩:=G.tup_inv;rw[C];simp only[zqo];rw[zqd]at e;grind
   |_=>rw[H]at hg;cases hg
theorem x5(a:Act)(d:Option Tmp)(v:Value):(a.put d v).defers=a.defers:=by cases d<;>rfl
theorem Al(J:dn E P){call:E3}(B:Ev E P call){S:Act->Prop}{ops:Array Oper}{Q:Exit->Act->World->Prop}:∀(l:List Oper)(W:World)(cx:Cx)(a:Act)(fr:Tr)(h:Vg),(∀o∈l,Lv S o.dst)->dh W cx a.tmps fr->S a->Sat E W cx h ->
 I3 E call (l.map (dD ops.toList zf [] zf)) fr h≠.bad->(∀x G w',(I3 E call (l.map (dD ops.toList zf [] zf)) fr h).Post E W cx S x G w'->Q x G w')->wpList P ops Q l a W
 |[],W,cx,a,fr,h,_,hf,hd,hs,hb,C=>C .normal a W ⟨hd,cx,Ext.refl _ _,rfl,hs,hf⟩
 |o :: l,W,cx,a,fr,h,hst,hf,hd,hs,hb,C=>by
  have D:∀o∈l,Lv S o.dst:=(by grind)
  have H:=hst o (zqf ..);have Y:I3 E call ((o::l).map (dD ops.toList zf [] zf)) fr h =
   iw (cm (G3 ops.toList o) fr) .bad (X4 o.dst (I3 E call (l.map (dD ops.toList zf [] zf))) fr (fg E call o.op fr h)) (I3 E call (l.map (dD ops.toList zf [] zf)) (co o.dst Yw fr) h):=rfl
  rw[Y]at hb C;cases hg:cm (G3 ops.toList o) fr with
  |none=>rw[hg]at hb;exact absurd rfl hb
  |some b=>
   have V:=O1 (ops:=ops) hf o hg;rw[hg]at hb C;unfold wpList;cases b with
   |false=>
    rw[V];have hb:I3 E call (l.map (dD ops.toList zf [] zf)) (co o.dst Yw fr) h≠.bad:=hb;exact Al J B l W cx _ _ h D (hf.put o.dst (show Rep W cx undef Yw from .tup #[] [] rfl (by simp))) (H _ _ hd) hs hb C
   |true=>
    rw[V];have hb:X4 o.dst (I3 E call (l.map (dD ops.toList zf [] zf))) fr (fg E call o.op fr h)≠.bad:=hb;have C:∀x G w',(X4 o.dst (I3 E call (l.map (dD ops.toList zf [] zf))) fr (fg E call o.op fr h)).Post E W cx S x G w'->Q x G w':=C;refine .inl (Lw J hs hf B o (fun e=>by rw[e]at hb;exact hb rfl) (fun v h' v' W' cx' e I N U=>?_) (fun v h' v' W' cx' e I N U=>?_))
    . rw[e]at hb C
      exact Al J B l W' cx' _ _ h' D ((hf.mono I).put o.dst U) (H _ _ hd) N hb (fun x G w' X=>C x G w' (cz.Post.trans I X))
    . rw[e]at C
      exact C _ _ _ ⟨hd,cx',I,v',rfl,N,U⟩
end
end Go.AM
/-
 The abstract machine: on what an operation hangs,and what it leaves.
-/
namespace Go.AM
section
variable {E:Env}{call:E3}{h:Vg}
theorem Cy{fr fr':Tr}:∀(l:List Operand),(∀y∈l,opv E y fr=opv E y fr')->fk E l fr=fk E l fr'
 |[],_=>rfl
 |x::l,hy=>by
  show opv E x fr::fk E l fr=opv E x fr'::fk E l fr'
  rw[hy x (zqf ..),Cy l fun y B=>hy y (List.mem_cons_of_mem _ B)]
theorem Ew{fr fr':Tr}:∀(l:List (Nat×Operand)),(∀y∈l.map (·.2),opv E y fr=opv E y fr')->iz E l fr=iz E l fr'
 |[],_=>rfl
 |x::l,hy=>by
  show(x.1,opv E x.2 fr)::iz E l fr=(x.1,opv E x.2 fr')::iz E l fr'
  rw[hy x.2 (by simp),Ew l fun y B=>hy y (by simp at B|-;exact .inr B)]
theorem Jw{fr fr':Tr}(o:Option Operand)(hy:∀y,o=zs y->opv E y fr=opv E y fr'):Nx E o fr=Nx E o fr':=by
 cases o with
 |none=>rfl
 |some x=>show zs _=zs _;grind
theorem x6{fr fr':Tr}(op:Op)(B:∀y∈op.operands.toList,opv E y fr=opv E y fr')(h:Vg):fg E call op fr h=fg E call op fr' h:=by
 cases op with
 |move x=>show Res.ok _ _=Res.ok _ _;rw[B x (by simp[Op.operands])]
 |assign x=>show Res.ok _ _=Res.ok _ _;rw[B x (by simp[Op.operands])]
 |pick c a b=>show aT E c a b fr h=aT E c a b fr' h;unfold aT;rw[B c (by simp[Op.operands]),B a (by simp[Op.operands]),B b (by simp[Op.operands])]
 |alloc t=>rfl
 |box t x=>show mC E t x fr h=mC E t x fr' h;unfold mC;rw[B x (by simp[Op.operands])]
 |build t ps=>show Rf E t ps fr h=Rf E t ps fr' h;unfold Rf;rw[Ew ps.toList (fun y C=>B y (by simpa[Op.operands]using C))]
 |buildSlice t n ps=>show L9 E t n ps fr h=L9 E t n ps fr' h;unfold L9;rw[Ew ps.toList (fun y C=>B y (by simpa[Op.operands]using C))]
 |load t x=>show aU E t x fr h=aU E t x fr' h;unfold aU;rw[B x (by simp[Op.operands])]
 |store t a x=>show Rg E t a x fr h=Rg E t a x fr' h;unfold Rg;rw[B a (by simp[Op.operands]),B x (by simp[Op.operands])]
 |nilCheck x=>show Cq E x fr h=Cq E x fr' h;unfold Cq;rw[B x (by simp[Op.operands])]
 |binOp op t x y u=>show Rh E op t x y fr h=Rh E op t x y fr' h;unfold Rh;rw[B x (by simp[Op.operands]),B y (by simp[Op.operands])]
 |unOp op t x=>show aV E op x fr h=aV E op x fr' h;unfold aV;rw[B x (by simp[Op.operands])]
 |convert s d x=>show Gw E s d x fr h=Gw E s d x fr' h;unfold Gw;rw[B x (by simp[Op.operands])]
 |makeFunc f first caps=>show Cr E f first caps fr h=Cr E f first caps fr' h;unfold Cr;rw[Cy first.toList (fun y C=>B y (by simp[Op.operands];exact .inl (by simpa using C))),Cy caps.toList (fun y C=>B y (by simp[Op.operands];exact .inr (by simpa using C)))]
 |makeMap t r=>rfl
 |typeAssert x xt t ok=>show u5 E t ok x fr h=u5 E t ok x fr' h;unfold u5;rw[B x (by simp[Op.operands])]
 |makeInterface t x=>show W6 E t x fr h=W6 E t x fr' h;unfold W6;rw[B x (by simp[Op.operands])]
 |makeSlice t l c=>show O0 E t l c fr h=O0 E t l c fr' h;unfold O0;rw[B l (by simp[Op.operands]),B c (by simp[Op.operands])]
 |slice t x lo hi mx=>
  show Gx E t x lo hi mx fr h=Gx E t x lo hi mx fr' h;unfold Gx
  rw[B x (by simp[Op.operands]),Jw lo (fun y e=>B y (by simp[Op.operands,e])),Jw hi (fun y e=>B y (by simp[Op.operands,e])),Jw mx (fun y e=>B y (by simp[Op.operands,e]))]
 |fieldAddr t x f=>show Ae E t x f fr h=Ae E t x f fr' h;unfold Ae;rw[B x (by simp[Op.operands])]
 |field t x f=>show Ri E t x f fr h=Ri E t x f fr' h;unfold Ri;rw[B x (by simp[Op.operands])]
 |indexAddr t x i=>show Af E t x i fr h=Af E t x i fr' h;unfold Af;rw[B x (by simp[Op.operands]),B i (by simp[Op.operands])]
 |index t x i=>show Rj E t x i fr h=Rj E t x i fr' h;unfold Rj;rw[B x (by simp[Op.operands]),B i (by simp[Op.operands])]
 |lookup t m k ok=>rfl
 |mapUpdate t m k x=>rfl
 |insert t m k x=>rfl
 |extract t i=>show Gy E t i fr h=Gy E t i fr' h;unfold Gy;rw[B t (by simp[Op.operands])]
 |call c=>
  show iY E call c fr h=iY E call c fr' h
  obtain⟨D,args,argTypes⟩:=c;have ha:=Cy (E:=E) (fr:=fr) (fr':=fr') args.toList (fun y C=>B y (by simp[Op.operands,Call.operands];exact .inr (by simpa using C)));cases D with
  |value f=>
   have hf:=B f (by simp[Op.operands,Call.operands]);show Y9 call (opv E f fr) (fk E args.toList fr) h=Y9 call (opv E f fr') (fk E args.toList fr') h
   rw[hf,ha]
  |invoke f n=>rfl
  |builtin b=>
   show lift2 (F5 E b argTypes.toList (fk E args.toList fr) h)=lift2 (F5 E b argTypes.toList (fk E args.toList fr') h)
   rw[ha]
 |panic x=>show Rk E x fr h=Rk E x fr' h;unfold Rk;rw[B x (by simp[Op.operands])]
 |_=>rfl
theorem L7{x:Option AV}{v:AV}{h h':Vg}(C:lift x h=.ok v h')(B:Vg):h'=h/\lift x B=.ok v B:=by
 cases x with
 |none=>cases C
 |some a=>cases C;exact⟨rfl,rfl⟩
theorem Q3{t:Nat}{f:Vg->TI->Res}{v:AV}{h':Vg}{B:Vg}(hf:∀x,f h x=.ok v h'->h'=h/\f B x=.ok v B)(C:onTI E t .bad (f h)=.ok v h'):h'=h/\onTI E t .bad (f B)=.ok v B:=by
 unfold onTI at C|-;cases D:E.ti t with
 |none=>simp_all
 |some x=>rw[D]at C;grind
theorem Od{op:Op}(hc:Ib op=0){fr:Tr}{v:AV}{h':Vg}(B:fg E call op fr h=.ok v h')(C:Vg):h'=h/\fg E call op fr C=.ok v C:=by
 cases op with
 |move x=>cases B;exact⟨rfl,rfl⟩
 |assign x=>cases B;exact⟨rfl,rfl⟩
 |pick c x y=>
  have B:(opv E c fr).onBool Res.bad (fun t=>match t with|true=>Res.ok (opv E x fr) h|false=>Res.ok (opv E y fr) h)=Res.ok v h':=B;show _/\(opv E c fr).onBool Res.bad (fun t=>match t with|true=>Res.ok (opv E x fr) C|false=>Res.ok (opv E y fr) C)=Res.ok v C
  cases H:opv E c fr with
  |bool b=>rw[H]at B;cases b<;>(cases B;exact⟨rfl,rfl⟩)
  |_=>rw[H]at B;cases B
 |binOp op t x y u=>exact L7 B C
 |unOp op t x=>exact L7 B C
 |convert s d x=>exact Q3 (f:=fun h _=>onTI E d .bad fun I=>lift (R4 I.desc (opv E x fr)) h) (fun _ D=>Q3 (f:=fun h I=>lift (R4 I.desc (opv E x fr)) h) (fun _ D=>L7 D C) D) B
 |extract t i=>
  have B:(opv E t fr).onTup Res.bad (fun vs=>lift (Eh vs i) h)=Res.ok v h':=B;show _/\(opv E t fr).onTup Res.bad (fun vs=>lift (Eh vs i) C)=Res.ok v C
  cases H:opv E t fr with
  |tup vs=>rw[H]at B;exact L7 B C
  |_=>rw[H]at B;cases B
 |field t x f=>exact Q3 (f:=fun h ti=>lift (A5 (fieldAt E ti f) fun p=>(opv E x fr).onAgg zn fun cs=>ct p.1 cs p.2) h) (fun _ D=>L7 D C) B
 |fieldAddr t x f=>exact Q3 (f:=fun h ti=>lift (A5 (fieldAt E ti f) fun p=>B5 (Nat.blt 0 p.1.size) (C0 (opv E x fr) p.2)) h) (fun _ D=>L7 D C) B
 |indexAddr t x i=>exact Q3 (f:=fun h ti=>lift (A5 (ew (opv E i fr)) fun i=>R5 E ti.desc i (opv E x fr)) h) (fun _ D=>L7 D C) B
 |index t x i=>exact Q3 (f:=fun h ti=>lift (A5 (ew (opv E i fr)) fun i=>El E ti.desc i (opv E x fr)) h) (fun _ D=>L7 D C) B
 |slice t x lo hi mx=>
  refine Q3 (f:=fun h ti=>bif hi.isNone&&mx.isSome then .bad else lift (jd E ti.desc (Nx E lo fr) (Nx E hi fr) (Nx E mx fr) (opv E x fr)) h) (fun _ D=>?_) B;grind[L7]
 |nilCheck x=>exact L7 B C
 |build t ps=>exact Q3 (f:=fun h ti=>lift (X3 E ti (iz E ps.toList fr)) h) (fun _ D=>L7 D C) B
 |makeInterface t x=>
  refine Q3 (f:=fun h ti=>bif V0 ti.desc then .ok (.iface t (opv E x fr)) h else .bad) (fun ti D=>?_) B;grind
 |makeFunc f first caps=>cases B;exact⟨rfl,rfl⟩
 |call c=>
  exfalso
  obtain⟨G,args,argTypes⟩:=c;cases G with
  |builtin b=>cases b<;>cases hc
  |_=>cases hc
 |_=>cases hc
theorem jJ{α:Type}{i:Nat}{d:α}{f:List AV->Nat->α}{B:Vg}(hg:B.get i=h.get i):B.onRow i d f=h.onRow i d f:=by grind[Vg.onRow]
theorem eG{α:Type}{i:Nat}{d:α}{f:List (AV×AV)->α}{B:Vg}(hg:B.get i=h.get i):B.onMapo i d f=h.onMapo i d f:=by grind[Vg.onMapo]
theorem rW{x y:Option AV}{v:AV}{h h' B:Vg}(e:y=x)(hx:lift x h=.ok v h'):h'=h/\lift y B=.ok v B:=by
 grind[L7]
theorem jK{B:Vg}{t:TI}{x:AV}(hg:∀i,n7 x=zs i->B.get i=h.get i):Ek t x B=Ek t x h:=by
 cases x with
 |ptr id i off=>exact jJ (hg id rfl)
 |_=>rfl
theorem oW{B:Vg}{d:TD}{x:AV}(hg:∀i,n7 x=zs i->B.get i=h.get i):iW d x B=iW d x h:=by
 cases d with
 |map k e=>
  cases x with
  |map id=>exact eG (hg id rfl)
  |_=>rfl
 |_=>rfl
theorem a05{W:World}{cx:Cx}{u:Value}{id:Nat}(B:Rep W cx u (.map id)):id<cx.nx:=by
 cases B;assumption
theorem Te{W:World}{cx:Cx}{u:Value}{x:AV}(C:Rep W cx u x){i:Nat}(B:n7 x=zs i):i<cx.nx:=by
 cases x with
 |ptr id i off=>cases B;exact C.ptr_inv.1
 |map id=>cases B;exact a05 C
 |_=>cases B
theorem rX{W:World}{cx:Cx}{op:Op}{fr:Tr}(G:∀y∈op.operands.toList,∃u,Rep W cx u (opv E y fr)){i:Nat}(C:lu E op fr=zs i):i<cx.nx:=by
 cases op with
 |load t x=>obtain⟨u,D⟩:=G x (by simp[Op.operands]);exact Te D C
 |lookup t m k ok=>obtain⟨u,D⟩:=G m (by simp[Op.operands]);exact Te D C
 |call c=>
  obtain⟨callee,args,argTypes⟩:=c;have C:(match args.toList with|[]=>zn|x::_=>n7 (opv E x fr))=zs i:=C;cases B:args.toList with
  |nil=>grind
  |cons a r=>
   rw[B]at C;obtain⟨u,D⟩:=G a (by simp[Op.operands,Call.operands];exact .inr (Array.mem_toList_iff.1 (by rw[B];exact zqf ..)));exact Te D C
 |_=>cases C
theorem jL{op:Op}(hc:Ib op=1){fr:Tr}{C:Vg}(hg:∀i,lu E op fr=zs i->C.get i=h.get i){v:AV}{h':Vg}(B:fg E call op fr h=.ok v h'):h'=h/\fg E call op fr C=.ok v C:=by
 cases op with
 |load t x=>
  exact Q3 (f:=fun h ti=>lift (Ek ti (opv E x fr) h) h) (fun ti J=>rW (jK hg) J) B
 |lookup t m k ok=>cases B
 |call c=>
  obtain⟨G,args,argTypes⟩:=c;cases G with
  |builtin b=>
   have B:lift2 (F5 E b argTypes.toList (fk E args.toList fr) h)=.ok v h':=B;show _/\lift2 (F5 E b argTypes.toList (fk E args.toList fr) C)=.ok v C
   have hrep:∀x l,fk E args.toList fr=x::l->∀i,n7 x=zs i->C.get i=h.get i:=by
    intro x l e i hi;refine hg i ?_;show(match args.toList with|[]=>zn|x::_=>n7 (opv E x fr))=zs i
    cases D:args.toList with
    |nil=>rw[D]at e;cases e
    |cons a r=>
     rw[D]at e;have e:opv E a fr::fk E r fr=x::l:=e
     have:=(List.cons.inj e).1
     show n7 (opv E a fr)=_
     rw[this];exact hi
   cases b with
   |len=>
    have B:lift2 (Wi E argTypes.toList (fk E args.toList fr) h)=.ok v h':=B;show _/\lift2 (Wi E argTypes.toList (fk E args.toList fr) C)=.ok v C
    unfold Wi at B|-;generalize argTypes.toList=I at B|-;generalize fk E args.toList fr=vs at B hrep|-;cases I with
    |nil=>cases B
    |cons t ts=>
     cases vs with
     |nil=>cases B
     |cons x l=>
      have N:=hrep x l rfl;dsimp only at B|-;unfold onTI at B|-;generalize E.ti t=Q at B|-;cases Q with
      |none=>cases B
      |some ti=>
       dsimp only at B|-;rw[oW N];cases hl:iW ti.desc x h with
       |none=>rw[hl]at B;cases B
       |some n=>
        rw[hl]at B;simp only[A5,C1,lift2]at B|-;cases B;exact⟨rfl,rfl⟩
   |max=>
    have B:lift2 (oP (fk E args.toList fr) h)=.ok v h':=B;show _/\lift2 (oP (fk E args.toList fr) C)=.ok v C
    unfold oP at B|-;generalize fk E args.toList fr=vs at B|-;cases vs with
    |nil=>cases B
    |cons x l=>
     dsimp only at B|-;cases H:Nt l x with
     |none=>rw[H]at B;cases B
     |some r=>rw[H]at B;cases B;exact⟨rfl,rfl⟩
   |min=>
    have B:lift2 (oQ (fk E args.toList fr) h)=.ok v h':=B;show _/\lift2 (oQ (fk E args.toList fr) C)=.ok v C
    unfold oQ at B|-;generalize fk E args.toList fr=vs at B|-;cases vs with
    |nil=>cases B
    |cons x l=>
     dsimp only at B|-;cases H:Qm l x with
     |none=>rw[H]at B;cases B
     |some r=>rw[H]at B;cases B;exact⟨rfl,rfl⟩
   |_=>cases hc
  |_=>cases hc
 |_=>cases hc
end
end Go.AM
/-
 The abstract machine: new objects; what is left as it was.
-/
namespace Go.AM
section
variable {P:Program}{E:Env}{W:World}{cx:Cx}{h:Vg}{call:E3}
def zN(P:Program)(W:World)(cx:Cx)(s:Sem Next)(es:List AV)(sz:Nat)(nx:Nat->AV):Prop:=
 ∃ (c:Array Value) (t:TypeId) (vs:List Value) (v':Value),s.run P W=.ok (.value v') (W.alloc (.cells c t))/\db W cx vs es sz/\(∀(k:Nat) v,vs[k]?=zs v->c[k]?=zs v)/\lz es*sz<=c.size/\
   ∀(W₂:World)(cx₂:Cx)(id:Nat),cx₂.μ id=(W.heap.size,0,sz)->id<cx₂.nx->W.heap.size<W₂.heap.size->mm W₂ W.heap.size=c.size->Rep W₂ cx₂ v' (nx id)
theorem Yb{v:Value}{a:AV}{sz:Nat}(D:Rep W cx v a)(C:Wl v.cells.toList)(G:a≠.und)(hz:lz a.cells=sz)(t:TypeId){s:Sem Next}(H:s.run P W=.ok (.value (.pointer (zs ⟨W.heap.size,0,zn⟩))) (W.alloc (.cells v.cells t))):
 zN P W cx s [a] sz (fun id=>.ptr id 0 0):=by
 have B:=D.cells G;refine⟨v.cells,t,_,_,H,db.one B C hz,fun k v hk=>by grind,by have:=B.1;grind,fun W₂ cx₂ id h1 I h3 h4=>?_⟩
 have:=Rep.ptr (W:=W₂) (cx:=cx₂) id 0 0 I (by grind)
 grind
theorem rY(Y:dn E P)(U:Sat E W cx h){a:Act}{fr:Tr}(hf:dh W cx a.tmps fr)(o:Oper)(hc:Ib o.op=2){v:AV}{D h':Vg}(I:fg E call o.op fr D=.ok v h'):
 ∃es sz nx,v=nx D.next/\h'=D.push (.row es sz)/\(∀B,fg E call o.op fr B=.ok (nx B.next) (B.push (.row es sz)))/\zN P W cx (execOp a.eval o) es sz nx:=by
 have V:=fun x=>W7 (E:=E) U hf x
 obtain⟨dst,op,type,pos,after,guard⟩:=o;cases op with
 |alloc t=>
  obtain⟨ti,H,C⟩:=F4 I;have Q:=Y.ti t ti H;obtain⟨z,ab,N⟩:=Q.run_zero (W:=W);cases C;refine⟨[ti.zero],ti.size,fun id=>.ptr id 0 0,rfl,rfl,fun B=>?_,Yb (N.rep W cx) N.one N.und Q.zsz t ?_⟩
  . show onTI E t .bad (fun ti=>iX ti.size ti.zero B)=_
    unfold onTI;rw[H];rfl
  . simp[execOp,Instr.alloc,ab,newVar,newRow]
 |box t x=>
  obtain⟨ti,H,C⟩:=F4 I;cases hg:(Nat.beq (dw (opv E x fr).cells) ti.size&&E4 (opv E x fr).cells)with
  |false=>grind
  |true=>
   rw [hg]at C;cases C;have aa:=hg;rw[zqa,A4,G9]at hg;have hu:opv E x fr≠.und:=fun e=>by
    have:=hg.2 .und (by rw[e];simp[AV.cells])
    cases this
   refine⟨[opv E x fr],ti.size,fun id=>.ptr id 0 0,rfl,rfl,fun B=>?_,Yb (V x) (((V x).cells hu).one hg.2) hu (D8 hg.1) t ?_⟩
   . show onTI E t .bad (fun ti=>bif Nat.beq (dw (opv E x fr).cells) ti.size&&E4 (opv E x fr).cells then iX ti.size (opv E x fr) B else .bad)=_
     unfold onTI;rw[H];dsimp only;rw[aa];rfl
   . simp[execOp,Instr.box,newVar,newRow]
 |buildSlice t n ps=>
  obtain⟨ti,H,C⟩:=F4 I;cases G:cu E ti.desc with
  |none=>grind
  |some te=>
   rw[G]at C;cases hg:(Nat.ble (Nat.mul n te.size) 65536&&Nat.blt 0 te.size)with
   |false=>grind
   |true=>
    simp only[hg,cond_true]at C;cases hp:gi te.size (iz E ps.toList fr) (oi n te.zero)with
    |none=>grind
    |some es=>
     rw[hp]at C;cases C;obtain⟨l1,l2⟩:=Ha U hf ps.toList;obtain⟨e,X,h1,h2,h3,h4⟩:=Fa Y U H G (ps:=ps.map fun p=>(p.1,a.eval p.2)) (by grind) (by grind) hg hp;refine⟨es,te.size,fun id=>.msl id 0 n te.size,rfl,rfl,fun B=>?_,X,e,X.toList,.slice (zs ⟨W.heap.size,0,zn⟩) n n,?_,h2,fun k v hk=>by grind,by grind,fun W₂ cx₂ id k1 k2 k3 k4=>?_⟩
     . show L9 E t n ps fr B=_
       unfold L9;unfold onTI;rw[H];grind
     . show((do pure (.value (<-Instr.buildSlice t n (ps.map fun p=>(p.1,a.eval p.2))))):Sem Next).run P W=_
       simp_all
     simp_all[bN]
 |makeSlice t l c=>
  obtain⟨ti,H,C⟩:=F4 I;cases G:cu E ti.desc with
  |none=>grind
  |some te=>
   rw[G]at C;dsimp only at C;cases hl:ew (opv E l fr)with
   |none=>grind
   |some n=>
    rw[hl]at C;dsimp only at C;cases hm:ew (opv E c fr)with
    |none=>grind
    |some m=>
     rw[hm]at C;dsimp only at C;cases hg:(Nat.ble n m&&Nat.ble (Nat.mul m te.bytes) 140737488355328&&Nat.blt 0 te.size)with
     |false=>grind
     |true=>
      rw[hg]at C;cases C;obtain⟨e,X,vs,h1,h2,h3,h4,h5⟩:=Wu Y U H G (V l) (V c) hl hm hg;refine⟨oi n te.zero,te.size,fun id=>.msl id 0 n te.size,rfl,rfl,fun B=>?_,X,e,vs,.slice (zs ⟨W.heap.size,0,zn⟩) n m,?_,h2,h3,by simp_all[m7,Nat.mul_le_mul_right],fun W₂ cx₂ id k1 k2 k3 k4=>?_⟩
      . show O0 E t l c fr B=_
        unfold O0;unfold onTI;rw[H];grind
      . show((do pure (.value (<-Instr.makeSlice t (a.eval l) (a.eval c)))):Sem Next).run P W=_
        simp_all
      grind[bN]
 |call c=>
  exfalso
  obtain⟨J,args,argTypes⟩:=c;cases J with
  |builtin b=>cases b<;>cases hc
  |_=>cases hc
 |_=>cases hc
structure gg(h h':Vg):Prop where
 next:h.next<=h'.next
 get:∃new,h'.tch=new++h.tch/\∀i,i<h.next->i∉new->h'.get i=h.get i
def Res.heap(r:Res):Option Vg:=match r with | .ok _ h=>zs h | .pan _ h=>zs h | .bad=>zn
def N3(call:E3):Prop:=∀f l h h',Res.heap (call f l h)=zs h'->gg h h'
theorem gg.refl(h:Vg):gg h h:=⟨zql _,[],rfl,fun _ _ _=>rfl⟩
theorem gg.trans{h B C:Vg}(a:gg h B)(b:gg B C):gg h C:=by
 obtain⟨D,G,a2,a3⟩:=a;obtain⟨H,I,b2,b3⟩:=b;refine⟨zqm D H,I++G,by grind,fun i hi hn=>?_⟩;grind
theorem gg.set(h:Vg)(i:Nat)(x:io):gg h (h.set i x):=
 ⟨zql _,[i],rfl,(by grind[Go.AM.Vg.get_set_ne])⟩
theorem gg.del(h:Vg)(i:Nat):gg h (h.del i):=
 ⟨zql _,[i],rfl,(by grind[Go.AM.Vg.get_del_ne])⟩
theorem gg.push(h:Vg)(x:io):gg h (h.push x):=
 ⟨Nat.le_succ _,[],rfl,(by grind[Go.AM.Vg.get_push_ne])⟩
theorem l5{t:Nat}{f:TI->Res}{v:AV}{h':Vg}(hx:onTI E t .bad f=.ok v h')(hf:∀x,f x=.ok v h'->gg h h'):gg h h':=by
 grind[F4]
theorem Yc{x:Option AV}{v:AV}{h':Vg}(B:lift x h=.ok v h'):gg h h':=by
 rw[(H8 B).2];exact .refl h
theorem Lx{te:TI}{s:AV}{xs:List AV}{r:AV}{h':Vg}(ha:I1 te s xs h=zs (r,h')):gg h h':=by
 unfold I1 at ha;cases xs with
 |nil=>cases s<;>first|(cases ha;exact .refl h)|cases ha
 |cons x xs=>
  cases s with
  |x0a=>
   have ha:Ad te [] zt (x::xs) h=zs (r,h'):=ha;rw[Jt]at ha;rw[C1]at ha;obtain⟨_,ha⟩:=A6 ha;cases ha;exact .push _ _
  |fsl es full=>
   have ha:Ad te es full (x::xs) h=zs (r,h'):=ha;rw[Jt]at ha;rw[C1]at ha;obtain⟨_,ha⟩:=A6 ha;cases ha;exact .push _ _
  |msl id off n sz=>
   obtain⟨es,sz',_,ha⟩:=Vg.onRow_some ha;rw[Su]at ha;rw[C1]at ha;obtain⟨_,ha⟩:=A6 ha;cases ha;exact(gg.del h id).trans (.push _ _)
  |_=>cases ha
theorem nw{b:Builtin}{ts:List TypeId}{args:List AV}{r:AV}{h':Vg}(hb:F5 E b ts args h=zs (r,h')):gg h h':=by
 cases b with
 |append=>
  have hb:Lg E ts args h=zs (r,h'):=hb;unfold Lg at hb;cases ts with
  |nil=>cases hb
  |cons t ts=>
   cases ts with
   |nil=>cases hb
   |cons tx ts=>
    cases args with
    |nil=>cases hb
    |cons s l=>
     cases l with
     |nil=>cases hb
     |cons x l=>
      obtain ⟨ti,_,hb⟩:=E8 hb;obtain⟨te,_,hb⟩:=A1 hb;obtain⟨_,hb⟩:=A6 hb;obtain⟨C,_,hb⟩:=E8 hb;have B:A5 (elems x h) (fun xs=>B5 (G1 te.size xs) (I1 te s xs h))=zs (r,h')->gg h h':=fun hb=>by
       obtain⟨xs,_,hb⟩:=A1 hb;obtain⟨_,hb⟩:=A6 hb;exact Lx hb
      cases D:C.desc with
      |int k=>
       rw[D]at hb;obtain⟨n,_,hb⟩:=A1 hb;obtain⟨_,hb⟩:=A6 hb;exact Lx hb
      |_=>rw[D]at hb;exact B hb
 |len=>
  have hb:Wi E ts args h=zs (r,h'):=hb;unfold Wi at hb;cases ts with
  |nil=>cases hb
  |cons t ts=>
   cases args with
   |nil=>cases hb
   |cons x l=>
    obtain⟨ti,_,hb⟩:=E8 hb;obtain⟨n,_,hb⟩:=A1 hb;rw[C1]at hb;cases hb;exact .refl _
 |copy=>
  have hb:dV E ts args h=zs (r,h'):=hb;unfold dV at hb;cases ts with
  |nil=>cases hb
  |cons t ts=>
   cases args with
   |nil=>cases hb
   |cons d l=>
    cases l with
    |nil=>cases hb
    |cons s l=>
     obtain⟨ti,_,hb⟩:=E8 hb;obtain⟨te,_,hb⟩:=A1 hb;obtain⟨xs,_,hb⟩:=A1 hb;obtain⟨_,hb⟩:=A6 hb;cases d with
     |msl id off n sz=>
      obtain⟨es,sz',_,hb⟩:=Vg.onRow_some hb;unfold Lf at hb;rw[C1]at hb;obtain⟨_,hb⟩:=A6 hb;cases hb;exact .set _ _ _
     |x0a=>cases hb;exact .refl _
     |_=>cases hb
 |max=>
  cases args with
  |nil=>cases hb
  |cons x l=>
   obtain⟨y,_,hb⟩:=zqn.1 (show(Nt l x).map (·,h)=zs (r,h')from hb);cases hb;exact .refl _
 |min=>
  cases args with
  |nil=>cases hb
  |cons x l=>
   obtain⟨y,_,hb⟩:=zqn.1 (show(Qm l x).map (·,h)=zs (r,h')from hb);cases hb;exact .refl _
 |_=>cases hb
theorem kw(I:N3 call){op:Op}{fr:Tr}{v:AV}{h':Vg}(B:fg E call op fr h=.ok v h'):gg h h':=by
 by_cases h0:Ib op=0
 . rw[(Od h0 B h).1];exact .refl _
 cases op with
 |alloc t=>exact l5 B fun ti C=>by cases C;exact .push _ _
 |box t x=>
  refine l5 B fun ti C=>?_
  cases hb:(Nat.beq (dw (opv E x fr).cells) ti.size&&E4 (opv E x fr).cells)with
  |true=>rw[hb]at C;cases C;exact .push _ _
  |false=>rw[hb]at C;cases C
 |buildSlice t n ps=>
  refine l5 B fun ti C=>?_
  cases G:cu E ti.desc with
  |none=>rw[G]at C;cases C
  |some te=>
   rw[G]at C;dsimp only at C;cases hg:(Nat.ble (Nat.mul n te.size) 65536&&Nat.blt 0 te.size)with
   |false=>rw[hg]at C;cases C
   |true=>
    rw[hg]at C;simp only[cond_true]at C;cases J:gi te.size (iz E ps.toList fr) (oi n te.zero)with
    |none=>rw[J]at C;cases C
    |some es=>rw[J]at C;cases C;exact .push _ _
 |load t x=>exact l5 B fun ti C=>Yc C
 |typeAssert x xt t ok=>
  refine l5 B fun ti C=>?_
  cases hb:(V0 ti.desc && !ok)with
  |true=>rw[hb]at C;exact Yc C
  |false=>rw[hb]at C;cases C
 |lookup t m k ok=>cases B
 |store t x y=>
  refine l5 B fun ti C=>?_
  cases D:Cp ti (opv E x fr) (opv E y fr) h with
  |none=>rw[D]at C;cases C
  |some h2=>
   rw[D]at C;cases C;cases J:opv E x fr with
   |ptr id i off=>
    rw[J]at D;obtain⟨es,sz,_,D⟩:=Vg.onRow_some D;obtain⟨old,_,D⟩:=A1 D;obtain⟨_,D⟩:=A6 D;cases D;exact .set _ _ _
   |_=>rw[J]at D;cases D
 |makeMap t r=>
  cases r with
  |none=>cases B;exact .push _ _
  |some r=>cases B
 |makeSlice t l c=>
  refine l5 B fun ti C=>?_
  cases G:cu E ti.desc with
  |none=>rw[G]at C;cases C
  |some te=>
   rw[G]at C;dsimp only at C;cases hl:ew (opv E l fr)with
   |none=>rw[hl]at C;cases C
   |some n=>
    rw[hl]at C;dsimp only at C;cases N:ew (opv E c fr)with
    |none=>rw[N]at C;cases C
    |some m=>
     rw[N]at C;dsimp only at C;cases hg:(Nat.ble n m&&Nat.ble (Nat.mul m te.bytes) 140737488355328&&Nat.blt 0 te.size)with
     |false=>rw[hg]at C;cases C
     |true=>rw[hg]at C;cases C;exact .push _ _
 |mapUpdate t m k x=>cases B
 |insert t m k x=>cases B
 |call c=>
  obtain⟨H,args,argTypes⟩:=c;cases H with
  |value f=>
   have B:Y9 call (opv E f fr) (fk E args.toList fr) h=.ok v h':=B;cases D:opv E f fr with
   |fn g first caps=>
    rw[D]at B;cases g with
    |func n=>exact I _ _ _ _ (by show Res.heap (Y9 call (.fn (.func n) first caps) (fk E args.toList fr) h)=_;rw[B];rfl)
    |_=>cases B
   |_=>rw[D]at B;cases B
  |invoke f n=>cases B
  |builtin b=>
   have B:lift2 (F5 E b argTypes.toList (fk E args.toList fr) h)=.ok v h':=B;cases D:F5 E b argTypes.toList (fk E args.toList fr) h with
   |none=>rw[D]at B;cases B
   |some p=>rw[D]at B;cases B;exact nw D
 |panic x=>
  exfalso
  have B:oS (opv E x fr) h=.ok v h':=B;cases D:opv E x fr<;>rw[D]at B<;>cases B
 |_=>first|exact absurd rfl h0|cases B
theorem ja(C:N3 call){op:Op}{fr:Tr}{v:AV}{h':Vg}(B:fg E call op fr h=.pan v h'):gg h h':=by
 by_cases G:∃x,op=.panic x
 . obtain⟨x,rfl⟩:=G
   have B:oS (opv E x fr) h=.pan v h':=B;cases D:opv E x fr with
   |iface t w=>rw[D]at B;cases B;exact .refl h
   |_=>rw[D]at B;cases B
 . by_cases hc:∃c f,op=.call c/\c.callee=.value f
   . obtain ⟨c,f,rfl,hf⟩:=hc
     obtain⟨callee,args,argTypes⟩:=c;dsimp only at hf;subst hf;have B:Y9 call (opv E f fr) (fk E args.toList fr) h=.pan v h':=B;cases D:opv E f fr with
     |fn g first caps=>
      rw[D]at B;cases g with
      |func n=>exact C _ _ _ _ (by show Res.heap (Y9 call (.fn (.func n) first caps) (fk E args.toList fr) h)=_;rw[B];rfl)
      |_=>cases B
     |_=>rw[D]at B;cases B
   . exact absurd B (Td (fun x e=>G ⟨x,e⟩) (fun c f e e2=>hc ⟨c,f,e,e2⟩) v h')
end
end Go.AM
/-
 The abstract machine: a region that draws its order: the plan,and the run in the order of reference.
-/
namespace Go.AM
structure pn(ops:Array Oper)(ms l:List Nat):Prop where
 len:lz l=ops.size
 lt:∀(m i:Nat),l[m]?=zs i->i<ops.size
 all:∀(i:Nat),i<ops.size->∃m:Nat,l[m]?=zs i
 inj:∀(m m' i:Nat),l[m]?=zs i->l[m']?=zs i->m=m'
 pair:∀(m m' i j:Nat),m<m'->l[m]?=zs i->l[m']?=zs j->aX ops.toList ms i j=zt/\bit (ms.getD i 0) j=zf
 mask:∀(i j:Nat),i<ops.size->j<ops.size->bit (ms.getD j 0) i=zt->∃o,ops[j]?=zs o/\∃e∈jk o,e=i\/bit (ms.getD e 0) i=zt
 news:∀(m i:Nat)(o:Oper),l[m]?=zs i->ops[i]?=zs o->Ib o.op=2->∀(m' j:Nat),m<m'->l[m']?=zs j->bit (ms.getD j 0) i=zt->∀(m'' k:Nat),m''<m->l[m'']?=zs k->bit (ms.getD j 0) k=zt
 edge:∀(j:Nat)(o:Oper)(e:Nat),ops[j]?=zs o->e∈jk o->e<ops.size/\bit (ms.getD j 0) e=zt/\e≠j
 dst:∀(m m' i j:Nat)(x y:Oper)(d:Tmp),m<m'->l[m]?=zs i->l[m']?=zs j->ops[i]?=zs x->ops[j]?=zs y->x.dst=zs d->y.dst≠zs d
theorem Tf:∀(l:List Nat),aZ l=zt->∀(m m':Nat) i,l[m]?=zs i->l[m']?=zs i->m=m'
 |[],_,m,m',i,h,_=>by simp at h
 |a :: r,hn,m,m',i,h,h'=>by
  unfold aZ at hn;rw[zqa]at hn;have hc:a∉r:=by
   grind
  cases m with
  |zero=>
   grind
  |succ m=>
   cases m' with
   |zero=>
    grind
   |succ m'=>
    simp at h h';rw[Tf r hn.2 m m' i h h']
theorem mn{ops:List Oper}{ms:List Nat}:∀(l:List Nat),Rm ops ms l=zt->∀(m m':Nat) i j,m<m'->l[m]?=zs i->l[m']?=zs j->aX ops ms i j=zt/\bit (ms.getD i 0) j=zf
 |[],_,m,m',i,j,_,h,_=>by simp at h
 |a :: r,hn,m,m',i,j,hlt,h,h'=>by
  unfold Rm at hn;rw[zqa]at hn;cases m' with
  |zero=>omega
  |succ m'=>
   simp at h';cases m with
   |zero=>
    grind
   |succ m=>
    simp at h;exact mn r hn.2 m m' i j (by omega) h h'
theorem Tg{ops:List Oper}:∀(l:List Nat),bA ops l=zt->∀(m m':Nat) i j x y d,m<m'->l[m]?=zs i->l[m']?=zs j->ops[i]?=zs x->ops[j]?=zs y->x.dst=zs d->y.dst≠zs d
 |[],_,m,m',i,j,x,y,d,_,h,_,_,_,_=>by simp at h
 |a :: r,hn,m,m',i,j,x,y,d,hlt,h,h',hx,hy,hd=>by
  unfold bA at hn;rw[zqa]at hn;cases m' with
  |zero=>omega
  |succ m'=>
   simp at h';cases m with
   |zero=>
    simp at h;subst h
    have:=(zqe.1 hn.1) j (zqh h')
    grind
   |succ m=>
    simp at h;exact Tg r hn.2 m m' i j x y d (by omega) h h' hx hy hd
theorem Th{ops:List Oper}{ms:List Nat}:∀(l B:List Nat),aY ops ms B l=zt->∀(m:Nat) i o,l[m]?=zs i->ops[i]?=zs o->Ib o.op=2->∀m' j,m<m'->l[m']?=zs j->bit (ms.getD j 0) i=zt ->
 (∀k∈B,bit (ms.getD j 0) k=zt)/\∀m'' k,m''<m->l[m'']?=zs k->bit (ms.getD j 0) k=zt
 |[],_,_,m,i,o,h,_,_,_,_,_,_,_=>by simp at h
 |a :: r,B,hn,m,i,o,h,ho,hc,m',j,hlt,h',hb=>by
  unfold aY at hn;rw[zqa]at hn;cases m' with
  |zero=>omega
  |succ m'=>
   simp at h';cases m with
   |zero=>
    simp at h;subst h;have D:=hn.1;have C:gq ops a=2:=by grind[gq]
    rw[C]at D;have h2:(r.all fun j=>!(bit (ms.getD j 0) a)||B.all fun i=>bit (ms.getD j 0) i)=zt:=by simpa using D
    grind
   |succ m=>
    simp at h;obtain⟨h4,h5⟩:=Th r (a::B) hn.2 m i o h ho hc m' j (by omega) h' hb;grind
theorem xF{ops:Array Oper}{ms l:List Nat}(h:Ny ops.toList ms l=zt):pn ops ms l:=by
 unfold Ny at h;simp only[zqa]at h;obtain⟨⟨⟨⟨⟨⟨U,h2⟩,V⟩,h4⟩,h5⟩,X⟩,h7⟩:=h;unfold rN at U;simp only[zqa]at U;obtain⟨⟨⟨a1,a2⟩,a3⟩,a4⟩:=U;have G:lz l=ops.size:=by simp_all
 have N:∀(m i:Nat),l[m]?=zs i->i<ops.size:=fun m i C=>by
  have:=K5 ((zqe.1 a3) i (zqh C));simpa using this
 refine⟨G,N,fun i hi=>?_,fun m m' i=>Tf l a4 m m' i,(by grind[Go.AM.mn]),fun i j hi I hb=>?_,fun m i o C ho hc m' j B D hb m'' k Y J=>?_,fun j o e ho he=>?_,fun m m' i j x y d B C D hx hy hd=>?_⟩
 . have:=(zqe.1 a2) i (by unfold Qn;simp;exact hi)
   have C:i∈l:=by simpa using this
   exact zqi C
 . unfold mD at V
   have H:=(zqe.1 V) j (by unfold Qn;simp;exact I);have Q:=(zqe.1 H) i (by unfold Qn;simp;exact hi);simp_all
 . exact(Th l [] h4 m i o C (by rw[zqc];exact ho) hc m' j B D hb).2 m'' k Y J
 . have I:j<ops.size:=by
    grind
   unfold mE at X;have H:=(zqe.1 X) j (by unfold Qn;simp;exact I);rw[zqc,ho]at H;have Q:=(zqe.1 H) e he;simp only[zqa,zqb]at Q;obtain⟨⟨b1,b2⟩,b3⟩:=Q;refine⟨by simp_all,b2,fun e'=>?_⟩;simp_all
 grind[Tg]
theorem pn.apart{ops:Array Oper}{ms l:List Nat}(J:pn ops ms l){m m' i j:Nat}{x y:Oper}(C:m<m')(D:l[m]?=zs i)(G:l[m']?=zs j)(N:ops[i]?=zs x)(I:ops[j]?=zs y)(hb:bit (ms.getD j 0) i=zf):
 Ib y.op≠3/\(∀d,x.dst=zs d->d∉AM.i2 ops.toList y)/\(∀d,y.dst=zs d->d∉AM.i2 ops.toList x):=by
 have h:=(J.pair m m' i j C D G).1;unfold aX at h;rw[hb]at h;simp only[Bool.false_or,zqa,zqb]at h;obtain⟨H,B⟩:=h;unfold gq at H;rw[zqc,I]at H;unfold qu at B;rw[zqc,N]at B;dsimp only at B;rw[zqc,I]at B;dsimp only at H B;unfold rL at B;rw[zqa]at B;refine⟨fun e=>(by simp_all),fun d Q D=>?_,fun d Q D=>?_⟩
 . grind
 grind
section
variable (E:Env)(call:E3)
abbrev HD:=Vg×List Nat
def zO(r:qp):Option (AV×HD):=match r with | .ok v h d=>zs (v,h,d)|_=>zn
noncomputable def stp(x:XOp)(fr:Tr)(h:HD):Option (AV×HD):=
 match cm x.gd fr with
 |none=>zn
 |some b=>match b with|false=>zs (Yw,h)|true=>zO (dq E call x fr h.1 h.2)
noncomputable def HQ(x:XOp)(s:Tr×HD):Option (Tr×HD):=A5 (stp E call x s.1 s.2) fun r=>zs (co x.dst r.1 s.1,r.2)
noncomputable def St(xs:List XOp)(s₀:Tr×HD):Nat->Option (Tr×HD)
 |0=>zs s₀
 |m+1=>A5 (St xs s₀ m) fun s=>A5 xs[m]? fun x=>HQ E call x s
end
section
variable {E:Env}{call:E3}{xs:List XOp}{s₀:Tr×HD}
theorem bI{m:Nat}{s:Tr×HD}(h:St E call xs s₀ (m+1)=zs s):∃B x r,St E call xs s₀ m=zs B/\xs[m]?=zs x/\stp E call x B.1 B.2=zs r/\s=(co x.dst r.1 B.1,r.2):=by
 obtain⟨B,h1,h⟩:=A1 h;obtain⟨x,h2,h⟩:=A1 h;obtain⟨r,h3,h⟩:=A1 h;grind
theorem Ly{m:Nat}{B:Tr×HD}{x:XOp}{r:AV×HD}(C:St E call xs s₀ m=zs B)(D:xs[m]?=zs x)(G:stp E call x B.1 B.2=zs r):St E call xs s₀ (m+1)=zs (co x.dst r.1 B.1,r.2):=by
 show A5 (St E call xs s₀ m) _=_
 rw[C];show A5 xs[m]? _=_
 rw[D];show A5 (stp E call x B.1 B.2) _=_
 rw[G];rfl
theorem zP{m:Nat}{s:Tr×HD}(h:St E call xs s₀ m=zs s):∀{k:Nat},k<=m->∃B,St E call xs s₀ k=zs B:=by
 induction m generalizing s with
 |zero=>grind
 |succ m ih=>
  intro k hk;rcases Nat.lt_or_ge k (m+1)with h'|h'
  . grind[bI]
  grind
theorem mo:∀(n k:Nat),lz xs-k=n->k<=lz xs->∀(fr:Tr)(h:HD),St E call xs s₀ k=zs (fr,h)->dm E call (xs.drop k) fr h.1 h.2≠.bad ->
 (∃ fr' h',St E call xs s₀ (lz xs)=zs (fr',h')/\dm E call (xs.drop k) fr h.1 h.2=.ok .normal fr' h'.1)\/
   ∃m x fr' h' v hh,k<=m/\St E call xs s₀ m=zs (fr',h')/\xs[m]?=zs x/\cm x.gd fr'=zs zt/\dq E call x fr' h'.1 h'.2=.pan v hh/\fb E call (xs.drop (m+1)) x.late (co x.dst Yw fr') h'.1 h'.2=zt/\dm E call (xs.drop k) fr h.1 h.2=.pan v hh
 |0,k,hn,hk,fr,h,hs,hb=>by
  have:k=lz xs:=by omega
  subst this;exact .inl ⟨fr,h,hs,by rw[List.drop_length];rfl⟩
 |n + 1,k,hn,hk,fr,h,hs,hb=>by
  have D:k<lz xs:=by omega
  have hd:xs.drop k=xs[k]::xs.drop (k+1):=List.drop_eq_getElem_cons D;have J:xs[k]?=zs xs[k]:=zqj D;rw[hd]at hb|-;have e:dm E call (xs[k]::xs.drop (k+1)) fr h.1 h.2=iw (cm xs[k].gd fr) .bad (O6 xs[k].dst (dm E call (xs.drop (k+1))) (fb E call (xs.drop (k+1)) xs[k].late (co xs[k].dst Yw fr) h.1 h.2) fr (dq E call xs[k] fr h.1 h.2)) (dm E call (xs.drop (k+1)) (co xs[k].dst Yw fr) h.1 h.2):=rfl;rw[e]at hb|-;cases hg:cm xs[k].gd fr with
  |none=>rw[hg]at hb;exact absurd rfl hb
  |some b=>
   rw[hg]at hb;cases b with
   |false=>
    have B:stp E call xs[k] fr h=zs (Yw,h):=by unfold stp;rw[hg]
    have H:=Ly hs J B;have hb:dm E call (xs.drop (k+1)) (co xs[k].dst Yw fr) h.1 h.2≠.bad:=hb;rcases mo n (k+1) (by omega) D _ _ H hb with⟨fr',h',G,I⟩|⟨m,x,fr',h',v,hh,G,I,N,Q,U,V,X⟩
    . exact .inl ⟨fr',h',G,I⟩
    . exact .inr ⟨m,x,fr',h',v,hh,by omega,I,N,Q,U,V,X⟩
   |true=>
    have hb:O6 xs[k].dst (dm E call (xs.drop (k+1))) (fb E call (xs.drop (k+1)) xs[k].late (co xs[k].dst Yw fr) h.1 h.2) fr (dq E call xs[k] fr h.1 h.2)≠.bad:=hb;show(∃fr' h',_/\O6 xs[k].dst (dm E call (xs.drop (k+1))) (fb E call (xs.drop (k+1)) xs[k].late (co xs[k].dst Yw fr) h.1 h.2) fr (dq E call xs[k] fr h.1 h.2)=_)\/∃m x fr' h' v hh,k<=m/\_/\_/\_/\_/\_/\O6 xs[k].dst (dm E call (xs.drop (k+1))) (fb E call (xs.drop (k+1)) xs[k].late (co xs[k].dst Yw fr) h.1 h.2) fr (dq E call xs[k] fr h.1 h.2)=_
    cases C:dq E call xs[k] fr h.1 h.2 with
    |bad=>rw[C]at hb;exact absurd rfl hb
    |pan v hh=>
     rw[C]at hb;cases Y:fb E call (xs.drop (k+1)) xs[k].late (co xs[k].dst Yw fr) h.1 h.2 with
     |false=>rw[Y]at hb;exact absurd rfl hb
     |true=>exact .inr ⟨k,xs[k],fr,h,v,hh,zql _,hs,J,hg,C,Y,rfl⟩
    |ok v G d1=>
     rw[C]at hb;have B:stp E call xs[k] fr h=zs (v,G,d1):=by unfold stp;rw[hg];dsimp only;rw[C];rfl
     have H:=Ly hs J B;have hb:dm E call (xs.drop (k+1)) (co xs[k].dst v fr) G d1≠.bad:=hb;rcases mo n (k+1) (by omega) D _ _ H hb with⟨fr',h',G,I⟩|⟨m,x,fr',h',v,hh,G,I,N,Q,U,V,X⟩
     . exact .inl ⟨fr',h',G,I⟩
     . exact .inr ⟨m,x,fr',h',v,hh,by omega,I,N,Q,U,V,X⟩
end
theorem Yd{ops:List Oper}{ms B:List Nat}{a:Nat}{r:List Nat}{C:Oper}(hoa:ops[a]?=zs C):
 Ac ops ms B (a::r)=dD ops (m6 ops ms a r) (Nz ops ms a r) (j9 ops ms a B) C::Ac ops ms (a::B) r:=by
 grind[Ac]
theorem eH{ops:List Oper}{ms:List Nat}:∀(l B:List Nat),(∀i∈l,∃o,ops[i]?=zs o)->∀(m i:Nat) o,l[m]?=zs i->ops[i]?=zs o ->
 (Ac ops ms B l)[m]?=zs (dD ops (m6 ops ms i (l.drop (m+1))) (Nz ops ms i (l.drop (m+1))) (j9 ops ms i ((l.take m).reverse++B)) o)
 |[],_,_,m,i,o,h,_=>by simp at h
 |a::r,B,hl,m,i,o,h,ho=>by
  obtain⟨oa,C⟩:=hl a (zqf ..);rw[Yd C];cases m with
  |zero=>grind
  |succ m=>
   simp at h
   have:=eH (ms:=ms) r (a::B) (by grind) m i o h ho
   grind
theorem Pv{ops:List Oper}{ms:List Nat}:∀(l B:List Nat),(∀i∈l,∃o,ops[i]?=zs o)->lz (Ac ops ms B l)=lz l
 |[],_,_=>rfl
 |a::r,B,hl=>by
  obtain⟨oa,C⟩:=hl a (zqf ..);rw[Yd C,zqk,zqk,Pv r (a::B) (by grind)]
structure jf(ops:Array Oper)(ms l:List Nat)(sk:Nat->Prop)(xs:List XOp):Prop extends pn ops ms l where
 xlen:lz xs=lz l
 xat:∀(m i:Nat)(o:Oper),l[m]?=zs i->ops[i]?=zs o->∃x,xs[m]?=zs x/\x.dst=o.dst/\x.op=o.op/\x.quiet=m6 ops.toList ms i (l.drop (m+1))/\x.careful=j9 ops.toList ms i ((l.take m).reverse++[])/\(¬sk m->x.gd=G3 ops.toList o)
theorem pn.have{ops:Array Oper}{ms l:List Nat}(B:pn ops ms l):∀i∈l,∃o,ops.toList[i]?=zs o:=by
 intro i hi;obtain⟨m,C⟩:=zqi hi
 have:=B.lt m i C
 simp_all
theorem pn.xget{ops:Array Oper}{ms l:List Nat}(B:pn ops ms l){m i:Nat}{o:Oper}(C:l[m]?=zs i)(ho:ops[i]?=zs o):
 (Ac ops.toList ms [] l)[m]?=zs (dD ops.toList (m6 ops.toList ms i (l.drop (m+1))) (Nz ops.toList ms i (l.drop (m+1))) (j9 ops.toList ms i ((l.take m).reverse++[])) o):=
 eH l [] B.have m i o C (by grind)
def Ti(x:XOp):XOp:={x with gd:=zs (zn,zt)}
def bJ:List XOp->List Bool->List XOp
 |[],_=>[]
 |x::xs,[]=>x::xs
 |x::xs,b::bs=>(match b with|true=>Ti x|false=>x)::bJ xs bs
theorem eI:∀(xs:List XOp)(bs:List Bool),lz (bJ xs bs)=lz xs
 |[],bs=>by cases bs<;>rfl
 |x::xs,[]=>rfl
 |x::xs,b::bs=>by show(bJ xs bs).length+1=_;rw[eI xs bs];rfl
theorem eJ:∀(xs:List XOp)(bs:List Bool)(m:Nat)(x:XOp),xs[m]?=zs x->(bJ xs bs)[m]?=zs (if bs[m]?=zs zt then Ti x else x)
 |[],bs,m,x,h=>by simp at h
 |y::xs,[],m,x,h=>by grind[bJ]
 |y::xs,b::bs,0,x,h=>by
  simp at h;subst h;cases b<;>rfl
 |y::xs,b::bs,m+1,x,h=>by
  have:=eJ xs bs m x (by grind)
  simp_all[bJ]
section
variable {E:Env}{call:E3}
theorem Ye(x:XOp)(fr:Tr)(h:HD):stp E call (Ti x) fr h=zs (Yw,h):=rfl
theorem eK{xs ys:List XOp}{s₀:Tr×HD}:∀(m:Nat),(∀q,q<m->ys[q]?=xs[q]?)->St E call ys s₀ m=St E call xs s₀ m
 |0,_=>rfl
 |m+1,h=>by
  show A5 (St E call ys s₀ m) _=A5 (St E call xs s₀ m) _
  rw[eK m fun q hq=>h q (by omega),h m (by omega)]
theorem Lz{ys:List XOp}{s₀:Tr×HD}:∀(xs:List XOp)(late:List Bool)(k:Nat)(fr:Tr)(h:HD),fb E call xs late fr h.1 h.2=zt->(∀(q:Nat)(x:XOp),xs[q]?=zs x->ys[k+q]?=zs (if late[q]?=zs zt then Ti x else x)) ->
 St E call ys s₀ k=zs (fr,h)->∃s,St E call ys s₀ (k+lz xs)=zs s
 |[],late,k,fr,h,_,_,hs=>⟨_,hs⟩
 |x::xs,[],k,fr,h,B,_,_=>by cases B
 |x :: xs,b::late,k,fr,h,B,hy,hs=>by
  have h0:=hy 0 x rfl;have C:∀(q:Nat)(z:XOp),xs[q]?=zs z->ys[k+1+q]?=zs (if late[q]?=zs zt then Ti z else z):=fun q z hz=>by
   have:=hy (q+1) z (by grind)
   grind
  have e:k+lz (x::xs)=k+1+lz xs:=by simp;omega
  rw[e];cases b with
  |true=>
   have B:fb E call xs late (co x.dst Yw fr) h.1 h.2=zt:=B;have h0:ys[k]?=zs (Ti x):=by grind
   exact Lz xs late (k+1) _ h B C (Ly hs h0 (Ye x fr h))
  |false=>
   have B:iw (cm x.gd fr) zf (fw x.dst (fb E call xs late) fr (dq E call x fr h.1 h.2)) (fb E call xs late (co x.dst Yw fr) h.1 h.2)=zt:=B;have h0:ys[k]?=zs x:=by grind
   cases hg:cm x.gd fr with
   |none=>rw[hg]at B;cases B
   |some b=>
    rw[hg]at B;cases b with
    |false=>
     have B:fb E call xs late (co x.dst Yw fr) h.1 h.2=zt:=B;exact Lz xs late (k+1) _ h B C (Ly hs h0 (by unfold stp;rw[hg]))
    |true=>
     have B:fw x.dst (fb E call xs late) fr (dq E call x fr h.1 h.2)=zt:=B;cases D:dq E call x fr h.1 h.2 with
     |ok v G d1=>
      rw[D]at B;exact Lz xs late (k+1) _ (G,d1) B C (Ly hs h0 (by unfold stp;rw[hg];dsimp only;rw[D];rfl))
     |_=>rw[D]at B;cases B
end
end Go.AM
/-
 The abstract machine: a region that draws its order: what holds between its operations.
-/
namespace Go.AM
structure mb(h h':Vg):Prop where
 next:h.next<=h'.next
 get:∀i,i<h.next->h'.get i=h.get i
theorem mb.refl(h:Vg):mb h h:=⟨zql _,fun _ _=>rfl⟩
theorem mb.trans{h B C:Vg}(a:mb h B)(b:mb B C):mb h C:=⟨zqm a.next b.next,fun i hi=>(b.get i (Nat.lt_of_lt_of_le hi a.next)).trans (a.get i hi)⟩
theorem mb.push(h:Vg)(x:io):mb h (h.push x):=⟨Nat.le_succ _,(by grind[Go.AM.Vg.get_push_ne])⟩
section
variable {E:Env}{call:E3}{h:Vg}
theorem oX{op:Op}(hc:Ib op=1){fr:Tr}{v:AV}{h':Vg}(B:fg E call op fr h=.ok v h'):h'=h:=by
 cases op with
 |load t x=>obtain⟨ti,_,D⟩:=F4 B;exact(H8 D).2
 |lookup t m k ok=>cases B
 |call c=>
  obtain⟨C,args,argTypes⟩:=c;cases C with
  |builtin b=>
   have B:lift2 (F5 E b argTypes.toList (fk E args.toList fr) h)=.ok v h':=B;cases D:F5 E b argTypes.toList (fk E args.toList fr) h with
   |none=>rw[D]at B;cases B
   |some p=>
    rw[D]at B;cases B;obtain⟨p1,p2⟩:=p;cases b with
    |len=>
     have hb:Wi E argTypes.toList (fk E args.toList fr) h=zs (p1,p2):=D;unfold Wi at hb;generalize argTypes.toList=G at hb;generalize fk E args.toList fr=vs at hb;cases G with
     |nil=>cases hb
     |cons t ts=>
      cases vs with
      |nil=>cases hb
      |cons x l=>
       obtain⟨ti,_,hb⟩:=E8 hb;obtain⟨n,_,hb⟩:=A1 hb;rw[C1]at hb;cases hb;rfl
    |max=>
     have hb:oP (fk E args.toList fr) h=zs (p1,p2):=D;unfold oP at hb;generalize fk E args.toList fr=vs at hb;cases vs with
     |nil=>cases hb
     |cons x l=>
      obtain⟨y,_,hb⟩:=zqn.1 hb;cases hb;rfl
    |min=>
     have hb:oQ (fk E args.toList fr) h=zs (p1,p2):=D;unfold oQ at hb;generalize fk E args.toList fr=vs at hb;cases vs with
     |nil=>cases hb
     |cons x l=>
      obtain⟨y,_,hb⟩:=zqn.1 hb;cases hb;rfl
    |_=>cases hc
  |_=>cases hc
 |_=>cases hc
theorem oY{op:Op}(hc:Ib op=2){fr:Tr}{v:AV}{h':Vg}(B:fg E call op fr h=.ok v h'):∃x,h'=h.push x:=by
 cases op with
 |alloc t=>obtain⟨ti,_,D⟩:=F4 B;cases D;grind
 |box t x=>
  obtain⟨ti,_,D⟩:=F4 B;cases hb:(Nat.beq (dw (opv E x fr).cells) ti.size&&E4 (opv E x fr).cells)with
  |true=>rw[hb]at D;cases D;grind
  |false=>grind
 |buildSlice t n ps=>
  obtain⟨ti,_,D⟩:=F4 B;grind
 |makeSlice t l c=>
  obtain⟨ti,_,D⟩:=F4 B;grind
 |call c=>
  exfalso
  obtain⟨C,args,argTypes⟩:=c;cases C with
  |builtin b=>cases b<;>cases hc
  |_=>cases hc
 |_=>cases hc
theorem oo(op:Op):Ib op=0\/Ib op=1\/Ib op=2\/Ib op=3:=by
 cases op with
 |call c=>
  grind[Ib]
 |_=>simp[Ib]
theorem Tj{op:Op}(hc:Ib op≠3){fr:Tr}{v:AV}{h':Vg}(B:fg E call op fr h=.ok v h'):mb h h':=by
 rcases oo op with h0|h0|h0|h0
 . rw[(Od h0 B h).1];exact .refl _
 . rw[oX h0 B];exact .refl _
 . obtain⟨x,rfl⟩:=oY h0 B;exact .push _ _
 grind
theorem Jx{r:qp}{p:AV×HD}(h:zO r=zs p):r=.ok p.1 p.2.1 p.2.2:=by
 cases r with
 |ok v h' d=>cases h;rfl
 |_=>cases h
theorem Tk{i:Nat}{b:List Nat}:∀{a:List Nat},i∈Au a b↔i∈a\/i∈b
 |[]=>by show i∈b↔_;simp
 |x::a=>by
  show i∈x::Au a b↔_
  rw[zqg,Tk (a:=a),zqg,or_assoc]
theorem l6{i n:Nat}:∀{l:List Nat},i∈I4 n l↔i∈l/\i<n
 |[]=>by show i∈([]:List Nat)↔_;simp
 |x::l=>by
  show i∈(bif Nat.blt x n then x::I4 n l else I4 n l)↔_
  cases hb:Nat.blt x n with
  |true=>
   have:=K5 hb
   simp only[cond_true,zqg,l6 (l:=l)];grind
  |false=>
   have hx:¬x<n:=(by grind[Nat.blt,Nat.ble_eq_true_of_le])
   simp only[cond_false,zqg,l6 (l:=l)];grind
theorem Yf{i:Nat}:∀{l:List Nat},qJ i l=zf->i∉l
 |[],_=>by simp
 |x::l,h=>by
  have h:(bif Nat.beq x i then zt else qJ i l)=zf:=h;cases hb:Nat.beq x i with
  |true=>grind
  |false=>
   rw[hb]at h;have hne:x≠i:=fun e=>by simp_all
   intro C;rcases zqg.1 C with B|B
   . grind
   . exact Yf (l:=l) h B
theorem Ma{x:XOp}{fr:Tr}{v:AV}{h':Vg}{d D:List Nat}(B:dq E call x fr h d=.ok v h' D):
 ∃ t C t',fg E call x.op fr {h with tch:=t}=.ok v C/\h'={C with tch:=t'}/\
   (x.quiet=zt->t=[]/\t'=Au (I4 h.next C.tch) h.tch/\D=Au (I4 h.next C.tch) d)/\
   (x.quiet=zf->t=h.tch/\t'=C.tch/\D=d/\(x.careful=zt->ly (lu E x.op fr) d=zt)):=by
 unfold dq at B;cases N:x.quiet with
 |false=>
  rw [N]at B;simp only[cond_false]at B;have G:u6 d (fg E call x.op fr h)=.ok v h' D->fg E call x.op fr h=.ok v h'/\D=d:=fun B=>by
   cases I:fg E call x.op fr h with
   |ok U H=>rw[I]at B;cases B;grind
   |_=>rw[I]at B;cases B
  cases hc:x.careful with
  |false=>
   rw[hc]at B;obtain⟨H,Q⟩:=G B;exact⟨h.tch,h',h'.tch,H,rfl,fun e=>(by cases e),(by grind)⟩
  |true=>
   rw[hc]at B;simp only[cond_true]at B;cases J:ly (lu E x.op fr) d with
   |false=>grind
   |true=>
    rw[J]at B;obtain⟨H,Q⟩:=G B;exact⟨h.tch,h',h'.tch,H,rfl,fun e=>(by cases e),(by grind)⟩
 |true=>
  rw[N]at B;have B:w8 h.next h.tch d (fg E call x.op fr {h with tch:=[]})=.ok v h' D:=B;cases I:fg E call x.op fr {h with tch:=[]}with
  |ok U H=>
   rw[I]at B;cases B;grind
  |_=>rw[I]at B;cases B
theorem eL{x:XOp}(hc:Ib x.op≠3){fr:Tr}{v:AV}{h':Vg}{d D:List Nat}(B:dq E call x fr h d=.ok v h' D):mb h h':=by
 obtain⟨t,h₁,t',G,rfl,_⟩:=Ma B;have C:=Tj hc G;exact⟨C.next,fun i hi=>C.get i hi⟩
theorem jM(B:N3 call){x:XOp}(N:Ib x.op=3->x.quiet=zt){fr:Tr}{v:AV}{h':Vg}{d C:List Nat}(D:dq E call x fr h d=.ok v h' C):
 h.next<=h'.next/\(∀i,i∈d->i∈C)/\∀i,i<h.next->i∉C->h'.get i=h.get i:=by
 obtain ⟨t,h₁,t',J,rfl,Q,h3⟩:=Ma D;have H:∀i,i∈d->i∈C:=fun i hi=>by
  cases hq:x.quiet with
  |true=>grind[Tk]
  |false=>grind
 by_cases hc:Ib x.op=3
 . obtain⟨rfl,_,h4⟩:=Q (N hc)
   obtain⟨hn,new,e,hg⟩:=kw B J;refine⟨hn,H,fun i hi G=>hg i hi fun hm=>G ?_⟩;grind[Tk,l6]
 . have I:=Tj hc J
   exact⟨I.next,H,fun i hi _=>I.get i hi⟩
theorem eM{fr fr':Tr}(op:Op)(hy:∀y∈op.operands.toList,opv E y fr=opv E y fr'):lu E op fr=lu E op fr':=by
 cases op with
 |load t x=>show n7 (opv E x fr)=n7 (opv E x fr');grind[Op.operands]
 |lookup t m k ok=>show n7 (opv E m fr)=n7 (opv E m fr');grind[Op.operands]
 |call c=>
  obtain⟨callee,args,argTypes⟩:=c;show(match args.toList with|[]=>zn|x::_=>n7 (opv E x fr))=(match args.toList with|[]=>zn|x::_=>n7 (opv E x fr'))
  grind[Op.operands,Call.operands]
 |_=>rfl
end
section
variable {E:Env}{call:E3}{ops:Array Oper}{ms l:List Nat}{sk:Nat->Prop}{xs:List XOp}{s₀:Tr×HD}
theorem pn.at(B:pn ops ms l){m:Nat}(C:m<lz l):∃i o,l[m]?=zs i/\ops[i]?=zs o:=by
 have D:l[m]?=zs l[m]:=zqj C
 have:=B.lt m _ D
 simp_all
theorem Ro(C:jf ops ms l sk xs){m:Nat}{s:Tr×HD}(h:St E call xs s₀ (m+1)=zs s):
 ∃i o B x r,l[m]?=zs i/\ops[i]?=zs o/\St E call xs s₀ m=zs B/\xs[m]?=zs x/\(x.op=o.op/\x.quiet=m6 ops.toList ms i (l.drop (m+1)))/\stp E call x B.1 B.2=zs r/\s=(co o.dst r.1 B.1,r.2):=by
 obtain ⟨B,x,r,h1,h2,h3,h4⟩:=bI h;have D:m<lz l:=by
  rw[<-C.xlen];grind
 obtain⟨i,o,G,H⟩:=C.at D;obtain⟨x',h7,h8,h9,h10,_⟩:=C.xat m i o G H;grind
theorem R8(d:Option Tmp)(v:AV)(fr:Tr)(t:Nat):(co d v fr).has t=fr.has t:=by
 cases d with
 |none=>rfl
 |some d=>exact Tr.has_set _ _ _ _
theorem Y3{d:Option Tmp}{v:AV}{fr:Tr}{t:Nat}(h:d≠zs t):(co d v fr).get t=fr.get t:=by
 cases d with
 |none=>rfl
 |some d=>exact Tr.get_set_ne _ _ _ _ (fun e=>h (by rw[e]))
theorem l7{v:AV}{fr:Tr}{t:Nat}:(co (zs t) v fr).get t=if fr.has t then v else .und:=Tr.get_set_eq _ _ _
theorem wi(C:jf ops ms l sk xs){k:Nat}{s:Tr×HD}(D:St E call xs s₀ k=zs s):∀(n:Nat)(B:Tr×HD),St E call xs s₀ (k+n)=zs B->∀t,B.1.has t=s.1.has t
 |0,B,h,t=>by grind
 |n+1,B,h,t=>by
  obtain⟨i,o,G,x,r,_,_,H,_,_,_,rfl⟩:=Ro C h;show(co _ _ _).has t=_
  rw[R8];exact wi C D n G H t
theorem jN(C:jf ops ms l sk xs){k:Nat}{s:Tr×HD}(D:St E call xs s₀ k=zs s){t:Nat}:∀(n:Nat)(B:Tr×HD),St E call xs s₀ (k+n)=zs B ->
 (∀(m i:Nat)(o:Oper),k<=m->m<k+n->l[m]?=zs i->ops[i]?=zs o->o.dst≠zs t)->B.1.get t=s.1.get t
 |0,B,h,_=>by grind
 |n+1,B,h,hn=>by
  obtain⟨i,o,G,x,r,H,I,J,_,_,_,rfl⟩:=Ro C h;show(co _ _ _).get t=_
  rw[Y3 (hn (k+n) i o (by omega) (by omega) H I)];exact jN C D n G J fun m i o a b=>hn m i o a (by omega)
theorem DM(C:jf ops ms l sk xs){k p m i:Nat}{s sp D:Tr×HD}(hs:St E call xs s₀ k=zs s)(hk:k<=p)(hm:p<m)(G:St E call xs s₀ p=zs sp)(H:St E call xs s₀ m=zs D)
 {x:XOp}{r:AV×HD}(hx:xs[p]?=zs x)(hr:stp E call x sp.1 sp.2=zs r){o:Oper}(hl:l[p]?=zs i)(ho:ops[i]?=zs o){t:Nat}(hd:o.dst=zs t):D.1.get t=if s.1.has t then r.1 else .und:=by
 have J:=Ly G hx hr;obtain⟨x',B,I,_⟩:=C.xat p i o hl ho;rw[hx]at B;cases B;obtain⟨n,rfl⟩:∃n,m=p+1+n:=⟨m-(p+1),by omega⟩
 have N:=jN C J n D H (t:=t) fun q j o' a b c d=>C.dst p q i j o o' t (by omega) hl c ho d hd
 rw[N,I,hd];show(co (zs t) r.1 sp.1).get t=_
 rw[l7];obtain⟨n',rfl⟩:∃n',p=k+n':=⟨p-k,by omega⟩
 grind[wi]
theorem qc{x:XOp}{fr:Tr}{h:HD}{r:AV×HD}(B:stp E call x fr h=zs r):(cm x.gd fr=zs zf/\r=(Yw,h))\/(cm x.gd fr=zs zt/\dq E call x fr h.1 h.2=.ok r.1 r.2.1 r.2.2):=by
 unfold stp at B;cases hg:cm x.gd fr with
 |none=>grind
 |some b=>
  rw[hg]at B;cases b with
  |false=>grind
  |true=>exact .inr ⟨rfl,Jx B⟩
theorem eN(C:jf ops ms l sk xs){k:Nat}{s:Tr×HD}(D:St E call xs s₀ k=zs s):∀(n:Nat)(B:Tr×HD),St E call xs s₀ (k+n)=zs B ->
 (∀(m i:Nat)(o:Oper),k<=m->m<k+n->l[m]?=zs i->ops[i]?=zs o->Ib o.op≠3)->mb s.2.1 B.2.1
 |0,B,h,_=>by rw[Nat.add_zero]at h;rw[D]at h;cases h;exact .refl _
 |n+1,B,h,hn=>by
  obtain⟨i,o,G,x,r,h1,h2,H,_,h5,I,rfl⟩:=Ro C h;refine(eN C D n G H fun m i o a b=>hn m i o a (by omega)).trans ?_;show mb G.2.1 r.2.1
  rcases qc I with⟨_,rfl⟩|⟨_,h7⟩
  . exact .refl _
  grind[eL]
theorem mK(G:jf ops ms l sk xs)(B:N3 call){k:Nat}{s:Tr×HD}(H:St E call xs s₀ k=zs s):∀(n:Nat)(C:Tr×HD),St E call xs s₀ (k+n)=zs C ->
 (∀ (m i:Nat) (o:Oper),k<=m->m<k+n->l[m]?=zs i->ops[i]?=zs o->Ib o.op=3->m6 ops.toList ms i (l.drop (m+1))=zt) ->
   s.2.1.next<=C.2.1.next/\(∀i,i∈s.2.2->i∈C.2.2)/\∀i,i<s.2.1.next->i∉C.2.2->C.2.1.get i=s.2.1.get i
 |0,C,h,_=>by grind
 |n + 1,C,h,hn=>by
  obtain⟨i,o,D,x,r,h1,h2,I,_,h5,J,rfl⟩:=Ro G h;obtain⟨a1,a2,a3⟩:=mK G B H n D I fun m i o a b=>hn m i o a (by omega)
  have hb:D.2.1.next<=r.2.1.next/\(∀i,i∈D.2.2->i∈r.2.2)/\∀i,i<D.2.1.next->i∉r.2.2->r.2.1.get i=D.2.1.get i:=by
   rcases qc J with⟨_,rfl⟩|⟨_,N⟩
   . grind
   . refine jM B (fun hc=>?_) N
     grind
  grind
end
end Go.AM
