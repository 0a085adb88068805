/- The abstract machine, part three: operations, calls, and regions that draw their order: planned. Conditions: none. -/
import Derived.Test.YtnglooakgahhhaaAmTwo
import Derived.LoopN
import Derived.Tactics
import Derived.Orders
set_option linter.unusedVariables false
set_option linter.unusedSectionVars false
set_option linter.unusedSimpArgs false
/-
 The abstract machine: each operation but a call is sound.
set_option maxHeartbeats 4000000
-/
open Option renaming some→zs,none→zn
open Bool renaming true→zt,false→zf
open Bool renaming and_eq_true→zqa,not_eq_true'→zqb
open Array renaming getElem?_toList→zqc,getD_eq_getD_getElem?→zqd
open List renaming all_eq_true→zqe,mem_cons_self→zqf,mem_cons→zqg,mem_of_getElem?→zqh,getElem?_of_mem→zqi,getElem?_eq_getElem→zqj,length_cons→zqk
open Nat renaming le_refl→zql,le_trans→zqm
open Option renaming map_eq_some_iff→zqn,bind_some→zqo
namespace Go.AM
section
variable {P:Program}{E:Env}{W:World}{cx:Cx}{h:Heap}
theorem G6{x:Option AV}{v:AV}{h h':Heap}(A:lift x h=.ok v h'):x=zs v/\h'=h:=by
 cases x with
 |none=>cases A
 |some a=>cases A;grind
theorem Zh(A:Sat E W cx h){a:Act}{fr:Tr}(hf:FrRep W cx a.tmps fr)(o:Option Operand):X6 W cx (o.map a.eval) (Mz E o fr):=by
 cases o with
 |none=>trivial
 |some x=>exact X5 A hf x
theorem Hf(a:Act)(ps:Array (Nat×Operand)):(ps.map fun p=>(p.1,a.eval p.2)).toList=ps.toList.map fun p=>(p.1,a.eval p.2):=by simp
theorem Rt(hE:EnvOk E P)(hs:Sat E W cx h){ts:Array TypeId}{ty:TypeId}{args:Array Value}{l:List AV}(hl:RepL W cx args.toList l){r:AV}{h':Heap}(hb:Kk E ts.toList l h=zs (r,h')):
 ∃v W' cx',(Builtin.append_ ts ty args).run P W=.ok v W'/\Ext W cx W' cx'/\Sat E W' cx' h'/\Rep W' cx' v r:=by
 unfold Kk at hb;cases aa:ts.toList with
 |nil=>grind
 |cons t al=>
  cases al with
  |nil=>grind
  |cons tx ts2=>
   cases l with
   |nil=>grind
   |cons s l1=>
    cases l1 with
    |nil=>grind
    |cons x l2=>
     rw[aa]at hb;obtain⟨ti,ht,hb⟩:=D7 hb;obtain⟨te,D,hb⟩:=A0 hb;obtain⟨U,hb⟩:=A6 hb;have U:=I5 U;obtain⟨V,af,hb⟩:=D7 hb;obtain⟨e,hk,D⟩:=g9 D;have hd:=(hE.ti t ti ht).desc;unfold H3 at hd;rw[hk]at hd;have ab:ts[0]?=zs t:=by rw[<-zqc,aa];rfl
     have ac:ts[1]?=zs tx:=by rw[<-zqc,aa];rfl
     obtain⟨sv,A,O⟩:=hl.get (i:=0) (c:=s) rfl;obtain⟨xv,B,Q⟩:=hl.get (i:=1) (c:=x) rfl;have A:args[0]?=zs sv:=by grind
     have B:args[1]?=zs xv:=by grind
     obtain⟨dx,X⟩:=(hE.ti tx V af).under;have I:=(hE.ti tx V af).desc;have C:=hE.ti e te D;have elemCase:(∀k,dx≠.int k)->A4 (elems x h) (fun xs=>A9 (F2 te.size xs) (G9 te s xs h))=zs (r,h') ->
      ∃v W' cx',(Builtin.append_ ts ty args).run P W=.ok v W'/\Ext W cx W' cx'/\Sat E W' cx' h'/\Rep W' cx' v r:=by
      intro ah hb;obtain⟨xs,aj,hb⟩:=A0 hb;obtain⟨G,hb⟩:=A6 hb;rw[o5]at G;obtain⟨ad,cap,us,sz,e1,e2,H,ak⟩:=Z7 (P:=P) hs Q aj;have N:RowRep W cx us xs te.size:=by
       cases ag:xs with
       |nil=>rw[ag]at H;exact⟨by have:=H.len;grind,by simp,by simp⟩
       |cons x0 xr=>
        rw[ag]at H G
        have:sz=te.size:=by rw[<-H.size 0 x0 rfl];grind
        grind
      . exact Lf hE hs D ab hd ac X A B O N (.inl ⟨ah,⟨ad,cap,e1⟩,fun W' ai=>by
         have:=ak W' ai xs.length te.size (zql _) G
         rw[<-H.len,List.take_length]at this;exact this⟩) N.oneL (C.pos (by omega)) hb
     unfold H3 at I;cases am:V.desc with
     |int kx=>
      rw[am]at hb I;rw[I]at X;cases X;obtain⟨n,hn,J⟩:=A0 hb;obtain⟨hg,J⟩:=A6 J;clear hb;have hg:n*te.bytes<=140737488355328:=B9 hg;obtain⟨k',rfl⟩:=R7 hn;cases Q.int_inv;obtain⟨i,z,hi1,hi2,hi3,hi4,Y⟩:=C.info;have hzs:z.cells.size=te.size:=by have:=((Y.rep W cx).cells Y.und).1;simp at this;rw[this];exact C.zsz
      . have hp:0<te.size:=U
        have ae:=C.pos hp;have hn47:n<=140737488355328:=zqm (Nat.le_mul_of_pos_right n ae) hg;obtain⟨a1,a2⟩:=Qh (W:=W) (cx:=cx) Y C.zsz hp n (c:=Builtin.zeroCells z.cells n) (by grind[Go.Builtin.zeroCells,Go.AM.rangeMap_get]);have hzl:(Builtin.zeroCells z.cells n).toList=(List.range (n*te.size)).map fun k=>(z.cells[k%te.size]?).getD undef:=by
         apply List.ext_getElem?;grind[Builtin.zeroCells]
        rw[m8]at J;have hlen:(List.replicate n te.zero).length=n:=List.length_replicate;exact Lf hE hs D ab hd ac I A B O a1 (by grind) a1.oneL ae J
     |_=>grind
theorem Vn(hE:EnvOk E P)(G:Sat E W cx h){b:Builtin}{ts:Array TypeId}{ty:TypeId}{cs:Array Bool}{args:Array Value}{l:List AV}(hl:RepL W cx args.toList l){r:AV}{h':Heap}(hb:E4 E b ts.toList l h=zs (r,h')):
 Jf P E W cx (builtin b ts ty cs args) r h':=by
 cases b with
 |append=>
  obtain⟨v,W',cx',h1,h2,C,X⟩:=Rt hE G (ts:=ts) (ty:=ty) hl hb;exact Jf.value (s:=Builtin.append_ ts ty args) h1 h2 C X
 |len=>
  have hb:Vi E ts.toList l h=zs (r,h'):=hb;unfold Vi at hb;cases A:ts.toList with
  |nil=>rw[A]at hb;cases hb
  |cons t ab=>
   rw[A]at hb;cases l with
   |nil=>cases hb
   |cons x l1=>
    obtain⟨ti,Y,hb⟩:=D7 hb;obtain⟨n,hn,hb⟩:=A0 hb;rw[B7]at hb;cases hb;have B:ts[0]?=zs t:=by rw[<-zqc,A];rfl
    obtain⟨xv,H,I⟩:=hl.get (i:=0) (c:=x) rfl
    have:=pD hE G Y (ty:=ty) B (args:=args) (by simpa using H) I hn
    exact Jf.same (s:=Builtin.len_ ts ty args) G this (.int _ _)
 |copy=>
  have hb:cW E ts.toList l h=zs (r,h'):=hb;unfold cW at hb;cases A:ts.toList with
  |nil=>rw[A]at hb;cases hb
  |cons t ab=>
   rw[A]at hb;cases l with
   |nil=>cases hb
   |cons d l1=>
    cases l1 with
    |nil=>cases hb
    |cons s l2=>
     obtain⟨ti,Y,hb⟩:=D7 hb;obtain⟨te,D,hb⟩:=A0 hb;obtain⟨xs,aa,hb⟩:=A0 hb;obtain⟨J,hb⟩:=A6 hb;obtain⟨e,hk,D⟩:=g9 D;have V:=(hE.ti t ti Y).desc;unfold H3 at V;rw[hk]at V;have B:ts[0]?=zs t:=by rw[<-zqc,A];rfl
     obtain⟨dv,N,O⟩:=hl.get (i:=0) (c:=d) rfl;obtain⟨sv,Q,U⟩:=hl.get (i:=1) (c:=s) rfl;obtain⟨v,W',cx',h1,h2,C,X⟩:=jA hE G D (ty:=ty) B V (args:=args) (by simpa using N) (by simpa using Q) O U aa J hb;exact Jf.value (s:=Builtin.copy_ ts ty args) h1 h2 C X
 |max=>
  cases l with
  |nil=>cases hb
  |cons x l=>
   obtain⟨r',h1,h2⟩:=zqn.1 (show(Mw l x).map (·,h)=zs (r,h')from hb);cases h2;obtain⟨args⟩:=args;cases args with
   |nil=>have:=hl.1;simp at this
   |cons xv vs=>
    obtain⟨v,h2,C⟩:=Xd (P:=P) (vs:=vs) (xv:=xv) ⟨by have:=hl.1;simpa using this,fun i v c h1 h2=>hl.2 (i+1) v c (by simpa using h1) (by simpa using h2)⟩ (hl.2 0 _ _ rfl rfl) h1;refine Jf.same (s:=Builtin.max_ ts ty ⟨xv::vs⟩) G ?_ C;simpa[Builtin.max_]using h2
 |min=>
  cases l with
  |nil=>cases hb
  |cons x l=>
   obtain⟨r',h1,h2⟩:=zqn.1 (show(Pe l x).map (·,h)=zs (r,h')from hb);cases h2;obtain⟨args⟩:=args;cases args with
   |nil=>have:=hl.1;simp at this
   |cons xv vs=>
    obtain⟨v,h2,C⟩:=Xe (P:=P) (vs:=vs) (xv:=xv) ⟨by have:=hl.1;simpa using this,fun i v c h1 h2=>hl.2 (i+1) v c (by simpa using h1) (by simpa using h2)⟩ (hl.2 0 _ _ rfl rfl) h1;refine Jf.same (s:=Builtin.min_ ts ty ⟨xv::vs⟩) G ?_ C;simpa[Builtin.min_]using h2
 |_=>cases hb
theorem iT(hE:EnvOk E P)(C:Sat E W cx h){a:Act}{fr:Tr}(hf:FrRep W cx a.tmps fr){call:C7}(o:Oper)(hc:∀c f,o.op=.call c->c.callee≠.value f){v:AV}{h':Heap}
 (A:evOp E call o.op fr h=.ok v h'):Jf P E W cx (execOp a.eval o) v h':=by
 have D:=fun x=>X5 (E:=E) C hf x
 obtain⟨dst,op,ah,pos,ac,guard⟩:=o;cases op with
 |move x=>cases A;exact⟨_,W,cx,.inl rfl,Ext.refl _ _,C,D x⟩
 |assign x=>cases A;exact⟨_,W,cx,.inl rfl,Ext.refl _ _,C,D x⟩
 |pick c x y=>
  obtain⟨b,hb,A⟩:=oX A;have af:=D c;rw[hb]at af;have e:=af.bool_inv;refine⟨if b then a.eval x else a.eval y,W,cx,.inl ?_,Ext.refl _ _,?_,?_⟩
  . simp[execOp,e,asBool]
  . cases b<;>(cases A;exact C)
  . cases b<;>(cases A;exact D _)
 |alloc t=>
  obtain⟨ti,H,A⟩:=E2 A;have ag:=hE.ti t ti H;obtain⟨z,al,ad⟩:=ag.run_zero (W:=W);obtain⟨v',W',cx',h1,h2,X,h4⟩:=Se (P:=P) C (t:=t) (ad.rep W cx) ad.one ad.und ag.zsz A;refine Jf.value (s:=Instr.alloc t zt (.tuple #[])) ?_ h2 X h4;simp only[Instr.alloc,Sem.run_bind,al,Result.andThen_ok];simpa using h1
 |box t x=>
  obtain⟨ti,H,A⟩:=E2 A;cases hg:(Nat.beq (lenL (opv E x fr).cells) ti.size&&D1 (opv E x fr).cells)with
  |false=>rw[hg]at A;cases A
  |true=>
   rw [hg]at A;rw[zqa,A3,G0]at hg;have I:opv E x fr≠.und:=fun e=>by
    have:=hg.2 .und (by rw[e];simp[AV.cells])
    cases this
   obtain⟨v',W',cx',h1,h2,X,h4⟩:=Se (P:=P) C (t:=t) (D x) (((D x).cells I).one hg.2) I (C4 hg.1) A;refine Jf.value (s:=Instr.box t (a.eval x)) ?_ h2 X h4;simpa[Instr.box]using h1
 |build t ps=>
  obtain⟨ti,H,A⟩:=E2 A;obtain⟨B,hh⟩:=G6 A;subst hh;obtain⟨l1,l2⟩:=Hg C hf ps.toList;obtain⟨v',h1,h2⟩:=dY hE H (ps:=ps.map fun p=>(p.1,a.eval p.2)) (by rw[Hf];exact l1) (by rw[Hf];exact l2) B;exact Jf.same (s:=Instr.build t _) C h1 h2
 |buildSlice t n ps=>
  obtain⟨ti,H,A⟩:=E2 A;cases N:elemOfT E ti.desc with
  |none=>rw[N]at A;cases A
  |some te=>
   rw[N]at A;cases hg:(Nat.ble (Nat.mul n te.size) 65536&&Nat.blt 0 te.size)with
   |false=>simp only[hg]at A;cases A
   |true=>
    simp only[hg,cond_true]at A;cases G:placeL te.size (opvps E ps.toList fr) (repL n te.zero)with
    |none=>rw[G]at A;cases A
    |some es=>
     rw[G]at A;cases A;obtain⟨l1,l2⟩:=Hg C hf ps.toList;obtain⟨v',W',cx',h1,h2,X,h4⟩:=Nh hE C H N (ps:=ps.map fun p=>(p.1,a.eval p.2)) (by rw[Hf];exact l1) (by rw[Hf];exact l2) hg G;exact Jf.value (s:=Instr.buildSlice t n _) h1 h2 X h4
 |load t x=>
  obtain⟨ti,H,A⟩:=E2 A;obtain⟨B,hh⟩:=G6 A;subst hh;obtain⟨v',h1,h2⟩:=Sc hE C H (D x) B;exact Jf.same (s:=Instr.loadAt t _) C h1 h2
 |store t x y=>
  obtain⟨ti,H,A⟩:=E2 A
  have:Dn ti (opv E x fr) (opv E y fr) h=zs h'/\v=.und:=by
   cases B:Dn ti (opv E x fr) (opv E y fr) h with
   |none=>rw[B]at A;cases A
   |some h2=>rw[B]at A;cases A;exact⟨rfl,rfl⟩
  obtain⟨B,rfl⟩:=this;obtain⟨W',h1,h2,X⟩:=dQ hE C H (D x) (D y) B;exact Jf.unit (s:=Instr.storeAt t _ _) h1 h2 X
 |nilCheck x=>
  obtain ⟨B,hh⟩:=G6 A;subst hh;have J:=D x;have V:∀u:Value,a.eval x=u->(match u with | .pointer zn | .nilIface | .nilFunc=>False | .func (.method _) _ _=>False|_=>True)->(execOp a.eval ⟨dst,.nilCheck x,ah,pos,ac,guard⟩).run P W=.ok (.value u) W:=by
   intro u I hm;simp only[execOp,I];cases u with
   | pointer p=>cases p with
    |none=>exact hm.elim
    |some p=>rfl
   | func f a b=>cases f with
    |method n=>exact hm.elim
    |_=>rfl
   |nilIface=>exact hm.elim
   |nilFunc=>exact hm.elim
   |_=>rfl
  cases Q:opv E x fr with
  |fptr w o=>
   rw[Q]at B J;cases B;obtain⟨b,o',e,_⟩:=J.fptr_inv;exact⟨_,W,cx,.inl (V _ e trivial),Ext.refl _ _,C,e▸J⟩
  |ptr i j o=>
   rw[Q]at B J;cases B;obtain⟨_,e⟩:=J.ptr_inv;exact⟨_,W,cx,.inl (V _ e trivial),Ext.refl _ _,C,e▸J⟩
  |fn f l1 l2=>
   rw[Q]at B J;cases f with
   |func f=>
    cases B;cases I:a.eval x with
    |func f' vs ws=>
     rw[I]at J
     have:f'=.func f:=by cases J;rfl
     subst this;exact⟨_,W,cx,.inl (V _ I trivial),Ext.refl _ _,C,J⟩
    |_=>rw[I]at J;cases J
   |_=>cases B
  |map i=>
   rw[Q]at B J;cases B;cases I:a.eval x with
   |map r=>
    rw[I]at J;exact⟨_,W,cx,.inl (V _ I trivial),Ext.refl _ _,C,J⟩
   |_=>rw[I]at J;cases J
  |_=>rw[Q]at B;cases B
 |binOp op t x y yt=>
  obtain ⟨B,hh⟩:=G6 A;subst hh;obtain⟨v',h1,h2⟩:∃v',V4 P W op t x y (a.eval x) (a.eval y) v'/\Rep W cx v' v:=by
   rcases orO_some B with B|B
   . exact iP hE (D x) (D y) B x y
   . exact dG hE (D x) (D y) B x y
  exact Jf.same (s:=do eqGuard op t x y (a.eval x) (a.eval y);binOp op t (a.eval x) (a.eval y)) C h1 h2
 |unOp op t x=>
  obtain⟨B,hh⟩:=G6 A;subst hh;obtain⟨v',h1,h2⟩:=iZ (P:=P) (D x) B;exact Jf.same (s:=Op.unary op _) C h1 h2
 |convert s d x=>
  obtain⟨ts,am,A⟩:=E2 A;obtain⟨td,an,A⟩:=E2 A;obtain⟨B,hh⟩:=G6 A;subst hh;obtain⟨v',h1,h2⟩:=Vp hE am an (D x) B;exact Jf.same (s:=convert s d _) C h1 h2
 |makeFunc f first caps=>
  cases A;have r1:=By (E:=E) C hf first.toList
  have r2:=By (E:=E) C hf caps.toList;refine⟨.func f (first.map a.eval) (caps.map a.eval),W,cx,.inl (by simp[execOp,Instr.makeFunc]),Ext.refl _ _,C,?_⟩;refine .fn f _ _ _ _ (by have:=r1.1;simpa using this) (by have:=r2.1;simpa using this) (fun i v c h1 h2=>r1.2 i v c ?_ h2) (fun i v c h1 h2=>r2.2 i v c ?_ h2)
  . simpa using h1
  . simpa using h1
 |makeMap t r=>
  cases r with
  |some r=>cases A
  |none=>
   cases A;have he:=Ext.alloc W cx (.map #[] 0) 0;refine⟨.map (zs W.heap.size),W.alloc (.map #[] 0),_,.inl (by simp[execOp,Instr.makeMap]),he,C.push _ _ 0 ⟨#[],0,[],J6 W _,List.Perm.refl _,rfl,by simp,MapKept.stamped_empty 0,fun q B=>by cases B⟩,?_⟩
   have:=Rep.map (W:=W.alloc (.map #[] 0)) (cx:=cx.push W.heap.size 0) h.next (by rw[C.nx];exact Nat.lt_succ_self _) (by rw[C.nx,Cx.push_new];simp)
   rw[C.nx,Cx.push_new]at this;rw[C.nx];exact this
 |makeInterface t x=>
  obtain⟨ti,H,A⟩:=E2 A;cases G:V3 ti.desc with
  |false=>rw[G]at A;cases A
  |true=>
   rw[G]at A;cases A;have O:=(hE.ti t ti H).desc;unfold H3 at O
   have:∃d,P.underlying t=zs d/\∀ms,d≠.interface ms:=by
    cases U:ti.desc with
    |func=>rw[U]at G;cases G
    |iface=>rw[U]at G;cases G
    |other=>rw[U]at G;cases G
    |struct fs fl=>rw[U]at O;obtain⟨fields,I,_⟩:=O;exact⟨_,I,by simp⟩
    |_=>rw[U]at O;exact⟨_,O,by simp⟩
   obtain⟨d,I,hn⟩:=this;have r1:∀W:World,(underlying t).run P W=.ok d W:=fun W=>A2 I
   refine Jf.same (s:=Instr.makeInterface t (a.eval x)) (v':=.iface t (a.eval x)) C ?_ (.iface t _ _ (D x));simp only[Instr.makeInterface,Sem.run_bind,r1,Result.andThen_ok];cases d<;>first|rfl|exact absurd rfl (hn _)
 |typeAssert x xt t ok=>
  obtain⟨ti,H,A⟩:=E2 A;cases G:(V3 ti.desc && !ok)with
  |false=>rw[G]at A;cases A
  |true=>
   rw[G]at A;rw[zqa]at G;obtain⟨G,ab⟩:=G;obtain⟨B,hh⟩:=G6 A;subst hh;have O:=(hE.ti t ti H).desc;unfold H3 at O
   have:∃d,P.underlying t=zs d/\∀ms,d≠.interface ms:=by
    cases U:ti.desc with
    |func=>rw[U]at G;cases G
    |iface=>rw[U]at G;cases G
    |other=>rw[U]at G;cases G
    |struct fs fl=>rw[U]at O;obtain⟨fields,I,_⟩:=O;exact⟨_,I,by simp⟩
    |_=>rw[U]at O;exact⟨_,O,by simp⟩
   obtain⟨d,I,hn⟩:=this;have r1:∀W:World,(underlying t).run P W=.ok d W:=fun W=>A2 I
   have aa:=D x;cases ai:opv E x fr with
   |iface u w=>
    rw[ai]at B aa;have B:(bif Nat.beq u t then zs w else zn)=zs v:=B;cases hb:Nat.beq u t with
    |false=>rw[hb]at B;cases B
    |true=>
     rw [hb]at B;cases B;have aj:=C4 hb;have⟨u',ak,hr⟩:∃u',a.eval x=.iface t u'/\Rep W cx u' v:=by
      generalize a.eval x=z at aa;cases aa with
      |iface _ u' _ hr=>exact⟨u',by rw[aj],hr⟩
     refine Jf.same (s:=Instr.typeAssert (a.eval x) xt t ok) (v':=u') C ?_ hr;rw[ak];have ab:ok=zf:=by simpa using ab
     subst ab;simp only[Instr.typeAssert,Sem.run_bind,r1,Result.andThen_ok];cases d<;>first|exact absurd rfl (hn _)|(simp;done)|simp
   |_=>rw[ai]at B;cases B
 |makeSlice t l c=>
  obtain⟨ti,H,A⟩:=E2 A;cases N:elemOfT E ti.desc with
  |none=>rw[N]at A;cases A
  |some te=>
   rw[N]at A;cases hl:asNat (opv E l fr)with
   |none=>simp only[hl]at A;cases A
   |some n=>
    simp only[hl]at A;cases hm:asNat (opv E c fr)with
    |none=>simp only[hm]at A;cases A
    |some m=>
     simp only[hm]at A;cases hg:(Nat.ble n m&&Nat.ble (Nat.mul m te.bytes) 140737488355328&&Nat.blt 0 te.size)with
     |false=>simp only[hg]at A;cases A
     |true=>
      simp only[hg,cond_true]at A;cases A;obtain⟨v',W',cx',h1,h2,X,h4⟩:=Pj hE C H N (D l) (D c) hl hm hg;exact Jf.value (s:=Instr.makeSlice t _ _) h1 h2 X h4
 |slice t x lo hi mx=>
  have A:Hd E t x lo hi mx fr h=.ok v h':=A;unfold Hd at A;obtain⟨ti,H,A⟩:=E2 A;cases ae:hi.isNone&&mx.isSome with
  |true=>rw[ae]at A;cases A
  |false=>
   rw [ae]at A;obtain⟨B,hh⟩:=G6 A;subst hh;obtain⟨v',h1,h2⟩:=dU hE H (D x) (Zh C hf lo) (Zh C hf hi) (Zh C hf mx) (fun hn=>by
    cases hi with
    |some hi=>cases hn
    | none=>cases mx with
     |none=>rfl
     |some mx=>cases ae) B
   exact Jf.same (s:=Instr.sliceAt t _ _ _ _) C h1 h2
 |fieldAddr t x f=>
  obtain⟨ti,H,A⟩:=E2 A;obtain⟨B,hh⟩:=G6 A;subst hh;obtain⟨p,G,B⟩:=A0 B;obtain⟨v',h1,h2⟩:=Pg hE H (D x) G B;exact Jf.same (s:=Instr.fieldAt t _ f) C h1 h2
 |field t x f=>
  obtain⟨ti,H,A⟩:=E2 A;obtain⟨B,hh⟩:=G6 A;subst hh;obtain⟨p,G,B⟩:=A0 B;obtain⟨v',h1,h2⟩:=dS hE H (D x) G B;exact Jf.same (s:=Instr.field t _ f) C h1 h2
 |indexAddr t x i=>
  obtain⟨ti,H,A⟩:=E2 A;obtain⟨B,hh⟩:=G6 A;subst hh;obtain⟨n,hn,B⟩:=A0 B;obtain⟨v',h1,h2⟩:=Ph hE H (D x) (D i) hn B;exact Jf.same (s:=Instr.indexAt t _ _) C h1 h2
 |index t x i=>
  obtain⟨ti,H,A⟩:=E2 A;obtain⟨B,hh⟩:=G6 A;subst hh;obtain⟨n,hn,B⟩:=A0 B;obtain⟨v',h1,h2⟩:=dT hE H (D x) (D i) hn B;exact Jf.same (s:=Instr.index t _ _) C h1 h2
 |lookup t m k ok=>cases A
 |mapUpdate t m k x=>cases A
 |insert t m k x=>cases A
 |extract t i=>
  obtain⟨vs,ao,A⟩:=sJ A;obtain⟨B,hh⟩:=G6 A;subst hh
  have:=D t
  rw[ao]at this;obtain⟨v',h1,h2⟩:=Vq (P:=P) this B;exact Jf.same (s:=Instr.extract _ i) C h1 h2
 |call c=>
  obtain⟨Y,args,argTypes⟩:=c;cases Y with
  |value f=>exact absurd rfl (hc _ f rfl)
  |invoke f n=>cases A
  |builtin b=>
   have A:lift2 (E4 E b argTypes.toList (opvs E args.toList fr) h)=.ok v h':=A;cases B:E4 E b argTypes.toList (opvs E args.toList fr) h with
   |none=>rw[B]at A;cases A
   |some p=>
    rw [B]at A;cases A;have hl:RepL W cx (args.map a.eval).toList (opvs E args.toList fr):=by
     have:=By (E:=E) C hf args.toList;simpa using this
    exact Vn hE C hl B
 |panic x=>
  exfalso
  have A:oV (opv E x fr) h=.ok v h':=A;cases B:opv E x fr<;>rw[B]at A<;>cases A
 |_=>cases A
end
end Go.AM
/-
 The abstract machine: operations,calls among them,and rows of operations in the order of the text.
-/
namespace Go.AM
def Res.Post(E:Env)(W:World)(cx:Cx):Res->Ending->World->Prop
 |.ok v h,.returned A,w=>∃cx',Ext W cx w cx'/\Sat E w cx' h/\Rep w cx' A v
 |.pan v h,.panicked chain,w=>∃cx' A,chain=[{v:=A,recovered:=zf}]/\Ext W cx w cx'/\Sat E w cx' h/\Rep w cx' A v
 |_,_,_=>False
def Fu(E:Env)(P:Program)(call:C7):Prop:=
 ∀ f (args:Array Value) l W cx h,RepL W cx args.toList l->Sat E W cx h->call f l h≠.bad ->
   (∃ fn c, P.funcs[f]? = zs fn ∧ fn.body = zs c ∧ (fn.name == "runtime.NumGoroutine") = zf) ∧ Calls P f args W ((call f l h).Post E W cx)
def Zi:Ex->Exit
 |.normal=>.normal
 |.exit i=>.exit i
 | .ret=>.ret
def CRes.Post(E:Env)(W:World)(cx:Cx)(S:Act->Prop)(r:CRes)(x:Exit)(a:Act)(w:World):Prop:=
 S a/\∃cx',Ext W cx w cx'/\
   match r with
   |.ok e fr h=>x=Zi e/\Sat E w cx' h/\FrRep w cx' a.tmps fr
   |.pan v h=>∃A,x=.panic [{v:=A,recovered:=zf}]/\Sat E w cx' h/\Rep w cx' A v
   | .bad=>False
def Kx(S:Act->Prop)(d:Option Tmp):Prop:=∀a v,S a->S (a.put d v)
theorem CRes.Post.trans{E:Env}{W B:World}{cx A:Cx}{S:Act->Prop}(D:Ext W cx B A){r:CRes}{x:Exit}{a:Act}{w:World}(h:r.Post E B A S x a w):r.Post E W cx S x a w:=by
 obtain⟨G,cx',C,h⟩:=h;exact⟨G,cx',D.trans C,h⟩
section
variable {P:Program}{E:Env}{W:World}{cx:Cx}{h:Heap}
def Z5(r:Res):Prop:=∀v h,r≠.pan v h
theorem Z5.ok{v:AV}{h:Heap}:Z5 (.ok v h):=fun _ _ e=>by cases e
theorem Z5.bad:Z5 .bad:=fun _ _ e=>by cases e
theorem Z5.lift{x:Option AV}{h:Heap}:Z5 (lift x h):=by cases x;exact .bad;exact .ok
theorem Z5.liftH{x:Option Heap}:Z5 (liftH x):=by cases x;exact .bad;exact .ok
theorem Z5.lift2{x:Option (AV×Heap)}:Z5 (lift2 x):=by cases x;exact .bad;exact .ok
theorem Z5.onTI{t:Nat}{f:TI->Res}(hf:∀x,Z5 (f x)):Z5 (onTI E t .bad f):=by
 unfold AM.onTI;cases E.ti t;exact .bad;exact hf _
theorem Z5.cond{b:Bool}{x y:Res}(hx:Z5 x)(hy:Z5 y):Z5 (bif b then x else y):=by grind
theorem Ru{call:C7}{op:Op}{fr:Tr}(B:∀x,op≠.panic x)(hc:∀c f,op=.call c->c.callee≠.value f):Z5 (evOp E call op fr h):=by
 cases op with
 |panic x=>exact absurd rfl (B x)
 |call c=>
  obtain⟨A,args,argTypes⟩:=c;cases A with
  |value f=>exact absurd rfl (hc _ f rfl)
  |invoke f n=>exact .bad
  |builtin b=>exact .lift2
 |move x=>exact .ok
 |assign x=>exact .ok
 |pick c x y=>
  show Z5 ((opv E c fr).onBool .bad fun t=>match t with|true=>.ok (opv E x fr) h|false=>.ok (opv E y fr) h)
  cases opv E c fr with
  |bool b=>cases b<;>exact .ok
  |_=>exact .bad
 |alloc t=>exact .onTI fun _=>.ok
 |box t x=>exact .onTI fun _=>.cond .ok .bad
 |build t ps=>exact .onTI fun _=>.lift
 |buildSlice t n ps=>
  refine .onTI fun ti=>?_
  cases elemOfT E ti.desc with
  |none=>exact .bad
  |some te=>
   refine .cond ?_ .bad;cases placeL te.size (opvps E ps.toList fr) (repL n te.zero)with
   |none=>exact .bad
   |some es=>exact .ok
 |load t x=>exact .onTI fun _=>.lift
 |store t x y=>exact .onTI fun _=>.liftH
 |nilCheck x=>exact .lift
 |binOp op t x y yt=>exact .lift
 |unOp op t x=>exact .lift
 |convert s d x=>exact .onTI fun _=>.onTI fun _=>.lift
 |makeFunc f first caps=>exact .ok
 |makeMap t r=>cases r;exact .ok;exact .bad
 |makeInterface t x=>exact .onTI fun _=>.cond .ok .bad
 |typeAssert x xt t ok=>exact .onTI fun _=>.cond .lift .bad
 |makeSlice t l c=>
  refine .onTI fun ti=>?_
  cases elemOfT E ti.desc with
  |none=>exact .bad
  |some te=>
   cases h1:asNat (opv E l fr)with
   |none=>exact .bad
   |some n=>
    cases h2:asNat (opv E c fr)with
    |none=>exact .bad
    |some m=>exact .cond .ok .bad
 |slice t x lo hi mx=>exact .onTI fun _=>.cond .bad .lift
 |fieldAddr t x f=>exact .onTI fun _=>.lift
 |field t x f=>exact .onTI fun _=>.lift
 |indexAddr t x i=>exact .onTI fun _=>.lift
 |index t x i=>exact .onTI fun _=>.lift
 |lookup t m k ok=>exact .bad
 |mapUpdate t m k x=>exact .bad
 |insert t m k x=>exact .bad
 |extract t i=>
  show Z5 ((opv E t fr).onTup .bad fun vs=>lift (Fg vs i) h)
  cases opv E t fr with
  |tup vs=>exact .lift
  |_=>exact .bad
 |_=>exact .bad
theorem Ky(hE:EnvOk E P)(hs:Sat E W cx h){a:Act}{fr:Tr}(hf:FrRep W cx a.tmps fr){call:C7}(hcall:Fu E P call)(o:Oper){K:Act->World->Prop}{Q:Exit->Act->World->Prop}
 (hb:evOp E call o.op fr h≠.bad)
 (hK:∀v h' v' W' cx',evOp E call o.op fr h=.ok v h'->Ext W cx W' cx'->Sat E W' cx' h'->Rep W' cx' v' v->K (a.put o.dst v') W')
 (hQ:∀v h' v' W' cx',evOp E call o.op fr h=.pan v h'->Ext W cx W' cx'->Sat E W' cx' h'->Rep W' cx' v' v->Q (.panic [{v:=v',recovered:=zf}]) a W'):o.wp P a W K Q:=by
 by_cases hc:∀c f,o.op=.call c->c.callee≠.value f
 . by_cases hp:∀x,o.op≠.panic x
   . cases hev:evOp E call o.op fr h with
     |bad=>grind
     |pan v h'=>exact absurd hev (Ru hp hc v h')
     |ok v h'=>
      obtain⟨v',W',cx',hr,h1,h2,h3⟩:=iT hE hs hf o hc hev;have hk:=hK v h' v' W' cx' hev h1 h2 h3;unfold Oper.wp;rcases hr with hr|⟨hr,rfl⟩
      . rw[hr];exact hk
      . rw[hr];exact hk
   . have ⟨x,hx⟩:∃x,o.op=.panic x:=by
      grind
     have ov:=X5 (E:=E) hs hf x;rw[hx]at hb hQ;have e:evOp E call (.panic x) fr h=oV (opv E x fr) h:=rfl;rw[e]at hb hQ;cases hq:opv E x fr with
     |iface t v=>
      rw[hq]at hQ ov;have hk:=hQ (.iface t v) h (a.eval x) W cx rfl (Ext.refl _ _) hs ov
      have:∃u,a.eval x=.iface t u:=by
       generalize a.eval x=u at ov;cases ov;grind
      obtain⟨u,hu⟩:=this;unfold Oper.wp
      have:(execOp a.eval o).run P W=.halt (.panic (a.eval x)) W:=by
       simp_all[execOp,Instr.panic]
      rw[this];exact hk
     |_=>rw[hq]at hb;exact absurd rfl hb
 . have ⟨c,f,hop,hcf⟩:∃c f,o.op=.call c/\c.callee=.value f:=by
    grind
   obtain⟨dst,op,type,pos,after,guard⟩:=o;simp only at hop;subst hop;obtain⟨callee,args,argTypes⟩:=c;simp only at hcf;subst hcf;have e:evOp E call (.call ⟨.value f,args,argTypes⟩) fr h=f9 call (opv E f fr) (opvs E args.toList fr) h:=rfl;rw[e]at hb hK hQ;have ov:=X5 (E:=E) hs hf f;have oa:=By (E:=E) hs hf args.toList;cases hq:opv E f fr with
   |fn g first caps=>
    rw[hq]at hb hK hQ ov;cases g with
    |func n=>
     have e:f9 call (.fn (.func n) first caps) (opvs E args.toList fr) h=call n (appL first (appL (opvs E args.toList fr) caps)) h:=rfl;rw[e]at hb hK hQ;have⟨vs,ws,hv,h1,h2⟩:∃vs ws,a.eval f=.func (.func n) vs ws/\RepL W cx vs.toList first/\RepL W cx ws.toList caps:=by
      generalize a.eval f=u at ov;cases ov with
      |fn f vs ws cs ds hl hl' h h'=>exact⟨vs,ws,rfl,⟨by grind,(by grind)⟩,⟨by grind,(by grind)⟩⟩
     rw [L7,L7]at hb hK hQ;have hl:RepL W cx (vs++args.map a.eval++ws).toList (first++(opvs E args.toList fr++caps)):=by
      have:(vs++args.map a.eval++ws).toList=vs.toList++(args.toList.map a.eval++ws.toList):=by simp
      rw[this];exact h1.append (oa.append h2)
     obtain⟨⟨fn,c,hf1,hf2,hf3⟩,hcl⟩:=hcall n _ _ W cx h hl hs hb;unfold Oper.wp
     have:(execOp a.eval ⟨dst,.call ⟨.value f,args,argTypes⟩,type,pos,after,guard⟩).run P W=.ok (.enter n (vs++args.map a.eval++ws)) W:=by
      have hn : ¬ fn.name = "runtime.NumGoroutine" := fun e => by grind
      simp[execOp,resolve,hv,Deferred.ofValue,invoke,callFunc,hf1,hf2,hn]
     rw[this,Oper.upon_enter];refine hcl.mono fun e w' hp=>?_
     generalize call n (first++(opvs E args.toList fr++caps)) h=r at *;cases r with
     |bad=>grind
     |ok v h'=>
      cases e with
      |returned vv=>obtain⟨cx',h1,h2,h3⟩:=hp;grind
      |_=>exact hp.elim
     |pan v h'=>
      cases e with
      |panicked c=>obtain⟨cx',vv,rfl,h1,h2,h3⟩:=hp;grind
      |_=>exact hp.elim
    |_=>exact absurd rfl hb
   |_=>rw[hq]at hb;exact absurd rfl hb
theorem O4{ops:Array Oper}{a:Act}{fr:Tr}(hf:FrRep W cx a.tmps fr)(o:Oper){b:Bool}(hg:guardOk (F3 ops.toList o) fr=zs b):Region.wanted o (yielded ops a.tmps)=b:=by
 unfold F3 at hg;unfold Region.wanted;cases C:o.guard with
 |none=>rw[C]at hg;cases hg;rfl
 |some p=>
  obtain ⟨g,A⟩:=p;rw[C]at hg;dsimp only at hg|-;have hg:Km ((match ops.toList[g]? with|some q=>q.dst|none=>zn),A) fr=zs b:=hg;have B:yielded ops a.tmps g=match((match ops.toList[g]? with|some q=>q.dst|none=>zn).bind (a.tmps[·]?))with|some (.bool b)=>zs b|_=>zn:=by
   grind[yielded]
  generalize hdst:(match ops.toList[g]? with|some q=>q.dst|none=>zn)=d at hg B;cases d with
  |none=>
   cases hg;grind
  |some t=>
   have hg:g0 A (fr.get t)=zs b:=hg;have D:=hf.rep t;cases G:fr.get t with
   |bool c=>
    rw [G]at hg D;have e:=D.bool_inv;have e2:a.tmps[t]?=zs (.bool c):=by
     rw[zqd]at e;cases H:a.tmps[t]? with
     |none=>rw[H]at e;cases e
     |some u=>grind
    rw[B];simp only[zqo,e2];cases A<;>cases c<;>cases hg<;>rfl
   |tup l=>
    rw[G]at hg D;cases l with
    |cons x l=>cases hg
    |nil=>
     cases hg;obtain⟨vs,e,_⟩:=D.tup_inv;rw[B];simp only[zqo];rw[zqd]at e;grind
   |_=>rw[G]at hg;cases hg
theorem Ab(a:Act)(d:Option Tmp)(v:Value):(a.put d v).defers=a.defers:=by cases d<;>rfl
theorem Bg(hE:EnvOk E P){call:C7}(A:Fu E P call){S:Act->Prop}{ops:Array Oper}{Q:Exit->Act->World->Prop}:∀(l:List Oper)(W:World)(cx:Cx)(a:Act)(fr:Tr)(h:Heap),(∀o∈l,Kx S o.dst)->FrRep W cx a.tmps fr->S a->Sat E W cx h ->
 H1 E call (l.map (cD ops.toList zf [] zf)) fr h≠.bad->(∀x D w',(H1 E call (l.map (cD ops.toList zf [] zf)) fr h).Post E W cx S x D w'->Q x D w')->wpList P ops Q l a W
 |[],W,cx,a,fr,h,_,hf,hd,hs,hb,B=>B .normal a W ⟨hd,cx,Ext.refl _ _,rfl,hs,hf⟩
 |o :: l,W,cx,a,fr,h,hst,hf,hd,hs,hb,B=>by
  have C:∀o∈l,Kx S o.dst:=(by grind)
  have G:=hst o (zqf ..);have N:H1 E call ((o::l).map (cD ops.toList zf [] zf)) fr h =
   onOB (guardOk (F3 ops.toList o) fr) .bad (Y1 o.dst (H1 E call (l.map (cD ops.toList zf [] zf))) fr (evOp E call o.op fr h)) (H1 E call (l.map (cD ops.toList zf [] zf)) (setDst o.dst skipped fr) h):=rfl
  rw[N]at hb B;cases hg:guardOk (F3 ops.toList o) fr with
  |none=>rw[hg]at hb;exact absurd rfl hb
  |some b=>
   have I:=O4 (ops:=ops) hf o hg;rw[hg]at hb B;unfold wpList;cases b with
   |false=>
    rw[I];have hb:H1 E call (l.map (cD ops.toList zf [] zf)) (setDst o.dst skipped fr) h≠.bad:=hb;exact Bg hE A l W cx _ _ h C (hf.put o.dst (show Rep W cx undef skipped from .tup #[] [] rfl (by simp))) (G _ _ hd) hs hb B
   |true=>
    rw[I];have hb:Y1 o.dst (H1 E call (l.map (cD ops.toList zf [] zf))) fr (evOp E call o.op fr h)≠.bad:=hb;have B:∀x D w',(Y1 o.dst (H1 E call (l.map (cD ops.toList zf [] zf))) fr (evOp E call o.op fr h)).Post E W cx S x D w'->Q x D w':=B;refine .inl (Ky hE hs hf A o (fun e=>by rw[e]at hb;exact hb rfl) (fun v h' v' W' cx' e h1 h2 H=>?_) (fun v h' v' W' cx' e h1 h2 H=>?_))
    . rw[e]at hb B
      exact Bg hE A l W' cx' _ _ h' C ((hf.mono h1).put o.dst H) (G _ _ hd) h2 hb (fun x D w' J=>B x D w' (CRes.Post.trans h1 J))
    . rw[e]at B
      exact B _ _ _ ⟨hd,cx',h1,v',rfl,h2,H⟩
end
end Go.AM
/-
 The abstract machine: on what an operation hangs,and what it leaves.
-/
namespace Go.AM
section
variable {E:Env}{call:C7}{h:Heap}
theorem Dv{fr fr':Tr}:∀(l:List Operand),(∀y∈l,opv E y fr=opv E y fr')->opvs E l fr=opvs E l fr'
 |[],_=>rfl
 |x::l,hy=>by
  show opv E x fr::opvs E l fr=opv E x fr'::opvs E l fr'
  rw[hy x (zqf ..),Dv l fun y A=>hy y (List.mem_cons_of_mem _ A)]
theorem Fv{fr fr':Tr}:∀(l:List (Nat×Operand)),(∀y∈l.map (·.2),opv E y fr=opv E y fr')->opvps E l fr=opvps E l fr'
 |[],_=>rfl
 |x::l,hy=>by
  show(x.1,opv E x.2 fr)::opvps E l fr=(x.1,opv E x.2 fr')::opvps E l fr'
  rw[hy x.2 (by simp),Fv l fun y A=>hy y (by simp at A|-;exact .inr A)]
theorem Jd{fr fr':Tr}(o:Option Operand)(hy:∀y,o=zs y->opv E y fr=opv E y fr'):Mz E o fr=Mz E o fr':=by
 cases o with
 |none=>rfl
 |some x=>show zs _=zs _;grind
theorem Ac{fr fr':Tr}(op:Op)(A:∀y∈op.operands.toList,opv E y fr=opv E y fr')(h:Heap):evOp E call op fr h=evOp E call op fr' h:=by
 cases op with
 |move x=>show Res.ok _ _=Res.ok _ _;rw[A x (by simp[Op.operands])]
 |assign x=>show Res.ok _ _=Res.ok _ _;rw[A x (by simp[Op.operands])]
 |pick c a b=>show Yu E c a b fr h=Yu E c a b fr' h;unfold Yu;rw[A c (by simp[Op.operands]),A a (by simp[Op.operands]),A b (by simp[Op.operands])]
 |alloc t=>rfl
 |box t x=>show lE E t x fr h=lE E t x fr' h;unfold lE;rw[A x (by simp[Op.operands])]
 |build t ps=>show Px E t ps fr h=Px E t ps fr' h;unfold Px;rw[Fv ps.toList (fun y B=>A y (by simpa[Op.operands]using B))]
 |buildSlice t n ps=>show L6 E t n ps fr h=L6 E t n ps fr' h;unfold L6;rw[Fv ps.toList (fun y B=>A y (by simpa[Op.operands]using B))]
 |load t x=>show Yx E t x fr h=Yx E t x fr' h;unfold Yx;rw[A x (by simp[Op.operands])]
 |store t a x=>show Py E t a x fr h=Py E t a x fr' h;unfold Py;rw[A a (by simp[Op.operands]),A x (by simp[Op.operands])]
 |nilCheck x=>show Do E x fr h=Do E x fr' h;unfold Do;rw[A x (by simp[Op.operands])]
 |binOp op t x y u=>show Pz E op t x y fr h=Pz E op t x y fr' h;unfold Pz;rw[A x (by simp[Op.operands]),A y (by simp[Op.operands])]
 |unOp op t x=>show Yy E op x fr h=Yy E op x fr' h;unfold Yy;rw[A x (by simp[Op.operands])]
 |convert s d x=>show Hc E s d x fr h=Hc E s d x fr' h;unfold Hc;rw[A x (by simp[Op.operands])]
 |makeFunc f first caps=>show Dp E f first caps fr h=Dp E f first caps fr' h;unfold Dp;rw[Dv first.toList (fun y B=>A y (by simp[Op.operands];exact .inl (by simpa using B))),Dv caps.toList (fun y B=>A y (by simp[Op.operands];exact .inr (by simpa using B)))]
 |makeMap t r=>rfl
 |typeAssert x xt t ok=>show w8 E t ok x fr h=w8 E t ok x fr' h;unfold w8;rw[A x (by simp[Op.operands])]
 |makeInterface t x=>show X4 E t x fr h=X4 E t x fr' h;unfold X4;rw[A x (by simp[Op.operands])]
 |makeSlice t l c=>show O3 E t l c fr h=O3 E t l c fr' h;unfold O3;rw[A l (by simp[Op.operands]),A c (by simp[Op.operands])]
 |slice t x lo hi mx=>
  show Hd E t x lo hi mx fr h=Hd E t x lo hi mx fr' h;unfold Hd
  rw[A x (by simp[Op.operands]),Jd lo (fun y e=>A y (by simp[Op.operands,e])),Jd hi (fun y e=>A y (by simp[Op.operands,e])),Jd mx (fun y e=>A y (by simp[Op.operands,e]))]
 |fieldAddr t x f=>show Az E t x f fr h=Az E t x f fr' h;unfold Az;rw[A x (by simp[Op.operands])]
 |field t x f=>show Qa E t x f fr h=Qa E t x f fr' h;unfold Qa;rw[A x (by simp[Op.operands])]
 |indexAddr t x i=>show Ba E t x i fr h=Ba E t x i fr' h;unfold Ba;rw[A x (by simp[Op.operands]),A i (by simp[Op.operands])]
 |index t x i=>show Qb E t x i fr h=Qb E t x i fr' h;unfold Qb;rw[A x (by simp[Op.operands]),A i (by simp[Op.operands])]
 |lookup t m k ok=>rfl
 |mapUpdate t m k x=>rfl
 |insert t m k x=>rfl
 |extract t i=>show He E t i fr h=He E t i fr' h;unfold He;rw[A t (by simp[Op.operands])]
 |call c=>
  show iJ E call c fr h=iJ E call c fr' h
  obtain⟨C,args,argTypes⟩:=c;have ha:=Dv (E:=E) (fr:=fr) (fr':=fr') args.toList (fun y B=>A y (by simp[Op.operands,Call.operands];exact .inr (by simpa using B)));cases C with
  |value f=>
   have hf:=A f (by simp[Op.operands,Call.operands]);show f9 call (opv E f fr) (opvs E args.toList fr) h=f9 call (opv E f fr') (opvs E args.toList fr') h
   rw[hf,ha]
  |invoke f n=>rfl
  |builtin b=>
   show lift2 (E4 E b argTypes.toList (opvs E args.toList fr) h)=lift2 (E4 E b argTypes.toList (opvs E args.toList fr') h)
   rw[ha]
 |panic x=>show Qc E x fr h=Qc E x fr' h;unfold Qc;rw[A x (by simp[Op.operands])]
 |_=>rfl
theorem L4{x:Option AV}{v:AV}{h h':Heap}(B:lift x h=.ok v h')(A:Heap):h'=h/\lift x A=.ok v A:=by
 cases x with
 |none=>cases B
 |some a=>cases B;exact⟨rfl,rfl⟩
theorem Q6{t:Nat}{f:Heap->TI->Res}{v:AV}{h':Heap}{A:Heap}(hf:∀x,f h x=.ok v h'->h'=h/\f A x=.ok v A)(B:onTI E t .bad (f h)=.ok v h'):h'=h/\onTI E t .bad (f A)=.ok v A:=by
 unfold onTI at B|-;cases C:E.ti t with
 |none=>simp_all
 |some x=>rw[C]at B;grind
theorem Ng{op:Op}(hc:Hu op=0){fr:Tr}{v:AV}{h':Heap}(A:evOp E call op fr h=.ok v h')(B:Heap):h'=h/\evOp E call op fr B=.ok v B:=by
 cases op with
 |move x=>cases A;exact⟨rfl,rfl⟩
 |assign x=>cases A;exact⟨rfl,rfl⟩
 |pick c x y=>
  have A:(opv E c fr).onBool Res.bad (fun t=>match t with|true=>Res.ok (opv E x fr) h|false=>Res.ok (opv E y fr) h)=Res.ok v h':=A;show _/\(opv E c fr).onBool Res.bad (fun t=>match t with|true=>Res.ok (opv E x fr) B|false=>Res.ok (opv E y fr) B)=Res.ok v B
  cases G:opv E c fr with
  |bool b=>rw[G]at A;cases b<;>(cases A;exact⟨rfl,rfl⟩)
  |_=>rw[G]at A;cases A
 |binOp op t x y u=>exact L4 A B
 |unOp op t x=>exact L4 A B
 |convert s d x=>exact Q6 (f:=fun h _=>onTI E d .bad fun H=>lift (R5 H.desc (opv E x fr)) h) (fun _ C=>Q6 (f:=fun h H=>lift (R5 H.desc (opv E x fr)) h) (fun _ C=>L4 C B) C) A
 |extract t i=>
  have A:(opv E t fr).onTup Res.bad (fun vs=>lift (Fg vs i) h)=Res.ok v h':=A;show _/\(opv E t fr).onTup Res.bad (fun vs=>lift (Fg vs i) B)=Res.ok v B
  cases G:opv E t fr with
  |tup vs=>rw[G]at A;exact L4 A B
  |_=>rw[G]at A;cases A
 |field t x f=>exact Q6 (f:=fun h ti=>lift (A4 (fieldAt E ti f) fun p=>(opv E x fr).onAgg zn fun cs=>partOf p.1 cs p.2) h) (fun _ C=>L4 C B) A
 |fieldAddr t x f=>exact Q6 (f:=fun h ti=>lift (A4 (fieldAt E ti f) fun p=>A9 (Nat.blt 0 p.1.size) (B0 (opv E x fr) p.2)) h) (fun _ C=>L4 C B) A
 |indexAddr t x i=>exact Q6 (f:=fun h ti=>lift (A4 (asNat (opv E i fr)) fun i=>R6 E ti.desc i (opv E x fr)) h) (fun _ C=>L4 C B) A
 |index t x i=>exact Q6 (f:=fun h ti=>lift (A4 (asNat (opv E i fr)) fun i=>Fk E ti.desc i (opv E x fr)) h) (fun _ C=>L4 C B) A
 |slice t x lo hi mx=>
  refine Q6 (f:=fun h ti=>bif hi.isNone&&mx.isSome then .bad else lift (sliceA E ti.desc (Mz E lo fr) (Mz E hi fr) (Mz E mx fr) (opv E x fr)) h) (fun _ C=>?_) A;grind[L4]
 |nilCheck x=>exact L4 A B
 |build t ps=>exact Q6 (f:=fun h ti=>lift (f8 E ti (opvps E ps.toList fr)) h) (fun _ C=>L4 C B) A
 |makeInterface t x=>
  refine Q6 (f:=fun h ti=>bif V3 ti.desc then .ok (.iface t (opv E x fr)) h else .bad) (fun ti C=>?_) A;grind
 |makeFunc f first caps=>cases A;exact⟨rfl,rfl⟩
 |call c=>
  exfalso
  obtain⟨D,args,argTypes⟩:=c;cases D with
  |builtin b=>cases b<;>cases hc
  |_=>cases hc
 |_=>cases hc
theorem iU{α:Type}{i:Nat}{d:α}{f:List AV->Nat->α}{A:Heap}(hg:A.get i=h.get i):A.onRow i d f=h.onRow i d f:=by grind[Heap.onRow]
theorem dI{α:Type}{i:Nat}{d:α}{f:List (AV×AV)->α}{A:Heap}(hg:A.get i=h.get i):A.onMapo i d f=h.onMapo i d f:=by grind[Heap.onMapo]
theorem sO{x y:Option AV}{v:AV}{h h' A:Heap}(e:y=x)(hx:lift x h=.ok v h'):h'=h/\lift y A=.ok v A:=by
 grind[L4]
theorem iV{A:Heap}{t:TI}{x:AV}(hg:∀i,n8 x=zs i->A.get i=h.get i):Fj t x A=Fj t x h:=by
 cases x with
 |ptr id i off=>exact iU (hg id rfl)
 |_=>rfl
theorem oZ{A:Heap}{d:TD}{x:AV}(hg:∀i,n8 x=zs i->A.get i=h.get i):iH d x A=iH d x h:=by
 cases d with
 |map k e=>
  cases x with
  |map id=>exact dI (hg id rfl)
  |_=>rfl
 |_=>rfl
theorem map_lt{W:World}{cx:Cx}{u:Value}{id:Nat}(A:Rep W cx u (.map id)):id<cx.nx:=by
 cases A;assumption
theorem Rv{W:World}{cx:Cx}{u:Value}{x:AV}(B:Rep W cx u x){i:Nat}(A:n8 x=zs i):i<cx.nx:=by
 cases x with
 |ptr id i off=>cases A;exact B.ptr_inv.1
 |map id=>cases A;exact map_lt B
 |_=>cases A
theorem sP{W:World}{cx:Cx}{op:Op}{fr:Tr}(D:∀y∈op.operands.toList,∃u,Rep W cx u (opv E y fr)){i:Nat}(B:readO E op fr=zs i):i<cx.nx:=by
 cases op with
 |load t x=>obtain⟨u,C⟩:=D x (by simp[Op.operands]);exact Rv C B
 |lookup t m k ok=>obtain⟨u,C⟩:=D m (by simp[Op.operands]);exact Rv C B
 |call c=>
  obtain⟨callee,args,argTypes⟩:=c;have B:(match args.toList with|[]=>zn|x::_=>n8 (opv E x fr))=zs i:=B;cases A:args.toList with
  |nil=>grind
  |cons a r=>
   rw[A]at B;obtain⟨u,C⟩:=D a (by simp[Op.operands,Call.operands];exact .inr (Array.mem_toList_iff.1 (by rw[A];exact zqf ..)));exact Rv C B
 |_=>cases B
theorem iW{op:Op}(hc:Hu op=1){fr:Tr}{B:Heap}(hg:∀i,readO E op fr=zs i->B.get i=h.get i){v:AV}{h':Heap}(A:evOp E call op fr h=.ok v h'):h'=h/\evOp E call op fr B=.ok v B:=by
 cases op with
 |load t x=>
  exact Q6 (f:=fun h ti=>lift (Fj ti (opv E x fr) h) h) (fun ti I=>sO (iV hg) I) A
 |lookup t m k ok=>cases A
 |call c=>
  obtain⟨D,args,argTypes⟩:=c;cases D with
  |builtin b=>
   have A:lift2 (E4 E b argTypes.toList (opvs E args.toList fr) h)=.ok v h':=A;show _/\lift2 (E4 E b argTypes.toList (opvs E args.toList fr) B)=.ok v B
   have hrep:∀x l,opvs E args.toList fr=x::l->∀i,n8 x=zs i->B.get i=h.get i:=by
    intro x l e i hi;refine hg i ?_;show(match args.toList with|[]=>zn|x::_=>n8 (opv E x fr))=zs i
    cases C:args.toList with
    |nil=>rw[C]at e;cases e
    |cons a r=>
     rw[C]at e;have e:opv E a fr::opvs E r fr=x::l:=e
     have:=(List.cons.inj e).1
     show n8 (opv E a fr)=_
     rw[this];exact hi
   cases b with
   |len=>
    have A:lift2 (Vi E argTypes.toList (opvs E args.toList fr) h)=.ok v h':=A;show _/\lift2 (Vi E argTypes.toList (opvs E args.toList fr) B)=.ok v B
    unfold Vi at A|-;generalize argTypes.toList=H at A|-;generalize opvs E args.toList fr=vs at A hrep|-;cases H with
    |nil=>cases A
    |cons t ts=>
     cases vs with
     |nil=>cases A
     |cons x l=>
      have J:=hrep x l rfl;dsimp only at A|-;unfold onTI at A|-;generalize E.ti t=N at A|-;cases N with
      |none=>cases A
      |some ti=>
       dsimp only at A|-;rw[oZ J];cases hl:iH ti.desc x h with
       |none=>rw[hl]at A;cases A
       |some n=>
        rw[hl]at A;simp only[A4,B7,lift2]at A|-;cases A;exact⟨rfl,rfl⟩
   |max=>
    have A:lift2 (oS (opvs E args.toList fr) h)=.ok v h':=A;show _/\lift2 (oS (opvs E args.toList fr) B)=.ok v B
    unfold oS at A|-;generalize opvs E args.toList fr=vs at A|-;cases vs with
    |nil=>cases A
    |cons x l=>
     dsimp only at A|-;cases G:Mw l x with
     |none=>rw[G]at A;cases A
     |some r=>rw[G]at A;cases A;exact⟨rfl,rfl⟩
   |min=>
    have A:lift2 (oT (opvs E args.toList fr) h)=.ok v h':=A;show _/\lift2 (oT (opvs E args.toList fr) B)=.ok v B
    unfold oT at A|-;generalize opvs E args.toList fr=vs at A|-;cases vs with
    |nil=>cases A
    |cons x l=>
     dsimp only at A|-;cases G:Pe l x with
     |none=>rw[G]at A;cases A
     |some r=>rw[G]at A;cases A;exact⟨rfl,rfl⟩
   |_=>cases hc
  |_=>cases hc
 |_=>cases hc
end
end Go.AM
/-
 The abstract machine: new objects; what is left as it was.
-/
namespace Go.AM
section
variable {P:Program}{E:Env}{W:World}{cx:Cx}{h:Heap}{call:C7}
def AC(P:Program)(W:World)(cx:Cx)(s:Sem Next)(es:List AV)(sz:Nat)(nx:Nat->AV):Prop:=
 ∃ (c:Array Value) (t:TypeId) (vs:List Value) (v':Value),s.run P W=.ok (.value v') (W.alloc (.cells c t))/\RowRep W cx vs es sz/\(∀(k:Nat) v,vs[k]?=zs v->c[k]?=zs v)/\es.length*sz<=c.size/\
   ∀(W₂:World)(cx₂:Cx)(id:Nat),cx₂.μ id=(W.heap.size,0,sz)->id<cx₂.nx->W.heap.size<W₂.heap.size->szOf W₂ W.heap.size=c.size->Rep W₂ cx₂ v' (nx id)
theorem Ww{v:Value}{a:AV}{sz:Nat}(C:Rep W cx v a)(B:Vj v.cells.toList)(D:a≠.und)(hz:a.cells.length=sz)(t:TypeId){s:Sem Next}(G:s.run P W=.ok (.value (.pointer (zs ⟨W.heap.size,0,zn⟩))) (W.alloc (.cells v.cells t))):
 AC P W cx s [a] sz (fun id=>.ptr id 0 0):=by
 have A:=C.cells D;refine⟨v.cells,t,_,_,G,RowRep.one A B hz,fun k v hk=>by grind,by have:=A.1;grind,fun W₂ cx₂ id h1 h2 h3 h4=>?_⟩
 have:=Rep.ptr (W:=W₂) (cx:=cx₂) id 0 0 h2 (by grind)
 grind
theorem sQ(hE:EnvOk E P)(O:Sat E W cx h){a:Act}{fr:Tr}(hf:FrRep W cx a.tmps fr)(o:Oper)(hc:Hu o.op=2){v:AV}{C h':Heap}(H:evOp E call o.op fr C=.ok v h'):
 ∃es sz nx,v=nx C.next/\h'=C.push (.row es sz)/\(∀A,evOp E call o.op fr A=.ok (nx A.next) (A.push (.row es sz)))/\AC P W cx (execOp a.eval o) es sz nx:=by
 have Q:=fun x=>X5 (E:=E) O hf x
 obtain⟨dst,op,type,pos,after,guard⟩:=o;cases op with
 |alloc t=>
  obtain⟨ti,G,B⟩:=E2 H;have N:=hE.ti t ti G;obtain⟨z,X,J⟩:=N.run_zero (W:=W);cases B;refine⟨[ti.zero],ti.size,fun id=>.ptr id 0 0,rfl,rfl,fun A=>?_,Ww (J.rep W cx) J.one J.und N.zsz t ?_⟩
  . show onTI E t .bad (fun ti=>iI ti.size ti.zero A)=_
    unfold onTI;rw[G];rfl
  . simp[execOp,Instr.alloc,X,newVar,newRow]
 |box t x=>
  obtain⟨ti,G,B⟩:=E2 H;cases hg:(Nat.beq (lenL (opv E x fr).cells) ti.size&&D1 (opv E x fr).cells)with
  |false=>grind
  |true=>
   rw [hg]at B;cases B;have V:=hg;rw[zqa,A3,G0]at hg;have Y:opv E x fr≠.und:=fun e=>by
    have:=hg.2 .und (by rw[e];simp[AV.cells])
    cases this
   refine⟨[opv E x fr],ti.size,fun id=>.ptr id 0 0,rfl,rfl,fun A=>?_,Ww (Q x) (((Q x).cells Y).one hg.2) Y (C4 hg.1) t ?_⟩
   . show onTI E t .bad (fun ti=>bif Nat.beq (lenL (opv E x fr).cells) ti.size&&D1 (opv E x fr).cells then iI ti.size (opv E x fr) A else .bad)=_
     unfold onTI;rw[G];dsimp only;rw[V];rfl
   . simp[execOp,Instr.box,newVar,newRow]
 |buildSlice t n ps=>
  obtain⟨ti,G,B⟩:=E2 H;cases D:elemOfT E ti.desc with
  |none=>grind
  |some te=>
   rw[D]at B;cases hg:(Nat.ble (Nat.mul n te.size) 65536&&Nat.blt 0 te.size)with
   |false=>grind
   |true=>
    simp only[hg,cond_true]at B;cases hp:placeL te.size (opvps E ps.toList fr) (repL n te.zero)with
    |none=>grind
    |some es=>
     rw[hp]at B;cases B;obtain⟨l1,l2⟩:=Hg O hf ps.toList;obtain⟨e,U,h1,h2,h3,h4⟩:=Fy hE O G D (ps:=ps.map fun p=>(p.1,a.eval p.2)) (by grind) (by grind) hg hp;refine⟨es,te.size,fun id=>.msl id 0 n te.size,rfl,rfl,fun A=>?_,U,e,U.toList,.slice (zs ⟨W.heap.size,0,zn⟩) n n,?_,h2,fun k v hk=>by grind,by grind,fun W₂ cx₂ id k1 k2 k3 k4=>?_⟩
     . show L6 E t n ps fr A=_
       unfold L6;unfold onTI;rw[G];grind
     . show((do pure (.value (<-Instr.buildSlice t n (ps.map fun p=>(p.1,a.eval p.2))))):Sem Next).run P W=_
       simp_all
     simp_all[Zo]
 |makeSlice t l c=>
  obtain⟨ti,G,B⟩:=E2 H;cases D:elemOfT E ti.desc with
  |none=>grind
  |some te=>
   rw[D]at B;dsimp only at B;cases hl:asNat (opv E l fr)with
   |none=>grind
   |some n=>
    rw[hl]at B;dsimp only at B;cases hm:asNat (opv E c fr)with
    |none=>grind
    |some m=>
     rw[hm]at B;dsimp only at B;cases hg:(Nat.ble n m&&Nat.ble (Nat.mul m te.bytes) 140737488355328&&Nat.blt 0 te.size)with
     |false=>grind
     |true=>
      rw[hg]at B;cases B;obtain⟨e,U,vs,h1,h2,h3,h4,h5⟩:=Vr hE O G D (Q l) (Q c) hl hm hg;refine⟨repL n te.zero,te.size,fun id=>.msl id 0 n te.size,rfl,rfl,fun A=>?_,U,e,vs,.slice (zs ⟨W.heap.size,0,zn⟩) n m,?_,h2,h3,by simp_all[m8,Nat.mul_le_mul_right],fun W₂ cx₂ id k1 k2 k3 k4=>?_⟩
      . show O3 E t l c fr A=_
        unfold O3;unfold onTI;rw[G];grind
      . show((do pure (.value (<-Instr.makeSlice t (a.eval l) (a.eval c)))):Sem Next).run P W=_
        simp_all
      grind[Zo]
 |call c=>
  exfalso
  obtain⟨I,args,argTypes⟩:=c;cases I with
  |builtin b=>cases b<;>cases hc
  |_=>cases hc
 |_=>cases hc
structure Pres(h h':Heap):Prop where
 next:h.next<=h'.next
 get:∃new,h'.tch=new++h.tch/\∀i,i<h.next->i∉new->h'.get i=h.get i
def Res.heap(r:Res):Option Heap:=match r with | .ok _ h=>zs h | .pan _ h=>zs h | .bad=>zn
def N9(call:C7):Prop:=∀f l h h',Res.heap (call f l h)=zs h'->Pres h h'
theorem Pres.refl(h:Heap):Pres h h:=⟨zql _,[],rfl,fun _ _ _=>rfl⟩
theorem Pres.trans{h A B:Heap}(a:Pres h A)(b:Pres A B):Pres h B:=by
 obtain⟨C,D,a2,a3⟩:=a;obtain⟨G,H,b2,b3⟩:=b;refine⟨zqm C G,H++D,by grind,fun i hi hn=>?_⟩;grind
theorem Pres.set(h:Heap)(i:Nat)(x:AObj):Pres h (h.set i x):=
 ⟨zql _,[i],rfl,(by grind[Go.AM.Heap.get_set_ne])⟩
theorem Pres.del(h:Heap)(i:Nat):Pres h (h.del i):=
 ⟨zql _,[i],rfl,(by grind[Go.AM.Heap.get_del_ne])⟩
theorem Pres.push(h:Heap)(x:AObj):Pres h (h.push x):=
 ⟨Nat.le_succ _,[],rfl,(by grind[Go.AM.Heap.get_push_ne])⟩
theorem l5{t:Nat}{f:TI->Res}{v:AV}{h':Heap}(hx:onTI E t .bad f=.ok v h')(hf:∀x,f x=.ok v h'->Pres h h'):Pres h h':=by
 grind[E2]
theorem Wx{x:Option AV}{v:AV}{h':Heap}(A:lift x h=.ok v h'):Pres h h':=by
 rw[(G6 A).2];exact .refl h
theorem Kz{te:TI}{s:AV}{xs:List AV}{r:AV}{h':Heap}(ha:G9 te s xs h=zs (r,h')):Pres h h':=by
 unfold G9 at ha;cases xs with
 |nil=>cases s<;>first|(cases ha;exact .refl h)|cases ha
 |cons x xs=>
  cases s with
  |nilsl=>
   have ha:Ay te [] zt (x::xs) h=zs (r,h'):=ha;rw[Ja]at ha;rw[B7]at ha;obtain⟨_,ha⟩:=A6 ha;cases ha;exact .push _ _
  |fsl es full=>
   have ha:Ay te es full (x::xs) h=zs (r,h'):=ha;rw[Ja]at ha;rw[B7]at ha;obtain⟨_,ha⟩:=A6 ha;cases ha;exact .push _ _
  |msl id off n sz=>
   obtain⟨es,sz',_,ha⟩:=Heap.onRow_some ha;rw[Rk]at ha;rw[B7]at ha;obtain⟨_,ha⟩:=A6 ha;cases ha;exact(Pres.del h id).trans (.push _ _)
  |_=>cases ha
theorem builtinA_pres{b:Builtin}{ts:List TypeId}{args:List AV}{r:AV}{h':Heap}(hb:E4 E b ts args h=zs (r,h')):Pres h h':=by
 cases b with
 |append=>
  have hb:Kk E ts args h=zs (r,h'):=hb;unfold Kk at hb;cases ts with
  |nil=>cases hb
  |cons t ts=>
   cases ts with
   |nil=>cases hb
   |cons tx ts=>
    cases args with
    |nil=>cases hb
    |cons s l=>
     cases l with
     |nil=>cases hb
     |cons x l=>
      obtain ⟨ti,_,hb⟩:=D7 hb;obtain⟨te,_,hb⟩:=A0 hb;obtain⟨_,hb⟩:=A6 hb;obtain⟨B,_,hb⟩:=D7 hb;have A:A4 (elems x h) (fun xs=>A9 (F2 te.size xs) (G9 te s xs h))=zs (r,h')->Pres h h':=fun hb=>by
       obtain⟨xs,_,hb⟩:=A0 hb;obtain⟨_,hb⟩:=A6 hb;exact Kz hb
      cases C:B.desc with
      |int k=>
       rw[C]at hb;obtain⟨n,_,hb⟩:=A0 hb;obtain⟨_,hb⟩:=A6 hb;exact Kz hb
      |_=>rw[C]at hb;exact A hb
 |len=>
  have hb:Vi E ts args h=zs (r,h'):=hb;unfold Vi at hb;cases ts with
  |nil=>cases hb
  |cons t ts=>
   cases args with
   |nil=>cases hb
   |cons x l=>
    obtain⟨ti,_,hb⟩:=D7 hb;obtain⟨n,_,hb⟩:=A0 hb;rw[B7]at hb;cases hb;exact .refl _
 |copy=>
  have hb:cW E ts args h=zs (r,h'):=hb;unfold cW at hb;cases ts with
  |nil=>cases hb
  |cons t ts=>
   cases args with
   |nil=>cases hb
   |cons d l=>
    cases l with
    |nil=>cases hb
    |cons s l=>
     obtain⟨ti,_,hb⟩:=D7 hb;obtain⟨te,_,hb⟩:=A0 hb;obtain⟨xs,_,hb⟩:=A0 hb;obtain⟨_,hb⟩:=A6 hb;cases d with
     |msl id off n sz=>
      obtain⟨es,sz',_,hb⟩:=Heap.onRow_some hb;unfold Kj at hb;rw[B7]at hb;obtain⟨_,hb⟩:=A6 hb;cases hb;exact .set _ _ _
     |nilsl=>cases hb;exact .refl _
     |_=>cases hb
 |max=>
  cases args with
  |nil=>cases hb
  |cons x l=>
   obtain⟨y,_,hb⟩:=zqn.1 (show(Mw l x).map (·,h)=zs (r,h')from hb);cases hb;exact .refl _
 |min=>
  cases args with
  |nil=>cases hb
  |cons x l=>
   obtain⟨y,_,hb⟩:=zqn.1 (show(Pe l x).map (·,h)=zs (r,h')from hb);cases hb;exact .refl _
 |_=>cases hb
theorem evOp_pres(H:N9 call){op:Op}{fr:Tr}{v:AV}{h':Heap}(A:evOp E call op fr h=.ok v h'):Pres h h':=by
 by_cases h0:Hu op=0
 . rw[(Ng h0 A h).1];exact .refl _
 cases op with
 |alloc t=>exact l5 A fun ti B=>by cases B;exact .push _ _
 |box t x=>
  refine l5 A fun ti B=>?_
  cases hb:(Nat.beq (lenL (opv E x fr).cells) ti.size&&D1 (opv E x fr).cells)with
  |true=>rw[hb]at B;cases B;exact .push _ _
  |false=>rw[hb]at B;cases B
 |buildSlice t n ps=>
  refine l5 A fun ti B=>?_
  cases D:elemOfT E ti.desc with
  |none=>rw[D]at B;cases B
  |some te=>
   rw[D]at B;dsimp only at B;cases hg:(Nat.ble (Nat.mul n te.size) 65536&&Nat.blt 0 te.size)with
   |false=>rw[hg]at B;cases B
   |true=>
    rw[hg]at B;simp only[cond_true]at B;cases I:placeL te.size (opvps E ps.toList fr) (repL n te.zero)with
    |none=>rw[I]at B;cases B
    |some es=>rw[I]at B;cases B;exact .push _ _
 |load t x=>exact l5 A fun ti B=>Wx B
 |typeAssert x xt t ok=>
  refine l5 A fun ti B=>?_
  cases hb:(V3 ti.desc && !ok)with
  |true=>rw[hb]at B;exact Wx B
  |false=>rw[hb]at B;cases B
 |lookup t m k ok=>cases A
 |store t x y=>
  refine l5 A fun ti B=>?_
  cases C:Dn ti (opv E x fr) (opv E y fr) h with
  |none=>rw[C]at B;cases B
  |some h2=>
   rw[C]at B;cases B;cases I:opv E x fr with
   |ptr id i off=>
    rw[I]at C;obtain⟨es,sz,_,C⟩:=Heap.onRow_some C;obtain⟨old,_,C⟩:=A0 C;obtain⟨_,C⟩:=A6 C;cases C;exact .set _ _ _
   |_=>rw[I]at C;cases C
 |makeMap t r=>
  cases r with
  |none=>cases A;exact .push _ _
  |some r=>cases A
 |makeSlice t l c=>
  refine l5 A fun ti B=>?_
  cases D:elemOfT E ti.desc with
  |none=>rw[D]at B;cases B
  |some te=>
   rw[D]at B;dsimp only at B;cases hl:asNat (opv E l fr)with
   |none=>rw[hl]at B;cases B
   |some n=>
    rw[hl]at B;dsimp only at B;cases J:asNat (opv E c fr)with
    |none=>rw[J]at B;cases B
    |some m=>
     rw[J]at B;dsimp only at B;cases hg:(Nat.ble n m&&Nat.ble (Nat.mul m te.bytes) 140737488355328&&Nat.blt 0 te.size)with
     |false=>rw[hg]at B;cases B
     |true=>rw[hg]at B;cases B;exact .push _ _
 |mapUpdate t m k x=>cases A
 |insert t m k x=>cases A
 |call c=>
  obtain⟨G,args,argTypes⟩:=c;cases G with
  |value f=>
   have A:f9 call (opv E f fr) (opvs E args.toList fr) h=.ok v h':=A;cases C:opv E f fr with
   |fn g first caps=>
    rw[C]at A;cases g with
    |func n=>exact H _ _ _ _ (by show Res.heap (f9 call (.fn (.func n) first caps) (opvs E args.toList fr) h)=_;rw[A];rfl)
    |_=>cases A
   |_=>rw[C]at A;cases A
  |invoke f n=>cases A
  |builtin b=>
   have A:lift2 (E4 E b argTypes.toList (opvs E args.toList fr) h)=.ok v h':=A;cases C:E4 E b argTypes.toList (opvs E args.toList fr) h with
   |none=>rw[C]at A;cases A
   |some p=>rw[C]at A;cases A;exact builtinA_pres C
 |panic x=>
  exfalso
  have A:oV (opv E x fr) h=.ok v h':=A;cases C:opv E x fr<;>rw[C]at A<;>cases A
 |_=>first|exact absurd rfl h0|cases A
theorem evOp_pres_pan(B:N9 call){op:Op}{fr:Tr}{v:AV}{h':Heap}(A:evOp E call op fr h=.pan v h'):Pres h h':=by
 by_cases D:∃x,op=.panic x
 . obtain⟨x,rfl⟩:=D
   have A:oV (opv E x fr) h=.pan v h':=A;cases C:opv E x fr with
   |iface t w=>rw[C]at A;cases A;exact .refl h
   |_=>rw[C]at A;cases A
 . by_cases hc:∃c f,op=.call c/\c.callee=.value f
   . obtain ⟨c,f,rfl,hf⟩:=hc
     obtain⟨callee,args,argTypes⟩:=c;dsimp only at hf;subst hf;have A:f9 call (opv E f fr) (opvs E args.toList fr) h=.pan v h':=A;cases C:opv E f fr with
     |fn g first caps=>
      rw[C]at A;cases g with
      |func n=>exact B _ _ _ _ (by show Res.heap (f9 call (.fn (.func n) first caps) (opvs E args.toList fr) h)=_;rw[A];rfl)
      |_=>cases A
     |_=>rw[C]at A;cases A
   . exact absurd A (Ru (fun x e=>D ⟨x,e⟩) (fun c f e e2=>hc ⟨c,f,e,e2⟩) v h')
end
end Go.AM
/-
 The abstract machine: a region that draws its order: the plan,and the run in the order of reference.
-/
namespace Go.AM
structure Plan(ops:Array Oper)(ms l:List Nat):Prop where
 len:l.length=ops.size
 lt:∀(m i:Nat),l[m]?=zs i->i<ops.size
 all:∀(i:Nat),i<ops.size->∃m:Nat,l[m]?=zs i
 inj:∀(m m' i:Nat),l[m]?=zs i->l[m']?=zs i->m=m'
 pair:∀(m m' i j:Nat),m<m'->l[m]?=zs i->l[m']?=zs j->Yz ops.toList ms i j=zt/\bit (ms.getD i 0) j=zf
 mask:∀(i j:Nat),i<ops.size->j<ops.size->bit (ms.getD j 0) i=zt->∃o,ops[j]?=zs o/\∃e∈directs o,e=i\/bit (ms.getD e 0) i=zt
 news:∀(m i:Nat)(o:Oper),l[m]?=zs i->ops[i]?=zs o->Hu o.op=2->∀(m' j:Nat),m<m'->l[m']?=zs j->bit (ms.getD j 0) i=zt->∀(m'' k:Nat),m''<m->l[m'']?=zs k->bit (ms.getD j 0) k=zt
 edge:∀(j:Nat)(o:Oper)(e:Nat),ops[j]?=zs o->e∈directs o->e<ops.size/\bit (ms.getD j 0) e=zt/\e≠j
 dst:∀(m m' i j:Nat)(x y:Oper)(d:Tmp),m<m'->l[m]?=zs i->l[m']?=zs j->ops[i]?=zs x->ops[j]?=zs y->x.dst=zs d->y.dst≠zs d
theorem Rw:∀(l:List Nat),Zb l=zt->∀(m m':Nat) i,l[m]?=zs i->l[m']?=zs i->m=m'
 |[],_,m,m',i,h,_=>by simp at h
 |a :: r,hn,m,m',i,h,h'=>by
  unfold Zb at hn;rw[zqa]at hn;have hc:a∉r:=by
   grind
  cases m with
  |zero=>
   grind
  |succ m=>
   cases m' with
   |zero=>
    grind
   |succ m'=>
    simp at h h';rw[Rw r hn.2 m m' i h h']
theorem pairsOk_get{ops:List Oper}{ms:List Nat}:∀(l:List Nat),Qe ops ms l=zt->∀(m m':Nat) i j,m<m'->l[m]?=zs i->l[m']?=zs j->Yz ops ms i j=zt/\bit (ms.getD i 0) j=zf
 |[],_,m,m',i,j,_,h,_=>by simp at h
 |a :: r,hn,m,m',i,j,hlt,h,h'=>by
  unfold Qe at hn;rw[zqa]at hn;cases m' with
  |zero=>omega
  |succ m'=>
   simp at h';cases m with
   |zero=>
    grind
   |succ m=>
    simp at h;exact pairsOk_get r hn.2 m m' i j (by omega) h h'
theorem Rx{ops:List Oper}:∀(l:List Nat),Zc ops l=zt->∀(m m':Nat) i j x y d,m<m'->l[m]?=zs i->l[m']?=zs j->ops[i]?=zs x->ops[j]?=zs y->x.dst=zs d->y.dst≠zs d
 |[],_,m,m',i,j,x,y,d,_,h,_,_,_,_=>by simp at h
 |a :: r,hn,m,m',i,j,x,y,d,hlt,h,h',hx,hy,hd=>by
  unfold Zc at hn;rw[zqa]at hn;cases m' with
  |zero=>omega
  |succ m'=>
   simp at h';cases m with
   |zero=>
    simp at h;subst h
    have:=(zqe.1 hn.1) j (zqh h')
    grind
   |succ m=>
    simp at h;exact Rx r hn.2 m m' i j x y d (by omega) h h' hx hy hd
theorem Ry{ops:List Oper}{ms:List Nat}:∀(l A:List Nat),Za ops ms A l=zt->∀(m:Nat) i o,l[m]?=zs i->ops[i]?=zs o->Hu o.op=2->∀m' j,m<m'->l[m']?=zs j->bit (ms.getD j 0) i=zt ->
 (∀k∈A,bit (ms.getD j 0) k=zt)/\∀m'' k,m''<m->l[m'']?=zs k->bit (ms.getD j 0) k=zt
 |[],_,_,m,i,o,h,_,_,_,_,_,_,_=>by simp at h
 |a :: r,A,hn,m,i,o,h,ho,hc,m',j,hlt,h',hb=>by
  unfold Za at hn;rw[zqa]at hn;cases m' with
  |zero=>omega
  |succ m'=>
   simp at h';cases m with
   |zero=>
    simp at h;subst h;have h1:=hn.1;have B:clsAt ops a=2:=by grind[clsAt]
    rw[B]at h1;have h2:(r.all fun j=>!(bit (ms.getD j 0) a)||A.all fun i=>bit (ms.getD j 0) i)=zt:=by simpa using h1
    grind
   |succ m=>
    simp at h;obtain⟨h4,h5⟩:=Ry r (a::A) hn.2 m i o h ho hc m' j (by omega) h' hb;grind
theorem xM{ops:Array Oper}{ms l:List Nat}(h:Na ops.toList ms l=zt):Plan ops ms l:=by
 unfold Na at h;simp only[zqa]at h;obtain⟨⟨⟨⟨⟨⟨h1,h2⟩,N⟩,V⟩,h5⟩,O⟩,h7⟩:=h;unfold sE at h1;simp only[zqa]at h1;obtain⟨⟨⟨a1,a2⟩,a3⟩,X⟩:=h1;have D:l.length=ops.size:=by simp_all
 have I:∀(m i:Nat),l[m]?=zs i->i<ops.size:=fun m i B=>by
  have:=I5 ((zqe.1 a3) i (zqh B));simpa using this
 refine⟨D,I,fun i hi=>?_,fun m m' i=>Rw l X m m' i,(by grind[Go.AM.pairsOk_get]),fun i j hi G hb=>?_,fun m i o B ho hc m' j A C hb m'' k Q H=>?_,fun j o e ho U=>?_,fun m m' i j x y d A B C hx hy hd=>?_⟩
 . have:=(zqe.1 a2) i (by unfold Pf;simp;exact hi)
   have B:i∈l:=by simpa using this
   exact zqi B
 . unfold lF at N
   have h8:=(zqe.1 N) j (by unfold Pf;simp;exact G);have J:=(zqe.1 h8) i (by unfold Pf;simp;exact hi);simp_all
 . exact(Ry l [] V m i o B (by rw[zqc];exact ho) hc m' j A C hb).2 m'' k Q H
 . have G:j<ops.size:=by
    grind
   unfold lG at O;have h8:=(zqe.1 O) j (by unfold Pf;simp;exact G);rw[zqc,ho]at h8;have J:=(zqe.1 h8) e U;simp only[zqa,zqb]at J;obtain⟨⟨b1,Y⟩,b3⟩:=J;refine⟨by simp_all,Y,fun e'=>?_⟩;simp_all
 grind[Rx]
theorem Plan.apart{ops:Array Oper}{ms l:List Nat}(G:Plan ops ms l){m m' i j:Nat}{x y:Oper}(A:m<m')(B:l[m]?=zs i)(C:l[m']?=zs j)(H:ops[i]?=zs x)(D:ops[j]?=zs y)(hb:bit (ms.getD j 0) i=zf):
 Hu y.op≠3/\(∀d,x.dst=zs d->d∉AM.looksAt ops.toList y)/\(∀d,y.dst=zs d->d∉AM.looksAt ops.toList x):=by
 have h:=(G.pair m m' i j A B C).1;unfold Yz at h;rw[hb]at h;simp only[Bool.false_or,zqa,zqb]at h;obtain⟨h1,h2⟩:=h;unfold clsAt at h1;rw[zqc,D]at h1;unfold apartAt at h2;rw[zqc,H]at h2;dsimp only at h2;rw[zqc,D]at h2;dsimp only at h1 h2;unfold sC at h2;rw[zqa]at h2;refine⟨fun e=>(by simp_all),fun d I B=>?_,fun d I B=>?_⟩
 . grind
 grind
section
variable (E:Env)(call:C7)
abbrev HD:=Heap×List Nat
def AD(r:DRes):Option (AV×HD):=match r with | .ok v h d=>zs (v,h,d)|_=>zn
noncomputable def stp(x:XOp)(fr:Tr)(h:HD):Option (AV×HD):=
 match guardOk x.gd fr with
 |none=>zn
 |some b=>match b with|false=>zs (skipped,h)|true=>AD (evOpD E call x fr h.1 h.2)
noncomputable def IE(x:XOp)(s:Tr×HD):Option (Tr×HD):=A4 (stp E call x s.1 s.2) fun r=>zs (setDst x.dst r.1 s.1,r.2)
noncomputable def St(xs:List XOp)(s₀:Tr×HD):Nat->Option (Tr×HD)
 |0=>zs s₀
 |m+1=>A4 (St xs s₀ m) fun s=>A4 xs[m]? fun x=>IE E call x s
end
section
variable {E:Env}{call:C7}{xs:List XOp}{s₀:Tr×HD}
theorem Zj{m:Nat}{s:Tr×HD}(h:St E call xs s₀ (m+1)=zs s):∃A x r,St E call xs s₀ m=zs A/\xs[m]?=zs x/\stp E call x A.1 A.2=zs r/\s=(setDst x.dst r.1 A.1,r.2):=by
 obtain⟨A,h1,h⟩:=A0 h;obtain⟨x,h2,h⟩:=A0 h;obtain⟨r,h3,h⟩:=A0 h;grind
theorem La{m:Nat}{A:Tr×HD}{x:XOp}{r:AV×HD}(h1:St E call xs s₀ m=zs A)(h2:xs[m]?=zs x)(B:stp E call x A.1 A.2=zs r):St E call xs s₀ (m+1)=zs (setDst x.dst r.1 A.1,r.2):=by
 show A4 (St E call xs s₀ m) _=_
 rw[h1];show A4 xs[m]? _=_
 rw[h2];show A4 (stp E call x A.1 A.2) _=_
 rw[B];rfl
theorem AE{m:Nat}{s:Tr×HD}(h:St E call xs s₀ m=zs s):∀{k:Nat},k<=m->∃A,St E call xs s₀ k=zs A:=by
 induction m generalizing s with
 |zero=>grind
 |succ m ih=>
  intro k hk;rcases Nat.lt_or_ge k (m+1)with h'|h'
  . grind[Zj]
  grind
theorem run_cases:∀(n k:Nat),xs.length-k=n->k<=xs.length->∀(fr:Tr)(h:HD),St E call xs s₀ k=zs (fr,h)->evOpsD E call (xs.drop k) fr h.1 h.2≠.bad ->
 (∃ fr' h',St E call xs s₀ xs.length=zs (fr',h')/\evOpsD E call (xs.drop k) fr h.1 h.2=.ok .normal fr' h'.1)\/
   ∃m x fr' h' v hh,k<=m/\St E call xs s₀ m=zs (fr',h')/\xs[m]?=zs x/\guardOk x.gd fr'=zs zt/\evOpD E call x fr' h'.1 h'.2=.pan v hh/\virtD E call (xs.drop (m+1)) x.late (setDst x.dst skipped fr') h'.1 h'.2=zt/\evOpsD E call (xs.drop k) fr h.1 h.2=.pan v hh
 |0,k,hn,hk,fr,h,hs,hb=>by
  have:k=xs.length:=by omega
  subst this;exact .inl ⟨fr,h,hs,by rw[List.drop_length];rfl⟩
 |n + 1,k,hn,hk,fr,h,hs,hb=>by
  have C:k<xs.length:=by omega
  have U:xs.drop k=xs[k]::xs.drop (k+1):=List.drop_eq_getElem_cons C;have G:xs[k]?=zs xs[k]:=zqj C;rw[U]at hb|-;have e:evOpsD E call (xs[k]::xs.drop (k+1)) fr h.1 h.2=onOB (guardOk xs[k].gd fr) .bad (O9 xs[k].dst (evOpsD E call (xs.drop (k+1))) (virtD E call (xs.drop (k+1)) xs[k].late (setDst xs[k].dst skipped fr) h.1 h.2) fr (evOpD E call xs[k] fr h.1 h.2)) (evOpsD E call (xs.drop (k+1)) (setDst xs[k].dst skipped fr) h.1 h.2):=rfl;rw[e]at hb|-;cases hg:guardOk xs[k].gd fr with
  |none=>rw[hg]at hb;exact absurd rfl hb
  |some b=>
   rw[hg]at hb;cases b with
   |false=>
    have A:stp E call xs[k] fr h=zs (skipped,h):=by unfold stp;rw[hg]
    have D:=La hs G A;have hb:evOpsD E call (xs.drop (k+1)) (setDst xs[k].dst skipped fr) h.1 h.2≠.bad:=hb;rcases run_cases n (k+1) (by omega) C _ _ D hb with⟨fr',h',h1,h2⟩|⟨m,x,fr',h',v,hh,h1,h2,H,I,J,N,O⟩
    . exact .inl ⟨fr',h',h1,h2⟩
    . exact .inr ⟨m,x,fr',h',v,hh,by omega,h2,H,I,J,N,O⟩
   |true=>
    have hb:O9 xs[k].dst (evOpsD E call (xs.drop (k+1))) (virtD E call (xs.drop (k+1)) xs[k].late (setDst xs[k].dst skipped fr) h.1 h.2) fr (evOpD E call xs[k] fr h.1 h.2)≠.bad:=hb;show(∃fr' h',_/\O9 xs[k].dst (evOpsD E call (xs.drop (k+1))) (virtD E call (xs.drop (k+1)) xs[k].late (setDst xs[k].dst skipped fr) h.1 h.2) fr (evOpD E call xs[k] fr h.1 h.2)=_)\/∃m x fr' h' v hh,k<=m/\_/\_/\_/\_/\_/\O9 xs[k].dst (evOpsD E call (xs.drop (k+1))) (virtD E call (xs.drop (k+1)) xs[k].late (setDst xs[k].dst skipped fr) h.1 h.2) fr (evOpD E call xs[k] fr h.1 h.2)=_
    cases B:evOpD E call xs[k] fr h.1 h.2 with
    |bad=>rw[B]at hb;exact absurd rfl hb
    |pan v hh=>
     rw[B]at hb;cases Q:virtD E call (xs.drop (k+1)) xs[k].late (setDst xs[k].dst skipped fr) h.1 h.2 with
     |false=>rw[Q]at hb;exact absurd rfl hb
     |true=>exact .inr ⟨k,xs[k],fr,h,v,hh,zql _,hs,G,hg,B,Q,rfl⟩
    |ok v h1 d1=>
     rw[B]at hb;have A:stp E call xs[k] fr h=zs (v,h1,d1):=by unfold stp;rw[hg];dsimp only;rw[B];rfl
     have D:=La hs G A;have hb:evOpsD E call (xs.drop (k+1)) (setDst xs[k].dst v fr) h1 d1≠.bad:=hb;rcases run_cases n (k+1) (by omega) C _ _ D hb with⟨fr',h',h1,h2⟩|⟨m,x,fr',h',v,hh,h1,h2,H,I,J,N,O⟩
     . exact .inl ⟨fr',h',h1,h2⟩
     . exact .inr ⟨m,x,fr',h',v,hh,by omega,h2,H,I,J,N,O⟩
end
theorem Wy{ops:List Oper}{ms A:List Nat}{a:Nat}{r:List Nat}{B:Oper}(hoa:ops[a]?=zs B):
 Av ops ms A (a::r)=cD ops (m7 ops ms a r) (Nb ops ms a r) (k9 ops ms a A) B::Av ops ms (a::A) r:=by
 grind[Av]
theorem dJ{ops:List Oper}{ms:List Nat}:∀(l A:List Nat),(∀i∈l,∃o,ops[i]?=zs o)->∀(m i:Nat) o,l[m]?=zs i->ops[i]?=zs o ->
 (Av ops ms A l)[m]?=zs (cD ops (m7 ops ms i (l.drop (m+1))) (Nb ops ms i (l.drop (m+1))) (k9 ops ms i ((l.take m).reverse++A)) o)
 |[],_,_,m,i,o,h,_=>by simp at h
 |a::r,A,hl,m,i,o,h,ho=>by
  obtain⟨oa,B⟩:=hl a (zqf ..);rw[Wy B];cases m with
  |zero=>grind
  |succ m=>
   simp at h
   have:=dJ (ms:=ms) r (a::A) (by grind) m i o h ho
   grind
theorem Om{ops:List Oper}{ms:List Nat}:∀(l A:List Nat),(∀i∈l,∃o,ops[i]?=zs o)->(Av ops ms A l).length=l.length
 |[],_,_=>rfl
 |a::r,A,hl=>by
  obtain⟨oa,B⟩:=hl a (zqf ..);rw[Wy B,zqk,zqk,Om r (a::A) (by grind)]
structure PlanX(ops:Array Oper)(ms l:List Nat)(sk:Nat->Prop)(xs:List XOp):Prop extends Plan ops ms l where
 xlen:xs.length=l.length
 xat:∀(m i:Nat)(o:Oper),l[m]?=zs i->ops[i]?=zs o->∃x,xs[m]?=zs x/\x.dst=o.dst/\x.op=o.op/\x.quiet=m7 ops.toList ms i (l.drop (m+1))/\x.careful=k9 ops.toList ms i ((l.take m).reverse++[])/\(¬sk m->x.gd=F3 ops.toList o)
theorem Plan.have{ops:Array Oper}{ms l:List Nat}(A:Plan ops ms l):∀i∈l,∃o,ops.toList[i]?=zs o:=by
 intro i hi;obtain⟨m,B⟩:=zqi hi
 have:=A.lt m i B
 simp_all
theorem Plan.xget{ops:Array Oper}{ms l:List Nat}(A:Plan ops ms l){m i:Nat}{o:Oper}(B:l[m]?=zs i)(ho:ops[i]?=zs o):
 (Av ops.toList ms [] l)[m]?=zs (cD ops.toList (m7 ops.toList ms i (l.drop (m+1))) (Nb ops.toList ms i (l.drop (m+1))) (k9 ops.toList ms i ((l.take m).reverse++[])) o):=
 dJ l [] A.have m i o B (by grind)
def Rz(x:XOp):XOp:={x with gd:=zs (zn,zt)}
def Zk:List XOp->List Bool->List XOp
 |[],_=>[]
 |x::xs,[]=>x::xs
 |x::xs,b::bs=>(match b with|true=>Rz x|false=>x)::Zk xs bs
theorem dK:∀(xs:List XOp)(bs:List Bool),(Zk xs bs).length=xs.length
 |[],bs=>by cases bs<;>rfl
 |x::xs,[]=>rfl
 |x::xs,b::bs=>by show(Zk xs bs).length+1=_;rw[dK xs bs];rfl
theorem dL:∀(xs:List XOp)(bs:List Bool)(m:Nat)(x:XOp),xs[m]?=zs x->(Zk xs bs)[m]?=zs (if bs[m]?=zs zt then Rz x else x)
 |[],bs,m,x,h=>by simp at h
 |y::xs,[],m,x,h=>by grind[Zk]
 |y::xs,b::bs,0,x,h=>by
  simp at h;subst h;cases b<;>rfl
 |y::xs,b::bs,m+1,x,h=>by
  have:=dL xs bs m x (by grind)
  simp_all[Zk]
section
variable {E:Env}{call:C7}
theorem Wz(x:XOp)(fr:Tr)(h:HD):stp E call (Rz x) fr h=zs (skipped,h):=rfl
theorem dM{xs ys:List XOp}{s₀:Tr×HD}:∀(m:Nat),(∀q,q<m->ys[q]?=xs[q]?)->St E call ys s₀ m=St E call xs s₀ m
 |0,_=>rfl
 |m+1,h=>by
  show A4 (St E call ys s₀ m) _=A4 (St E call xs s₀ m) _
  rw[dM m fun q hq=>h q (by omega),h m (by omega)]
theorem Lb{ys:List XOp}{s₀:Tr×HD}:∀(xs:List XOp)(late:List Bool)(k:Nat)(fr:Tr)(h:HD),virtD E call xs late fr h.1 h.2=zt->(∀(q:Nat)(x:XOp),xs[q]?=zs x->ys[k+q]?=zs (if late[q]?=zs zt then Rz x else x)) ->
 St E call ys s₀ k=zs (fr,h)->∃s,St E call ys s₀ (k+xs.length)=zs s
 |[],late,k,fr,h,_,_,hs=>⟨_,hs⟩
 |x::xs,[],k,fr,h,A,_,_=>by cases A
 |x :: xs,b::late,k,fr,h,A,hy,hs=>by
  have h0:=hy 0 x rfl;have B:∀(q:Nat)(z:XOp),xs[q]?=zs z->ys[k+1+q]?=zs (if late[q]?=zs zt then Rz z else z):=fun q z hz=>by
   have:=hy (q+1) z (by grind)
   grind
  have e:k+(x::xs).length=k+1+xs.length:=by simp;omega
  rw[e];cases b with
  |true=>
   have A:virtD E call xs late (setDst x.dst skipped fr) h.1 h.2=zt:=A;have h0:ys[k]?=zs (Rz x):=by grind
   exact Lb xs late (k+1) _ h A B (La hs h0 (Wz x fr h))
  |false=>
   have A:onOB (guardOk x.gd fr) zf (virtThen x.dst (virtD E call xs late) fr (evOpD E call x fr h.1 h.2)) (virtD E call xs late (setDst x.dst skipped fr) h.1 h.2)=zt:=A;have h0:ys[k]?=zs x:=by grind
   cases hg:guardOk x.gd fr with
   |none=>rw[hg]at A;cases A
   |some b=>
    rw[hg]at A;cases b with
    |false=>
     have A:virtD E call xs late (setDst x.dst skipped fr) h.1 h.2=zt:=A;exact Lb xs late (k+1) _ h A B (La hs h0 (by unfold stp;rw[hg]))
    |true=>
     have A:virtThen x.dst (virtD E call xs late) fr (evOpD E call x fr h.1 h.2)=zt:=A;cases C:evOpD E call x fr h.1 h.2 with
     |ok v h1 d1=>
      rw[C]at A;exact Lb xs late (k+1) _ (h1,d1) A B (La hs h0 (by unfold stp;rw[hg];dsimp only;rw[C];rfl))
     |_=>rw[C]at A;cases A
end
end Go.AM
/-
 The abstract machine: a region that draws its order: what holds between its operations.
-/
namespace Go.AM
structure Keeps(h h':Heap):Prop where
 next:h.next<=h'.next
 get:∀i,i<h.next->h'.get i=h.get i
theorem Keeps.refl(h:Heap):Keeps h h:=⟨zql _,fun _ _=>rfl⟩
theorem Keeps.trans{h A B:Heap}(a:Keeps h A)(b:Keeps A B):Keeps h B:=⟨zqm a.next b.next,fun i hi=>(b.get i (Nat.lt_of_lt_of_le hi a.next)).trans (a.get i hi)⟩
theorem Keeps.push(h:Heap)(x:AObj):Keeps h (h.push x):=⟨Nat.le_succ _,(by grind[Go.AM.Heap.get_push_ne])⟩
section
variable {E:Env}{call:C7}{h:Heap}
theorem pA{op:Op}(hc:Hu op=1){fr:Tr}{v:AV}{h':Heap}(A:evOp E call op fr h=.ok v h'):h'=h:=by
 cases op with
 |load t x=>obtain⟨ti,_,C⟩:=E2 A;exact(G6 C).2
 |lookup t m k ok=>cases A
 |call c=>
  obtain⟨B,args,argTypes⟩:=c;cases B with
  |builtin b=>
   have A:lift2 (E4 E b argTypes.toList (opvs E args.toList fr) h)=.ok v h':=A;cases C:E4 E b argTypes.toList (opvs E args.toList fr) h with
   |none=>rw[C]at A;cases A
   |some p=>
    rw[C]at A;cases A;obtain⟨p1,p2⟩:=p;cases b with
    |len=>
     have hb:Vi E argTypes.toList (opvs E args.toList fr) h=zs (p1,p2):=C;unfold Vi at hb;generalize argTypes.toList=D at hb;generalize opvs E args.toList fr=vs at hb;cases D with
     |nil=>cases hb
     |cons t ts=>
      cases vs with
      |nil=>cases hb
      |cons x l=>
       obtain⟨ti,_,hb⟩:=D7 hb;obtain⟨n,_,hb⟩:=A0 hb;rw[B7]at hb;cases hb;rfl
    |max=>
     have hb:oS (opvs E args.toList fr) h=zs (p1,p2):=C;unfold oS at hb;generalize opvs E args.toList fr=vs at hb;cases vs with
     |nil=>cases hb
     |cons x l=>
      obtain⟨y,_,hb⟩:=zqn.1 hb;cases hb;rfl
    |min=>
     have hb:oT (opvs E args.toList fr) h=zs (p1,p2):=C;unfold oT at hb;generalize opvs E args.toList fr=vs at hb;cases vs with
     |nil=>cases hb
     |cons x l=>
      obtain⟨y,_,hb⟩:=zqn.1 hb;cases hb;rfl
    |_=>cases hc
  |_=>cases hc
 |_=>cases hc
theorem pB{op:Op}(hc:Hu op=2){fr:Tr}{v:AV}{h':Heap}(A:evOp E call op fr h=.ok v h'):∃x,h'=h.push x:=by
 cases op with
 |alloc t=>obtain⟨ti,_,C⟩:=E2 A;cases C;grind
 |box t x=>
  obtain⟨ti,_,C⟩:=E2 A;cases hb:(Nat.beq (lenL (opv E x fr).cells) ti.size&&D1 (opv E x fr).cells)with
  |true=>rw[hb]at C;cases C;grind
  |false=>grind
 |buildSlice t n ps=>
  obtain⟨ti,_,C⟩:=E2 A;grind
 |makeSlice t l c=>
  obtain⟨ti,_,C⟩:=E2 A;grind
 |call c=>
  exfalso
  obtain⟨B,args,argTypes⟩:=c;cases B with
  |builtin b=>cases b<;>cases hc
  |_=>cases hc
 |_=>cases hc
theorem cls_cases(op:Op):Hu op=0\/Hu op=1\/Hu op=2\/Hu op=3:=by
 cases op with
 |call c=>
  grind[Hu]
 |_=>simp[Hu]
theorem Sa{op:Op}(hc:Hu op≠3){fr:Tr}{v:AV}{h':Heap}(A:evOp E call op fr h=.ok v h'):Keeps h h':=by
 rcases cls_cases op with h0|h0|h0|h0
 . rw[(Ng h0 A h).1];exact .refl _
 . rw[pA h0 A];exact .refl _
 . obtain⟨x,rfl⟩:=pB h0 A;exact .push _ _
 grind
theorem Je{r:DRes}{p:AV×HD}(h:AD r=zs p):r=.ok p.1 p.2.1 p.2.2:=by
 cases r with
 |ok v h' d=>cases h;rfl
 |_=>cases h
theorem Sb{i:Nat}{b:List Nat}:∀{a:List Nat},i∈Bp a b↔i∈a\/i∈b
 |[]=>by show i∈b↔_;simp
 |x::a=>by
  show i∈x::Bp a b↔_
  rw[zqg,Sb (a:=a),zqg,or_assoc]
theorem l6{i n:Nat}:∀{l:List Nat},i∈H2 n l↔i∈l/\i<n
 |[]=>by show i∈([]:List Nat)↔_;simp
 |x::l=>by
  show i∈(bif Nat.blt x n then x::H2 n l else H2 n l)↔_
  cases hb:Nat.blt x n with
  |true=>
   have:=I5 hb
   simp only[cond_true,zqg,l6 (l:=l)];grind
  |false=>
   have hx:¬x<n:=(by grind[Nat.blt,Nat.ble_eq_true_of_le])
   simp only[cond_false,zqg,l6 (l:=l)];grind
theorem Xa{i:Nat}:∀{l:List Nat},rA i l=zf->i∉l
 |[],_=>by simp
 |x::l,h=>by
  have h:(bif Nat.beq x i then zt else rA i l)=zf:=h;cases hb:Nat.beq x i with
  |true=>grind
  |false=>
   rw[hb]at h;have hne:x≠i:=fun e=>by simp_all
   intro A;rcases zqg.1 A with h1|h1
   . grind
   . exact Xa (l:=l) h h1
theorem Lc{x:XOp}{fr:Tr}{v:AV}{h':Heap}{d C:List Nat}(A:evOpD E call x fr h d=.ok v h' C):
 ∃ t B t',evOp E call x.op fr {h with tch:=t}=.ok v B/\h'={B with tch:=t'}/\
   (x.quiet=zt->t=[]/\t'=Bp (H2 h.next B.tch) h.tch/\C=Bp (H2 h.next B.tch) d)/\
   (x.quiet=zf->t=h.tch/\t'=B.tch/\C=d/\(x.careful=zt->readOk (readO E x.op fr) d=zt)):=by
 unfold evOpD at A;cases I:x.quiet with
 |false=>
  rw [I]at A;simp only[cond_false]at A;have D:w9 d (evOp E call x.op fr h)=.ok v h' C->evOp E call x.op fr h=.ok v h'/\C=d:=fun A=>by
   cases G:evOp E call x.op fr h with
   |ok J h1=>rw[G]at A;cases A;grind
   |_=>rw[G]at A;cases A
  cases hc:x.careful with
  |false=>
   rw[hc]at A;obtain⟨h1,h2⟩:=D A;exact⟨h.tch,h',h'.tch,h1,rfl,fun e=>(by cases e),(by grind)⟩
  |true=>
   rw[hc]at A;simp only[cond_true]at A;cases H:readOk (readO E x.op fr) d with
   |false=>grind
   |true=>
    rw[H]at A;obtain⟨h1,h2⟩:=D A;exact⟨h.tch,h',h'.tch,h1,rfl,fun e=>(by cases e),(by grind)⟩
 |true=>
  rw[I]at A;have A:z7 h.next h.tch d (evOp E call x.op fr {h with tch:=[]})=.ok v h' C:=A;cases G:evOp E call x.op fr {h with tch:=[]}with
  |ok J h1=>
   rw[G]at A;cases A;grind
  |_=>rw[G]at A;cases A
theorem dN{x:XOp}(hc:Hu x.op≠3){fr:Tr}{v:AV}{h':Heap}{d C:List Nat}(A:evOpD E call x fr h d=.ok v h' C):Keeps h h':=by
 obtain⟨t,h₁,t',h1,rfl,_⟩:=Lc A;have B:=Sa hc h1;exact⟨B.next,fun i hi=>B.get i hi⟩
theorem iX(A:N9 call){x:XOp}(I:Hu x.op=3->x.quiet=zt){fr:Tr}{v:AV}{h':Heap}{d B:List Nat}(C:evOpD E call x fr h d=.ok v h' B):
 h.next<=h'.next/\(∀i,i∈d->i∈B)/\∀i,i<h.next->i∉B->h'.get i=h.get i:=by
 obtain ⟨t,h₁,t',h1,rfl,h2,h3⟩:=Lc C;have G:∀i,i∈d->i∈B:=fun i hi=>by
  cases hq:x.quiet with
  |true=>grind[Sb]
  |false=>grind
 by_cases hc:Hu x.op=3
 . obtain⟨rfl,_,h4⟩:=h2 (I hc)
   obtain⟨hn,new,e,hg⟩:=evOp_pres A h1;refine⟨hn,G,fun i hi D=>hg i hi fun hm=>D ?_⟩;grind[Sb,l6]
 . have H:=Sa hc h1
   exact⟨H.next,G,fun i hi _=>H.get i hi⟩
theorem dO{fr fr':Tr}(op:Op)(hy:∀y∈op.operands.toList,opv E y fr=opv E y fr'):readO E op fr=readO E op fr':=by
 cases op with
 |load t x=>show n8 (opv E x fr)=n8 (opv E x fr');grind[Op.operands]
 |lookup t m k ok=>show n8 (opv E m fr)=n8 (opv E m fr');grind[Op.operands]
 |call c=>
  obtain⟨callee,args,argTypes⟩:=c;show(match args.toList with|[]=>zn|x::_=>n8 (opv E x fr))=(match args.toList with|[]=>zn|x::_=>n8 (opv E x fr'))
  grind[Op.operands,Call.operands]
 |_=>rfl
end
section
variable {E:Env}{call:C7}{ops:Array Oper}{ms l:List Nat}{sk:Nat->Prop}{xs:List XOp}{s₀:Tr×HD}
theorem Plan.at(A:Plan ops ms l){m:Nat}(B:m<l.length):∃i o,l[m]?=zs i/\ops[i]?=zs o:=by
 have h1:l[m]?=zs l[m]:=zqj B
 have:=A.lt m _ h1
 simp_all
theorem Qg(B:PlanX ops ms l sk xs){m:Nat}{s:Tr×HD}(h:St E call xs s₀ (m+1)=zs s):
 ∃i o A x r,l[m]?=zs i/\ops[i]?=zs o/\St E call xs s₀ m=zs A/\xs[m]?=zs x/\(x.op=o.op/\x.quiet=m7 ops.toList ms i (l.drop (m+1)))/\stp E call x A.1 A.2=zs r/\s=(setDst o.dst r.1 A.1,r.2):=by
 obtain ⟨A,x,r,h1,h2,h3,h4⟩:=Zj h;have C:m<l.length:=by
  rw[<-B.xlen];grind
 obtain⟨i,o,D,G⟩:=B.at C;obtain⟨x',h7,h8,h9,h10,_⟩:=B.xat m i o D G;grind
theorem R8(d:Option Tmp)(v:AV)(fr:Tr)(t:Nat):(setDst d v fr).has t=fr.has t:=by
 cases d with
 |none=>rfl
 |some d=>exact Tr.has_set _ _ _ _
theorem Z6{d:Option Tmp}{v:AV}{fr:Tr}{t:Nat}(h:d≠zs t):(setDst d v fr).get t=fr.get t:=by
 cases d with
 |none=>rfl
 |some d=>exact Tr.get_set_ne _ _ _ _ (fun e=>h (by rw[e]))
theorem l7{v:AV}{fr:Tr}{t:Nat}:(setDst (zs t) v fr).get t=if fr.has t then v else .und:=Tr.get_set_eq _ _ _
theorem St_has(B:PlanX ops ms l sk xs){k:Nat}{s:Tr×HD}(C:St E call xs s₀ k=zs s):∀(n:Nat)(A:Tr×HD),St E call xs s₀ (k+n)=zs A->∀t,A.1.has t=s.1.has t
 |0,A,h,t=>by grind
 |n+1,A,h,t=>by
  obtain⟨i,o,D,x,r,_,_,G,_,_,_,rfl⟩:=Qg B h;show(setDst _ _ _).has t=_
  rw[R8];exact St_has B C n D G t
theorem iY(B:PlanX ops ms l sk xs){k:Nat}{s:Tr×HD}(C:St E call xs s₀ k=zs s){t:Nat}:∀(n:Nat)(A:Tr×HD),St E call xs s₀ (k+n)=zs A ->
 (∀(m i:Nat)(o:Oper),k<=m->m<k+n->l[m]?=zs i->ops[i]?=zs o->o.dst≠zs t)->A.1.get t=s.1.get t
 |0,A,h,_=>by grind
 |n+1,A,h,hn=>by
  obtain⟨i,o,D,x,r,h1,h2,G,_,_,_,rfl⟩:=Qg B h;show(setDst _ _ _).get t=_
  rw[Z6 (hn (k+n) i o (by omega) (by omega) h1 h2)];exact iY B C n D G fun m i o a b=>hn m i o a (by omega)
theorem DG(B:PlanX ops ms l sk xs){k p m i:Nat}{s sp C:Tr×HD}(hs:St E call xs s₀ k=zs s)(hk:k<=p)(hm:p<m)(D:St E call xs s₀ p=zs sp)(G:St E call xs s₀ m=zs C)
 {x:XOp}{r:AV×HD}(hx:xs[p]?=zs x)(hr:stp E call x sp.1 sp.2=zs r){o:Oper}(hl:l[p]?=zs i)(ho:ops[i]?=zs o){t:Nat}(hd:o.dst=zs t):C.1.get t=if s.1.has t then r.1 else .und:=by
 have h1:=La D hx hr;obtain⟨x',A,H,_⟩:=B.xat p i o hl ho;rw[hx]at A;cases A;obtain⟨n,rfl⟩:∃n,m=p+1+n:=⟨m-(p+1),by omega⟩
 have h2:=iY B h1 n C G (t:=t) fun q j o' a b c d=>B.dst p q i j o o' t (by omega) hl c ho d hd
 rw[h2,H,hd];show(setDst (zs t) r.1 sp.1).get t=_
 rw[l7];obtain⟨n',rfl⟩:∃n',p=k+n':=⟨p-k,by omega⟩
 grind[St_has]
theorem stp_some{x:XOp}{fr:Tr}{h:HD}{r:AV×HD}(A:stp E call x fr h=zs r):(guardOk x.gd fr=zs zf/\r=(skipped,h))\/(guardOk x.gd fr=zs zt/\evOpD E call x fr h.1 h.2=.ok r.1 r.2.1 r.2.2):=by
 unfold stp at A;cases hg:guardOk x.gd fr with
 |none=>grind
 |some b=>
  rw[hg]at A;cases b with
  |false=>grind
  |true=>exact .inr ⟨rfl,Je A⟩
theorem dP(B:PlanX ops ms l sk xs){k:Nat}{s:Tr×HD}(C:St E call xs s₀ k=zs s):∀(n:Nat)(A:Tr×HD),St E call xs s₀ (k+n)=zs A ->
 (∀(m i:Nat)(o:Oper),k<=m->m<k+n->l[m]?=zs i->ops[i]?=zs o->Hu o.op≠3)->Keeps s.2.1 A.2.1
 |0,A,h,_=>by rw[Nat.add_zero]at h;rw[C]at h;cases h;exact .refl _
 |n+1,A,h,hn=>by
  obtain⟨i,o,D,x,r,h1,h2,G,_,h5,H,rfl⟩:=Qg B h;refine(dP B C n D G fun m i o a b=>hn m i o a (by omega)).trans ?_;show Keeps D.2.1 r.2.1
  rcases stp_some H with⟨_,rfl⟩|⟨_,h7⟩
  . exact .refl _
  grind[dN]
theorem lM(D:PlanX ops ms l sk xs)(A:N9 call){k:Nat}{s:Tr×HD}(G:St E call xs s₀ k=zs s):∀(n:Nat)(B:Tr×HD),St E call xs s₀ (k+n)=zs B ->
 (∀ (m i:Nat) (o:Oper),k<=m->m<k+n->l[m]?=zs i->ops[i]?=zs o->Hu o.op=3->m7 ops.toList ms i (l.drop (m+1))=zt) ->
   s.2.1.next<=B.2.1.next/\(∀i,i∈s.2.2->i∈B.2.2)/\∀i,i<s.2.1.next->i∉B.2.2->B.2.1.get i=s.2.1.get i
 |0,B,h,_=>by grind
 |n + 1,B,h,hn=>by
  obtain⟨i,o,C,x,r,h1,h2,H,_,h5,I,rfl⟩:=Qg D h;obtain⟨a1,a2,a3⟩:=lM D A G n C H fun m i o a b=>hn m i o a (by omega)
  have hb:C.2.1.next<=r.2.1.next/\(∀i,i∈C.2.2->i∈r.2.2)/\∀i,i<C.2.1.next->i∉r.2.2->r.2.1.get i=C.2.1.get i:=by
   rcases stp_some I with⟨_,rfl⟩|⟨_,J⟩
   . grind
   . refine iX A (fun hc=>?_) J
     grind
  grind
end
end Go.AM
