/- What this program's functions do, at any data. Conditions: none. -/
import Derived.Test.YtdjkjmdggoejcaaEnv
set_option linter.unusedVariables false
set_option linter.unusedSimpArgs false
set_option linter.unusedSectionVars false
set_option linter.defProp false
set_option maxRecDepth 100000
set_option maxHeartbeats 4000000
open Nat renaming reduceAdd→zsA,reduceSub→zsS,reduceLT→zsL,reduceLeDiff→zsD,reduceEqDiff→zsE,reduceMul→zsM
open List renaming length→lz
open Option renaming some→zs,none→zn
open Bool renaming true→zt,false→zf
open List renaming length_map→zqa,cons_append→zqb,nil_append→zqc,nodup_nil→zqd,getElem_mem→zqe,range→zqf,length_set→zqg,getElem?_eq_getElem→zqh,length_replicate→zqi,mem_cons→zqj,drop_length→zqk,drop_eq_getElem_cons→zql,map_set→zqm,take_of_length_le→zqn,not_mem_nil→zqo,getD_eq_getElem?_getD→zqp,mem_singleton→zqq,foldl_cons→zqr,replicate→zqs,mem_append→zqt,drop_zero→zqu,getElem?_set_ne→zqv,findIdx?_eq_some_iff_getElem→zqw,length_zip→zqx,getElem?_map→zqy,findIdx?_eq_none_iff→zqz,all_eq_true→zka,mem_filter→zkb,count_cons→zkc
open Bool renaming false_and→zkd,and_eq_true→zke
open Int renaming eq_ofNat_of_zero_le→zkf
open Nat renaming le_refl→zkg
noncomputable section
namespace Go.Proofs.AmEnv
open Go Go.AM
variable {T:Nat->Option (List AV->Option (List AV))}
abbrev ints(l:List Int):List AV:=l.map (AV.int .i64)
theorem C6{l:List Int}{i:Nat}(h:i<lz l):(ints l)[i]?=zs (.int .i64 l[i]):=by
 unfold ints;rw[zqy,zqh h];rfl
section
variable {l:List Int}{f:Bool}{i:Nat}{x:Int}{es:List AV}
end
theorem mf{l m:List Int}(h:ints l=ints m):l=m:=by
 induction l generalizing m with
 | nil=>cases m with
  |nil=>rfl
  |cons=>cases h
 | cons x l D=>cases m with
  |nil=>cases h
  |cons y m=>injection h with C G;injection C with _ C;rw[C,D G]
section
variable {l m:List Int}{f g:Bool}{i:Nat}
end
structure Ins where
 op:Int
 ty:Int
 dst:Int
 a:Int
 b:Int
 n:Int
 s:List UInt8
 args:List Int
deriving DecidableEq
abbrev cp:Nat:=140737488355328
def Ins.F(x:Ins):AV:=.agg [.int .i64 x.op,.int .i64 x.ty,.int .i64 x.dst,.int .i64 x.a,.int .i64 x.b,.int .i64 x.n,.str x.s,Vx (ints x.args)]
def Ins.O(x:Ins):AV:=.agg [.int .i64 x.op,.int .i64 x.ty,.int .i64 x.dst,.int .i64 x.a,.int .i64 x.b,.int .i64 x.n,.str x.s,di 0 1 (ints x.args)]
def Ins.ok(x:Ins):Prop:=lz x.args*8<=cp
theorem gp{l m:List AV}(h:Vx l=Vx m):l=m:=by unfold Vx at h;injection h
theorem Ins.F_inj{x y:Ins}(h:x.F=y.F):x=y:=by
 cases x;cases y;simp only[Ins.F,AV.agg.injEq,List.cons.injEq,AV.int.injEq,AV.str.injEq,true_and,and_true]at h;obtain⟨rfl,rfl,rfl,rfl,rfl,rfl,rfl,h⟩:=h;rw[mf (gp h)]
def A9:=Ck (fun l:List Int=>[Vx (ints l)]) (fun l=>[di 0 1 (ints l)]) (fun l=>lz l*8<=cp)
theorem Mi{l:List Int}(h:lz l*8<=cp):A9 [Vx (ints l)]=zs [di 0 1 (ints l)]:=F2 (a:=fun l:List Int=>[Vx (ints l)]) (fun x y e=>by injection e with e _;rw[mf (gp e)]) l h
theorem fm(l:List Int):frzL (ints l)=zs (ints l):=As (f:=AV.int .i64) (g:=AV.int .i64) (fun _=>rfl) l
section
variable {T:Nat->Option (List AV->Option (List AV))}
theorem ky(l:List Int):noFL (ints l)=zt:=by
 induction l with
 |nil=>rfl
 |cons x l C=>exact C
end
theorem Ins.viewF{os:List PO}(x:Ins):viewA os x.F=zs x.F:=by
 unfold Ins.F;simp only[fm,XP,seval]
theorem Ins.frzF(x:Ins):ji x.F=zs x.F:=by
 unfold Ins.F;simp only[fm,XP,seval]
theorem B9{X:Type}{F:X->AV}{l:List X}{i:Nat}(h:i<lz l):(l.map F)[i]?=zs (F l[i]):=by rw[zqy,zqh h];rfl
section
variable {l:List Ins}{f:Bool}{i:Nat}
end
theorem Cz{X:Type}{F:X->AV}(C:∀x y,F x=F y->x=y):∀{l m:List X},l.map F=m.map F->l=m
 |[],[],_=>rfl
 |[],_::_,h=>by cases h
 |_::_,[],h=>by cases h
 |x::l,y::m,h=>by
  injection h with D G
  rw[C _ _ D,Cz C G]
section
variable {l m:List Ins}{i:Nat}
end
structure jy where
 kind:Int
 a:Int
 to:Int
 x0h:Int
deriving DecidableEq
structure Blk where
 code:List Ins
 e:jy
deriving DecidableEq
def jy.F(e:jy):AV:=.agg [.int .i64 e.kind,.int .i64 e.a,.int .i64 e.to,.int .i64 e.x0h]
def Blk.F(x:Blk):AV:=.agg [Vx (x.code.map Ins.F),.int .i64 x.e.kind,.int .i64 x.e.a,.int .i64 x.e.to,.int .i64 x.e.x0h]
def Blk.ok(x:Blk):Prop:=(∀y∈x.code,y.ok)/\lz x.code*88<=cp
theorem Blk.F_inj{x y:Blk}(h:x.F=y.F):x=y:=by
 obtain⟨c,e⟩:=x;obtain⟨c',C⟩:=y;cases e;cases C;simp only[Blk.F,AV.agg.injEq,List.cons.injEq,AV.int.injEq,true_and,and_true]at h;obtain⟨h,rfl,rfl,rfl,rfl⟩:=h;rw[Cz (fun _ _=>Ins.F_inj) (gp h)]
theorem oq(l:List Ins):frzL (l.map Ins.F)=zs (l.map Ins.F):=As Ins.frzF l
theorem Mj{X:Type}{O:X->AV}(h:∀x,noF (O x)=zt):∀l:List X,noFL (l.map O)=zt
 |[]=>rfl
 |x::l=>by show(noF (O x)&&noFL (l.map O))=zt;rw[h,Mj h l];rfl
theorem Ins.noF(x:Ins):noF x.O=zt:=by
 unfold Ins.O;simp only[ky,XP,seval]
theorem ot(l:List Ins):noFL (l.map Ins.O)=zt:=Mj Ins.noF l
theorem Blk.frzF(x:Blk):ji x.F=zs x.F:=by
 unfold Blk.F;simp only[oq,XP,seval]
section
variable {l:List Blk}{i:Nat}
end
section
variable {l m:List Blk}{i:Nat}
end
structure Cod where
 name:List UInt8
 ty:Int
 ps:Int
 x0g:List Int
 blocks:List Blk
deriving DecidableEq
def Cod.F(x:Cod):AV:=.agg [.str x.name,.int .i64 x.ty,.int .i64 x.ps,Vx (ints x.x0g),Vx (x.blocks.map Blk.F)]
def Cod.ok(x:Cod):Prop:=lz x.x0g*8<=cp/\(∀y∈x.blocks,y.ok)/\lz x.blocks*56<=cp
theorem Cod.F_inj{x y:Cod}(h:x.F=y.F):x=y:=by
 cases x;cases y;simp only[Cod.F,AV.agg.injEq,List.cons.injEq,AV.int.injEq,AV.str.injEq,true_and,and_true]at h;obtain⟨rfl,rfl,rfl,C,D⟩:=h;rw[mf (gp C),Cz (fun _ _=>Blk.F_inj) (gp D)]
theorem kz(l:List Blk):frzL (l.map Blk.F)=zs (l.map Blk.F):=As Blk.frzF l
theorem Cod.viewF{os:List PO}(x:Cod):viewA os x.F=zs x.F:=by
 unfold Cod.F;simp only[kz,fm,XP,seval]
theorem Cod.frzF(x:Cod):ji x.F=zs x.F:=by
 unfold Cod.F;simp only[kz,fm,XP,seval]
section
variable {l:List Int}
theorem mP{t:Nat}{K:PK}(h:N1 A0 t=.slc):f9 A0 .eql t .x0a .x0a K=.val (.bool zt) K:=by rw[bp _ _ rfl rfl,h];rfl
theorem mQ{t:Nat}{K:PK}(h:N1 A0 t=.slc):f9 A0 .eql t (.fsl [] zf) .x0a K=.val (.bool zf) K:=by rw[bp _ _ rfl rfl,h];rfl
theorem fD{t:Nat}{K:PK}{e:AV}{es:List AV}(h:N1 A0 t=.slc):f9 A0 .eql t (Vx (e::es)) .x0a K=.val (.bool zf) K:=by rw[bp _ _ rfl rfl,h];rfl
theorem tC(n:Nat):G1 n []=zt:=rfl
theorem pH:AM.eo ⟨A0,T,A2⟩ 46 [.x0a] [di 0 1 (ints [])]:=by
 refine⟨[.x0a],⟨[],0,[]⟩,?_,F3 (.inl ⟨rfl,rfl,rfl⟩)⟩;rw[A7 (c:=AI) (nt:=8) (rs:=[.tmp 2]) rfl (by simp)];unfold AI K0;simp only[mP (t:=30) rfl,XP,seval]
theorem pI:AM.eo ⟨A0,T,A2⟩ 46 [.fsl [] zf] [di 0 1 (ints [])]:=by
 refine⟨[.msl 0 0 0 1],⟨[.row 0 [] 1],0,[]⟩,?_,F3 (.inr ⟨rfl,rfl⟩)⟩;rw[A7 (c:=AI) (nt:=8) (rs:=[.tmp 2]) rfl (by simp)];unfold AI K0;simp only[mQ (t:=30) rfl,tC,XP,seval]
theorem mR:∀l:List Int,G1 1 (ints l)=zt
 |[]=>rfl
 |x::l=>mR l
theorem jV{x:Int}{l:List Int}(I:lz (x::l)*8<=cp):AM.eo ⟨A0,T,A2⟩ 46 [Vx (ints (x::l))] [di 0 1 (ints (x::l))]:=by
 refine⟨[.msl 0 0 (lz (ints (x::l))) 1],⟨[.row 0 (ints (x::l)) 1],0,[]⟩,?_,F3 (.inr ⟨rfl,rfl⟩)⟩;rw[A7 (c:=AI) (nt:=8) (rs:=[.tmp 2]) rfl (by simp)];unfold AI K0;have C:∀K:PK,f9 A0 .eql 30 (Vx (ints (x::l))) .x0a K=.val (.bool zf) K:=fun K=>fD (t:=30) rfl
 have D:=mR (x::l);have G:(ints (x::l)).isEmpty=zf:=rfl;have H:lz (ints (x::l))*8<=140737488355328:=by simpa[cp]using I
 generalize ints (x::l)=es at C D G H;simp only[C,D,G,H,XP,seval]
theorem tD{P:PE}(D:ep P)(G:P=⟨A0,T,A2⟩):TC P.E 46 A9:=by
 subst G;refine lN D (fun a args rs hg H ha=>?_) (by unfold A9 Ck;rw[dif_neg];rintro⟨x,_,h⟩;cases h);obtain⟨l,I,C,rfl⟩:=dC hg;injection C with C J
 subst C J;cases l with
 |nil=>
  rcases zqj.1 ha with rfl|ha
  . exact pH
  . obtain rfl:=zqq.1 ha;exact pI
 |cons x l=>
  obtain rfl:=zqq.1 (show H∈[Vx (ints (x::l))]from ha);exact jV I
end
structure Glo where
 name:List UInt8
 ty:Int
 size:Int
 at_:Int
deriving DecidableEq
structure de where
 gs:List Glo
 fs:List Cod
deriving DecidableEq
def Glo.F(g:Glo):AV:=.agg [.str g.name,.int .i64 g.ty,.int .i64 g.size,.int .i64 g.at_]
def de.F(m:de):AV:=.agg [Vx (m.gs.map Glo.F),Vx (m.fs.map Cod.F)]
abbrev bools(l:List Bool):List AV:=l.map AV.bool
def dy(m:de)(c:Cod):AV:=.agg [Vx (m.gs.map Glo.F),Vx (m.fs.map Cod.F),.str c.name,.int .i64 c.ty,.int .i64 c.ps,Vx (ints c.x0g),Vx (c.blocks.map Blk.F)]
theorem Glo.F_inj{x y:Glo}(h:x.F=y.F):x=y:=by
 cases x;cases y;simp only[Glo.F,AV.agg.injEq,List.cons.injEq,AV.int.injEq,AV.str.injEq,true_and,and_true]at h;obtain⟨rfl,rfl,rfl,rfl⟩:=h;rfl
theorem jy.F_inj{x y:jy}(h:x.F=y.F):x=y:=by
 cases x;cases y;simp only[jy.F,AV.agg.injEq,List.cons.injEq,AV.int.injEq,true_and,and_true]at h;obtain⟨rfl,rfl,rfl,rfl⟩:=h;rfl
theorem de.F_inj{x y:de}(h:x.F=y.F):x=y:=by
 cases x;cases y;simp only[de.F,AV.agg.injEq,List.cons.injEq,and_true]at h;rw[Cz (fun _ _=>Glo.F_inj) (gp h.1),Cz (fun _ _=>Cod.F_inj) (gp h.2)]
theorem ny{l m:List AV}:Vx l=Vx m↔l=m:=⟨gp,fun h=>h▸rfl⟩
theorem n0{l m:List Int}:l.map (AV.int .i64)=m.map (AV.int .i64)↔l=m:=⟨mf,fun h=>h▸rfl⟩
theorem mp{l m:List Bool}:l.map AV.bool=m.map AV.bool↔l=m:=⟨fun h=>Cz (fun _ _ h=>by injection h) h,fun h=>h▸rfl⟩
theorem Ins.F_iff{x y:Ins}:x.F=y.F↔x=y:=⟨Ins.F_inj,fun h=>h▸rfl⟩
theorem Cod.F_iff{x y:Cod}:x.F=y.F↔x=y:=⟨Cod.F_inj,fun h=>h▸rfl⟩
theorem jy.F_iff{x y:jy}:x.F=y.F↔x=y:=⟨jy.F_inj,fun h=>h▸rfl⟩
theorem de.F_iff{x y:de}:x.F=y.F↔x=y:=⟨de.F_inj,fun h=>h▸rfl⟩
theorem Glo.frzF(x:Glo):ji x.F=zs x.F:=by unfold Glo.F;simp only[XP,seval]
theorem mq(l:List Glo):frzL (l.map Glo.F)=zs (l.map Glo.F):=As Glo.frzF l
theorem mr(l:List Cod):frzL (l.map Cod.F)=zs (l.map Cod.F):=As Cod.frzF l
theorem ip(l:List Bool):frzL (l.map AV.bool)=zs (l.map AV.bool):=As (f:=AV.bool) (g:=AV.bool) (fun _=>rfl) l
theorem jy.viewF{os:List PO}(x:jy):viewA os x.F=zs x.F:=by unfold jy.F;simp only[XP,seval]
theorem de.viewF{os:List PO}(x:de):viewA os x.F=zs x.F:=by unfold de.F;simp only[mq,mr,XP,seval]
theorem qy{os:List PO}(m:de)(c:Cod):viewA os (dy m c)=zs (dy m c):=by unfold dy;simp only[mq,mr,fm,kz,XP,seval]
theorem xx{m m':de}{c C:Cod}:dy m c=dy m' C↔m=m'/\c=C:=by
 constructor
 . intro h
   simp only[dy,AV.agg.injEq,List.cons.injEq,AV.int.injEq,AV.str.injEq,and_true]at h;obtain⟨D,G,H,⟨_,I⟩,⟨_,J⟩,N,Q⟩:=h;exact⟨de.F_inj (by simp only[de.F];rw[D,G]),Cod.F_inj (by simp only[Cod.F];rw[H,I,J,N,Q])⟩
 . rintro⟨rfl,rfl⟩;rfl
theorem iq(l:List Bool):noFL (bools l)=zt:=by
 induction l with
 |nil=>rfl
 |cons x l C=>exact C
def G4(n:Int):Bool:=decide (n=1)||decide (n=2)
def da(a n:Int):Bool:=decide (0<=a)&&decide (a<n)
def Jk(t:Int):Int:=if t=2 then 2 else 1
def Qd(t v:Int):Int:=if t=3 then IntKind.wrap .i64 (IntKind.wrap .i8 v)else if t=1 then IntKind.wrap .i64 (IntKind.wrap .i32 v)else if t=2 then v else 0
def H1:List UInt8:=[109,97,105,110]
def VJ:=z0z @Int.ofNat_inj<|z0z @List.cons.injEq.{0}<|z0z @AV.int.injEq<|z0z @AV.str.injEq<|z0z @AV.bool.injEq<|z0z @AV.agg.injEq<|z0z @true_and<|z0z @and_true<|z0z @ny<|z0z @xx<|z0z @Ins.F_iff<|z0z @Cod.F_iff<|z0z @de.F_iff<|z0z @jy.F_iff<|z0z @n0<|@mp
def VV:=z0z @qy<|z0z @Ins.viewF<|z0z @Cod.viewF<|z0z @de.viewF<|z0z @jy.viewF<|z0z @fm<|z0z @oq<|z0z @kz<|z0z @mr<|z0z @mq<|@ip
def VN:=And.intro @ky (And.intro @ot (And.intro @iq (@Ins.noF)))
theorem Qr  {n:Int}:AM.eo ⟨A0,T,A2⟩ 17 [.int .i64 n] [.bool (G4 n)]:=by
 refine⟨[.bool (G4 n)],⟨[],0,[]⟩,?_,E1 rfl zqd rfl rfl rfl⟩;rw[A7 (c:=NW) (nt:=9) (rs:=[.tmp 2]) rfl (by simp)];unfold NW;unfold K0;unfold G4;by_cases D:n=1
 . by_cases C:n=2
   . simp only[eq_true D,eq_true C,XP,seval]
   . simp only[eq_true D,C,XP,seval]
 . by_cases C:n=2
   . simp only[D,eq_true C,XP,seval]
   . simp only[D,C,XP,seval]
def O9:=Ck (fun p:(Int)=>[.int .i64 p]) (fun p=>[.bool (G4 p)]) (fun p=>True)
theorem Jz(C:T 17=zs O9){n:Int}{K:PK}:evP ⟨A0,T,A2⟩ (.call 17 [.int .i64 n] K)=zs (.val (W2 (lz K.os) [.bool (G4 n)]).1 ⟨K.os++(W2 (lz K.os) [.bool (G4 n)]).2,K.ext,K.tch⟩):=E6 C (by simp only[VV,XP,seval]) (F2 (a:=fun p:(Int)=>[.int .i64 p]) (r:=fun p=>[.bool (G4 p)]) (fun x y e=>by simp only[VJ]at e;simp only[e]) (n) trivial) (by simp only[VN,XP,seval])
theorem bU  (C:ep ⟨A0,T,A2⟩):TC A0 17 O9:=F9 C fun p h=>Qr
theorem Ua  {a:Int} {n:Int}:AM.eo ⟨A0,T,A2⟩ 64 [.int .i64 a,.int .i64 n] [.bool (da a n)]:=by
 refine⟨[.bool (da a n)],⟨[],0,[]⟩,?_,E1 rfl zqd rfl rfl rfl⟩;rw[A7 (c:=OR) (nt:=12) (rs:=[.tmp 4]) rfl (by simp)];unfold OR;unfold K0;unfold da;by_cases D:0<=a
 . by_cases C:a<n
   . simp only[eq_true D,eq_true C,XP,seval]
   . simp only[eq_true D,C,XP,seval]
 . by_cases C:a<n
   . simp only[D,eq_true C,XP,seval]
   . simp only[D,C,XP,seval]
def J2:=Ck (fun p:(Int)×(Int)=>[.int .i64 p.1,.int .i64 p.2]) (fun p=>[.bool (da p.1 p.2)]) (fun p=>True)
theorem v8(C:T 64=zs J2){a:Int}{n:Int}{K:PK}:evP ⟨A0,T,A2⟩ (.call 64 [.int .i64 a,.int .i64 n] K)=zs (.val (W2 (lz K.os) [.bool (da a n)]).1 ⟨K.os++(W2 (lz K.os) [.bool (da a n)]).2,K.ext,K.tch⟩):=E6 C (by simp only[VV,XP,seval]) (F2 (a:=fun p:(Int)×(Int)=>[.int .i64 p.1,.int .i64 p.2]) (r:=fun p=>[.bool (da p.1 p.2)]) (fun x y e=>by simp only[VJ]at e;simp only[e]) (a,n) trivial) (by simp only[VN,XP,seval])
theorem fE  (C:ep ⟨A0,T,A2⟩):TC A0 64 J2:=F9 C fun p h=>Ua
theorem Wy  {t:Int}:AM.eo ⟨A0,T,A2⟩ 77 [.int .i64 t] [.int .i64 (Jk t)]:=by
 refine⟨[.int .i64 (Jk t)],⟨[],0,[]⟩,?_,E1 rfl zqd rfl rfl rfl⟩;rw[A7 (c:=OW) (nt:=5) (rs:=[.tmp 2]) rfl (by simp)];unfold OW;unfold K0;unfold Jk;by_cases C:t=2
 . simp only[eq_true C,XP,seval]
 . simp only[C,XP,seval]
def Fk:=Ck (fun p:(Int)=>[.int .i64 p]) (fun p=>[.int .i64 (Jk p)]) (fun p=>True)
theorem tE(C:T 77=zs Fk){t:Int}{K:PK}:evP ⟨A0,T,A2⟩ (.call 77 [.int .i64 t] K)=zs (.val (W2 (lz K.os) [.int .i64 (Jk t)]).1 ⟨K.os++(W2 (lz K.os) [.int .i64 (Jk t)]).2,K.ext,K.tch⟩):=E6 C (by simp only[VV,XP,seval]) (F2 (a:=fun p:(Int)=>[.int .i64 p]) (r:=fun p=>[.int .i64 (Jk p)]) (fun x y e=>by simp only[VJ]at e;simp only[e]) (t) trivial) (by simp only[VN,XP,seval])
theorem jW  (C:ep ⟨A0,T,A2⟩):TC A0 77 Fk:=F9 C fun p h=>Wy
theorem Mk(k j:IntKind)(n:Int):R4 (.int k) (.int j n)=zs (.int k (k.wrap n)):=Hi k n
theorem Qt  {t:Int} {v:Int}:AM.eo ⟨A0,T,A2⟩ 70 [.int .i64 t,.int .i64 v] [.int .i64 (Qd t v)]:=by
 refine⟨[.int .i64 (Qd t v)],⟨[],0,[]⟩,?_,E1 rfl zqd rfl rfl rfl⟩;rw[A7 (c:=OS) (nt:=19) (rs:=[.tmp 4]) rfl (by simp)];unfold OS;unfold K0;unfold Qd;by_cases C:t=3
 . simp only[Mk,eq_true C,XP,seval]
 by_cases D:t=1
 . simp only[Mk,C,eq_true D,XP,seval]
 by_cases G:t=2
 . simp only[Mk,C,D,eq_true G,XP,seval]
 simp only[Mk,C,D,G,XP,seval]
def U0:=Ck (fun p:(Int)×(Int)=>[.int .i64 p.1,.int .i64 p.2]) (fun p=>[.int .i64 (Qd p.1 p.2)]) (fun p=>True)
theorem jX(C:T 70=zs U0){t:Int}{v:Int}{K:PK}:evP ⟨A0,T,A2⟩ (.call 70 [.int .i64 t,.int .i64 v] K)=zs (.val (W2 (lz K.os) [.int .i64 (Qd t v)]).1 ⟨K.os++(W2 (lz K.os) [.int .i64 (Qd t v)]).2,K.ext,K.tch⟩):=E6 C (by simp only[VV,XP,seval]) (F2 (a:=fun p:(Int)×(Int)=>[.int .i64 p.1,.int .i64 p.2]) (r:=fun p=>[.int .i64 (Qd p.1 p.2)]) (fun x y e=>by simp only[VJ]at e;simp only[e]) (t,v) trivial) (by simp only[VN,XP,seval])
theorem bV  (C:ep ⟨A0,T,A2⟩):TC A0 70 U0:=F9 C fun p h=>Qt
theorem Br(C:T 17=zs O9){n:Int}:AM.eo ⟨A0,T,A2⟩ 38 [.int .i64 n] [.bool (!G4 n)]:=by
 refine⟨[.bool (!G4 n)],⟨[],0,[]⟩,?_,E1 rfl zqd rfl rfl rfl⟩;rw[A7 (c:=OC) (nt:=6) (rs:=[.tmp 2]) rfl (by simp)];unfold OC;unfold K0;simp only[Jz C,XP,seval]
def E2:=Ck (fun p:(Int)=>[.int .i64 p]) (fun p=>[.bool (!G4 p)]) (fun p=>True)
theorem x7(C:T 38=zs E2){n:Int}{K:PK}:evP ⟨A0,T,A2⟩ (.call 38 [.int .i64 n] K)=zs (.val (W2 (lz K.os) [.bool (!G4 n)]).1 ⟨K.os++(W2 (lz K.os) [.bool (!G4 n)]).2,K.ext,K.tch⟩):=E6 C (by simp only[VV,XP,seval]) (F2 (a:=fun p:(Int)=>[.int .i64 p]) (r:=fun p=>[.bool (!G4 p)]) (fun x y e=>by simp only[VJ]at e;simp only[e]) (n) trivial) (by simp only[VN,XP,seval])
theorem Fl(C:T 17=zs O9)(D:ep ⟨A0,T,A2⟩):TC A0 38 E2:=F9 D fun p h=>Br C
theorem Ml  {c:Cod}:AM.eo ⟨A0,T,A2⟩ 42 [c.F] [.bool (decide (c.name=H1))]:=by
 refine⟨[.bool (decide (c.name=H1))],⟨[],0,[]⟩,?_,E1 rfl zqd rfl rfl rfl⟩;rw[A7 (c:=OG) (nt:=6) (rs:=[.tmp 2]) rfl (by simp)];unfold OG;unfold K0;unfold Cod.F H1;simp only[XP,seval]
def M2:=Ck (fun p:(Cod)=>[p.F]) (fun p=>[.bool (decide (p.name=H1))]) (fun p=>True)
theorem Mm(C:T 42=zs M2){c:Cod}{K:PK}:evP ⟨A0,T,A2⟩ (.call 42 [c.F] K)=zs (.val (W2 (lz K.os) [.bool (decide (c.name=H1))]).1 ⟨K.os++(W2 (lz K.os) [.bool (decide (c.name=H1))]).2,K.ext,K.tch⟩):=E6 C (by simp only[VV,XP,seval]) (F2 (a:=fun p:(Cod)=>[p.F]) (r:=fun p=>[.bool (decide (p.name=H1))]) (fun x y e=>by simp only[VJ]at e;simp only[e]) (c) trivial) (by simp only[VN,XP,seval])
theorem Ub  (C:ep ⟨A0,T,A2⟩):TC A0 42 M2:=F9 C fun p h=>Ml
def ch(x:Ins):Int:=if x.op=1 then x.dst else if x.op=2 then x.dst else if x.op=3 then x.dst else if x.op=4 then x.dst else if x.op=5 then x.dst else if x.op=7 then x.dst else if x.op=10 then x.dst else if x.op=9 then(if -1<=x.dst then x.dst else -1)else -1
def ci(x:Ins):List Int:=if x.op=2 then [x.a]else if x.op=4 then [x.a]else if x.op=5 then [x.a]else if x.op=8 then [x.a]else if x.op=11 then [x.a]else if x.op=3 then [x.a,x.b]else if x.op=6 then [x.a,x.b]else if x.op=9 then x.args else []
theorem u9(a b:Int)(K:PK):Kx (G5 A0 .max [3,3] [.int .i64 a,.int .i64 b] K)=.val (.int .i64 (if b<=a then a else b)) K:=by
 show Kx ((Nt [.int .i64 b] (.int .i64 a)).map (·,K))=_
 show Kx ((zs (AV.int .i64 (bif il b a then a else b))).map (·,K))=_
 rw[R6];by_cases hb:b<=a
 . rw[if_pos hb,decide_eq_true hb];rfl
 . rw[if_neg hb,decide_eq_false hb];rfl
theorem Qu  {x:Ins}:AM.eo ⟨A0,T,A2⟩ 32 [x.F] [.int .i64 (ch x)]:=by
 refine⟨[.int .i64 (ch x)],⟨[],0,[]⟩,?_,E1 rfl zqd rfl rfl rfl⟩;rw[A7 (c:=OA) (nt:=20) (rs:=[.tmp 2]) rfl (by simp)];unfold OA;unfold K0;unfold Ins.F ch;by_cases e1:x.op=1
 . simp only[u9,eq_true e1,XP,seval]
 by_cases e2:x.op=2
 . simp only[u9,e1,eq_true e2,XP,seval]
 by_cases e3:x.op=3
 . simp only[u9,e1,e2,eq_true e3,XP,seval]
 by_cases e4:x.op=4
 . simp only[u9,e1,e2,e3,eq_true e4,XP,seval]
 by_cases D:x.op=5
 . simp only[u9,e1,e2,e3,e4,eq_true D,XP,seval]
 by_cases G:x.op=7
 . simp only[u9,e1,e2,e3,e4,D,eq_true G,XP,seval]
 by_cases C:x.op=10
 . simp only[u9,e1,e2,e3,e4,D,G,eq_true C,XP,seval]
 by_cases H:x.op=9
 . simp only[u9,e1,e2,e3,e4,D,G,C,eq_true H,XP,seval]
 simp only[u9,e1,e2,e3,e4,D,G,C,H,XP,seval]
def B7:=Ck (fun p:(Ins)=>[p.F]) (fun p=>[.int .i64 (ch p)]) (fun p=>True)
theorem l8(C:T 32=zs B7){x:Ins}{K:PK}:evP ⟨A0,T,A2⟩ (.call 32 [x.F] K)=zs (.val (W2 (lz K.os) [.int .i64 (ch x)]).1 ⟨K.os++(W2 (lz K.os) [.int .i64 (ch x)]).2,K.ext,K.tch⟩):=E6 C (by simp only[VV,XP,seval]) (F2 (a:=fun p:(Ins)=>[p.F]) (r:=fun p=>[.int .i64 (ch p)]) (fun x y e=>by simp only[VJ]at e;simp only[e]) (x) trivial) (by simp only[VN,XP,seval])
theorem bW  (C:ep ⟨A0,T,A2⟩):TC A0 32 B7:=F9 C fun p h=>Qu
theorem Uc(C:T 46=zs A9){x:Ins}(N:x.ok):AM.eo ⟨A0,T,A2⟩ 53 [x.F] [di 0 1 (ints (ci x))]:=by
 have one:∀(a:Int)(L:List Int),L=[a]->evP ⟨A0,T,A2⟩ (.body 53 [x.F] K0)=zs (.val [.msl 0 0 1 1] ⟨[.row 0 [.int .i64 a] 1],0,[]⟩)->AM.eo ⟨A0,T,A2⟩ 53 [x.F] [di 0 1 (ints L)]:=fun a L e h=>by
  subst e;exact⟨_,_,h,F3 (.inr ⟨rfl,rfl⟩)⟩
 have two:∀(a b:Int)(L:List Int),L=[a,b]->evP ⟨A0,T,A2⟩ (.body 53 [x.F] K0)=zs (.val [.msl 0 0 2 1] ⟨[.row 0 [.int .i64 a,.int .i64 b] 1],0,[]⟩)->AM.eo ⟨A0,T,A2⟩ 53 [x.F] [di 0 1 (ints L)]:=fun a b L e h=>by
  subst e;exact⟨_,_,h,F3 (.inr ⟨rfl,rfl⟩)⟩
 by_cases e2:x.op=2
 . refine one x.a _ (by simp[ci,e2]) ?_
   rw[A7 (c:=Za) (nt:=27) (rs:=[.tmp 2]) rfl (by simp)];unfold Za;unfold K0 Ins.F;simp only[eq_true e2,XP,seval]
 by_cases e4:x.op=4
 . refine one x.a _ (by simp[ci,e4]) ?_
   rw[A7 (c:=Za) (nt:=27) (rs:=[.tmp 2]) rfl (by simp)];unfold Za;unfold K0 Ins.F;simp only[e2,eq_true e4,XP,seval]
 by_cases G:x.op=5
 . refine one x.a _ (by simp[ci,G]) ?_
   rw[A7 (c:=Za) (nt:=27) (rs:=[.tmp 2]) rfl (by simp)];unfold Za;unfold K0 Ins.F;simp only[e2,e4,eq_true G,XP,seval]
 by_cases H:x.op=8
 . refine one x.a _ (by simp[ci,H]) ?_
   rw[A7 (c:=Za) (nt:=27) (rs:=[.tmp 2]) rfl (by simp)];unfold Za;unfold K0 Ins.F;simp only[e2,e4,G,eq_true H,XP,seval]
 by_cases D:x.op=11
 . refine one x.a _ (by simp[ci,D]) ?_
   rw[A7 (c:=Za) (nt:=27) (rs:=[.tmp 2]) rfl (by simp)];unfold Za;unfold K0 Ins.F;simp only[e2,e4,G,H,eq_true D,XP,seval]
 by_cases e3:x.op=3
 . refine two x.a x.b _ (by simp[ci,e3]) ?_
   rw[A7 (c:=Za) (nt:=27) (rs:=[.tmp 2]) rfl (by simp)];unfold Za;unfold K0 Ins.F;simp only[e2,e4,G,H,D,eq_true e3,XP,seval]
 by_cases I:x.op=6
 . refine two x.a x.b _ (by simp[ci,I]) ?_
   rw[A7 (c:=Za) (nt:=27) (rs:=[.tmp 2]) rfl (by simp)];unfold Za;unfold K0 Ins.F;simp only[e2,e4,G,H,D,e3,eq_true I,XP,seval]
 by_cases J:x.op=9
 . rw[show ci x=x.args by simp[ci,J]]
   refine⟨[.msl 0 0 (lz x.args) 1],⟨[.row 0 (ints x.args) 1],0,[]⟩,?_,F3 (.inr ⟨by rw[zqa],rfl⟩)⟩;rw[A7 (c:=Za) (nt:=27) (rs:=[.tmp 2]) rfl (by simp)];unfold Za;unfold K0 Ins.F;have t:∀{K:PK},evP ⟨A0,T,A2⟩ (.call 46 [Vx (ints x.args)] K)=zs (.val (W2 (lz K.os) [di 0 1 (ints x.args)]).1 ⟨K.os++(W2 (lz K.os) [di 0 1 (ints x.args)]).2,K.ext,K.tch⟩):=E6 C (by simp only[fm,XP,seval]) (Mi N) rfl;simp only[e2,e4,G,H,D,e3,I,eq_true J,t,zqa,XP,seval]
 . rw[show ci x=[] by simp[ci,e2,e4,G,H,D,e3,I,J]]
   refine⟨[.x0a],⟨[],0,[]⟩,?_,F3 (.inl ⟨rfl,rfl,rfl⟩)⟩;rw[A7 (c:=Za) (nt:=27) (rs:=[.tmp 2]) rfl (by simp)];unfold Za;unfold K0 Ins.F;simp only[e2,e4,G,H,D,e3,I,J,XP,seval]
def C7:=Ck (fun p:(Ins)=>[p.F]) (fun p=>[di 0 1 (ints (ci p))]) (fun p=>p.ok)
theorem Hb(C:T 53=zs C7){x:Ins}{K:PK}(D:x.ok):evP ⟨A0,T,A2⟩ (.call 53 [x.F] K)=zs (.val (W2 (lz K.os) [di 0 1 (ints (ci x))]).1 ⟨K.os++(W2 (lz K.os) [di 0 1 (ints (ci x))]).2,K.ext,K.tch⟩):=E6 C (by simp only[VV,XP,seval]) (F2 (a:=fun p:(Ins)=>[p.F]) (r:=fun p=>[di 0 1 (ints (ci p))]) (fun x y e=>by simp only[VJ]at e;simp only[e]) (x) D) (by simp only[VN,XP,seval])
theorem fG(C:T 46=zs A9)(D:ep ⟨A0,T,A2⟩):TC A0 53 C7:=F9 D fun p h=>Uc C h
def et{X:Type}(p:X->Bool)(l:List X):Int:=match l.findIdx? p with|some i=>(i:Int)|none=>-1
theorem k9{P:PE}{c:PC}{X:Type}{p:X->Bool}{l:List X}{S:Nat->PF}{K:PK}
 (h1:∀i (h:i<lz l),p l[i]=zf->evP P (.code c (S i) K)=zs (.ok .normal (S (i+1)) K))
 (h2:∀i (h:i<lz l),p l[i]=zt->∃fr',evP P (.code c (S i) K)=zs (.ok .ret fr' K)/\FR fr' 4=.int .i64 (i:Int))
 (hx:∃fr',evP P (.code c (S (lz l)) K)=zs (.ok (.exit 0) fr' K)):
 (∃i:Nat,et p l=i/\∃fr',evP P (.code (.loop c) (S 0) K)=zs (.ok .ret fr' K)/\FR fr' 4=.int .i64 (i:Int))\/(et p l=-1/\∃fr',evP P (.code (.loop c) (S 0) K)=zs (.ok (.exit 0) fr' K)):=by
 have H:∀(n i:Nat),lz l=i+n->(∀j (C:j<lz l),j<i->p l[j]=zf)->(∃k:Nat,et p l=k/\∃fr',evP P (.code (.loop c) (S i) K)=zs (.ok .ret fr' K)/\FR fr' 4=.int .i64 (k:Int))\/(et p l=-1/\∃fr',evP P (.code (.loop c) (S i) K)=zs (.ok (.exit 0) fr' K)):=fun n=>by
  induction n with
  |zero=>
   intro i e D;obtain rfl:i=lz l:=by omega
   obtain⟨fr',h⟩:=hx;refine .inr ⟨?_,fr',B4 h⟩;unfold et
   have:l.findIdx? p=zn:=by
    rw[zqz];intro x I;obtain⟨j,C,rfl⟩:=List.getElem_of_mem I;exact D j C C
   rw[this]
  |succ n Q=>
   intro i e D;have hl:i<lz l:=by omega
   cases G:p l[i]with
   |false=>
    rw[B0 (h1 i hl G)];refine Q (i+1) (by omega) fun j C hji=>?_
    by_cases U:j=i
    . subst U;exact G
    . exact D j C (by omega)
   |true=>
    obtain⟨fr',J,N⟩:=h2 i hl G;refine .inl ⟨i,?_,fr',Cg J,N⟩;unfold et
    have:l.findIdx? p=zs i:=by
     rw[zqw];exact⟨hl,G,fun j C=>by simpa using D j (by omega) C⟩
    rw[this]
 exact H (lz l) 0 (by omega) fun j C h=>absurd h (by omega)
theorem bX{X:Type}{p:X->Bool}{l:List X}:decide (0<=et p l)=l.any p:=by
 unfold et;cases h:l.findIdx? p with
 |none=>
  rw[zqz]at h
  have:l.any p=zf:=by rw[List.any_eq_false];intro x C;simp[h x C]
  rw[this];rfl
 |some i=>
  rw[zqw]at h;obtain⟨D,G,_⟩:=h
  have:l.any p=zt:=List.any_eq_true.2 ⟨_,zqe D,G⟩
  rw[this];simp
section
variable {l:List Int}{i:Nat}{v:Int}
theorem IN(h:i<lz l)(D:lz l<=cp)(G:decide (v=l[i])=zf):evP ⟨A0,T,A2⟩ (.code Jj [(0,Vx (ints l)),(1,.int .i64 v),(7,.int .i64 (lz l:Int)),(8,.int .i64 (i:Int))] ⟨[],0,[]⟩)=zs (.ok .normal [(0,Vx (ints l)),(1,.int .i64 v),(7,.int .i64 (lz l:Int)),(8,.int .i64 ((i+1:Nat):Int))] ⟨[],0,[]⟩):=by
 unfold Jj;have C:decide ((i:Int)<(lz l:Int))=zt:=by simp[h]
 have H:=A8 (i:=i) (by simp only[cp]at D;omega);simp only[C,C6 h,H,G,XP,seval]
theorem IP(h:i<lz l)(D:decide (v=l[i])=zt):∃fr',evP ⟨A0,T,A2⟩ (.code Jj [(0,Vx (ints l)),(1,.int .i64 v),(7,.int .i64 (lz l:Int)),(8,.int .i64 (i:Int))] ⟨[],0,[]⟩)=zs (.ok .ret fr' ⟨[],0,[]⟩)/\FR fr' 4=.int .i64 (i:Int):=by
 unfold Jj;have C:decide ((i:Int)<(lz l:Int))=zt:=by simp[h]
 simp only[C,C6 h,D,XP,seval];exact⟨_,rfl,rfl⟩
theorem IR:∃fr',evP ⟨A0,T,A2⟩ (.code Jj [(0,Vx (ints l)),(1,.int .i64 v),(7,.int .i64 (lz l:Int)),(8,.int .i64 (lz l:Int))] ⟨[],0,[]⟩)=zs (.ok (.exit 0) fr' ⟨[],0,[]⟩):=by
 unfold Jj;have C:decide ((lz l:Int)<(lz l:Int))=zf:=by simp
 simp only[C,XP,seval];exact⟨_,rfl⟩
theorem Wz  {l:List Int} {v:Int} (G:lz l<=cp):AM.eo ⟨A0,T,A2⟩ 84 [Vx (ints l),.int .i64 v] [.int .i64 (et (fun n=>decide (v=n)) l)]:=by
 refine⟨[.int .i64 (et (fun n=>decide (v=n)) l)],⟨[],0,[]⟩,?_,E1 rfl zqd rfl rfl rfl⟩;rw[A7 (c:=OY) (nt:=19) (rs:=[.tmp 4]) rfl (by simp)];unfold OY;unfold K0;rcases k9 (P:=⟨A0,T,A2⟩) (c:=Jj) (p:=fun n=>decide (v=n)) (l:=l) (S:=fun i=>[(0,Vx (ints l)),(1,.int .i64 v),(7,.int .i64 (lz l:Int)),(8,.int .i64 (i:Int))]) (K:=⟨[],0,[]⟩) (fun i h D=>IN h G D) (fun i h D=>IP h D) IR with⟨i,e,fr',C,H⟩|⟨e,fr',C⟩
 . have C:evP ⟨A0,T,A2⟩ (.code (.loop Jj) [(0,Vx (ints l)),(1,.int .i64 v),(7,.int .i64 (lz l:Int)),(8,.int .i64 0)] ⟨[],0,[]⟩)=_:=C
   simp only[C,H,e,zqa,XP,seval]
 . have C:evP ⟨A0,T,A2⟩ (.code (.loop Jj) [(0,Vx (ints l)),(1,.int .i64 v),(7,.int .i64 (lz l:Int)),(8,.int .i64 0)] ⟨[],0,[]⟩)=_:=C
   simp only[C,e,zqa,XP,seval]
def Fm:=Ck (fun p:(List Int)×(Int)=>[Vx (ints p.1),.int .i64 p.2]) (fun p=>[.int .i64 (et (fun n=>decide (p.2=n)) p.1)]) (fun p=>lz p.1<=cp)
theorem tF(C:T 84=zs Fm){l:List Int}{v:Int}{K:PK}(D:lz l<=cp):evP ⟨A0,T,A2⟩ (.call 84 [Vx (ints l),.int .i64 v] K)=zs (.val (W2 (lz K.os) [.int .i64 (et (fun n=>decide (v=n)) l)]).1 ⟨K.os++(W2 (lz K.os) [.int .i64 (et (fun n=>decide (v=n)) l)]).2,K.ext,K.tch⟩):=E6 C (by simp only[VV,XP,seval]) (F2 (a:=fun p:(List Int)×(Int)=>[Vx (ints p.1),.int .i64 p.2]) (r:=fun p=>[.int .i64 (et (fun n=>decide (p.2=n)) p.1)]) (fun x y e=>by simp only[VJ]at e;simp only[e]) (l,v) D) (by simp only[VN,XP,seval])
theorem jY  (C:ep ⟨A0,T,A2⟩):TC A0 84 Fm:=F9 C fun p h=>Wz  h
theorem Ud(C:T 84=zs Fm){l:List Int}{v:Int}(D:lz l<=cp):AM.eo ⟨A0,T,A2⟩ 74 [Vx (ints l),.int .i64 v] [.bool (l.any fun n=>decide (v=n))]:=by
 refine⟨[.bool (l.any fun n=>decide (v=n))],⟨[],0,[]⟩,?_,E1 rfl zqd rfl rfl rfl⟩;rw[A7 (c:=OT) (nt:=9) (rs:=[.tmp 4]) rfl (by simp)];unfold OT;unfold K0;rw[<-bX];have t:=fun K=>tF (K:=K) (v:=v) C D
 simp only[t,XP,seval]
def w4:=Ck (fun p:(List Int)×(Int)=>[Vx (ints p.1),.int .i64 p.2]) (fun p=>[.bool (p.1.any fun n=>decide (p.2=n))]) (fun p=>lz p.1<=cp)
theorem fH(C:T 84=zs Fm)(D:ep ⟨A0,T,A2⟩):TC A0 74 w4:=F9 D fun p h=>Ud C h
end
section
variable {l:List Int}{i:Nat}
theorem IS(D:T 38=zs E2)(h:i<lz l)(G:lz l<=cp)(H:(!G4 l[i])=zf):evP ⟨A0,T,A2⟩ (.code Z9 [(0,Vx (ints l)),(1,.fn (.func 38) [] []),(7,.int .i64 (lz l:Int)),(8,.int .i64 (i:Int))] ⟨[],0,[]⟩)=zs (.ok .normal [(0,Vx (ints l)),(1,.fn (.func 38) [] []),(7,.int .i64 (lz l:Int)),(8,.int .i64 ((i+1:Nat):Int))] ⟨[],0,[]⟩):=by
 unfold Z9;have C:decide ((i:Int)<(lz l:Int))=zt:=by simp[h]
 have I:=A8 (i:=i) (by simp only[cp]at G;omega);simp only[C,C6 h,I,x7 D,H,XP,seval]
theorem IT(D:T 38=zs E2)(h:i<lz l)(G:(!G4 l[i])=zt):∃fr',evP ⟨A0,T,A2⟩ (.code Z9 [(0,Vx (ints l)),(1,.fn (.func 38) [] []),(7,.int .i64 (lz l:Int)),(8,.int .i64 (i:Int))] ⟨[],0,[]⟩)=zs (.ok .ret fr' ⟨[],0,[]⟩)/\FR fr' 4=.int .i64 (i:Int):=by
 unfold Z9;have C:decide ((i:Int)<(lz l:Int))=zt:=by simp[h]
 simp only[C,C6 h,x7 D,G,XP,seval];exact⟨_,rfl,rfl⟩
theorem IU:∃fr',evP ⟨A0,T,A2⟩ (.code Z9 [(0,Vx (ints l)),(1,.fn (.func 38) [] []),(7,.int .i64 (lz l:Int)),(8,.int .i64 (lz l:Int))] ⟨[],0,[]⟩)=zs (.ok (.exit 0) fr' ⟨[],0,[]⟩):=by
 unfold Z9;have C:decide ((lz l:Int)<(lz l:Int))=zf:=by simp
 simp only[C,XP,seval];exact⟨_,rfl⟩
theorem Xa(G:T 38=zs E2)(H:T 60=zn)(I:lz l<=cp)(K:PK):evP ⟨A0,T,A2⟩ (.call 60 [Vx (ints l),.fn (.func 38) [] []] K)=zs (.val [.int .i64 (et (fun n=>!G4 n) l)] K):=by
 refine lS (tch:=[]) H rfl rfl rfl ?_ rfl;rw[A7 (c:=GY) (nt:=19) (rs:=[.tmp 4]) rfl (by simp)];unfold GY;rcases k9 (P:=⟨A0,T,A2⟩) (c:=Z9) (p:=fun n=>!G4 n) (l:=l) (S:=fun i=>[(0,Vx (ints l)),(1,.fn (.func 38) [] []),(7,.int .i64 (lz l:Int)),(8,.int .i64 (i:Int))]) (K:=⟨[],0,[]⟩) (fun i h D=>IS G h I D) (fun i h D=>IT G h D) IU with⟨i,e,fr',C,J⟩|⟨e,fr',C⟩
 . have C:evP ⟨A0,T,A2⟩ (.code (.loop Z9) [(0,Vx (ints l)),(1,.fn (.func 38) [] []),(7,.int .i64 (lz l:Int)),(8,.int .i64 0)] ⟨[],0,[]⟩)=_:=C
   simp only[C,J,e,zqa,XP,seval]
 . have C:evP ⟨A0,T,A2⟩ (.code (.loop Z9) [(0,Vx (ints l)),(1,.fn (.func 38) [] []),(7,.int .i64 (lz l:Int)),(8,.int .i64 0)] ⟨[],0,[]⟩)=_:=C
   simp only[C,e,zqa,XP,seval]
theorem Ue(C:T 38=zs E2)(D:T 60=zn)(G:T 37=zn)(H:lz l<=cp)(K:PK):evP ⟨A0,T,A2⟩ (.call 37 [Vx (ints l),.fn (.func 38) [] []] K)=zs (.val [.bool (l.any fun n=>!G4 n)] K):=by
 refine lS (tch:=[]) G rfl rfl rfl ?_ rfl;rw[<-bX];have t:=fun K=>Xa C D H K
 rw[A7 (c:=GW) (nt:=9) (rs:=[.tmp 4]) rfl (by simp)];unfold GW;simp only[t,XP,seval]
end
section
variable {l:List Cod}{i:Nat}
theorem IV(D:T 42=zs M2)(h:i<lz l)(G:lz l<=cp)(H:decide (l[i].name=H1)=zf):evP ⟨A0,T,A2⟩ (.code Jg [(0,Vx (l.map Cod.F)),(1,.fn (.func 42) [] []),(7,.int .i64 (lz l:Int)),(8,.int .i64 (i:Int))] ⟨[],0,[]⟩)=zs (.ok .normal [(0,Vx (l.map Cod.F)),(1,.fn (.func 42) [] []),(7,.int .i64 (lz l:Int)),(8,.int .i64 ((i+1:Nat):Int))] ⟨[],0,[]⟩):=by
 unfold Jg;have C:decide ((i:Int)<(lz l:Int))=zt:=by simp[h]
 have I:=A8 (i:=i) (by simp only[cp]at G;omega);have hi:=B9 (F:=Cod.F) h;have t:=fun K=>Mm (K:=K) (c:=l[i]) D
 simp only[Cod.F]at hi t;simp only[C,hi,I,t,H,XP,seval]
theorem IW(D:T 42=zs M2)(h:i<lz l)(G:decide (l[i].name=H1)=zt):∃fr',evP ⟨A0,T,A2⟩ (.code Jg [(0,Vx (l.map Cod.F)),(1,.fn (.func 42) [] []),(7,.int .i64 (lz l:Int)),(8,.int .i64 (i:Int))] ⟨[],0,[]⟩)=zs (.ok .ret fr' ⟨[],0,[]⟩)/\FR fr' 4=.int .i64 (i:Int):=by
 unfold Jg;have C:decide ((i:Int)<(lz l:Int))=zt:=by simp[h]
 have hi:=B9 (F:=Cod.F) h;have t:=fun K=>Mm (K:=K) (c:=l[i]) D
 simp only[Cod.F]at hi t;simp only[C,hi,t,G,XP,seval];exact⟨_,rfl,rfl⟩
theorem IX:∃fr',evP ⟨A0,T,A2⟩ (.code Jg [(0,Vx (l.map Cod.F)),(1,.fn (.func 42) [] []),(7,.int .i64 (lz l:Int)),(8,.int .i64 (lz l:Int))] ⟨[],0,[]⟩)=zs (.ok (.exit 0) fr' ⟨[],0,[]⟩):=by
 unfold Jg;have C:decide ((lz l:Int)<(lz l:Int))=zf:=by simp
 simp only[C,XP,seval];exact⟨_,rfl⟩
theorem Xb(G:T 42=zs M2)(H:T 41=zn)(I:lz l<=cp)(K:PK):evP ⟨A0,T,A2⟩ (.call 41 [Vx (l.map Cod.F),.fn (.func 42) [] []] K)=zs (.val [.int .i64 (et (fun c:Cod=>decide (c.name=H1)) l)] K):=by
 refine lS (tch:=[]) H rfl rfl rfl ?_ rfl;rw[A7 (c:=OF) (nt:=19) (rs:=[.tmp 4]) rfl (by simp)];unfold OF;rcases k9 (P:=⟨A0,T,A2⟩) (c:=Jg) (p:=fun c:Cod=>decide (c.name=H1)) (l:=l) (S:=fun i=>[(0,Vx (l.map Cod.F)),(1,.fn (.func 42) [] []),(7,.int .i64 (lz l:Int)),(8,.int .i64 (i:Int))]) (K:=⟨[],0,[]⟩) (fun i h D=>IV G h I D) (fun i h D=>IW G h D) IX with⟨i,e,fr',C,J⟩|⟨e,fr',C⟩
 . have C:evP ⟨A0,T,A2⟩ (.code (.loop Jg) [(0,Vx (l.map Cod.F)),(1,.fn (.func 42) [] []),(7,.int .i64 (lz l:Int)),(8,.int .i64 0)] ⟨[],0,[]⟩)=_:=C
   simp only[C,J,e,zqa,XP,seval]
 . have C:evP ⟨A0,T,A2⟩ (.code (.loop Jg) [(0,Vx (l.map Cod.F)),(1,.fn (.func 42) [] []),(7,.int .i64 (lz l:Int)),(8,.int .i64 0)] ⟨[],0,[]⟩)=_:=C
   simp only[C,e,zqa,XP,seval]
theorem Qv(C:T 42=zs M2)(D:T 41=zn){m:de}(G:lz m.fs<=cp):AM.eo ⟨A0,T,A2⟩ 19 [m.F] [.int .i64 (et (fun c:Cod=>decide (c.name=H1)) m.fs)]:=by
 refine⟨[.int .i64 (et (fun c:Cod=>decide (c.name=H1)) m.fs)],⟨[],0,[]⟩,?_,E1 rfl zqd rfl rfl rfl⟩;rw[A7 (c:=NY) (nt:=6) (rs:=[.tmp 2]) rfl (by simp)];unfold NY;unfold K0;unfold de.F;have t:=fun K=>Xb C D G K
 simp only[t,XP,seval]
def x8:=Ck (fun p:(de)=>[p.F]) (fun p=>[.int .i64 (et (fun c:Cod=>decide (c.name=H1)) p.fs)]) (fun p=>lz p.fs<=cp)
theorem jZ(C:T 19=zs x8){m:de}{K:PK}(D:lz m.fs<=cp):evP ⟨A0,T,A2⟩ (.call 19 [m.F] K)=zs (.val (W2 (lz K.os) [.int .i64 (et (fun c:Cod=>decide (c.name=H1)) m.fs)]).1 ⟨K.os++(W2 (lz K.os) [.int .i64 (et (fun c:Cod=>decide (c.name=H1)) m.fs)]).2,K.ext,K.tch⟩):=E6 C (by simp only[VV,XP,seval]) (F2 (a:=fun p:(de)=>[p.F]) (r:=fun p=>[.int .i64 (et (fun c:Cod=>decide (c.name=H1)) p.fs)]) (fun x y e=>by simp only[VJ]at e;simp only[e]) (m) D) (by simp only[VN,XP,seval])
theorem bY(C:T 42=zs M2)(D:T 41=zn)(G:ep ⟨A0,T,A2⟩):TC A0 19 x8:=F9 G fun p h=>Qv C D h
end
def Of(p s:List UInt8):Bool:=Nat.ble (r8 s) 4000000000||sn p
def U4(args:List AV):Option (List AV):=match args with|[.str s,.str p]=>if Of p s=zt then zs [.bool (gw p s)]else zn|_=>zn
theorem bZ{s p:List UInt8}(h:Of p s=zt):U4 [.str s,.str p]=zs [.bool (gw p s)]:=if_pos h
theorem Og(C:T 73=zs U4){s p:List UInt8}{K:PK}(h:Of p s=zt):evP ⟨A0,T,A2⟩ (.call 73 [.str s,.str p] K)=zs (.val [.bool (gw p s)] ⟨K.os++[],K.ext,K.tch⟩):=E6 C rfl (bZ h) rfl
theorem Rq{t:Nat}{a b:List UInt8}{K:PK}(h:lz a+lz b<=4611686018427387904):f9 A0 .add t (.str a) (.str b) K=.val (.str (a++b)) K:=by
 rw[bp _ _ rfl rfl];show Km (bif Nat.ble (Nat.add (r8 a) (r8 b)) 4611686018427387904 then zs (AV.str (a++b))else zn) K=_
 rw[u7,u7,show Nat.ble (Nat.add (lz a) (lz b)) 4611686018427387904=zt from Nat.ble_eq_true_of_le h];rfl
def Uf:List UInt8:=[32,43,32,45,32,42,32,47,32,37,32,38,32,124,32,94,32,60,60,32,62,62,32,61,61,32,33,61,32,60,32,60,61,32,62,32,62,61,32]
def Ug:List UInt8:=[32,61,61,32,33,61,32,60,32,60,61,32,62,32,62,61,32]
def Do(x:Ins):Bool:=if x.op=3 then !decide (x.s=[])&&(!gw [32] x.s&&gw (32::(x.s++[32])) Uf)else if x.op=4 then decide (1<=x.ty)&&decide (x.ty<=3)else decide (1<=x.op)&&decide (x.op<=11)
theorem Xc(C:T 73=zs U4){x:Ins}(G:lz x.s<=cp):AM.eo ⟨A0,T,A2⟩ 61 [x.F] [.bool (Do x)]:=by
 refine⟨[.bool (Do x)],⟨[],0,[]⟩,?_,E1 rfl zqd rfl rfl rfl⟩;rw[A7 (c:=OO) (nt:=41) (rs:=[.tmp 2]) rfl (by simp)];unfold OO;unfold K0;have d1:∀K:PK,f9 A0 .add 9 (.str [32]) (.str x.s) K=.val (.str (32::x.s)) K:=fun K=>Rq (by simp only[cp]at G;simp;omega)
 have d2:∀K:PK,f9 A0 .add 9 (.str (32::x.s)) (.str [32]) K=.val (.str (32::(x.s++[32]))) K:=fun K=>Rq (by simp only[cp]at G;simp;omega)
 have c1:=fun K=>Og (K:=K) (s:=x.s) (p:=[32]) C (by unfold Of;rw[show sn [32]=zt from rfl,Bool.or_true])
 have c2:=fun K=>Og (K:=K) (s:=Uf) (p:=32::(x.s++[32])) C (by unfold Of;rfl)
 unfold Ins.F Do;unfold Uf at c2|-;by_cases e3:x.op=3
 . by_cases D:x.s=[]
   . simp only[eq_true e3,eq_true D,zkd,XP,seval]
   cases H:gw [32] x.s with
   |true=>simp only[eq_true e3,eq_false D,c1,H,zkd,Bool.and_false,XP,seval]
   |false=>simp only[eq_true e3,eq_false D,c1,H,d1,d2,c2,XP,seval]
 by_cases e4:x.op=4
 . by_cases D:1<=x.ty
   . simp only[e3,eq_true e4,eq_true D,XP,seval]
   . simp only[e3,eq_true e4,eq_false D,zkd,XP,seval]
 . by_cases D:1<=x.op
   . simp only[e3,e4,eq_true D,XP,seval]
   . simp only[e3,e4,eq_false D,zkd,XP,seval]
def Fo:=Ck (fun p:(Ins)=>[p.F]) (fun p=>[.bool (Do p)]) (fun p=>lz p.s<=cp)
theorem tG(C:T 61=zs Fo){x:Ins}{K:PK}(D:lz x.s<=cp):evP ⟨A0,T,A2⟩ (.call 61 [x.F] K)=zs (.val (W2 (lz K.os) [.bool (Do x)]).1 ⟨K.os++(W2 (lz K.os) [.bool (Do x)]).2,K.ext,K.tch⟩):=E6 C (by simp only[VV,XP,seval]) (F2 (a:=fun p:(Ins)=>[p.F]) (r:=fun p=>[.bool (Do p)]) (fun x y e=>by simp only[VJ]at e;simp only[e]) (x) D) (by simp only[VN,XP,seval])
theorem kA(C:T 73=zs U4)(D:ep ⟨A0,T,A2⟩):TC A0 61 Fo:=F9 D fun p h=>Xc C h
def X0(m:de)(at_:Int)(arr:Bool):Bool:=da at_ (lz m.gs)&&(match m.gs[at_.toNat]? with|some g=>decide (0<g.size)==arr|none=>zf)
theorem mS(t:Nat)(h:N1 A0 t=N1 A0 4)(a b:Bool)(K:PK):f9 A0 .eql t (.bool a) (.bool b) K=.val (.bool (a==b)) K:=by
 rw[bp _ _ rfl rfl,h];cases a<;>cases b<;>rfl
theorem H9{a n:Int}(h:da a n=zt):∃k:Nat,a=k/\(k:Int)<n:=by
 unfold da at h;rw[zke]at h;have h0:=of_decide_eq_true h.1;have C:=of_decide_eq_true h.2;obtain⟨k,rfl⟩:=zkf h0;exact⟨k,rfl,C⟩
theorem Bs(C:T 64=zs J2){m:de}{c:Cod}{a:Int}{arr:Bool}:AM.eo ⟨A0,T,A2⟩ 75 [dy m c,.int .i64 a,.bool arr] [.bool (X0 m a arr)]:=by
 refine⟨[.bool (X0 m a arr)],⟨[],0,[]⟩,?_,E1 rfl zqd rfl rfl rfl⟩;rw[A7 (c:=OU) (nt:=25) (rs:=[.tmp 6]) rfl (by simp)];unfold OU;unfold K0;have t:=fun K=>v8 (K:=K) (a:=a) (n:=lz m.gs) C
 have H:=mS 4 rfl;unfold dy X0;cases G:da a (lz m.gs) with
 |false=>rw[G]at t;simp only[t,zqa,zkd,XP,seval]
 |true=>
  obtain⟨k,rfl,D⟩:=H9 G;have D:k<lz m.gs:=by omega
  rw[G]at t;have hi:=B9 (F:=Glo.F) D;simp only[Glo.F]at hi;rw[show((k:Int)).toNat=k from rfl,zqh D];simp only[t,zqa,hi,H,XP,seval]
def F0:=Ck (fun p:(de)×(Cod)×(Int)×(Bool)=>[dy p.1 p.2.1,.int .i64 p.2.2.1,.bool p.2.2.2]) (fun p=>[.bool (X0 p.1 p.2.2.1 p.2.2.2)]) (fun p=>True)
theorem Ka(C:T 75=zs F0){m:de}{c:Cod}{a:Int}{arr:Bool}{K:PK}:evP ⟨A0,T,A2⟩ (.call 75 [dy m c,.int .i64 a,.bool arr] K)=zs (.val (W2 (lz K.os) [.bool (X0 m a arr)]).1 ⟨K.os++(W2 (lz K.os) [.bool (X0 m a arr)]).2,K.ext,K.tch⟩):=E6 C (by simp only[VV,XP,seval]) (F2 (a:=fun p:(de)×(Cod)×(Int)×(Bool)=>[dy p.1 p.2.1,.int .i64 p.2.2.1,.bool p.2.2.2]) (r:=fun p=>[.bool (X0 p.1 p.2.2.1 p.2.2.2)]) (fun x y e=>by simp only[VJ]at e;simp only[e]) (m,c,a,arr) trivial) (by simp only[VN,XP,seval])
theorem Fp(C:T 64=zs J2)(D:ep ⟨A0,T,A2⟩):TC A0 75 F0:=F9 D fun p h=>Bs C
def w9(l:List Int)(r:Int):Int:=l.getD r.toNat 0
theorem Mn{l:List Int}{k:Nat}(h:k<lz l):(ints l)[k]?=zs (.int .i64 (w9 l k)):=by
 rw[C6 h];unfold w9;simp[h]
theorem Rr{m:de}{c:Cod}{r t:Int}{id:Nat}{K:PK}(D:T 76=zn)(G:da r (lz c.x0g)=zt)(C:K.os[id]?=zs (.row 1 [dy m c] 7)):
 evP ⟨A0,T,A2⟩ (.call 76 [.int .i64 r,.int .i64 t,.ptr id 0 0] K)=zs (.val [.bool (decide (w9 c.x0g r=t))] K):=by
 obtain⟨k,rfl,hk⟩:=H9 G;have hi:=Mn (show k<lz c.x0g by omega);rw[g9 D rfl];rw[A7 (c:=OV) (nt:=14) (rs:=[.tmp 5]) rfl (by simp)];unfold OV;unfold dy at C;simp only[C,hi,XP,seval]
theorem Uh{P:PE}{c:PC}{X:Type}{p:X->Bool}{l:List X}{S:Nat->PF}{K:PK}{x:Nat}{Q:PF->Prop}{R:PF->PK->Prop}
 (h1:∀i (h:i<lz l),p l[i]=zt->evP P (.code c (S i) K)=zs (.ok .normal (S (i+1)) K))
 (h2:∀i (h:i<lz l),p l[i]=zf->∃fr' K',evP P (.code c (S i) K)=zs (.ok .ret fr' K')/\R fr' K')
 (hx:∃fr',evP P (.code c (S (lz l)) K)=zs (.ok (.exit x) fr' K)/\Q fr'):
 (l.all p=zt/\∃fr',evP P (.code (.loop c) (S 0) K)=zs (.ok (.exit x) fr' K)/\Q fr')\/(l.all p=zf/\∃fr' K',evP P (.code (.loop c) (S 0) K)=zs (.ok .ret fr' K')/\R fr' K'):=by
 have C:∀(n i:Nat),lz l=i+n->((l.drop i).all p=zt/\∃fr',evP P (.code (.loop c) (S i) K)=zs (.ok (.exit x) fr' K)/\Q fr')\/((l.drop i).all p=zf/\∃fr' K',evP P (.code (.loop c) (S i) K)=zs (.ok .ret fr' K')/\R fr' K'):=fun n=>by
  induction n with
  |zero=>
   intro i e;obtain rfl:i=lz l:=by omega
   obtain⟨fr',h,q⟩:=hx;exact .inl ⟨by rw[zqk];rfl,fr',B4 h,q⟩
  |succ n I=>
   intro i e;have hl:i<lz l:=by omega
   rw[zql hl,List.all_cons];cases D:p l[i]with
   |true=>
    rw[B0 (h1 i hl D),Bool.true_and];exact I (i+1) (by omega)
   |false=>
    obtain⟨fr',K',G,H⟩:=h2 i hl D;exact .inr ⟨rfl,fr',K',Cg G,H⟩
 exact C (lz l) 0 (by omega)
section
variable {m:de}{c:Cod}{x:Ins}{fr:PF}{i:Nat}{tch:List Nat}
def Qw:List Int:=[1,2,3,4,5,7,10]
def iK(c:Cod)(x:Ins):Bool:=!((!decide (x.op=9)||decide (0<=ch x))&&(!decide (ch x=-1) && !da (ch x) (lz c.x0g)))
def lc(l:List Cod)(i:Int):Cod:=l.getD i.toNat ⟨[],0,0,[],[]⟩
def qL(m:de)(c:Cod)(x:Ins):Bool:=
 if x.op=1 then decide (Qd (w9 c.x0g x.dst) x.n=x.n)else if x.op=5 then X0 m x.n zt else if x.op=6 then X0 m x.n zt else if x.op=7 then X0 m x.n zf else if x.op=8 then X0 m x.n zf
 else if x.op=9 then da x.n (lz m.fs)&&decide ((lc m.fs x.n).ps<=lz (lc m.fs x.n).x0g)else zt
def Fq(x:Ins):Bool:=(Qw.any fun n=>decide (x.op=n))&&decide (x.dst<0)
def F7(m:de)(c:Cod)(x:Ins):Bool:=(ci x).all (fun r=>da r (lz c.x0g))&&(iK c x&&(!Fq x&&qL m c x))
theorem Mo{l:List Cod}{k:Nat}(h:k<lz l):(l.map Cod.F)[k]?=zs (lc l k).F:=by
 rw[B9 (F:=Cod.F) h];unfold lc;simp[h]
theorem BE{w:PO}(C:FR fr 2=.ptr 0 0 0)(D:FR fr 3=.ptr 1 0 0)(hw:T 70=zs U0)(hg:T 75=zs F0)(H:T 64=zs J2)(h1:x.op=1->da x.dst (lz c.x0g)=zt):
 evP ⟨A0,T,A2⟩ (.code Tw fr ⟨[.row 1 [dy m c] 7,.row 1 [x.F] 8,w],0,tch⟩)=zs (.ok .ret [(4,.bool (qL m c x))] ⟨[],0,[]⟩):=by
 have tw:=fun t v K=>jX (K:=K) (t:=t) (v:=v) hw
 have J:=fun a b K=>Ka (K:=K) (m:=m) (c:=c) (a:=a) (arr:=b) hg
 have Y:=fun a n K=>v8 (K:=K) (a:=a) (n:=n) H
 unfold Tw sT sS sR sQ sP AS AR qL;unfold Ins.F;unfold dy at J|-;by_cases e1:x.op=1
 . obtain⟨k,U,V⟩:=H9 (h1 e1)
   have hi:=Mn (show k<lz c.x0g by omega);rw[U];simp only[C,D,eq_true e1,tw,hi,XP,seval]
 by_cases G:x.op=5
 . simp only[C,D,e1,eq_true G,J,XP,seval]
 by_cases I:x.op=6
 . simp only[C,D,e1,G,eq_true I,J,XP,seval]
 by_cases N:x.op=7
 . simp only[C,D,e1,G,I,eq_true N,J,XP,seval]
 by_cases Q:x.op=8
 . simp only[C,D,e1,G,I,N,eq_true Q,J,XP,seval]
 by_cases X:x.op=9
 . cases H:da x.n (lz m.fs) with
   |false=>simp only[C,D,e1,G,I,N,Q,eq_true X,Y,H,zqa,zkd,XP,seval]
   |true=>
    obtain⟨k,U,V⟩:=H9 H;have hi:=Mo (show k<lz m.fs by omega);simp only[Cod.F]at hi;rw[U]at H|-;simp only[C,D,e1,G,I,N,Q,eq_true X,Y,H,zqa,hi,XP,seval]
 . simp only[C,D,e1,G,I,N,Q,X,XP,seval]
end
section
variable {m:de}{c:Cod}{x:Ins}{fr:PF}{i:Nat}{L:List Int}
theorem IY(D:FR fr 2=.ptr 0 0 0)(G:FR fr 3=.ptr 1 0 0)(I:T 70=zs U0)(hg:T 75=zs F0)(J:T 64=zs J2)(hc:T 74=zs w4)(Q:x.op=1->¬x.dst<0->da x.dst (lz c.x0g)=zt):
 evP ⟨A0,T,A2⟩ (.code bQ fr ⟨[.row 1 [dy m c] 7,.row 1 [x.F] 8],0,[]⟩)=zs (.ok .ret [(4,.bool (!Fq x&&qL m c x))] ⟨[],0,[]⟩):=by
 have tc:∀K:PK,K.os[2]?=zs (.row 0 (ints Qw) 1)->evP ⟨A0,T,A2⟩ (.call 74 [.msl 2 0 7 1,.int .i64 x.op] K)=zs (.val [.bool (Qw.any fun n=>decide (x.op=n))] ⟨K.os++[],K.ext,K.tch⟩):=fun K N=>E6 hc (by
  simp only[Qw,ints,List.map]at N;simp only[N,Qw,XP,seval];rfl) (F2 (a:=fun p:List Int×Int=>[Vx (ints p.1),.int .i64 p.2]) (r:=fun p=>[.bool (p.1.any fun n=>decide (p.2=n))]) (fun x y e=>by simp only[List.cons.injEq,ny,n0,AV.int.injEq,true_and,and_true]at e;simp only[e]) (Qw,x.op) (by show lz Qw<=cp;decide)) rfl
 unfold bQ AP Fq;cases ha:(Qw.any fun n=>decide (x.op=n))with
 |false=>
  rw[zkd];rw[ha]at tc;have C:∀(fr:PF)(tch:List Nat),FR fr 2=.ptr 0 0 0->FR fr 3=.ptr 1 0 0->evP ⟨A0,T,A2⟩ (.code Tw fr ⟨[.row 1 [dy m c] 7,.row 1 [x.F] 8,.row 0 [.int .i64 1,.int .i64 2,.int .i64 3,.int .i64 4,.int .i64 5,.int .i64 7,.int .i64 10] 1],0,tch⟩)=zs (.ok .ret [(4,.bool (qL m c x))] ⟨[],0,[]⟩):=fun fr tch a b=>BE a b I hg J fun e=>absurd ha (by simp[Qw,e])
  simp only[Ins.F]at C|-;simp only[Qw,ints,List.map]at tc;simp only[D,G,tc,C,XP,seval]
 |true=>
  rw[ha]at tc;simp only[Qw,ints,List.map]at tc;by_cases H:x.dst<0
  . simp only[Ins.F]
    simp only[D,G,tc,eq_true H,zkd,XP,seval]
  . have C:∀(fr:PF)(tch:List Nat),FR fr 2=.ptr 0 0 0->FR fr 3=.ptr 1 0 0->evP ⟨A0,T,A2⟩ (.code Tw fr ⟨[.row 1 [dy m c] 7,.row 1 [x.F] 8,.row 0 [.int .i64 1,.int .i64 2,.int .i64 3,.int .i64 4,.int .i64 5,.int .i64 7,.int .i64 10] 1],0,tch⟩)=zs (.ok .ret [(4,.bool (qL m c x))] ⟨[],0,[]⟩):=fun fr tch a b=>BE a b I hg J fun e=>Q e H
    simp only[Ins.F]at C|-;simp only[D,G,tc,H,C,XP,seval]
theorem IZ(h:iK c x=zt)(e:x.op=1)(hd:¬x.dst<0):da x.dst (lz c.x0g)=zt:=by
 unfold iK ch at h;rw[if_pos e]at h
 have:¬x.dst=-1:=by omega
 have C:¬x.op=9:=by omega
 cases D:da x.dst (lz c.x0g) with
 |true=>rfl
 |false=>rw[D]at h;simp[this,C]at h
theorem JA(N:FR fr 2=.ptr 0 0 0)(Q:FR fr 3=.ptr 1 0 0)(X:T 70=zs U0)(hg:T 75=zs F0)(V:T 64=zs J2)(hc:T 74=zs w4)(U:T 32=zs B7):
 evP ⟨A0,T,A2⟩ (.code bR fr ⟨[.row 1 [dy m c] 7,.row 1 [x.F] 8],0,[]⟩)=zs (.ok .ret [(4,.bool (iK c x&&(!Fq x&&qL m c x)))] ⟨[],0,[]⟩):=by
 have J:=fun K=>l8 (K:=K) (x:=x) U
 have H:=fun K=>v8 (K:=K) (a:=ch x) (n:=lz c.x0g) V
 have C:iK c x=zt->∀fr:PF,FR fr 2=.ptr 0 0 0->FR fr 3=.ptr 1 0 0->evP ⟨A0,T,A2⟩ (.code bQ fr ⟨[.row 1 [dy m c] 7,.row 1 [x.F] 8],0,[]⟩)=zs (.ok .ret [(4,.bool (!Fq x&&qL m c x))] ⟨[],0,[]⟩):=fun h fr a b=>IY a b X hg V hc (IZ h)
 unfold bR AO AN;have D:iK c x=!((!decide (x.op=9)||decide (0<=ch x))&&(!decide (ch x=-1) && !da (ch x) (lz c.x0g))):=rfl;simp only[Ins.F]at J C|-;simp only[dy]at C|-;by_cases I:x.op=9
 . by_cases w0:0<=ch x
   . have G:¬ch x=-1:=by omega
     cases q:da (ch x) (lz c.x0g) with
     |true=>
      have ok:iK c x=zt:=by rw[D,q];simp
      have C:=C ok;rw[q]at H;simp only[N,Q,J,H,eq_true I,eq_true w0,eq_false G,zqa,ok,C,XP,seval]
     |false=>
      have ok:iK c x=zf:=by rw[D,q];simp[w0,G]
      rw[q]at H;simp only[N,Q,J,H,eq_true I,eq_true w0,eq_false G,zqa,ok,zkd,XP,seval]
   . have ok:iK c x=zt:=by rw[D];simp[I,w0]
     have C:=C ok;simp only[N,Q,J,eq_true I,eq_false w0,ok,C,XP,seval]
 . by_cases G:ch x=-1
   . have ok:iK c x=zt:=by rw[D];simp[G]
     have C:=C ok;simp only[N,Q,J,I,eq_true G,ok,C,XP,seval]
   . cases q:da (ch x) (lz c.x0g) with
     |true=>
      have ok:iK c x=zt:=by rw[D,q];simp
      have C:=C ok;rw[q]at H;simp only[N,Q,J,H,I,eq_false G,zqa,ok,C,XP,seval]
     |false=>
      have ok:iK c x=zf:=by rw[D,q];simp[I,G]
      rw[q]at H;simp only[N,Q,J,H,I,eq_false G,zqa,ok,zkd,XP,seval]
theorem XZ(G:T 64=zs J2)(h:i<lz L)(H:lz L<=cp)(I:da L[i] (lz c.x0g)=zt):evP ⟨A0,T,A2⟩ (.code Jh [(2,.ptr 0 0 0),(3,.ptr 1 0 0),(9,.msl 2 0 (lz L) 1),(10,.int .i64 (lz L:Int)),(11,.int .i64 (i:Int))] ⟨[.row 1 [dy m c] 7,.row 1 [x.F] 8,.row 0 (ints L) 1],0,[]⟩)=zs (.ok .normal [(2,.ptr 0 0 0),(3,.ptr 1 0 0),(9,.msl 2 0 (lz L) 1),(10,.int .i64 (lz L:Int)),(11,.int .i64 ((i+1:Nat):Int))] ⟨[.row 1 [dy m c] 7,.row 1 [x.F] 8,.row 0 (ints L) 1],0,[]⟩):=by
 unfold Jh mO sO sN sM;have C:decide ((i:Int)<(lz L:Int))=zt:=by simp[h]
 have J:=A8 (i:=i) (by simp only[cp]at H;omega);have D:=fun K=>v8 (K:=K) (a:=L[i]) (n:=lz c.x0g) G
 rw[I]at D;unfold dy Ins.F;simp only[C,C6 h,J,D,h,zqa,XP,seval]
theorem YA(G:T 64=zs J2)(h:i<lz L)(H:da L[i] (lz c.x0g)=zf):evP ⟨A0,T,A2⟩ (.code Jh [(2,.ptr 0 0 0),(3,.ptr 1 0 0),(9,.msl 2 0 (lz L) 1),(10,.int .i64 (lz L:Int)),(11,.int .i64 (i:Int))] ⟨[.row 1 [dy m c] 7,.row 1 [x.F] 8,.row 0 (ints L) 1],0,[]⟩)=zs (.ok .ret [(4,.bool zf)] ⟨[],0,[]⟩):=by
 unfold Jh mO sO sN sM;have C:decide ((i:Int)<(lz L:Int))=zt:=by simp[h]
 have D:=fun K=>v8 (K:=K) (a:=L[i]) (n:=lz c.x0g) G
 rw[H]at D;unfold dy Ins.F;simp only[C,C6 h,D,h,zqa,XP,seval]
theorem YB:∃fr',evP ⟨A0,T,A2⟩ (.code Jh [(2,.ptr 0 0 0),(3,.ptr 1 0 0),(9,.msl 2 0 (lz L) 1),(10,.int .i64 (lz L:Int)),(11,.int .i64 (lz L:Int))] ⟨[.row 1 [dy m c] 7,.row 1 [x.F] 8,.row 0 (ints L) 1],0,[]⟩)=zs (.ok (.exit 0) fr' ⟨[.row 1 [dy m c] 7,.row 1 [x.F] 8,.row 0 (ints L) 1],0,[]⟩)/\(FR fr' 2=.ptr 0 0 0/\FR fr' 3=.ptr 1 0 0):=by
 unfold Jh mO;have C:decide ((lz L:Int)<(lz L:Int))=zf:=by simp
 simp only[C,XP,seval];exact⟨_,rfl,rfl,rfl⟩
theorem kB(C:x.ok):lz (ci x)<=cp:=by
 unfold ci
 have:lz x.args<=cp:=by unfold Ins.ok at C;simp only[cp]at C|-;omega
 repeat' split
 all_goals first|exact this|(simp[cp])
theorem Bt(G:T 70=zs U0)(C:T 75=zs F0)(D:T 64=zs J2)(I:T 74=zs w4)(H:T 32=zs B7)(J:T 53=zs C7){m:de}{c:Cod}{x:Ins}(hk:x.ok):AM.eo ⟨A0,T,A2⟩ 62 [dy m c,x.F] [.bool (F7 m c x)]:=by
 refine⟨[.bool (F7 m c x)],⟨[],0,[]⟩,?_,E1 rfl zqd rfl rfl rfl⟩;rw[A7 (c:=OP) (nt:=114) (rs:=[.tmp 4]) rfl (by simp)];unfold OP;unfold K0;have X:=fun K=>Hb (K:=K) J hk
 have U:=kB hk;have V:∀fr:PF,FR fr 2=.ptr 0 0 0->FR fr 3=.ptr 1 0 0->evP ⟨A0,T,A2⟩ (.code bR fr ⟨[.row 1 [dy m c] 7,.row 1 [x.F] 8],0,[]⟩)=zs (.ok .ret [(4,.bool (iK c x&&(!Fq x&&qL m c x)))] ⟨[],0,[]⟩):=fun fr a b=>JA a b G C D I H
 have lp:=Uh (P:=⟨A0,T,A2⟩) (c:=Jh) (p:=fun r=>da r (lz c.x0g)) (l:=ci x) (S:=fun i=>[(2,.ptr 0 0 0),(3,.ptr 1 0 0),(9,.msl 2 0 (lz (ci x)) 1),(10,.int .i64 (lz (ci x):Int)),(11,.int .i64 (i:Int))]) (K:=⟨[.row 1 [dy m c] 7,.row 1 [x.F] 8,.row 0 (ints (ci x)) 1],0,[]⟩)
  (Q:=fun fr'=>FR fr' 2=.ptr 0 0 0/\FR fr' 3=.ptr 1 0 0) (R:=fun fr' K'=>fr'=[(4,.bool zf)]/\K'=⟨[],0,[]⟩) (fun i h Y=>XZ D h U Y) (fun i h Y=>⟨_,_,YA D h Y,rfl,rfl⟩) YB
 unfold sU AL F7;rcases lp with⟨ha,fr',N,h2,h3⟩|⟨ha,fr',K',N,rfl,rfl⟩
 . have N:evP ⟨A0,T,A2⟩ (.code (.loop Jh) [(2,.ptr 0 0 0),(3,.ptr 1 0 0),(9,.msl 2 0 (lz (ci x)) 1),(10,.int .i64 (lz (ci x):Int)),(11,.int .i64 0)] _)=_:=N
   rw[ha];simp only[Ins.F,dy]at X N V|-;simp only[X,N,h2,h3,V,zqa,XP,seval]
 . have N:evP ⟨A0,T,A2⟩ (.code (.loop Jh) [(2,.ptr 0 0 0),(3,.ptr 1 0 0),(9,.msl 2 0 (lz (ci x)) 1),(10,.int .i64 (lz (ci x):Int)),(11,.int .i64 0)] _)=_:=N
   rw[ha,zkd];simp only[Ins.F,dy]at X N|-;simp only[X,N,zqa,XP,seval]
def K9:=Ck (fun p:(de)×(Cod)×(Ins)=>[dy p.1 p.2.1,p.2.2.F]) (fun p=>[.bool (F7 p.1 p.2.1 p.2.2)]) (fun p=>p.2.2.ok)
theorem Kb(C:T 62=zs K9){m:de}{c:Cod}{x:Ins}{K:PK}(D:x.ok):evP ⟨A0,T,A2⟩ (.call 62 [dy m c,x.F] K)=zs (.val (W2 (lz K.os) [.bool (F7 m c x)]).1 ⟨K.os++(W2 (lz K.os) [.bool (F7 m c x)]).2,K.ext,K.tch⟩):=E6 C (by simp only[VV,XP,seval]) (F2 (a:=fun p:(de)×(Cod)×(Ins)=>[dy p.1 p.2.1,p.2.2.F]) (r:=fun p=>[.bool (F7 p.1 p.2.1 p.2.2)]) (fun x y e=>by simp only[VJ]at e;simp only[e]) (m,c,x) D) (by simp only[VN,XP,seval])
theorem Fr(D:T 70=zs U0)(C:T 75=zs F0)(H:T 64=zs J2)(I:T 74=zs w4)(G:T 32=zs B7)(J:T 53=zs C7)(N:ep ⟨A0,T,A2⟩):TC A0 62 K9:=F9 N fun p h=>Bt D C H I G J h
end
section
variable {m:de}{c:Cod}{x:Ins}{fr:PF}{i:Nat}
theorem Mp(h:F7 m c x=zt){r:Int}(C:r∈ci x):da r (lz c.x0g)=zt:=by
 unfold F7 at h;rw[zke]at h;exact zka.1 h.1 r C
theorem Oh(h:F7 m c x=zt)(e:x.op=1\/x.op=2\/x.op=3\/x.op=4\/x.op=5\/x.op=7\/x.op=10):da x.dst (lz c.x0g)=zt:=by
 unfold F7 at h;simp only[zke]at h;obtain⟨_,C,G,_⟩:=h;have D:¬x.dst<0:=fun D=>by
  have:Fq x=zt:=by
   unfold Fq Qw;rcases e with e|e|e|e|e|e|e<;>simp[e,D]
  rw[this]at G;cases G
 have H:ch x=x.dst:=by
  unfold ch;rcases e with e|e|e|e|e|e|e<;>simp[e]
 unfold iK at C;rw[H]at C;have I:¬x.op=9:=by omega
 have:¬x.dst=-1:=by omega
 cases J:da x.dst (lz c.x0g) with
 |true=>rfl
 |false=>rw[J]at C;simp[this,I]at C
theorem tH(h:F7 m c x=zt):qL m c x=zt:=by
 unfold F7 at h;simp only[zke]at h;exact h.2.2.2
theorem cA(h:F7 m c x=zt)(e:x.op=5\/x.op=6\/x.op=7\/x.op=8):da x.n (lz m.gs)=zt:=by
 have h:=tH h;unfold qL at h;rcases e with e|e|e|e<;>simp[e,X0]at h<;>exact h.1
theorem tI(h:F7 m c x=zt)(e:x.op=9):da x.n (lz m.fs)=zt/\(lc m.fs x.n).ps<=lz (lc m.fs x.n).x0g:=by
 have h:=tH h;unfold qL at h;simpa[e]using h
theorem xK(h:F7 m c x=zt)(e:x.op=9)(hd:¬x.dst<0):da x.dst (lz c.x0g)=zt:=by
 unfold F7 at h;simp only[zke]at h;obtain⟨_,C,h2,_⟩:=h;have D:ch x=x.dst:=by
  unfold ch;simp[e];omega
 unfold iK at C;rw[D]at C
 have:¬x.dst=-1:=by omega
 have h0:0<=x.dst:=by omega
 cases G:da x.dst (lz c.x0g) with
 |true=>rfl
 |false=>rw[G]at C;simp[this,h0]at C
def isD(c:Cod)(r t:Int):Bool:=decide (w9 c.x0g r=t)
def kC(l:List Glo)(i:Int):Glo:=l.getD i.toNat ⟨[],0,0,0⟩
theorem tJ{l:List Glo}{k:Nat}(h:k<lz l):(l.map Glo.F)[k]?=zs (kC l k).F:=by
 rw[B9 (F:=Glo.F) h];unfold kC;simp[h]
def JB(x:Ins):Int:=if gw (32::(x.s++[32])) Ug then 1 else x.ty
def Dp(m:de)(c:Cod)(x:Ins):Bool:=(x.args.zip (lc m.fs x.n).x0g).all (fun p=>isD c p.1 p.2)&&(decide (x.dst<0)||(!decide ((lc m.fs x.n).ty=0)&&isD c x.dst (lc m.fs x.n).ty))
def x9(m:de)(c:Cod)(x:Ins):Bool:=
 if x.op=2 then isD c x.a (w9 c.x0g x.dst)else if x.op=3 then isD c x.a x.ty&&(isD c x.b x.ty&&isD c x.dst (JB x))else if x.op=4 then isD c x.dst (Jk x.ty)
 else if x.op=5 then isD c x.a 2&&isD c x.dst (Jk (kC m.gs x.n).ty)else if x.op=6 then isD c x.a 2&&isD c x.b (Jk (kC m.gs x.n).ty)else if x.op=7 then isD c x.dst (kC m.gs x.n).ty else if x.op=8 then isD c x.a (kC m.gs x.n).ty
 else if x.op=9 then Dp m c x else if x.op=10 then isD c x.dst 2 else if x.op=11 then isD c x.a 2 else zt
def Ui(m:de)(x:Ins):Prop:=x.op=9->(lz x.args:Int)=(lc m.fs x.n).ps
section
variable {F:Cod}{A:List Int}
theorem YC(G:T 76=zn)(h:i<lz A)(H:i<lz F.x0g)(I:lz A<=cp)(J:da A[i] (lz c.x0g)=zt)(C:isD c A[i] F.x0g[i]=zt):
 evP ⟨A0,T,A2⟩ (.code Ji [(2,.fn (.func 76) [] [.ptr 0 0 0]),(4,.ptr 2 0 0),(7,.ptr 3 0 0),(18,Vx (ints A)),(19,.int .i64 (lz A:Int)),(20,.int .i64 (i:Int))] ⟨[.row 1 [dy m c] 7,.row 1 [x.F] 8,.row 1 [x.F] 8,.row 1 [F.F] 5],2,[]⟩)=zs (.ok .normal [(2,.fn (.func 76) [] [.ptr 0 0 0]),(4,.ptr 2 0 0),(7,.ptr 3 0 0),(18,Vx (ints A)),(19,.int .i64 (lz A:Int)),(20,.int .i64 ((i+1:Nat):Int))] ⟨[.row 1 [dy m c] 7,.row 1 [x.F] 8,.row 1 [x.F] 8,.row 1 [F.F] 5],2,[]⟩):=by
 unfold Ji;have D:decide ((i:Int)<(lz A:Int))=zt:=by simp[h]
 have Q:=A8 (i:=i) (by simp only[cp]at I;omega);have ic:=fun t K N=>Rr (m:=m) (t:=t) (id:=0) (K:=K) G J N
 have C:decide (w9 c.x0g A[i]=F.x0g[i])=zt:=C;simp only[dy,Ins.F,Cod.F]at ic|-;simp only[D,C6 h,C6 H,Q,ic,C,XP,seval]
theorem YD(G:T 76=zn)(h:i<lz A)(H:i<lz F.x0g)(I:da A[i] (lz c.x0g)=zt)(C:isD c A[i] F.x0g[i]=zf):
 ∃K',evP ⟨A0,T,A2⟩ (.code Ji [(2,.fn (.func 76) [] [.ptr 0 0 0]),(4,.ptr 2 0 0),(7,.ptr 3 0 0),(18,Vx (ints A)),(19,.int .i64 (lz A:Int)),(20,.int .i64 (i:Int))] ⟨[.row 1 [dy m c] 7,.row 1 [x.F] 8,.row 1 [x.F] 8,.row 1 [F.F] 5],2,[]⟩)=zs (.ok .ret [(6,.bool zf)] K')/\K'=⟨[.row 1 [dy m c] 7,.row 1 [x.F] 8],2,[]⟩:=by
 unfold Ji;have D:decide ((i:Int)<(lz A:Int))=zt:=by simp[h]
 have ic:=fun t K J=>Rr (m:=m) (t:=t) (id:=0) (K:=K) G I J
 have C:decide (w9 c.x0g A[i]=F.x0g[i])=zf:=C;simp only[dy,Ins.F,Cod.F]at ic|-;simp only[D,C6 h,C6 H,ic,C,XP,seval];exact⟨_,rfl,rfl⟩
theorem YE:∃fr',evP ⟨A0,T,A2⟩ (.code Ji [(2,.fn (.func 76) [] [.ptr 0 0 0]),(4,.ptr 2 0 0),(7,.ptr 3 0 0),(18,Vx (ints A)),(19,.int .i64 (lz A:Int)),(20,.int .i64 (lz A:Int))] ⟨[.row 1 [dy m c] 7,.row 1 [x.F] 8,.row 1 [x.F] 8,.row 1 [F.F] 5],2,[]⟩)=zs (.ok (.exit 0) fr' ⟨[.row 1 [dy m c] 7,.row 1 [x.F] 8,.row 1 [x.F] 8,.row 1 [F.F] 5],2,[]⟩)/\(FR fr' 2=.fn (.func 76) [] [.ptr 0 0 0]/\FR fr' 4=.ptr 2 0 0/\FR fr' 7=.ptr 3 0 0):=by
 unfold Ji;have C:decide ((lz A:Int)<(lz A:Int))=zf:=by simp
 simp only[C,XP,seval];exact⟨_,rfl,rfl,rfl,rfl⟩
end
theorem pJ(Y:T 76=zn)(hk:x.ok)(I:F7 m c x=zt)(V:x.op=9)(ha:Ui m x):
 evP ⟨A0,T,A2⟩ (.body 78 [dy m c,x.F,.fn (.func 76) [] [.ptr 0 0 0]] ⟨[.row 1 [dy m c] 7,.row 1 [x.F] 8],2,[]⟩)=zs (.val [.bool (Dp m c x)] ⟨[.row 1 [dy m c] 7,.row 1 [x.F] 8],2,[]⟩):=by
 obtain⟨hf,hps⟩:=tI I V;have ha:=ha V;obtain⟨k,U,hkl⟩:=H9 hf;have hi:=Mo (show k<lz m.fs by omega);rw[<-U]at hi;have N:lz x.args<=cp:=by unfold Ins.ok at hk;simp only[cp]at hk|-;omega
 have hz:lz (x.args.zip (lc m.fs x.n).x0g)=lz x.args:=by rw[zqx];omega
 have rd:∀i (h:i<lz x.args),da x.args[i] (lz c.x0g)=zt:=fun i h=>Mp I (by
  have:ci x=x.args:=by simp[ci,V]
  rw[this];exact zqe h)
 have lp:=Uh (P:=⟨A0,T,A2⟩) (c:=Ji) (p:=fun p=>isD c p.1 p.2) (l:=x.args.zip (lc m.fs x.n).x0g) (S:=fun i=>[(2,.fn (.func 76) [] [.ptr 0 0 0]),(4,.ptr 2 0 0),(7,.ptr 3 0 0),(18,Vx (ints x.args)),(19,.int .i64 (lz x.args:Int)),(20,.int .i64 (i:Int))]) (K:=⟨[.row 1 [dy m c] 7,.row 1 [x.F] 8,.row 1 [x.F] 8,.row 1 [(lc m.fs x.n).F] 5],2,[]⟩)
  (Q:=fun fr'=>FR fr' 2=.fn (.func 76) [] [.ptr 0 0 0]/\FR fr' 4=.ptr 2 0 0/\FR fr' 7=.ptr 3 0 0) (R:=fun fr' K'=>fr'=[(6,.bool zf)]/\K'=⟨[.row 1 [dy m c] 7,.row 1 [x.F] 8],2,[]⟩)
  (fun i h hp=>YC (F:=lc m.fs x.n) (A:=x.args) Y (by omega) (by rw[zqx]at h;omega) N (rd i (by omega)) (by simpa using hp)) (fun i h hp=>by
    obtain⟨K',q1,q2⟩:=YD (m:=m) (x:=x) (F:=lc m.fs x.n) (A:=x.args) Y (show i<lz x.args by omega) (by rw[zqx]at h;omega) (rd i (by omega)) (by simpa using hp);exact⟨_,K',q1,rfl,q2⟩) (by rw[hz];exact YE)
 rw [A7 (c:=OX) (nt:=51) (rs:=[.tmp 6]) rfl (by simp)];unfold OX;have C:Dp m c x=((x.args.zip (lc m.fs x.n).x0g).all (fun p=>isD c p.1 p.2)&&(decide (x.dst<0)||(!decide ((lc m.fs x.n).ty=0)&&isD c x.dst (lc m.fs x.n).ty))):=rfl;have D:∀te:TI,te.size=5->Xk te (Vx (m.fs.map Cod.F)) (.int .i64 x.n)=zs (.fptr (lc m.fs x.n).F 0):=fun te h=>by
  rw[U]at hi|-;exact js hi (by rw[h];rfl)
 have D:=D _ wj;rcases lp with⟨H,fr',G,h2,h3,h4⟩|⟨H,fr',K',G,rfl,rfl⟩
 . have G:evP ⟨A0,T,A2⟩ (.code (.loop Ji) [(2,.fn (.func 76) [] [.ptr 0 0 0]),(4,.ptr 2 0 0),(7,.ptr 3 0 0),(18,Vx (ints x.args)),(19,.int .i64 (lz x.args:Int)),(20,.int .i64 0)] _)=_:=G
   rw[H,Bool.true_and]at C;simp only[dy,Ins.F,Cod.F]at G D|-;by_cases J:x.dst<0
   . have C:Dp m c x=zt:=by rw[C];simp[J]
     simp only[D,G,h2,h3,h4,C,eq_true J,zqa,XP,seval]
   . by_cases X:(lc m.fs x.n).ty=0
     . have C:Dp m c x=zf:=by rw[C];simp[J,X]
       simp only[D,G,h2,h3,h4,C,J,eq_true X,zqa,XP,seval]
     . have C:Dp m c x=isD c x.dst (lc m.fs x.n).ty:=by rw[C];simp[J,X]
       have ic:=fun t K hK=>Rr (m:=m) (r:=x.dst) (t:=t) (id:=0) (K:=K) Y (xK I V J) hK
       unfold isD at C;simp only[dy]at ic;simp only[D,G,h2,h3,h4,C,J,X,ic,zqa,XP,seval]
 . have G:evP ⟨A0,T,A2⟩ (.code (.loop Ji) [(2,.fn (.func 76) [] [.ptr 0 0 0]),(4,.ptr 2 0 0),(7,.ptr 3 0 0),(18,Vx (ints x.args)),(19,.int .i64 (lz x.args:Int)),(20,.int .i64 0)] _)=_:=G
   rw[H,zkd]at C;simp only[dy,Ins.F,Cod.F]at G D|-;simp only[D,G,C,zqa,XP,seval]
end
section
variable {m:de}{c:Cod}{x:Ins}{fr:PF}{i:Nat}{tch:List Nat}
theorem pK(D:T 76=zn)(G:T 78=zn)(H:x.ok)(C:F7 m c x=zt)(I:x.op=9)(ha:Ui m x):
 evP ⟨A0,T,A2⟩ (.call 78 [dy m c,x.F,.fn (.func 76) [] [.ptr 0 0 0]] ⟨[.row 1 [dy m c] 7,.row 1 [x.F] 8],0,tch⟩)=zs (.val [.bool (Dp m c x)] ⟨[.row 1 [dy m c] 7,.row 1 [x.F] 8],0,tch⟩):=
 (g9 G rfl).trans ((congrArg _ (pJ D H C I ha)).trans rfl)
theorem Da(C:T 76=zn)(I:T 78=zn)(G:T 73=zs U4)(V:T 77=zs Fk){m:de}{c:Cod}{x:Ins}(Q:x.ok/\lz x.s<=cp/\F7 m c x=zt/\Ui m x):AM.eo ⟨A0,T,A2⟩ 63 [dy m c,x.F] [.bool (x9 m c x)]:=by
 refine⟨[.bool (x9 m c x)],⟨[],0,[]⟩,?_,E1 rfl zqd rfl rfl rfl⟩;rw[A7 (c:=OQ) (nt:=150) (rs:=[.tmp 4]) rfl (by simp)];unfold OQ;unfold K0;obtain⟨hx,hs,D,ac⟩:=Q;have J:=fun(r t:Int)(K:PK)(hr:da r (lz c.x0g)=zt) N=>Rr (m:=m) (c:=c) (r:=r) (t:=t) (id:=0) (K:=K) C hr N
 have tw:=fun t K=>tE (K:=K) (t:=t) V
 have cc:=fun e9 tch=>pK (tch:=tch) C I hx D e9 ac
 have aa:∀k:Nat,x.n=k->k<lz m.gs->Xk Tz (Vx (m.gs.map Glo.F)) (.int .i64 x.n)=zs (.fptr (kC m.gs x.n).F 0):=fun k Q hl=>by
  rw[Q];exact js (tJ hl) rfl
 have ae:∀k:Nat,x.dst=k->k<lz c.x0g->Xk eY (Vx (ints c.x0g)) (.int .i64 x.dst)=zs (.fptr (.int .i64 (w9 c.x0g x.dst)) 0):=fun k Q hl=>by
  rw[Q];exact js (Mn hl) rfl
 unfold sZ sY sX sW sV BD BC BB BA AZ AY AX AW x9;simp only[dy,Ins.F]at J cc|-;by_cases e2:x.op=2
 . have U:=fun t K N=>J x.a t K (Mp D (by simp[ci,e2])) N
   obtain⟨k,Q,hl⟩:=H9 (Oh D (by simp[e2]));have H:=ae k Q (by omega);unfold isD;simp only[eq_true e2,U,H,XP,seval]
 by_cases e3:x.op=3
 . have U:=fun t K N=>J x.a t K (Mp D (by simp[ci,e3])) N
   have ib:=fun t K N=>J x.b t K (Mp D (by simp[ci,e3])) N
   have id:=fun t K N=>J x.dst t K (Oh D (by simp[e3])) N
   have d1:∀K:PK,f9 A0 .add 9 (.str [32]) (.str x.s) K=.val (.str (32::x.s)) K:=fun K=>Rq (by simp only[cp]at hs;simp;omega)
   have d2:∀K:PK,f9 A0 .add 9 (.str (32::x.s)) (.str [32]) K=.val (.str (32::(x.s++[32]))) K:=fun K=>Rq (by simp only[cp]at hs;simp;omega)
   have cn:=fun K=>Og (K:=K) (s:=Ug) (p:=32::(x.s++[32])) G (by unfold Of;rfl)
   unfold isD JB AU AT;unfold Ug at cn|-;by_cases qa:w9 c.x0g x.a=x.ty
   . by_cases qb:w9 c.x0g x.b=x.ty
     . cases Y:gw (32::(x.s++[32])) [32,61,61,32,33,61,32,60,32,60,61,32,62,32,62,61,32]with
       |_=>simp only[e2,eq_true e3,U,ib,id,d1,d2,cn,Y,eq_true qa,eq_true qb,XP,seval]
     . cases Y:gw (32::(x.s++[32])) [32,61,61,32,33,61,32,60,32,60,61,32,62,32,62,61,32]with
       |_=>simp only[e2,eq_true e3,U,ib,id,d1,d2,cn,Y,eq_true qa,eq_false qb,zkd,XP,seval]
   . cases Y:gw (32::(x.s++[32])) [32,61,61,32,33,61,32,60,32,60,61,32,62,32,62,61,32]with
     |_=>simp only[e2,eq_true e3,U,ib,id,d1,d2,cn,Y,eq_false qa,zkd,XP,seval]
 by_cases e4:x.op=4
 . have id:=fun t K N=>J x.dst t K (Oh D (by simp[e4])) N
   unfold isD;simp only[e2,e3,eq_true e4,id,tw,XP,seval]
 by_cases X:x.op=5
 . have U:=fun t K N=>J x.a t K (Mp D (by simp[ci,X])) N
   have id:=fun t K N=>J x.dst t K (Oh D (by simp[X])) N
   obtain⟨k,Q,hl⟩:=H9 (cA D (by simp[X]));have H:=aa k Q (by omega);simp only[Glo.F]at H;unfold isD;by_cases qa:w9 c.x0g x.a=2
   . simp only[e2,e3,e4,eq_true X,U,id,H,tw,eq_true qa,XP,seval]
   . simp only[e2,e3,e4,eq_true X,U,id,H,tw,eq_false qa,zkd,XP,seval]
 by_cases e6:x.op=6
 . have U:=fun t K N=>J x.a t K (Mp D (by simp[ci,e6])) N
   have ib:=fun t K N=>J x.b t K (Mp D (by simp[ci,e6])) N
   obtain⟨k,Q,hl⟩:=H9 (cA D (by simp[e6]));have H:=aa k Q (by omega);simp only[Glo.F]at H;unfold isD;by_cases qa:w9 c.x0g x.a=2
   . simp only[e2,e3,e4,X,eq_true e6,U,ib,H,tw,eq_true qa,XP,seval]
   . simp only[e2,e3,e4,X,eq_true e6,U,ib,H,tw,eq_false qa,zkd,XP,seval]
 by_cases e7:x.op=7
 . have id:=fun t K N=>J x.dst t K (Oh D (by simp[e7])) N
   obtain⟨k,Q,hl⟩:=H9 (cA D (by simp[e7]));have H:=aa k Q (by omega);simp only[Glo.F]at H;unfold isD;simp only[e2,e3,e4,X,e6,eq_true e7,id,H,XP,seval]
 by_cases e8:x.op=8
 . have U:=fun t K N=>J x.a t K (Mp D (by simp[ci,e8])) N
   obtain⟨k,Q,hl⟩:=H9 (cA D (by simp[e8]));have H:=aa k Q (by omega);simp only[Glo.F]at H;unfold isD;simp only[e2,e3,e4,X,e6,e7,eq_true e8,U,H,XP,seval]
 by_cases e9:x.op=9
 . have cc:=cc e9
   simp only[e2,e3,e4,X,e6,e7,e8,eq_true e9,cc,XP,seval]
 by_cases ab:x.op=10
 . have id:=fun t K N=>J x.dst t K (Oh D (by simp[ab])) N
   unfold isD;simp only[e2,e3,e4,X,e6,e7,e8,e9,eq_true ab,id,XP,seval]
 by_cases ad:x.op=11
 . have U:=fun t K N=>J x.a t K (Mp D (by simp[ci,ad])) N
   unfold isD;simp only[e2,e3,e4,X,e6,e7,e8,e9,ab,eq_true ad,U,XP,seval]
 . simp only[e2,e3,e4,X,e6,e7,e8,e9,ab,ad,XP,seval]
def M3:=Ck (fun p:(de)×(Cod)×(Ins)=>[dy p.1 p.2.1,p.2.2.F]) (fun p=>[.bool (x9 p.1 p.2.1 p.2.2)]) (fun p=>p.2.2.ok/\lz p.2.2.s<=cp/\F7 p.1 p.2.1 p.2.2=zt/\Ui p.1 p.2.2)
theorem Am(C:T 63=zs M3){m:de}{c:Cod}{x:Ins}{K:PK}(D:x.ok/\lz x.s<=cp/\F7 m c x=zt/\Ui m x):evP ⟨A0,T,A2⟩ (.call 63 [dy m c,x.F] K)=zs (.val (W2 (lz K.os) [.bool (x9 m c x)]).1 ⟨K.os++(W2 (lz K.os) [.bool (x9 m c x)]).2,K.ext,K.tch⟩):=E6 C (by simp only[VV,XP,seval]) (F2 (a:=fun p:(de)×(Cod)×(Ins)=>[dy p.1 p.2.1,p.2.2.F]) (r:=fun p=>[.bool (x9 p.1 p.2.1 p.2.2)]) (fun x y e=>by simp only[VJ]at e;simp only[e]) (m,c,x) D) (by simp only[VN,XP,seval])
theorem If(C:T 76=zn)(G:T 78=zn)(D:T 73=zs U4)(H:T 77=zs Fk)(I:ep ⟨A0,T,A2⟩):TC A0 63 M3:=F9 I fun p h=>Da C G D H h
end
section
variable {m:de}{c:Cod}{x:Ins}{fr:PF}{i:Nat}{tch:List Nat}
def M7(m:de)(c:Cod)(x:Ins):Int:=if Do x=zt then(if F7 m c x=zt then(if x.op=9 then(if(lz x.args:Int)=(lc m.fs x.n).ps then(if x9 m c x=zt then 0 else 6)else 7)else(if x9 m c x=zt then 0 else 6))else 11)else 2
theorem Db(G:T 61=zs Fo)(D:T 62=zs K9)(C:T 63=zs M3){m:de}{c:Cod}{x:Ins}(hk:x.ok/\lz x.s<=cp):AM.eo ⟨A0,T,A2⟩ 39 [dy m c,x.F] [.int .i64 (M7 m c x)]:=by
 refine⟨[.int .i64 (M7 m c x)],⟨[],0,[]⟩,?_,E1 rfl zqd rfl rfl rfl⟩;rw[A7 (c:=OD) (nt:=37) (rs:=[.tmp 4]) rfl (by simp)];unfold OD;unfold K0;obtain⟨X,Y⟩:=hk;have H:=fun K=>tG (K:=K) G Y
 have I:=fun K=>Kb (K:=K) (m:=m) (c:=c) D X
 unfold M7;cases hf:Do x with
 |false=>
  rw[hf]at H;simp only[Ins.F,dy]at H|-;simp only[H,XP,seval]
 |true=>
  rw[hf]at H;cases U:F7 m c x with
  |false=>
   rw[U]at I;simp only[Ins.F,dy]at H I|-;simp only[H,I,XP,seval]
  |true=>
   rw[U]at I;by_cases V:x.op=9
   . obtain ⟨aa,hps⟩:=tI U V
     obtain ⟨k,Q,hkl⟩:=H9 aa;have hi:=Mo (show k<lz m.fs by omega);rw[<-Q]at hi;have J:Xk Fj (Vx (m.fs.map Cod.F)) (.int .i64 x.n)=zs (.fptr (lc m.fs x.n).F 0):=by
      rw[Q]at hi|-;exact js hi rfl
     by_cases hq:(lz x.args:Int)=(lc m.fs x.n).ps
     . have N:=fun K=>Am (K:=K) (m:=m) (c:=c) C ⟨X,Y,U,fun _=>hq⟩
       cases ht:x9 m c x with
       |_=>rw[ht]at N;simp only[Ins.F,dy,Cod.F]at H I N J|-;simp only[H,I,N,J,eq_true V,eq_true hq,zqa,XP,seval]
     . simp only[Ins.F,dy,Cod.F]at H I J|-;simp only[H,I,J,eq_true V,hq,zqa,XP,seval]
   . have N:=fun K=>Am (K:=K) (m:=m) (c:=c) C ⟨X,Y,U,fun h=>absurd h V⟩
     cases ht:x9 m c x with
     |_=>rw[ht]at N;simp only[Ins.F,dy]at H I N|-;simp only[H,I,N,V,XP,seval]
def E0:=Ck (fun p:(de)×(Cod)×(Ins)=>[dy p.1 p.2.1,p.2.2.F]) (fun p=>[.int .i64 (M7 p.1 p.2.1 p.2.2)]) (fun p=>p.2.2.ok/\lz p.2.2.s<=cp)
theorem An(C:T 39=zs E0){m:de}{c:Cod}{x:Ins}{K:PK}(D:x.ok/\lz x.s<=cp):evP ⟨A0,T,A2⟩ (.call 39 [dy m c,x.F] K)=zs (.val (W2 (lz K.os) [.int .i64 (M7 m c x)]).1 ⟨K.os++(W2 (lz K.os) [.int .i64 (M7 m c x)]).2,K.ext,K.tch⟩):=E6 C (by simp only[VV,XP,seval]) (F2 (a:=fun p:(de)×(Cod)×(Ins)=>[dy p.1 p.2.1,p.2.2.F]) (r:=fun p=>[.int .i64 (M7 p.1 p.2.1 p.2.2)]) (fun x y e=>by simp only[VJ]at e;simp only[e]) (m,c,x) D) (by simp only[VN,XP,seval])
theorem Ig(G:T 61=zs Fo)(C:T 62=zs K9)(D:T 63=zs M3)(H:ep ⟨A0,T,A2⟩):TC A0 39 E0:=F9 H fun p h=>Db G C D h
def Uj(c:Cod)(e:jy):Int:=
 if e.kind=1 then(if da e.to (lz c.blocks)=zt then 0 else 11)
 else if e.kind=2 then(if da e.to (lz c.blocks)=zt then(if da e.x0h (lz c.blocks)=zt then(if da e.a (lz c.x0g)=zt then(if w9 c.x0g e.a=1 then 0 else 6)else 11)else 11)else 11)
 else if e.kind=3 then(if e.a<0 then(if c.ty=0 then 0 else 6)else(if da e.a (lz c.x0g)=zt then(if c.ty=0 then 6 else if w9 c.x0g e.a=c.ty then 0 else 6)else 11))else 2
theorem Fs(C:T 64=zs J2){m:de}{c:Cod}{e:jy}:AM.eo ⟨A0,T,A2⟩ 40 [dy m c,e.F] [.int .i64 (Uj c e)]:=by
 refine⟨[.int .i64 (Uj c e)],⟨[],0,[]⟩,?_,E1 rfl zqd rfl rfl rfl⟩;rw[A7 (c:=OE) (nt:=100) (rs:=[.tmp 4]) rfl (by simp)];unfold OE;unfold K0;have D:=fun a n K=>v8 (K:=K) (a:=a) (n:=n) C
 have Q:=mS 4 rfl;have U:∀k:Nat,e.a=k->k<lz c.x0g->Xk eY (Vx (ints c.x0g)) (.int .i64 e.a)=zs (.fptr (.int .i64 (w9 c.x0g e.a)) 0):=fun k N hl=>by
  rw[N];exact js (Mn hl) rfl
 have V:(zt==zt)=zt:=rfl;have X:(zt==zf)=zf:=rfl;have Y:(zf==zt)=zf:=rfl;have b4:(zf==zf)=zt:=rfl;unfold Uj;simp only[jy.F,dy];by_cases e1:e.kind=1
 . cases I:da e.to (lz c.blocks) with
   |_=>simp only[D,I,eq_true e1,zqa,XP,seval]
 by_cases e2:e.kind=2
 . cases I:da e.to (lz c.blocks) with
   |false=>simp only[D,I,e1,eq_true e2,zqa,XP,seval]
   |true=>
    cases h2:da e.x0h (lz c.blocks) with
    |false=>simp only[D,I,h2,e1,eq_true e2,zqa,XP,seval]
    |true=>
     cases H:da e.a (lz c.x0g) with
     |false=>simp only[D,I,h2,H,e1,eq_true e2,zqa,XP,seval]
     |true=>
      obtain⟨k,N,hl⟩:=H9 H;have G:=U k N (by omega);by_cases hq:w9 c.x0g e.a=1
      . simp only[D,I,h2,H,G,eq_true hq,e1,eq_true e2,zqa,XP,seval]
      . simp only[D,I,h2,H,G,hq,e1,eq_true e2,zqa,XP,seval]
 by_cases e3:e.kind=3
 . by_cases ha:e.a<0
   . by_cases J:c.ty=0
     . simp only[D,Q,V,X,Y,b4,eq_true ha,eq_true J,e1,e2,eq_true e3,zqa,XP,seval]
     . simp only[D,Q,V,X,Y,b4,eq_true ha,J,e1,e2,eq_true e3,zqa,XP,seval]
   . cases H:da e.a (lz c.x0g) with
     |false=>simp only[D,H,ha,e1,e2,eq_true e3,zqa,XP,seval]
     |true=>
      obtain⟨k,N,hl⟩:=H9 H;have G:=U k N (by omega);by_cases J:c.ty=0
      . simp only[D,H,Q,V,X,Y,b4,ha,eq_true J,e1,e2,eq_true e3,zqa,XP,seval]
      . by_cases hq:w9 c.x0g e.a=c.ty
        . simp only[D,H,G,Q,V,X,Y,b4,ha,J,eq_true hq,e1,e2,eq_true e3,zqa,XP,seval]
        . simp only[D,H,G,Q,V,X,Y,b4,ha,J,hq,e1,e2,eq_true e3,zqa,XP,seval]
 . simp only[e1,e2,e3,zqa,XP,seval]
def J5:=Ck (fun p:(de)×(Cod)×(jy)=>[dy p.1 p.2.1,p.2.2.F]) (fun p=>[.int .i64 (Uj p.2.1 p.2.2)]) (fun p=>True)
theorem Dq(C:T 40=zs J5){m:de}{c:Cod}{e:jy}{K:PK}:evP ⟨A0,T,A2⟩ (.call 40 [dy m c,e.F] K)=zs (.val (W2 (lz K.os) [.int .i64 (Uj c e)]).1 ⟨K.os++(W2 (lz K.os) [.int .i64 (Uj c e)]).2,K.ext,K.tch⟩):=E6 C (by simp only[VV,XP,seval]) (F2 (a:=fun p:(de)×(Cod)×(jy)=>[dy p.1 p.2.1,p.2.2.F]) (r:=fun p=>[.int .i64 (Uj p.2.1 p.2.2)]) (fun x y e=>by simp only[VJ]at e;simp only[e]) (m,c,e) trivial) (by simp only[VN,XP,seval])
theorem Mq(C:T 64=zs J2)(D:ep ⟨A0,T,A2⟩):TC A0 40 J5:=F9 D fun p h=>Fs C
def L6:List Int->Int
 |[]=>0
 |e::l=>if e=0 then L6 l else e
theorem mg{P:PE}{c:PC}{X:Type}{f:X->Int}{l:List X}{S:Nat->PF}{K:PK}{x:Nat}{Q:PF->Prop}{R:Int->PF->PK->Prop}
 (h1:∀i (h:i<lz l),f l[i]=0->evP P (.code c (S i) K)=zs (.ok .normal (S (i+1)) K))
 (h2:∀i (h:i<lz l),¬f l[i]=0->∃fr' K',evP P (.code c (S i) K)=zs (.ok .ret fr' K')/\R (f l[i]) fr' K')
 (hx:∃fr',evP P (.code c (S (lz l)) K)=zs (.ok (.exit x) fr' K)/\Q fr'):
 (L6 (l.map f)=0/\∃fr',evP P (.code (.loop c) (S 0) K)=zs (.ok (.exit x) fr' K)/\Q fr')\/(¬L6 (l.map f)=0/\∃fr' K',evP P (.code (.loop c) (S 0) K)=zs (.ok .ret fr' K')/\R (L6 (l.map f)) fr' K'):=by
 have D:∀(n i:Nat),lz l=i+n->(L6 ((l.drop i).map f)=0/\∃fr',evP P (.code (.loop c) (S i) K)=zs (.ok (.exit x) fr' K)/\Q fr')\/(¬L6 ((l.drop i).map f)=0/\∃fr' K',evP P (.code (.loop c) (S i) K)=zs (.ok .ret fr' K')/\R (L6 ((l.drop i).map f)) fr' K'):=fun n=>by
  induction n with
  |zero=>
   intro i e;obtain rfl:i=lz l:=by omega
   obtain⟨fr',h,q⟩:=hx;exact .inl ⟨by rw[zqk];rfl,fr',B4 h,q⟩
  |succ n I=>
   intro i e;have hl:i<lz l:=by omega
   rw[zql hl,List.map_cons];unfold L6;by_cases C:f l[i]=0
   . rw[B0 (h1 i hl C),if_pos C]
     exact I (i+1) (by omega)
   . obtain⟨fr',K',G,H⟩:=h2 i hl C
     rw[if_neg C];exact .inr ⟨C,fr',K',Cg G,H⟩
 exact D (lz l) 0 (by omega)
end
def Ins.sok(x:Ins):Prop:=x.ok/\lz x.s<=cp
def Blk.sok(b:Blk):Prop:=b.ok/\∀x∈b.code,x.sok
def Cod.sok(c:Cod):Prop:=c.ok/\∀b∈c.blocks,b.sok
def de.ok(m:de):Prop:=(∀c∈m.fs,c.sok)/\lz m.fs*64<=cp/\lz m.gs*40<=cp
section
variable {m:de}{c:Cod}{x:Ins}{b:Blk}{fr:PF}{i k:Nat}{tch:List Nat}
def Xd(m:de)(c:Cod)(b:Blk):Int:=if L6 (b.code.map (M7 m c))=0 then Uj c b.e else L6 (b.code.map (M7 m c))
def o8(m:de)(c:Cod):Int:=
 if lz c.blocks<1\/400<lz c.blocks\/4096<lz c.x0g then 9 else if c.ps<0\/(lz c.x0g:Int)<c.ps then 11
 else if c.ty<0\/2<c.ty\/(c.x0g.any fun n=>!G4 n)=zt then 6 else L6 (c.blocks.map (Xd m c))
theorem JC(G:T 39=zs E0)(h:k<lz b.code)(D:b.sok)(H:M7 m c b.code[k]=0):
 evP ⟨A0,T,A2⟩ (.code It [(1,.ptr 0 0 0),(5,.ptr 1 0 0),(56,Vx (c.blocks.map Blk.F)),(57,.int .i64 (lz c.blocks:Int)),(58,.int .i64 (i:Int)),(63,Vx (b.code.map Ins.F)),(64,.int .i64 (lz b.code:Int)),(65,.int .i64 (k:Int))] ⟨[.row 1 [dy m c] 7,.row 1 [b.F] 5],0,[]⟩)=zs (.ok .normal [(1,.ptr 0 0 0),(5,.ptr 1 0 0),(56,Vx (c.blocks.map Blk.F)),(57,.int .i64 (lz c.blocks:Int)),(58,.int .i64 (i:Int)),(63,Vx (b.code.map Ins.F)),(64,.int .i64 (lz b.code:Int)),(65,.int .i64 ((k+1:Nat):Int))] ⟨[.row 1 [dy m c] 7,.row 1 [b.F] 5],0,[]⟩):=by
 unfold It;have C:decide ((k:Int)<(lz b.code:Int))=zt:=by simp[h]
 have I:=A8 (i:=k) (by have:=D.1.2;simp only[cp]at this;omega);have t:=fun K=>An (K:=K) (m:=m) (c:=c) (x:=b.code[k]) G (D.2 _ (zqe h))
 rw[H]at t;have hi:=B9 (F:=Ins.F) h;simp only[Ins.F,dy,Blk.F]at t hi|-;simp only[C,hi,I,t,XP,seval]
theorem JD(D:T 39=zs E0)(h:k<lz b.code)(G:b.sok)(H:¬M7 m c b.code[k]=0):
 evP ⟨A0,T,A2⟩ (.code It [(1,.ptr 0 0 0),(5,.ptr 1 0 0),(56,Vx (c.blocks.map Blk.F)),(57,.int .i64 (lz c.blocks:Int)),(58,.int .i64 (i:Int)),(63,Vx (b.code.map Ins.F)),(64,.int .i64 (lz b.code:Int)),(65,.int .i64 (k:Int))] ⟨[.row 1 [dy m c] 7,.row 1 [b.F] 5],0,[]⟩)=zs (.ok .ret [(2,.int .i64 (M7 m c b.code[k]))] ⟨[],0,[]⟩):=by
 unfold It;have C:decide ((k:Int)<(lz b.code:Int))=zt:=by simp[h]
 have t:=fun K=>An (K:=K) (m:=m) (c:=c) (x:=b.code[k]) D (G.2 _ (zqe h))
 have hi:=B9 (F:=Ins.F) h;simp only[Ins.F,dy,Blk.F]at t hi|-;simp only[C,hi,t,H,XP,seval]
theorem JE:∃fr',evP ⟨A0,T,A2⟩ (.code It [(1,.ptr 0 0 0),(5,.ptr 1 0 0),(56,Vx (c.blocks.map Blk.F)),(57,.int .i64 (lz c.blocks:Int)),(58,.int .i64 (i:Int)),(63,Vx (b.code.map Ins.F)),(64,.int .i64 (lz b.code:Int)),(65,.int .i64 (lz b.code:Int))] ⟨[.row 1 [dy m c] 7,.row 1 [b.F] 5],0,[]⟩)=zs (.ok (.exit 3) fr' ⟨[.row 1 [dy m c] 7,.row 1 [b.F] 5],0,[]⟩)/\(FR fr' 1=.ptr 0 0 0/\FR fr' 5=.ptr 1 0 0/\FR fr' 56=Vx (c.blocks.map Blk.F)/\FR fr' 57=.int .i64 (lz c.blocks:Int)/\FR fr' 58=.int .i64 (i:Int)):=by
 unfold It;have C:decide ((lz b.code:Int)<(lz b.code:Int))=zf:=by simp
 simp only[C,XP,seval];exact⟨_,rfl,rfl,rfl,rfl,rfl,rfl⟩
theorem c0j(D:T 39=zs E0)(G:b.sok):
 (L6 (b.code.map (M7 m c))=0/\∃fr',evP ⟨A0,T,A2⟩ (.code (.loop It) [(1,.ptr 0 0 0),(5,.ptr 1 0 0),(56,Vx (c.blocks.map Blk.F)),(57,.int .i64 (lz c.blocks:Int)),(58,.int .i64 (i:Int)),(63,Vx (b.code.map Ins.F)),(64,.int .i64 (lz b.code:Int)),(65,.int .i64 0)] ⟨[.row 1 [dy m c] 7,.row 1 [b.F] 5],0,[]⟩)=zs (.ok (.exit 3) fr' ⟨[.row 1 [dy m c] 7,.row 1 [b.F] 5],0,[]⟩)/\(FR fr' 1=.ptr 0 0 0/\FR fr' 5=.ptr 1 0 0/\FR fr' 56=Vx (c.blocks.map Blk.F)/\FR fr' 57=.int .i64 (lz c.blocks:Int)/\FR fr' 58=.int .i64 (i:Int)))\/
 (¬L6 (b.code.map (M7 m c))=0/\evP ⟨A0,T,A2⟩ (.code (.loop It) [(1,.ptr 0 0 0),(5,.ptr 1 0 0),(56,Vx (c.blocks.map Blk.F)),(57,.int .i64 (lz c.blocks:Int)),(58,.int .i64 (i:Int)),(63,Vx (b.code.map Ins.F)),(64,.int .i64 (lz b.code:Int)),(65,.int .i64 0)] ⟨[.row 1 [dy m c] 7,.row 1 [b.F] 5],0,[]⟩)=zs (.ok .ret [(2,.int .i64 (L6 (b.code.map (M7 m c))))] ⟨[],0,[]⟩)):=by
 rcases mg (P:=⟨A0,T,A2⟩) (c:=It) (f:=M7 m c) (l:=b.code) (S:=fun k=>[(1,.ptr 0 0 0),(5,.ptr 1 0 0),(56,Vx (c.blocks.map Blk.F)),(57,.int .i64 (lz c.blocks:Int)),(58,.int .i64 (i:Int)),(63,Vx (b.code.map Ins.F)),(64,.int .i64 (lz b.code:Int)),(65,.int .i64 (k:Int))]) (K:=⟨[.row 1 [dy m c] 7,.row 1 [b.F] 5],0,[]⟩) (Q:=fun fr'=>FR fr' 1=.ptr 0 0 0/\FR fr' 5=.ptr 1 0 0/\FR fr' 56=Vx (c.blocks.map Blk.F)/\FR fr' 57=.int .i64 (lz c.blocks:Int)/\FR fr' 58=.int .i64 (i:Int)) (R:=fun e fr' K'=>fr'=[(2,.int .i64 e)]/\K'=⟨[],0,[]⟩)
  (fun k h C=>JC D h G C) (fun k h C=>⟨_,_,JD D h G C,rfl,rfl⟩) JE with h|⟨h,fr',K',q,rfl,rfl⟩
 . exact .inl h
 . exact .inr ⟨h,q⟩
theorem JF(I:T 39=zs E0)(J:T 40=zs J5)(h:i<lz c.blocks)(H:c.sok)(C:Xd m c c.blocks[i]=0):
 evP ⟨A0,T,A2⟩ (.code Fh [(1,.ptr 0 0 0),(56,Vx (c.blocks.map Blk.F)),(57,.int .i64 (lz c.blocks:Int)),(58,.int .i64 (i:Int))] ⟨[.row 1 [dy m c] 7],0,[]⟩)=zs (.ok .normal [(1,.ptr 0 0 0),(56,Vx (c.blocks.map Blk.F)),(57,.int .i64 (lz c.blocks:Int)),(58,.int .i64 ((i+1:Nat):Int))] ⟨[.row 1 [dy m c] 7],0,[]⟩):=by
 have hb:=H.2 _ (zqe h);have D:decide ((i:Int)<(lz c.blocks:Int))=zt:=by simp[h]
 have N:=A8 (i:=i) (by have:=H.1.2.2;simp only[cp]at this;omega);have hi:=B9 (F:=Blk.F) h;have t:=fun K=>Dq (K:=K) (m:=m) (c:=c) (e:=c.blocks[i].e) J
 unfold Xd at C;rcases c0j (m:=m) (c:=c) (i:=i) I hb with⟨q,fr',G,Q,U,V,X,Y⟩|⟨q,G⟩
 . rw[if_pos q]at C
   rw[C]at t;unfold Fh;simp only[dy,Blk.F,jy.F]at G hi t|-;simp only[D,hi,N,G,Q,U,V,X,Y,t,zqa,XP,seval]
 . rw[if_neg q]at C;exact absurd C q
theorem JG(H:T 39=zs E0)(I:T 40=zs J5)(h:i<lz c.blocks)(J:c.sok)(G:¬Xd m c c.blocks[i]=0):
 evP ⟨A0,T,A2⟩ (.code Fh [(1,.ptr 0 0 0),(56,Vx (c.blocks.map Blk.F)),(57,.int .i64 (lz c.blocks:Int)),(58,.int .i64 (i:Int))] ⟨[.row 1 [dy m c] 7],0,[]⟩)=zs (.ok .ret [(2,.int .i64 (Xd m c c.blocks[i]))] ⟨[],0,[]⟩):=by
 have hb:=J.2 _ (zqe h);have C:decide ((i:Int)<(lz c.blocks:Int))=zt:=by simp[h]
 have hi:=B9 (F:=Blk.F) h;have t:=fun K=>Dq (K:=K) (m:=m) (c:=c) (e:=c.blocks[i].e) I
 unfold Xd at G|-;rcases c0j (m:=m) (c:=c) (i:=i) H hb with⟨q,fr',D,N,Q,U,V,X⟩|⟨q,D⟩
 . rw[if_pos q]at G|-
   unfold Fh;simp only[dy,Blk.F,jy.F]at D hi t|-;simp only[C,hi,D,N,Q,U,V,X,t,G,zqa,XP,seval]
 . rw[if_neg q]
   unfold Fh;simp only[dy,Blk.F]at D hi|-;simp only[C,hi,D,zqa,XP,seval]
theorem JH:∃fr',evP ⟨A0,T,A2⟩ (.code Fh [(1,.ptr 0 0 0),(56,Vx (c.blocks.map Blk.F)),(57,.int .i64 (lz c.blocks:Int)),(58,.int .i64 (lz c.blocks:Int))] ⟨[.row 1 [dy m c] 7],0,[]⟩)=zs (.ok (.exit 1) fr' ⟨[.row 1 [dy m c] 7],0,[]⟩)/\True:=by
 unfold Fh;have C:decide ((lz c.blocks:Int)<(lz c.blocks:Int))=zf:=by simp
 simp only[C,XP,seval];exact⟨_,rfl⟩
theorem Dw(C:T 39=zs E0)(G:T 40=zs J5)(H:T 38=zs E2)(U:T 60=zn)(N:T 37=zn){m:de}{c:Cod}(hk:c.sok):AM.eo ⟨A0,T,A2⟩ 18 [dy m c] [.int .i64 (o8 m c)]:=by
 refine⟨[.int .i64 (o8 m c)],⟨[],0,[]⟩,?_,E1 rfl zqd rfl rfl rfl⟩;rw[A7 (c:=NX) (nt:=84) (rs:=[.tmp 2]) rfl (by simp)];unfold NX;unfold K0;have hl:lz c.x0g<=cp:=by have:=hk.1.1;simp only[cp]at this|-;omega
 have tc:=fun K=>Ue (l:=c.x0g) H U N hl K
 have lp:=mg (P:=⟨A0,T,A2⟩) (c:=Fh) (f:=Xd m c) (l:=c.blocks) (S:=fun i=>[(1,.ptr 0 0 0),(56,Vx (c.blocks.map Blk.F)),(57,.int .i64 (lz c.blocks:Int)),(58,.int .i64 (i:Int))]) (K:=⟨[.row 1 [dy m c] 7],0,[]⟩) (Q:=fun fr'=>True) (R:=fun e fr' K'=>fr'=[(2,.int .i64 e)]/\K'=⟨[],0,[]⟩)
  (fun k h hp=>JF C G h hk hp) (fun k h hp=>⟨_,_,JG C G h hk hp,rfl,rfl⟩) JH
 unfold o8;simp only[dy]at tc lp|-;have I:decide ((400:Int)<(lz c.blocks:Int))=decide (400<lz c.blocks):=decide_eq_decide.2 (by omega);have D:decide ((4096:Int)<(lz c.x0g:Int))=decide (4096<lz c.x0g):=decide_eq_decide.2 (by omega);have J:decide ((lz c.blocks:Int)<1)=decide (lz c.blocks<1):=decide_eq_decide.2 (by omega);by_cases V:lz c.blocks<1
 . simp only[eq_true V,J,I,D,zqa,XP,seval]
 by_cases X:400<lz c.blocks
 . simp only[eq_false V,eq_true X,J,I,D,zqa,XP,seval]
 by_cases Y:4096<lz c.x0g
 . simp only[eq_false V,eq_false X,eq_true Y,J,I,D,zqa,XP,seval]
 by_cases q4:c.ps<0
 . simp only[eq_false V,eq_false X,eq_false Y,eq_true q4,J,I,D,zqa,XP,seval]
 by_cases q5:(lz c.x0g:Int)<c.ps
 . simp only[eq_false V,eq_false X,eq_false Y,eq_false q4,eq_true q5,J,I,D,zqa,XP,seval]
 by_cases q6:c.ty<0
 . simp only[eq_false V,eq_false X,eq_false Y,eq_false q4,eq_false q5,eq_true q6,J,I,D,zqa,XP,seval]
 by_cases q7:2<c.ty
 . simp only[eq_false V,eq_false X,eq_false Y,eq_false q4,eq_false q5,eq_false q6,eq_true q7,J,I,D,zqa,XP,seval]
 cases q8:(c.x0g.any fun n=>!G4 n)with
 |true=>simp only[eq_false V,eq_false X,eq_false Y,eq_false q4,eq_false q5,eq_false q6,eq_false q7,tc,q8,J,I,D,zqa,XP,seval]
 |false=>
  rcases lp with⟨q,fr',h1,_⟩|⟨q,fr',K',h1,rfl,rfl⟩
  . have h1:evP ⟨A0,T,A2⟩ (.code (.loop Fh) [(1,.ptr 0 0 0),(56,Vx (c.blocks.map Blk.F)),(57,.int .i64 (lz c.blocks:Int)),(58,.int .i64 0)] _)=_:=h1
    simp only[eq_false V,eq_false X,eq_false Y,eq_false q4,eq_false q5,eq_false q6,eq_false q7,tc,q8,q,h1,J,I,D,zqa,XP,seval]
  . have h1:evP ⟨A0,T,A2⟩ (.code (.loop Fh) [(1,.ptr 0 0 0),(56,Vx (c.blocks.map Blk.F)),(57,.int .i64 (lz c.blocks:Int)),(58,.int .i64 0)] _)=_:=h1
    simp only[eq_false V,eq_false X,eq_false Y,eq_false q4,eq_false q5,eq_false q6,eq_false q7,tc,q8,h1,J,I,D,zqa,XP,seval]
def I0:=Ck (fun p:(de)×(Cod)=>[dy p.1 p.2]) (fun p=>[.int .i64 (o8 p.1 p.2)]) (fun p=>p.2.sok)
theorem Bu(C:T 18=zs I0){m:de}{c:Cod}{K:PK}(D:c.sok):evP ⟨A0,T,A2⟩ (.call 18 [dy m c] K)=zs (.val (W2 (lz K.os) [.int .i64 (o8 m c)]).1 ⟨K.os++(W2 (lz K.os) [.int .i64 (o8 m c)]).2,K.ext,K.tch⟩):=E6 C (by simp only[VV,XP,seval]) (F2 (a:=fun p:(de)×(Cod)=>[dy p.1 p.2]) (r:=fun p=>[.int .i64 (o8 p.1 p.2)]) (fun x y e=>by simp only[VJ]at e;simp only[e]) (m,c) D) (by simp only[VN,XP,seval])
theorem Kc(D:T 39=zs E0)(G:T 40=zs J5)(C:T 38=zs E2)(I:T 60=zn)(H:T 37=zn)(J:ep ⟨A0,T,A2⟩):TC A0 18 I0:=F9 J fun p h=>Dw D G C I H h
end
section
variable {m:de}{c:Cod}{g:Glo}{i k:Nat}
def cB(g:Glo):Int:=if G4 g.ty=zt then 0 else if g.ty=3 then(if g.size<1 then 6 else 0)else 6
def Ft(m:de):Int:=et (fun c:Cod=>decide (c.name=H1)) m.fs
def BF(m:de):Int:=if Ft m<0 then 12 else if(lc m.fs (Ft m)).ty=1 then(if(lc m.fs (Ft m)).ps=0 then 0 else 12)else 12
def gz(m:de):Int:=if L6 (m.gs.map cB)=0 then(if L6 (m.fs.map (o8 m))=0 then BF m else L6 (m.fs.map (o8 m)))else L6 (m.gs.map cB)
theorem JI(J:T 17=zs O9)(h:i<lz m.gs)(N:lz m.gs<=cp)(C:cB m.gs[i]=0):
 evP ⟨A0,T,A2⟩ (.code Wv [(1,.ptr 0 0 0),(10,Vx (m.gs.map Glo.F)),(11,.int .i64 (lz m.gs:Int)),(12,.int .i64 (i:Int))] ⟨[.row 1 [m.F] 2],0,[]⟩)=zs (.ok .normal [(1,.ptr 0 0 0),(10,Vx (m.gs.map Glo.F)),(11,.int .i64 (lz m.gs:Int)),(12,.int .i64 ((i+1:Nat):Int))] ⟨[.row 1 [m.F] 2],0,[]⟩):=by
 unfold Wv;have D:decide ((i:Int)<(lz m.gs:Int))=zt:=by simp[h]
 have H:=A8 (i:=i) (by simp only[cp]at N;omega);have t:=fun K=>Jz (K:=K) (n:=m.gs[i].ty) J
 have hi:=B9 (F:=Glo.F) h;unfold cB at C;simp only[Glo.F,de.F]at t hi|-;cases q:G4 m.gs[i].ty with
 |true=>rw[q]at t;simp only[D,hi,H,t,XP,seval]
 |false=>
  rw[q]at t C;by_cases G:m.gs[i].ty=3
  . by_cases I:m.gs[i].size<1
    . rw[if_neg (by decide),if_pos G,if_pos I]at C;cases C
    . simp only[D,hi,H,t,eq_true G,eq_false I,XP,seval]
  . rw[if_neg (by decide),if_neg G]at C;cases C
theorem JJ(I:T 17=zs O9)(h:i<lz m.gs)(C:¬cB m.gs[i]=0):
 evP ⟨A0,T,A2⟩ (.code Wv [(1,.ptr 0 0 0),(10,Vx (m.gs.map Glo.F)),(11,.int .i64 (lz m.gs:Int)),(12,.int .i64 (i:Int))] ⟨[.row 1 [m.F] 2],0,[]⟩)=zs (.ok .ret [(2,.int .i64 (cB m.gs[i]))] ⟨[],0,[]⟩):=by
 unfold Wv;have D:decide ((i:Int)<(lz m.gs:Int))=zt:=by simp[h]
 have t:=fun K=>Jz (K:=K) (n:=m.gs[i].ty) I
 have hi:=B9 (F:=Glo.F) h;unfold cB at C|-;simp only[Glo.F,de.F]at t hi|-;cases q:G4 m.gs[i].ty with
 |true=>rw[q]at C;exact absurd rfl C
 |false=>
  rw[q]at t C;by_cases G:m.gs[i].ty=3
  . by_cases H:m.gs[i].size<1
    . simp only[D,hi,t,eq_true G,eq_true H,XP,seval]
    . rw[if_neg (by decide),if_pos G,if_neg H]at C;exact absurd rfl C
  . simp only[D,hi,t,eq_false G,XP,seval]
theorem JK:∃fr',evP ⟨A0,T,A2⟩ (.code Wv [(1,.ptr 0 0 0),(10,Vx (m.gs.map Glo.F)),(11,.int .i64 (lz m.gs:Int)),(12,.int .i64 (lz m.gs:Int))] ⟨[.row 1 [m.F] 2],0,[]⟩)=zs (.ok (.exit 0) fr' ⟨[.row 1 [m.F] 2],0,[]⟩)/\FR fr' 1=.ptr 0 0 0:=by
 unfold Wv;have C:decide ((lz m.gs:Int)<(lz m.gs:Int))=zf:=by simp
 simp only[C,XP,seval];exact⟨_,rfl,rfl⟩
theorem JL(G:T 18=zs I0)(h:i<lz m.fs)(D:m.ok)(H:o8 m m.fs[i]=0):
 evP ⟨A0,T,A2⟩ (.code Ww [(1,.ptr 0 0 0),(32,Vx (m.fs.map Cod.F)),(33,.int .i64 (lz m.fs:Int)),(34,.int .i64 (i:Int))] ⟨[.row 1 [m.F] 2],0,[]⟩)=zs (.ok .normal [(1,.ptr 0 0 0),(32,Vx (m.fs.map Cod.F)),(33,.int .i64 (lz m.fs:Int)),(34,.int .i64 ((i+1:Nat):Int))] ⟨[.row 1 [m.F] 2],0,[]⟩):=by
 unfold Ww;have C:decide ((i:Int)<(lz m.fs:Int))=zt:=by simp[h]
 have I:=A8 (i:=i) (by have:=D.2.1;simp only[cp]at this;omega);have t:=fun K=>Bu (K:=K) (m:=m) (c:=m.fs[i]) G (D.1 _ (zqe h))
 rw[H]at t;have hi:=B9 (F:=Cod.F) h;simp only[Cod.F,de.F,dy]at t hi|-;simp only[C,hi,I,t,XP,seval]
theorem JM(D:T 18=zs I0)(h:i<lz m.fs)(G:m.ok)(H:¬o8 m m.fs[i]=0):
 evP ⟨A0,T,A2⟩ (.code Ww [(1,.ptr 0 0 0),(32,Vx (m.fs.map Cod.F)),(33,.int .i64 (lz m.fs:Int)),(34,.int .i64 (i:Int))] ⟨[.row 1 [m.F] 2],0,[]⟩)=zs (.ok .ret [(2,.int .i64 (o8 m m.fs[i]))] ⟨[],0,[]⟩):=by
 unfold Ww;have C:decide ((i:Int)<(lz m.fs:Int))=zt:=by simp[h]
 have t:=fun K=>Bu (K:=K) (m:=m) (c:=m.fs[i]) D (G.1 _ (zqe h))
 have hi:=B9 (F:=Cod.F) h;simp only[Cod.F,de.F,dy]at t hi|-;simp only[C,hi,t,H,XP,seval]
theorem JN:∃fr',evP ⟨A0,T,A2⟩ (.code Ww [(1,.ptr 0 0 0),(32,Vx (m.fs.map Cod.F)),(33,.int .i64 (lz m.fs:Int)),(34,.int .i64 (lz m.fs:Int))] ⟨[.row 1 [m.F] 2],0,[]⟩)=zs (.ok (.exit 2) fr' ⟨[.row 1 [m.F] 2],0,[]⟩)/\FR fr' 1=.ptr 0 0 0:=by
 unfold Ww;have C:decide ((lz m.fs:Int)<(lz m.fs:Int))=zf:=by simp
 simp only[C,XP,seval];exact⟨_,rfl,rfl⟩
theorem tK{X:Type}{p:X->Bool}{l:List X}(h:¬et p l<0):∃k:Nat,et p l=k/\∃hk:k<lz l,p l[k]=zt:=by
 unfold et at h|-;cases q:l.findIdx? p with
 |none=>rw[q]at h;exact absurd (by decide) h
 |some i=>
  rw[zqw]at q;exact⟨i,rfl,q.1,q.2.1⟩
theorem Uk(D:T 17=zs O9)(C:T 18=zs I0)(G:T 19=zs x8){m:de}(Y:m.ok):AM.eo ⟨A0,T,A2⟩ 6 [m.F] [.int .i64 (gz m)]:=by
 refine⟨[.int .i64 (gz m)],⟨[],0,[]⟩,?_,E1 rfl zqd rfl rfl rfl⟩;rw[A7 (c:=p6) (nt:=68) (rs:=[.tmp 2]) rfl (by simp)];unfold p6;unfold K0;have aa:lz m.gs<=cp:=by have:=Y.2.2;simp only[cp]at this|-;omega
 have ab:lz m.fs<=cp:=by have:=Y.2.1;simp only[cp]at this|-;omega
 have tm:=fun K=>jZ (K:=K) (m:=m) G ab
 have tm:∀K:PK,evP ⟨A0,T,A2⟩ (.call 19 [m.F] K)=zs (.val (W2 (lz K.os) [.int .i64 (Ft m)]).1 ⟨K.os++(W2 (lz K.os) [.int .i64 (Ft m)]).2,K.ext,K.tch⟩):=tm;have l1:=mg (P:=⟨A0,T,A2⟩) (c:=Wv) (f:=cB) (l:=m.gs) (S:=fun i=>[(1,.ptr 0 0 0),(10,Vx (m.gs.map Glo.F)),(11,.int .i64 (lz m.gs:Int)),(12,.int .i64 (i:Int))]) (K:=⟨[.row 1 [m.F] 2],0,[]⟩) (Q:=fun fr'=>FR fr' 1=.ptr 0 0 0) (R:=fun e fr' K'=>fr'=[(2,.int .i64 e)]/\K'=⟨[],0,[]⟩)
  (fun k h N=>JI D h aa N) (fun k h N=>⟨_,_,JJ D h N,rfl,rfl⟩) JK
 have l2:=mg (P:=⟨A0,T,A2⟩) (c:=Ww) (f:=o8 m) (l:=m.fs) (S:=fun i=>[(1,.ptr 0 0 0),(32,Vx (m.fs.map Cod.F)),(33,.int .i64 (lz m.fs:Int)),(34,.int .i64 (i:Int))]) (K:=⟨[.row 1 [m.F] 2],0,[]⟩) (Q:=fun fr'=>FR fr' 1=.ptr 0 0 0) (R:=fun e fr' K'=>fr'=[(2,.int .i64 e)]/\K'=⟨[],0,[]⟩)
  (fun k h N=>JL C h Y N) (fun k h N=>⟨_,_,JM C h Y N,rfl,rfl⟩) JN
 unfold gz;simp only[de.F]at tm l1 l2|-;rcases l1 with⟨q,fr',H,V⟩|⟨q,fr',K',H,rfl,rfl⟩
 . have H:evP ⟨A0,T,A2⟩ (.code (.loop Wv) [(1,.ptr 0 0 0),(10,Vx (m.gs.map Glo.F)),(11,.int .i64 (lz m.gs:Int)),(12,.int .i64 0)] _)=_:=H
   rw[if_pos q];rcases l2 with⟨q2,ad,I,h4⟩|⟨q2,ad,K2,I,rfl,rfl⟩
   . have I:evP ⟨A0,T,A2⟩ (.code (.loop Ww) [(1,.ptr 0 0 0),(32,Vx (m.fs.map Cod.F)),(33,.int .i64 (lz m.fs:Int)),(34,.int .i64 0)] _)=_:=I
     rw[if_pos q2];unfold BF;by_cases X:Ft m<0
     . simp only[H,V,I,h4,tm,eq_true X,zqa,XP,seval]
     . obtain ⟨k,U,ac,_⟩:=tK X
       have hi:=Mo ac;have U:Ft m=k:=U;have J:Xk Fj (Vx (m.fs.map Cod.F)) (.int .i64 (Ft m))=zs (.fptr (lc m.fs (Ft m)).F 0):=by
        rw[U];exact js hi rfl
       simp only[Cod.F]at J;by_cases h5:(lc m.fs (Ft m)).ty=1
       . by_cases h6:(lc m.fs (Ft m)).ps=0
         . simp only[H,V,I,h4,tm,X,J,eq_true h5,eq_true h6,zqa,XP,seval]
         . simp only[H,V,I,h4,tm,X,J,eq_true h5,h6,zqa,XP,seval]
       . simp only[H,V,I,h4,tm,X,J,h5,zqa,XP,seval]
   . have I:evP ⟨A0,T,A2⟩ (.code (.loop Ww) [(1,.ptr 0 0 0),(32,Vx (m.fs.map Cod.F)),(33,.int .i64 (lz m.fs:Int)),(34,.int .i64 0)] _)=_:=I
     rw[if_neg q2];simp only[H,V,I,zqa,XP,seval]
 . have H:evP ⟨A0,T,A2⟩ (.code (.loop Wv) [(1,.ptr 0 0 0),(10,Vx (m.gs.map Glo.F)),(11,.int .i64 (lz m.gs:Int)),(12,.int .i64 0)] _)=_:=H
   rw[if_neg q];simp only[H,zqa,XP,seval]
def Hc:=Ck (fun p:(de)=>[p.F]) (fun p=>[.int .i64 (gz p)]) (fun p=>p.ok)
theorem pL(C:T 6=zs Hc){m:de}{K:PK}(D:m.ok):evP ⟨A0,T,A2⟩ (.call 6 [m.F] K)=zs (.val (W2 (lz K.os) [.int .i64 (gz m)]).1 ⟨K.os++(W2 (lz K.os) [.int .i64 (gz m)]).2,K.ext,K.tch⟩):=E6 C (by simp only[VV,XP,seval]) (F2 (a:=fun p:(de)=>[p.F]) (r:=fun p=>[.int .i64 (gz p)]) (fun x y e=>by simp only[VJ]at e;simp only[e]) (m) D) (by simp only[VN,XP,seval])
theorem fI(D:T 17=zs O9)(C:T 18=zs I0)(G:T 19=zs x8)(H:ep ⟨A0,T,A2⟩):TC A0 6 Hc:=F9 H fun p h=>Uk D C G h
end
def Ul{A X ρ:Type}(f:A->X->A⊕ρ):A->List X->A⊕ρ
 |a,[]=>.inl a
 |a,x::l=>match f a x with | .inl a=>Ul f a l | .inr r=>.inr r
theorem kD{P:PE}{c:PC}{A X ρ:Type}{f:A->X->A⊕ρ}{l:List X}{S:Nat->A->PF}{K:A->PK}{x:Nat}{Q:A->PF->Prop}{R:ρ->PF->PK->Prop}
 (h1:∀i a C (h:i<lz l),f a l[i]=.inl C->evP P (.code c (S i a) (K a))=zs (.ok .normal (S (i+1) C) (K C)))
 (h2:∀i a r (h:i<lz l),f a l[i]=.inr r->∃fr' K',evP P (.code c (S i a) (K a))=zs (.ok .ret fr' K')/\R r fr' K')
 (hx:∀a,∃fr',evP P (.code c (S (lz l) a) (K a))=zs (.ok (.exit x) fr' (K a))/\Q a fr')(a:A):
 (∃C,Ul f a l=.inl C/\∃fr',evP P (.code (.loop c) (S 0 a) (K a))=zs (.ok (.exit x) fr' (K C))/\Q C fr')\/(∃r,Ul f a l=.inr r/\∃fr' K',evP P (.code (.loop c) (S 0 a) (K a))=zs (.ok .ret fr' K')/\R r fr' K'):=by
 have D:∀(n i:Nat)(a:A),lz l=i+n->(∃C,Ul f a (l.drop i)=.inl C/\∃fr',evP P (.code (.loop c) (S i a) (K a))=zs (.ok (.exit x) fr' (K C))/\Q C fr')\/(∃r,Ul f a (l.drop i)=.inr r/\∃fr' K',evP P (.code (.loop c) (S i a) (K a))=zs (.ok .ret fr' K')/\R r fr' K'):=fun n=>by
  induction n with
  |zero=>
   intro i a e;obtain rfl:i=lz l:=by omega
   obtain⟨fr',h,q⟩:=hx a;exact .inl ⟨a,by rw[zqk];rfl,fr',B4 h,q⟩
  |succ n J=>
   intro i a e;have hl:i<lz l:=by omega
   rw[zql hl];unfold Ul;cases G:f a l[i]with
   |inl C=>rw[B0 (h1 i a C hl G)];exact J (i+1) C (by omega)
   |inr r=>
    obtain⟨fr',K',H,I⟩:=h2 i a r hl G;exact .inr ⟨r,rfl,fr',K',Cg H,I⟩
 exact D (lz l) 0 a (by omega)
theorem Zb{P:PE}{c:PC}{A X:Type}{f:A->X->A}{l:List X}{S:Nat->A->PF}{K:A->PK}{x:Nat}{Q:A->PF->Prop}
 (h1:∀i a (h:i<lz l),evP P (.code c (S i a) (K a))=zs (.ok .normal (S (i+1) (f a l[i])) (K (f a l[i]))))
 (hx:∀a,∃fr',evP P (.code c (S (lz l) a) (K a))=zs (.ok (.exit x) fr' (K a))/\Q a fr')(a:A):
 ∃fr',evP P (.code (.loop c) (S 0 a) (K a))=zs (.ok (.exit x) fr' (K (l.foldl f a)))/\Q (l.foldl f a) fr':=by
 have C:∀(n i:Nat)(a:A),lz l=i+n->∃fr',evP P (.code (.loop c) (S i a) (K a))=zs (.ok (.exit x) fr' (K ((l.drop i).foldl f a)))/\Q ((l.drop i).foldl f a) fr':=fun n=>by
  induction n with
  |zero=>
   intro i a e;obtain rfl:i=lz l:=by omega
   obtain⟨fr',h,q⟩:=hx a;exact⟨fr',by rw[zqk];exact B4 h,by rw[zqk];exact q⟩
  |succ n D=>
   intro i a e;have hl:i<lz l:=by omega
   rw[zql hl,zqr,B0 (h1 i a hl)];exact D (i+1) _ (by omega)
 exact C (lz l) 0 a (by omega)
section
variable {m:de}{c:Cod}{i j k:Nat}{n:Int}
def Dc(a:Int)(n:Nat):Int:=IntKind.i64.wrap (a+(n:Int))
def JO(a:Int)(b:Blk):Int:=b.code.foldl (fun a x=>Dc a (lz x.args)) (Dc a (lz b.code))
def HA(a:Int)(c:Cod):Int:=c.blocks.foldl JO (Dc (Dc a (lz c.x0g)) (lz c.blocks))
def OZ(a:Int)(c:Cod):Int⊕Unit:=if 3000<HA a c then .inr ()else .inl (HA a c)
def Dd(m:de):Bool:=if 20<lz m.gs then zt else if 12<lz m.fs then zt else if(m.gs.all fun g=>!decide (1024<g.size))=zt then(Ul OZ 0 m.fs).isRight else zt
theorem JP(h:i<lz m.gs)(G:lz m.gs<=cp)(C:(!decide (1024<m.gs[i].size))=zt):evP ⟨A0,T,A2⟩ (.code Jf [(1,.ptr 0 0 0),(3,.int .i64 n),(4,.int .i64 (i:Int))] ⟨[.row 1 [m.F] 2],0,[]⟩)=zs (.ok .normal [(1,.ptr 0 0 0),(3,.int .i64 n),(4,.int .i64 ((i+1:Nat):Int))] ⟨[.row 1 [m.F] 2],0,[]⟩):=by
 unfold Jf;have D:decide ((i:Int)<(lz m.gs:Int))=zt:=by simp[h]
 have H:=A8 (i:=i) (by simp only[cp]at G;omega);have hi:=B9 (F:=Glo.F) h;have C:decide (1024<m.gs[i].size)=zf:=by simpa using C
 simp only[Glo.F,de.F]at hi|-;simp only[D,hi,H,C,zqa,XP,seval]
theorem JQ(h:i<lz m.gs)(C:(!decide (1024<m.gs[i].size))=zf):evP ⟨A0,T,A2⟩ (.code Jf [(1,.ptr 0 0 0),(3,.int .i64 n),(4,.int .i64 (i:Int))] ⟨[.row 1 [m.F] 2],0,[]⟩)=zs (.ok .ret [(2,.bool zt)] ⟨[],0,[]⟩):=by
 unfold Jf;have D:decide ((i:Int)<(lz m.gs:Int))=zt:=by simp[h]
 have hi:=B9 (F:=Glo.F) h;have C:decide (1024<m.gs[i].size)=zt:=by simpa using C
 simp only[Glo.F,de.F]at hi|-;simp only[D,hi,C,zqa,XP,seval]
theorem JR:∃fr',evP ⟨A0,T,A2⟩ (.code Jf [(1,.ptr 0 0 0),(3,.int .i64 n),(4,.int .i64 (lz m.gs:Int))] ⟨[.row 1 [m.F] 2],0,[]⟩)=zs (.ok (.exit 0) fr' ⟨[.row 1 [m.F] 2],0,[]⟩)/\(FR fr' 1=.ptr 0 0 0/\FR fr' 3=.int .i64 n):=by
 unfold Jf;have C:decide ((lz m.gs:Int)<(lz m.gs:Int))=zf:=by simp
 simp only[de.F];simp only[C,zqa,XP,seval];exact⟨_,rfl,rfl,rfl⟩
theorem JS(G:j<lz c.blocks)(H:k<lz c.blocks[j].code)(I:c.ok):evP ⟨A0,T,A2⟩ (.code Tu [(1,.ptr 0 0 0),(3,.int .i64 n),(5,.int .i64 (i:Int)),(6,.ptr 1 0 0),(7,.int .i64 (j:Int)),(8,.int .i64 (k:Int))] ⟨[.row 1 [m.F] 2,.row 1 [c.F] 5],0,[]⟩)=zs (.ok .normal [(1,.ptr 0 0 0),(3,.int .i64 (Dc n (lz c.blocks[j].code[k].args))),(5,.int .i64 (i:Int)),(6,.ptr 1 0 0),(7,.int .i64 (j:Int)),(8,.int .i64 ((k+1:Nat):Int))] ⟨[.row 1 [m.F] 2,.row 1 [c.F] 5],0,[]⟩):=by
 unfold Tu Dc;have hb:=I.2.1 _ (zqe G);have D:decide ((k:Int)<(lz c.blocks[j].code:Int))=zt:=by simp[H]
 have J:=A8 (i:=k) (by have:=hb.2;simp only[cp]at this;omega);have hi:=B9 (F:=Blk.F) G;have C:=B9 (F:=Ins.F) H;simp only[Blk.F,Ins.F,de.F,Cod.F]at hi C|-;simp only[D,hi,C,J,zqa,XP,seval]
theorem JT(D:j<lz c.blocks):∃fr',evP ⟨A0,T,A2⟩ (.code Tu [(1,.ptr 0 0 0),(3,.int .i64 n),(5,.int .i64 (i:Int)),(6,.ptr 1 0 0),(7,.int .i64 (j:Int)),(8,.int .i64 (lz c.blocks[j].code:Int))] ⟨[.row 1 [m.F] 2,.row 1 [c.F] 5],0,[]⟩)=zs (.ok (.exit 6) fr' ⟨[.row 1 [m.F] 2,.row 1 [c.F] 5],0,[]⟩)/\(FR fr' 1=.ptr 0 0 0/\FR fr' 3=.int .i64 n/\FR fr' 5=.int .i64 (i:Int)/\FR fr' 6=.ptr 1 0 0/\FR fr' 7=.int .i64 (j:Int)):=by
 unfold Tu;have C:decide ((lz c.blocks[j].code:Int)<(lz c.blocks[j].code:Int))=zf:=by simp
 have hi:=B9 (F:=Blk.F) D;simp only[Blk.F,de.F,Cod.F]at hi|-;simp only[C,hi,zqa,XP,seval];exact⟨_,rfl,rfl,rfl,rfl,rfl,rfl⟩
theorem JU(D:j<lz c.blocks)(H:c.ok):evP ⟨A0,T,A2⟩ (.code Tv [(1,.ptr 0 0 0),(3,.int .i64 n),(5,.int .i64 (i:Int)),(6,.ptr 1 0 0),(7,.int .i64 (j:Int))] ⟨[.row 1 [m.F] 2,.row 1 [c.F] 5],0,[]⟩)=zs (.ok .normal [(1,.ptr 0 0 0),(3,.int .i64 (JO n c.blocks[j])),(5,.int .i64 (i:Int)),(6,.ptr 1 0 0),(7,.int .i64 ((j+1:Nat):Int))] ⟨[.row 1 [m.F] 2,.row 1 [c.F] 5],0,[]⟩):=by
 have G:decide ((j:Int)<(lz c.blocks:Int))=zt:=by simp[D]
 have J:=A8 (i:=j) (by have:=H.2.2;simp only[cp]at this;omega);have hi:=B9 (F:=Blk.F) D;obtain⟨fr',C,N,I,U,V,X⟩:=Zb (P:=⟨A0,T,A2⟩) (c:=Tu) (f:=fun a (x:Ins)=>Dc a (lz x.args)) (l:=c.blocks[j].code) (S:=fun k n=>[(1,.ptr 0 0 0),(3,.int .i64 n),(5,.int .i64 (i:Int)),(6,.ptr 1 0 0),(7,.int .i64 (j:Int)),(8,.int .i64 (k:Int))]) (K:=fun _=>⟨[.row 1 [m.F] 2,.row 1 [c.F] 5],0,[]⟩) (x:=6) (Q:=fun n fr'=>FR fr' 1=.ptr 0 0 0/\FR fr' 3=.int .i64 n/\FR fr' 5=.int .i64 (i:Int)/\FR fr' 6=.ptr 1 0 0/\FR fr' 7=.int .i64 (j:Int)) (fun k a h=>JS D h H) (fun a=>JT D) (Dc n (lz c.blocks[j].code));have C:evP ⟨A0,T,A2⟩ (.code (.loop Tu) [(1,.ptr 0 0 0),(3,.int .i64 (Dc n (lz c.blocks[j].code))),(5,.int .i64 (i:Int)),(6,.ptr 1 0 0),(7,.int .i64 (j:Int)),(8,.int .i64 0)] ⟨[.row 1 [m.F] 2,.row 1 [c.F] 5],0,[]⟩)=_:=C;have hn:JO n c.blocks[j]=c.blocks[j].code.foldl (fun a x=>Dc a (lz x.args)) (Dc n (lz c.blocks[j].code)):=rfl;rw[<-hn]at I;unfold Tv;unfold Dc at C;simp only[Blk.F,de.F,Cod.F]at hi C|-;simp only[G,hi,C,N,I,U,V,X,J,zqa,XP,seval]
theorem JV:∃fr',evP ⟨A0,T,A2⟩ (.code Tv [(1,.ptr 0 0 0),(3,.int .i64 n),(5,.int .i64 (i:Int)),(6,.ptr 1 0 0),(7,.int .i64 (lz c.blocks:Int))] ⟨[.row 1 [m.F] 2,.row 1 [c.F] 5],0,[]⟩)=zs (.ok (.exit 4) fr' ⟨[.row 1 [m.F] 2,.row 1 [c.F] 5],0,[]⟩)/\(FR fr' 1=.ptr 0 0 0/\FR fr' 3=.int .i64 n/\FR fr' 5=.int .i64 (i:Int)):=by
 unfold Tv;have C:decide ((lz c.blocks:Int)<(lz c.blocks:Int))=zf:=by simp
 simp only[de.F,Cod.F];simp only[C,zqa,XP,seval];exact⟨_,rfl,rfl,rfl,rfl⟩
theorem b6c(h:i<lz m.fs)(I:m.ok):(3000<HA n m.fs[i]->evP ⟨A0,T,A2⟩ (.code Mg [(1,.ptr 0 0 0),(3,.int .i64 n),(5,.int .i64 (i:Int))] ⟨[.row 1 [m.F] 2],0,[]⟩)=zs (.ok .ret [(2,.bool zt)] ⟨[],0,[]⟩))/\(¬3000<HA n m.fs[i]->evP ⟨A0,T,A2⟩ (.code Mg [(1,.ptr 0 0 0),(3,.int .i64 n),(5,.int .i64 (i:Int))] ⟨[.row 1 [m.F] 2],0,[]⟩)=zs (.ok .normal [(1,.ptr 0 0 0),(3,.int .i64 (HA n m.fs[i])),(5,.int .i64 ((i+1:Nat):Int))] ⟨[.row 1 [m.F] 2],0,[]⟩)):=by
 have hc:=(I.1 _ (zqe h)).1;have D:decide ((i:Int)<(lz m.fs:Int))=zt:=by simp[h]
 have U:=A8 (i:=i) (by have:=I.2.1;simp only[cp]at this;omega);have hi:=B9 (F:=Cod.F) h;generalize m.fs[i]=c at hc hi;obtain⟨fr',C,J,H,N⟩:=Zb (P:=⟨A0,T,A2⟩) (c:=Tv) (f:=JO) (l:=c.blocks) (S:=fun j n=>[(1,.ptr 0 0 0),(3,.int .i64 n),(5,.int .i64 (i:Int)),(6,.ptr 1 0 0),(7,.int .i64 (j:Int))]) (K:=fun _=>⟨[.row 1 [m.F] 2,.row 1 [c.F] 5],0,[]⟩) (x:=4) (Q:=fun n fr'=>FR fr' 1=.ptr 0 0 0/\FR fr' 3=.int .i64 n/\FR fr' 5=.int .i64 (i:Int)) (fun k a h=>JU h hc) (fun a=>JV) (Dc (Dc n (lz c.x0g)) (lz c.blocks));have C:evP ⟨A0,T,A2⟩ (.code (.loop Tv) [(1,.ptr 0 0 0),(3,.int .i64 (Dc (Dc n (lz c.x0g)) (lz c.blocks))),(5,.int .i64 (i:Int)),(6,.ptr 1 0 0),(7,.int .i64 0)] ⟨[.row 1 [m.F] 2,.row 1 [c.F] 5],0,[]⟩)=_:=C;have hn:HA n c=c.blocks.foldl JO (Dc (Dc n (lz c.x0g)) (lz c.blocks)):=rfl;rw[<-hn]at H;unfold Mg;unfold Dc at C;simp only[de.F,Cod.F]at hi C|-
 constructor
 . intro G
   simp only[D,hi,C,J,H,N,eq_true G,zqa,XP,seval]
 . intro G
   simp only[D,hi,C,J,H,N,U,G,zqa,XP,seval]
theorem JW:∃fr',evP ⟨A0,T,A2⟩ (.code Mg [(1,.ptr 0 0 0),(3,.int .i64 n),(5,.int .i64 (lz m.fs:Int))] ⟨[.row 1 [m.F] 2],0,[]⟩)=zs (.ok (.exit 2) fr' ⟨[.row 1 [m.F] 2],0,[]⟩)/\True:=by
 unfold Mg;have C:decide ((lz m.fs:Int)<(lz m.fs:Int))=zf:=by simp
 simp only[de.F];simp only[C,zqa,XP,seval];exact⟨_,rfl⟩
theorem Qx  {m:de} (U:m.ok):AM.eo ⟨A0,T,A2⟩ 36 [m.F] [.bool (Dd m)]:=by
 refine⟨[.bool (Dd m)],⟨[],0,[]⟩,?_,E1 rfl zqd rfl rfl rfl⟩;rw[A7 (c:=OB) (nt:=96) (rs:=[.tmp 2]) rfl (by simp)];unfold OB;unfold K0;have X:lz m.gs<=cp:=by have:=U.2.2;simp only[cp]at this|-;omega
 have l1:=Uh (P:=⟨A0,T,A2⟩) (c:=Jf) (p:=fun g:Glo=>!decide (1024<g.size)) (l:=m.gs) (S:=fun i=>[(1,.ptr 0 0 0),(3,.int .i64 0),(4,.int .i64 (i:Int))]) (K:=⟨[.row 1 [m.F] 2],0,[]⟩) (x:=0) (Q:=fun fr'=>FR fr' 1=.ptr 0 0 0/\FR fr' 3=.int .i64 0) (R:=fun fr' K'=>fr'=[(2,.bool zt)]/\K'=⟨[],0,[]⟩)
  (fun i h C=>JP h X C) (fun i h C=>⟨_,_,JQ h C,rfl,rfl⟩) JR
 have l2:=kD (P:=⟨A0,T,A2⟩) (c:=Mg) (f:=OZ) (l:=m.fs) (S:=fun i n=>[(1,.ptr 0 0 0),(3,.int .i64 n),(5,.int .i64 (i:Int))]) (K:=fun _=>⟨[.row 1 [m.F] 2],0,[]⟩) (x:=2) (Q:=fun n fr'=>True) (R:=fun r fr' K'=>fr'=[(2,.bool zt)]/\K'=⟨[],0,[]⟩)
  (fun i a a' h C=>by
    unfold OZ at C;split at C
    . cases C
    . rename_i V
      cases C;exact(b6c h U).2 V) (fun i a r h C=>by
    unfold OZ at C;split at C
    . rename_i V
      exact⟨_,_,(b6c h U).1 V,rfl,rfl⟩
    . cases C) (fun a=>JW) 0
 have D:decide ((20:Int)<(lz m.gs:Int))=decide (20<lz m.gs):=decide_eq_decide.2 (by omega);have G:decide ((12:Int)<(lz m.fs:Int))=decide (12<lz m.fs):=decide_eq_decide.2 (by omega);unfold Dd;simp only[de.F]at l1 l2|-;by_cases H:20<lz m.gs
 . simp only[D,G,eq_true H,zqa,XP,seval]
 by_cases I:12<lz m.fs
 . simp only[D,G,H,eq_true I,zqa,XP,seval]
 rcases l1 with⟨q,fr',J,h2,h3⟩|⟨q,fr',K',J,rfl,rfl⟩
 . have J:evP ⟨A0,T,A2⟩ (.code (.loop Jf) [(1,.ptr 0 0 0),(3,.int .i64 0),(4,.int .i64 0)] _)=_:=J
   rcases l2 with⟨a',Y,aa,N,_⟩|⟨r,Y,aa,K2,N,rfl,rfl⟩
   . have N:evP ⟨A0,T,A2⟩ (.code (.loop Mg) [(1,.ptr 0 0 0),(3,.int .i64 0),(5,.int .i64 0)] _)=_:=N
     simp only[D,G,H,I,J,h2,h3,N,q,Y,Sum.isRight_inl,zqa,XP,seval]
   . have N:evP ⟨A0,T,A2⟩ (.code (.loop Mg) [(1,.ptr 0 0 0),(3,.int .i64 0),(5,.int .i64 0)] _)=_:=N
     simp only[D,G,H,I,J,h2,h3,N,q,Y,Sum.isRight_inr,zqa,XP,seval]
 . have J:evP ⟨A0,T,A2⟩ (.code (.loop Jf) [(1,.ptr 0 0 0),(3,.int .i64 0),(4,.int .i64 0)] _)=_:=J
   simp only[D,G,H,I,J,q,zqa,XP,seval]
def y0:=Ck (fun p:(de)=>[p.F]) (fun p=>[.bool (Dd p)]) (fun p=>p.ok)
theorem kE(C:T 36=zs y0){m:de}{K:PK}(D:m.ok):evP ⟨A0,T,A2⟩ (.call 36 [m.F] K)=zs (.val (W2 (lz K.os) [.bool (Dd m)]).1 ⟨K.os++(W2 (lz K.os) [.bool (Dd m)]).2,K.ext,K.tch⟩):=E6 C (by simp only[VV,XP,seval]) (F2 (a:=fun p:(de)=>[p.F]) (r:=fun p=>[.bool (Dd p)]) (fun x y e=>by simp only[VJ]at e;simp only[e]) (m) D) (by simp only[VN,XP,seval])
theorem cC  (C:ep ⟨A0,T,A2⟩):TC A0 36 y0:=F9 C fun p h=>Qx  h
end
section
variable {m:de}{c:Cod}{i j k:Nat}{n:Int}
end
theorem Hd{i:Nat}(h:i<9223372036854775807):IntKind.i64.wrap ((i:Int)-1)=(i:Int)-1:=by
 rw[IntKind.wrap_i64];omega
section
variable {T:Nat->Option (List AV->Option (List AV))}{c:RC}{b:Nat}{K:PK}
theorem JX{l:List Blk}{k m:Nat}{fr C:PF}{K1:PK}{f:Bool}(G:FR fr 1=.ptr b 0 0)(H:FR fr 3=.int .i64 (k:Int))(I:k<lz l)(hb:cd K.os 6 b=zs (1,[.fsl (l.map Blk.F) f],1))(J:lz l*56<=cp)
 (hr:evP ⟨A0,T,A2⟩ (.round c [.int .i64 (k:Int),Blk.F l[k]] ⟨K.os,lz K.os,[]⟩)=zs (.ok .normal C K1)):
 ∃fr',evP ⟨A0,T,A2⟩ (.iter c (m+1+1+1+1+1+1+1+1+1) Tx zn fr K)=zs (.itr .normal zn fr' ⟨K1.os,K.ext,K1.tch++K.tch⟩)/\FR fr' 1=.ptr b 0 0/\FR fr' 3=.int .i64 ((k:Int)-1):=by
 unfold Tx;have hg:=B9 (F:=Blk.F) I;have D:decide ((0:Int)<=(k:Int))=zt:=by simp
 have N:=Hd (i:=k) (by simp only[cp]at J;omega);simp only[Blk.F]at hg hr;simp only[Pf,aF,Hs,Ht,Hu,Hv,aG,Pe,Ch,Ci,Hz,Hw,Hx,Hy,Pg,aH,Ph,aK,aJ,Cj,aI,G,H,hb,hg,D,N,hr,lf,Ou,XP,seval];exact⟨_,rfl,by simp only[G,XP,seval],by simp only[H,XP,seval]⟩
theorem JY{m:Nat}{fr:PF}(D:FR fr 3=.int .i64 (-1)):∃fr',evP ⟨A0,T,A2⟩ (.iter c (m+1+1+1+1+1+1+1+1+1) Tx zn fr K)=zs (.itr (.exit 0) zn fr' K):=by
 unfold Tx;have C:decide ((0:Int)<=(-1:Int))=zf:=rfl;simp only[Pf,aF,Hs,Ht,Hu,Hv,aG,Pe,Ch,Ci,Hz,Hw,Hx,Hy,Pg,aH,Ph,aK,aJ,Cj,aI,D,C,XP,seval];exact⟨_,rfl⟩
theorem BG{l:List Blk}{f:Bool}{Inv:Nat->PK->Prop}(H:lz l*56<=cp)(hb:∀i K,i<=lz l->Inv i K->cd K.os 6 b=zs (1,[.fsl (l.map Blk.F) f],1))
 (hr:∀i (hi:i<lz l) K,Inv (i+1) K->∃C K1,evP ⟨A0,T,A2⟩ (.round c [.int .i64 (i:Int),Blk.F l[i]] ⟨K.os,lz K.os,[]⟩)=zs (.ok .normal C K1)/\Inv i ⟨K1.os,K.ext,K1.tch++K.tch⟩):
 ∀(n m:Nat)(fr:PF)(K:PK),n<=lz l->n+30<=m->Inv n K->FR fr 1=.ptr b 0 0->FR fr 3=.int .i64 ((n:Int)-1)->∃fr' K',evP ⟨A0,T,A2⟩ (.iter c m (.loop Tx) zn fr K)=zs (.itr (.exit 0) zn fr' K')/\Inv 0 K'
 |0,m,fr,K,_,hm,hI,h1,h3=>by
  obtain⟨q,rfl⟩:∃q,m=q+1+1+1+1+1+1+1+1+1+1:=⟨m-10,by omega⟩
  obtain⟨fr',h⟩:=JY (c:=c) (K:=K) (T:=T) (m:=q) h3;exact⟨fr',K,by rw[dB,h];rfl,hI⟩
 |n+1,m,fr,K,hn,hm,hI,h1,h3=>by
  obtain⟨q,rfl⟩:∃q,m=q+1+1+1+1+1+1+1+1+1+1:=⟨m-10,by omega⟩
  obtain⟨C,K1,I,J⟩:=hr n hn K hI;obtain⟨D,N,Q,U⟩:=JX (c:=c) (m:=q) h1 (by rw[h3];congr 1;omega) hn (hb _ K (by omega) hI) H I;obtain⟨fr',K',V,G⟩:=BG H hb hr n (q+1+1+1+1+1+1+1+1+1) D _ (by omega) (by omega) J Q U;exact⟨fr',K',by rw[dB,N];exact V,G⟩
theorem JZ{l:List Blk}{f:Bool}{Inv:Nat->PK->Prop}{g:Operand}{ps:List Tmp}{ca cb:PC}{fr:PF}(I:lz l*56<=cp)(hl:lz l<=60000)(hg:dj A0 g fr=.fn (.func 66) [] [.ptr b 0 0])(hb:∀i K,i<=lz l->Inv i K->cd K.os 6 b=zs (1,[.fsl (l.map Blk.F) f],1))
 (hr:∀i (hi:i<lz l) K,Inv (i+1) K->∃D K1,evP ⟨A0,T,A2⟩ (.round ⟨ps,ca,cb,fr⟩ [.int .i64 (i:Int),Blk.F l[i]] ⟨K.os,lz K.os,[]⟩)=zs (.ok .normal D K1)/\Inv i ⟨K1.os,K.ext,K1.tch++K.tch⟩)(hI:Inv (lz l) ⟨K.os,lz K.os,[]⟩):
 ∃K',evP ⟨A0,T,A2⟩ (.code (.rfn g ps ca cb) fr K)=zs (.ok .normal fr ⟨K'.os,K.ext,K'.tch++K.tch⟩)/\Inv 0 K':=by
 obtain⟨fr',K',G,H⟩:=BG (c:=⟨ps,ca,cb,fr⟩) I hb hr (lz l) (je-2) [(3,.int .i64 ((lz l:Int)-1)),(6,.int .i64 ((lz l:Int)-1)),(5,.int .i64 (lz l:Int)),(4,.fsl (l.map Blk.F) f),(0,.any),(1,.ptr b 0 0)] _ (zkg _) (by simp only[je];omega) hI (by simp only[XP,seval]) (by simp only[XP,seval]);refine⟨K',?_,H⟩;rw[CT (x:=c66) (nt:=19) (rs:=[]) (i:=zf) hg rfl (by simp)];have C:=hb _ _ (zkg _) hI;have J:=Hd (i:=lz l) (by simp only[cp]at I;omega);rw[show je=281474976710654+1+1 from rfl];have G:evP ⟨A0,T,A2⟩ (.iter ⟨ps,ca,cb,fr⟩ 281474976710654 (.loop Tx) zn [(3,.int .i64 ((lz l:Int)-1)),(6,.int .i64 ((lz l:Int)-1)),(5,.int .i64 (lz l:Int)),(4,.fsl (l.map Blk.F) f),(0,.any),(1,.ptr b 0 0)] ⟨K.os,lz K.os,[]⟩)=_:=G;have C:cd K.os 6 b=zs (1,[.fsl (l.map Blk.F) f],1):=C;simp only[Pf,aF,Hs,Ht,Hu,Hv,aG,Pe,Ch,Ci,Hz,Hw,Hx,Hy,Pg,aH,Ph,aK,aJ,Cj,aI,C,J,G,zqa,wE,qK,XP,seval]
theorem KA{l:List Ins}{k m:Nat}{fr C:PF}{K1:PK}{f:Bool}(G:FR fr 1=.ptr b 0 0)(H:FR fr 3=.int .i64 (k:Int))(I:k<lz l)(hb:cd K.os 6 b=zs (1,[.fsl (l.map Ins.F) f],1))(J:lz l*88<=cp)
 (hr:evP ⟨A0,T,A2⟩ (.round c [.int .i64 (k:Int),Ins.F l[k]] ⟨K.os,lz K.os,[]⟩)=zs (.ok .normal C K1)):
 ∃fr',evP ⟨A0,T,A2⟩ (.iter c (m+1+1+1+1+1+1+1+1+1) Ty zn fr K)=zs (.itr .normal zn fr' ⟨K1.os,K.ext,K1.tch++K.tch⟩)/\FR fr' 1=.ptr b 0 0/\FR fr' 3=.int .i64 ((k:Int)-1):=by
 unfold Ty;have hg:=B9 (F:=Ins.F) I;have D:decide ((0:Int)<=(k:Int))=zt:=by simp
 have N:=Hd (i:=k) (by simp only[cp]at J;omega);simp only[Ins.F]at hg hr;simp only[Pf,aF,Hs,Ht,Hu,Hv,aG,Pe,Ch,Ci,Hz,Hw,Hx,Hy,Pg,aH,Ph,aK,aJ,Cj,aI,G,H,hb,hg,D,N,hr,lf,Ou,XP,seval];exact⟨_,rfl,by simp only[G,XP,seval],by simp only[H,XP,seval]⟩
theorem KB{m:Nat}{fr:PF}(D:FR fr 3=.int .i64 (-1)):∃fr',evP ⟨A0,T,A2⟩ (.iter c (m+1+1+1+1+1+1+1+1+1) Ty zn fr K)=zs (.itr (.exit 0) zn fr' K):=by
 unfold Ty;have C:decide ((0:Int)<=(-1:Int))=zf:=rfl;simp only[Pf,aF,Hs,Ht,Hu,Hv,aG,Pe,Ch,Ci,Hz,Hw,Hx,Hy,Pg,aH,Ph,aK,aJ,Cj,aI,D,C,XP,seval];exact⟨_,rfl⟩
theorem BH{l:List Ins}{f:Bool}{Inv:Nat->PK->Prop}(H:lz l*88<=cp)(hb:∀i K,i<=lz l->Inv i K->cd K.os 6 b=zs (1,[.fsl (l.map Ins.F) f],1))
 (hr:∀i (hi:i<lz l) K,Inv (i+1) K->∃C K1,evP ⟨A0,T,A2⟩ (.round c [.int .i64 (i:Int),Ins.F l[i]] ⟨K.os,lz K.os,[]⟩)=zs (.ok .normal C K1)/\Inv i ⟨K1.os,K.ext,K1.tch++K.tch⟩):
 ∀(n m:Nat)(fr:PF)(K:PK),n<=lz l->n+30<=m->Inv n K->FR fr 1=.ptr b 0 0->FR fr 3=.int .i64 ((n:Int)-1)->∃fr' K',evP ⟨A0,T,A2⟩ (.iter c m (.loop Ty) zn fr K)=zs (.itr (.exit 0) zn fr' K')/\Inv 0 K'
 |0,m,fr,K,_,hm,hI,h1,h3=>by
  obtain⟨q,rfl⟩:∃q,m=q+1+1+1+1+1+1+1+1+1+1:=⟨m-10,by omega⟩
  obtain⟨fr',h⟩:=KB (c:=c) (K:=K) (T:=T) (m:=q) h3;exact⟨fr',K,by rw[dB,h];rfl,hI⟩
 |n+1,m,fr,K,hn,hm,hI,h1,h3=>by
  obtain⟨q,rfl⟩:∃q,m=q+1+1+1+1+1+1+1+1+1+1:=⟨m-10,by omega⟩
  obtain⟨C,K1,I,J⟩:=hr n hn K hI;obtain⟨D,N,Q,U⟩:=KA (c:=c) (m:=q) h1 (by rw[h3];congr 1;omega) hn (hb _ K (by omega) hI) H I;obtain⟨fr',K',V,G⟩:=BH H hb hr n (q+1+1+1+1+1+1+1+1+1) D _ (by omega) (by omega) J Q U;exact⟨fr',K',by rw[dB,N];exact V,G⟩
theorem tL{l:List Ins}{f:Bool}{Inv:Nat->PK->Prop}{g:Operand}{ps:List Tmp}{ca cb:PC}{fr:PF}(I:lz l*88<=cp)(hl:lz l<=3000000000000)(hg:dj A0 g fr=.fn (.func 67) [] [.ptr b 0 0])(hb:∀i K,i<=lz l->Inv i K->cd K.os 6 b=zs (1,[.fsl (l.map Ins.F) f],1))
 (hr:∀i (hi:i<lz l) K,Inv (i+1) K->∃D K1,evP ⟨A0,T,A2⟩ (.round ⟨ps,ca,cb,fr⟩ [.int .i64 (i:Int),Ins.F l[i]] ⟨K.os,lz K.os,[]⟩)=zs (.ok .normal D K1)/\Inv i ⟨K1.os,K.ext,K1.tch++K.tch⟩)(hI:Inv (lz l) ⟨K.os,lz K.os,[]⟩):
 ∃K',evP ⟨A0,T,A2⟩ (.code (.rfn g ps ca cb) fr K)=zs (.ok .normal fr ⟨K'.os,K.ext,K'.tch++K.tch⟩)/\Inv 0 K':=by
 obtain⟨fr',K',G,H⟩:=BH (c:=⟨ps,ca,cb,fr⟩) I hb hr (lz l) (je-2) [(3,.int .i64 ((lz l:Int)-1)),(6,.int .i64 ((lz l:Int)-1)),(5,.int .i64 (lz l:Int)),(4,.fsl (l.map Ins.F) f),(0,.any),(1,.ptr b 0 0)] _ (zkg _) (by simp only[je];omega) hI (by simp only[XP,seval]) (by simp only[XP,seval]);refine⟨K',?_,H⟩;rw[CT (x:=c67) (nt:=19) (rs:=[]) (i:=zf) hg rfl (by simp)];have C:=hb _ _ (zkg _) hI;have J:=Hd (i:=lz l) (by simp only[cp]at I;omega);rw[show je=281474976710654+1+1 from rfl];have G:evP ⟨A0,T,A2⟩ (.iter ⟨ps,ca,cb,fr⟩ 281474976710654 (.loop Ty) zn [(3,.int .i64 ((lz l:Int)-1)),(6,.int .i64 ((lz l:Int)-1)),(5,.int .i64 (lz l:Int)),(4,.fsl (l.map Ins.F) f),(0,.any),(1,.ptr b 0 0)] ⟨K.os,lz K.os,[]⟩)=_:=G;have C:cd K.os 6 b=zs (1,[.fsl (l.map Ins.F) f],1):=C;simp only[Pf,aF,Hs,Ht,Hu,Hv,aG,Pe,Ch,Ci,Hz,Hw,Hx,Hy,Pg,aH,Ph,aK,aJ,Cj,aI,C,J,G,zqa,wE,qK,XP,seval]
end
section
variable {l:List Bool}
theorem fJ:AM.eo ⟨A0,T,A2⟩ 51 [.x0a] [di 0 1 (bools [])]:=by
 refine⟨[.x0a],⟨[],0,[]⟩,?_,F3 (.inl ⟨rfl,rfl,rfl⟩)⟩;rw[A7 (c:=AK) (nt:=8) (rs:=[.tmp 2]) rfl (by simp)];unfold AK K0;simp only[mP (t:=38) rfl,XP,seval]
theorem fK:AM.eo ⟨A0,T,A2⟩ 51 [.fsl [] zf] [di 0 1 (bools [])]:=by
 refine⟨[.msl 0 0 0 1],⟨[.row 0 [] 1],0,[]⟩,?_,F3 (.inr ⟨rfl,rfl⟩)⟩;rw[A7 (c:=AK) (nt:=8) (rs:=[.tmp 2]) rfl (by simp)];unfold AK K0;simp only[mQ (t:=38) rfl,tC,XP,seval]
theorem fL:∀l:List Bool,G1 1 (bools l)=zt
 |[]=>rfl
 |x::l=>fL l
theorem cD{x:Bool}{l:List Bool}(I:lz (x::l)*1<=cp):AM.eo ⟨A0,T,A2⟩ 51 [Vx (bools (x::l))] [di 0 1 (bools (x::l))]:=by
 refine⟨[.msl 0 0 (lz (bools (x::l))) 1],⟨[.row 0 (bools (x::l)) 1],0,[]⟩,?_,F3 (.inr ⟨rfl,rfl⟩)⟩;rw[A7 (c:=AK) (nt:=8) (rs:=[.tmp 2]) rfl (by simp)];unfold AK K0;have C:∀K:PK,f9 A0 .eql 38 (Vx (bools (x::l))) .x0a K=.val (.bool zf) K:=fun K=>fD (t:=38) rfl
 have D:=fL (x::l);have G:(bools (x::l)).isEmpty=zf:=rfl;have H:lz (bools (x::l))*1<=140737488355328:=by simpa[cp]using I
 generalize bools (x::l)=es at C D G H;simp only[C,D,G,H,XP,seval]
def D6:=Ck (fun l:List Bool=>[Vx (bools l)]) (fun l=>[di 0 1 (bools l)]) (fun l=>lz l*1<=cp)
theorem y3{l:List Bool}(h:lz l*1<=cp):D6 [Vx (bools l)]=zs [di 0 1 (bools l)]:=F2 (a:=fun l:List Bool=>[Vx (bools l)]) (fun x y e=>by injection e with e _;rw[mp.1 (gp e)]) l h
theorem kF{P:PE}(D:ep P)(G:P=⟨A0,T,A2⟩):TC P.E 51 D6:=by
 subst G;refine lN D (fun a args rs hg H ha=>?_) (by unfold D6 Ck;rw[dif_neg];rintro⟨x,_,h⟩;cases h);obtain⟨l,I,C,rfl⟩:=dC hg;injection C with C J
 subst C J;cases l with
 |nil=>
  rcases zqj.1 ha with rfl|ha
  . exact fJ
  . obtain rfl:=zqq.1 ha;exact fK
 |cons x l=>
  obtain rfl:=zqq.1 (show H∈[Vx (bools (x::l))]from ha);exact cD I
end
section
variable {l m:List Bool}{f g:Bool}{i:Nat}
end
def uSt(m:List Bool)(i:Nat)(s:List Bool×Bool):List Bool×Bool:=if m.getD i zf=zt/\s.1.getD i zf=zf then(s.1.set i zt,zt)else s
def Jl(m:List Bool):Nat->Nat->List Bool×Bool->List Bool×Bool
 |0,_,s=>s
 |n+1,i,s=>Jl m n (i+1) (uSt m i s)
def ir(a m:List Bool):List Bool×Bool:=Jl m (lz m) 0 (a,zf)
theorem cE(m:List Bool)(i:Nat)(s:List Bool×Bool):lz (uSt m i s).1=lz s.1:=by unfold uSt;split<;>simp
theorem Zc(m:List Bool):∀(n i:Nat)(s:List Bool×Bool),lz (Jl m n i s).1=lz s.1
 |0,_,_=>rfl
 |n+1,i,s=>by rw[Jl,Zc,cE]
theorem ns(a m:List Bool):lz (ir a m).1=lz a:=Zc m _ _ _
theorem D9{l:List Bool}{i:Nat}(h:i<lz l):(bools l)[i]?=zs (.bool (l.getD i zf)):=by simp[bools,h]
section
variable {put:List AV->List PO}{id j:Nat}{m:List Bool}{fr:PF}{ext i:Nat}{tch:List Nat}
theorem YF(L:si put id 1)(U:∀x,cd (put x) 6 j=zs (0,bools m,1)){a:List Bool}{g:Bool}(ha:lz a=lz m)(h0:FR fr 0=.msl id 0 (lz m) 1)(I:FR fr 4=.bool g)(G:FR fr 7=.msl j 0 (lz m) 1)(H:FR fr 8=.int .i64 (lz m:Int))(V:FR fr 9=.int .i64 (i:Int))(hi:i<lz m)(hs:lz m<=cp):
 ∃fr' J,evP ⟨A0,T,A2⟩ (.code Yz fr ⟨put (bools a),ext,tch⟩)=zs (.ok .normal fr' ⟨put (bools (uSt m i (a,g)).1),ext,J⟩)/\FR fr' 0=.msl id 0 (lz m) 1/\FR fr' 4=.bool (uSt m i (a,g)).2/\FR fr' 7=.msl j 0 (lz m) 1/\FR fr' 8=.int .i64 (lz m:Int)/\FR fr' 9=.int .i64 ((i+1:Nat):Int):=by
 unfold Yz uSt;have C:decide ((i:Int)<(lz m:Int))=zt:=by simp[hi]
 have X:=A8 (i:=i) (by simp only[cp]at hs;omega);have N:=D9 hi;have Q:=D9 (l:=a) (i:=i) (by omega);have D:i<lz a:=by omega
 have Y:(bools a).set i (.bool zt)=bools (a.set i zt):=by unfold bools;rw[zqm]
 cases e1:m.getD i zf with
 |false=>
  rw[if_neg (fun h=>by cases h.1)];rw[e1]at N;simp only[h0,I,G,H,V,C,X,N,Q,U,L.row,sx,hi,D,XP,seval];exact⟨_,_,rfl,by simp only[h0,XP,seval],by simp only[I,XP,seval],by simp only[G,XP,seval],by simp only[H,XP,seval],by simp only[XP,seval]⟩
 |true=>
  rw[e1]at N;cases e2:a.getD i zf with
  |true=>
   rw[if_neg (fun h=>by cases h.2)];rw[e2]at Q;simp only[h0,I,G,H,V,C,X,N,Q,U,L.row,sx,hi,D,XP,seval];exact⟨_,_,rfl,by simp only[h0,XP,seval],by simp only[I,XP,seval],by simp only[G,XP,seval],by simp only[H,XP,seval],by simp only[XP,seval]⟩
  |false=>
   rw[if_pos ⟨rfl,rfl⟩];rw[e2]at Q;simp only[h0,I,G,H,V,C,X,N,Q,U,L.row,L.set,L.raw,sx,hi,D,Y,XP,seval];exact⟨_,_,rfl,by simp only[h0,XP,seval],by simp only[XP,seval],by simp only[G,XP,seval],by simp only[H,XP,seval],by simp only[XP,seval]⟩
theorem YG{K:PK}(D:FR fr 8=.int .i64 (lz m:Int))(G:FR fr 9=.int .i64 (lz m:Int)):∃fr',evP ⟨A0,T,A2⟩ (.code Yz fr K)=zs (.ok (.exit 0) fr' K)/\FR fr' 4=FR fr 4:=by
 unfold Yz;have C:decide ((lz m:Int)<(lz m:Int))=zf:=by simp
 simp only[D,G,C,XP,seval];exact⟨_,rfl,by simp only[XP,seval]⟩
theorem KC(L:si put id 1)(I:∀x,cd (put x) 6 j=zs (0,bools m,1))(J:lz m<=cp):∀(n i:Nat)(a:List Bool)(g:Bool)(fr:PF)(tch:List Nat),lz m=i+n->lz a=lz m->FR fr 0=.msl id 0 (lz m) 1->FR fr 4=.bool g->FR fr 7=.msl j 0 (lz m) 1->FR fr 8=.int .i64 (lz m:Int)->FR fr 9=.int .i64 (i:Int) ->
 ∃fr' C,evP ⟨A0,T,A2⟩ (.code (.loop Yz) fr ⟨put (bools a),ext,tch⟩)=zs (.ok (.exit 0) fr' ⟨put (bools (Jl m n i (a,g)).1),ext,C⟩)/\FR fr' 4=.bool (Jl m n i (a,g)).2
 |0,i,a,g,fr,tch,e,ha,h0,h4,h7,h8,h9=>by
  obtain rfl:i=lz m:=by omega
  obtain⟨fr',h,G⟩:=YG (T:=T) (K:=⟨put (bools a),ext,tch⟩) h8 h9;exact⟨fr',tch,B4 h,G.trans h4⟩
 |n+1,i,a,g,fr,tch,e,ha,h0,h4,h7,h8,h9=>by
  obtain⟨H,D,h,N,Q,U,V,X⟩:=YF (T:=T) (ext:=ext) (tch:=tch) L I ha h0 h4 h7 h8 h9 (by omega) J;obtain⟨fr',C,h',G⟩:=KC L I J n (i+1) (uSt m i (a,g)).1 (uSt m i (a,g)).2 H D (by omega) ((cE m i (a,g)).trans ha) N Q U V X;exact⟨fr',C,(B0 h).trans h',G⟩
theorem Um(D:T 49=zn)(L:si put id 1)(G:∀x,cd (put x) 6 j=zs (0,bools m,1))(H:lz m<=cp){a:List Bool}(ha:lz a=lz m):
 ∃C,evP ⟨A0,T,A2⟩ (.call 49 [.msl id 0 (lz m) 1,.msl j 0 (lz m) 1] ⟨put (bools a),ext,tch⟩)=zs (.val [.bool (ir a m).2] ⟨put (bools (ir a m).1),ext,C⟩):=by
 obtain⟨fr',C,I,J⟩:=KC (T:=T) (ext:=lz (put (bools a))) L G H (lz m) 0 a zf [(9,.int .i64 0),(8,.int .i64 (lz m:Int)),(7,.msl j 0 (lz m) 1),(4,.bool zf),(0,.msl id 0 (lz m) 1),(1,.msl j 0 (lz m) 1)] [] (by omega) ha (by simp only[XP,zsA,zsS,zsL,zsD,zsE,zsM,↓reduceIte]) (by simp only[XP,zsA,zsS,zsL,zsD,zsE,zsM,↓reduceIte]) (by simp only[XP,zsA,zsS,zsL,zsD,zsE,zsM,↓reduceIte]) (by simp only[XP,zsA,zsS,zsL,zsD,zsE,zsM,↓reduceIte]) (by simp only[XP,zsA,zsS,zsL,zsD,zsE,zsM,↓reduceIte];rfl);refine⟨C++tch,?_⟩;rw[g9 D rfl,A7 (c:=OL) (nt:=27) (rs:=[.tmp 4]) rfl (by simp)];unfold OL;simp only[I,J,XP,zsA,zsS,zsL,zsD,zsE,zsM,↓reduceIte];rfl
end
section
variable {c:Cod}{i n:Nat}
abbrev tab(A:List (List Bool)):List AV:=A.map fun r=>di 0 1 (bools r)
abbrev gv(n:Nat):List Bool:=zqs n zf
theorem Rs(l c:Operand)(fr:PF)(K:PK):gx A0 (.makeSlice 38 l c) fr K=Zp A0 Mh (dj A0 l fr) (dj A0 c fr) K:=rfl
theorem xL{k k':IntKind}{n:Nat}{K:PK}(h:n*1<=140737488355328):Zp A0 Mh (.int k (n:Int)) (.int k' (n:Int)) K=.val (.msl (lz K.os) 0 n 1) ⟨K.os++[.row 0 (bools (gv n)) 1],K.ext,K.tch⟩:=by
 have e:bools (gv n)=zqs n (AV.bool zf):=by simp[bools,gv]
 rw[e];show(match zs ty4,zs n,zs n with|some te,zs n,zs m=>(if n<=m/\m*te.bytes<=140737488355328/\0<te.size then OpS.val (.msl (lz K.os) 0 n te.size) (AM.newRow 0 (zqs n te.zero) te.size K)else .bad)|_,_,_=>.bad)=_
 exact if_pos ⟨zkg _,h,by decide⟩
theorem Rt(a b d e:Nat):My (.msl a b d e)=zf:=rfl
theorem Ru:My .x0a=zf:=rfl
theorem cG(n:Nat):lz (bools (gv n))=n:=by simp[bools,gv]
theorem KD(hi:0<c.blocks.length)(hr:c.x0g.length*8<=cp):evP ⟨A0,T,A2⟩ (.code Qc [(1,.ptr 0 0 0),(2,.ptr 1 0 0),(3,.ptr 2 0 0),(11,.int .i64 (c.blocks.length:Int)),(12,.int .i64 0)] ⟨[.row 1 [c.F] 5,.row 1 [.x0a] 1,.row 1 [.x0a] 1],0,[]⟩)=zs (.ok .normal [(1,.ptr 0 0 0),(2,.ptr 1 0 0),(3,.ptr 2 0 0),(11,.int .i64 (c.blocks.length:Int)),(12,.int .i64 1)] ⟨[.row 1 [c.F] 5,.row 1 [.msl 3 0 1 1] 1,.row 1 [.msl 4 0 1 1] 1,.row 0 (tab [gv c.x0g.length]) 1,.row 0 (tab [gv c.x0g.length]) 1],0,[]⟩):=by
 unfold Qc;have hlt:decide ((0:Int)<(c.blocks.length:Int))=zt:=by simp;omega
 have hw:IntKind.i64.wrap (0+1)=1:=by decide
 have hm:c.x0g.length*1<=140737488355328:=by simp only[cp]at hr;omega
 unfold Cod.F;simp -implicitDefEqProofs only[hlt,hw,zqa,hm,Rs,xL,Rt,Ru,cG,zqi,XP,seval];rfl
theorem KE{A:List (List Bool)}(hA:A.length=i)(hi:i<c.blocks.length)(hr:c.x0g.length*8<=cp)(hb:c.blocks.length*56<=cp):evP ⟨A0,T,A2⟩ (.code Qc [(1,.ptr 0 0 0),(2,.ptr 1 0 0),(3,.ptr 2 0 0),(11,.int .i64 (c.blocks.length:Int)),(12,.int .i64 ((i:Nat):Int))] ⟨[.row 1 [c.F] 5,.row 1 [.msl 3 0 i 1] 1,.row 1 [.msl 4 0 i 1] 1,.row 0 (tab A) 1,.row 0 (tab A) 1],0,[]⟩)=zs (.ok .normal [(1,.ptr 0 0 0),(2,.ptr 1 0 0),(3,.ptr 2 0 0),(11,.int .i64 (c.blocks.length:Int)),(12,.int .i64 ((i+1:Nat):Int))] ⟨[.row 1 [c.F] 5,.row 1 [.msl 3 0 (i+1) 1] 1,.row 1 [.msl 4 0 (i+1) 1] 1,.row 0 (tab (A++[gv c.x0g.length])) 1,.row 0 (tab (A++[gv c.x0g.length])) 1],0,[]⟩):=by
 unfold Qc;have hlt:decide ((i:Int)<(c.blocks.length:Int))=zt:=by simp;omega
 have hw:=A8 (i:=i) (by simp only[cp]at hb;omega);have hm:c.x0g.length*1<=140737488355328:=by simp only[cp]at hr;omega
 have hz:(i+1)*24<=140737488355328:=by simp only[cp]at hb;omega
 have ht:(tab A).take i=tab A:=zqn (by simp[hA]);unfold Cod.F;simp -implicitDefEqProofs only[hlt,hw,zqa,hm,Rs,xL,Rt,Ru,cG,zqi,hA,ht,hz,XP,seval];simp
end
theorem Rv{α:Type}{l:List α}{i:Nat}{v:α}(h:i<lz l):(l.set i v)[i]?=zs v:=List.getElem?_set_self h
theorem fM{α:Type}{l:List α}{i:Nat}{v:α}(h:l[i]?=zs v):l.set i v=l:=by
 obtain⟨hi,rfl⟩:=List.getElem?_eq_some_iff.1 h;exact List.set_getElem_self hi
theorem C8:zqf 3=[0,1,2]:=rfl
theorem C9:zqf 4=[0,1,2,3]:=rfl
theorem D1:zqf 5=[0,1,2,3,4]:=rfl
theorem D2:zqf 6=[0,1,2,3,4,5]:=rfl
theorem D3:zqf 7=[0,1,2,3,4,5,6]:=rfl
theorem D4:zqf 8=[0,1,2,3,4,5,6,7]:=rfl
theorem Q8:zqf 9=[0,1,2,3,4,5,6,7,8]:=rfl
theorem H2:zqf 10=[0,1,2,3,4,5,6,7,8,9]:=rfl
theorem H3:zqf 11=[0,1,2,3,4,5,6,7,8,9,10]:=rfl
theorem H4:zqf 12=[0,1,2,3,4,5,6,7,8,9,10,11]:=rfl
theorem H5:zqf 13=[0,1,2,3,4,5,6,7,8,9,10,11,12]:=rfl
theorem H6:zqf 14=[0,1,2,3,4,5,6,7,8,9,10,11,12,13]:=rfl
theorem H7:zqf 15=[0,1,2,3,4,5,6,7,8,9,10,11,12,13,14]:=rfl
def jz(e:jy):List Int:=if e.kind=1 then [e.to]else if e.kind=2 then [e.to,e.x0h]else []
theorem Un  {e:jy}:AM.eo ⟨A0,T,A2⟩ 48 [e.F] [di 0 1 (ints (jz e))]:=by
 by_cases e1:e.kind=1
 . rw[show jz e=[e.to] by simp[jz,e1]]
   refine⟨[.msl 0 0 1 1],⟨[.row 0 [.int .i64 e.to] 1],0,[]⟩,?_,F3 (.inr ⟨rfl,rfl⟩)⟩;rw[A7 (c:=AJ) (nt:=17) (rs:=[.tmp 2]) rfl (by simp)];unfold AJ;unfold K0 jy.F;simp only[eq_true e1,XP,seval]
 by_cases e2:e.kind=2
 . rw[show jz e=[e.to,e.x0h] by simp[jz,e2]]
   refine⟨[.msl 0 0 2 1],⟨[.row 0 [.int .i64 e.to,.int .i64 e.x0h] 1],0,[]⟩,?_,F3 (.inr ⟨rfl,rfl⟩)⟩;rw[A7 (c:=AJ) (nt:=17) (rs:=[.tmp 2]) rfl (by simp)];unfold AJ;unfold K0 jy.F;simp only[e1,eq_true e2,XP,seval]
 . rw[show jz e=[] by simp[jz,e1,e2]]
   refine⟨[.x0a],⟨[],0,[]⟩,?_,F3 (.inl ⟨rfl,rfl,rfl⟩)⟩;rw[A7 (c:=AJ) (nt:=17) (rs:=[.tmp 2]) rfl (by simp)];unfold AJ;unfold K0 jy.F;simp only[e1,e2,XP,seval]
def U5:=Ck (fun p:(jy)=>[p.F]) (fun p=>[di 0 1 (ints (jz p))]) (fun p=>True)
theorem pM(C:T 48=zs U5){e:jy}{K:PK}:evP ⟨A0,T,A2⟩ (.call 48 [e.F] K)=zs (.val (W2 (lz K.os) [di 0 1 (ints (jz e))]).1 ⟨K.os++(W2 (lz K.os) [di 0 1 (ints (jz e))]).2,K.ext,K.tch⟩):=E6 C (by simp only[VV,XP,seval]) (F2 (a:=fun p:(jy)=>[p.F]) (r:=fun p=>[di 0 1 (ints (jz p))]) (fun x y e=>by simp only[VJ]at e;simp only[e]) (e) trivial) (by simp only[VN,XP,seval])
theorem fN  (C:ep ⟨A0,T,A2⟩):TC A0 48 U5:=F9 C fun p h=>Un
section
variable {c:Cod}{b:Blk}{A B:List (List Bool)}{i j at_ t n:Nat}{g:Bool}{L:List Int}{tch:List Nat}
theorem K6{A:List (List Bool)}{i:Nat}(h:i<lz A):(tab A)[i]?=zs (di 0 1 (bools (A.getD i []))):=by simp[tab,h]
theorem a8{A:List (List Bool)}{i:Nat}{x:List Bool}:(tab A).set i (di 0 1 (bools x))=tab (A.set i x):=by simp[tab,zqm]
theorem De{k sz o:Nat}{es:List AV}{c:AV}:od (di k sz es) o c=c:=rfl
def Uo(c:Cod)(g:Bool)(A B:List (List Bool))(b:Blk)(L:List Int)(at_ t:Nat)(x:List AV):List PO:=[.row 1 [c.F] 5,.row 1 [.msl 4 0 (lz c.blocks) 1] 1,.row 1 [.msl 5 0 (lz c.blocks) 1] 1,.row 1 [.bool g] 1,.row 0 (tab A) 1,.row 0 ((tab B).set at_ (di 0 1 x)) 1,.row 1 [Vx (c.blocks.map Blk.F)] 1,.row 1 [b.F] 5,.row 0 (ints L) 1,.sub 5 at_ 0,.sub 4 t 0]
theorem xM(hb:at_<lz B):si (Uo c g A B b L at_ t) 9 1:=by
 have C:at_<lz (tab B):=by simp[tab,hb]
 refine⟨fun es=>?_,fun es es'=>?_,fun es=>?_⟩
 . unfold Uo
   simp only[Rv C,XP,seval]
 . unfold Uo
   simp only[Rv C,List.set_set,De,XP,seval]
 . rfl
theorem EE(hN:T 49=zn)(I:j<lz L)(hL:L[j]=(t:Int))(ht:t<lz A)(hA:lz A=lz c.blocks)(hB:lz B=lz c.blocks)(D:at_<lz B)(G:lz (A.getD t [])=n)(J:lz (B.getD at_ [])=n)(hs:n<=cp)(hsL:lz L<=2):
 ∃C,evP ⟨A0,T,A2⟩ (.code Yu [(2,.ptr 1 0 0),(3,.ptr 2 0 0),(4,.ptr 3 0 0),(5,.int .i64 (at_:Int)),(6,.ptr 7 0 0),(37,.msl 8 0 (lz L) 1),(38,.int .i64 (lz L:Int)),(39,.int .i64 (j:Int))] ⟨[.row 1 [c.F] 5,.row 1 [.msl 4 0 (lz c.blocks) 1] 1,.row 1 [.msl 5 0 (lz c.blocks) 1] 1,.row 1 [.bool g] 1,.row 0 (tab A) 1,.row 0 (tab B) 1,.row 1 [Vx (c.blocks.map Blk.F)] 1,.row 1 [b.F] 5,.row 0 (ints L) 1],7,tch⟩)=zs (.ok .normal [(2,.ptr 1 0 0),(3,.ptr 2 0 0),(4,.ptr 3 0 0),(5,.int .i64 (at_:Int)),(6,.ptr 7 0 0),(37,.msl 8 0 (lz L) 1),(38,.int .i64 (lz L:Int)),(39,.int .i64 ((j+1:Nat):Int))] ⟨[.row 1 [c.F] 5,.row 1 [.msl 4 0 (lz c.blocks) 1] 1,.row 1 [.msl 5 0 (lz c.blocks) 1] 1,.row 1 [.bool g] 1,.row 0 (tab A) 1,.row 0 (tab (B.set at_ (ir (B.getD at_ []) (A.getD t [])).1)) 1,.row 1 [Vx (c.blocks.map Blk.F)] 1,.row 1 [b.F] 5,.row 0 (ints L) 1],7,C⟩):=by
 unfold Yu;have N:decide ((j:Int)<(lz L:Int))=zt:=by simp[I]
 have hw:=A8 (i:=j) (by omega);have V:=C6 I;rw[hL]at V;have X:=K6 ht;have Y:=K6 D;have e3:(tab B).set at_ (di 0 1 (bools (B.getD at_ [])))=tab B:=fM Y;have Q:t<lz c.blocks:=by omega
 have U:at_<lz c.blocks:=by omega
 obtain⟨C,H⟩:=Um (T:=T) (ext:=7) (tch:=tch) (m:=A.getD t []) (a:=B.getD at_ []) (j:=10) hN (xM (c:=c) (g:=g) (A:=A) (B:=B) (b:=b) (L:=L) (at_:=at_) (t:=t) D) (fun x=>by unfold Uo;simp only[X,XP,seval]) (by omega) (by omega);unfold Uo at H;rw[e3,a8,G]at H;simp only[Cod.F,Blk.F]at H|-;simp only[N,hw,V,X,Y,I,Q,U,G,J,H,zqa,C8,C9,D1,D2,D3,D4,Q8,H2,H3,H4,H5,H6,H7,XP,seval];exact⟨_,rfl⟩
end
def Kd(w:List Bool)(r:Int):List Bool:=w.set r.toNat zt
def V8(w:List Bool)(x:Ins):List Bool:=(ci x).foldl Kd (if 0<=ch x then w.set (ch x).toNat zf else w)
theorem pN(rs:List Int):∀w:List Bool,lz (rs.foldl Kd w)=lz w:=by
 induction rs with
 |nil=>intro w;rfl
 |cons r rs C=>intro w;rw[zqr,C];simp[Kd]
theorem Bv(w:List Bool)(x:Ins):lz (V8 w x)=lz w:=by
 unfold V8;rw[pN];split<;>simp
section
variable {put:List AV->List PO}{id bx rid n j r:Nat}{rs:List Int}{fr:PF}{ext:Nat}{tch:List Nat}{w:List Bool}
theorem YH(L:si put id 1)(G:∀x,cg (put x) 6 id=id)(H:∀x,cd (put x) 6 bx=zs (1,[.msl id 0 n 1],1))(I:∀x,cd (put x) 6 rid=zs (0,ints rs,1))(hw:lz w=n)(Y:FR fr 7=.ptr bx 0 0)(C:FR fr 47=.msl rid 0 (lz rs) 1)(D:FR fr 48=.int .i64 (lz rs:Int))(J:FR fr 49=.int .i64 (j:Int))(N:j<lz rs)(hr:rs[j]=(r:Int))(Q:r<n)(hs:lz rs<=cp):
 ∃fr',evP ⟨A0,T,A2⟩ (.code Fi fr ⟨put (bools w),ext,tch⟩)=zs (.ok .normal fr' ⟨put (bools (w.set r zt)),ext,id::tch⟩)/\FR fr' 7=.ptr bx 0 0/\FR fr' 47=.msl rid 0 (lz rs) 1/\FR fr' 48=.int .i64 (lz rs:Int)/\FR fr' 49=.int .i64 ((j+1:Nat):Int):=by
 unfold Fi;have U:decide ((j:Int)<(lz rs:Int))=zt:=by simp[N]
 have V:=A8 (i:=j) (by simp only[cp]at hs;omega);have h1:=C6 N;rw[hr]at h1;have h2:=D9 (l:=w) (i:=r) (by omega);have X:(bools w).set r (.bool zt)=bools (w.set r zt):=by unfold bools;rw[zqm]
 simp only[Y,C,D,J,U,V,h1,h2,Q,N,H,I,G,L.row,L.set,L.raw,X,XP,seval];exact⟨_,rfl,by simp only[Y,XP,seval],by simp only[C,XP,seval],by simp only[D,XP,seval],by simp only[XP,seval]⟩
theorem YI{K:PK}(C:FR fr 48=.int .i64 (lz rs:Int))(D:FR fr 49=.int .i64 (lz rs:Int)):∃fr',evP ⟨A0,T,A2⟩ (.code Fi fr K)=zs (.ok (.exit 2) fr' K):=by
 unfold Fi;have G:decide ((lz rs:Int)<(lz rs:Int))=zf:=by simp
 simp only[C,D,G,XP,seval];exact⟨_,rfl⟩
theorem KF(L:si put id 1)(D:∀x,cg (put x) 6 id=id)(G:∀x,cd (put x) 6 bx=zs (1,[.msl id 0 n 1],1))(H:∀x,cd (put x) 6 rid=zs (0,ints rs,1))(Y:lz rs<=cp)(I:∀r∈rs,0<=r/\r<(n:Int)):∀(k j:Nat)(w:List Bool)(fr:PF)(tch:List Nat),lz rs=j+k->lz w=n->FR fr 7=.ptr bx 0 0->FR fr 47=.msl rid 0 (lz rs) 1->FR fr 48=.int .i64 (lz rs:Int)->FR fr 49=.int .i64 (j:Int) ->
 ∃fr' C,evP ⟨A0,T,A2⟩ (.code (.loop Fi) fr ⟨put (bools w),ext,tch⟩)=zs (.ok (.exit 2) fr' ⟨put (bools ((rs.drop j).foldl Kd w)),ext,C⟩)/\∀y∈C,y∈tch\/y=id
 |0,j,w,fr,tch,e,hw,h7,h47,h48,h49=>by
  obtain rfl:j=lz rs:=by omega
  obtain⟨fr',h⟩:=YI (T:=T) (K:=⟨put (bools w),ext,tch⟩) h48 h49;exact⟨fr',tch,by rw[zqk];exact B4 h,fun y J=>.inl J⟩
 |k + 1,j,w,fr,tch,e,hw,h7,h47,h48,h49=>by
  have N:j<lz rs:=by omega
  obtain⟨h0,h1⟩:=I _ (zqe N);obtain⟨r,hr⟩:=zkf h0;obtain⟨Q,h,k7,U,V,X⟩:=YH (T:=T) (ext:=ext) (tch:=tch) L D G H hw h7 h47 h48 h49 N hr (by omega) Y;obtain⟨fr',C,h',ht⟩:=KF L D G H Y I k (j+1) (w.set r zt) Q (id::tch) (by omega) (by simpa using hw) k7 U V X;refine⟨fr',C,?_,fun y J=>?_⟩
  . rw[zql N,zqr,show Kd w rs[j]=w.set r zt by rw[hr];rfl]
    exact(B0 h).trans h'
  . rcases ht y J with h|h
    . rcases zqj.1 h with h|h
      . exact .inr h
      . exact .inl h
    . exact .inr h
theorem EF(L:si put id 1)(G:∀x,cg (put x) 6 id=id)(H:∀x,cd (put x) 6 bx=zs (1,[.msl id 0 n 1],1))(I:∀x,cd (put x) 6 rid=zs (0,ints rs,1))(N:lz rs<=cp)(J:∀r∈rs,0<=r/\r<(n:Int))(Q:lz w=n):
 ∃(U:PF->List Nat->PF)(TC:PF->List Nat->List Nat),∀(fr:PF)(tch:List Nat),FR fr 7=.ptr bx 0 0->FR fr 47=.msl rid 0 (lz rs) 1->FR fr 48=.int .i64 (lz rs:Int)->FR fr 49=.int .i64 0 ->
 evP ⟨A0,T,A2⟩ (.code (.loop Fi) fr ⟨put (bools w),ext,tch⟩)=zs (.ok (.exit 2) (U fr tch) ⟨put (bools (rs.foldl Kd w)),ext,TC fr tch⟩)/\∀y∈TC fr tch,y∈tch\/y=id:=by
 have C:∀x:PF×List Nat,∃y:PF×List Nat,FR x.1 7=.ptr bx 0 0->FR x.1 47=.msl rid 0 (lz rs) 1->FR x.1 48=.int .i64 (lz rs:Int)->FR x.1 49=.int .i64 0 ->
  evP ⟨A0,T,A2⟩ (.code (.loop Fi) x.1 ⟨put (bools w),ext,x.2⟩)=zs (.ok (.exit 2) y.1 ⟨put (bools (rs.foldl Kd w)),ext,y.2⟩)/\∀z∈y.2,z∈x.2\/z=id:=fun x=>by
  by_cases h:FR x.1 7=.ptr bx 0 0/\FR x.1 47=.msl rid 0 (lz rs) 1/\FR x.1 48=.int .i64 (lz rs:Int)/\FR x.1 49=.int .i64 0
  . obtain⟨fr',D,V,X⟩:=KF (T:=T) (ext:=ext) L G H I N J (lz rs) 0 w x.1 x.2 (by omega) Q h.1 h.2.1 h.2.2.1 h.2.2.2
    exact⟨(fr',D),fun _ _ _ _=>⟨V,X⟩⟩
  . exact⟨([],[]),fun a b c d=>absurd ⟨a,b,c,d⟩ h⟩
 exact⟨fun fr tch=>(C (fr,tch)).choose.1,fun fr tch=>(C (fr,tch)).choose.2,fun fr tch=>(C (fr,tch)).choose_spec⟩
end
theorem YJ(C:T 50=zn){x:Ins}{v:AV}{K:PK}:evP ⟨A0,T,A2⟩ (.call 50 [x.F,v] K)=zs (.val [] ⟨K.os++[.row 1 [x.F] 8],K.ext,K.tch⟩):=by
 rw[g9 C rfl,A7 (c:=OM) (nt:=4) (rs:=[]) rfl (by simp)];unfold OM;simp only[Ins.F];simp only[XP,seval]
theorem Oi(x:Ins):lz (ci x)<=lz x.args+2:=by
 unfold ci
 repeat (split;· simp)
 simp
section
variable {c:Cod}{b:Blk}{A B:List (List Bool)}{at_ n k:Nat}{g:Bool}{tch:List Nat}{w:List Bool}{x:Ins}{fr:PF}
def g0(c:Cod)(g:Bool)(A B:List (List Bool))(b:Blk)(at_ n:Nat)(ps:List PO)(w:List AV):List PO:=[.row 1 [c.F] 5,.row 1 [.msl 4 0 (lz c.blocks) 1] 1,.row 1 [.msl 5 0 (lz c.blocks) 1] 1,.row 1 [.bool g] 1,.row 0 (tab A) 1,.row 0 (tab B) 1,.row 1 [Vx (c.blocks.map Blk.F)] 1,.row 1 [b.F] 5,.sub 5 at_ 0,.row 1 [b.F] 5,.row 1 [.fn (.func 50) [] []] 1,.row 0 w 1,.row 1 [.msl 11 0 n 1] 1,.row 1 [Vx (b.code.map Ins.F)] 1]++ps
theorem EG{ps:List PO}:si (g0 c g A B b at_ n ps) 11 1:=⟨fun es=>rfl,fun es es'=>rfl,fun es=>rfl⟩
theorem YK(hS:T 50=zn)(hW:T 32=zs B7)(hR:T 53=zs C7)(hk:x.ok)(hw:lz w=n)(hs:n<=cp)(hwr:ch x<n)(V:∀r∈ci x,0<=r/\r<(n:Int))(h5:FR fr 5=.ptr 10 0 0)(N:FR fr 7=.ptr 12 0 0):
 ∃X G,evP ⟨A0,T,A2⟩ (.round ⟨[33,34],t8,t7,fr⟩ [.int .i64 (k:Int),x.F] ⟨g0 c g A B b at_ n [] (bools w),14,[]⟩)=zs (.ok .normal X ⟨g0 c g A B b at_ n [] (bools (V8 w x)),14,G⟩)/\∀y∈G,9<=y:=by
 rw[Sc rfl];unfold t8 t7;have Q:=fun K=>YJ (T:=T) (x:=x) (v:=.msl 11 0 n 1) (K:=K) hS
 have J:=fun K=>l8 (K:=K) (x:=x) hW
 have U:=fun K=>Hb (K:=K) (x:=x) hR hk
 have ab:lz (ci x)<=cp:=by
  have:=Oi x
  have h2:lz x.args*8<=cp:=hk;simp only[cp]at h2|-;omega
 have go:∀w':List Bool,lz w'=n->∃(Y:PF->List Nat->PF)(TC:PF->List Nat->List Nat),∀(fr:PF)(tch:List Nat),FR fr 7=.ptr 12 0 0->FR fr 47=.msl 16 0 (lz (ci x)) 1->FR fr 48=.int .i64 (lz (ci x):Int)->FR fr 49=.int .i64 0 ->
  evP ⟨A0,T,A2⟩ (.code (.loop Fi) fr ⟨g0 c g A B b at_ n [.row 1 [x.F] 8,.row 1 [x.F] 8,.row 0 (ints (ci x)) 1] (bools w'),14,tch⟩)=zs (.ok (.exit 2) (Y fr tch) ⟨g0 c g A B b at_ n [.row 1 [x.F] 8,.row 1 [x.F] 8,.row 0 (ints (ci x)) 1] (bools ((ci x).foldl Kd w')),14,TC fr tch⟩)/\∀y∈TC fr tch,y∈tch\/y=11:=fun w' aa=>EF EG (fun _=>rfl) (fun _=>rfl) (fun _=>rfl) ab V aa
 by_cases h0:0<=ch x
 . obtain⟨d,hd⟩:=zkf h0
   have ac:d<n:=by omega
   obtain⟨Y,TC,hl⟩:=go (w.set d zf) (by simpa using hw);have es:V8 w x=(ci x).foldl Kd (w.set d zf):=by unfold V8;rw[if_pos h0,hd];rfl
   have hg:=D9 (l:=w) (i:=d) (by omega);have ad:(bools w).set d (.bool zf)=bools (w.set d zf):=by unfold bools;rw[zqm]
   have C:=fun fr tch a b c d=>(hl fr tch a b c d).1
   have I:=fun fr tch a b c d=>(hl fr tch a b c d).2
   rw[es];unfold g0 at C|-;have D:decide (0<=(d:Int))=zt:=by simp
   simp only[hd]at J;simp only[Cod.F,Blk.F,Ins.F,zqb,zqc]at Q J U C|-;simp only[X8,m2,Kv,h5,N,Q,J,U,D,ac,hg,ad,C,C8,C9,D1,D2,D3,D4,Q8,H2,H3,H4,H5,H6,H7,zqa,XP,seval];refine⟨_,_,rfl,fun y H=>?_⟩;have H:=(zkb.1 H).1;rcases I _ _ (by simp only[N,XP,seval]) (by simp only[XP,seval]) (by simp only[XP,seval]) (by simp only[XP,seval]) y H with h|h
   . simp only[zqj,zqo,or_false]at h;omega
   . omega
 . obtain⟨Y,TC,hl⟩:=go w hw
   have es:V8 w x=(ci x).foldl Kd w:=by unfold V8;rw[if_neg h0]
   have C:=fun fr tch a b c d=>(hl fr tch a b c d).1
   have I:=fun fr tch a b c d=>(hl fr tch a b c d).2
   rw[es];unfold g0 at C|-;have D:decide (0<=ch x)=zf:=by simp[h0]
   simp only[Cod.F,Blk.F,Ins.F,zqb,zqc]at Q J U C|-;simp only[X8,m2,Kv,h5,N,Q,J,U,D,C,C8,C9,D1,D2,D3,D4,Q8,H2,H3,H4,H5,H6,H7,zqa,XP,seval];refine⟨_,_,rfl,fun y H=>?_⟩;have H:=(zkb.1 H).1;rcases I _ _ (by simp only[N,XP,seval]) (by simp only[XP,seval]) (by simp only[XP,seval]) (by simp only[XP,seval]) y H with h|h
   . simp only[zqj,zqo,or_false]at h;omega
   . omega
end
def xN(l:List Ins):Nat->List Bool->List Bool
 |0,w=>w
 |k+1,w=>xN l k (match l[k]? with|some x=>V8 w x|none=>w)
def na(b:Blk)(w:List Bool):List Bool:=if b.e.kind≠1/\0<=b.e.a then w.set b.e.a.toNat zt else w
def mt(b:Blk)(w:List Bool):List Bool:=xN b.code (lz b.code) (na b w)
theorem mT(l:List Ins):∀(k:Nat)(w:List Bool),lz (xN l k w)=lz w
 |0,w=>rfl
 |k+1,w=>by
  rw[xN,mT];cases l[k]? with
  |none=>rfl
  |some x=>exact Bv w x
theorem Fu(b:Blk)(w:List Bool):lz (na b w)=lz w:=by unfold na;split<;>simp
theorem Zd(b:Blk)(w:List Bool):lz (mt b w)=lz w:=(mT _ _ _).trans (Fu b w)
structure WOk(n:Nat)(b:Blk):Prop where
 sz:lz b.code*88<=cp
 ln:lz b.code<=3000000000000
 ok:∀x∈b.code,x.ok
 wr:∀x∈b.code,ch x<n
 rd:∀x∈b.code,∀r∈ci x,0<=r/\r<(n:Int)
 ea:b.e.kind≠1->b.e.a<n
theorem Up(C:T 52=zn){l:List Ins}{K:PK}:evP ⟨A0,T,A2⟩ (.call 52 [Vx (l.map Ins.F)] K)=zs (.val [.fn (.func 67) [] [.ptr (lz K.os) 0 0]] ⟨K.os++[.row 1 [Vx (l.map Ins.F)] 1],K.ext,K.tch⟩):=by
 rw[g9 C rfl,A7 (c:=ON) (nt:=4) (rs:=[.tmp 2]) rfl (by simp)];unfold ON;simp only[XP,seval]
section
variable {c:Cod}{b:Blk}{A B:List (List Bool)}{at_ n k ex:Nat}{g:Bool}{w:List Bool}{x:Ins}{fr:PF}
theorem YL(X:T 50=zn)(Y:T 32=zs B7)(hR:T 53=zs C7)(hb:WOk n b)(hs:n<=cp){w0:List Bool}(I:lz w0=n):
 ∃ TC:PF->List Nat->List Nat,∀(fr:PF)(tch:List Nat),FR fr 5=.ptr 10 0 0->FR fr 7=.ptr 12 0 0->FR fr 32=.fn (.func 67) [] [.ptr 13 0 0] ->
   evP ⟨A0,T,A2⟩ (.code (.rfn (.tmp 32) [33,34] t8 t7) fr ⟨g0 c g A B b at_ n [] (bools w0),ex,tch⟩)=zs (.ok .normal fr ⟨g0 c g A B b at_ n [] (bools (xN b.code (lz b.code) w0)),ex,TC fr tch++tch⟩)/\∀y∈TC fr tch,9<=y:=by
 have G:∀x:PF×List Nat,∃y:List Nat,FR x.1 5=.ptr 10 0 0->FR x.1 7=.ptr 12 0 0->FR x.1 32=.fn (.func 67) [] [.ptr 13 0 0] ->
  evP ⟨A0,T,A2⟩ (.code (.rfn (.tmp 32) [33,34] t8 t7) x.1 ⟨g0 c g A B b at_ n [] (bools w0),ex,x.2⟩)=zs (.ok .normal x.1 ⟨g0 c g A B b at_ n [] (bools (xN b.code (lz b.code) w0)),ex,y++x.2⟩)/\∀z∈y,9<=z:=fun x=>by
  by_cases h:FR x.1 5=.ptr 10 0 0/\FR x.1 7=.ptr 12 0 0/\FR x.1 32=.fn (.func 67) [] [.ptr 13 0 0]
  . obtain ⟨K',h1,w',C,rfl,Q,H,U⟩:=tL (T:=T) (l:=b.code) (f:=(b.code.map Ins.F).isEmpty) (fr:=x.1) (g:=.tmp 32) (ps:=[33,34]) (ca:=t8) (cb:=t7) (b:=13) (K:=⟨g0 c g A B b at_ n [] (bools w0),ex,x.2⟩)
     (Inv:=fun i K=>∃w tch,K=⟨g0 c g A B b at_ n [] (bools w),14,tch⟩/\lz w=n/\xN b.code i w=xN b.code (lz b.code) w0/\∀y∈tch,9<=y) hb.sz hb.ln h.2.2
     (fun i K _ J=>by obtain⟨w,tch,rfl,_⟩:=J;rfl)
     (fun i hi K J=>by
       obtain⟨w,tch,rfl,Q,H,U⟩:=J;have N:=zqe hi;obtain⟨V,C,h6,h7⟩:=YK (T:=T) (c:=c) (b:=b) (A:=A) (B:=B) (at_:=at_) (n:=n) (k:=i) (g:=g) (w:=w) (x:=b.code[i]) (fr:=x.1) X Y hR (hb.ok _ N) Q hs (hb.wr _ N) (hb.rd _ N) h.1 h.2.1;refine⟨V,_,h6,V8 w b.code[i],C++tch,rfl,(Bv _ _).trans Q,?_,fun y D=>?_⟩
       . rw[xN,zqh hi]at H;exact H
       . rcases zqt.1 D with D|D
         . exact h7 y D
         . exact U y D)
     ⟨w0,[],rfl,I,rfl,fun y D=>by cases D⟩
    exact⟨C,fun _ _ _=>⟨by rw[h1,<-H];rfl,U⟩⟩
  . exact⟨[],fun a b c=>absurd ⟨a,b,c⟩ h⟩
 exact⟨fun fr tch=>(G (fr,tch)).choose,fun fr tch=>(G (fr,tch)).choose_spec⟩
end
section
variable {c:Cod}{b:Blk}{A B:List (List Bool)}{at_ n k:Nat}{g:Bool}{w:List Bool}{tch:List Nat}
theorem kG(hN:T 30=zn)(J:T 52=zn)(hC:T 51=zs D6)(hS:T 50=zn)(hW:T 32=zs B7)(hR:T 53=zs C7)(hb:WOk n b)(hs:n<=cp)(hB:at_<lz B)(hl:lz (B.getD at_ [])=n):
 ∃G,evP ⟨A0,T,A2⟩ (.call 30 [b.F,.msl 8 0 n 1,.fn (.func 50) [] []] ⟨[.row 1 [c.F] 5,.row 1 [.msl 4 0 (lz c.blocks) 1] 1,.row 1 [.msl 5 0 (lz c.blocks) 1] 1,.row 1 [.bool g] 1,.row 0 (tab A) 1,.row 0 (tab B) 1,.row 1 [Vx (c.blocks.map Blk.F)] 1,.row 1 [b.F] 5,.sub 5 at_ 0],7,tch⟩)=zs (.val [.msl 11 0 n 1] ⟨g0 c g A B b at_ n [] (bools (mt b (B.getD at_ []))),7,G++tch⟩)/\∀y∈G,9<=y:=by
 have N:=K6 hB;have Q:∀os,cd os 6 8=zs (0,bools (B.getD at_ []),1)->gb os [.msl 8 0 n 1]=zs [Vx (bools (B.getD at_ []))]:=fun os h=>by
  have e:gh os (.msl 8 0 n 1)=zs (Vx (bools (B.getD at_ []))):=by
   show(match cd os 6 8 with|some (k,es,z)=>(if k=0/\1=z/\0+n<=lz es then(match frzL ((es.drop 0).take n)with|some es=>zs (Vx es)|none=>zn)else zn)|none=>zn)=_
   rw[h];dsimp only;rw[if_pos ⟨rfl,rfl,by rw[zqa];omega⟩,zqu,zqn (by rw[zqa];omega),ip]
  show gu (gh os (.msl 8 0 n 1)) (zs [])=_
  rw[e];rfl
 have tc:=fun K (h:gb K.os [.msl 8 0 n 1]=zs [Vx (bools (B.getD at_ []))])=>E6 (E:=A0) (F:=A2) (K:=K) hC h (y3 (by rw[hl];omega)) (by simp only[iq,XP,seval])
 have U:=fun K=>Up (K:=K) (l:=b.code) J
 obtain⟨TC,Y⟩:=YL (T:=T) (ex:=9) (c:=c) (b:=b) (A:=A) (B:=B) (at_:=at_) (n:=n) (g:=g) (w0:=na b (B.getD at_ [])) hS hW hR hb hs ((Fu _ _).trans hl);rw[g9 hN rfl,A7 (c:=AH) (nt:=58) (rs:=[.tmp 6]) rfl (by simp)];unfold AH mt;have C:=fun fr tch a b c=>(Y fr tch a b c).1
 have H:=fun fr tch a b c=>(Y fr tch a b c).2
 by_cases e1:b.e.kind=1
 . rw [show na b (B.getD at_ [])=B.getD at_ [] by unfold na;rw[if_neg (fun h=>h.1 e1)]]at C|-
   unfold g0 at C|-;simp only[Cod.F,Blk.F,zqb,zqc]at C|-;simp only[N,U,tc,Q,eq_true e1,C,hl,zqa,C8,C9,D1,D2,D3,D4,Q8,H2,H3,H4,H5,H6,H7,XP,seval];exact⟨_,rfl,fun y I=>by
    rcases zqt.1 I with h|h
    . exact H _ _ (by simp only[XP,seval]) (by simp only[XP,seval]) (by simp only[XP,seval]) y h
    . simp only[zqj,zqo,or_false]at h;omega⟩
 by_cases e2:0<=b.e.a
 . obtain ⟨d,hd⟩:=zkf e2
   have V:d<n:=by have:=hb.ea e1;omega
   have hg:=D9 (l:=B.getD at_ []) (i:=d) (by omega);have X:(bools (B.getD at_ [])).set d (.bool zt)=bools ((B.getD at_ []).set d zt):=by unfold bools;rw[zqm]
   rw[show na b (B.getD at_ [])=(B.getD at_ []).set d zt by unfold na;rw[if_pos ⟨e1,e2⟩,hd];rfl]at C|-;have D:decide (0<=(d:Int))=zt:=by simp
   unfold g0 at C|-;simp only[Cod.F,Blk.F,zqb,zqc,hd]at C|-;simp only[N,U,tc,Q,e1,D,V,hg,X,C,hl,zqa,C8,C9,D1,D2,D3,D4,Q8,H2,H3,H4,H5,H6,H7,XP,seval];exact⟨_,rfl,fun y I=>by
    rcases zqt.1 I with h|h
    . exact H _ _ (by simp only[XP,seval]) (by simp only[XP,seval]) (by simp only[XP,seval]) y h
    . simp only[zqj,zqo,or_false]at h;omega⟩
 . rw [show na b (B.getD at_ [])=B.getD at_ [] by unfold na;rw[if_neg (fun h=>e2 h.2)]]at C|-
   have D:decide (0<=b.e.a)=zf:=by simp[e2]
   unfold g0 at C|-;simp only[Cod.F,Blk.F,zqb,zqc]at C|-;simp only[N,U,tc,Q,e1,D,C,hl,zqa,C8,C9,D1,D2,D3,D4,Q8,H2,H3,H4,H5,H6,H7,XP,seval];exact⟨_,rfl,fun y I=>by
    rcases zqt.1 I with h|h
    . exact H _ _ (by simp only[XP,seval]) (by simp only[XP,seval]) (by simp only[XP,seval]) y h
    . simp only[zqj,zqo,or_false]at h;omega⟩
end
section
variable {c:Cod}{b:Blk}{A B:List (List Bool)}{i j at_ t n:Nat}{g:Bool}{L:List Int}{tch:List Nat}{fr:PF}
def jb(A:List (List Bool))(at_:Nat)(B:List (List Bool))(t:Int):List (List Bool):=B.set at_ (ir (B.getD at_ []) (A.getD t.toNat [])).1
theorem EH:∃fr',evP ⟨A0,T,A2⟩ (.code Yu [(2,.ptr 1 0 0),(3,.ptr 2 0 0),(4,.ptr 3 0 0),(5,.int .i64 (at_:Int)),(6,.ptr 7 0 0),(37,.msl 8 0 (lz L) 1),(38,.int .i64 (lz L:Int)),(39,.int .i64 (lz L:Int))] ⟨[.row 1 [c.F] 5,.row 1 [.msl 4 0 (lz c.blocks) 1] 1,.row 1 [.msl 5 0 (lz c.blocks) 1] 1,.row 1 [.bool g] 1,.row 0 (tab A) 1,.row 0 (tab B) 1,.row 1 [Vx (c.blocks.map Blk.F)] 1,.row 1 [b.F] 5,.row 0 (ints L) 1],7,tch⟩)=zs (.ok (.exit 6) fr' ⟨[.row 1 [c.F] 5,.row 1 [.msl 4 0 (lz c.blocks) 1] 1,.row 1 [.msl 5 0 (lz c.blocks) 1] 1,.row 1 [.bool g] 1,.row 0 (tab A) 1,.row 0 (tab B) 1,.row 1 [Vx (c.blocks.map Blk.F)] 1,.row 1 [b.F] 5,.row 0 (ints L) 1],7,tch⟩)/\(FR fr' 2=.ptr 1 0 0/\FR fr' 3=.ptr 2 0 0/\FR fr' 4=.ptr 3 0 0/\FR fr' 5=.int .i64 (at_:Int)/\FR fr' 6=.ptr 7 0 0):=by
 unfold Yu;have C:decide ((lz L:Int)<(lz L:Int))=zf:=by simp
 simp only[C,XP,seval];exact⟨_,rfl,rfl,rfl,rfl,rfl,rfl⟩
def B3(N n:Nat)(A:List (List Bool)):Prop:=lz A=N/\∀r∈A,lz r=n
theorem B3.get{N n:Nat}{A:List (List Bool)}(h:B3 N n A){i:Nat}(hi:i<N):lz (A.getD i [])=n:=by
 rw[zqp,zqh (by rw[h.1];exact hi)];exact h.2 _ (zqe _)
theorem B3.set{N n:Nat}{A:List (List Bool)}(h:B3 N n A){i:Nat}{r:List Bool}(D:lz r=n):B3 N n (A.set i r):=⟨by rw[zqg];exact h.1,fun q G=>by
 rcases List.mem_or_eq_of_mem_set G with C|C
 . exact h.2 q C
 . rw[C];exact D⟩
theorem B3.join{N n:Nat}{A B:List (List Bool)}(h:B3 N n B){at_:Nat}(C:at_<N){t:Int}:B3 N n (jb A at_ B t):=h.set ((ns _ _).trans (h.get C))
theorem tM(U:T 49=zn)(J:B3 (lz c.blocks) n A)(V:n<=cp)(D:at_<lz c.blocks)(X:∀t∈L,0<=t/\t<(lz c.blocks:Int))(G:lz L<=2):∀(k j:Nat)(B:List (List Bool))(tch:List Nat),lz L=j+k->B3 (lz c.blocks) n B ->
 ∃fr' C,evP ⟨A0,T,A2⟩ (.code (.loop Yu) [(2,.ptr 1 0 0),(3,.ptr 2 0 0),(4,.ptr 3 0 0),(5,.int .i64 (at_:Int)),(6,.ptr 7 0 0),(37,.msl 8 0 (lz L) 1),(38,.int .i64 (lz L:Int)),(39,.int .i64 (j:Int))] ⟨[.row 1 [c.F] 5,.row 1 [.msl 4 0 (lz c.blocks) 1] 1,.row 1 [.msl 5 0 (lz c.blocks) 1] 1,.row 1 [.bool g] 1,.row 0 (tab A) 1,.row 0 (tab B) 1,.row 1 [Vx (c.blocks.map Blk.F)] 1,.row 1 [b.F] 5,.row 0 (ints L) 1],7,tch⟩)=zs (.ok (.exit 6) fr' ⟨[.row 1 [c.F] 5,.row 1 [.msl 4 0 (lz c.blocks) 1] 1,.row 1 [.msl 5 0 (lz c.blocks) 1] 1,.row 1 [.bool g] 1,.row 0 (tab A) 1,.row 0 (tab ((L.drop j).foldl (jb A at_) B)) 1,.row 1 [Vx (c.blocks.map Blk.F)] 1,.row 1 [b.F] 5,.row 0 (ints L) 1],7,C⟩)/\(FR fr' 2=.ptr 1 0 0/\FR fr' 3=.ptr 2 0 0/\FR fr' 4=.ptr 3 0 0/\FR fr' 5=.int .i64 (at_:Int)/\FR fr' 6=.ptr 7 0 0)
 |0,j,B,tch,e,hB=>by
  obtain rfl:j=lz L:=by omega
  obtain⟨fr',h,Q⟩:=EH (T:=T) (c:=c) (b:=b) (A:=A) (B:=B) (at_:=at_) (g:=g) (L:=L) (tch:=tch);exact⟨fr',tch,by rw[zqk];exact B4 h,Q⟩
 |k+1,j,B,tch,e,hB=>by
  have N:j<lz L:=by omega
  obtain⟨h0,h1⟩:=X _ (zqe N);obtain⟨t,Y⟩:=zkf h0;have H:t<lz c.blocks:=by omega
  obtain⟨I,h⟩:=EE (T:=T) (c:=c) (b:=b) (A:=A) (B:=B) (at_:=at_) (t:=t) (n:=n) (g:=g) (L:=L) (tch:=tch) U N Y (by rw[J.1];exact H) J.1 hB.1 (by rw[hB.1];exact D) (J.get H) (hB.get D) V G;obtain⟨fr',C,h',Q⟩:=tM U J V D X G k (j+1) (jb A at_ B L[j]) I (by omega) (hB.join D);refine⟨fr',C,?_,Q⟩;rw[zql N,zqr];have e1:jb A at_ B L[j]=B.set at_ (ir (B.getD at_ []) (A.getD t [])).1:=by rw[Y];rfl
  rw[<-e1]at h;exact(B0 h).trans h'
end
abbrev Qy:=List (List Bool)×List (List Bool)×Bool
def g8(b:Blk)(at_:Nat)(s:Qy):Qy:=
 (s.1.set at_ (ir (s.1.getD at_ []) (mt b (((jz b.e).foldl (jb s.1 at_) s.2.1).getD at_ []))).1,(jz b.e).foldl (jb s.1 at_) s.2.1,(ir (s.1.getD at_ []) (mt b (((jz b.e).foldl (jb s.1 at_) s.2.1).getD at_ []))).2||s.2.2)
theorem B3.joins{N n:Nat}{A:List (List Bool)}{at_:Nat}(C:at_<N)(L:List Int):∀{B:List (List Bool)},B3 N n B->B3 N n (L.foldl (jb A at_) B):=by
 induction L with
 |nil=>intro B h;exact h
 |cons t L D=>intro B h;exact D (h.join C)
theorem tN(e:jy):lz (jz e)<=2:=by
 unfold jz;split
 . simp
 split
 . simp
 simp
section
variable {c:Cod}{b:Blk}{A B:List (List Bool)}{i j at_ t n:Nat}{g:Bool}{tch:List Nat}{fr:PF}
def cH(c:Cod)(g:Bool)(A B:List (List Bool))(b:Blk)(at_ n:Nat)(w:List Bool)(x:List AV):List PO:=[.row 1 [c.F] 5,.row 1 [.msl 4 0 (lz c.blocks) 1] 1,.row 1 [.msl 5 0 (lz c.blocks) 1] 1,.row 1 [.bool g] 1,.row 0 ((tab A).set at_ (di 0 1 x)) 1,.row 0 (tab B) 1,.row 1 [Vx (c.blocks.map Blk.F)] 1,.row 1 [b.F] 5,.sub 5 at_ 0,.row 1 [b.F] 5,.row 1 [.fn (.func 50) [] []] 1,.row 0 (bools w) 1,.row 1 [.msl 11 0 n 1] 1,.row 1 [Vx (b.code.map Ins.F)] 1,.sub 4 at_ 0]
theorem xO{w:List Bool}(hb:at_<lz A):si (cH c g A B b at_ n w) 14 1:=by
 have C:at_<lz (tab A):=by simp[tab,hb]
 refine⟨fun es=>?_,fun es es'=>?_,fun es=>?_⟩
 . unfold cH
   simp only[Rv C,XP,seval]
 . unfold cH
   simp only[Rv C,List.set_set,De,XP,seval]
 . rfl
theorem KG(hU:T 49=zn)(aa:T 30=zn)(ab:T 52=zn)(hC:T 51=zs D6)(hS:T 50=zn)(hW:T 32=zs B7)(hR:T 53=zs C7)(ac:T 48=zs U5)(hb:WOk n b)(hs:n<=cp)(C:at_<lz c.blocks)(J:B3 (lz c.blocks) n A)(hB:B3 (lz c.blocks) n B)(ad:∀t∈jz b.e,0<=t/\t<(lz c.blocks:Int))(h2:FR fr 2=.ptr 1 0 0)(h3:FR fr 3=.ptr 2 0 0)(h4:FR fr 4=.ptr 3 0 0):
 ∃N Q,evP ⟨A0,T,A2⟩ (.round ⟨[33,34],Yx,Yv,fr⟩ [.int .i64 (at_:Int),b.F] ⟨[.row 1 [c.F] 5,.row 1 [.msl 4 0 (lz c.blocks) 1] 1,.row 1 [.msl 5 0 (lz c.blocks) 1] 1,.row 1 [.bool g] 1,.row 0 (tab A) 1,.row 0 (tab B) 1,.row 1 [Vx (c.blocks.map Blk.F)] 1],7,[]⟩)=zs (.ok .normal N ⟨[.row 1 [c.F] 5,.row 1 [.msl 4 0 (lz c.blocks) 1] 1,.row 1 [.msl 5 0 (lz c.blocks) 1] 1,.row 1 [.bool (g8 b at_ (A,B,g)).2.2] 1,.row 0 (tab (g8 b at_ (A,B,g)).1) 1,.row 0 (tab (g8 b at_ (A,B,g)).2.1) 1,.row 1 [Vx (c.blocks.map Blk.F)] 1],7,Q⟩):=by
 rw[Sc rfl];unfold Yx Yv;have tt:=fun K=>pM (K:=K) (e:=b.e) ac
 have D:B3 (lz c.blocks) n ((jz b.e).foldl (jb A at_) B):=hB.joins C _;obtain⟨N,Y,hl,k2,k3,k4,k5,k6⟩:=tM (T:=T) (c:=c) (b:=b) (A:=A) (at_:=at_) (n:=n) (g:=g) (L:=jz b.e) hU J hs C ad (tN _) (lz (jz b.e)) 0 B [] (by omega) hB;obtain⟨H,hw,ae⟩:=kG (T:=T) (c:=c) (b:=b) (A:=A) (B:=(jz b.e).foldl (jb A at_) B) (at_:=at_) (n:=n) (g:=g) (tch:=[]) aa ab hC hS hW hR hb hs (by rw[D.1];exact C) (D.get C);have U:lz (mt b (((jz b.e).foldl (jb A at_) B).getD at_ []))=n:=(Zd _ _).trans (D.get C);obtain⟨tch3,I⟩:=Um (T:=T) (ext:=7) (tch:=H++List.filter (fun x=>decide (x<7)) Y) (m:=mt b (((jz b.e).foldl (jb A at_) B).getD at_ [])) (a:=A.getD at_ []) (j:=11) hU (xO (c:=c) (g:=g) (A:=A) (B:=(jz b.e).foldl (jb A at_) B) (b:=b) (at_:=at_) (n:=n) (w:=mt b (((jz b.e).foldl (jb A at_) B).getD at_ [])) (by rw[J.1];exact C)) (fun x=>rfl) (by omega) (by rw[U];exact J.get C);have G:H.all (fun i=>decide (9<=i))=zt:=zka.2 fun y hy=>by simpa using ae y hy
 have h5:=K6 (A:=A) (i:=at_) (by rw[J.1];exact C);have h6:=K6 (A:=(jz b.e).foldl (jb A at_) B) (i:=at_) (by rw[D.1];exact C);rw[U]at I;have e3:(tab A).set at_ (di 0 1 (bools (A.getD at_ [])))=tab A:=fM h5;have V:=J.get C;have X:=D.get C;unfold g8;unfold cH at I;rw[e3,a8]at I;unfold g0 at hw;dsimp only;rw[show((0:Nat):Int)=0 from rfl,zqu]at hl;simp only[Cod.F,Blk.F,jy.F,zqb,zqc]at tt hl hw I|-;cases hq:(ir (A.getD at_ []) (mt b (((jz b.e).foldl (jb A at_) B).getD at_ []))).2 with
 |true=>
  rw[hq]at I;simp only[X8,m2,Kv,h2,h3,h4,tt,hl,k2,k3,k4,k5,k6,hw,G,h5,h6,C,V,X,I,C8,C9,D1,D2,D3,D4,Q8,H2,H3,H4,H5,H6,H7,zqa,XP,seval];exact⟨_,_,rfl⟩
 |false=>
  rw[hq]at I;simp only[X8,m2,Kv,h2,h3,h4,tt,hl,k2,k3,k4,k5,k6,hw,G,h5,h6,C,V,X,I,C8,C9,D1,D2,D3,D4,Q8,H2,H3,H4,H5,H6,H7,zqa,XP,seval];exact⟨_,_,rfl⟩
end
def fa(l:List Blk):Nat->Qy->Qy
 |0,s=>s
 |k+1,s=>fa l k (match l[k]? with|some b=>g8 b k s|none=>s)
structure LOk(c:Cod):Prop where
 bs:lz c.blocks*56<=cp
 bl:lz c.blocks<=60000
 rs:lz c.x0g*8<=cp
 b0:0<lz c.blocks
 wk:∀b∈c.blocks,WOk (lz c.x0g) b
 to:∀b∈c.blocks,∀t∈jz b.e,0<=t/\t<(lz c.blocks:Int)
theorem Fv{N n i:Nat}{b:Blk}{s:Qy}(hi:i<N)(C:B3 N n s.1)(D:B3 N n s.2.1):B3 N n (g8 b i s).1/\B3 N n (g8 b i s).2.1:=by
 refine⟨C.set ((ns _ _).trans (C.get hi)),D.joins hi _⟩
theorem v6{N n:Nat}{l:List Blk}:∀(k:Nat){s:Qy},k<=N->B3 N n s.1->B3 N n s.2.1->B3 N n (fa l k s).1/\B3 N n (fa l k s).2.1
 |0,s,_,hA,hB=>⟨hA,hB⟩
 |k+1,s,hk,hA,hB=>by
  unfold fa;cases l[k]? with
  |none=>exact v6 k (by omega) hA hB
  |some b=>
   obtain⟨C,D⟩:=Fv (b:=b) (i:=k) (by omega) hA hB;exact v6 k (by omega) C D
theorem tO(C:T 47=zn){l:List Blk}{K:PK}:evP ⟨A0,T,A2⟩ (.call 47 [Vx (l.map Blk.F)] K)=zs (.val [.fn (.func 66) [] [.ptr (lz K.os) 0 0]] ⟨K.os++[.row 1 [Vx (l.map Blk.F)] 1],K.ext,K.tch⟩):=by
 rw[g9 C rfl,A7 (c:=OJ) (nt:=4) (rs:=[.tmp 2]) rfl (by simp)];unfold OJ;simp only[XP,seval]
section
variable {c:Cod}{A B:List (List Bool)}{g:Bool}{fr:PF}
def u3(c:Cod)(s:Qy)(ps:List PO):List PO:=[.row 1 [c.F] 5,.row 1 [.msl 4 0 (lz c.blocks) 1] 1,.row 1 [.msl 5 0 (lz c.blocks) 1] 1,.row 1 [.bool s.2.2] 1,.row 0 (tab s.1) 1,.row 0 (tab s.2.1) 1]++ps
theorem YM(hU:T 49=zn)(I:T 30=zn)(J:T 52=zn)(hC:T 51=zs D6)(hS:T 50=zn)(hW:T 32=zs B7)(hR:T 53=zs C7)(N:T 48=zs U5)(hc:LOk c){s:Qy}(hA:B3 (lz c.blocks) (lz c.x0g) s.1)(hB:B3 (lz c.blocks) (lz c.x0g) s.2.1):
 ∃ TC:PF->List Nat->List Nat,∀(fr:PF)(tch:List Nat),FR fr 2=.ptr 1 0 0->FR fr 3=.ptr 2 0 0->FR fr 4=.ptr 3 0 0->FR fr 32=.fn (.func 66) [] [.ptr 6 0 0] ->
   evP ⟨A0,T,A2⟩ (.code (.rfn (.tmp 32) [33,34] Yx Yv) fr ⟨u3 c s [.row 1 [Vx (c.blocks.map Blk.F)] 1],0,tch⟩)=zs (.ok .normal fr ⟨u3 c (fa c.blocks (lz c.blocks) s) [.row 1 [Vx (c.blocks.map Blk.F)] 1],0,TC fr tch⟩):=by
 have G:∀x:PF×List Nat,∃y:List Nat,FR x.1 2=.ptr 1 0 0->FR x.1 3=.ptr 2 0 0->FR x.1 4=.ptr 3 0 0->FR x.1 32=.fn (.func 66) [] [.ptr 6 0 0] ->
  evP ⟨A0,T,A2⟩ (.code (.rfn (.tmp 32) [33,34] Yx Yv) x.1 ⟨u3 c s [.row 1 [Vx (c.blocks.map Blk.F)] 1],0,x.2⟩)=zs (.ok .normal x.1 ⟨u3 c (fa c.blocks (lz c.blocks) s) [.row 1 [Vx (c.blocks.map Blk.F)] 1],0,y⟩):=fun x=>by
  by_cases h:FR x.1 2=.ptr 1 0 0/\FR x.1 3=.ptr 2 0 0/\FR x.1 4=.ptr 3 0 0/\FR x.1 32=.fn (.func 66) [] [.ptr 6 0 0]
  . obtain ⟨K',h1,C,D,rfl,V,X,H⟩:=JZ (T:=T) (l:=c.blocks) (f:=(c.blocks.map Blk.F).isEmpty) (fr:=x.1) (g:=.tmp 32) (ps:=[33,34]) (ca:=Yx) (cb:=Yv) (b:=6) (K:=⟨u3 c s [.row 1 [Vx (c.blocks.map Blk.F)] 1],0,x.2⟩)
     (Inv:=fun i K=>∃C tch,K=⟨u3 c C [.row 1 [Vx (c.blocks.map Blk.F)] 1],7,tch⟩/\B3 (lz c.blocks) (lz c.x0g) C.1/\B3 (lz c.blocks) (lz c.x0g) C.2.1/\fa c.blocks i C=fa c.blocks (lz c.blocks) s) hc.bs hc.bl h.2.2.2
     (fun i K _ Q=>by obtain⟨w,tch,rfl,_⟩:=Q;rfl)
     (fun i hi K Q=>by
       obtain⟨C,tch,rfl,V,X,H⟩:=Q;have hm:=zqe hi;have U:lz c.x0g<=cp:=by have:=hc.rs;simp only[cp]at this|-;omega
       obtain⟨Y,D,h6⟩:=KG (T:=T) (c:=c) (b:=c.blocks[i]) (A:=C.1) (B:=C.2.1) (at_:=i) (n:=lz c.x0g) (g:=C.2.2) (fr:=x.1) hU I J hC hS hW hR N (hc.wk _ hm) U hi V X (hc.to _ hm) h.1 h.2.1 h.2.2.1;obtain⟨q1,q2⟩:=Fv (b:=c.blocks[i]) hi V X;refine⟨Y,_,h6,g8 c.blocks[i] i C,D++tch,rfl,q1,q2,?_⟩;rw[fa,zqh hi]at H;exact H)
     ⟨s,[],rfl,hA,hB,rfl⟩
    exact⟨_,fun _ _ _ _=>by rw[h1];rw[fa]at H;rw[<-H]⟩
  . exact⟨[],fun a b c d=>absurd ⟨a,b,c,d⟩ h⟩
 exact⟨fun fr tch=>(G (fr,tch)).choose,fun fr tch=>(G (fr,tch)).choose_spec⟩
theorem EI(I:T 49=zn)(D:T 30=zn)(G:T 52=zn)(C:T 47=zn)(J:T 51=zs D6)(N:T 50=zn)(Q:T 32=zs B7)(U:T 53=zs C7)(H:T 48=zs U5)(hc:LOk c)(V:B3 (lz c.blocks) (lz c.x0g) A)(X:B3 (lz c.blocks) (lz c.x0g) B):
 evP ⟨A0,T,A2⟩ (.code Yy [(1,.ptr 0 0 0),(2,.ptr 1 0 0),(3,.ptr 2 0 0),(4,.ptr 3 0 0)] ⟨u3 c (A,B,zt) [],0,[]⟩)=zs (.ok .normal [(1,.ptr 0 0 0),(2,.ptr 1 0 0),(3,.ptr 2 0 0),(4,.ptr 3 0 0)] ⟨u3 c (fa c.blocks (lz c.blocks) (A,B,zf)) [],0,[]⟩):=by
 unfold Yy;obtain⟨TC,hl⟩:=YM (T:=T) (c:=c) (s:=(A,B,zf)) I D G J N Q U H hc V X;have Y:=fun K=>tO (K:=K) (l:=c.blocks) C
 generalize fa c.blocks (lz c.blocks) (A,B,zf)=s at hl|-;obtain⟨A',B',g'⟩:=s;unfold u3 at hl|-;simp only[Cod.F,zqb,zqc]at hl|-;simp only[Y,hl,C8,C9,D1,D2,D3,D4,Q8,H2,H3,H4,H5,H6,H7,zqa,XP,seval]
theorem EJ:∃fr',evP ⟨A0,T,A2⟩ (.code Yy [(1,.ptr 0 0 0),(2,.ptr 1 0 0),(3,.ptr 2 0 0),(4,.ptr 3 0 0)] ⟨u3 c (A,B,zf) [],0,[]⟩)=zs (.ok (.exit 2) fr' ⟨u3 c (A,B,zf) [],0,[]⟩)/\FR fr' 2=.ptr 1 0 0/\FR fr' 3=.ptr 2 0 0:=by
 unfold Yy u3;simp only[Cod.F,zqb,zqc];simp only[XP,seval];exact⟨_,rfl,rfl,rfl⟩
end
def ctF(l:List Bool):Nat:=l.count zf
def fl:List (List Bool)->Nat
 |[]=>0
 |r::l=>ctF r+fl l
theorem xP{l:List Bool}{i:Nat}(hi:i<lz l)(h:l.getD i zf=zf):ctF (l.set i zt)+1=ctF l:=by
 induction l generalizing i with
 |nil=>cases hi
 |cons a l C=>
  cases i with
  |zero=>
   have h:a=zf:=h;subst h;simp[ctF]
  |succ i=>
   have:=C (i:=i) (by simpa using hi) (by simpa using h)
   unfold ctF at this|-;rw[List.set_cons_succ,zkc,zkc];omega
theorem c0k{m:List Bool}{i:Nat}{s:List Bool×Bool}(hi:i<lz s.1):(uSt m i s=s)\/((uSt m i s).2=zt/\ctF (uSt m i s).1<ctF s.1):=by
 unfold uSt;split
 . rename_i h
   exact .inr ⟨rfl,by have:=xP hi h.2;show ctF (s.1.set i zt)<_;omega⟩
 . exact .inl rfl
theorem oc(m:List Bool):∀(n i:Nat)(s:List Bool×Bool),i+n<=lz s.1->(Jl m n i s=s)\/((Jl m n i s).2=zt/\ctF (Jl m n i s).1<ctF s.1)
 |0,i,s,_=>.inl rfl
 |n + 1,i,s,h=>by
  rw[Jl];have hlen:=cE m i s;rcases c0k (m:=m) (i:=i) (s:=s) (by omega)with C|⟨C,G⟩
  . rw[C];exact oc m n (i+1) s (by omega)
  . rcases oc m n (i+1) (uSt m i s) (by omega)with D|⟨D,h4⟩
    . rw[D];exact .inr ⟨C,G⟩
    . exact .inr ⟨D,by omega⟩
theorem qz{a m:List Bool}(h:lz a=lz m):(ir a m=(a,zf))\/((ir a m).2=zt/\ctF (ir a m).1<ctF a):=oc m (lz m) 0 (a,zf) (by simp;omega)
theorem EK{A:List (List Bool)}{i:Nat}{r:List Bool}(hi:i<lz A):fl (A.set i r)+ctF (A.getD i [])=fl A+ctF r:=by
 induction A generalizing i with
 |nil=>cases hi
 |cons a A C=>
  cases i with
  |zero=>show ctF r+fl A+ctF a=ctF a+fl A+ctF r;omega
  |succ i=>
   have:=C (i:=i) (by simpa using hi)
   show ctF a+fl (A.set i r)+ctF (A.getD i [])=ctF a+fl A+ctF r
   omega
theorem tP{A:List (List Bool)}{i:Nat}:A.set i (A.getD i [])=A:=by
 induction A generalizing i with
 |nil=>rfl
 | cons a A C=>cases i with
  |zero=>rfl
  |succ i=>show a::A.set i (A.getD i [])=_;rw[C]
theorem tQ{N n i:Nat}{b:Blk}{s:Qy}(hi:i<N)(D:B3 N n s.1)(G:B3 N n s.2.1):((g8 b i s).1=s.1/\(g8 b i s).2.2=s.2.2)\/((g8 b i s).2.2=zt/\fl (g8 b i s).1<fl s.1):=by
 have C:B3 N n ((jz b.e).foldl (jb s.1 i) s.2.1):=G.joins hi _;unfold g8;rcases qz (a:=s.1.getD i []) (m:=mt b (((jz b.e).foldl (jb s.1 i) s.2.1).getD i [])) (by rw[D.get hi,Zd,C.get hi])with h|⟨H,h2⟩
 . rw[h];exact .inl ⟨tP,rfl⟩
 . refine .inr ⟨by rw[H];rfl,?_⟩
   have:=EK (A:=s.1) (i:=i) (r:=(ir (s.1.getD i []) (mt b (((jz b.e).foldl (jb s.1 i) s.2.1).getD i []))).1) (by rw[D.1];exact hi)
   show fl (s.1.set i _)<_
   omega
theorem Oj{N n:Nat}{l:List Blk}:∀(k:Nat){s:Qy},k<=N->B3 N n s.1->B3 N n s.2.1->((fa l k s).1=s.1/\(fa l k s).2.2=s.2.2)\/((fa l k s).2.2=zt/\fl (fa l k s).1<fl s.1)
 |0,s,_,hA,hB=>.inl ⟨rfl,rfl⟩
 |k + 1,s,hk,hA,hB=>by
  unfold fa;cases l[k]? with
  |none=>exact Oj k (by omega) hA hB
  |some b=>
   obtain⟨Q,U⟩:=Fv (b:=b) (i:=k) (by omega) hA hB;show((fa l k (g8 b k s)).1=s.1/\(fa l k (g8 b k s)).2.2=s.2.2)\/_
   have J:=Oj (l:=l) k (s:=g8 b k s) (by omega) Q U;have I:=tQ (b:=b) (i:=k) (s:=s) (by omega) hA hB;rcases J with⟨D,G⟩|⟨D,G⟩
   . rcases I with⟨C,H⟩|⟨C,H⟩
     . exact .inl ⟨D.trans C,G.trans H⟩
     . exact .inr ⟨G.trans C,by show fl (fa l k (g8 b k s)).1<_;rw[D];exact H⟩
   . refine .inr ⟨D,?_⟩
     show fl (fa l k (g8 b k s)).1<_
     rcases I with⟨C,_⟩|⟨_,H⟩
     . rw[<-C];exact G
     . omega
def b9(l:List Blk):Nat->List (List Bool)×List (List Bool)->Qy
 |0,s=>(s.1,s.2,zf)
 |k+1,s=>if(fa l (lz l) (s.1,s.2,zf)).2.2=zt then b9 l k ((fa l (lz l) (s.1,s.2,zf)).1,(fa l (lz l) (s.1,s.2,zf)).2.1)else fa l (lz l) (s.1,s.2,zf)
theorem Uq(l:List Blk):∀(k:Nat)(s:List (List Bool)×List (List Bool)),(b9 l k s).2.2=zf
 |0,s=>rfl
 |k+1,s=>by
  rw[b9];split
  . exact Uq l k _
  . rename_i h;simpa using h
theorem Fw{l:List Blk}{n:Nat}:∀(k:Nat){s:List (List Bool)×List (List Bool)},B3 (lz l) n s.1->B3 (lz l) n s.2->B3 (lz l) n (b9 l k s).1/\B3 (lz l) n (b9 l k s).2.1
 |0,s,hA,hB=>⟨hA,hB⟩
 |k+1,s,hA,hB=>by
  obtain⟨C,D⟩:=v6 (l:=l) (lz l) (s:=(s.1,s.2,zf)) (zkg _) hA hB;rw[b9];split
  . exact Fw k C D
  . exact⟨C,D⟩
def gk(N n:Nat):List (List Bool):=zqs N (gv n)
theorem O2(N n:Nat):B3 N n (gk N n):=⟨by simp[gk],fun r C=>by rw[List.eq_of_mem_replicate C];simp[gv]⟩
def iu(c:Cod):Qy:=b9 c.blocks (fl (gk (lz c.blocks) (lz c.x0g))+1) (gk (lz c.blocks) (lz c.x0g),gk (lz c.blocks) (lz c.x0g))
theorem Fx(c:Cod):B3 (lz c.blocks) (lz c.x0g) (iu c).1/\B3 (lz c.blocks) (lz c.x0g) (iu c).2.1:=Fw _ (O2 _ _) (O2 _ _)
section
variable {c:Cod}{A B:List (List Bool)}{g:Bool}{fr:PF}
theorem tR(V:T 49=zn)(G:T 30=zn)(H:T 52=zn)(C:T 47=zn)(X:T 51=zs D6)(Y:T 50=zn)(hW:T 32=zs B7)(hR:T 53=zs C7)(I:T 48=zs U5)(hc:LOk c):∀(k:Nat)(A B:List (List Bool)),fl A<k->B3 (lz c.blocks) (lz c.x0g) A->B3 (lz c.blocks) (lz c.x0g) B ->
 ∃fr',evP ⟨A0,T,A2⟩ (.code (.loop Yy) [(1,.ptr 0 0 0),(2,.ptr 1 0 0),(3,.ptr 2 0 0),(4,.ptr 3 0 0)] ⟨u3 c (A,B,zt) [],0,[]⟩)=zs (.ok (.exit 2) fr' ⟨u3 c (b9 c.blocks k (A,B)) [],0,[]⟩)/\FR fr' 2=.ptr 1 0 0/\FR fr' 3=.ptr 2 0 0
 |0,A,B,h,_,_=>by omega
 |k+1,A,B,h,hA,hB=>by
  have J:=EI (T:=T) (c:=c) (A:=A) (B:=B) V G H C X Y hW hR I hc hA hB;obtain⟨q1,q2⟩:=v6 (l:=c.blocks) (lz c.blocks) (s:=(A,B,zf)) (zkg _) hA hB;have D:=Oj (l:=c.blocks) (lz c.blocks) (s:=(A,B,zf)) (zkg _) hA hB;rw[b9];dsimp only;generalize hp:fa c.blocks (lz c.blocks) (A,B,zf)=s at J q1 q2 D|-;obtain⟨N,B',g'⟩:=s;cases g' with
  |true=>
   rcases D with⟨_,D⟩|⟨_,D⟩
   . cases D
   obtain⟨fr',Q,U⟩:=tR V G H C X Y hW hR I hc k N B' (by have:fl N<fl A:=D;omega) q1 q2;exact⟨fr',(B0 J).trans Q,U⟩
  |false=>
   obtain⟨fr',Q,U⟩:=EJ (T:=T) (c:=c) (A:=N) (B:=B');exact⟨fr',(B0 J).trans (B4 Q),U⟩
end
theorem KH{K:PK}{n:Nat}{l:List XOp}(C:(K.tch.all fun i=>decide (n<=i))=zf)(D:(l.all fun o=>!o.careful)=zf):Ca n l K=zf:=by unfold Ca;rw[C,D];rfl
theorem Ur:∀A:List (List Bool),noFL (tab A)=zt
 |[]=>rfl
 |r::A=>by
  show(noF (di 0 1 (bools r))&&noFL (tab A))=zt
  rw[Ur A];show(noFL (bools r)&&zt)=zt
  rw[iq];rfl
theorem Us(N n:Nat):gk (N+1) n=gk N n++[gv n]:=List.replicate_succ'
section
variable {c:Cod}{i:Nat}
def PA(c:Cod)(N:Nat):PK:=⟨[.row 1 [c.F] 5,.row 1 [.msl 3 0 N 1] 1,.row 1 [.msl 4 0 N 1] 1,.row 0 (tab (gk N (lz c.x0g))) 1,.row 0 (tab (gk N (lz c.x0g))) 1],0,[]⟩
theorem KI{K:PK}:∃fr',evP ⟨A0,T,A2⟩ (.code Qc [(1,.ptr 0 0 0),(2,.ptr 1 0 0),(3,.ptr 2 0 0),(11,.int .i64 (lz c.blocks:Int)),(12,.int .i64 (lz c.blocks:Int))] K)=zs (.ok (.exit 0) fr' K)/\FR fr' 1=.ptr 0 0 0/\FR fr' 2=.ptr 1 0 0/\FR fr' 3=.ptr 2 0 0:=by
 unfold Qc;have C:decide ((lz c.blocks:Int)<(lz c.blocks:Int))=zf:=by simp
 simp only[C,XP,seval];exact⟨_,rfl,rfl,rfl,rfl⟩
theorem BI(hc:LOk c):∀(k i:Nat),lz c.blocks=i+1+k->∃fr',evP ⟨A0,T,A2⟩ (.code (.loop Qc) [(1,.ptr 0 0 0),(2,.ptr 1 0 0),(3,.ptr 2 0 0),(11,.int .i64 (lz c.blocks:Int)),(12,.int .i64 ((i+1:Nat):Int))] (PA c (i+1)))=zs (.ok (.exit 0) fr' (PA c (lz c.blocks)))/\FR fr' 1=.ptr 0 0 0/\FR fr' 2=.ptr 1 0 0/\FR fr' 3=.ptr 2 0 0
 |0,i,e=>by
  obtain⟨fr',h,C⟩:=KI (T:=T) (c:=c) (K:=PA c (lz c.blocks));rw[show i+1=lz c.blocks by omega];exact⟨fr',B4 h,C⟩
 |k+1,i,e=>by
  have h:=KE (T:=T) (c:=c) (i:=i+1) (A:=gk (i+1) (lz c.x0g)) (by simp[gk]) (by omega) hc.rs hc.bs;rw[<-Us]at h;obtain⟨fr',h',C⟩:=BI hc k (i+1) (by omega);exact⟨fr',(B0 h).trans h',C⟩
end
theorem Qz(D:T 49=zn)(H:T 30=zn)(U:T 52=zn)(V:T 47=zn)(G:T 51=zs D6)(C:T 50=zn)(I:T 32=zs B7)(J:T 53=zs C7)(Q:T 48=zs U5){c:Cod}(Y:LOk c):AM.eo ⟨A0,T,A2⟩ 28 [c.F] [di 0 1 (tab (iu c).1),di 0 1 (tab (iu c).2.1)]:=by
 obtain⟨N,hN⟩:∃N,lz c.blocks=N+1:=⟨lz c.blocks-1,by have:=Y.b0;omega⟩
 have h0:=KD (T:=T) (c:=c) (by omega) Y.rs;obtain⟨fr1,h1,k1,k2,k3⟩:=BI (T:=T) Y N 0 (by omega);have hL:=(B0 h0).trans h1;obtain⟨aa,X,k4,k5⟩:=tR (T:=T) D H U V G C I J Q Y (fl (gk (lz c.blocks) (lz c.x0g))+1) (gk (lz c.blocks) (lz c.x0g)) (gk (lz c.blocks) (lz c.x0g)) (by omega) (O2 _ _) (O2 _ _);have hg:=Uq c.blocks (fl (gk (lz c.blocks) (lz c.x0g))+1) (gk (lz c.blocks) (lz c.x0g),gk (lz c.blocks) (lz c.x0g));obtain⟨s1,s2⟩:=Fx c
 change evP _ _=zs (.ok (.exit 2) aa ⟨u3 c (iu c) [],0,[]⟩)at X
 change (iu c).2.2=zf at hg
 generalize iu c=s at X hg s1 s2|-;obtain⟨A,B,g⟩:=s;dsimp only at hg X s1 s2|-;subst hg;refine⟨[.msl 2 0 (lz c.blocks) 1,.msl 3 0 (lz c.blocks) 1],⟨[.row 1 [.msl 2 0 (lz c.blocks) 1] 1,.row 1 [.msl 3 0 (lz c.blocks) 1] 1,.row 0 (tab A) 1,.row 0 (tab B) 1],0,[]⟩,?_,?_⟩
 . rw[A7 (c:=NZ) (nt:=67) (rs:=[.cell 2 36,.cell 3 36]) rfl (by simp)]
   unfold NZ K0;unfold PA at hL;unfold u3 at X;simp only[Cod.F,zqb,zqc]at hL X|-;simp only[hL,k1,k2,k3,X,k4,k5,KH,List.contains_cons,List.contains_nil,Nat.reduceBEq,C8,C9,D1,D2,D3,D4,Q8,H2,H3,H4,H5,H6,H7,zqa,XP,seval]
 . exact E1 (vs':=[.msl 2 0 (lz c.blocks) 1,.msl 3 0 (lz c.blocks) 1]) (os':=[.row 1 [.msl 2 0 (lz c.blocks) 1] 1,.row 1 [.msl 3 0 (lz c.blocks) 1] 1,.row 0 (tab A) 1,.row 0 (tab B) 1]) (by simp only[XP,seval]) (by simp only[XP,seval]) (us:=[.msl 0 0 (lz c.blocks) 1,.msl 1 0 (lz c.blocks) 1]) (ps:=[.row 0 (tab A) 1,.row 0 (tab B) 1]) (by simp only[zqa,s1.1,s2.1,XP,seval]) (by simp only[XP,seval]) (by simp only[XP,seval])
def y5:=Ck (fun p:(Cod)=>[p.F]) (fun p=>[di 0 1 (tab (iu p).1),di 0 1 (tab (iu p).2.1)]) (fun p=>LOk p)
theorem kH(C:T 28=zs y5){c:Cod}{K:PK}(D:LOk c):evP ⟨A0,T,A2⟩ (.call 28 [c.F] K)=zs (.val (W2 (lz K.os) [di 0 1 (tab (iu c).1),di 0 1 (tab (iu c).2.1)]).1 ⟨K.os++(W2 (lz K.os) [di 0 1 (tab (iu c).1),di 0 1 (tab (iu c).2.1)]).2,K.ext,K.tch⟩):=E6 C (by simp only[VV,XP,seval]) (F2 (a:=fun p:(Cod)=>[p.F]) (r:=fun p=>[di 0 1 (tab (iu p).1),di 0 1 (tab (iu p).2.1)]) (fun x y e=>by simp only[VJ]at e;simp only[e]) (c) D) (by simp only[VN,Ur,XP,seval])
theorem cI(D:T 49=zn)(H:T 30=zn)(Q:T 52=zn)(U:T 47=zn)(G:T 51=zs D6)(C:T 50=zn)(I:T 32=zs B7)(J:T 53=zs C7)(N:T 48=zs U5)(V:ep ⟨A0,T,A2⟩):TC A0 28 y5:=F9 V fun p h=>Qz D H Q U G C I J N h
section
variable {c:Cod}{i:Nat}
theorem KJ(hi:0<c.x0g.length)(hr:c.x0g.length*24<=cp):evP ⟨A0,T,A2⟩ (.code Md [(1,.ptr 0 0 0),(3,.ptr 1 0 0),(14,.int .i64 (c.x0g.length:Int)),(15,.int .i64 0)] ⟨[.row 1 [c.F] 5,.row 1 [.x0a] 1],0,[]⟩)=zs (.ok .normal [(1,.ptr 0 0 0),(3,.ptr 1 0 0),(14,.int .i64 (c.x0g.length:Int)),(15,.int .i64 1)] ⟨[.row 1 [c.F] 5,.row 1 [.msl 2 0 1 1] 1,.row 0 (tab [gv c.x0g.length]) 1],0,[]⟩):=by
 unfold Md;have hlt:decide ((0:Int)<(c.x0g.length:Int))=zt:=by simp;omega
 have hw:IntKind.i64.wrap (0+1)=1:=by decide
 have hm:c.x0g.length*1<=140737488355328:=by simp only[cp]at hr;omega
 unfold Cod.F;simp -implicitDefEqProofs only[hlt,hw,zqa,hm,Rs,xL,Rt,Ru,cG,zqi,XP,seval];rfl
theorem KK{A:List (List Bool)}(hA:A.length=i)(hi:i<c.x0g.length)(hr:c.x0g.length*24<=cp):evP ⟨A0,T,A2⟩ (.code Md [(1,.ptr 0 0 0),(3,.ptr 1 0 0),(14,.int .i64 (c.x0g.length:Int)),(15,.int .i64 ((i:Nat):Int))] ⟨[.row 1 [c.F] 5,.row 1 [.msl 2 0 i 1] 1,.row 0 (tab A) 1],0,[]⟩)=zs (.ok .normal [(1,.ptr 0 0 0),(3,.ptr 1 0 0),(14,.int .i64 (c.x0g.length:Int)),(15,.int .i64 ((i+1:Nat):Int))] ⟨[.row 1 [c.F] 5,.row 1 [.msl 2 0 (i+1) 1] 1,.row 0 (tab (A++[gv c.x0g.length])) 1],0,[]⟩):=by
 unfold Md;have hlt:decide ((i:Int)<(c.x0g.length:Int))=zt:=by simp;omega
 have hw:=A8 (i:=i) (by simp only[cp]at hr;omega);have hm:c.x0g.length*1<=140737488355328:=by simp only[cp]at hr;omega
 have hz:(i+1)*24<=140737488355328:=by simp only[cp]at hr;omega
 have ht:(tab A).take i=tab A:=zqn (by simp[hA]);unfold Cod.F;simp -implicitDefEqProofs only[hlt,hw,zqa,hm,Rs,xL,Rt,Ru,cG,zqi,hA,ht,hz,XP,seval];simp
def EL(c:Cod)(N:Nat):PK:=⟨match N with|0=>[.row 1 [c.F] 5,.row 1 [.x0a] 1]|N+1=>[.row 1 [c.F] 5,.row 1 [.msl 2 0 (N+1) 1] 1,.row 0 (tab (gk (N+1) (lz c.x0g))) 1],0,[]⟩
theorem KL{K:PK}:∃fr',evP ⟨A0,T,A2⟩ (.code Md [(1,.ptr 0 0 0),(3,.ptr 1 0 0),(14,.int .i64 (lz c.x0g:Int)),(15,.int .i64 (lz c.x0g:Int))] K)=zs (.ok (.exit 0) fr' K)/\FR fr' 1=.ptr 0 0 0/\FR fr' 3=.ptr 1 0 0:=by
 unfold Md;have C:decide ((lz c.x0g:Int)<(lz c.x0g:Int))=zf:=by simp
 simp only[C,XP,seval];exact⟨_,rfl,rfl,rfl⟩
theorem BJ(D:lz c.x0g*24<=cp):∀(k i:Nat),lz c.x0g=i+k->∃fr',evP ⟨A0,T,A2⟩ (.code (.loop Md) [(1,.ptr 0 0 0),(3,.ptr 1 0 0),(14,.int .i64 (lz c.x0g:Int)),(15,.int .i64 ((i:Nat):Int))] (EL c i))=zs (.ok (.exit 0) fr' (EL c (lz c.x0g)))/\FR fr' 1=.ptr 0 0 0/\FR fr' 3=.ptr 1 0 0
 |0,i,e=>by
  obtain⟨fr',h,C⟩:=KL (T:=T) (c:=c) (K:=EL c (lz c.x0g));rw[show i=lz c.x0g by omega];exact⟨fr',B4 h,C⟩
 |k+1,i,e=>by
  obtain⟨fr',h',C⟩:=BJ D k (i+1) (by omega);cases i with
  |zero=>
   have h:=KJ (T:=T) (c:=c) (by omega) D;exact⟨fr',(B0 h).trans h',C⟩
  |succ i=>
   have h:=KK (T:=T) (c:=c) (i:=i+1) (A:=gk (i+1) (lz c.x0g)) (by simp[gk]) (by omega) D;rw[<-Us]at h;exact⟨fr',(B0 h).trans h',C⟩
end
def mc(a b:Nat)(O:List (List Bool)):List (List Bool):=if a=b then O else(O.set a ((O.getD a []).set b zt)).set b (((O.set a ((O.getD a []).set b zt)).getD b []).set a zt)
def Ke(c:Cod)(A:List (List Bool))(r:Nat):Bool:=decide ((r:Int)<c.ps)||(A.getD 0 []).getD r zf
theorem B3.pair{n:Nat}{O:List (List Bool)}(h:B3 n n O){a b:Nat}(ha:a<n)(hb:b<n):B3 n n (mc a b O):=by
 unfold mc;split
 . exact h
 . have C:B3 n n (O.set a ((O.getD a []).set b zt)):=h.set (by rw[zqg];exact h.get ha)
   exact C.set (by rw[zqg];exact C.get hb)
section
variable {c:Cod}{A B O:List (List Bool)}{a b n:Nat}{tch:List Nat}
theorem P0{l:List Bool}{i:Nat}{v:Bool}:(bools l).set i (.bool v)=bools (l.set i v):=by unfold bools;rw[zqm]
theorem Bw{l:List Bool}:lz (bools l)=lz l:=zqa _
theorem Mr{te:TI}{k:IntKind}{id n sz:Nat}(h:0<n)(C:sz=te.size):Xk te (.msl id 0 n sz) (.int k 0)=zs (.ptr id 0 0):=wy (i:=0) (off:=0) h C
theorem KM(hP:T 27=zn)(hF:T 29=zn)(hb:b<a)(ha:a<lz c.x0g)(hr:lz c.x0g*24<=cp)(h0:0<lz c.blocks)(hA:B3 (lz c.blocks) (lz c.x0g) A)(hO:B3 (lz c.x0g) (lz c.x0g) O):
 evP ⟨A0,T,A2⟩ (.code Yk [(1,.ptr 0 0 0),(3,.ptr 1 0 0),(4,.ptr 2 0 0),(6,.msl 3 0 (lz c.blocks) 1),(7,.fn (.func 29) [] [.ptr 0 0 0,.ptr 4 0 0]),(8,.int .i64 (a:Int)),(34,.int .i64 (lz c.x0g:Int)),(35,.int .i64 (a:Int)),(38,.int .i64 (a:Int)),(39,.int .i64 (b:Int))] ⟨[.row 1 [c.F] 5,.row 1 [.msl 5 0 (lz c.x0g) 1] 1,.row 1 [.fn (.func 27) [] [.ptr 1 0 0]] 1,.row 0 (tab B) 1,.row 1 [.msl 6 0 (lz c.blocks) 1] 1,.row 0 (tab O) 1,.row 0 (tab A) 1],0,[]⟩)=zs (.ok .normal [(1,.ptr 0 0 0),(3,.ptr 1 0 0),(4,.ptr 2 0 0),(6,.msl 3 0 (lz c.blocks) 1),(7,.fn (.func 29) [] [.ptr 0 0 0,.ptr 4 0 0]),(8,.int .i64 (a:Int)),(34,.int .i64 (lz c.x0g:Int)),(35,.int .i64 (a:Int)),(38,.int .i64 (a:Int)),(39,.int .i64 ((b+1:Nat):Int))] ⟨[.row 1 [c.F] 5,.row 1 [.msl 5 0 (lz c.x0g) 1] 1,.row 1 [.fn (.func 27) [] [.ptr 1 0 0]] 1,.row 0 (tab B) 1,.row 1 [.msl 6 0 (lz c.blocks) 1] 1,.row 0 (tab (if Ke c A a&&Ke c A b then mc a b O else O)) 1,.row 0 (tab A) 1],0,[]⟩):=by
 unfold Yk;have H:decide ((b:Int)<(a:Int))=zt:=by simp;omega
 have I:=A8 (i:=b) (by simp only[cp]at hr;omega);have f1:=fun(args:List AV)(K:PK)(h:lz args<=17)=>(g9 (E:=A0) (F:=A2) (f:=29) (args:=args) (K:=K) hF rfl).trans (congrArg _ (A7 (E:=A0) (T:=T) (F:=A2) (args:=args) (c:=AG) (nt:=17) (rs:=[.tmp 4]) rfl h))
 have f2:=fun(args:List AV)(K:PK)(h:lz args<=20)=>(g9 (E:=A0) (F:=A2) (f:=27) (args:=args) (K:=K) hP rfl).trans (congrArg _ (A7 (E:=A0) (T:=T) (F:=A2) (args:=args) (c:=pE) (nt:=20) (rs:=[]) rfl h))
 have J:=K6 (A:=A) (i:=0) (by rw[hA.1];exact h0);have N:=hA.get h0;have gA:=D9 (l:=A.getD 0 []) (i:=a) (by omega);have gB:=D9 (l:=A.getD 0 []) (i:=b) (by omega);have C:b<lz c.x0g:=by omega
 have ab:a≠b:=by omega
 have Q:decide ((a:Int)=(b:Int))=zf:=by simp;omega
 have U:=K6 (A:=O) (i:=a) (by rw[hO.1];exact ha);have G:=K6 (A:=O) (i:=b) (by rw[hO.1];exact C);have V:=hO.get ha;have X:=hO.get C;have Y:=D9 (l:=O.getD a []) (i:=b) (by omega);have aa:=D9 (l:=O.getD b []) (i:=a) (by omega);have ac:(O.set a ((O.getD a []).set b zt)).getD b []=O.getD b []:=by
  rw[zqp,zqv ab,zqp]
 have hn:(tab (O.set a ((O.getD a []).set b zt)))[b]?=zs (di 0 1 (bools (O.getD b []))):=by
  rw[<-a8,zqv ab];exact G
 have D:mc a b O=(O.set a ((O.getD a []).set b zt)).set b ((O.getD b []).set a zt):=by
  unfold mc;rw[if_neg ab,ac]
 unfold Ke;by_cases pa:(a:Int)<c.ps
 . have qa:=decide_eq_true pa
   have pb:(b:Int)<c.ps:=by omega
   have qb:=decide_eq_true pb;rw[qa,qb,if_pos (by rfl),D];simp only[Cod.F];simp only[H,I,f1,f2,AG,pE,qa,qb,Q,U,G,hn,Y,aa,V,X,P0,a8,De,Mr,J,N,gA,gB,ha,C,h0,zqa,Bw,zqg,zqi,C8,C9,D1,D2,D3,D4,Q8,H2,H3,H4,H5,H6,H7,XP,seval]
 . have qa:=decide_eq_false pa
   rw[qa];cases va:(A.getD 0 []).getD a zf with
   |false=>
    rw[va]at gA;rw[if_neg (by simp)];simp only[Cod.F];simp only[H,I,f1,f2,AG,pE,qa,Q,U,G,hn,Y,aa,V,X,P0,a8,De,Mr,J,N,gA,gB,ha,C,h0,zqa,Bw,zqg,zqi,C8,C9,D1,D2,D3,D4,Q8,H2,H3,H4,H5,H6,H7,XP,seval]
   |true=>
    rw[va]at gA;by_cases pb:(b:Int)<c.ps
    . have qb:=decide_eq_true pb
      rw[qb,if_pos (by rfl),D];simp only[Cod.F];simp only[H,I,f1,f2,AG,pE,qa,qb,Q,U,G,hn,Y,aa,V,X,P0,a8,De,Mr,J,N,gA,gB,ha,C,h0,zqa,Bw,zqg,zqi,C8,C9,D1,D2,D3,D4,Q8,H2,H3,H4,H5,H6,H7,XP,seval]
    . have qb:=decide_eq_false pb
      rw[qb];cases vb:(A.getD 0 []).getD b zf with
      |false=>
       rw[vb]at gB;rw[if_neg (by simp)];simp only[Cod.F];simp only[H,I,f1,f2,AG,pE,qa,qb,Q,U,G,hn,Y,aa,V,X,P0,a8,De,Mr,J,N,gA,gB,ha,C,h0,zqa,Bw,zqg,zqi,C8,C9,D1,D2,D3,D4,Q8,H2,H3,H4,H5,H6,H7,XP,seval]
      |true=>
       rw[vb]at gB;rw[if_pos (by rfl),D];simp only[Cod.F];simp only[H,I,f1,f2,AG,pE,qa,qb,Q,U,G,hn,Y,aa,V,X,P0,a8,De,Mr,J,N,gA,gB,ha,C,h0,zqa,Bw,zqg,zqi,C8,C9,D1,D2,D3,D4,Q8,H2,H3,H4,H5,H6,H7,XP,seval]
end
def tS(x:Ins)(w:List Bool)(r:Nat):Bool:=w.getD r zf&&decide (0<=ch x) && !(decide (x.op=2)&&decide (x.a=(r:Int)))
def Ze(x:Ins)(w:List Bool)(r:Nat)(O:List (List Bool)):List (List Bool):=if tS x w r=zt then mc (ch x).toNat r O else O
def fO(x:Ins)(w:List Bool):Nat->Nat->List (List Bool)->List (List Bool)
 |0,_,O=>O
 |k+1,r,O=>fO x w k (r+1) (Ze x w r O)
def Xe(x:Ins)(w:List Bool)(O:List (List Bool)):List (List Bool):=fO x w (lz w) 0 O
theorem B3.see{n:Nat}{x:Ins}{w:List Bool}{r:Nat}{O:List (List Bool)}(h:B3 n n O)(hw:ch x<n)(D:r<n):B3 n n (Ze x w r O):=by
 unfold Ze;split
 . rename_i C
   have h0:0<=ch x:=by
    unfold tS at C;simp at C;exact C.1.2
   exact h.pair (by omega) D
 . exact h
theorem B3.sees{n:Nat}{x:Ins}{w:List Bool}(C:ch x<n):∀(k r:Nat){O:List (List Bool)},r+k<=n->B3 n n O->B3 n n (fO x w k r O)
 |0,r,O,_,h=>h
 |k+1,r,O,e,h=>B3.sees C k (r+1) (by omega) (h.see C (by omega))
section
variable {b:Blk}{B O:List (List Bool)}{at_ n r:Nat}{w:List Bool}{x:Ins}{tch:List Nat}{fr:PF}
def M8(B O:List (List Bool))(b:Blk)(at_ n:Nat)(ps:List PO)(w:List AV):List PO:=[.row 1 [.msl 3 0 n 1] 1,.row 1 [.fn (.func 27) [] [.ptr 0 0 0]] 1,.row 0 (tab B) 1,.row 0 (tab O) 1,.row 1 [b.F] 5,.sub 2 at_ 0,.row 1 [b.F] 5,.row 1 [.fn (.func 31) [] [.ptr 1 0 0]] 1,.row 0 w 1,.row 1 [.msl 8 0 n 1] 1,.row 1 [Vx (b.code.map Ins.F)] 1]++ps
theorem EM{ps:List PO}:si (M8 B O b at_ n ps) 8 1:=⟨fun es=>rfl,fun es es'=>rfl,fun es=>rfl⟩
theorem KN(h:lz w=n):∃fr',evP ⟨A0,T,A2⟩ (.code Mf [(2,.ptr 1 0 0),(3,.ptr 12 0 0),(5,.int .i64 (ch x)),(10,.msl 8 0 n 1),(11,.int .i64 (n:Int)),(12,.int .i64 (n:Int))] ⟨M8 B O b at_ n [.row 1 [x.F] 8,.row 1 [x.F] 8] (bools w),12,tch⟩)=zs (.ok (.exit 0) fr' ⟨M8 B O b at_ n [.row 1 [x.F] 8,.row 1 [x.F] 8] (bools w),12,tch⟩):=by
 unfold Mf;have C:decide ((n:Int)<(n:Int))=zf:=by simp
 simp only[C,XP,seval];exact⟨_,rfl⟩
theorem KO(hP:T 27=zn)(hw:lz w=n)(Q:r<n)(hs:n<=cp)(hwr:ch x<n)(hO:B3 n n O):
 ∃X,evP ⟨A0,T,A2⟩ (.code Mf [(2,.ptr 1 0 0),(3,.ptr 12 0 0),(5,.int .i64 (ch x)),(10,.msl 8 0 n 1),(11,.int .i64 (n:Int)),(12,.int .i64 (r:Int))] ⟨M8 B O b at_ n [.row 1 [x.F] 8,.row 1 [x.F] 8] (bools w),12,tch⟩)=zs (.ok .normal [(2,.ptr 1 0 0),(3,.ptr 12 0 0),(5,.int .i64 (ch x)),(10,.msl 8 0 n 1),(11,.int .i64 (n:Int)),(12,.int .i64 ((r+1:Nat):Int))] ⟨M8 B (Ze x w r O) b at_ n [.row 1 [x.F] 8,.row 1 [x.F] 8] (bools w),12,X⟩):=by
 unfold Mf;have G:decide ((r:Int)<(n:Int))=zt:=by simp[Q]
 have H:=A8 (i:=r) (by simp only[cp]at hs;omega);have D:=D9 (l:=w) (i:=r) (by omega);have f2:=fun(args:List AV)(K:PK)(h:lz args<=20)=>(g9 (E:=A0) (F:=A2) (f:=27) (args:=args) (K:=K) hP rfl).trans (congrArg _ (A7 (E:=A0) (T:=T) (F:=A2) (args:=args) (c:=pE) (nt:=20) (rs:=[]) rfl h))
 unfold Ze tS;unfold M8;cases hv:w.getD r zf with
 |false=>
  rw[hv]at D;rw[if_neg (by simp)];simp only[Blk.F,Ins.F,zqb,zqc];simp only[G,H,D,Q,zqa,C8,C9,D1,D2,D3,D4,Q8,H2,H3,H4,H5,H6,H7,XP,seval];exact⟨_,rfl⟩
 |true=>
  rw[hv]at D;by_cases h0:0<=ch x
  . obtain ⟨d,hd⟩:=zkf h0
    have U:d<n:=by omega
    have C:decide (0<=(d:Int))=zt:=by simp
    simp only[hd,Int.toNat_natCast];by_cases hg:x.op=2/\x.a=(r:Int)
    . rw[if_neg (by simp[hg.1,hg.2])]
      have e1:=hg.1;have e2:=hg.2;simp only[Blk.F,Ins.F,zqb,zqc];simp only[G,H,D,Q,C,e1,e2,zqa,C8,C9,D1,D2,D3,D4,Q8,H2,H3,H4,H5,H6,H7,XP,seval];exact⟨_,rfl⟩
    . have af:(zt&&decide (0<=(d:Int)) && !(decide (x.op=2)&&decide (x.a=(r:Int))))=zt:=by
       by_cases J:x.op=2
       . have Y:¬x.a=(r:Int):=fun h=>hg ⟨J,h⟩
         simp[J,Y]
       . simp[J]
      rw[af,if_pos (by rfl)];by_cases N:d=r
      . have I:decide ((d:Int)=(r:Int))=zt:=by simp[N]
        rw[show mc d r O=O by unfold mc;rw[if_pos N]];simp only[Blk.F,Ins.F,zqb,zqc];by_cases J:x.op=2
        . have Y:¬x.a=(r:Int):=fun h=>hg ⟨J,h⟩
          simp only[G,H,D,Q,C,f2,pE,I,J,eq_false Y,zqa,C8,C9,D1,D2,D3,D4,Q8,H2,H3,H4,H5,H6,H7,XP,seval];exact⟨_,rfl⟩
        . simp only[G,H,D,Q,C,f2,pE,I,eq_false J,zqa,C8,C9,D1,D2,D3,D4,Q8,H2,H3,H4,H5,H6,H7,XP,seval]
          exact⟨_,rfl⟩
      . have I:decide ((d:Int)=(r:Int))=zf:=by simp;omega
        have aa:=K6 (A:=O) (i:=d) (by rw[hO.1];exact U);have V:=K6 (A:=O) (i:=r) (by rw[hO.1];exact Q);have ab:=hO.get U;have ac:=hO.get Q;have ad:=D9 (l:=O.getD d []) (i:=r) (by omega);have ae:=D9 (l:=O.getD r []) (i:=d) (by omega);have ag:(O.set d ((O.getD d []).set r zt)).getD r []=O.getD r []:=by
         rw[zqp,zqv N,zqp]
        have hn:(tab (O.set d ((O.getD d []).set r zt)))[r]?=zs (di 0 1 (bools (O.getD r []))):=by
         rw[<-a8,zqv N];exact V
        rw[show mc d r O=(O.set d ((O.getD d []).set r zt)).set r ((O.getD r []).set d zt) by unfold mc;rw[if_neg N,ag]];simp only[Blk.F,Ins.F,zqb,zqc];by_cases J:x.op=2
        . have Y:¬x.a=(r:Int):=fun h=>hg ⟨J,h⟩
          simp only[G,H,D,Q,U,C,f2,pE,I,J,eq_false Y,aa,V,hn,ad,ae,ab,ac,P0,a8,De,zqg,zqa,C8,C9,D1,D2,D3,D4,Q8,H2,H3,H4,H5,H6,H7,XP,seval];exact⟨_,rfl⟩
        . simp only[G,H,D,Q,U,C,f2,pE,I,eq_false J,aa,V,hn,ad,ae,ab,ac,P0,a8,De,zqg,zqa,C8,C9,D1,D2,D3,D4,Q8,H2,H3,H4,H5,H6,H7,XP,seval]
          exact⟨_,rfl⟩
  . have C:decide (0<=ch x)=zf:=by simp[h0]
    rw[if_neg (by simp[h0])];simp only[Blk.F,Ins.F,zqb,zqc];simp only[G,H,D,Q,C,zqa,C8,C9,D1,D2,D3,D4,Q8,H2,H3,H4,H5,H6,H7,XP,seval];exact⟨_,rfl⟩
def Y5(B O:List (List Bool))(b:Blk)(at_ n:Nat)(ps:List PO)(w:List AV):List PO:=[.row 1 [.x0a] 1,.row 1 [.fn (.func 27) [] [.ptr 0 0 0]] 1,.row 0 (tab B) 1,.row 1 [b.F] 5,.sub 2 at_ 0,.row 1 [b.F] 5,.row 1 [.fn (.func 31) [] [.ptr 1 0 0]] 1,.row 0 w 1,.row 1 [.msl 7 0 n 1] 1,.row 1 [Vx (b.code.map Ins.F)] 1]++ps
theorem EN{ps:List PO}:si (Y5 B O b at_ n ps) 7 1:=⟨fun es=>rfl,fun es es'=>rfl,fun es=>rfl⟩
end
section
variable {b:Blk}{B O:List (List Bool)}{at_ n r:Nat}{w:List Bool}{x:Ins}{tch:List Nat}{fr:PF}
theorem BK(I:T 27=zn)(H:lz w=n)(J:n<=cp)(D:ch x<n):∀(k r:Nat)(O:List (List Bool))(tch:List Nat),n=r+k->B3 n n O ->
 ∃fr' C,evP ⟨A0,T,A2⟩ (.code (.loop Mf) [(2,.ptr 1 0 0),(3,.ptr 12 0 0),(5,.int .i64 (ch x)),(10,.msl 8 0 n 1),(11,.int .i64 (n:Int)),(12,.int .i64 (r:Int))] ⟨M8 B O b at_ n [.row 1 [x.F] 8,.row 1 [x.F] 8] (bools (w)),12,tch⟩)=zs (.ok (.exit 0) fr' ⟨M8 B (fO x w k r O) b at_ n [.row 1 [x.F] 8,.row 1 [x.F] 8] (bools (w)),12,C⟩)
 |0,r,O,tch,e,hO=>by
  obtain rfl:r=n:=by omega
  obtain⟨fr',h⟩:=KN (T:=T) (b:=b) (B:=B) (O:=O) (at_:=at_) (x:=x) (tch:=tch) H;exact⟨fr',tch,B4 h⟩
 |k+1,r,O,tch,e,hO=>by
  obtain⟨G,h⟩:=KO (T:=T) (b:=b) (B:=B) (at_:=at_) (r:=r) (tch:=tch) I H (by omega) J D hO;obtain⟨fr',C,h'⟩:=BK I H J D k (r+1) (Ze x w r O) G (by omega) (hO.see D (by omega));exact⟨fr',C,(B0 h).trans h'⟩
theorem KP(J:T 31=zn)(N:T 32=zs B7)(H:lz w=n)(Q:T 27=zn)(U:n<=cp)(D:ch x<n)(V:B3 n n O){ex:Nat}:
 ∃C,evP ⟨A0,T,A2⟩ (.call 31 [x.F,.msl 8 0 n 1,.ptr 1 0 0] ⟨M8 B O b at_ n [.row 1 [x.F] 8] (bools (w)),ex,tch⟩)=zs (.val [] ⟨M8 B (Xe x w O) b at_ n [.row 1 [x.F] 8] (bools (w)),ex,C⟩):=by
 obtain⟨fr',tch1,h⟩:=BK (T:=T) (b:=b) (B:=B) (at_:=at_) (w:=w) (x:=x) Q H U D n 0 O [] (by omega) V;rw[g9 J rfl,A7 (c:=GV) (nt:=39) (rs:=[]) rfl (by simp)];unfold GV;have I:=fun K=>l8 (K:=K) (x:=x) N
 have G:fO x w n 0 O=Xe x w O:=by unfold Xe;rw[H]
 rw[G]at h;rw[show((0:Nat):Int)=0 from rfl]at h;unfold M8 at h|-;simp only[Blk.F,Ins.F,zqb,zqc]at I h|-;simp only[I,h,zqa,C8,C9,D1,D2,D3,D4,Q8,H2,H3,H4,H5,H6,H7,XP,seval];exact⟨_,rfl⟩
theorem YN(hN:T 31=zn)(hW:T 32=zs B7)(hR:T 53=zs C7)(hP:T 27=zn)(hO:B3 n n O){kk:Nat}(hk:x.ok)(N:lz w=n)(hs:n<=cp)(Q:ch x<n)(U:∀r∈ci x,0<=r/\r<(n:Int))(h5:FR fr 5=.ptr 7 0 0)(h7:FR fr 7=.ptr 9 0 0):
 ∃V H,evP ⟨A0,T,A2⟩ (.round ⟨[33,34],t8,t7,fr⟩ [.int .i64 (kk:Int),x.F] ⟨M8 B O b at_ n [] (bools w),11,[]⟩)=zs (.ok .normal V ⟨M8 B (Xe x w O) b at_ n [] (bools (V8 w x)),11,H⟩):=by
 rw[Sc rfl];unfold t8 t7;obtain⟨tch1,G⟩:=KP (T:=T) (b:=b) (B:=B) (O:=O) (at_:=at_) (w:=w) (x:=x) (tch:=[11]) (ex:=11) hN hW N hP hs Q hO;have I:=fun K=>l8 (K:=K) (x:=x) hW
 have J:=fun K=>Hb (K:=K) (x:=x) hR hk
 have aa:lz (ci x)<=cp:=by
  have:=Oi x
  have h2:lz x.args*8<=cp:=hk;simp only[cp]at h2|-;omega
 have go:∀w':List Bool,lz w'=n->∃(X:PF->List Nat->PF)(TC:PF->List Nat->List Nat),∀(fr:PF)(tch:List Nat),FR fr 7=.ptr 9 0 0->FR fr 47=.msl 12 0 (lz (ci x)) 1->FR fr 48=.int .i64 (lz (ci x):Int)->FR fr 49=.int .i64 0 ->
  evP ⟨A0,T,A2⟩ (.code (.loop Fi) fr ⟨M8 B (Xe x w O) b at_ n [.row 1 [x.F] 8,.row 0 (ints (ci x)) 1] (bools w'),11,tch⟩)=zs (.ok (.exit 2) (X fr tch) ⟨M8 B (Xe x w O) b at_ n [.row 1 [x.F] 8,.row 0 (ints (ci x)) 1] (bools ((ci x).foldl Kd w')),11,TC fr tch⟩)/\∀y∈TC fr tch,y∈tch\/y=8:=fun w' Y=>EF EM (fun _=>rfl) (fun _=>rfl) (fun _=>rfl) aa U Y
 by_cases h0:0<=ch x
 . obtain⟨d,hd⟩:=zkf h0
   have ab:d<n:=by omega
   obtain⟨X,TC,hl⟩:=go (w.set d zf) (by simpa using N);have es:V8 w x=(ci x).foldl Kd (w.set d zf):=by unfold V8;rw[if_pos h0,hd];rfl
   have hg:=D9 (l:=w) (i:=d) (by omega);have D:decide (0<=(d:Int))=zt:=by simp
   simp only[hd]at I;have C:=fun fr tch a b c d=>(hl fr tch a b c d).1
   rw[es];unfold M8 at G C|-;simp only[Blk.F,Ins.F,zqb,zqc]at G I J C|-;simp only[X8,m2,Kv,h5,h7,G,I,J,D,ab,hg,P0,C,C8,C9,D1,D2,D3,D4,Q8,H2,H3,H4,H5,H6,H7,zqa,XP,seval];exact⟨_,_,rfl⟩
 . obtain⟨X,TC,hl⟩:=go w N
   have es:V8 w x=(ci x).foldl Kd w:=by unfold V8;rw[if_neg h0]
   have D:decide (0<=ch x)=zf:=by simp[h0]
   have C:=fun fr tch a b c d=>(hl fr tch a b c d).1
   rw[es];unfold M8 at G C|-;simp only[Blk.F,Ins.F,zqb,zqc]at G I J C|-;simp only[X8,m2,Kv,h5,h7,G,I,J,D,C,C8,C9,D1,D2,D3,D4,Q8,H2,H3,H4,H5,H6,H7,zqa,XP,seval];exact⟨_,_,rfl⟩
theorem KR(hz:n=0):∃fr',evP ⟨A0,T,A2⟩ (.code Mf [(2,.ptr 1 0 0),(3,.ptr 11 0 0),(5,.int .i64 (ch x)),(10,.msl 7 0 n 1),(11,.int .i64 (n:Int)),(12,.int .i64 0)] ⟨Y5 B O b at_ n [.row 1 [x.F] 8,.row 1 [x.F] 8] (bools (w)),11,tch⟩)=zs (.ok (.exit 0) fr' ⟨Y5 B O b at_ n [.row 1 [x.F] 8,.row 1 [x.F] 8] (bools (w)),11,tch⟩):=by
 unfold Mf;have C:decide ((0:Int)<(n:Int))=zf:=by simp;omega
 simp only[C,XP,seval];exact⟨_,rfl⟩
theorem KS(G:T 31=zn)(H:T 32=zs B7)(hw:lz w=n)(hz:n=0){ex:Nat}:
 ∃C,evP ⟨A0,T,A2⟩ (.call 31 [x.F,.msl 7 0 n 1,.ptr 1 0 0] ⟨Y5 B O b at_ n [.row 1 [x.F] 8] (bools (w)),ex,tch⟩)=zs (.val [] ⟨Y5 B O b at_ n [.row 1 [x.F] 8] (bools (w)),ex,C⟩):=by
 obtain⟨fr',h⟩:=KR (T:=T) (b:=b) (B:=B) (O:=O) (at_:=at_) (n:=n) (w:=w) (x:=x) (tch:=[]) hz;rw[g9 G rfl,A7 (c:=GV) (nt:=39) (rs:=[]) rfl (by simp)];unfold GV;have D:=fun K=>l8 (K:=K) (x:=x) H
 have h:=B4 (c:=Mf) h;unfold Y5 at h|-;simp only[Blk.F,Ins.F,zqb,zqc]at D h|-;simp only[D,h,zqa,C8,C9,D1,D2,D3,D4,Q8,H2,H3,H4,H5,H6,H7,XP,seval];exact⟨_,rfl⟩
theorem YO(hN:T 31=zn)(U:T 32=zs B7)(hR:T 53=zs C7)(hz:n=0){kk:Nat}(V:x.ok)(X:lz w=n)(hs:n<=cp)(hwr:ch x<n)(H:∀r∈ci x,0<=r/\r<(n:Int))(h5:FR fr 5=.ptr 6 0 0)(h7:FR fr 7=.ptr 8 0 0):
 ∃I D,evP ⟨A0,T,A2⟩ (.round ⟨[33,34],t8,t7,fr⟩ [.int .i64 (kk:Int),x.F] ⟨Y5 B O b at_ n [] (bools w),10,[]⟩)=zs (.ok .normal I ⟨Y5 B O b at_ n [] (bools (V8 w x)),10,D⟩):=by
 rw[Sc rfl];unfold t8 t7;obtain⟨tch1,Q⟩:=KS (T:=T) (b:=b) (B:=B) (O:=O) (at_:=at_) (w:=w) (x:=x) (tch:=[10]) (ex:=10) hN U X hz;have t2:=fun K=>l8 (K:=K) (x:=x) U
 have t3:=fun K=>Hb (K:=K) (x:=x) hR V
 have N:lz (ci x)<=cp:=by
  have:=Oi x
  have h2:lz x.args*8<=cp:=V;simp only[cp]at h2|-;omega
 have go:∀w':List Bool,lz w'=n->∃(Y:PF->List Nat->PF)(TC:PF->List Nat->List Nat),∀(fr:PF)(tch:List Nat),FR fr 7=.ptr 8 0 0->FR fr 47=.msl 11 0 (lz (ci x)) 1->FR fr 48=.int .i64 (lz (ci x):Int)->FR fr 49=.int .i64 0 ->
  evP ⟨A0,T,A2⟩ (.code (.loop Fi) fr ⟨Y5 B O b at_ n [.row 1 [x.F] 8,.row 0 (ints (ci x)) 1] (bools w'),10,tch⟩)=zs (.ok (.exit 2) (Y fr tch) ⟨Y5 B O b at_ n [.row 1 [x.F] 8,.row 0 (ints (ci x)) 1] (bools ((ci x).foldl Kd w')),10,TC fr tch⟩)/\∀y∈TC fr tch,y∈tch\/y=7:=fun w' J=>EF EN (fun _=>rfl) (fun _=>rfl) (fun _=>rfl) N H J
 have h0:¬0<=ch x:=by omega
 obtain⟨Y,TC,hl⟩:=go w X;have es:V8 w x=(ci x).foldl Kd w:=by unfold V8;rw[if_neg h0]
 have G:decide (0<=ch x)=zf:=by simp[h0]
 have C:=fun fr tch a b c d=>(hl fr tch a b c d).1
 rw[es];unfold Y5 at Q C|-;simp only[Blk.F,Ins.F,zqb,zqc]at Q t2 t3 C|-;simp only[X8,m2,Kv,h5,h7,Q,t2,t3,G,C,C8,C9,D1,D2,D3,D4,Q8,H2,H3,H4,H5,H6,H7,zqa,XP,seval];exact⟨_,_,rfl⟩
end
def Zf(l:List Ins):Nat->List Bool×List (List Bool)->List Bool×List (List Bool)
 |0,s=>s
 |k+1,s=>Zf l k (match l[k]? with|some x=>(V8 s.1 x,Xe x s.1 s.2)|none=>s)
def wN(b:Blk)(w:List Bool)(O:List (List Bool)):List Bool×List (List Bool):=Zf b.code (lz b.code) (na b w,O)
section
variable {c:Cod}{b:Blk}{B O:List (List Bool)}{at_ n r:Nat}{w:List Bool}{x:Ins}{tch:List Nat}{fr:PF}
theorem YQ(X:T 31=zn)(Y:T 32=zs B7)(hR:T 53=zs C7)(hP:T 27=zn)(hb:WOk n b)(hs:n<=cp)(hO:B3 n n O){w0:List Bool}(N:lz w0=n){ex:Nat}:
 ∃ TC:PF->List Nat->List Nat,∀(fr:PF)(tch:List Nat),FR fr 5=.ptr 7 0 0->FR fr 7=.ptr 9 0 0->FR fr 32=.fn (.func 67) [] [.ptr 10 0 0] ->
   evP ⟨A0,T,A2⟩ (.code (.rfn (.tmp 32) [33,34] t8 t7) fr ⟨M8 B O b at_ n [] (bools w0),ex,tch⟩)=zs (.ok .normal fr ⟨M8 B (Zf b.code (lz b.code) (w0,O)).2 b at_ n [] (bools (Zf b.code (lz b.code) (w0,O)).1),ex,TC fr tch⟩):=by
 have H:∀x:PF×List Nat,∃y:List Nat,FR x.1 5=.ptr 7 0 0->FR x.1 7=.ptr 9 0 0->FR x.1 32=.fn (.func 67) [] [.ptr 10 0 0] ->
  evP ⟨A0,T,A2⟩ (.code (.rfn (.tmp 32) [33,34] t8 t7) x.1 ⟨M8 B O b at_ n [] (bools w0),ex,x.2⟩)=zs (.ok .normal x.1 ⟨M8 B (Zf b.code (lz b.code) (w0,O)).2 b at_ n [] (bools (Zf b.code (lz b.code) (w0,O)).1),ex,y⟩):=fun x=>by
  by_cases h:FR x.1 5=.ptr 7 0 0/\FR x.1 7=.ptr 9 0 0/\FR x.1 32=.fn (.func 67) [] [.ptr 10 0 0]
  . obtain ⟨K',h1,w',C,D,rfl,U,G,I⟩:=tL (T:=T) (l:=b.code) (f:=(b.code.map Ins.F).isEmpty) (fr:=x.1) (g:=.tmp 32) (ps:=[33,34]) (ca:=t8) (cb:=t7) (b:=10) (K:=⟨M8 B O b at_ n [] (bools w0),ex,x.2⟩)
     (Inv:=fun i K=>∃w C tch,K=⟨M8 B C b at_ n [] (bools w),11,tch⟩/\lz w=n/\B3 n n C/\Zf b.code i (w,C)=Zf b.code (lz b.code) (w0,O)) hb.sz hb.ln h.2.2
     (fun i K _ Q=>by obtain⟨w,C,tch,rfl,_⟩:=Q;rfl)
     (fun i hi K Q=>by
       obtain⟨w,C,tch,rfl,U,G,I⟩:=Q;have J:=zqe hi;obtain⟨V,D,h6⟩:=YN (T:=T) (b:=b) (B:=B) (O:=C) (at_:=at_) (n:=n) (kk:=i) (w:=w) (x:=b.code[i]) (fr:=x.1) X Y hR hP G (hb.ok _ J) U hs (hb.wr _ J) (hb.rd _ J) h.1 h.2.1;refine⟨V,_,h6,V8 w b.code[i],Xe b.code[i] w C,D++tch,rfl,(Bv _ _).trans U,B3.sees (hb.wr _ J) _ _ (by omega) G,?_⟩;rw[Zf,zqh hi]at I;exact I)
     ⟨w0,O,[],rfl,N,hO,rfl⟩
    exact⟨_,fun _ _ _=>by rw[h1];rw[Zf]at I;rw[<-I]⟩
  . exact⟨[],fun a b c=>absurd ⟨a,b,c⟩ h⟩
 exact⟨fun fr tch=>(H (fr,tch)).choose,fun fr tch=>(H (fr,tch)).choose_spec⟩
theorem kI(H:T 30=zn)(I:T 52=zn)(J:T 51=zs D6)(Y:T 31=zn)(hW:T 32=zs B7)(hR:T 53=zs C7)(hP:T 27=zn)(hb:WOk n b)(hs:n<=cp)(hO:B3 n n O)(hB:at_<lz B)(hl:lz (B.getD at_ [])=n):
 ∃G,evP ⟨A0,T,A2⟩ (.call 30 [b.F,.msl 5 0 n 1,.fn (.func 31) [] [.ptr 1 0 0]] ⟨[.row 1 [.msl 3 0 n 1] 1,.row 1 [.fn (.func 27) [] [.ptr 0 0 0]] 1,.row 0 (tab B) 1,.row 0 (tab O) 1,.row 1 [b.F] 5,.sub 2 at_ 0],0,tch⟩)=zs (.val [.msl 8 0 n 1] ⟨M8 B (wN b (B.getD at_ []) O).2 b at_ n [] (bools (wN b (B.getD at_ []) O).1),0,G⟩):=by
 have N:=K6 hB;have Q:∀os,cd os 6 5=zs (0,bools (B.getD at_ []),1)->gb os [.msl 5 0 n 1]=zs [Vx (bools (B.getD at_ []))]:=fun os h=>by
  have e:gh os (.msl 5 0 n 1)=zs (Vx (bools (B.getD at_ []))):=by
   show(match cd os 6 5 with|some (k,es,z)=>(if k=0/\1=z/\0+n<=lz es then(match frzL ((es.drop 0).take n)with|some es=>zs (Vx es)|none=>zn)else zn)|none=>zn)=_
   rw[h];dsimp only;rw[if_pos ⟨rfl,rfl,by rw[zqa];omega⟩,zqu,zqn (by rw[zqa];omega),ip]
  show gu (gh os (.msl 5 0 n 1)) (zs [])=_
  rw[e];rfl
 have tc:=fun K (h:gb K.os [.msl 5 0 n 1]=zs [Vx (bools (B.getD at_ []))])=>E6 (E:=A0) (F:=A2) (K:=K) J h (y3 (by rw[hl];omega)) (by simp only[iq,XP,seval])
 have U:=fun K=>Up (K:=K) (l:=b.code) I
 obtain⟨TC,C⟩:=YQ (T:=T) (ex:=6) (b:=b) (B:=B) (O:=O) (at_:=at_) (n:=n) (w0:=na b (B.getD at_ [])) Y hW hR hP hb hs hO ((Fu _ _).trans hl);rw[g9 H rfl,A7 (c:=AH) (nt:=58) (rs:=[.tmp 6]) rfl (by simp)];unfold AH wN;by_cases e1:b.e.kind=1
 . rw[show na b (B.getD at_ [])=B.getD at_ [] by unfold na;rw[if_neg (fun h=>h.1 e1)]]at C|-
   unfold M8 at C|-;simp only[Blk.F,zqb,zqc]at C|-;simp only[N,U,tc,Q,eq_true e1,C,hl,zqa,C8,C9,D1,D2,D3,D4,Q8,H2,H3,H4,H5,H6,H7,XP,seval];exact⟨_,rfl⟩
 by_cases e2:0<=b.e.a
 . obtain⟨d,X⟩:=zkf e2
   have V:d<n:=by have:=hb.ea e1;omega
   have hg:=D9 (l:=B.getD at_ []) (i:=d) (by omega);rw[show na b (B.getD at_ [])=(B.getD at_ []).set d zt by unfold na;rw[if_pos ⟨e1,e2⟩,X];rfl]at C|-;have D:decide (0<=(d:Int))=zt:=by simp
   unfold M8 at C|-;simp only[Blk.F,zqb,zqc,X]at C|-;simp only[N,U,tc,Q,e1,D,V,hg,P0,C,hl,zqa,C8,C9,D1,D2,D3,D4,Q8,H2,H3,H4,H5,H6,H7,XP,seval];exact⟨_,rfl⟩
 . rw[show na b (B.getD at_ [])=B.getD at_ [] by unfold na;rw[if_neg (fun h=>e2 h.2)]]at C|-
   have D:decide (0<=b.e.a)=zf:=by simp[e2]
   unfold M8 at C|-;simp only[Blk.F,zqb,zqc]at C|-;simp only[N,U,tc,Q,e1,D,C,hl,zqa,C8,C9,D1,D2,D3,D4,Q8,H2,H3,H4,H5,H6,H7,XP,seval];exact⟨_,rfl⟩
theorem YR(G:T 30=zn)(H:T 52=zn)(I:T 51=zs D6)(U:T 31=zn)(V:T 32=zs B7)(X:T 53=zs C7)(Y:T 27=zn)(C:at_<lz c.blocks)(hb:WOk n c.blocks[at_])(hbl:lz c.blocks<=60000)(hs:n<=cp)(hO:B3 n n O)(D:B3 (lz c.blocks) n B):
 evP ⟨A0,T,A2⟩ (.code Me [(3,.ptr 0 0 0),(4,.ptr 1 0 0),(6,.msl 2 0 (lz c.blocks) 1),(57,Vx (c.blocks.map Blk.F)),(58,.int .i64 (lz c.blocks:Int)),(59,.int .i64 (at_:Int))] ⟨[.row 1 [.msl 3 0 n 1] 1,.row 1 [.fn (.func 27) [] [.ptr 0 0 0]] 1,.row 0 (tab B) 1,.row 0 (tab O) 1],0,[]⟩)=zs (.ok .normal [(3,.ptr 0 0 0),(4,.ptr 1 0 0),(6,.msl 2 0 (lz c.blocks) 1),(57,Vx (c.blocks.map Blk.F)),(58,.int .i64 (lz c.blocks:Int)),(59,.int .i64 ((at_+1:Nat):Int))] ⟨[.row 1 [.msl 3 0 n 1] 1,.row 1 [.fn (.func 27) [] [.ptr 0 0 0]] 1,.row 0 (tab B) 1,.row 0 (tab (wN c.blocks[at_] (B.getD at_ []) O).2) 1],0,[]⟩):=by
 obtain⟨tch',h⟩:=kI (T:=T) (b:=c.blocks[at_]) (B:=B) (O:=O) (at_:=at_) (n:=n) (tch:=[4]) G H I U V X Y hb hs hO (by rw[D.1];exact C) (D.get C);unfold Me;have J:decide ((at_:Int)<(lz c.blocks:Int))=zt:=by simp[C]
 have N:=A8 (i:=at_) (by omega);have Q:=B9 (F:=Blk.F) C;have h3:=K6 (A:=B) (i:=at_) (by rw[D.1];exact C);have hl:=D.get C;generalize c.blocks[at_]=b at h Q|-;unfold M8 at h;simp only[Blk.F,zqb,zqc]at h Q|-;simp only[J,N,Q,h3,hl,C,h,zqa,C8,C9,D1,D2,D3,D4,Q8,H2,H3,H4,H5,H6,H7,XP,seval]
theorem YS(X:T 31=zn)(Y:T 32=zs B7)(hR:T 53=zs C7)(hz:n=0)(hb:WOk n b)(hs:n<=cp)(hO:B3 n n O){w0:List Bool}(N:lz w0=n){ex:Nat}:
 ∃ TC:PF->List Nat->List Nat,∀(fr:PF)(tch:List Nat),FR fr 5=.ptr 6 0 0->FR fr 7=.ptr 8 0 0->FR fr 32=.fn (.func 67) [] [.ptr 9 0 0] ->
   evP ⟨A0,T,A2⟩ (.code (.rfn (.tmp 32) [33,34] t8 t7) fr ⟨Y5 B O b at_ n [] (bools w0),ex,tch⟩)=zs (.ok .normal fr ⟨Y5 B (Zf b.code (lz b.code) (w0,O)).2 b at_ n [] (bools (Zf b.code (lz b.code) (w0,O)).1),ex,TC fr tch⟩):=by
 have G:∀x:PF×List Nat,∃y:List Nat,FR x.1 5=.ptr 6 0 0->FR x.1 7=.ptr 8 0 0->FR x.1 32=.fn (.func 67) [] [.ptr 9 0 0] ->
  evP ⟨A0,T,A2⟩ (.code (.rfn (.tmp 32) [33,34] t8 t7) x.1 ⟨Y5 B O b at_ n [] (bools w0),ex,x.2⟩)=zs (.ok .normal x.1 ⟨Y5 B (Zf b.code (lz b.code) (w0,O)).2 b at_ n [] (bools (Zf b.code (lz b.code) (w0,O)).1),ex,y⟩):=fun x=>by
  by_cases h:FR x.1 5=.ptr 6 0 0/\FR x.1 7=.ptr 8 0 0/\FR x.1 32=.fn (.func 67) [] [.ptr 9 0 0]
  . obtain ⟨K',h1,w',C,D,rfl,U,H,I⟩:=tL (T:=T) (l:=b.code) (f:=(b.code.map Ins.F).isEmpty) (fr:=x.1) (g:=.tmp 32) (ps:=[33,34]) (ca:=t8) (cb:=t7) (b:=9) (K:=⟨Y5 B O b at_ n [] (bools w0),ex,x.2⟩)
     (Inv:=fun i K=>∃w C tch,K=⟨Y5 B C b at_ n [] (bools w),10,tch⟩/\lz w=n/\B3 n n C/\Zf b.code i (w,C)=Zf b.code (lz b.code) (w0,O)) hb.sz hb.ln h.2.2
     (fun i K _ Q=>by obtain⟨w,C,tch,rfl,_⟩:=Q;rfl)
     (fun i hi K Q=>by
       obtain⟨w,C,tch,rfl,U,H,I⟩:=Q;have J:=zqe hi;obtain⟨V,D,h6⟩:=YO (T:=T) (b:=b) (B:=B) (O:=C) (at_:=at_) (n:=n) (kk:=i) (w:=w) (x:=b.code[i]) (fr:=x.1) X Y hR hz (hb.ok _ J) U hs (hb.wr _ J) (hb.rd _ J) h.1 h.2.1;refine⟨V,_,h6,V8 w b.code[i],Xe b.code[i] w C,D++tch,rfl,(Bv _ _).trans U,B3.sees (hb.wr _ J) _ _ (by omega) H,?_⟩;rw[Zf,zqh hi]at I;exact I)
     ⟨w0,O,[],rfl,N,hO,rfl⟩
    exact⟨_,fun _ _ _=>by rw[h1];rw[Zf]at I;rw[<-I]⟩
  . exact⟨[],fun a b c=>absurd ⟨a,b,c⟩ h⟩
 exact⟨fun fr tch=>(G (fr,tch)).choose,fun fr tch=>(G (fr,tch)).choose_spec⟩
theorem kJ(H:T 30=zn)(I:T 52=zn)(J:T 51=zs D6)(V:T 31=zn)(X:T 32=zs B7)(Y:T 53=zs C7)(hz:n=0)(hb:WOk n b)(hs:n<=cp)(hO:B3 n n O)(hB:at_<lz B)(hl:lz (B.getD at_ [])=n):
 ∃C,evP ⟨A0,T,A2⟩ (.call 30 [b.F,.msl 4 0 n 1,.fn (.func 31) [] [.ptr 1 0 0]] ⟨[.row 1 [.x0a] 1,.row 1 [.fn (.func 27) [] [.ptr 0 0 0]] 1,.row 0 (tab B) 1,.row 1 [b.F] 5,.sub 2 at_ 0],0,tch⟩)=zs (.val [.msl 7 0 n 1] ⟨Y5 B (wN b (B.getD at_ []) O).2 b at_ n [] (bools (wN b (B.getD at_ []) O).1),0,C⟩):=by
 have N:=K6 hB;have Q:∀os,cd os 6 4=zs (0,bools (B.getD at_ []),1)->gb os [.msl 4 0 n 1]=zs [Vx (bools (B.getD at_ []))]:=fun os h=>by
  have e:gh os (.msl 4 0 n 1)=zs (Vx (bools (B.getD at_ []))):=by
   show(match cd os 6 4 with|some (k,es,z)=>(if k=0/\1=z/\0+n<=lz es then(match frzL ((es.drop 0).take n)with|some es=>zs (Vx es)|none=>zn)else zn)|none=>zn)=_
   rw[h];dsimp only;rw[if_pos ⟨rfl,rfl,by rw[zqa];omega⟩,zqu,zqn (by rw[zqa];omega),ip]
  show gu (gh os (.msl 4 0 n 1)) (zs [])=_
  rw[e];rfl
 have tc:=fun K (h:gb K.os [.msl 4 0 n 1]=zs [Vx (bools (B.getD at_ []))])=>E6 (E:=A0) (F:=A2) (K:=K) J h (y3 (by rw[hl];omega)) (by simp only[iq,XP,seval])
 have U:=fun K=>Up (K:=K) (l:=b.code) I
 obtain ⟨TC,G⟩:=YS (T:=T) (ex:=5) (b:=b) (B:=B) (O:=O) (at_:=at_) (n:=n) (w0:=na b (B.getD at_ [])) V X Y hz hb hs hO ((Fu _ _).trans hl);rw[g9 H rfl,A7 (c:=AH) (nt:=58) (rs:=[.tmp 6]) rfl (by simp)];unfold AH wN;have hnn:∀i:Nat,(na b (B.getD at_ []))=B.getD at_ []:=fun _=>by
  unfold na;split
  . rename_i h;have:=hb.ea h.1;omega
  . rfl
 rw[hnn 0]at G|-;unfold Y5 at G|-;simp only[Blk.F,zqb,zqc]at G|-;by_cases e1:b.e.kind=1
 . simp only[N,U,tc,Q,eq_true e1,G,hl,zqa,C8,C9,D1,D2,D3,D4,Q8,H2,H3,H4,H5,H6,H7,XP,seval]
   exact⟨_,rfl⟩
 . have e2:¬0<=b.e.a:=by have:=hb.ea e1;omega
   have D:decide (0<=b.e.a)=zf:=by simp[e2]
   simp only[N,U,tc,Q,e1,D,G,hl,zqa,C8,C9,D1,D2,D3,D4,Q8,H2,H3,H4,H5,H6,H7,XP,seval];exact⟨_,rfl⟩
theorem YT(G:T 30=zn)(H:T 52=zn)(I:T 51=zs D6)(U:T 31=zn)(V:T 32=zs B7)(X:T 53=zs C7)(hz:n=0)(C:at_<lz c.blocks)(hb:WOk n c.blocks[at_])(hbl:lz c.blocks<=60000)(Y:n<=cp)(hO:B3 n n O)(D:B3 (lz c.blocks) n B):
 evP ⟨A0,T,A2⟩ (.code Me [(3,.ptr 0 0 0),(4,.ptr 1 0 0),(6,.msl 2 0 (lz c.blocks) 1),(57,Vx (c.blocks.map Blk.F)),(58,.int .i64 (lz c.blocks:Int)),(59,.int .i64 (at_:Int))] ⟨[.row 1 [.x0a] 1,.row 1 [.fn (.func 27) [] [.ptr 0 0 0]] 1,.row 0 (tab B) 1],0,[]⟩)=zs (.ok .normal [(3,.ptr 0 0 0),(4,.ptr 1 0 0),(6,.msl 2 0 (lz c.blocks) 1),(57,Vx (c.blocks.map Blk.F)),(58,.int .i64 (lz c.blocks:Int)),(59,.int .i64 ((at_+1:Nat):Int))] ⟨[.row 1 [.x0a] 1,.row 1 [.fn (.func 27) [] [.ptr 0 0 0]] 1,.row 0 (tab B) 1],0,[]⟩):=by
 obtain⟨tch',h⟩:=kJ (T:=T) (b:=c.blocks[at_]) (B:=B) (O:=O) (at_:=at_) (n:=n) (tch:=[3]) G H I U V X hz hb Y hO (by rw[D.1];exact C) (D.get C);unfold Me;have J:decide ((at_:Int)<(lz c.blocks:Int))=zt:=by simp[C]
 have N:=A8 (i:=at_) (by omega);have Q:=B9 (F:=Blk.F) C;have h3:=K6 (A:=B) (i:=at_) (by rw[D.1];exact C);have hl:=D.get C;generalize c.blocks[at_]=b at h Q|-;unfold Y5 at h;simp only[Blk.F,zqb,zqc]at h Q|-;simp only[J,N,Q,h3,hl,C,h,zqa,C8,C9,D1,D2,D3,D4,Q8,H2,H3,H4,H5,H6,H7,XP,seval]
end
def kK(c:Cod)(A:List (List Bool))(a:Nat):Nat->Nat->List (List Bool)->List (List Bool)
 |0,_,O=>O
 |k+1,b,O=>kK c A a k (b+1) (if Ke c A a&&Ke c A b then mc a b O else O)
def xy(c:Cod)(A:List (List Bool)):Nat->Nat->List (List Bool)->List (List Bool)
 |0,_,O=>O
 |k+1,a,O=>xy c A k (a+1) (kK c A a a 0 O)
def wl(l:List Blk)(B:List (List Bool)):Nat->Nat->List (List Bool)->List (List Bool)
 |0,_,O=>O
 |k+1,i,O=>wl l B k (i+1) (match l[i]? with|some b=>(wN b (B.getD i []) O).2|none=>O)
def gt(c:Cod):List (List Bool):=wl c.blocks (iu c).2.1 (lz c.blocks) 0 (xy c (iu c).1 (lz c.x0g) 0 (gk (lz c.x0g) (lz c.x0g)))
theorem Kg{c:Cod}{A:List (List Bool)}{n a:Nat}(ha:a<n):∀(k b:Nat){O:List (List Bool)},b+k<=n->B3 n n O->B3 n n (kK c A a k b O)
 |0,b,O,_,h=>h
 |k+1,b,O,e,h=>by
  unfold kK;refine Kg ha k (b+1) (by omega) ?_;split
  . exact h.pair ha (by omega)
  . exact h
theorem Kh{c:Cod}{A:List (List Bool)}{n:Nat}:∀(k a:Nat){O:List (List Bool)},a+k<=n->B3 n n O->B3 n n (xy c A k a O)
 |0,a,O,_,h=>h
 |k+1,a,O,e,h=>Kh k (a+1) (by omega) (Kg (by omega) a 0 (by omega) h)
theorem Ok{n:Nat}{b:Blk}(hb:WOk n b):∀(k:Nat){s:List Bool×List (List Bool)},lz s.1=n->B3 n n s.2->B3 n n (Zf b.code k s).2
 |0,s,_,h=>h
 |k+1,s,hl,h=>by
  unfold Zf;cases D:b.code[k]? with
  |none=>exact Ok hb k hl h
  |some x=>
   have C:=List.mem_of_getElem? D;exact Ok hb k (s:=(V8 s.1 x,Xe x s.1 s.2)) ((Bv _ _).trans hl) (B3.sees (hb.wr _ C) _ _ (by omega) h)
theorem Zg{n:Nat}{b:Blk}(hb:WOk n b){w:List Bool}{O:List (List Bool)}(C:lz w=n)(h:B3 n n O):B3 n n (wN b w O).2:=Ok hb _ ((Fu _ _).trans C) h
section
variable {c:Cod}{A B O:List (List Bool)}{a b i n:Nat}{tch:List Nat}
theorem KT{K:PK}:∃fr',evP ⟨A0,T,A2⟩ (.code Yk [(1,.ptr 0 0 0),(3,.ptr 1 0 0),(4,.ptr 2 0 0),(6,.msl 3 0 (lz c.blocks) 1),(7,.fn (.func 29) [] [.ptr 0 0 0,.ptr 4 0 0]),(8,.int .i64 (a:Int)),(34,.int .i64 (lz c.x0g:Int)),(35,.int .i64 (a:Int)),(38,.int .i64 (a:Int)),(39,.int .i64 (a:Int))] K)=zs (.ok (.exit 4) fr' K)/\(FR fr' 1=.ptr 0 0 0/\FR fr' 3=.ptr 1 0 0/\FR fr' 4=.ptr 2 0 0/\FR fr' 6=.msl 3 0 (lz c.blocks) 1/\FR fr' 7=.fn (.func 29) [] [.ptr 0 0 0,.ptr 4 0 0]/\FR fr' 34=.int .i64 (lz c.x0g:Int)/\FR fr' 35=.int .i64 (a:Int)):=by
 unfold Yk;have C:decide ((a:Int)<(a:Int))=zf:=by simp
 simp only[C,XP,seval];exact⟨_,rfl,rfl,rfl,rfl,rfl,rfl,rfl,rfl⟩
theorem BL(D:T 27=zn)(G:T 29=zn)(ha:a<lz c.x0g)(H:lz c.x0g*24<=cp)(h0:0<lz c.blocks)(I:B3 (lz c.blocks) (lz c.x0g) A):∀(k b:Nat)(O:List (List Bool)),a=b+k->B3 (lz c.x0g) (lz c.x0g) O ->
 ∃fr',evP ⟨A0,T,A2⟩ (.code (.loop Yk) [(1,.ptr 0 0 0),(3,.ptr 1 0 0),(4,.ptr 2 0 0),(6,.msl 3 0 (lz c.blocks) 1),(7,.fn (.func 29) [] [.ptr 0 0 0,.ptr 4 0 0]),(8,.int .i64 (a:Int)),(34,.int .i64 (lz c.x0g:Int)),(35,.int .i64 (a:Int)),(38,.int .i64 (a:Int)),(39,.int .i64 (b:Int))] ⟨[.row 1 [c.F] 5,.row 1 [.msl 5 0 (lz c.x0g) 1] 1,.row 1 [.fn (.func 27) [] [.ptr 1 0 0]] 1,.row 0 (tab B) 1,.row 1 [.msl 6 0 (lz c.blocks) 1] 1,.row 0 (tab O) 1,.row 0 (tab A) 1],0,[]⟩)=zs (.ok (.exit 4) fr' ⟨[.row 1 [c.F] 5,.row 1 [.msl 5 0 (lz c.x0g) 1] 1,.row 1 [.fn (.func 27) [] [.ptr 1 0 0]] 1,.row 0 (tab B) 1,.row 1 [.msl 6 0 (lz c.blocks) 1] 1,.row 0 (tab (kK c A a k b O)) 1,.row 0 (tab A) 1],0,[]⟩)/\(FR fr' 1=.ptr 0 0 0/\FR fr' 3=.ptr 1 0 0/\FR fr' 4=.ptr 2 0 0/\FR fr' 6=.msl 3 0 (lz c.blocks) 1/\FR fr' 7=.fn (.func 29) [] [.ptr 0 0 0,.ptr 4 0 0]/\FR fr' 34=.int .i64 (lz c.x0g:Int)/\FR fr' 35=.int .i64 (a:Int))
 |0,b,O,e,hO=>by
  obtain rfl:b=a:=by omega
  obtain⟨fr',h,C⟩:=KT (T:=T) (c:=c) (a:=b) (K:=⟨[.row 1 [c.F] 5,.row 1 [.msl 5 0 (lz c.x0g) 1] 1,.row 1 [.fn (.func 27) [] [.ptr 1 0 0]] 1,.row 0 (tab B) 1,.row 1 [.msl 6 0 (lz c.blocks) 1] 1,.row 0 (tab O) 1,.row 0 (tab A) 1],0,[]⟩);exact⟨fr',B4 h,C⟩
 |k+1,b,O,e,hO=>by
  have h:=KM (T:=T) (c:=c) (A:=A) (B:=B) (a:=a) (b:=b) D G (by omega) ha H h0 I hO;obtain⟨fr',h',C⟩:=BL D G ha H h0 I k (b+1) (if Ke c A a&&Ke c A b then mc a b O else O) (by omega) (by
   split
   . exact hO.pair ha (by omega)
   . exact hO)
  exact⟨fr',(B0 h).trans h',C⟩
theorem KU(H:T 27=zn)(I:T 29=zn)(ha:a<lz c.x0g)(G:lz c.x0g*24<=cp)(h0:0<lz c.blocks)(J:B3 (lz c.blocks) (lz c.x0g) A)(N:B3 (lz c.x0g) (lz c.x0g) O):
 evP ⟨A0,T,A2⟩ (.code Yl [(1,.ptr 0 0 0),(3,.ptr 1 0 0),(4,.ptr 2 0 0),(6,.msl 3 0 (lz c.blocks) 1),(7,.fn (.func 29) [] [.ptr 0 0 0,.ptr 4 0 0]),(34,.int .i64 (lz c.x0g:Int)),(35,.int .i64 (a:Int))] ⟨[.row 1 [c.F] 5,.row 1 [.msl 5 0 (lz c.x0g) 1] 1,.row 1 [.fn (.func 27) [] [.ptr 1 0 0]] 1,.row 0 (tab B) 1,.row 1 [.msl 6 0 (lz c.blocks) 1] 1,.row 0 (tab O) 1,.row 0 (tab A) 1],0,[]⟩)=zs (.ok .normal [(1,.ptr 0 0 0),(3,.ptr 1 0 0),(4,.ptr 2 0 0),(6,.msl 3 0 (lz c.blocks) 1),(7,.fn (.func 29) [] [.ptr 0 0 0,.ptr 4 0 0]),(34,.int .i64 (lz c.x0g:Int)),(35,.int .i64 ((a+1:Nat):Int))] ⟨[.row 1 [c.F] 5,.row 1 [.msl 5 0 (lz c.x0g) 1] 1,.row 1 [.fn (.func 27) [] [.ptr 1 0 0]] 1,.row 0 (tab B) 1,.row 1 [.msl 6 0 (lz c.blocks) 1] 1,.row 0 (tab (kK c A a a 0 O)) 1,.row 0 (tab A) 1],0,[]⟩):=by
 obtain⟨fr',h,Q,U,V,X,Y,k6,k7⟩:=BL (T:=T) (c:=c) (A:=A) (B:=B) (a:=a) H I ha G h0 J a 0 O (by omega) N;unfold Yl;have C:decide ((a:Int)<(lz c.x0g:Int))=zt:=by simp[ha]
 have D:=A8 (i:=a) (by simp only[cp]at G;omega);rw[show((0:Nat):Int)=0 from rfl]at h;simp only[Cod.F]at h|-;simp only[C,D,h,Q,U,V,X,Y,k6,k7,C8,C9,D1,D2,D3,D4,Q8,H2,H3,H4,H5,H6,H7,XP,seval]
theorem BM{K:PK}:∃fr',evP ⟨A0,T,A2⟩ (.code Yl [(1,.ptr 0 0 0),(3,.ptr 1 0 0),(4,.ptr 2 0 0),(6,.msl 3 0 (lz c.blocks) 1),(7,.fn (.func 29) [] [.ptr 0 0 0,.ptr 4 0 0]),(34,.int .i64 (lz c.x0g:Int)),(35,.int .i64 (lz c.x0g:Int))] K)=zs (.ok (.exit 2) fr' K)/\(FR fr' 1=.ptr 0 0 0/\FR fr' 3=.ptr 1 0 0/\FR fr' 4=.ptr 2 0 0/\FR fr' 6=.msl 3 0 (lz c.blocks) 1):=by
 unfold Yl;have C:decide ((lz c.x0g:Int)<(lz c.x0g:Int))=zf:=by simp
 simp only[C,XP,seval];exact⟨_,rfl,rfl,rfl,rfl,rfl⟩
theorem BN(D:T 27=zn)(G:T 29=zn)(H:lz c.x0g*24<=cp)(h0:0<lz c.blocks)(I:B3 (lz c.blocks) (lz c.x0g) A):∀(k a:Nat)(O:List (List Bool)),lz c.x0g=a+k->B3 (lz c.x0g) (lz c.x0g) O ->
 ∃fr',evP ⟨A0,T,A2⟩ (.code (.loop Yl) [(1,.ptr 0 0 0),(3,.ptr 1 0 0),(4,.ptr 2 0 0),(6,.msl 3 0 (lz c.blocks) 1),(7,.fn (.func 29) [] [.ptr 0 0 0,.ptr 4 0 0]),(34,.int .i64 (lz c.x0g:Int)),(35,.int .i64 (a:Int))] ⟨[.row 1 [c.F] 5,.row 1 [.msl 5 0 (lz c.x0g) 1] 1,.row 1 [.fn (.func 27) [] [.ptr 1 0 0]] 1,.row 0 (tab B) 1,.row 1 [.msl 6 0 (lz c.blocks) 1] 1,.row 0 (tab O) 1,.row 0 (tab A) 1],0,[]⟩)=zs (.ok (.exit 2) fr' ⟨[.row 1 [c.F] 5,.row 1 [.msl 5 0 (lz c.x0g) 1] 1,.row 1 [.fn (.func 27) [] [.ptr 1 0 0]] 1,.row 0 (tab B) 1,.row 1 [.msl 6 0 (lz c.blocks) 1] 1,.row 0 (tab (xy c A k a O)) 1,.row 0 (tab A) 1],0,[]⟩)/\(FR fr' 1=.ptr 0 0 0/\FR fr' 3=.ptr 1 0 0/\FR fr' 4=.ptr 2 0 0/\FR fr' 6=.msl 3 0 (lz c.blocks) 1)
 |0,a,O,e,hO=>by
  obtain rfl:a=lz c.x0g:=by omega
  obtain⟨fr',h,C⟩:=BM (T:=T) (c:=c) (K:=⟨[.row 1 [c.F] 5,.row 1 [.msl 5 0 (lz c.x0g) 1] 1,.row 1 [.fn (.func 27) [] [.ptr 1 0 0]] 1,.row 0 (tab B) 1,.row 1 [.msl 6 0 (lz c.blocks) 1] 1,.row 0 (tab O) 1,.row 0 (tab A) 1],0,[]⟩);exact⟨fr',B4 h,C⟩
 |k+1,a,O,e,hO=>by
  have h:=KU (T:=T) (c:=c) (A:=A) (B:=B) (a:=a) D G (by omega) H h0 I hO;obtain⟨fr',h',C⟩:=BN D G H h0 I k (a+1) (kK c A a a 0 O) (by omega) (Kg (by omega) a 0 (by omega) hO);exact⟨fr',(B0 h).trans h',C⟩
theorem BO{K:PK}:∃fr',evP ⟨A0,T,A2⟩ (.code Me [(3,.ptr 0 0 0),(4,.ptr 1 0 0),(6,.msl 2 0 (lz c.blocks) 1),(57,Vx (c.blocks.map Blk.F)),(58,.int .i64 (lz c.blocks:Int)),(59,.int .i64 (lz c.blocks:Int))] K)=zs (.ok (.exit 6) fr' K)/\FR fr' 3=.ptr 0 0 0:=by
 unfold Me;have C:decide ((lz c.blocks:Int)<(lz c.blocks:Int))=zf:=by simp
 simp only[C,XP,seval];exact⟨_,rfl,rfl⟩
theorem tT(C:T 30=zn)(D:T 52=zn)(G:T 51=zs D6)(J:T 31=zn)(N:T 32=zs B7)(Q:T 53=zs C7)(U:T 27=zn)(hc:LOk c)(V:lz c.x0g<=cp)(H:B3 (lz c.blocks) (lz c.x0g) B):∀(k i:Nat)(O:List (List Bool)),lz c.blocks=i+k->B3 (lz c.x0g) (lz c.x0g) O ->
 ∃fr',evP ⟨A0,T,A2⟩ (.code (.loop Me) [(3,.ptr 0 0 0),(4,.ptr 1 0 0),(6,.msl 2 0 (lz c.blocks) 1),(57,Vx (c.blocks.map Blk.F)),(58,.int .i64 (lz c.blocks:Int)),(59,.int .i64 (i:Int))] ⟨[.row 1 [.msl 3 0 (lz c.x0g) 1] 1,.row 1 [.fn (.func 27) [] [.ptr 0 0 0]] 1,.row 0 (tab B) 1,.row 0 (tab O) 1],0,[]⟩)=zs (.ok (.exit 6) fr' ⟨[.row 1 [.msl 3 0 (lz c.x0g) 1] 1,.row 1 [.fn (.func 27) [] [.ptr 0 0 0]] 1,.row 0 (tab B) 1,.row 0 (tab (wl c.blocks B k i O)) 1],0,[]⟩)/\FR fr' 3=.ptr 0 0 0
 |0,i,O,e,hO=>by
  obtain rfl:i=lz c.blocks:=by omega
  obtain⟨fr',h,I⟩:=BO (T:=T) (c:=c) (K:=⟨[.row 1 [.msl 3 0 (lz c.x0g) 1] 1,.row 1 [.fn (.func 27) [] [.ptr 0 0 0]] 1,.row 0 (tab B) 1,.row 0 (tab O) 1],0,[]⟩);exact⟨fr',B4 h,I⟩
 |k+1,i,O,e,hO=>by
  have hi:i<lz c.blocks:=by omega
  have hb:=hc.wk _ (zqe hi);have h:=YR (T:=T) (c:=c) (B:=B) (at_:=i) (n:=lz c.x0g) C D G J N Q U hi hb hc.bl V hO H;have X:=Zg hb (H.get hi) hO;obtain⟨fr',h',I⟩:=tT C D G J N Q U hc V H k (i+1) (wN c.blocks[i] (B.getD i []) O).2 (by omega) X;refine⟨fr',(B0 h).trans ?_,I⟩;rw[wl,zqh hi];exact h'
theorem tU(C:T 30=zn)(D:T 52=zn)(G:T 51=zs D6)(I:T 31=zn)(J:T 32=zs B7)(N:T 53=zs C7)(hz:lz c.x0g=0)(hc:LOk c)(Q:lz c.x0g<=cp)(U:B3 (lz c.blocks) (lz c.x0g) B):∀(k i:Nat),lz c.blocks=i+k ->
 ∃fr',evP ⟨A0,T,A2⟩ (.code (.loop Me) [(3,.ptr 0 0 0),(4,.ptr 1 0 0),(6,.msl 2 0 (lz c.blocks) 1),(57,Vx (c.blocks.map Blk.F)),(58,.int .i64 (lz c.blocks:Int)),(59,.int .i64 (i:Int))] ⟨[.row 1 [.x0a] 1,.row 1 [.fn (.func 27) [] [.ptr 0 0 0]] 1,.row 0 (tab B) 1],0,[]⟩)=zs (.ok (.exit 6) fr' ⟨[.row 1 [.x0a] 1,.row 1 [.fn (.func 27) [] [.ptr 0 0 0]] 1,.row 0 (tab B) 1],0,[]⟩)/\FR fr' 3=.ptr 0 0 0
 |0,i,e=>by
  obtain rfl:i=lz c.blocks:=by omega
  obtain⟨fr',h,H⟩:=BO (T:=T) (c:=c) (K:=⟨[.row 1 [.x0a] 1,.row 1 [.fn (.func 27) [] [.ptr 0 0 0]] 1,.row 0 (tab B) 1],0,[]⟩);exact⟨fr',B4 h,H⟩
 |k+1,i,e=>by
  have hi:i<lz c.blocks:=by omega
  have hb:=hc.wk _ (zqe hi);have h:=YT (T:=T) (c:=c) (B:=B) (O:=gk (lz c.x0g) (lz c.x0g)) (at_:=i) (n:=lz c.x0g) C D G I J N hz hi hb hc.bl Q (O2 _ _) U;obtain⟨fr',h',H⟩:=tU C D G I J N hz hc Q U k (i+1) (by omega);exact⟨fr',(B0 h).trans h',H⟩
end
end Go.Proofs.AmEnv
