/- What this program's functions do, at any data. Conditions: none. -/
import Derived.Test.YtnglooakgahhhaaEnv
set_option linter.unusedVariables false
set_option linter.unusedSimpArgs false
set_option linter.unusedSectionVars false
set_option linter.defProp false
set_option maxRecDepth 100000
set_option maxHeartbeats 4000000
open Option renaming some→zs,none→zn
open Bool renaming true→zt,false→zf
open List renaming length_map→zqa,nodup_nil→zqb,nil_append→zqc,cons_append→zqd,append_nil→zqe,getElem?_eq_getElem→zqf,getElem_mem→zqg,replicate→zqh,drop_length→zqi,drop_eq_getElem_cons→zqj,take_of_length_le→zqk,getElem?_map→zql,map_append→zqm,findIdx?_eq_some_iff_getElem→zqn,length_zip→zqo,getD_eq_getElem?_getD→zqp,length_append→zqq,take_succ_eq_append_getElem→zqr,mem_singleton→zqs,findIdx?_eq_none_iff→zqt,length_set→zqu,contains_cons→zqv,contains_nil→zqw,headD_cons→zqx,length_eq_zero_iff→zqy
open Int renaming toNat_natCast→zqz,ofNat→zka,le_trans→zkb
open Bool renaming false_and→zkc,false_eq_true→zkd,or_true→zke,and_eq_true→zkf,or_false→zkg,or_eq_false_iff→zkh,eq_false_iff→zki
open Nat renaming ble_eq_true_of_le→zkj,le_refl→zkk
noncomputable section
namespace Go.Proofs.AmEnv
open Go Go.AM
variable {T:Nat->Option (List AV->Option (List AV))}
abbrev ints(l:List Int):List AV:=l.map (AV.int .i64)
theorem aG(l:List Int):Cz (ints l)=zt:=by
 induction l with
 |nil=>rfl
 |cons x l B=>exact B
theorem A8{l:List Int}{i:Nat}(h:i<l.length):(ints l)[i]?=zs (.int .i64 l[i]):=by
 unfold ints;rw[zql,zqf h];rfl
theorem pJ{l:List Int}{i:Nat}(h:i<l.length):ints (l.take i)++[.int .i64 l[i]]=ints (l.take (i+1)):=by
 unfold ints;rw[zqr h,zqm];rfl
section
variable {l:List Int}{f:Bool}{i:Nat}{x:Int}{es:List AV}
end
theorem ints_inj{l m:List Int}(h:ints l=ints m):l=m:=by
 induction l generalizing m with
 | nil=>cases m with
  |nil=>rfl
  |cons=>cases h
 | cons x l B=>cases m with
  |nil=>cases h
  |cons y m=>injection h with h1 h2;injection h1 with _ h1;rw[h1,B h2]
section
variable {l m:List Int}{f g:Bool}{i:Nat}
end
structure Ins where
 op:Int
 ty:Int
 dst:Int
 a:Int
 b:Int
 n:Int
 s:List UInt8
 args:List Int
deriving DecidableEq
abbrev bigN:Nat:=140737488355328
def Ins.F(x:Ins):AV:=.agg [.int .i64 x.op,.int .i64 x.ty,.int .i64 x.dst,.int .i64 x.a,.int .i64 x.b,.int .i64 x.n,.str x.s,fslN (ints x.args)]
def Ins.ok(x:Ins):Prop:=x.args.length*8<=bigN
theorem fslN_inj{l m:List AV}(h:fslN l=fslN m):l=m:=by unfold fslN at h;injection h
theorem Ins.F_inj{x y:Ins}(h:x.F=y.F):x=y:=by
 cases x;cases y;simp only[Ins.F,AV.agg.injEq,List.cons.injEq,AV.int.injEq,AV.str.injEq,true_and,and_true]at h;obtain⟨rfl,rfl,rfl,rfl,rfl,rfl,rfl,h⟩:=h;rw[ints_inj (fslN_inj h)]
def y0:=Bs (fun l:List Int=>[fslN (ints l)]) (fun l=>[ownd 0 1 (ints l)]) (fun l=>l.length*8<=bigN)
theorem aH{l:List Int}(h:l.length*8<=bigN):y0 [fslN (ints l)]=zs [ownd 0 1 (ints l)]:=D4 (a:=fun l:List Int=>[fslN (ints l)]) (fun x y e=>by injection e with e _;rw[ints_inj (fslN_inj e)]) l h
theorem frzL_ints(l:List Int):frzL (ints l)=zs (ints l):=Hs (f:=AV.int .i64) (g:=AV.int .i64) (fun _=>rfl) l
section
variable {T:Nat->Option (List AV->Option (List AV))}
theorem Xh(l:List Int):noFL (ints l)=zt:=by
 induction l with
 |nil=>rfl
 |cons x l B=>exact B
end
theorem Ins.viewF{os:List PO}(x:Ins):viewA os x.F=zs x.F:=by
 unfold Ins.F;simp only[frzL_ints,XP,seval]
theorem Ins.frzF(x:Ins):frzC x.F=zs x.F:=by
 unfold Ins.F;simp only[frzL_ints,XP,seval]
theorem A7{X:Type}{F:X->AV}{l:List X}{i:Nat}(h:i<l.length):(l.map F)[i]?=zs (F l[i]):=by rw[zql,zqf h];rfl
theorem map_take{X:Type}{F:X->AV}{l:List X}{i:Nat}(h:i<l.length):(l.take i).map F++[F l[i]]=(l.take (i+1)).map F:=by rw[zqr h,zqm];rfl
section
variable {l:List Ins}{f:Bool}{i:Nat}
end
theorem Li{X:Type}{F:X->AV}(B:∀x y,F x=F y->x=y):∀{l m:List X},l.map F=m.map F->l=m
 |[],[],_=>rfl
 |[],_::_,h=>by cases h
 |_::_,[],h=>by cases h
 |x::l,y::m,h=>by
  injection h with h1 h2
  rw[B _ _ h1,Li B h2]
section
variable {l m:List Ins}{i:Nat}
end
structure Endd where
 kind:Int
 a:Int
 to:Int
 els:Int
deriving DecidableEq
structure Blk where
 code:List Ins
 e:Endd
deriving DecidableEq
def Endd.F(e:Endd):AV:=.agg [.int .i64 e.kind,.int .i64 e.a,.int .i64 e.to,.int .i64 e.els]
def Blk.F(x:Blk):AV:=.agg [fslN (x.code.map Ins.F),.int .i64 x.e.kind,.int .i64 x.e.a,.int .i64 x.e.to,.int .i64 x.e.els]
def Blk.ok(x:Blk):Prop:=(∀y∈x.code,y.ok)/\x.code.length*88<=bigN
theorem Blk.F_inj{x y:Blk}(h:x.F=y.F):x=y:=by
 obtain⟨c,e⟩:=x;obtain⟨c',B⟩:=y;cases e;cases B;simp only[Blk.F,AV.agg.injEq,List.cons.injEq,AV.int.injEq,true_and,and_true]at h;obtain⟨h,rfl,rfl,rfl,rfl⟩:=h;rw[Li (fun _ _=>Ins.F_inj) (fslN_inj h)]
theorem frzL_insF(l:List Ins):frzL (l.map Ins.F)=zs (l.map Ins.F):=Hs Ins.frzF l
theorem Blk.frzF(x:Blk):frzC x.F=zs x.F:=by
 unfold Blk.F;simp only[frzL_insF,XP,seval]
section
variable {l:List Blk}{i:Nat}
end
structure Cod where
 name:List UInt8
 ty:Int
 ps:Int
 regs:List Int
 blocks:List Blk
deriving DecidableEq
def Cod.F(x:Cod):AV:=.agg [.str x.name,.int .i64 x.ty,.int .i64 x.ps,fslN (ints x.regs),fslN (x.blocks.map Blk.F)]
def Cod.ok(x:Cod):Prop:=x.regs.length*8<=bigN/\(∀y∈x.blocks,y.ok)/\x.blocks.length*56<=bigN
theorem Cod.F_inj{x y:Cod}(h:x.F=y.F):x=y:=by
 cases x;cases y;simp only[Cod.F,AV.agg.injEq,List.cons.injEq,AV.int.injEq,AV.str.injEq,true_and,and_true]at h;obtain⟨rfl,rfl,rfl,h1,h2⟩:=h;rw[ints_inj (fslN_inj h1),Li (fun _ _=>Blk.F_inj) (fslN_inj h2)]
theorem frzL_blkF(l:List Blk):frzL (l.map Blk.F)=zs (l.map Blk.F):=Hs Blk.frzF l
theorem Cod.viewF{os:List PO}(x:Cod):viewA os x.F=zs x.F:=by
 unfold Cod.F;simp only[frzL_blkF,frzL_ints,XP,seval]
theorem Cod.frzF(x:Cod):frzC x.F=zs x.F:=by
 unfold Cod.F;simp only[frzL_blkF,frzL_ints,XP,seval]
section
variable {l:List Int}
theorem xQ{t:Nat}{K:PK}(h:N6 env t=.slc):R1 env .eql t .nilsl .nilsl K=.val (.bool zt) K:=by rw[bp _ _ rfl rfl,h];rfl
theorem xR{t:Nat}{K:PK}(h:N6 env t=.slc):R1 env .eql t (.fsl [] zf) .nilsl K=.val (.bool zf) K:=by rw[bp _ _ rfl rfl,h];rfl
theorem tK{t:Nat}{K:PK}{e:AV}{es:List AV}(h:N6 env t=.slc):R1 env .eql t (fslN (e::es)) .nilsl K=.val (.bool zf) K:=by rw[bp _ _ rfl rfl,h];rfl
theorem EA(n:Nat):F2 n []=zt:=rfl
theorem pK:AM.Comes ⟨env,T,A1⟩ 40 [.nilsl] [ownd 0 1 (ints [])]:=by
 refine⟨[.nilsl],⟨[],0,[]⟩,?_,Y6 (.inl ⟨rfl,rfl,rfl⟩)⟩;rw[A5 (c:=AI) (nt:=8) (rs:=[.tmp 2]) rfl (by simp)];unfold AI K0;simp only[xQ (t:=26) rfl,XP,seval]
theorem pL:AM.Comes ⟨env,T,A1⟩ 40 [.fsl [] zf] [ownd 0 1 (ints [])]:=by
 refine⟨[.msl 0 0 0 1],⟨[.row 0 [] 1],0,[]⟩,?_,Y6 (.inr ⟨rfl,rfl⟩)⟩;rw[A5 (c:=AI) (nt:=8) (rs:=[.tmp 2]) rfl (by simp)];unfold AI K0;simp only[xR (t:=26) rfl,EA,XP,seval]
theorem lZ:∀l:List Int,F2 1 (ints l)=zt
 |[]=>rfl
 |x::l=>lZ l
theorem jF{x:Int}{l:List Int}(G:(x::l).length*8<=bigN):AM.Comes ⟨env,T,A1⟩ 40 [fslN (ints (x::l))] [ownd 0 1 (ints (x::l))]:=by
 refine⟨[.msl 0 0 (ints (x::l)).length 1],⟨[.row 0 (ints (x::l)) 1],0,[]⟩,?_,Y6 (.inr ⟨rfl,rfl⟩)⟩;rw[A5 (c:=AI) (nt:=8) (rs:=[.tmp 2]) rfl (by simp)];unfold AI K0;have h1:∀K:PK,R1 env .eql 26 (fslN (ints (x::l))) .nilsl K=.val (.bool zf) K:=fun K=>tK (t:=26) rfl
 have h2:=lZ (x::l);have B:(ints (x::l)).isEmpty=zf:=rfl;have D:(ints (x::l)).length*8<=140737488355328:=by simpa[bigN]using G
 generalize ints (x::l)=es at h1 h2 B D;simp only[h1,h2,B,D,XP,seval]
theorem tL{P:PE}(B:PEok P)(D:P=⟨env,T,A1⟩):TC P.E 40 y0:=by
 subst D;refine wK B (fun a args rs hg G ha=>?_) (by unfold y0 Bs;rw[dif_neg];rintro⟨x,_,h⟩;cases h);obtain⟨l,h1,h2,rfl⟩:=nP hg;injection h2 with h2 H
 subst h2 H;cases l with
 |nil=>
  rcases List.mem_cons.1 ha with rfl|ha
  . exact pK
  . obtain rfl:=zqs.1 ha;exact pL
 |cons x l=>
  obtain rfl:=zqs.1 (show G∈[fslN (ints (x::l))]from ha);exact jF h1
end
structure Glo where
 name:List UInt8
 ty:Int
 size:Int
 at_:Int
deriving DecidableEq
structure Modl where
 gs:List Glo
 fs:List Cod
deriving DecidableEq
def Glo.F(g:Glo):AV:=.agg [.str g.name,.int .i64 g.ty,.int .i64 g.size,.int .i64 g.at_]
def Modl.F(m:Modl):AV:=.agg [fslN (m.gs.map Glo.F),fslN (m.fs.map Cod.F)]
abbrev KA(l:List Bool):List AV:=l.map AV.bool
def chkF(m:Modl)(c:Cod):AV:=.agg [fslN (m.gs.map Glo.F),fslN (m.fs.map Cod.F),.str c.name,.int .i64 c.ty,.int .i64 c.ps,fslN (ints c.regs),fslN (c.blocks.map Blk.F)]
theorem Glo.F_inj{x y:Glo}(h:x.F=y.F):x=y:=by
 cases x;cases y;simp only[Glo.F,AV.agg.injEq,List.cons.injEq,AV.int.injEq,AV.str.injEq,true_and,and_true]at h;obtain⟨rfl,rfl,rfl,rfl⟩:=h;rfl
theorem Endd.F_inj{x y:Endd}(h:x.F=y.F):x=y:=by
 cases x;cases y;simp only[Endd.F,AV.agg.injEq,List.cons.injEq,AV.int.injEq,true_and,and_true]at h;obtain⟨rfl,rfl,rfl,rfl⟩:=h;rfl
theorem Modl.F_inj{x y:Modl}(h:x.F=y.F):x=y:=by
 cases x;cases y;simp only[Modl.F,AV.agg.injEq,List.cons.injEq,and_true]at h;rw[Li (fun _ _=>Glo.F_inj) (fslN_inj h.1),Li (fun _ _=>Cod.F_inj) (fslN_inj h.2)]
theorem fslN_iff{l m:List AV}:fslN l=fslN m↔l=m:=⟨fslN_inj,fun h=>h▸rfl⟩
theorem ints_iff{l m:List Int}:l.map (AV.int .i64)=m.map (AV.int .i64)↔l=m:=⟨ints_inj,fun h=>h▸rfl⟩
theorem Ins.F_iff{x y:Ins}:x.F=y.F↔x=y:=⟨Ins.F_inj,fun h=>h▸rfl⟩
theorem Cod.F_iff{x y:Cod}:x.F=y.F↔x=y:=⟨Cod.F_inj,fun h=>h▸rfl⟩
theorem Endd.F_iff{x y:Endd}:x.F=y.F↔x=y:=⟨Endd.F_inj,fun h=>h▸rfl⟩
theorem Modl.F_iff{x y:Modl}:x.F=y.F↔x=y:=⟨Modl.F_inj,fun h=>h▸rfl⟩
theorem Glo.frzF(x:Glo):frzC x.F=zs x.F:=by unfold Glo.F;simp only[XP,seval]
theorem frzL_gloF(l:List Glo):frzL (l.map Glo.F)=zs (l.map Glo.F):=Hs Glo.frzF l
theorem frzL_codF(l:List Cod):frzL (l.map Cod.F)=zs (l.map Cod.F):=Hs Cod.frzF l
theorem Endd.viewF{os:List PO}(x:Endd):viewA os x.F=zs x.F:=by unfold Endd.F;simp only[XP,seval]
theorem Modl.viewF{os:List PO}(x:Modl):viewA os x.F=zs x.F:=by unfold Modl.F;simp only[frzL_gloF,frzL_codF,XP,seval]
theorem chk_viewF{os:List PO}(m:Modl)(c:Cod):viewA os (chkF m c)=zs (chkF m c):=by unfold chkF;simp only[frzL_gloF,frzL_codF,frzL_ints,frzL_blkF,XP,seval]
theorem chk_iff{m m':Modl}{c B:Cod}:chkF m c=chkF m' B↔m=m'/\c=B:=by
 constructor
 . intro h
   simp only[chkF,AV.agg.injEq,List.cons.injEq,AV.int.injEq,AV.str.injEq,and_true]at h;obtain⟨h1,h2,D,⟨_,G⟩,⟨_,H⟩,I,J⟩:=h;exact⟨Modl.F_inj (by simp only[Modl.F];rw[h1,h2]),Cod.F_inj (by simp only[Cod.F];rw[D,G,H,I,J])⟩
 . rintro⟨rfl,rfl⟩;rfl
def F4(n:Int):Bool:=decide (n=1)||decide (n=2)
def thereD(a n:Int):Bool:=decide (0<=a)&&decide (a<n)
def Ip(t:Int):Int:=if t=2 then 2 else 1
def wrapD(t v:Int):Int:=if t=3 then IntKind.wrap .i64 (IntKind.wrap .i8 v)else if t=1 then IntKind.wrap .i64 (IntKind.wrap .i32 v)else if t=2 then v else 0
def B6:List UInt8:=[109,97,105,110]
def VJ:=z0z @Int.ofNat_inj<|z0z @List.cons.injEq.{0}<|z0z @AV.int.injEq<|z0z @AV.str.injEq<|z0z @AV.bool.injEq<|z0z @AV.agg.injEq<|z0z @true_and<|z0z @and_true<|z0z @fslN_iff<|z0z @chk_iff<|z0z @Ins.F_iff<|z0z @Cod.F_iff<|z0z @Modl.F_iff<|z0z @Endd.F_iff<|@ints_iff
def VV:=z0z @chk_viewF<|z0z @Ins.viewF<|z0z @Cod.viewF<|z0z @Modl.viewF<|z0z @Endd.viewF<|z0z @frzL_ints<|z0z @frzL_insF<|z0z @frzL_blkF<|z0z @frzL_codF<|@frzL_gloF
def VN:=@Xh
theorem Pm  {n:Int}:AM.Comes ⟨env,T,A1⟩ 20 [.int .i64 n] [.bool (F4 n)]:=by
 refine⟨[.bool (F4 n)],⟨[],0,[]⟩,?_,back_of rfl zqb rfl rfl rfl⟩;rw[A5 (c:=PZ) (nt:=9) (rs:=[.tmp 2]) rfl (by simp)];unfold PZ;unfold K0;unfold F4;by_cases h1:n=1
 . by_cases h2:n=2
   . simp only[eq_true h1,eq_true h2,XP,seval]
   . simp only[eq_true h1,h2,XP,seval]
 . by_cases h2:n=2
   . simp only[h1,eq_true h2,XP,seval]
   . simp only[h1,h2,XP,seval]
def Q1:=Bs (fun p:(Int)=>[.int .i64 p]) (fun p=>[.bool (F4 p)]) (fun p=>True)
theorem Jj(B:T 20=zs Q1){n:Int}{K:PK}:evP ⟨env,T,A1⟩ (.call 20 [.int .i64 n] K)=zs (.val (openTs K.os.length [.bool (F4 n)]).1 ⟨K.os++(openTs K.os.length [.bool (F4 n)]).2,K.ext,K.tch⟩):=C9 B (by simp only[VV,XP,seval]) (D4 (a:=fun p:(Int)=>[.int .i64 p]) (r:=fun p=>[.bool (F4 p)]) (fun x y e=>by simp only[VJ]at e;simp only[e]) (n) trivial) (by simp only[VN,XP,seval])
theorem aI  (B:PEok ⟨env,T,A1⟩):TC env 20 Q1:=D6 B fun p h=>Pm
theorem Su  {a:Int} {n:Int}:AM.Comes ⟨env,T,A1⟩ 52 [.int .i64 a,.int .i64 n] [.bool (thereD a n)]:=by
 refine⟨[.bool (thereD a n)],⟨[],0,[]⟩,?_,back_of rfl zqb rfl rfl rfl⟩;rw[A5 (c:=QO) (nt:=12) (rs:=[.tmp 4]) rfl (by simp)];unfold QO;unfold K0;unfold thereD;by_cases h1:0<=a
 . by_cases h2:a<n
   . simp only[eq_true h1,eq_true h2,XP,seval]
   . simp only[eq_true h1,h2,XP,seval]
 . by_cases h2:a<n
   . simp only[h1,eq_true h2,XP,seval]
   . simp only[h1,h2,XP,seval]
def D2:=Bs (fun p:(Int)×(Int)=>[.int .i64 p.1,.int .i64 p.2]) (fun p=>[.bool (thereD p.1 p.2)]) (fun p=>True)
theorem Q7(B:T 52=zs D2){a:Int}{n:Int}{K:PK}:evP ⟨env,T,A1⟩ (.call 52 [.int .i64 a,.int .i64 n] K)=zs (.val (openTs K.os.length [.bool (thereD a n)]).1 ⟨K.os++(openTs K.os.length [.bool (thereD a n)]).2,K.ext,K.tch⟩):=C9 B (by simp only[VV,XP,seval]) (D4 (a:=fun p:(Int)×(Int)=>[.int .i64 p.1,.int .i64 p.2]) (r:=fun p=>[.bool (thereD p.1 p.2)]) (fun x y e=>by simp only[VJ]at e;simp only[e]) (a,n) trivial) (by simp only[VN,XP,seval])
theorem eF  (B:PEok ⟨env,T,A1⟩):TC env 52 D2:=D6 B fun p h=>Su
theorem Vu  {t:Int}:AM.Comes ⟨env,T,A1⟩ 63 [.int .i64 t] [.int .i64 (Ip t)]:=by
 refine⟨[.int .i64 (Ip t)],⟨[],0,[]⟩,?_,back_of rfl zqb rfl rfl rfl⟩;rw[A5 (c:=QV) (nt:=5) (rs:=[.tmp 2]) rfl (by simp)];unfold QV;unfold K0;unfold Ip;by_cases h1:t=2
 . simp only[eq_true h1,XP,seval]
 . simp only[h1,XP,seval]
def Gc:=Bs (fun p:(Int)=>[.int .i64 p]) (fun p=>[.int .i64 (Ip p)]) (fun p=>True)
theorem tM(B:T 63=zs Gc){t:Int}{K:PK}:evP ⟨env,T,A1⟩ (.call 63 [.int .i64 t] K)=zs (.val (openTs K.os.length [.int .i64 (Ip t)]).1 ⟨K.os++(openTs K.os.length [.int .i64 (Ip t)]).2,K.ext,K.tch⟩):=C9 B (by simp only[VV,XP,seval]) (D4 (a:=fun p:(Int)=>[.int .i64 p]) (r:=fun p=>[.int .i64 (Ip p)]) (fun x y e=>by simp only[VJ]at e;simp only[e]) (t) trivial) (by simp only[VN,XP,seval])
theorem jG  (B:PEok ⟨env,T,A1⟩):TC env 63 Gc:=D6 B fun p h=>Vu
theorem B3(k j:IntKind)(n:Int):R5 (.int k) (.int j n)=zs (.int k (k.wrap n)):=a8 k n
theorem Pn  {t:Int} {v:Int}:AM.Comes ⟨env,T,A1⟩ 45 [.int .i64 t,.int .i64 v] [.int .i64 (wrapD t v)]:=by
 refine⟨[.int .i64 (wrapD t v)],⟨[],0,[]⟩,?_,back_of rfl zqb rfl rfl rfl⟩;rw[A5 (c:=QJ) (nt:=19) (rs:=[.tmp 4]) rfl (by simp)];unfold QJ;unfold K0;unfold wrapD;by_cases h1:t=3
 . simp only[B3,eq_true h1,XP,seval]
 by_cases h2:t=1
 . simp only[B3,h1,eq_true h2,XP,seval]
 by_cases B:t=2
 . simp only[B3,h1,h2,eq_true B,XP,seval]
 simp only[B3,h1,h2,B,XP,seval]
def F5:=Bs (fun p:(Int)×(Int)=>[.int .i64 p.1,.int .i64 p.2]) (fun p=>[.int .i64 (wrapD p.1 p.2)]) (fun p=>True)
theorem Dx(B:T 45=zs F5){t:Int}{v:Int}{K:PK}:evP ⟨env,T,A1⟩ (.call 45 [.int .i64 t,.int .i64 v] K)=zs (.val (openTs K.os.length [.int .i64 (wrapD t v)]).1 ⟨K.os++(openTs K.os.length [.int .i64 (wrapD t v)]).2,K.ext,K.tch⟩):=C9 B (by simp only[VV,XP,seval]) (D4 (a:=fun p:(Int)×(Int)=>[.int .i64 p.1,.int .i64 p.2]) (r:=fun p=>[.int .i64 (wrapD p.1 p.2)]) (fun x y e=>by simp only[VJ]at e;simp only[e]) (t,v) trivial) (by simp only[VN,XP,seval])
theorem aJ  (B:PEok ⟨env,T,A1⟩):TC env 45 F5:=D6 B fun p h=>Pn
theorem Cb(B:T 20=zs Q1){n:Int}:AM.Comes ⟨env,T,A1⟩ 36 [.int .i64 n] [.bool (!F4 n)]:=by
 refine⟨[.bool (!F4 n)],⟨[],0,[]⟩,?_,back_of rfl zqb rfl rfl rfl⟩;rw[A5 (c:=QF) (nt:=6) (rs:=[.tmp 2]) rfl (by simp)];unfold QF;unfold K0;simp only[Jj B,XP,seval]
def C6:=Bs (fun p:(Int)=>[.int .i64 p]) (fun p=>[.bool (!F4 p)]) (fun p=>True)
theorem Af(B:T 36=zs C6){n:Int}{K:PK}:evP ⟨env,T,A1⟩ (.call 36 [.int .i64 n] K)=zs (.val (openTs K.os.length [.bool (!F4 n)]).1 ⟨K.os++(openTs K.os.length [.bool (!F4 n)]).2,K.ext,K.tch⟩):=C9 B (by simp only[VV,XP,seval]) (D4 (a:=fun p:(Int)=>[.int .i64 p]) (r:=fun p=>[.bool (!F4 p)]) (fun x y e=>by simp only[VJ]at e;simp only[e]) (n) trivial) (by simp only[VN,XP,seval])
theorem Gd(B:T 20=zs Q1)(D:PEok ⟨env,T,A1⟩):TC env 36 C6:=D6 D fun p h=>Cb B
theorem Lj  {c:Cod}:AM.Comes ⟨env,T,A1⟩ 34 [c.F] [.bool (decide (c.name=B6))]:=by
 refine⟨[.bool (decide (c.name=B6))],⟨[],0,[]⟩,?_,back_of rfl zqb rfl rfl rfl⟩;rw[A5 (c:=QD) (nt:=6) (rs:=[.tmp 2]) rfl (by simp)];unfold QD;unfold K0;unfold Cod.F B6;simp only[XP,seval]
def L9:=Bs (fun p:(Cod)=>[p.F]) (fun p=>[.bool (decide (p.name=B6))]) (fun p=>True)
theorem Ll(B:T 34=zs L9){c:Cod}{K:PK}:evP ⟨env,T,A1⟩ (.call 34 [c.F] K)=zs (.val (openTs K.os.length [.bool (decide (c.name=B6))]).1 ⟨K.os++(openTs K.os.length [.bool (decide (c.name=B6))]).2,K.ext,K.tch⟩):=C9 B (by simp only[VV,XP,seval]) (D4 (a:=fun p:(Cod)=>[p.F]) (r:=fun p=>[.bool (decide (p.name=B6))]) (fun x y e=>by simp only[VJ]at e;simp only[e]) (c) trivial) (by simp only[VN,XP,seval])
theorem Sv  (B:PEok ⟨env,T,A1⟩):TC env 34 L9:=D6 B fun p h=>Lj
def writesD(x:Ins):Int:=if x.op=1 then x.dst else if x.op=2 then x.dst else if x.op=3 then x.dst else if x.op=4 then x.dst else if x.op=5 then x.dst else if x.op=7 then x.dst else if x.op=10 then x.dst else if x.op=9 then(if -1<=x.dst then x.dst else -1)else -1
def readsD(x:Ins):List Int:=if x.op=2 then [x.a]else if x.op=4 then [x.a]else if x.op=5 then [x.a]else if x.op=8 then [x.a]else if x.op=11 then [x.a]else if x.op=3 then [x.a,x.b]else if x.op=6 then [x.a,x.b]else if x.op=9 then x.args else []
theorem x5(a b:Int)(K:PK):Ms (E9 env .max [3,3] [.int .i64 a,.int .i64 b] K)=.val (.int .i64 (if b<=a then a else b)) K:=by
 show Ms ((Mw [.int .i64 b] (.int .i64 a)).map (·,K))=_
 show Ms ((zs (AV.int .i64 (bif intLe b a then a else b))).map (·,K))=_
 rw[N7];by_cases hb:b<=a
 . rw[if_pos hb,decide_eq_true hb];rfl
 . rw[if_neg hb,decide_eq_false hb];rfl
theorem Po  {x:Ins}:AM.Comes ⟨env,T,A1⟩ 59 [x.F] [.int .i64 (writesD x)]:=by
 refine⟨[.int .i64 (writesD x)],⟨[],0,[]⟩,?_,back_of rfl zqb rfl rfl rfl⟩;rw[A5 (c:=QR) (nt:=20) (rs:=[.tmp 2]) rfl (by simp)];unfold QR;unfold K0;unfold Ins.F writesD;by_cases e1:x.op=1
 . simp only[x5,eq_true e1,XP,seval]
 by_cases e2:x.op=2
 . simp only[x5,e1,eq_true e2,XP,seval]
 by_cases B:x.op=3
 . simp only[x5,e1,e2,eq_true B,XP,seval]
 by_cases G:x.op=4
 . simp only[x5,e1,e2,B,eq_true G,XP,seval]
 by_cases H:x.op=5
 . simp only[x5,e1,e2,B,G,eq_true H,XP,seval]
 by_cases I:x.op=7
 . simp only[x5,e1,e2,B,G,H,eq_true I,XP,seval]
 by_cases D:x.op=10
 . simp only[x5,e1,e2,B,G,H,I,eq_true D,XP,seval]
 by_cases J:x.op=9
 . simp only[x5,e1,e2,B,G,H,I,D,eq_true J,XP,seval]
 simp only[x5,e1,e2,B,G,H,I,D,J,XP,seval]
def l8:=Bs (fun p:(Ins)=>[p.F]) (fun p=>[.int .i64 (writesD p)]) (fun p=>True)
theorem jH(B:T 59=zs l8){x:Ins}{K:PK}:evP ⟨env,T,A1⟩ (.call 59 [x.F] K)=zs (.val (openTs K.os.length [.int .i64 (writesD x)]).1 ⟨K.os++(openTs K.os.length [.int .i64 (writesD x)]).2,K.ext,K.tch⟩):=C9 B (by simp only[VV,XP,seval]) (D4 (a:=fun p:(Ins)=>[p.F]) (r:=fun p=>[.int .i64 (writesD p)]) (fun x y e=>by simp only[VJ]at e;simp only[e]) (x) trivial) (by simp only[VN,XP,seval])
theorem aK  (B:PEok ⟨env,T,A1⟩):TC env 59 l8:=D6 B fun p h=>Po
theorem Sw(B:T 40=zs y0){x:Ins}(Q:x.ok):AM.Comes ⟨env,T,A1⟩ 58 [x.F] [ownd 0 1 (ints (readsD x))]:=by
 have one:∀(a:Int)(L:List Int),L=[a]->evP ⟨env,T,A1⟩ (.body 58 [x.F] K0)=zs (.val [.msl 0 0 1 1] ⟨[.row 0 [.int .i64 a] 1],0,[]⟩)->AM.Comes ⟨env,T,A1⟩ 58 [x.F] [ownd 0 1 (ints L)]:=fun a L e h=>by
  subst e;exact⟨_,_,h,Y6 (.inr ⟨rfl,rfl⟩)⟩
 have two:∀(a b:Int)(L:List Int),L=[a,b]->evP ⟨env,T,A1⟩ (.body 58 [x.F] K0)=zs (.val [.msl 0 0 2 1] ⟨[.row 0 [.int .i64 a,.int .i64 b] 1],0,[]⟩)->AM.Comes ⟨env,T,A1⟩ 58 [x.F] [ownd 0 1 (ints L)]:=fun a b L e h=>by
  subst e;exact⟨_,_,h,Y6 (.inr ⟨rfl,rfl⟩)⟩
 by_cases e2:x.op=2
 . refine one x.a _ (by simp[readsD,e2]) ?_
   rw[A5 (c:=Xg) (nt:=27) (rs:=[.tmp 2]) rfl (by simp)];unfold Xg;unfold K0 Ins.F;simp only[eq_true e2,XP,seval]
 by_cases G:x.op=4
 . refine one x.a _ (by simp[readsD,G]) ?_
   rw[A5 (c:=Xg) (nt:=27) (rs:=[.tmp 2]) rfl (by simp)];unfold Xg;unfold K0 Ins.F;simp only[e2,eq_true G,XP,seval]
 by_cases H:x.op=5
 . refine one x.a _ (by simp[readsD,H]) ?_
   rw[A5 (c:=Xg) (nt:=27) (rs:=[.tmp 2]) rfl (by simp)];unfold Xg;unfold K0 Ins.F;simp only[e2,G,eq_true H,XP,seval]
 by_cases I:x.op=8
 . refine one x.a _ (by simp[readsD,I]) ?_
   rw[A5 (c:=Xg) (nt:=27) (rs:=[.tmp 2]) rfl (by simp)];unfold Xg;unfold K0 Ins.F;simp only[e2,G,H,eq_true I,XP,seval]
 by_cases D:x.op=11
 . refine one x.a _ (by simp[readsD,D]) ?_
   rw[A5 (c:=Xg) (nt:=27) (rs:=[.tmp 2]) rfl (by simp)];unfold Xg;unfold K0 Ins.F;simp only[e2,G,H,I,eq_true D,XP,seval]
 by_cases J:x.op=3
 . refine two x.a x.b _ (by simp[readsD,J]) ?_
   rw[A5 (c:=Xg) (nt:=27) (rs:=[.tmp 2]) rfl (by simp)];unfold Xg;unfold K0 Ins.F;simp only[e2,G,H,I,D,eq_true J,XP,seval]
 by_cases N:x.op=6
 . refine two x.a x.b _ (by simp[readsD,N]) ?_
   rw[A5 (c:=Xg) (nt:=27) (rs:=[.tmp 2]) rfl (by simp)];unfold Xg;unfold K0 Ins.F;simp only[e2,G,H,I,D,J,eq_true N,XP,seval]
 by_cases O:x.op=9
 . rw[show readsD x=x.args by simp[readsD,O]]
   refine⟨[.msl 0 0 x.args.length 1],⟨[.row 0 (ints x.args) 1],0,[]⟩,?_,Y6 (.inr ⟨by rw[zqa],rfl⟩)⟩;rw[A5 (c:=Xg) (nt:=27) (rs:=[.tmp 2]) rfl (by simp)];unfold Xg;unfold K0 Ins.F;have t:∀{K:PK},evP ⟨env,T,A1⟩ (.call 40 [fslN (ints x.args)] K)=zs (.val (openTs K.os.length [ownd 0 1 (ints x.args)]).1 ⟨K.os++(openTs K.os.length [ownd 0 1 (ints x.args)]).2,K.ext,K.tch⟩):=C9 B (by simp only[frzL_ints,XP,seval]) (aH Q) rfl;simp only[e2,G,H,I,D,J,N,eq_true O,t,zqa,XP,seval]
 . rw[show readsD x=[] by simp[readsD,e2,G,H,I,D,J,N,O]]
   refine⟨[.nilsl],⟨[],0,[]⟩,?_,Y6 (.inl ⟨rfl,rfl,rfl⟩)⟩;rw[A5 (c:=Xg) (nt:=27) (rs:=[.tmp 2]) rfl (by simp)];unfold Xg;unfold K0 Ins.F;simp only[e2,G,H,I,D,J,N,O,XP,seval]
def Cc:=Bs (fun p:(Ins)=>[p.F]) (fun p=>[ownd 0 1 (ints (readsD p))]) (fun p=>p.ok)
theorem pM(B:T 58=zs Cc){x:Ins}{K:PK}(D:x.ok):evP ⟨env,T,A1⟩ (.call 58 [x.F] K)=zs (.val (openTs K.os.length [ownd 0 1 (ints (readsD x))]).1 ⟨K.os++(openTs K.os.length [ownd 0 1 (ints (readsD x))]).2,K.ext,K.tch⟩):=C9 B (by simp only[VV,XP,seval]) (D4 (a:=fun p:(Ins)=>[p.F]) (r:=fun p=>[ownd 0 1 (ints (readsD p))]) (fun x y e=>by simp only[VJ]at e;simp only[e]) (x) D) (by simp only[VN,XP,seval])
theorem eG(B:T 40=zs y0)(D:PEok ⟨env,T,A1⟩):TC env 58 Cc:=D6 D fun p h=>Sw B h
def idxOf{X:Type}(p:X->Bool)(l:List X):Int:=match l.findIdx? p with|some i=>(i:Int)|none=>-1
theorem idx_loop{P:PE}{c:PC}{X:Type}{p:X->Bool}{l:List X}{S:Nat->PF}{K:PK}
 (h1:∀i (h:i<l.length),p l[i]=zf->evP P (.code c (S i) K)=zs (.ok .normal (S (i+1)) K))
 (h2:∀i (h:i<l.length),p l[i]=zt->∃fr',evP P (.code c (S i) K)=zs (.ok .ret fr' K)/\lookP fr' 4=.int .i64 (i:Int))
 (hx:∃fr',evP P (.code c (S l.length) K)=zs (.ok (.exit 0) fr' K)):
 (∃i:Nat,idxOf p l=i/\∃fr',evP P (.code (.loop c) (S 0) K)=zs (.ok .ret fr' K)/\lookP fr' 4=.int .i64 (i:Int))\/(idxOf p l=-1/\∃fr',evP P (.code (.loop c) (S 0) K)=zs (.ok (.exit 0) fr' K)):=by
 have H:∀(n i:Nat),l.length=i+n->(∀j (B:j<l.length),j<i->p l[j]=zf)->(∃k:Nat,idxOf p l=k/\∃fr',evP P (.code (.loop c) (S i) K)=zs (.ok .ret fr' K)/\lookP fr' 4=.int .i64 (k:Int))\/(idxOf p l=-1/\∃fr',evP P (.code (.loop c) (S i) K)=zs (.ok (.exit 0) fr' K)):=fun n=>by
  induction n with
  |zero=>
   intro i e D;obtain rfl:i=l.length:=by omega
   obtain⟨fr',h⟩:=hx;refine .inr ⟨?_,fr',J5 h⟩;unfold idxOf
   have:l.findIdx? p=zn:=by
    rw[zqt];intro x I;obtain⟨j,B,rfl⟩:=List.getElem_of_mem I;exact D j B B
   rw[this]
  |succ n O=>
   intro i e D;have hl:i<l.length:=by omega
   cases G:p l[i]with
   |false=>
    rw[H9 (h1 i hl G)];refine O (i+1) (by omega) fun j B hji=>?_
    by_cases Q:j=i
    . subst Q;exact G
    . exact D j B (by omega)
   |true=>
    obtain⟨fr',J,N⟩:=h2 i hl G;refine .inl ⟨i,?_,fr',Dh J,N⟩;unfold idxOf
    have:l.findIdx? p=zs i:=by
     rw[zqn];exact⟨hl,G,fun j B=>by simpa using D j (by omega) B⟩
    rw[this]
 exact H l.length 0 (by omega) fun j B h=>absurd h (by omega)
theorem mA{X:Type}{p:X->Bool}{l:List X}:decide (0<=idxOf p l)=l.any p:=by
 unfold idxOf;cases h:l.findIdx? p with
 |none=>
  rw[zqt]at h
  have:l.any p=zf:=by rw[List.any_eq_false];intro x B;simp[h x B]
  rw[this];rfl
 |some i=>
  rw[zqn]at h;obtain⟨h1,h2,_⟩:=h
  have:l.any p=zt:=List.any_eq_true.2 ⟨_,zqg h1,h2⟩
  rw[this];simp
section
variable {l:List Int}{i:Nat}{v:Int}
theorem KB(h:i<l.length)(D:l.length<=bigN)(G:decide (v=l[i])=zf):evP ⟨env,T,A1⟩ (.code In [(0,fslN (ints l)),(1,.int .i64 v),(7,.int .i64 (l.length:Int)),(8,.int .i64 (i:Int))] ⟨[],0,[]⟩)=zs (.ok .normal [(0,fslN (ints l)),(1,.int .i64 v),(7,.int .i64 (l.length:Int)),(8,.int .i64 ((i+1:Nat):Int))] ⟨[],0,[]⟩):=by
 unfold In;have B:decide ((i:Int)<(l.length:Int))=zt:=by simp[h]
 have H:=B5 (i:=i) (by simp only[bigN]at D;omega);simp only[B,A8 h,H,G,XP,seval]
theorem KC(h:i<l.length)(D:decide (v=l[i])=zt):∃fr',evP ⟨env,T,A1⟩ (.code In [(0,fslN (ints l)),(1,.int .i64 v),(7,.int .i64 (l.length:Int)),(8,.int .i64 (i:Int))] ⟨[],0,[]⟩)=zs (.ok .ret fr' ⟨[],0,[]⟩)/\lookP fr' 4=.int .i64 (i:Int):=by
 unfold In;have B:decide ((i:Int)<(l.length:Int))=zt:=by simp[h]
 simp only[B,A8 h,D,XP,seval];exact⟨_,rfl,rfl⟩
theorem KD:∃fr',evP ⟨env,T,A1⟩ (.code In [(0,fslN (ints l)),(1,.int .i64 v),(7,.int .i64 (l.length:Int)),(8,.int .i64 (l.length:Int))] ⟨[],0,[]⟩)=zs (.ok (.exit 0) fr' ⟨[],0,[]⟩):=by
 unfold In;have B:decide ((l.length:Int)<(l.length:Int))=zf:=by simp
 simp only[B,XP,seval];exact⟨_,rfl⟩
theorem Vv  {l:List Int} {v:Int} (D:l.length<=bigN):AM.Comes ⟨env,T,A1⟩ 71 [fslN (ints l),.int .i64 v] [.int .i64 (idxOf (fun n=>decide (v=n)) l)]:=by
 refine⟨[.int .i64 (idxOf (fun n=>decide (v=n)) l)],⟨[],0,[]⟩,?_,back_of rfl zqb rfl rfl rfl⟩;rw[A5 (c:=RB) (nt:=19) (rs:=[.tmp 4]) rfl (by simp)];unfold RB;unfold K0;rcases idx_loop (P:=⟨env,T,A1⟩) (c:=In) (p:=fun n=>decide (v=n)) (l:=l) (S:=fun i=>[(0,fslN (ints l)),(1,.int .i64 v),(7,.int .i64 (l.length:Int)),(8,.int .i64 (i:Int))]) (K:=⟨[],0,[]⟩) (fun i h B=>KB h D B) (fun i h B=>KC h B) KD with⟨i,e,fr',h1,h2⟩|⟨e,fr',h1⟩
 . have h1:evP ⟨env,T,A1⟩ (.code (.loop In) [(0,fslN (ints l)),(1,.int .i64 v),(7,.int .i64 (l.length:Int)),(8,.int .i64 0)] ⟨[],0,[]⟩)=_:=h1
   simp only[h1,h2,e,zqa,XP,seval]
 . have h1:evP ⟨env,T,A1⟩ (.code (.loop In) [(0,fslN (ints l)),(1,.int .i64 v),(7,.int .i64 (l.length:Int)),(8,.int .i64 0)] ⟨[],0,[]⟩)=_:=h1
   simp only[h1,e,zqa,XP,seval]
def Ge:=Bs (fun p:(List Int)×(Int)=>[fslN (ints p.1),.int .i64 p.2]) (fun p=>[.int .i64 (idxOf (fun n=>decide (p.2=n)) p.1)]) (fun p=>p.1.length<=bigN)
theorem tN(B:T 71=zs Ge){l:List Int}{v:Int}{K:PK}(D:l.length<=bigN):evP ⟨env,T,A1⟩ (.call 71 [fslN (ints l),.int .i64 v] K)=zs (.val (openTs K.os.length [.int .i64 (idxOf (fun n=>decide (v=n)) l)]).1 ⟨K.os++(openTs K.os.length [.int .i64 (idxOf (fun n=>decide (v=n)) l)]).2,K.ext,K.tch⟩):=C9 B (by simp only[VV,XP,seval]) (D4 (a:=fun p:(List Int)×(Int)=>[fslN (ints p.1),.int .i64 p.2]) (r:=fun p=>[.int .i64 (idxOf (fun n=>decide (p.2=n)) p.1)]) (fun x y e=>by simp only[VJ]at e;simp only[e]) (l,v) D) (by simp only[VN,XP,seval])
theorem jI  (B:PEok ⟨env,T,A1⟩):TC env 71 Ge:=D6 B fun p h=>Vv  h
theorem Sx(B:T 71=zs Ge){l:List Int}{v:Int}(D:l.length<=bigN):AM.Comes ⟨env,T,A1⟩ 60 [fslN (ints l),.int .i64 v] [.bool (l.any fun n=>decide (v=n))]:=by
 refine⟨[.bool (l.any fun n=>decide (v=n))],⟨[],0,[]⟩,?_,back_of rfl zqb rfl rfl rfl⟩;rw[A5 (c:=QS) (nt:=9) (rs:=[.tmp 4]) rfl (by simp)];unfold QS;unfold K0;rw[<-mA];have t:=fun K=>tN (K:=K) (v:=v) B D
 simp only[t,XP,seval]
def y3:=Bs (fun p:(List Int)×(Int)=>[fslN (ints p.1),.int .i64 p.2]) (fun p=>[.bool (p.1.any fun n=>decide (p.2=n))]) (fun p=>p.1.length<=bigN)
theorem eH(B:T 71=zs Ge)(D:PEok ⟨env,T,A1⟩):TC env 60 y3:=D6 D fun p h=>Sx B h
end
section
variable {l:List Int}{i:Nat}
theorem KE(hN:T 36=zs C6)(h:i<l.length)(D:l.length<=bigN)(G:(!F4 l[i])=zf):evP ⟨env,T,A1⟩ (.code Ik [(0,fslN (ints l)),(1,.fn (.func 36) [] []),(7,.int .i64 (l.length:Int)),(8,.int .i64 (i:Int))] ⟨[],0,[]⟩)=zs (.ok .normal [(0,fslN (ints l)),(1,.fn (.func 36) [] []),(7,.int .i64 (l.length:Int)),(8,.int .i64 ((i+1:Nat):Int))] ⟨[],0,[]⟩):=by
 unfold Ik;have B:decide ((i:Int)<(l.length:Int))=zt:=by simp[h]
 have H:=B5 (i:=i) (by simp only[bigN]at D;omega);simp only[B,A8 h,H,Af hN,G,XP,seval]
theorem KF(hN:T 36=zs C6)(h:i<l.length)(D:(!F4 l[i])=zt):∃fr',evP ⟨env,T,A1⟩ (.code Ik [(0,fslN (ints l)),(1,.fn (.func 36) [] []),(7,.int .i64 (l.length:Int)),(8,.int .i64 (i:Int))] ⟨[],0,[]⟩)=zs (.ok .ret fr' ⟨[],0,[]⟩)/\lookP fr' 4=.int .i64 (i:Int):=by
 unfold Ik;have B:decide ((i:Int)<(l.length:Int))=zt:=by simp[h]
 simp only[B,A8 h,Af hN,D,XP,seval];exact⟨_,rfl,rfl⟩
theorem KG:∃fr',evP ⟨env,T,A1⟩ (.code Ik [(0,fslN (ints l)),(1,.fn (.func 36) [] []),(7,.int .i64 (l.length:Int)),(8,.int .i64 (l.length:Int))] ⟨[],0,[]⟩)=zs (.ok (.exit 0) fr' ⟨[],0,[]⟩):=by
 unfold Ik;have B:decide ((l.length:Int)<(l.length:Int))=zf:=by simp
 simp only[B,XP,seval];exact⟨_,rfl⟩
theorem Vw(hN:T 36=zs C6)(D:T 48=zn)(G:l.length<=bigN)(K:PK):evP ⟨env,T,A1⟩ (.call 48 [fslN (ints l),.fn (.func 36) [] []] K)=zs (.val [.int .i64 (idxOf (fun n=>!F4 n) l)] K):=by
 refine cB (tch:=[]) D rfl rfl rfl ?_ rfl;rw[A5 (c:=QK) (nt:=19) (rs:=[.tmp 4]) rfl (by simp)];unfold QK;rcases idx_loop (P:=⟨env,T,A1⟩) (c:=Ik) (p:=fun n=>!F4 n) (l:=l) (S:=fun i=>[(0,fslN (ints l)),(1,.fn (.func 36) [] []),(7,.int .i64 (l.length:Int)),(8,.int .i64 (i:Int))]) (K:=⟨[],0,[]⟩) (fun i h B=>KE hN h G B) (fun i h B=>KF hN h B) KG with⟨i,e,fr',h1,h2⟩|⟨e,fr',h1⟩
 . have h1:evP ⟨env,T,A1⟩ (.code (.loop Ik) [(0,fslN (ints l)),(1,.fn (.func 36) [] []),(7,.int .i64 (l.length:Int)),(8,.int .i64 0)] ⟨[],0,[]⟩)=_:=h1
   simp only[h1,h2,e,zqa,XP,seval]
 . have h1:evP ⟨env,T,A1⟩ (.code (.loop Ik) [(0,fslN (ints l)),(1,.fn (.func 36) [] []),(7,.int .i64 (l.length:Int)),(8,.int .i64 0)] ⟨[],0,[]⟩)=_:=h1
   simp only[h1,e,zqa,XP,seval]
theorem Sy(hN:T 36=zs C6)(B:T 48=zn)(hC:T 35=zn)(D:l.length<=bigN)(K:PK):evP ⟨env,T,A1⟩ (.call 35 [fslN (ints l),.fn (.func 36) [] []] K)=zs (.val [.bool (l.any fun n=>!F4 n)] K):=by
 refine cB (tch:=[]) hC rfl rfl rfl ?_ rfl;rw[<-mA];have t:=fun K=>Vw hN B D K
 rw[A5 (c:=QE) (nt:=9) (rs:=[.tmp 4]) rfl (by simp)];unfold QE;simp only[t,XP,seval]
end
section
variable {l:List Cod}{i:Nat}
theorem KH(hN:T 34=zs L9)(h:i<l.length)(D:l.length<=bigN)(G:decide (l[i].name=B6)=zf):evP ⟨env,T,A1⟩ (.code i7 [(0,fslN (l.map Cod.F)),(1,.fn (.func 34) [] []),(7,.int .i64 (l.length:Int)),(8,.int .i64 (i:Int))] ⟨[],0,[]⟩)=zs (.ok .normal [(0,fslN (l.map Cod.F)),(1,.fn (.func 34) [] []),(7,.int .i64 (l.length:Int)),(8,.int .i64 ((i+1:Nat):Int))] ⟨[],0,[]⟩):=by
 unfold i7;have B:decide ((i:Int)<(l.length:Int))=zt:=by simp[h]
 have H:=B5 (i:=i) (by simp only[bigN]at D;omega);have hi:=A7 (F:=Cod.F) h;have t:=fun K=>Ll (K:=K) (c:=l[i]) hN
 simp only[Cod.F]at hi t;simp only[B,hi,H,t,G,XP,seval]
theorem KI(hN:T 34=zs L9)(h:i<l.length)(D:decide (l[i].name=B6)=zt):∃fr',evP ⟨env,T,A1⟩ (.code i7 [(0,fslN (l.map Cod.F)),(1,.fn (.func 34) [] []),(7,.int .i64 (l.length:Int)),(8,.int .i64 (i:Int))] ⟨[],0,[]⟩)=zs (.ok .ret fr' ⟨[],0,[]⟩)/\lookP fr' 4=.int .i64 (i:Int):=by
 unfold i7;have B:decide ((i:Int)<(l.length:Int))=zt:=by simp[h]
 have hi:=A7 (F:=Cod.F) h;have t:=fun K=>Ll (K:=K) (c:=l[i]) hN
 simp only[Cod.F]at hi t;simp only[B,hi,t,D,XP,seval];exact⟨_,rfl,rfl⟩
theorem KJ:∃fr',evP ⟨env,T,A1⟩ (.code i7 [(0,fslN (l.map Cod.F)),(1,.fn (.func 34) [] []),(7,.int .i64 (l.length:Int)),(8,.int .i64 (l.length:Int))] ⟨[],0,[]⟩)=zs (.ok (.exit 0) fr' ⟨[],0,[]⟩):=by
 unfold i7;have B:decide ((l.length:Int)<(l.length:Int))=zf:=by simp
 simp only[B,XP,seval];exact⟨_,rfl⟩
theorem Vy(hN:T 34=zs L9)(D:T 28=zn)(G:l.length<=bigN)(K:PK):evP ⟨env,T,A1⟩ (.call 28 [fslN (l.map Cod.F),.fn (.func 34) [] []] K)=zs (.val [.int .i64 (idxOf (fun c:Cod=>decide (c.name=B6)) l)] K):=by
 refine cB (tch:=[]) D rfl rfl rfl ?_ rfl;rw[A5 (c:=HF) (nt:=19) (rs:=[.tmp 4]) rfl (by simp)];unfold HF;rcases idx_loop (P:=⟨env,T,A1⟩) (c:=i7) (p:=fun c:Cod=>decide (c.name=B6)) (l:=l) (S:=fun i=>[(0,fslN (l.map Cod.F)),(1,.fn (.func 34) [] []),(7,.int .i64 (l.length:Int)),(8,.int .i64 (i:Int))]) (K:=⟨[],0,[]⟩) (fun i h B=>KH hN h G B) (fun i h B=>KI hN h B) KJ with⟨i,e,fr',h1,h2⟩|⟨e,fr',h1⟩
 . have h1:evP ⟨env,T,A1⟩ (.code (.loop i7) [(0,fslN (l.map Cod.F)),(1,.fn (.func 34) [] []),(7,.int .i64 (l.length:Int)),(8,.int .i64 0)] ⟨[],0,[]⟩)=_:=h1
   simp only[h1,h2,e,zqa,XP,seval]
 . have h1:evP ⟨env,T,A1⟩ (.code (.loop i7) [(0,fslN (l.map Cod.F)),(1,.fn (.func 34) [] []),(7,.int .i64 (l.length:Int)),(8,.int .i64 0)] ⟨[],0,[]⟩)=_:=h1
   simp only[h1,e,zqa,XP,seval]
theorem Pp(B:T 34=zs L9)(D:T 28=zn){m:Modl}(G:m.fs.length<=bigN):AM.Comes ⟨env,T,A1⟩ 19 [m.F] [.int .i64 (idxOf (fun c:Cod=>decide (c.name=B6)) m.fs)]:=by
 refine⟨[.int .i64 (idxOf (fun c:Cod=>decide (c.name=B6)) m.fs)],⟨[],0,[]⟩,?_,back_of rfl zqb rfl rfl rfl⟩;rw[A5 (c:=PY) (nt:=6) (rs:=[.tmp 2]) rfl (by simp)];unfold PY;unfold K0;unfold Modl.F;have t:=fun K=>Vy B D G K
 simp only[t,XP,seval]
def M3:=Bs (fun p:(Modl)=>[p.F]) (fun p=>[.int .i64 (idxOf (fun c:Cod=>decide (c.name=B6)) p.fs)]) (fun p=>p.fs.length<=bigN)
theorem Jk(B:T 19=zs M3){m:Modl}{K:PK}(D:m.fs.length<=bigN):evP ⟨env,T,A1⟩ (.call 19 [m.F] K)=zs (.val (openTs K.os.length [.int .i64 (idxOf (fun c:Cod=>decide (c.name=B6)) m.fs)]).1 ⟨K.os++(openTs K.os.length [.int .i64 (idxOf (fun c:Cod=>decide (c.name=B6)) m.fs)]).2,K.ext,K.tch⟩):=C9 B (by simp only[VV,XP,seval]) (D4 (a:=fun p:(Modl)=>[p.F]) (r:=fun p=>[.int .i64 (idxOf (fun c:Cod=>decide (c.name=B6)) p.fs)]) (fun x y e=>by simp only[VJ]at e;simp only[e]) (m) D) (by simp only[VN,XP,seval])
theorem aL(B:T 34=zs L9)(D:T 28=zn)(G:PEok ⟨env,T,A1⟩):TC env 19 M3:=D6 G fun p h=>Pp B D h
end
def Ni(p s:List UInt8):Bool:=Nat.ble (r6 s) 4000000000||oneB p
def U5(args:List AV):Option (List AV):=match args with|[.str s,.str p]=>if Ni p s=zt then zs [.bool (contS p s)]else zn|_=>zn
theorem aM{s p:List UInt8}(h:Ni p s=zt):U5 [.str s,.str p]=zs [.bool (contS p s)]:=if_pos h
theorem Nj(hT:T 57=zs U5){s p:List UInt8}{K:PK}(h:Ni p s=zt):evP ⟨env,T,A1⟩ (.call 57 [.str s,.str p] K)=zs (.val [.bool (contS p s)] ⟨K.os++[],K.ext,K.tch⟩):=C9 hT rfl (aM h) rfl
theorem Qi{t:Nat}{a b:List UInt8}{K:PK}(h:a.length+b.length<=4611686018427387904):R1 env .add t (.str a) (.str b) K=.val (.str (a++b)) K:=by
 rw[bp _ _ rfl rfl];show Db (bif Nat.ble (Nat.add (r6 a) (r6 b)) 4611686018427387904 then zs (AV.str (a++b))else zn) K=_
 rw[x4,x4,show Nat.ble (Nat.add a.length b.length) 4611686018427387904=zt from zkj h];rfl
def Sz:List UInt8:=[32,43,32,45,32,42,32,47,32,37,32,38,32,124,32,94,32,60,60,32,62,62,32,61,61,32,33,61,32,60,32,60,61,32,62,32,62,61,32]
def Ta:List UInt8:=[32,61,61,32,33,61,32,60,32,60,61,32,62,32,62,61,32]
def Gf(x:Ins):Bool:=if x.op=3 then !decide (x.s=[])&&(!contS [32] x.s&&contS (32::(x.s++[32])) Sz)else if x.op=4 then decide (1<=x.ty)&&decide (x.ty<=3)else decide (1<=x.op)&&decide (x.op<=11)
theorem Vz(B:T 57=zs U5){x:Ins}(I:x.s.length<=bigN):AM.Comes ⟨env,T,A1⟩ 49 [x.F] [.bool (Gf x)]:=by
 refine⟨[.bool (Gf x)],⟨[],0,[]⟩,?_,back_of rfl zqb rfl rfl rfl⟩;rw[A5 (c:=QL) (nt:=41) (rs:=[.tmp 2]) rfl (by simp)];unfold QL;unfold K0;have d1:∀K:PK,R1 env .add 9 (.str [32]) (.str x.s) K=.val (.str (32::x.s)) K:=fun K=>Qi (by simp only[bigN]at I;simp;omega)
 have d2:∀K:PK,R1 env .add 9 (.str (32::x.s)) (.str [32]) K=.val (.str (32::(x.s++[32]))) K:=fun K=>Qi (by simp only[bigN]at I;simp;omega)
 have c1:=fun K=>Nj (K:=K) (s:=x.s) (p:=[32]) B (by unfold Ni;rw[show oneB [32]=zt from rfl,zke])
 have c2:=fun K=>Nj (K:=K) (s:=Sz) (p:=32::(x.s++[32])) B (by unfold Ni;rfl)
 unfold Ins.F Gf;unfold Sz at c2|-;by_cases G:x.op=3
 . by_cases D:x.s=[]
   . simp only[eq_true G,eq_true D,zkc,XP,seval]
   cases J:contS [32] x.s with
   |true=>simp only[eq_true G,eq_false D,c1,J,zkc,Bool.and_false,XP,seval]
   |false=>simp only[eq_true G,eq_false D,c1,J,d1,d2,c2,XP,seval]
 by_cases H:x.op=4
 . by_cases D:1<=x.ty
   . simp only[G,eq_true H,eq_true D,XP,seval]
   . simp only[G,eq_true H,eq_false D,zkc,XP,seval]
 . by_cases D:1<=x.op
   . simp only[G,H,eq_true D,XP,seval]
   . simp only[G,H,eq_false D,zkc,XP,seval]
def Gg:=Bs (fun p:(Ins)=>[p.F]) (fun p=>[.bool (Gf p)]) (fun p=>p.s.length<=bigN)
theorem tO(B:T 49=zs Gg){x:Ins}{K:PK}(D:x.s.length<=bigN):evP ⟨env,T,A1⟩ (.call 49 [x.F] K)=zs (.val (openTs K.os.length [.bool (Gf x)]).1 ⟨K.os++(openTs K.os.length [.bool (Gf x)]).2,K.ext,K.tch⟩):=C9 B (by simp only[VV,XP,seval]) (D4 (a:=fun p:(Ins)=>[p.F]) (r:=fun p=>[.bool (Gf p)]) (fun x y e=>by simp only[VJ]at e;simp only[e]) (x) D) (by simp only[VN,XP,seval])
theorem jJ(B:T 57=zs U5)(D:PEok ⟨env,T,A1⟩):TC env 49 Gg:=D6 D fun p h=>Vz B h
def R3(m:Modl)(at_:Int)(arr:Bool):Bool:=thereD at_ m.gs.length&&(match m.gs[at_.toNat]? with|some g=>decide (0<g.size)==arr|none=>zf)
theorem mC(t:Nat)(h:N6 env t=N6 env 4)(a b:Bool)(K:PK):R1 env .eql t (.bool a) (.bool b) K=.val (.bool (a==b)) K:=by
 rw[bp _ _ rfl rfl,h];cases a<;>cases b<;>rfl
theorem G7{a n:Int}(h:thereD a n=zt):∃k:Nat,a=k/\(k:Int)<n:=by
 unfold thereD at h;rw[zkf]at h;have h0:=of_decide_eq_true h.1;have h1:=of_decide_eq_true h.2;obtain⟨k,rfl⟩:=Int.eq_ofNat_of_zero_le h0;exact⟨k,rfl,h1⟩
theorem Cd(B:T 52=zs D2){m:Modl}{c:Cod}{a:Int}{arr:Bool}:AM.Comes ⟨env,T,A1⟩ 61 [chkF m c,.int .i64 a,.bool arr] [.bool (R3 m a arr)]:=by
 refine⟨[.bool (R3 m a arr)],⟨[],0,[]⟩,?_,back_of rfl zqb rfl rfl rfl⟩;rw[A5 (c:=QT) (nt:=25) (rs:=[.tmp 6]) rfl (by simp)];unfold QT;unfold K0;have t:=fun K=>Q7 (K:=K) (a:=a) (n:=m.gs.length) B
 have H:=mC 4 rfl;unfold chkF R3;cases G:thereD a m.gs.length with
 |false=>rw[G]at t;simp only[t,zqa,zkc,XP,seval]
 |true=>
  obtain⟨k,rfl,D⟩:=G7 G;have D:k<m.gs.length:=by omega
  rw[G]at t;have hi:=A7 (F:=Glo.F) D;simp only[Glo.F]at hi;rw[show((k:Int)).toNat=k from rfl,zqf D];simp only[t,zqa,hi,H,XP,seval]
def E0:=Bs (fun p:(Modl)×(Cod)×(Int)×(Bool)=>[chkF p.1 p.2.1,.int .i64 p.2.2.1,.bool p.2.2.2]) (fun p=>[.bool (R3 p.1 p.2.2.1 p.2.2.2)]) (fun p=>True)
theorem Jl(B:T 61=zs E0){m:Modl}{c:Cod}{a:Int}{arr:Bool}{K:PK}:evP ⟨env,T,A1⟩ (.call 61 [chkF m c,.int .i64 a,.bool arr] K)=zs (.val (openTs K.os.length [.bool (R3 m a arr)]).1 ⟨K.os++(openTs K.os.length [.bool (R3 m a arr)]).2,K.ext,K.tch⟩):=C9 B (by simp only[VV,XP,seval]) (D4 (a:=fun p:(Modl)×(Cod)×(Int)×(Bool)=>[chkF p.1 p.2.1,.int .i64 p.2.2.1,.bool p.2.2.2]) (r:=fun p=>[.bool (R3 p.1 p.2.2.1 p.2.2.2)]) (fun x y e=>by simp only[VJ]at e;simp only[e]) (m,c,a,arr) trivial) (by simp only[VN,XP,seval])
theorem Gh(B:T 52=zs D2)(D:PEok ⟨env,T,A1⟩):TC env 61 E0:=D6 D fun p h=>Cd B
def z8(l:List Int)(r:Int):Int:=l.getD r.toNat 0
theorem Lm{l:List Int}{k:Nat}(h:k<l.length):(ints l)[k]?=zs (.int .i64 (z8 l k)):=by
 rw[A8 h];unfold z8;simp[h]
theorem Qj{m:Modl}{c:Cod}{r t:Int}{id:Nat}{K:PK}(hN:T 62=zn)(D:thereD r c.regs.length=zt)(B:K.os[id]?=zs (.row 1 [chkF m c] 7)):
 evP ⟨env,T,A1⟩ (.call 62 [.int .i64 r,.int .i64 t,.ptr id 0 0] K)=zs (.val [.bool (decide (z8 c.regs r=t))] K):=by
 obtain⟨k,rfl,hk⟩:=G7 D;have hi:=Lm (show k<c.regs.length by omega);rw[Di hN rfl];rw[A5 (c:=QU) (nt:=14) (rs:=[.tmp 5]) rfl (by simp)];unfold QU;unfold chkF at B;simp only[B,hi,XP,seval]
theorem Tb{P:PE}{c:PC}{X:Type}{p:X->Bool}{l:List X}{S:Nat->PF}{K:PK}{x:Nat}{Q:PF->Prop}{R:PF->PK->Prop}
 (h1:∀i (h:i<l.length),p l[i]=zt->evP P (.code c (S i) K)=zs (.ok .normal (S (i+1)) K))
 (h2:∀i (h:i<l.length),p l[i]=zf->∃fr' K',evP P (.code c (S i) K)=zs (.ok .ret fr' K')/\R fr' K')
 (hx:∃fr',evP P (.code c (S l.length) K)=zs (.ok (.exit x) fr' K)/\Q fr'):
 (l.all p=zt/\∃fr',evP P (.code (.loop c) (S 0) K)=zs (.ok (.exit x) fr' K)/\Q fr')\/(l.all p=zf/\∃fr' K',evP P (.code (.loop c) (S 0) K)=zs (.ok .ret fr' K')/\R fr' K'):=by
 have B:∀(n i:Nat),l.length=i+n->((l.drop i).all p=zt/\∃fr',evP P (.code (.loop c) (S i) K)=zs (.ok (.exit x) fr' K)/\Q fr')\/((l.drop i).all p=zf/\∃fr' K',evP P (.code (.loop c) (S i) K)=zs (.ok .ret fr' K')/\R fr' K'):=fun n=>by
  induction n with
  |zero=>
   intro i e;obtain rfl:i=l.length:=by omega
   obtain⟨fr',h,q⟩:=hx;exact .inl ⟨by rw[zqi];rfl,fr',J5 h,q⟩
  |succ n I=>
   intro i e;have hl:i<l.length:=by omega
   rw[zqj hl,List.all_cons];cases D:p l[i]with
   |true=>
    rw[H9 (h1 i hl D),Bool.true_and];exact I (i+1) (by omega)
   |false=>
    obtain⟨fr',K',G,H⟩:=h2 i hl D;exact .inr ⟨rfl,fr',K',Dh G,H⟩
 exact B l.length 0 (by omega)
section
variable {m:Modl}{c:Cod}{x:Ins}{fr:PF}{i:Nat}{tch:List Nat}
def Nk:List Int:=[1,2,3,4,5,7,10]
def cE(c:Cod)(x:Ins):Bool:=!((!decide (x.op=9)||decide (0<=writesD x))&&(!decide (writesD x=-1) && !thereD (writesD x) c.regs.length))
def codI(l:List Cod)(i:Int):Cod:=l.getD i.toNat ⟨[],0,0,[],[]⟩
def jK(m:Modl)(c:Cod)(x:Ins):Bool:=
 if x.op=1 then decide (wrapD (z8 c.regs x.dst) x.n=x.n)else if x.op=5 then R3 m x.n zt else if x.op=6 then R3 m x.n zt else if x.op=7 then R3 m x.n zf else if x.op=8 then R3 m x.n zf
 else if x.op=9 then thereD x.n m.fs.length&&decide ((codI m.fs x.n).ps<=(codI m.fs x.n).regs.length)else zt
def Ag(x:Ins):Bool:=(Nk.any fun n=>decide (x.op=n))&&decide (x.dst<0)
def E3(m:Modl)(c:Cod)(x:Ins):Bool:=(readsD x).all (fun r=>thereD r c.regs.length)&&(cE c x&&(!Ag x&&jK m c x))
theorem Ln{l:List Cod}{k:Nat}(h:k<l.length):(l.map Cod.F)[k]?=zs (codI l k).F:=by
 rw[A7 (F:=Cod.F) h];unfold codI;simp[h]
theorem BC{w:PO}(h2:lookP fr 2=.ptr 0 0 0)(B:lookP fr 3=.ptr 1 0 0)(V:T 45=zs F5)(hg:T 61=zs E0)(G:T 52=zs D2)(h1:x.op=1->thereD x.dst c.regs.length=zt):
 evP ⟨env,T,A1⟩ (.code Sr fr ⟨[.row 1 [chkF m c] 7,.row 1 [x.F] 8,w],0,tch⟩)=zs (.ok .ret [(4,.bool (jK m c x))] ⟨[],0,[]⟩):=by
 have X:=fun t v K=>Dx (K:=K) (t:=t) (v:=v) V
 have tg:=fun a b K=>Jl (K:=K) (m:=m) (c:=c) (a:=a) (arr:=b) hg
 have U:=fun a n K=>Q7 (K:=K) (a:=a) (n:=n) G
 unfold Sr tA sZ sY sX sW AQ AP jK;unfold Ins.F;unfold chkF at tg|-;by_cases e1:x.op=1
 . obtain⟨k,N,O⟩:=G7 (h1 e1)
   have hi:=Lm (show k<c.regs.length by omega);rw[N];simp only[h2,B,eq_true e1,X,hi,XP,seval]
 by_cases D:x.op=5
 . simp only[h2,B,e1,eq_true D,tg,XP,seval]
 by_cases H:x.op=6
 . simp only[h2,B,e1,D,eq_true H,tg,XP,seval]
 by_cases I:x.op=7
 . simp only[h2,B,e1,D,H,eq_true I,tg,XP,seval]
 by_cases J:x.op=8
 . simp only[h2,B,e1,D,H,I,eq_true J,tg,XP,seval]
 by_cases Q:x.op=9
 . cases G:thereD x.n m.fs.length with
   |false=>simp only[h2,B,e1,D,H,I,J,eq_true Q,U,G,zqa,zkc,XP,seval]
   |true=>
    obtain⟨k,N,O⟩:=G7 G;have hi:=Ln (show k<m.fs.length by omega);simp only[Cod.F]at hi;rw[N]at G|-;simp only[h2,B,e1,D,H,I,J,eq_true Q,U,G,zqa,hi,XP,seval]
 . simp only[h2,B,e1,D,H,I,J,Q,XP,seval]
end
section
variable {m:Modl}{c:Cod}{x:Ins}{fr:PF}{i:Nat}{L:List Int}
theorem KK(h2:lookP fr 2=.ptr 0 0 0)(D:lookP fr 3=.ptr 1 0 0)(H:T 45=zs F5)(hg:T 61=zs E0)(I:T 52=zs D2)(hc:T 60=zs y3)(h1:x.op=1->¬x.dst<0->thereD x.dst c.regs.length=zt):
 evP ⟨env,T,A1⟩ (.code aC fr ⟨[.row 1 [chkF m c] 7,.row 1 [x.F] 8],0,[]⟩)=zs (.ok .ret [(4,.bool (!Ag x&&jK m c x))] ⟨[],0,[]⟩):=by
 have tc:∀K:PK,K.os[2]?=zs (.row 0 (ints Nk) 1)->evP ⟨env,T,A1⟩ (.call 60 [.msl 2 0 7 1,.int .i64 x.op] K)=zs (.val [.bool (Nk.any fun n=>decide (x.op=n))] ⟨K.os++[],K.ext,K.tch⟩):=fun K J=>C9 hc (by
  simp only[Nk,ints,List.map]at J;simp only[J,Nk,XP,seval];rfl) (D4 (a:=fun p:List Int×Int=>[fslN (ints p.1),.int .i64 p.2]) (r:=fun p=>[.bool (p.1.any fun n=>decide (p.2=n))]) (fun x y e=>by simp only[List.cons.injEq,fslN_iff,ints_iff,AV.int.injEq,true_and,and_true]at e;simp only[e]) (Nk,x.op) (by show Nk.length<=bigN;decide)) rfl
 unfold aC AO Ag;cases ha:(Nk.any fun n=>decide (x.op=n))with
 |false=>
  rw[zkc];rw[ha]at tc;have B:∀(fr:PF)(tch:List Nat),lookP fr 2=.ptr 0 0 0->lookP fr 3=.ptr 1 0 0->evP ⟨env,T,A1⟩ (.code Sr fr ⟨[.row 1 [chkF m c] 7,.row 1 [x.F] 8,.row 0 [.int .i64 1,.int .i64 2,.int .i64 3,.int .i64 4,.int .i64 5,.int .i64 7,.int .i64 10] 1],0,tch⟩)=zs (.ok .ret [(4,.bool (jK m c x))] ⟨[],0,[]⟩):=fun fr tch a b=>BC a b H hg I fun e=>absurd ha (by simp[Nk,e])
  simp only[Ins.F]at B|-;simp only[Nk,ints,List.map]at tc;simp only[h2,D,tc,B,XP,seval]
 |true=>
  rw[ha]at tc;simp only[Nk,ints,List.map]at tc;by_cases G:x.dst<0
  . simp only[Ins.F]
    simp only[h2,D,tc,eq_true G,zkc,XP,seval]
  . have B:∀(fr:PF)(tch:List Nat),lookP fr 2=.ptr 0 0 0->lookP fr 3=.ptr 1 0 0->evP ⟨env,T,A1⟩ (.code Sr fr ⟨[.row 1 [chkF m c] 7,.row 1 [x.F] 8,.row 0 [.int .i64 1,.int .i64 2,.int .i64 3,.int .i64 4,.int .i64 5,.int .i64 7,.int .i64 10] 1],0,tch⟩)=zs (.ok .ret [(4,.bool (jK m c x))] ⟨[],0,[]⟩):=fun fr tch a b=>BC a b H hg I fun e=>h1 e G
    simp only[Ins.F]at B|-;simp only[h2,D,tc,G,B,XP,seval]
theorem KL(h:cE c x=zt)(e:x.op=1)(hd:¬x.dst<0):thereD x.dst c.regs.length=zt:=by
 unfold cE writesD at h;rw[if_pos e]at h
 have:¬x.dst=-1:=by omega
 have B:¬x.op=9:=by omega
 cases D:thereD x.dst c.regs.length with
 |true=>rfl
 |false=>rw[D]at h;simp[this,B]at h
theorem KM(h2:lookP fr 2=.ptr 0 0 0)(N:lookP fr 3=.ptr 1 0 0)(V:T 45=zs F5)(hg:T 61=zs E0)(U:T 52=zs D2)(hc:T 60=zs y3)(Q:T 59=zs l8):
 evP ⟨env,T,A1⟩ (.code aD fr ⟨[.row 1 [chkF m c] 7,.row 1 [x.F] 8],0,[]⟩)=zs (.ok .ret [(4,.bool (cE c x&&(!Ag x&&jK m c x)))] ⟨[],0,[]⟩):=by
 have J:=fun K=>jH (K:=K) (x:=x) Q
 have H:=fun K=>Q7 (K:=K) (a:=writesD x) (n:=c.regs.length) U
 have B:cE c x=zt->∀fr:PF,lookP fr 2=.ptr 0 0 0->lookP fr 3=.ptr 1 0 0->evP ⟨env,T,A1⟩ (.code aC fr ⟨[.row 1 [chkF m c] 7,.row 1 [x.F] 8],0,[]⟩)=zs (.ok .ret [(4,.bool (!Ag x&&jK m c x))] ⟨[],0,[]⟩):=fun h fr a b=>KK a b V hg U hc (KL h)
 unfold aD AN AL;have D:cE c x=!((!decide (x.op=9)||decide (0<=writesD x))&&(!decide (writesD x=-1) && !thereD (writesD x) c.regs.length)):=rfl;simp only[Ins.F]at J B|-;simp only[chkF]at B|-;by_cases I:x.op=9
 . by_cases O:0<=writesD x
   . have G:¬writesD x=-1:=by omega
     cases q:thereD (writesD x) c.regs.length with
     |true=>
      have ok:cE c x=zt:=by rw[D,q];simp
      have B:=B ok;rw[q]at H;simp only[h2,N,J,H,eq_true I,eq_true O,eq_false G,zqa,ok,B,XP,seval]
     |false=>
      have ok:cE c x=zf:=by rw[D,q];simp[O,G]
      rw[q]at H;simp only[h2,N,J,H,eq_true I,eq_true O,eq_false G,zqa,ok,zkc,XP,seval]
   . have ok:cE c x=zt:=by rw[D];simp[I,O]
     have B:=B ok;simp only[h2,N,J,eq_true I,eq_false O,ok,B,XP,seval]
 . by_cases G:writesD x=-1
   . have ok:cE c x=zt:=by rw[D];simp[G]
     have B:=B ok;simp only[h2,N,J,I,eq_true G,ok,B,XP,seval]
   . cases q:thereD (writesD x) c.regs.length with
     |true=>
      have ok:cE c x=zt:=by rw[D,q];simp
      have B:=B ok;rw[q]at H;simp only[h2,N,J,H,I,eq_false G,zqa,ok,B,XP,seval]
     |false=>
      have ok:cE c x=zf:=by rw[D,q];simp[I,G]
      rw[q]at H;simp only[h2,N,J,H,I,eq_false G,zqa,ok,zkc,XP,seval]
theorem ZC(G:T 52=zs D2)(h:i<L.length)(H:L.length<=bigN)(I:thereD L[i] c.regs.length=zt):evP ⟨env,T,A1⟩ (.code Il [(2,.ptr 0 0 0),(3,.ptr 1 0 0),(9,.msl 2 0 L.length 1),(10,.int .i64 (L.length:Int)),(11,.int .i64 (i:Int))] ⟨[.row 1 [chkF m c] 7,.row 1 [x.F] 8,.row 0 (ints L) 1],0,[]⟩)=zs (.ok .normal [(2,.ptr 0 0 0),(3,.ptr 1 0 0),(9,.msl 2 0 L.length 1),(10,.int .i64 (L.length:Int)),(11,.int .i64 ((i+1:Nat):Int))] ⟨[.row 1 [chkF m c] 7,.row 1 [x.F] 8,.row 0 (ints L) 1],0,[]⟩):=by
 unfold Il lY sV sU sT;have B:decide ((i:Int)<(L.length:Int))=zt:=by simp[h]
 have J:=B5 (i:=i) (by simp only[bigN]at H;omega);have D:=fun K=>Q7 (K:=K) (a:=L[i]) (n:=c.regs.length) G
 rw[I]at D;unfold chkF Ins.F;simp only[B,A8 h,J,D,h,zqa,XP,seval]
theorem ZD(G:T 52=zs D2)(h:i<L.length)(H:thereD L[i] c.regs.length=zf):evP ⟨env,T,A1⟩ (.code Il [(2,.ptr 0 0 0),(3,.ptr 1 0 0),(9,.msl 2 0 L.length 1),(10,.int .i64 (L.length:Int)),(11,.int .i64 (i:Int))] ⟨[.row 1 [chkF m c] 7,.row 1 [x.F] 8,.row 0 (ints L) 1],0,[]⟩)=zs (.ok .ret [(4,.bool zf)] ⟨[],0,[]⟩):=by
 unfold Il lY sV sU sT;have B:decide ((i:Int)<(L.length:Int))=zt:=by simp[h]
 have D:=fun K=>Q7 (K:=K) (a:=L[i]) (n:=c.regs.length) G
 rw[H]at D;unfold chkF Ins.F;simp only[B,A8 h,D,h,zqa,XP,seval]
theorem ZE:∃fr',evP ⟨env,T,A1⟩ (.code Il [(2,.ptr 0 0 0),(3,.ptr 1 0 0),(9,.msl 2 0 L.length 1),(10,.int .i64 (L.length:Int)),(11,.int .i64 (L.length:Int))] ⟨[.row 1 [chkF m c] 7,.row 1 [x.F] 8,.row 0 (ints L) 1],0,[]⟩)=zs (.ok (.exit 0) fr' ⟨[.row 1 [chkF m c] 7,.row 1 [x.F] 8,.row 0 (ints L) 1],0,[]⟩)/\(lookP fr' 2=.ptr 0 0 0/\lookP fr' 3=.ptr 1 0 0):=by
 unfold Il lY;have B:decide ((L.length:Int)<(L.length:Int))=zf:=by simp
 simp only[B,XP,seval];exact⟨_,rfl,rfl,rfl⟩
theorem jL(B:x.ok):(readsD x).length<=bigN:=by
 unfold readsD
 have:x.args.length<=bigN:=by unfold Ins.ok at B;simp only[bigN]at B|-;omega
 repeat' split
 all_goals first|exact this|(simp[bigN])
theorem Ce(G:T 45=zs F5)(B:T 61=zs E0)(D:T 52=zs D2)(I:T 60=zs y3)(H:T 59=zs l8)(J:T 58=zs Cc){m:Modl}{c:Cod}{x:Ins}(X:x.ok):AM.Comes ⟨env,T,A1⟩ 50 [chkF m c,x.F] [.bool (E3 m c x)]:=by
 refine⟨[.bool (E3 m c x)],⟨[],0,[]⟩,?_,back_of rfl zqb rfl rfl rfl⟩;rw[A5 (c:=QM) (nt:=114) (rs:=[.tmp 4]) rfl (by simp)];unfold QM;unfold K0;have U:=fun K=>pM (K:=K) J X
 have N:=jL X;have O:∀fr:PF,lookP fr 2=.ptr 0 0 0->lookP fr 3=.ptr 1 0 0->evP ⟨env,T,A1⟩ (.code aD fr ⟨[.row 1 [chkF m c] 7,.row 1 [x.F] 8],0,[]⟩)=zs (.ok .ret [(4,.bool (cE c x&&(!Ag x&&jK m c x)))] ⟨[],0,[]⟩):=fun fr a b=>KM a b G B D I H
 have Y:=Tb (P:=⟨env,T,A1⟩) (c:=Il) (p:=fun r=>thereD r c.regs.length) (l:=readsD x) (S:=fun i=>[(2,.ptr 0 0 0),(3,.ptr 1 0 0),(9,.msl 2 0 (readsD x).length 1),(10,.int .i64 ((readsD x).length:Int)),(11,.int .i64 (i:Int))]) (K:=⟨[.row 1 [chkF m c] 7,.row 1 [x.F] 8,.row 0 (ints (readsD x)) 1],0,[]⟩)
  (Q:=fun fr'=>lookP fr' 2=.ptr 0 0 0/\lookP fr' 3=.ptr 1 0 0) (R:=fun fr' K'=>fr'=[(4,.bool zf)]/\K'=⟨[],0,[]⟩) (fun i h V=>ZC D h N V) (fun i h V=>⟨_,_,ZD D h V,rfl,rfl⟩) ZE
 unfold tB AK E3;rcases Y with⟨ha,fr',h1,h2,h3⟩|⟨ha,fr',K',h1,rfl,rfl⟩
 . have h1:evP ⟨env,T,A1⟩ (.code (.loop Il) [(2,.ptr 0 0 0),(3,.ptr 1 0 0),(9,.msl 2 0 (readsD x).length 1),(10,.int .i64 ((readsD x).length:Int)),(11,.int .i64 0)] _)=_:=h1
   rw[ha];simp only[Ins.F,chkF]at U h1 O|-;simp only[U,h1,h2,h3,O,zqa,XP,seval]
 . have h1:evP ⟨env,T,A1⟩ (.code (.loop Il) [(2,.ptr 0 0 0),(3,.ptr 1 0 0),(9,.msl 2 0 (readsD x).length 1),(10,.int .i64 ((readsD x).length:Int)),(11,.int .i64 0)] _)=_:=h1
   rw[ha,zkc];simp only[Ins.F,chkF]at U h1|-;simp only[U,h1,zqa,XP,seval]
def J8:=Bs (fun p:(Modl)×(Cod)×(Ins)=>[chkF p.1 p.2.1,p.2.2.F]) (fun p=>[.bool (E3 p.1 p.2.1 p.2.2)]) (fun p=>p.2.2.ok)
theorem Jm(B:T 50=zs J8){m:Modl}{c:Cod}{x:Ins}{K:PK}(D:x.ok):evP ⟨env,T,A1⟩ (.call 50 [chkF m c,x.F] K)=zs (.val (openTs K.os.length [.bool (E3 m c x)]).1 ⟨K.os++(openTs K.os.length [.bool (E3 m c x)]).2,K.ext,K.tch⟩):=C9 B (by simp only[VV,XP,seval]) (D4 (a:=fun p:(Modl)×(Cod)×(Ins)=>[chkF p.1 p.2.1,p.2.2.F]) (r:=fun p=>[.bool (E3 p.1 p.2.1 p.2.2)]) (fun x y e=>by simp only[VJ]at e;simp only[e]) (m,c,x) D) (by simp only[VN,XP,seval])
theorem Gi(D:T 45=zs F5)(B:T 61=zs E0)(H:T 52=zs D2)(I:T 60=zs y3)(G:T 59=zs l8)(J:T 58=zs Cc)(N:PEok ⟨env,T,A1⟩):TC env 50 J8:=D6 N fun p h=>Ce D B H I G J h
end
section
variable {m:Modl}{c:Cod}{x:Ins}{fr:PF}{i:Nat}
theorem Lo(h:E3 m c x=zt){r:Int}(B:r∈readsD x):thereD r c.regs.length=zt:=by
 unfold E3 at h;rw[zkf]at h;exact List.all_eq_true.1 h.1 r B
theorem Nl(h:E3 m c x=zt)(e:x.op=1\/x.op=2\/x.op=3\/x.op=4\/x.op=5\/x.op=7\/x.op=10):thereD x.dst c.regs.length=zt:=by
 unfold E3 at h;simp only[zkf]at h;obtain⟨_,h1,h2,_⟩:=h;have B:¬x.dst<0:=fun B=>by
  have:Ag x=zt:=by
   unfold Ag Nk;rcases e with e|e|e|e|e|e|e<;>simp[e,B]
  rw[this]at h2;cases h2
 have D:writesD x=x.dst:=by
  unfold writesD;rcases e with e|e|e|e|e|e|e<;>simp[e]
 unfold cE at h1;rw[D]at h1;have G:¬x.op=9:=by omega
 have:¬x.dst=-1:=by omega
 cases H:thereD x.dst c.regs.length with
 |true=>rfl
 |false=>rw[H]at h1;simp[this,G]at h1
theorem tP(h:E3 m c x=zt):jK m c x=zt:=by
 unfold E3 at h;simp only[zkf]at h;exact h.2.2.2
theorem aN(h:E3 m c x=zt)(e:x.op=5\/x.op=6\/x.op=7\/x.op=8):thereD x.n m.gs.length=zt:=by
 have h:=tP h;unfold jK at h;rcases e with e|e|e|e<;>simp[e,R3]at h<;>exact h.1
theorem tQ(h:E3 m c x=zt)(e:x.op=9):thereD x.n m.fs.length=zt/\(codI m.fs x.n).ps<=(codI m.fs x.n).regs.length:=by
 have h:=tP h;unfold jK at h;simpa[e]using h
theorem xS(h:E3 m c x=zt)(e:x.op=9)(hd:¬x.dst<0):thereD x.dst c.regs.length=zt:=by
 unfold E3 at h;simp only[zkf]at h;obtain⟨_,h1,h2,_⟩:=h;have B:writesD x=x.dst:=by
  unfold writesD;simp[e];omega
 unfold cE at h1;rw[B]at h1
 have:¬x.dst=-1:=by omega
 have h0:0<=x.dst:=by omega
 cases D:thereD x.dst c.regs.length with
 |true=>rfl
 |false=>rw[D]at h1;simp[this,h0]at h1
def isD(c:Cod)(r t:Int):Bool:=decide (z8 c.regs r=t)
def jM(l:List Glo)(i:Int):Glo:=l.getD i.toNat ⟨[],0,0,0⟩
theorem tR{l:List Glo}{k:Nat}(h:k<l.length):(l.map Glo.F)[k]?=zs (jM l k).F:=by
 rw[A7 (F:=Glo.F) h];unfold jM;simp[h]
def KN(x:Ins):Int:=if contS (32::(x.s++[32])) Ta then 1 else x.ty
def Cf(m:Modl)(c:Cod)(x:Ins):Bool:=(x.args.zip (codI m.fs x.n).regs).all (fun p=>isD c p.1 p.2)&&(decide (x.dst<0)||(!decide ((codI m.fs x.n).ty=0)&&isD c x.dst (codI m.fs x.n).ty))
def Ah(m:Modl)(c:Cod)(x:Ins):Bool:=
 if x.op=2 then isD c x.a (z8 c.regs x.dst)else if x.op=3 then isD c x.a x.ty&&(isD c x.b x.ty&&isD c x.dst (KN x))else if x.op=4 then isD c x.dst (Ip x.ty)
 else if x.op=5 then isD c x.a 2&&isD c x.dst (Ip (jM m.gs x.n).ty)else if x.op=6 then isD c x.a 2&&isD c x.b (Ip (jM m.gs x.n).ty)else if x.op=7 then isD c x.dst (jM m.gs x.n).ty else if x.op=8 then isD c x.a (jM m.gs x.n).ty
 else if x.op=9 then Cf m c x else if x.op=10 then isD c x.dst 2 else if x.op=11 then isD c x.a 2 else zt
def Tc(m:Modl)(x:Ins):Prop:=x.op=9->(x.args.length:Int)=(codI m.fs x.n).ps
section
variable {F:Cod}{A:List Int}
theorem ZF(hN:T 62=zn)(h:i<A.length)(G:i<F.regs.length)(H:A.length<=bigN)(I:thereD A[i] c.regs.length=zt)(B:isD c A[i] F.regs[i]=zt):
 evP ⟨env,T,A1⟩ (.code Im [(2,.fn (.func 62) [] [.ptr 0 0 0]),(4,.ptr 2 0 0),(7,.ptr 3 0 0),(18,fslN (ints A)),(19,.int .i64 (A.length:Int)),(20,.int .i64 (i:Int))] ⟨[.row 1 [chkF m c] 7,.row 1 [x.F] 8,.row 1 [x.F] 8,.row 1 [F.F] 5],2,[]⟩)=zs (.ok .normal [(2,.fn (.func 62) [] [.ptr 0 0 0]),(4,.ptr 2 0 0),(7,.ptr 3 0 0),(18,fslN (ints A)),(19,.int .i64 (A.length:Int)),(20,.int .i64 ((i+1:Nat):Int))] ⟨[.row 1 [chkF m c] 7,.row 1 [x.F] 8,.row 1 [x.F] 8,.row 1 [F.F] 5],2,[]⟩):=by
 unfold Im;have D:decide ((i:Int)<(A.length:Int))=zt:=by simp[h]
 have N:=B5 (i:=i) (by simp only[bigN]at H;omega);have ic:=fun t K J=>Qj (m:=m) (t:=t) (id:=0) (K:=K) hN I J
 have B:decide (z8 c.regs A[i]=F.regs[i])=zt:=B;simp only[chkF,Ins.F,Cod.F]at ic|-;simp only[D,A8 h,A8 G,N,ic,B,XP,seval]
theorem ZG(hN:T 62=zn)(h:i<A.length)(G:i<F.regs.length)(H:thereD A[i] c.regs.length=zt)(B:isD c A[i] F.regs[i]=zf):
 ∃K',evP ⟨env,T,A1⟩ (.code Im [(2,.fn (.func 62) [] [.ptr 0 0 0]),(4,.ptr 2 0 0),(7,.ptr 3 0 0),(18,fslN (ints A)),(19,.int .i64 (A.length:Int)),(20,.int .i64 (i:Int))] ⟨[.row 1 [chkF m c] 7,.row 1 [x.F] 8,.row 1 [x.F] 8,.row 1 [F.F] 5],2,[]⟩)=zs (.ok .ret [(6,.bool zf)] K')/\K'=⟨[.row 1 [chkF m c] 7,.row 1 [x.F] 8],2,[]⟩:=by
 unfold Im;have D:decide ((i:Int)<(A.length:Int))=zt:=by simp[h]
 have ic:=fun t K I=>Qj (m:=m) (t:=t) (id:=0) (K:=K) hN H I
 have B:decide (z8 c.regs A[i]=F.regs[i])=zf:=B;simp only[chkF,Ins.F,Cod.F]at ic|-;simp only[D,A8 h,A8 G,ic,B,XP,seval];exact⟨_,rfl,rfl⟩
theorem ZH:∃fr',evP ⟨env,T,A1⟩ (.code Im [(2,.fn (.func 62) [] [.ptr 0 0 0]),(4,.ptr 2 0 0),(7,.ptr 3 0 0),(18,fslN (ints A)),(19,.int .i64 (A.length:Int)),(20,.int .i64 (A.length:Int))] ⟨[.row 1 [chkF m c] 7,.row 1 [x.F] 8,.row 1 [x.F] 8,.row 1 [F.F] 5],2,[]⟩)=zs (.ok (.exit 0) fr' ⟨[.row 1 [chkF m c] 7,.row 1 [x.F] 8,.row 1 [x.F] 8,.row 1 [F.F] 5],2,[]⟩)/\(lookP fr' 2=.fn (.func 62) [] [.ptr 0 0 0]/\lookP fr' 4=.ptr 2 0 0/\lookP fr' 7=.ptr 3 0 0):=by
 unfold Im;have B:decide ((A.length:Int)<(A.length:Int))=zf:=by simp
 simp only[B,XP,seval];exact⟨_,rfl,rfl,rfl,rfl⟩
end
theorem pN(hN:T 62=zn)(hk:x.ok)(H:E3 m c x=zt)(O:x.op=9)(ha:Tc m x):
 evP ⟨env,T,A1⟩ (.body 64 [chkF m c,x.F,.fn (.func 62) [] [.ptr 0 0 0]] ⟨[.row 1 [chkF m c] 7,.row 1 [x.F] 8],2,[]⟩)=zs (.val [.bool (Cf m c x)] ⟨[.row 1 [chkF m c] 7,.row 1 [x.F] 8],2,[]⟩):=by
 obtain⟨hf,hps⟩:=tQ H O;have ha:=ha O;obtain⟨k,N,hkl⟩:=G7 hf;have hi:=Ln (show k<m.fs.length by omega);rw[<-N]at hi;have J:x.args.length<=bigN:=by unfold Ins.ok at hk;simp only[bigN]at hk|-;omega
 have hz:(x.args.zip (codI m.fs x.n).regs).length=x.args.length:=by rw[zqo];omega
 have rd:∀i (h:i<x.args.length),thereD x.args[i] c.regs.length=zt:=fun i h=>Lo H (by
  have:readsD x=x.args:=by simp[readsD,O]
  rw[this];exact zqg h)
 have lp:=Tb (P:=⟨env,T,A1⟩) (c:=Im) (p:=fun p=>isD c p.1 p.2) (l:=x.args.zip (codI m.fs x.n).regs) (S:=fun i=>[(2,.fn (.func 62) [] [.ptr 0 0 0]),(4,.ptr 2 0 0),(7,.ptr 3 0 0),(18,fslN (ints x.args)),(19,.int .i64 (x.args.length:Int)),(20,.int .i64 (i:Int))]) (K:=⟨[.row 1 [chkF m c] 7,.row 1 [x.F] 8,.row 1 [x.F] 8,.row 1 [(codI m.fs x.n).F] 5],2,[]⟩)
  (Q:=fun fr'=>lookP fr' 2=.fn (.func 62) [] [.ptr 0 0 0]/\lookP fr' 4=.ptr 2 0 0/\lookP fr' 7=.ptr 3 0 0) (R:=fun fr' K'=>fr'=[(6,.bool zf)]/\K'=⟨[.row 1 [chkF m c] 7,.row 1 [x.F] 8],2,[]⟩)
  (fun i h V=>ZF (F:=codI m.fs x.n) (A:=x.args) hN (by omega) (by rw[zqo]at h;omega) J (rd i (by omega)) (by simpa using V)) (fun i h V=>by
    obtain⟨K',q1,q2⟩:=ZG (m:=m) (x:=x) (F:=codI m.fs x.n) (A:=x.args) hN (show i<x.args.length by omega) (by rw[zqo]at h;omega) (rd i (by omega)) (by simpa using V);exact⟨_,K',q1,rfl,q2⟩) (by rw[hz];exact ZH)
 rw [A5 (c:=QW) (nt:=51) (rs:=[.tmp 6]) rfl (by simp)];unfold QW;have B:Cf m c x=((x.args.zip (codI m.fs x.n).regs).all (fun p=>isD c p.1 p.2)&&(decide (x.dst<0)||(!decide ((codI m.fs x.n).ty=0)&&isD c x.dst (codI m.fs x.n).ty))):=rfl;have D:∀te:TI,te.size=5->Vd te (fslN (m.fs.map Cod.F)) (.int .i64 x.n)=zs (.fptr (codI m.fs x.n).F 0):=fun te h=>by
  rw[N]at hi|-;exact ix_fslN hi (by rw[h];rfl)
 have D:=D _ ty38_z;rcases lp with⟨G,fr',h1,h2,X,Y⟩|⟨G,fr',K',h1,rfl,rfl⟩
 . have h1:evP ⟨env,T,A1⟩ (.code (.loop Im) [(2,.fn (.func 62) [] [.ptr 0 0 0]),(4,.ptr 2 0 0),(7,.ptr 3 0 0),(18,fslN (ints x.args)),(19,.int .i64 (x.args.length:Int)),(20,.int .i64 0)] _)=_:=h1
   rw[G,Bool.true_and]at B;simp only[chkF,Ins.F,Cod.F]at h1 D|-;by_cases I:x.dst<0
   . have B:Cf m c x=zt:=by rw[B];simp[I]
     simp only[D,h1,h2,X,Y,B,eq_true I,zqa,XP,seval]
   . by_cases U:(codI m.fs x.n).ty=0
     . have B:Cf m c x=zf:=by rw[B];simp[I,U]
       simp only[D,h1,h2,X,Y,B,I,eq_true U,zqa,XP,seval]
     . have B:Cf m c x=isD c x.dst (codI m.fs x.n).ty:=by rw[B];simp[I,U]
       have ic:=fun t K hK=>Qj (m:=m) (r:=x.dst) (t:=t) (id:=0) (K:=K) hN (xS H O I) hK
       unfold isD at B;simp only[chkF]at ic;simp only[D,h1,h2,X,Y,B,I,U,ic,zqa,XP,seval]
 . have h1:evP ⟨env,T,A1⟩ (.code (.loop Im) [(2,.fn (.func 62) [] [.ptr 0 0 0]),(4,.ptr 2 0 0),(7,.ptr 3 0 0),(18,fslN (ints x.args)),(19,.int .i64 (x.args.length:Int)),(20,.int .i64 0)] _)=_:=h1
   rw[G,zkc]at B;simp only[chkF,Ins.F,Cod.F]at h1 D|-;simp only[D,h1,B,zqa,XP,seval]
end
section
variable {m:Modl}{c:Cod}{x:Ins}{fr:PF}{i:Nat}{tch:List Nat}
theorem pO(hN:T 62=zn)(hC:T 64=zn)(D:x.ok)(B:E3 m c x=zt)(G:x.op=9)(ha:Tc m x):
 evP ⟨env,T,A1⟩ (.call 64 [chkF m c,x.F,.fn (.func 62) [] [.ptr 0 0 0]] ⟨[.row 1 [chkF m c] 7,.row 1 [x.F] 8],0,tch⟩)=zs (.val [.bool (Cf m c x)] ⟨[.row 1 [chkF m c] 7,.row 1 [x.F] 8],0,tch⟩):=
 (Di hC rfl).trans ((congrArg _ (pN hN D B G ha)).trans rfl)
theorem Dy(B:T 62=zn)(I:T 64=zn)(G:T 57=zs U5)(V:T 63=zs Gc){m:Modl}{c:Cod}{x:Ins}(Q:x.ok/\x.s.length<=bigN/\E3 m c x=zt/\Tc m x):AM.Comes ⟨env,T,A1⟩ 51 [chkF m c,x.F] [.bool (Ah m c x)]:=by
 refine⟨[.bool (Ah m c x)],⟨[],0,[]⟩,?_,back_of rfl zqb rfl rfl rfl⟩;rw[A5 (c:=QN) (nt:=150) (rs:=[.tmp 4]) rfl (by simp)];unfold QN;unfold K0;obtain⟨hx,hs,D,ad⟩:=Q;have J:=fun(r t:Int)(K:PK)(hr:thereD r c.regs.length=zt) N=>Qj (m:=m) (c:=c) (r:=r) (t:=t) (id:=0) (K:=K) B hr N
 have tw:=fun t K=>tM (K:=K) (t:=t) V
 have cc:=fun e9 tch=>pO (tch:=tch) B I hx D e9 ad
 have ab:∀k:Nat,x.n=k->k<m.gs.length->Vd Pl (fslN (m.gs.map Glo.F)) (.int .i64 x.n)=zs (.fptr (jM m.gs x.n).F 0):=fun k Q hl=>by
  rw[Q];exact ix_fslN (tR hl) rfl
 have af:∀k:Nat,x.dst=k->k<c.regs.length->Vd ty3 (fslN (ints c.regs)) (.int .i64 x.dst)=zs (.fptr (.int .i64 (z8 c.regs x.dst)) 0):=fun k Q hl=>by
  rw[Q];exact ix_fslN (Lm hl) rfl
 unfold tG tF tE tD tC BB BA AZ AY AX AW AU AT Ah;simp only[chkF,Ins.F]at J cc|-;by_cases e2:x.op=2
 . have U:=fun t K N=>J x.a t K (Lo D (by simp[readsD,e2])) N
   obtain⟨k,Q,hl⟩:=G7 (Nl D (by simp[e2]));have H:=af k Q (by omega);unfold isD;simp only[eq_true e2,U,H,XP,seval]
 by_cases O:x.op=3
 . have U:=fun t K N=>J x.a t K (Lo D (by simp[readsD,O])) N
   have ib:=fun t K N=>J x.b t K (Lo D (by simp[readsD,O])) N
   have id:=fun t K N=>J x.dst t K (Nl D (by simp[O])) N
   have d1:∀K:PK,R1 env .add 9 (.str [32]) (.str x.s) K=.val (.str (32::x.s)) K:=fun K=>Qi (by simp only[bigN]at hs;simp;omega)
   have d2:∀K:PK,R1 env .add 9 (.str (32::x.s)) (.str [32]) K=.val (.str (32::(x.s++[32]))) K:=fun K=>Qi (by simp only[bigN]at hs;simp;omega)
   have cn:=fun K=>Nj (K:=K) (s:=Ta) (p:=32::(x.s++[32])) G (by unfold Ni;rfl)
   unfold isD KN AS AR;unfold Ta at cn|-;by_cases qa:z8 c.regs x.a=x.ty
   . by_cases qb:z8 c.regs x.b=x.ty
     . cases aa:contS (32::(x.s++[32])) [32,61,61,32,33,61,32,60,32,60,61,32,62,32,62,61,32]with
       |_=>simp only[e2,eq_true O,U,ib,id,d1,d2,cn,aa,eq_true qa,eq_true qb,XP,seval]
     . cases aa:contS (32::(x.s++[32])) [32,61,61,32,33,61,32,60,32,60,61,32,62,32,62,61,32]with
       |_=>simp only[e2,eq_true O,U,ib,id,d1,d2,cn,aa,eq_true qa,eq_false qb,zkc,XP,seval]
   . cases aa:contS (32::(x.s++[32])) [32,61,61,32,33,61,32,60,32,60,61,32,62,32,62,61,32]with
     |_=>simp only[e2,eq_true O,U,ib,id,d1,d2,cn,aa,eq_false qa,zkc,XP,seval]
 by_cases Y:x.op=4
 . have id:=fun t K N=>J x.dst t K (Nl D (by simp[Y])) N
   unfold isD;simp only[e2,O,eq_true Y,id,tw,XP,seval]
 by_cases X:x.op=5
 . have U:=fun t K N=>J x.a t K (Lo D (by simp[readsD,X])) N
   have id:=fun t K N=>J x.dst t K (Nl D (by simp[X])) N
   obtain⟨k,Q,hl⟩:=G7 (aN D (by simp[X]));have H:=ab k Q (by omega);simp only[Glo.F]at H;unfold isD;by_cases qa:z8 c.regs x.a=2
   . simp only[e2,O,Y,eq_true X,U,id,H,tw,eq_true qa,XP,seval]
   . simp only[e2,O,Y,eq_true X,U,id,H,tw,eq_false qa,zkc,XP,seval]
 by_cases e6:x.op=6
 . have U:=fun t K N=>J x.a t K (Lo D (by simp[readsD,e6])) N
   have ib:=fun t K N=>J x.b t K (Lo D (by simp[readsD,e6])) N
   obtain⟨k,Q,hl⟩:=G7 (aN D (by simp[e6]));have H:=ab k Q (by omega);simp only[Glo.F]at H;unfold isD;by_cases qa:z8 c.regs x.a=2
   . simp only[e2,O,Y,X,eq_true e6,U,ib,H,tw,eq_true qa,XP,seval]
   . simp only[e2,O,Y,X,eq_true e6,U,ib,H,tw,eq_false qa,zkc,XP,seval]
 by_cases e7:x.op=7
 . have id:=fun t K N=>J x.dst t K (Nl D (by simp[e7])) N
   obtain⟨k,Q,hl⟩:=G7 (aN D (by simp[e7]));have H:=ab k Q (by omega);simp only[Glo.F]at H;unfold isD;simp only[e2,O,Y,X,e6,eq_true e7,id,H,XP,seval]
 by_cases e8:x.op=8
 . have U:=fun t K N=>J x.a t K (Lo D (by simp[readsD,e8])) N
   obtain⟨k,Q,hl⟩:=G7 (aN D (by simp[e8]));have H:=ab k Q (by omega);simp only[Glo.F]at H;unfold isD;simp only[e2,O,Y,X,e6,e7,eq_true e8,U,H,XP,seval]
 by_cases e9:x.op=9
 . have cc:=cc e9
   simp only[e2,O,Y,X,e6,e7,e8,eq_true e9,cc,XP,seval]
 by_cases ac:x.op=10
 . have id:=fun t K N=>J x.dst t K (Nl D (by simp[ac])) N
   unfold isD;simp only[e2,O,Y,X,e6,e7,e8,e9,eq_true ac,id,XP,seval]
 by_cases ae:x.op=11
 . have U:=fun t K N=>J x.a t K (Lo D (by simp[readsD,ae])) N
   unfold isD;simp only[e2,O,Y,X,e6,e7,e8,e9,ac,eq_true ae,U,XP,seval]
 . simp only[e2,O,Y,X,e6,e7,e8,e9,ac,ae,XP,seval]
def M0:=Bs (fun p:(Modl)×(Cod)×(Ins)=>[chkF p.1 p.2.1,p.2.2.F]) (fun p=>[.bool (Ah p.1 p.2.1 p.2.2)]) (fun p=>p.2.2.ok/\p.2.2.s.length<=bigN/\E3 p.1 p.2.1 p.2.2=zt/\Tc p.1 p.2.2)
theorem Bi(B:T 51=zs M0){m:Modl}{c:Cod}{x:Ins}{K:PK}(D:x.ok/\x.s.length<=bigN/\E3 m c x=zt/\Tc m x):evP ⟨env,T,A1⟩ (.call 51 [chkF m c,x.F] K)=zs (.val (openTs K.os.length [.bool (Ah m c x)]).1 ⟨K.os++(openTs K.os.length [.bool (Ah m c x)]).2,K.ext,K.tch⟩):=C9 B (by simp only[VV,XP,seval]) (D4 (a:=fun p:(Modl)×(Cod)×(Ins)=>[chkF p.1 p.2.1,p.2.2.F]) (r:=fun p=>[.bool (Ah p.1 p.2.1 p.2.2)]) (fun x y e=>by simp only[VJ]at e;simp only[e]) (m,c,x) D) (by simp only[VN,XP,seval])
theorem Hw(B:T 62=zn)(G:T 64=zn)(D:T 57=zs U5)(H:T 63=zs Gc)(I:PEok ⟨env,T,A1⟩):TC env 51 M0:=D6 I fun p h=>Dy B G D H h
end
section
variable {m:Modl}{c:Cod}{x:Ins}{fr:PF}{i:Nat}{tch:List Nat}
def L3(m:Modl)(c:Cod)(x:Ins):Int:=if Gf x=zt then(if E3 m c x=zt then(if x.op=9 then(if(x.args.length:Int)=(codI m.fs x.n).ps then(if Ah m c x=zt then 0 else 6)else 7)else(if Ah m c x=zt then 0 else 6))else 11)else 2
theorem Dz(G:T 49=zs Gg)(D:T 50=zs J8)(B:T 51=zs M0){m:Modl}{c:Cod}{x:Ins}(hk:x.ok/\x.s.length<=bigN):AM.Comes ⟨env,T,A1⟩ 37 [chkF m c,x.F] [.int .i64 (L3 m c x)]:=by
 refine⟨[.int .i64 (L3 m c x)],⟨[],0,[]⟩,?_,back_of rfl zqb rfl rfl rfl⟩;rw[A5 (c:=QG) (nt:=37) (rs:=[.tmp 4]) rfl (by simp)];unfold QG;unfold K0;obtain⟨V,X⟩:=hk;have H:=fun K=>tO (K:=K) G X
 have I:=fun K=>Jm (K:=K) (m:=m) (c:=c) D V
 unfold L3;cases hf:Gf x with
 |false=>
  rw[hf]at H;simp only[Ins.F,chkF]at H|-;simp only[H,XP,seval]
 |true=>
  rw[hf]at H;cases Q:E3 m c x with
  |false=>
   rw[Q]at I;simp only[Ins.F,chkF]at H I|-;simp only[H,I,XP,seval]
  |true=>
   rw[Q]at I;by_cases U:x.op=9
   . obtain ⟨Y,hps⟩:=tQ Q U
     obtain ⟨k,O,hkl⟩:=G7 Y;have hi:=Ln (show k<m.fs.length by omega);rw[<-O]at hi;have J:Vd Dw (fslN (m.fs.map Cod.F)) (.int .i64 x.n)=zs (.fptr (codI m.fs x.n).F 0):=by
      rw[O]at hi|-;exact ix_fslN hi rfl
     by_cases hq:(x.args.length:Int)=(codI m.fs x.n).ps
     . have N:=fun K=>Bi (K:=K) (m:=m) (c:=c) B ⟨V,X,Q,fun _=>hq⟩
       cases ht:Ah m c x with
       |_=>rw[ht]at N;simp only[Ins.F,chkF,Cod.F]at H I N J|-;simp only[H,I,N,J,eq_true U,eq_true hq,zqa,XP,seval]
     . simp only[Ins.F,chkF,Cod.F]at H I J|-;simp only[H,I,J,eq_true U,hq,zqa,XP,seval]
   . have N:=fun K=>Bi (K:=K) (m:=m) (c:=c) B ⟨V,X,Q,fun h=>absurd h U⟩
     cases ht:Ah m c x with
     |_=>rw[ht]at N;simp only[Ins.F,chkF]at H I N|-;simp only[H,I,N,U,XP,seval]
def C5:=Bs (fun p:(Modl)×(Cod)×(Ins)=>[chkF p.1 p.2.1,p.2.2.F]) (fun p=>[.int .i64 (L3 p.1 p.2.1 p.2.2)]) (fun p=>p.2.2.ok/\p.2.2.s.length<=bigN)
theorem Bj(B:T 37=zs C5){m:Modl}{c:Cod}{x:Ins}{K:PK}(D:x.ok/\x.s.length<=bigN):evP ⟨env,T,A1⟩ (.call 37 [chkF m c,x.F] K)=zs (.val (openTs K.os.length [.int .i64 (L3 m c x)]).1 ⟨K.os++(openTs K.os.length [.int .i64 (L3 m c x)]).2,K.ext,K.tch⟩):=C9 B (by simp only[VV,XP,seval]) (D4 (a:=fun p:(Modl)×(Cod)×(Ins)=>[chkF p.1 p.2.1,p.2.2.F]) (r:=fun p=>[.int .i64 (L3 p.1 p.2.1 p.2.2)]) (fun x y e=>by simp only[VJ]at e;simp only[e]) (m,c,x) D) (by simp only[VN,XP,seval])
theorem Hx(G:T 49=zs Gg)(B:T 50=zs J8)(D:T 51=zs M0)(H:PEok ⟨env,T,A1⟩):TC env 37 C5:=D6 H fun p h=>Dz G B D h
def Pq(c:Cod)(e:Endd):Int:=
 if e.kind=1 then(if thereD e.to c.blocks.length=zt then 0 else 11)
 else if e.kind=2 then(if thereD e.to c.blocks.length=zt then(if thereD e.els c.blocks.length=zt then(if thereD e.a c.regs.length=zt then(if z8 c.regs e.a=1 then 0 else 6)else 11)else 11)else 11)
 else if e.kind=3 then(if e.a<0 then(if c.ty=0 then 0 else 6)else(if thereD e.a c.regs.length=zt then(if c.ty=0 then 6 else if z8 c.regs e.a=c.ty then 0 else 6)else 11))else 2
theorem Gj(B:T 52=zs D2){m:Modl}{c:Cod}{e:Endd}:AM.Comes ⟨env,T,A1⟩ 38 [chkF m c,e.F] [.int .i64 (Pq c e)]:=by
 refine⟨[.int .i64 (Pq c e)],⟨[],0,[]⟩,?_,back_of rfl zqb rfl rfl rfl⟩;rw[A5 (c:=QH) (nt:=100) (rs:=[.tmp 4]) rfl (by simp)];unfold QH;unfold K0;have D:=fun a n K=>Q7 (K:=K) (a:=a) (n:=n) B
 have O:=mC 4 rfl;have Q:∀k:Nat,e.a=k->k<c.regs.length->Vd ty3 (fslN (ints c.regs)) (.int .i64 e.a)=zs (.fptr (.int .i64 (z8 c.regs e.a)) 0):=fun k N hl=>by
  rw[N];exact ix_fslN (Lm hl) rfl
 have U:(zt==zt)=zt:=rfl;have V:(zt==zf)=zf:=rfl;have X:(zf==zt)=zf:=rfl;have Y:(zf==zf)=zt:=rfl;unfold Pq;simp only[Endd.F,chkF];by_cases e1:e.kind=1
 . cases h1:thereD e.to c.blocks.length with
   |_=>simp only[D,h1,eq_true e1,zqa,XP,seval]
 by_cases e2:e.kind=2
 . cases h1:thereD e.to c.blocks.length with
   |false=>simp only[D,h1,e1,eq_true e2,zqa,XP,seval]
   |true=>
    cases h2:thereD e.els c.blocks.length with
    |false=>simp only[D,h1,h2,e1,eq_true e2,zqa,XP,seval]
    |true=>
     cases H:thereD e.a c.regs.length with
     |false=>simp only[D,h1,h2,H,e1,eq_true e2,zqa,XP,seval]
     |true=>
      obtain⟨k,N,hl⟩:=G7 H;have G:=Q k N (by omega);by_cases hq:z8 c.regs e.a=1
      . simp only[D,h1,h2,H,G,eq_true hq,e1,eq_true e2,zqa,XP,seval]
      . simp only[D,h1,h2,H,G,hq,e1,eq_true e2,zqa,XP,seval]
 by_cases I:e.kind=3
 . by_cases ha:e.a<0
   . by_cases J:c.ty=0
     . simp only[D,O,U,V,X,Y,eq_true ha,eq_true J,e1,e2,eq_true I,zqa,XP,seval]
     . simp only[D,O,U,V,X,Y,eq_true ha,J,e1,e2,eq_true I,zqa,XP,seval]
   . cases H:thereD e.a c.regs.length with
     |false=>simp only[D,H,ha,e1,e2,eq_true I,zqa,XP,seval]
     |true=>
      obtain⟨k,N,hl⟩:=G7 H;have G:=Q k N (by omega);by_cases J:c.ty=0
      . simp only[D,H,O,U,V,X,Y,ha,eq_true J,e1,e2,eq_true I,zqa,XP,seval]
      . by_cases hq:z8 c.regs e.a=c.ty
        . simp only[D,H,G,O,U,V,X,Y,ha,J,eq_true hq,e1,e2,eq_true I,zqa,XP,seval]
        . simp only[D,H,G,O,U,V,X,Y,ha,J,hq,e1,e2,eq_true I,zqa,XP,seval]
 . simp only[e1,e2,I,zqa,XP,seval]
def I1:=Bs (fun p:(Modl)×(Cod)×(Endd)=>[chkF p.1 p.2.1,p.2.2.F]) (fun p=>[.int .i64 (Pq p.2.1 p.2.2)]) (fun p=>True)
theorem El(B:T 38=zs I1){m:Modl}{c:Cod}{e:Endd}{K:PK}:evP ⟨env,T,A1⟩ (.call 38 [chkF m c,e.F] K)=zs (.val (openTs K.os.length [.int .i64 (Pq c e)]).1 ⟨K.os++(openTs K.os.length [.int .i64 (Pq c e)]).2,K.ext,K.tch⟩):=C9 B (by simp only[VV,XP,seval]) (D4 (a:=fun p:(Modl)×(Cod)×(Endd)=>[chkF p.1 p.2.1,p.2.2.F]) (r:=fun p=>[.int .i64 (Pq p.2.1 p.2.2)]) (fun x y e=>by simp only[VJ]at e;simp only[e]) (m,c,e) trivial) (by simp only[VN,XP,seval])
theorem Lr(B:T 52=zs D2)(D:PEok ⟨env,T,A1⟩):TC env 38 I1:=D6 D fun p h=>Gj B
def G1:List Int->Int
 |[]=>0
 |e::l=>if e=0 then G1 l else e
theorem err_loop{P:PE}{c:PC}{X:Type}{f:X->Int}{l:List X}{S:Nat->PF}{K:PK}{x:Nat}{Q:PF->Prop}{R:Int->PF->PK->Prop}
 (h1:∀i (h:i<l.length),f l[i]=0->evP P (.code c (S i) K)=zs (.ok .normal (S (i+1)) K))
 (h2:∀i (h:i<l.length),¬f l[i]=0->∃fr' K',evP P (.code c (S i) K)=zs (.ok .ret fr' K')/\R (f l[i]) fr' K')
 (hx:∃fr',evP P (.code c (S l.length) K)=zs (.ok (.exit x) fr' K)/\Q fr'):
 (G1 (l.map f)=0/\∃fr',evP P (.code (.loop c) (S 0) K)=zs (.ok (.exit x) fr' K)/\Q fr')\/(¬G1 (l.map f)=0/\∃fr' K',evP P (.code (.loop c) (S 0) K)=zs (.ok .ret fr' K')/\R (G1 (l.map f)) fr' K'):=by
 have D:∀(n i:Nat),l.length=i+n->(G1 ((l.drop i).map f)=0/\∃fr',evP P (.code (.loop c) (S i) K)=zs (.ok (.exit x) fr' K)/\Q fr')\/(¬G1 ((l.drop i).map f)=0/\∃fr' K',evP P (.code (.loop c) (S i) K)=zs (.ok .ret fr' K')/\R (G1 ((l.drop i).map f)) fr' K'):=fun n=>by
  induction n with
  |zero=>
   intro i e;obtain rfl:i=l.length:=by omega
   obtain⟨fr',h,q⟩:=hx;exact .inl ⟨by rw[zqi];rfl,fr',J5 h,q⟩
  |succ n I=>
   intro i e;have hl:i<l.length:=by omega
   rw[zqj hl,List.map_cons];unfold G1;by_cases B:f l[i]=0
   . rw[H9 (h1 i hl B),if_pos B]
     exact I (i+1) (by omega)
   . obtain⟨fr',K',G,H⟩:=h2 i hl B
     rw[if_neg B];exact .inr ⟨B,fr',K',Dh G,H⟩
 exact D l.length 0 (by omega)
end
def Ins.sok(x:Ins):Prop:=x.ok/\x.s.length<=bigN
def Blk.sok(b:Blk):Prop:=b.ok/\∀x∈b.code,x.sok
def Cod.sok(c:Cod):Prop:=c.ok/\∀b∈c.blocks,b.sok
def Modl.ok(m:Modl):Prop:=(∀c∈m.fs,c.sok)/\m.fs.length*64<=bigN/\m.gs.length*40<=bigN
section
variable {m:Modl}{c:Cod}{x:Ins}{b:Blk}{fr:PF}{i k:Nat}{tch:List Nat}
def Nm(m:Modl)(c:Cod)(b:Blk):Int:=if G1 (b.code.map (L3 m c))=0 then Pq c b.e else G1 (b.code.map (L3 m c))
def V0(m:Modl)(c:Cod):Int:=
 if c.blocks.length<1\/400<c.blocks.length\/4096<c.regs.length then 9 else if c.ps<0\/(c.regs.length:Int)<c.ps then 11
 else if c.ty<0\/2<c.ty\/(c.regs.any fun n=>!F4 n)=zt then 6 else G1 (c.blocks.map (Nm m c))
theorem KO(hT:T 37=zs C5)(h:k<b.code.length)(D:b.sok)(G:L3 m c b.code[k]=0):
 evP ⟨env,T,A1⟩ (.code Ii [(1,.ptr 0 0 0),(5,.ptr 1 0 0),(56,fslN (c.blocks.map Blk.F)),(57,.int .i64 (c.blocks.length:Int)),(58,.int .i64 (i:Int)),(63,fslN (b.code.map Ins.F)),(64,.int .i64 (b.code.length:Int)),(65,.int .i64 (k:Int))] ⟨[.row 1 [chkF m c] 7,.row 1 [b.F] 5],0,[]⟩)=zs (.ok .normal [(1,.ptr 0 0 0),(5,.ptr 1 0 0),(56,fslN (c.blocks.map Blk.F)),(57,.int .i64 (c.blocks.length:Int)),(58,.int .i64 (i:Int)),(63,fslN (b.code.map Ins.F)),(64,.int .i64 (b.code.length:Int)),(65,.int .i64 ((k+1:Nat):Int))] ⟨[.row 1 [chkF m c] 7,.row 1 [b.F] 5],0,[]⟩):=by
 unfold Ii;have B:decide ((k:Int)<(b.code.length:Int))=zt:=by simp[h]
 have H:=B5 (i:=k) (by have:=D.1.2;simp only[bigN]at this;omega);have t:=fun K=>Bj (K:=K) (m:=m) (c:=c) (x:=b.code[k]) hT (D.2 _ (zqg h))
 rw[G]at t;have hi:=A7 (F:=Ins.F) h;simp only[Ins.F,chkF,Blk.F]at t hi|-;simp only[B,hi,H,t,XP,seval]
theorem KP(hT:T 37=zs C5)(h:k<b.code.length)(D:b.sok)(G:¬L3 m c b.code[k]=0):
 evP ⟨env,T,A1⟩ (.code Ii [(1,.ptr 0 0 0),(5,.ptr 1 0 0),(56,fslN (c.blocks.map Blk.F)),(57,.int .i64 (c.blocks.length:Int)),(58,.int .i64 (i:Int)),(63,fslN (b.code.map Ins.F)),(64,.int .i64 (b.code.length:Int)),(65,.int .i64 (k:Int))] ⟨[.row 1 [chkF m c] 7,.row 1 [b.F] 5],0,[]⟩)=zs (.ok .ret [(2,.int .i64 (L3 m c b.code[k]))] ⟨[],0,[]⟩):=by
 unfold Ii;have B:decide ((k:Int)<(b.code.length:Int))=zt:=by simp[h]
 have t:=fun K=>Bj (K:=K) (m:=m) (c:=c) (x:=b.code[k]) hT (D.2 _ (zqg h))
 have hi:=A7 (F:=Ins.F) h;simp only[Ins.F,chkF,Blk.F]at t hi|-;simp only[B,hi,t,G,XP,seval]
theorem KQ:∃fr',evP ⟨env,T,A1⟩ (.code Ii [(1,.ptr 0 0 0),(5,.ptr 1 0 0),(56,fslN (c.blocks.map Blk.F)),(57,.int .i64 (c.blocks.length:Int)),(58,.int .i64 (i:Int)),(63,fslN (b.code.map Ins.F)),(64,.int .i64 (b.code.length:Int)),(65,.int .i64 (b.code.length:Int))] ⟨[.row 1 [chkF m c] 7,.row 1 [b.F] 5],0,[]⟩)=zs (.ok (.exit 3) fr' ⟨[.row 1 [chkF m c] 7,.row 1 [b.F] 5],0,[]⟩)/\(lookP fr' 1=.ptr 0 0 0/\lookP fr' 5=.ptr 1 0 0/\lookP fr' 56=fslN (c.blocks.map Blk.F)/\lookP fr' 57=.int .i64 (c.blocks.length:Int)/\lookP fr' 58=.int .i64 (i:Int)):=by
 unfold Ii;have B:decide ((b.code.length:Int)<(b.code.length:Int))=zf:=by simp
 simp only[B,XP,seval];exact⟨_,rfl,rfl,rfl,rfl,rfl,rfl⟩
theorem cdi_l(hT:T 37=zs C5)(D:b.sok):
 (G1 (b.code.map (L3 m c))=0/\∃fr',evP ⟨env,T,A1⟩ (.code (.loop Ii) [(1,.ptr 0 0 0),(5,.ptr 1 0 0),(56,fslN (c.blocks.map Blk.F)),(57,.int .i64 (c.blocks.length:Int)),(58,.int .i64 (i:Int)),(63,fslN (b.code.map Ins.F)),(64,.int .i64 (b.code.length:Int)),(65,.int .i64 0)] ⟨[.row 1 [chkF m c] 7,.row 1 [b.F] 5],0,[]⟩)=zs (.ok (.exit 3) fr' ⟨[.row 1 [chkF m c] 7,.row 1 [b.F] 5],0,[]⟩)/\(lookP fr' 1=.ptr 0 0 0/\lookP fr' 5=.ptr 1 0 0/\lookP fr' 56=fslN (c.blocks.map Blk.F)/\lookP fr' 57=.int .i64 (c.blocks.length:Int)/\lookP fr' 58=.int .i64 (i:Int)))\/
 (¬G1 (b.code.map (L3 m c))=0/\evP ⟨env,T,A1⟩ (.code (.loop Ii) [(1,.ptr 0 0 0),(5,.ptr 1 0 0),(56,fslN (c.blocks.map Blk.F)),(57,.int .i64 (c.blocks.length:Int)),(58,.int .i64 (i:Int)),(63,fslN (b.code.map Ins.F)),(64,.int .i64 (b.code.length:Int)),(65,.int .i64 0)] ⟨[.row 1 [chkF m c] 7,.row 1 [b.F] 5],0,[]⟩)=zs (.ok .ret [(2,.int .i64 (G1 (b.code.map (L3 m c))))] ⟨[],0,[]⟩)):=by
 rcases err_loop (P:=⟨env,T,A1⟩) (c:=Ii) (f:=L3 m c) (l:=b.code) (S:=fun k=>[(1,.ptr 0 0 0),(5,.ptr 1 0 0),(56,fslN (c.blocks.map Blk.F)),(57,.int .i64 (c.blocks.length:Int)),(58,.int .i64 (i:Int)),(63,fslN (b.code.map Ins.F)),(64,.int .i64 (b.code.length:Int)),(65,.int .i64 (k:Int))]) (K:=⟨[.row 1 [chkF m c] 7,.row 1 [b.F] 5],0,[]⟩) (Q:=fun fr'=>lookP fr' 1=.ptr 0 0 0/\lookP fr' 5=.ptr 1 0 0/\lookP fr' 56=fslN (c.blocks.map Blk.F)/\lookP fr' 57=.int .i64 (c.blocks.length:Int)/\lookP fr' 58=.int .i64 (i:Int)) (R:=fun e fr' K'=>fr'=[(2,.int .i64 e)]/\K'=⟨[],0,[]⟩)
  (fun k h B=>KO hT h D B) (fun k h B=>⟨_,_,KP hT h D B,rfl,rfl⟩) KQ with h|⟨h,fr',K',q,rfl,rfl⟩
 . exact .inl h
 . exact .inr ⟨h,q⟩
theorem KR(hT:T 37=zs C5)(hE:T 38=zs I1)(h:i<c.blocks.length)(G:c.sok)(B:Nm m c c.blocks[i]=0):
 evP ⟨env,T,A1⟩ (.code Ga [(1,.ptr 0 0 0),(56,fslN (c.blocks.map Blk.F)),(57,.int .i64 (c.blocks.length:Int)),(58,.int .i64 (i:Int))] ⟨[.row 1 [chkF m c] 7],0,[]⟩)=zs (.ok .normal [(1,.ptr 0 0 0),(56,fslN (c.blocks.map Blk.F)),(57,.int .i64 (c.blocks.length:Int)),(58,.int .i64 ((i+1:Nat):Int))] ⟨[.row 1 [chkF m c] 7],0,[]⟩):=by
 have hb:=G.2 _ (zqg h);have D:decide ((i:Int)<(c.blocks.length:Int))=zt:=by simp[h]
 have H:=B5 (i:=i) (by have:=G.1.2.2;simp only[bigN]at this;omega);have hi:=A7 (F:=Blk.F) h;have t:=fun K=>El (K:=K) (m:=m) (c:=c) (e:=c.blocks[i].e) hE
 unfold Nm at B;rcases cdi_l (m:=m) (c:=c) (i:=i) hT hb with⟨q,fr',h1,h2,I,J,N,O⟩|⟨q,h1⟩
 . rw[if_pos q]at B
   rw[B]at t;unfold Ga;simp only[chkF,Blk.F,Endd.F]at h1 hi t|-;simp only[D,hi,H,h1,h2,I,J,N,O,t,zqa,XP,seval]
 . rw[if_neg q]at B;exact absurd B q
theorem KS(hT:T 37=zs C5)(hE:T 38=zs I1)(h:i<c.blocks.length)(G:c.sok)(D:¬Nm m c c.blocks[i]=0):
 evP ⟨env,T,A1⟩ (.code Ga [(1,.ptr 0 0 0),(56,fslN (c.blocks.map Blk.F)),(57,.int .i64 (c.blocks.length:Int)),(58,.int .i64 (i:Int))] ⟨[.row 1 [chkF m c] 7],0,[]⟩)=zs (.ok .ret [(2,.int .i64 (Nm m c c.blocks[i]))] ⟨[],0,[]⟩):=by
 have hb:=G.2 _ (zqg h);have B:decide ((i:Int)<(c.blocks.length:Int))=zt:=by simp[h]
 have hi:=A7 (F:=Blk.F) h;have t:=fun K=>El (K:=K) (m:=m) (c:=c) (e:=c.blocks[i].e) hE
 unfold Nm at D|-;rcases cdi_l (m:=m) (c:=c) (i:=i) hT hb with⟨q,fr',h1,h2,H,I,J,N⟩|⟨q,h1⟩
 . rw[if_pos q]at D|-
   unfold Ga;simp only[chkF,Blk.F,Endd.F]at h1 hi t|-;simp only[B,hi,h1,h2,H,I,J,N,t,D,zqa,XP,seval]
 . rw[if_neg q]
   unfold Ga;simp only[chkF,Blk.F]at h1 hi|-;simp only[B,hi,h1,zqa,XP,seval]
theorem KT:∃fr',evP ⟨env,T,A1⟩ (.code Ga [(1,.ptr 0 0 0),(56,fslN (c.blocks.map Blk.F)),(57,.int .i64 (c.blocks.length:Int)),(58,.int .i64 (c.blocks.length:Int))] ⟨[.row 1 [chkF m c] 7],0,[]⟩)=zs (.ok (.exit 1) fr' ⟨[.row 1 [chkF m c] 7],0,[]⟩)/\True:=by
 unfold Ga;have B:decide ((c.blocks.length:Int)<(c.blocks.length:Int))=zf:=by simp
 simp only[B,XP,seval];exact⟨_,rfl⟩
theorem Es(B:T 37=zs C5)(G:T 38=zs I1)(H:T 36=zs C6)(O:T 48=zn)(N:T 35=zn){m:Modl}{c:Cod}(hk:c.sok):AM.Comes ⟨env,T,A1⟩ 21 [chkF m c] [.int .i64 (V0 m c)]:=by
 refine⟨[.int .i64 (V0 m c)],⟨[],0,[]⟩,?_,back_of rfl zqb rfl rfl rfl⟩;rw[A5 (c:=QA) (nt:=84) (rs:=[.tmp 2]) rfl (by simp)];unfold QA;unfold K0;have hl:c.regs.length<=bigN:=by have:=hk.1.1;simp only[bigN]at this|-;omega
 have tc:=fun K=>Sy (l:=c.regs) H O N hl K
 have lp:=err_loop (P:=⟨env,T,A1⟩) (c:=Ga) (f:=Nm m c) (l:=c.blocks) (S:=fun i=>[(1,.ptr 0 0 0),(56,fslN (c.blocks.map Blk.F)),(57,.int .i64 (c.blocks.length:Int)),(58,.int .i64 (i:Int))]) (K:=⟨[.row 1 [chkF m c] 7],0,[]⟩) (Q:=fun fr'=>True) (R:=fun e fr' K'=>fr'=[(2,.int .i64 e)]/\K'=⟨[],0,[]⟩)
  (fun k h hp=>KR B G h hk hp) (fun k h hp=>⟨_,_,KS B G h hk hp,rfl,rfl⟩) KT
 unfold V0;simp only[chkF]at tc lp|-;have I:decide ((400:Int)<(c.blocks.length:Int))=decide (400<c.blocks.length):=decide_eq_decide.2 (by omega);have D:decide ((4096:Int)<(c.regs.length:Int))=decide (4096<c.regs.length):=decide_eq_decide.2 (by omega);have J:decide ((c.blocks.length:Int)<1)=decide (c.blocks.length<1):=decide_eq_decide.2 (by omega);by_cases U:c.blocks.length<1
 . simp only[eq_true U,J,I,D,zqa,XP,seval]
 by_cases V:400<c.blocks.length
 . simp only[eq_false U,eq_true V,J,I,D,zqa,XP,seval]
 by_cases X:4096<c.regs.length
 . simp only[eq_false U,eq_false V,eq_true X,J,I,D,zqa,XP,seval]
 by_cases Y:c.ps<0
 . simp only[eq_false U,eq_false V,eq_false X,eq_true Y,J,I,D,zqa,XP,seval]
 by_cases q5:(c.regs.length:Int)<c.ps
 . simp only[eq_false U,eq_false V,eq_false X,eq_false Y,eq_true q5,J,I,D,zqa,XP,seval]
 by_cases q6:c.ty<0
 . simp only[eq_false U,eq_false V,eq_false X,eq_false Y,eq_false q5,eq_true q6,J,I,D,zqa,XP,seval]
 by_cases q7:2<c.ty
 . simp only[eq_false U,eq_false V,eq_false X,eq_false Y,eq_false q5,eq_false q6,eq_true q7,J,I,D,zqa,XP,seval]
 cases q8:(c.regs.any fun n=>!F4 n)with
 |true=>simp only[eq_false U,eq_false V,eq_false X,eq_false Y,eq_false q5,eq_false q6,eq_false q7,tc,q8,J,I,D,zqa,XP,seval]
 |false=>
  rcases lp with⟨q,fr',h1,_⟩|⟨q,fr',K',h1,rfl,rfl⟩
  . have h1:evP ⟨env,T,A1⟩ (.code (.loop Ga) [(1,.ptr 0 0 0),(56,fslN (c.blocks.map Blk.F)),(57,.int .i64 (c.blocks.length:Int)),(58,.int .i64 0)] _)=_:=h1
    simp only[eq_false U,eq_false V,eq_false X,eq_false Y,eq_false q5,eq_false q6,eq_false q7,tc,q8,q,h1,J,I,D,zqa,XP,seval]
  . have h1:evP ⟨env,T,A1⟩ (.code (.loop Ga) [(1,.ptr 0 0 0),(56,fslN (c.blocks.map Blk.F)),(57,.int .i64 (c.blocks.length:Int)),(58,.int .i64 0)] _)=_:=h1
    simp only[eq_false U,eq_false V,eq_false X,eq_false Y,eq_false q5,eq_false q6,eq_false q7,tc,q8,h1,J,I,D,zqa,XP,seval]
def G8:=Bs (fun p:(Modl)×(Cod)=>[chkF p.1 p.2]) (fun p=>[.int .i64 (V0 p.1 p.2)]) (fun p=>p.2.sok)
theorem Cg(B:T 21=zs G8){m:Modl}{c:Cod}{K:PK}(D:c.sok):evP ⟨env,T,A1⟩ (.call 21 [chkF m c] K)=zs (.val (openTs K.os.length [.int .i64 (V0 m c)]).1 ⟨K.os++(openTs K.os.length [.int .i64 (V0 m c)]).2,K.ext,K.tch⟩):=C9 B (by simp only[VV,XP,seval]) (D4 (a:=fun p:(Modl)×(Cod)=>[chkF p.1 p.2]) (r:=fun p=>[.int .i64 (V0 p.1 p.2)]) (fun x y e=>by simp only[VJ]at e;simp only[e]) (m,c) D) (by simp only[VN,XP,seval])
theorem Jn(D:T 37=zs C5)(G:T 38=zs I1)(B:T 36=zs C6)(I:T 48=zn)(H:T 35=zn)(J:PEok ⟨env,T,A1⟩):TC env 21 G8:=D6 J fun p h=>Es D G B I H h
end
section
variable {m:Modl}{c:Cod}{g:Glo}{i k:Nat}
def Td(g:Glo):Int:=if F4 g.ty=zt then 0 else if g.ty=3 then(if g.size<1 then 6 else 0)else 6
def R4(m:Modl):Int:=idxOf (fun c:Cod=>decide (c.name=B6)) m.fs
def Xi(m:Modl):Int:=if R4 m<0 then 12 else if(codI m.fs (R4 m)).ty=1 then(if(codI m.fs (R4 m)).ps=0 then 0 else 12)else 12
def R0(m:Modl):Int:=if G1 (m.gs.map Td)=0 then(if G1 (m.fs.map (V0 m))=0 then Xi m else G1 (m.fs.map (V0 m)))else G1 (m.gs.map Td)
theorem KU(hT:T 20=zs Q1)(h:i<m.gs.length)(J:m.gs.length<=bigN)(B:Td m.gs[i]=0):
 evP ⟨env,T,A1⟩ (.code Ig [(1,.ptr 0 0 0),(10,fslN (m.gs.map Glo.F)),(11,.int .i64 (m.gs.length:Int)),(12,.int .i64 (i:Int))] ⟨[.row 1 [m.F] 2],0,[]⟩)=zs (.ok .normal [(1,.ptr 0 0 0),(10,fslN (m.gs.map Glo.F)),(11,.int .i64 (m.gs.length:Int)),(12,.int .i64 ((i+1:Nat):Int))] ⟨[.row 1 [m.F] 2],0,[]⟩):=by
 unfold Ig;have D:decide ((i:Int)<(m.gs.length:Int))=zt:=by simp[h]
 have H:=B5 (i:=i) (by simp only[bigN]at J;omega);have t:=fun K=>Jj (K:=K) (n:=m.gs[i].ty) hT
 have hi:=A7 (F:=Glo.F) h;unfold Td at B;simp only[Glo.F,Modl.F]at t hi|-;cases q:F4 m.gs[i].ty with
 |true=>rw[q]at t;simp only[D,hi,H,t,XP,seval]
 |false=>
  rw[q]at t B;by_cases G:m.gs[i].ty=3
  . by_cases I:m.gs[i].size<1
    . rw[if_neg (by decide),if_pos G,if_pos I]at B;cases B
    . simp only[D,hi,H,t,eq_true G,eq_false I,XP,seval]
  . rw[if_neg (by decide),if_neg G]at B;cases B
theorem KV(hT:T 20=zs Q1)(h:i<m.gs.length)(B:¬Td m.gs[i]=0):
 evP ⟨env,T,A1⟩ (.code Ig [(1,.ptr 0 0 0),(10,fslN (m.gs.map Glo.F)),(11,.int .i64 (m.gs.length:Int)),(12,.int .i64 (i:Int))] ⟨[.row 1 [m.F] 2],0,[]⟩)=zs (.ok .ret [(2,.int .i64 (Td m.gs[i]))] ⟨[],0,[]⟩):=by
 unfold Ig;have D:decide ((i:Int)<(m.gs.length:Int))=zt:=by simp[h]
 have t:=fun K=>Jj (K:=K) (n:=m.gs[i].ty) hT
 have hi:=A7 (F:=Glo.F) h;unfold Td at B|-;simp only[Glo.F,Modl.F]at t hi|-;cases q:F4 m.gs[i].ty with
 |true=>rw[q]at B;exact absurd rfl B
 |false=>
  rw[q]at t B;by_cases G:m.gs[i].ty=3
  . by_cases H:m.gs[i].size<1
    . simp only[D,hi,t,eq_true G,eq_true H,XP,seval]
    . rw[if_neg (by decide),if_pos G,if_neg H]at B;exact absurd rfl B
  . simp only[D,hi,t,eq_false G,XP,seval]
theorem KW:∃fr',evP ⟨env,T,A1⟩ (.code Ig [(1,.ptr 0 0 0),(10,fslN (m.gs.map Glo.F)),(11,.int .i64 (m.gs.length:Int)),(12,.int .i64 (m.gs.length:Int))] ⟨[.row 1 [m.F] 2],0,[]⟩)=zs (.ok (.exit 0) fr' ⟨[.row 1 [m.F] 2],0,[]⟩)/\lookP fr' 1=.ptr 0 0 0:=by
 unfold Ig;have B:decide ((m.gs.length:Int)<(m.gs.length:Int))=zf:=by simp
 simp only[B,XP,seval];exact⟨_,rfl,rfl⟩
theorem KX(hT:T 21=zs G8)(h:i<m.fs.length)(D:m.ok)(G:V0 m m.fs[i]=0):
 evP ⟨env,T,A1⟩ (.code Ih [(1,.ptr 0 0 0),(32,fslN (m.fs.map Cod.F)),(33,.int .i64 (m.fs.length:Int)),(34,.int .i64 (i:Int))] ⟨[.row 1 [m.F] 2],0,[]⟩)=zs (.ok .normal [(1,.ptr 0 0 0),(32,fslN (m.fs.map Cod.F)),(33,.int .i64 (m.fs.length:Int)),(34,.int .i64 ((i+1:Nat):Int))] ⟨[.row 1 [m.F] 2],0,[]⟩):=by
 unfold Ih;have B:decide ((i:Int)<(m.fs.length:Int))=zt:=by simp[h]
 have H:=B5 (i:=i) (by have:=D.2.1;simp only[bigN]at this;omega);have t:=fun K=>Cg (K:=K) (m:=m) (c:=m.fs[i]) hT (D.1 _ (zqg h))
 rw[G]at t;have hi:=A7 (F:=Cod.F) h;simp only[Cod.F,Modl.F,chkF]at t hi|-;simp only[B,hi,H,t,XP,seval]
theorem KY(hT:T 21=zs G8)(h:i<m.fs.length)(D:m.ok)(G:¬V0 m m.fs[i]=0):
 evP ⟨env,T,A1⟩ (.code Ih [(1,.ptr 0 0 0),(32,fslN (m.fs.map Cod.F)),(33,.int .i64 (m.fs.length:Int)),(34,.int .i64 (i:Int))] ⟨[.row 1 [m.F] 2],0,[]⟩)=zs (.ok .ret [(2,.int .i64 (V0 m m.fs[i]))] ⟨[],0,[]⟩):=by
 unfold Ih;have B:decide ((i:Int)<(m.fs.length:Int))=zt:=by simp[h]
 have t:=fun K=>Cg (K:=K) (m:=m) (c:=m.fs[i]) hT (D.1 _ (zqg h))
 have hi:=A7 (F:=Cod.F) h;simp only[Cod.F,Modl.F,chkF]at t hi|-;simp only[B,hi,t,G,XP,seval]
theorem KZ:∃fr',evP ⟨env,T,A1⟩ (.code Ih [(1,.ptr 0 0 0),(32,fslN (m.fs.map Cod.F)),(33,.int .i64 (m.fs.length:Int)),(34,.int .i64 (m.fs.length:Int))] ⟨[.row 1 [m.F] 2],0,[]⟩)=zs (.ok (.exit 2) fr' ⟨[.row 1 [m.F] 2],0,[]⟩)/\lookP fr' 1=.ptr 0 0 0:=by
 unfold Ih;have B:decide ((m.fs.length:Int)<(m.fs.length:Int))=zf:=by simp
 simp only[B,XP,seval];exact⟨_,rfl,rfl⟩
theorem eI{X:Type}{p:X->Bool}{l:List X}(h:¬idxOf p l<0):∃k:Nat,idxOf p l=k/\∃hk:k<l.length,p l[k]=zt:=by
 unfold idxOf at h|-;cases q:l.findIdx? p with
 |none=>rw[q]at h;exact absurd (by decide) h
 |some i=>
  rw[zqn]at q;exact⟨i,rfl,q.1,q.2.1⟩
theorem Te(D:T 20=zs Q1)(B:T 21=zs G8)(G:T 19=zs M3){m:Modl}(U:m.ok):AM.Comes ⟨env,T,A1⟩ 10 [m.F] [.int .i64 (R0 m)]:=by
 refine⟨[.int .i64 (R0 m)],⟨[],0,[]⟩,?_,back_of rfl zqb rfl rfl rfl⟩;rw[A5 (c:=HE) (nt:=68) (rs:=[.tmp 2]) rfl (by simp)];unfold HE;unfold K0;have X:m.gs.length<=bigN:=by have:=U.2.2;simp only[bigN]at this|-;omega
 have Y:m.fs.length<=bigN:=by have:=U.2.1;simp only[bigN]at this|-;omega
 have tm:=fun K=>Jk (K:=K) (m:=m) G Y
 have tm:∀K:PK,evP ⟨env,T,A1⟩ (.call 19 [m.F] K)=zs (.val (openTs K.os.length [.int .i64 (R4 m)]).1 ⟨K.os++(openTs K.os.length [.int .i64 (R4 m)]).2,K.ext,K.tch⟩):=tm;have l1:=err_loop (P:=⟨env,T,A1⟩) (c:=Ig) (f:=Td) (l:=m.gs) (S:=fun i=>[(1,.ptr 0 0 0),(10,fslN (m.gs.map Glo.F)),(11,.int .i64 (m.gs.length:Int)),(12,.int .i64 (i:Int))]) (K:=⟨[.row 1 [m.F] 2],0,[]⟩) (Q:=fun fr'=>lookP fr' 1=.ptr 0 0 0) (R:=fun e fr' K'=>fr'=[(2,.int .i64 e)]/\K'=⟨[],0,[]⟩)
  (fun k h J=>KU D h X J) (fun k h J=>⟨_,_,KV D h J,rfl,rfl⟩) KW
 have l2:=err_loop (P:=⟨env,T,A1⟩) (c:=Ih) (f:=V0 m) (l:=m.fs) (S:=fun i=>[(1,.ptr 0 0 0),(32,fslN (m.fs.map Cod.F)),(33,.int .i64 (m.fs.length:Int)),(34,.int .i64 (i:Int))]) (K:=⟨[.row 1 [m.F] 2],0,[]⟩) (Q:=fun fr'=>lookP fr' 1=.ptr 0 0 0) (R:=fun e fr' K'=>fr'=[(2,.int .i64 e)]/\K'=⟨[],0,[]⟩)
  (fun k h J=>KX B h U J) (fun k h J=>⟨_,_,KY B h U J,rfl,rfl⟩) KZ
 unfold R0;simp only[Modl.F]at tm l1 l2|-;rcases l1 with⟨q,fr',h1,h2⟩|⟨q,fr',K',h1,rfl,rfl⟩
 . have h1:evP ⟨env,T,A1⟩ (.code (.loop Ig) [(1,.ptr 0 0 0),(10,fslN (m.gs.map Glo.F)),(11,.int .i64 (m.gs.length:Int)),(12,.int .i64 0)] _)=_:=h1
   rw[if_pos q];rcases l2 with⟨q2,ab,H,V⟩|⟨q2,ab,K2,H,rfl,rfl⟩
   . have H:evP ⟨env,T,A1⟩ (.code (.loop Ih) [(1,.ptr 0 0 0),(32,fslN (m.fs.map Cod.F)),(33,.int .i64 (m.fs.length:Int)),(34,.int .i64 0)] _)=_:=H
     rw[if_pos q2];unfold Xi;by_cases O:R4 m<0
     . simp only[h1,h2,H,V,tm,eq_true O,zqa,XP,seval]
     . obtain ⟨k,N,aa,_⟩:=eI O
       have hi:=Ln aa;have N:R4 m=k:=N;have I:Vd Dw (fslN (m.fs.map Cod.F)) (.int .i64 (R4 m))=zs (.fptr (codI m.fs (R4 m)).F 0):=by
        rw[N];exact ix_fslN hi rfl
       simp only[Cod.F]at I;by_cases h5:(codI m.fs (R4 m)).ty=1
       . by_cases h6:(codI m.fs (R4 m)).ps=0
         . simp only[h1,h2,H,V,tm,O,I,eq_true h5,eq_true h6,zqa,XP,seval]
         . simp only[h1,h2,H,V,tm,O,I,eq_true h5,h6,zqa,XP,seval]
       . simp only[h1,h2,H,V,tm,O,I,h5,zqa,XP,seval]
   . have H:evP ⟨env,T,A1⟩ (.code (.loop Ih) [(1,.ptr 0 0 0),(32,fslN (m.fs.map Cod.F)),(33,.int .i64 (m.fs.length:Int)),(34,.int .i64 0)] _)=_:=H
     rw[if_neg q2];simp only[h1,h2,H,zqa,XP,seval]
 . have h1:evP ⟨env,T,A1⟩ (.code (.loop Ig) [(1,.ptr 0 0 0),(10,fslN (m.gs.map Glo.F)),(11,.int .i64 (m.gs.length:Int)),(12,.int .i64 0)] _)=_:=h1
   rw[if_neg q];simp only[h1,zqa,XP,seval]
def Ch:=Bs (fun p:(Modl)=>[p.F]) (fun p=>[.int .i64 (R0 p)]) (fun p=>p.ok)
theorem pP(B:T 10=zs Ch){m:Modl}{K:PK}(D:m.ok):evP ⟨env,T,A1⟩ (.call 10 [m.F] K)=zs (.val (openTs K.os.length [.int .i64 (R0 m)]).1 ⟨K.os++(openTs K.os.length [.int .i64 (R0 m)]).2,K.ext,K.tch⟩):=C9 B (by simp only[VV,XP,seval]) (D4 (a:=fun p:(Modl)=>[p.F]) (r:=fun p=>[.int .i64 (R0 p)]) (fun x y e=>by simp only[VJ]at e;simp only[e]) (m) D) (by simp only[VN,XP,seval])
theorem eJ(D:T 20=zs Q1)(B:T 21=zs G8)(G:T 19=zs M3)(H:PEok ⟨env,T,A1⟩):TC env 10 Ch:=D6 H fun p h=>Te D B G h
end
def Tf{A X ρ:Type}(f:A->X->A⊕ρ):A->List X->A⊕ρ
 |a,[]=>.inl a
 |a,x::l=>match f a x with | .inl a=>Tf f a l | .inr r=>.inr r
theorem jN{P:PE}{c:PC}{A X ρ:Type}{f:A->X->A⊕ρ}{l:List X}{S:Nat->A->PF}{K:A->PK}{x:Nat}{Q:A->PF->Prop}{R:ρ->PF->PK->Prop}
 (h1:∀i a B (h:i<l.length),f a l[i]=.inl B->evP P (.code c (S i a) (K a))=zs (.ok .normal (S (i+1) B) (K B)))
 (h2:∀i a r (h:i<l.length),f a l[i]=.inr r->∃fr' K',evP P (.code c (S i a) (K a))=zs (.ok .ret fr' K')/\R r fr' K')
 (hx:∀a,∃fr',evP P (.code c (S l.length a) (K a))=zs (.ok (.exit x) fr' (K a))/\Q a fr')(a:A):
 (∃B,Tf f a l=.inl B/\∃fr',evP P (.code (.loop c) (S 0 a) (K a))=zs (.ok (.exit x) fr' (K B))/\Q B fr')\/(∃r,Tf f a l=.inr r/\∃fr' K',evP P (.code (.loop c) (S 0 a) (K a))=zs (.ok .ret fr' K')/\R r fr' K'):=by
 have D:∀(n i:Nat)(a:A),l.length=i+n->(∃B,Tf f a (l.drop i)=.inl B/\∃fr',evP P (.code (.loop c) (S i a) (K a))=zs (.ok (.exit x) fr' (K B))/\Q B fr')\/(∃r,Tf f a (l.drop i)=.inr r/\∃fr' K',evP P (.code (.loop c) (S i a) (K a))=zs (.ok .ret fr' K')/\R r fr' K'):=fun n=>by
  induction n with
  |zero=>
   intro i a e;obtain rfl:i=l.length:=by omega
   obtain⟨fr',h,q⟩:=hx a;exact .inl ⟨a,by rw[zqi];rfl,fr',J5 h,q⟩
  |succ n J=>
   intro i a e;have hl:i<l.length:=by omega
   rw[zqj hl];unfold Tf;cases G:f a l[i]with
   |inl B=>rw[H9 (h1 i a B hl G)];exact J (i+1) B (by omega)
   |inr r=>
    obtain⟨fr',K',H,I⟩:=h2 i a r hl G;exact .inr ⟨r,rfl,fr',K',Dh H,I⟩
 exact D l.length 0 a (by omega)
theorem Hh{P:PE}{c:PC}{A X:Type}{f:A->X->A}{l:List X}{S:Nat->A->PF}{K:A->PK}{x:Nat}{Q:A->PF->Prop}
 (h1:∀i a (h:i<l.length),evP P (.code c (S i a) (K a))=zs (.ok .normal (S (i+1) (f a l[i])) (K (f a l[i]))))
 (hx:∀a,∃fr',evP P (.code c (S l.length a) (K a))=zs (.ok (.exit x) fr' (K a))/\Q a fr')(a:A):
 ∃fr',evP P (.code (.loop c) (S 0 a) (K a))=zs (.ok (.exit x) fr' (K (l.foldl f a)))/\Q (l.foldl f a) fr':=by
 have B:∀(n i:Nat)(a:A),l.length=i+n->∃fr',evP P (.code (.loop c) (S i a) (K a))=zs (.ok (.exit x) fr' (K ((l.drop i).foldl f a)))/\Q ((l.drop i).foldl f a) fr':=fun n=>by
  induction n with
  |zero=>
   intro i a e;obtain rfl:i=l.length:=by omega
   obtain⟨fr',h,q⟩:=hx a;exact⟨fr',by rw[zqi];exact J5 h,by rw[zqi];exact q⟩
  |succ n D=>
   intro i a e;have hl:i<l.length:=by omega
   rw[zqj hl,List.foldl_cons,H9 (h1 i a hl)];exact D (i+1) _ (by omega)
 exact B l.length 0 a (by omega)
section
variable {m:Modl}{c:Cod}{i j k:Nat}{n:Int}
def Q4(a:Int)(n:Nat):Int:=IntKind.i64.wrap (a+(n:Int))
def LB(a:Int)(b:Blk):Int:=b.code.foldl (fun a x=>Q4 a x.args.length) (Q4 a b.code.length)
def HJ(a:Int)(c:Cod):Int:=c.blocks.foldl LB (Q4 (Q4 a c.regs.length) c.blocks.length)
def RF(a:Int)(c:Cod):Int⊕Unit:=if 3000<HJ a c then .inr ()else .inl (HJ a c)
def s4(m:Modl):Bool:=if 20<m.gs.length then zt else if 12<m.fs.length then zt else if(m.gs.all fun g=>!decide (1024<g.size))=zt then(Tf RF 0 m.fs).isRight else zt
def tS(a:Int)(c:Cod):Int:=c.blocks.foldl (fun a b=>Q4 a b.code.length) (Q4 (Q4 a c.regs.length) c.blocks.length)
def l9(m:Modl):Bool:=if 1000<m.fs.foldl tS 0 then zt else if 12<m.fs.length then zt else if s4 m=zt then zt else !decide (R0 m=0)
theorem LC(h:i<m.gs.length)(G:m.gs.length<=bigN)(B:(!decide (1024<m.gs[i].size))=zt):evP ⟨env,T,A1⟩ (.code Vs [(1,.ptr 0 0 0),(3,.int .i64 n),(4,.int .i64 (i:Int))] ⟨[.row 1 [m.F] 2],0,[]⟩)=zs (.ok .normal [(1,.ptr 0 0 0),(3,.int .i64 n),(4,.int .i64 ((i+1:Nat):Int))] ⟨[.row 1 [m.F] 2],0,[]⟩):=by
 unfold Vs;have D:decide ((i:Int)<(m.gs.length:Int))=zt:=by simp[h]
 have H:=B5 (i:=i) (by simp only[bigN]at G;omega);have hi:=A7 (F:=Glo.F) h;have B:decide (1024<m.gs[i].size)=zf:=by simpa using B
 simp only[Glo.F,Modl.F]at hi|-;simp only[D,hi,H,B,zqa,XP,seval]
theorem LD(h:i<m.gs.length)(B:(!decide (1024<m.gs[i].size))=zf):evP ⟨env,T,A1⟩ (.code Vs [(1,.ptr 0 0 0),(3,.int .i64 n),(4,.int .i64 (i:Int))] ⟨[.row 1 [m.F] 2],0,[]⟩)=zs (.ok .ret [(2,.bool zt)] ⟨[],0,[]⟩):=by
 unfold Vs;have D:decide ((i:Int)<(m.gs.length:Int))=zt:=by simp[h]
 have hi:=A7 (F:=Glo.F) h;have B:decide (1024<m.gs[i].size)=zt:=by simpa using B
 simp only[Glo.F,Modl.F]at hi|-;simp only[D,hi,B,zqa,XP,seval]
theorem LF:∃fr',evP ⟨env,T,A1⟩ (.code Vs [(1,.ptr 0 0 0),(3,.int .i64 n),(4,.int .i64 (m.gs.length:Int))] ⟨[.row 1 [m.F] 2],0,[]⟩)=zs (.ok (.exit 0) fr' ⟨[.row 1 [m.F] 2],0,[]⟩)/\(lookP fr' 1=.ptr 0 0 0/\lookP fr' 3=.int .i64 n):=by
 unfold Vs;have B:decide ((m.gs.length:Int)<(m.gs.length:Int))=zf:=by simp
 simp only[Modl.F];simp only[B,zqa,XP,seval];exact⟨_,rfl,rfl,rfl⟩
theorem LG(G:j<c.blocks.length)(H:k<c.blocks[j].code.length)(I:c.ok):evP ⟨env,T,A1⟩ (.code jD [(1,.ptr 0 0 0),(3,.int .i64 n),(5,.int .i64 (i:Int)),(6,.ptr 1 0 0),(7,.int .i64 (j:Int)),(8,.int .i64 (k:Int))] ⟨[.row 1 [m.F] 2,.row 1 [c.F] 5],0,[]⟩)=zs (.ok .normal [(1,.ptr 0 0 0),(3,.int .i64 (Q4 n c.blocks[j].code[k].args.length)),(5,.int .i64 (i:Int)),(6,.ptr 1 0 0),(7,.int .i64 (j:Int)),(8,.int .i64 ((k+1:Nat):Int))] ⟨[.row 1 [m.F] 2,.row 1 [c.F] 5],0,[]⟩):=by
 unfold jD Q4;have hb:=I.2.1 _ (zqg G);have D:decide ((k:Int)<(c.blocks[j].code.length:Int))=zt:=by simp[H]
 have J:=B5 (i:=k) (by have:=hb.2;simp only[bigN]at this;omega);have hi:=A7 (F:=Blk.F) G;have B:=A7 (F:=Ins.F) H;simp only[Blk.F,Ins.F,Modl.F,Cod.F]at hi B|-;simp only[D,hi,B,J,zqa,XP,seval]
theorem LH(D:j<c.blocks.length):∃fr',evP ⟨env,T,A1⟩ (.code jD [(1,.ptr 0 0 0),(3,.int .i64 n),(5,.int .i64 (i:Int)),(6,.ptr 1 0 0),(7,.int .i64 (j:Int)),(8,.int .i64 (c.blocks[j].code.length:Int))] ⟨[.row 1 [m.F] 2,.row 1 [c.F] 5],0,[]⟩)=zs (.ok (.exit 6) fr' ⟨[.row 1 [m.F] 2,.row 1 [c.F] 5],0,[]⟩)/\(lookP fr' 1=.ptr 0 0 0/\lookP fr' 3=.int .i64 n/\lookP fr' 5=.int .i64 (i:Int)/\lookP fr' 6=.ptr 1 0 0/\lookP fr' 7=.int .i64 (j:Int)):=by
 unfold jD;have B:decide ((c.blocks[j].code.length:Int)<(c.blocks[j].code.length:Int))=zf:=by simp
 have hi:=A7 (F:=Blk.F) D;simp only[Blk.F,Modl.F,Cod.F]at hi|-;simp only[B,hi,zqa,XP,seval];exact⟨_,rfl,rfl,rfl,rfl,rfl,rfl⟩
theorem LI(B:j<c.blocks.length)(G:c.ok):evP ⟨env,T,A1⟩ (.code jE [(1,.ptr 0 0 0),(3,.int .i64 n),(5,.int .i64 (i:Int)),(6,.ptr 1 0 0),(7,.int .i64 (j:Int))] ⟨[.row 1 [m.F] 2,.row 1 [c.F] 5],0,[]⟩)=zs (.ok .normal [(1,.ptr 0 0 0),(3,.int .i64 (LB n c.blocks[j])),(5,.int .i64 (i:Int)),(6,.ptr 1 0 0),(7,.int .i64 ((j+1:Nat):Int))] ⟨[.row 1 [m.F] 2,.row 1 [c.F] 5],0,[]⟩):=by
 have D:decide ((j:Int)<(c.blocks.length:Int))=zt:=by simp[B]
 have I:=B5 (i:=j) (by have:=G.2.2;simp only[bigN]at this;omega);have hi:=A7 (F:=Blk.F) B;obtain⟨fr',h1,h2,H,J,N,O⟩:=Hh (P:=⟨env,T,A1⟩) (c:=jD) (f:=fun a (x:Ins)=>Q4 a x.args.length) (l:=c.blocks[j].code) (S:=fun k n=>[(1,.ptr 0 0 0),(3,.int .i64 n),(5,.int .i64 (i:Int)),(6,.ptr 1 0 0),(7,.int .i64 (j:Int)),(8,.int .i64 (k:Int))]) (K:=fun _=>⟨[.row 1 [m.F] 2,.row 1 [c.F] 5],0,[]⟩) (x:=6) (Q:=fun n fr'=>lookP fr' 1=.ptr 0 0 0/\lookP fr' 3=.int .i64 n/\lookP fr' 5=.int .i64 (i:Int)/\lookP fr' 6=.ptr 1 0 0/\lookP fr' 7=.int .i64 (j:Int)) (fun k a h=>LG B h G) (fun a=>LH B) (Q4 n c.blocks[j].code.length);have h1:evP ⟨env,T,A1⟩ (.code (.loop jD) [(1,.ptr 0 0 0),(3,.int .i64 (Q4 n c.blocks[j].code.length)),(5,.int .i64 (i:Int)),(6,.ptr 1 0 0),(7,.int .i64 (j:Int)),(8,.int .i64 0)] ⟨[.row 1 [m.F] 2,.row 1 [c.F] 5],0,[]⟩)=_:=h1;have hn:LB n c.blocks[j]=c.blocks[j].code.foldl (fun a x=>Q4 a x.args.length) (Q4 n c.blocks[j].code.length):=rfl;rw[<-hn]at H;unfold jE;unfold Q4 at h1;simp only[Blk.F,Modl.F,Cod.F]at hi h1|-;simp only[D,hi,h1,h2,H,J,N,O,I,zqa,XP,seval]
theorem LJ:∃fr',evP ⟨env,T,A1⟩ (.code jE [(1,.ptr 0 0 0),(3,.int .i64 n),(5,.int .i64 (i:Int)),(6,.ptr 1 0 0),(7,.int .i64 (c.blocks.length:Int))] ⟨[.row 1 [m.F] 2,.row 1 [c.F] 5],0,[]⟩)=zs (.ok (.exit 4) fr' ⟨[.row 1 [m.F] 2,.row 1 [c.F] 5],0,[]⟩)/\(lookP fr' 1=.ptr 0 0 0/\lookP fr' 3=.int .i64 n/\lookP fr' 5=.int .i64 (i:Int)):=by
 unfold jE;have B:decide ((c.blocks.length:Int)<(c.blocks.length:Int))=zf:=by simp
 simp only[Modl.F,Cod.F];simp only[B,zqa,XP,seval];exact⟨_,rfl,rfl,rfl,rfl⟩
theorem b6c(h:i<m.fs.length)(H:m.ok):(3000<HJ n m.fs[i]->evP ⟨env,T,A1⟩ (.code Zt [(1,.ptr 0 0 0),(3,.int .i64 n),(5,.int .i64 (i:Int))] ⟨[.row 1 [m.F] 2],0,[]⟩)=zs (.ok .ret [(2,.bool zt)] ⟨[],0,[]⟩))/\(¬3000<HJ n m.fs[i]->evP ⟨env,T,A1⟩ (.code Zt [(1,.ptr 0 0 0),(3,.int .i64 n),(5,.int .i64 (i:Int))] ⟨[.row 1 [m.F] 2],0,[]⟩)=zs (.ok .normal [(1,.ptr 0 0 0),(3,.int .i64 (HJ n m.fs[i])),(5,.int .i64 ((i+1:Nat):Int))] ⟨[.row 1 [m.F] 2],0,[]⟩)):=by
 have hc:=(H.1 _ (zqg h)).1;have B:decide ((i:Int)<(m.fs.length:Int))=zt:=by simp[h]
 have J:=B5 (i:=i) (by have:=H.2.1;simp only[bigN]at this;omega);have hi:=A7 (F:=Cod.F) h;generalize m.fs[i]=c at hc hi;obtain⟨fr',h1,h2,G,I⟩:=Hh (P:=⟨env,T,A1⟩) (c:=jE) (f:=LB) (l:=c.blocks) (S:=fun j n=>[(1,.ptr 0 0 0),(3,.int .i64 n),(5,.int .i64 (i:Int)),(6,.ptr 1 0 0),(7,.int .i64 (j:Int))]) (K:=fun _=>⟨[.row 1 [m.F] 2,.row 1 [c.F] 5],0,[]⟩) (x:=4) (Q:=fun n fr'=>lookP fr' 1=.ptr 0 0 0/\lookP fr' 3=.int .i64 n/\lookP fr' 5=.int .i64 (i:Int)) (fun k a h=>LI h hc) (fun a=>LJ) (Q4 (Q4 n c.regs.length) c.blocks.length);have h1:evP ⟨env,T,A1⟩ (.code (.loop jE) [(1,.ptr 0 0 0),(3,.int .i64 (Q4 (Q4 n c.regs.length) c.blocks.length)),(5,.int .i64 (i:Int)),(6,.ptr 1 0 0),(7,.int .i64 0)] ⟨[.row 1 [m.F] 2,.row 1 [c.F] 5],0,[]⟩)=_:=h1;have hn:HJ n c=c.blocks.foldl LB (Q4 (Q4 n c.regs.length) c.blocks.length):=rfl;rw[<-hn]at G;unfold Zt;unfold Q4 at h1;simp only[Modl.F,Cod.F]at hi h1|-
 constructor
 . intro D
   simp only[B,hi,h1,h2,G,I,eq_true D,zqa,XP,seval]
 . intro D
   simp only[B,hi,h1,h2,G,I,J,D,zqa,XP,seval]
theorem LK:∃fr',evP ⟨env,T,A1⟩ (.code Zt [(1,.ptr 0 0 0),(3,.int .i64 n),(5,.int .i64 (m.fs.length:Int))] ⟨[.row 1 [m.F] 2],0,[]⟩)=zs (.ok (.exit 2) fr' ⟨[.row 1 [m.F] 2],0,[]⟩)/\True:=by
 unfold Zt;have B:decide ((m.fs.length:Int)<(m.fs.length:Int))=zf:=by simp
 simp only[Modl.F];simp only[B,zqa,XP,seval];exact⟨_,rfl⟩
theorem Pr  {m:Modl} (N:m.ok):AM.Comes ⟨env,T,A1⟩ 9 [m.F] [.bool (s4 m)]:=by
 refine⟨[.bool (s4 m)],⟨[],0,[]⟩,?_,back_of rfl zqb rfl rfl rfl⟩;rw[A5 (c:=p9) (nt:=96) (rs:=[.tmp 2]) rfl (by simp)];unfold p9;unfold K0;have U:m.gs.length<=bigN:=by have:=N.2.2;simp only[bigN]at this|-;omega
 have Y:=Tb (P:=⟨env,T,A1⟩) (c:=Vs) (p:=fun g:Glo=>!decide (1024<g.size)) (l:=m.gs) (S:=fun i=>[(1,.ptr 0 0 0),(3,.int .i64 0),(4,.int .i64 (i:Int))]) (K:=⟨[.row 1 [m.F] 2],0,[]⟩) (x:=0) (Q:=fun fr'=>lookP fr' 1=.ptr 0 0 0/\lookP fr' 3=.int .i64 0) (R:=fun fr' K'=>fr'=[(2,.bool zt)]/\K'=⟨[],0,[]⟩)
  (fun i h B=>LC h U B) (fun i h B=>⟨_,_,LD h B,rfl,rfl⟩) LF
 have l2:=jN (P:=⟨env,T,A1⟩) (c:=Zt) (f:=RF) (l:=m.fs) (S:=fun i n=>[(1,.ptr 0 0 0),(3,.int .i64 n),(5,.int .i64 (i:Int))]) (K:=fun _=>⟨[.row 1 [m.F] 2],0,[]⟩) (x:=2) (Q:=fun n fr'=>True) (R:=fun r fr' K'=>fr'=[(2,.bool zt)]/\K'=⟨[],0,[]⟩)
  (fun i a a' h B=>by
    unfold RF at B;split at B
    . cases B
    . rename_i O
      cases B;exact(b6c h N).2 O) (fun i a r h B=>by
    unfold RF at B;split at B
    . rename_i O
      exact⟨_,_,(b6c h N).1 O,rfl,rfl⟩
    . cases B) (fun a=>LK) 0
 have D:decide ((20:Int)<(m.gs.length:Int))=decide (20<m.gs.length):=decide_eq_decide.2 (by omega);have G:decide ((12:Int)<(m.fs.length:Int))=decide (12<m.fs.length):=decide_eq_decide.2 (by omega);unfold s4;simp only[Modl.F]at Y l2|-;by_cases H:20<m.gs.length
 . simp only[D,G,eq_true H,zqa,XP,seval]
 by_cases I:12<m.fs.length
 . simp only[D,G,H,eq_true I,zqa,XP,seval]
 rcases Y with⟨q,fr',h1,h2,h3⟩|⟨q,fr',K',h1,rfl,rfl⟩
 . have h1:evP ⟨env,T,A1⟩ (.code (.loop Vs) [(1,.ptr 0 0 0),(3,.int .i64 0),(4,.int .i64 0)] _)=_:=h1
   rcases l2 with⟨a',V,X,J,_⟩|⟨r,V,X,K2,J,rfl,rfl⟩
   . have J:evP ⟨env,T,A1⟩ (.code (.loop Zt) [(1,.ptr 0 0 0),(3,.int .i64 0),(5,.int .i64 0)] _)=_:=J
     simp only[D,G,H,I,h1,h2,h3,J,q,V,Sum.isRight_inl,zqa,XP,seval]
   . have J:evP ⟨env,T,A1⟩ (.code (.loop Zt) [(1,.ptr 0 0 0),(3,.int .i64 0),(5,.int .i64 0)] _)=_:=J
     simp only[D,G,H,I,h1,h2,h3,J,q,V,Sum.isRight_inr,zqa,XP,seval]
 . have h1:evP ⟨env,T,A1⟩ (.code (.loop Vs) [(1,.ptr 0 0 0),(3,.int .i64 0),(4,.int .i64 0)] _)=_:=h1
   simp only[D,G,H,I,h1,q,zqa,XP,seval]
def Ai:=Bs (fun p:(Modl)=>[p.F]) (fun p=>[.bool (s4 p)]) (fun p=>p.ok)
theorem jO(B:T 9=zs Ai){m:Modl}{K:PK}(D:m.ok):evP ⟨env,T,A1⟩ (.call 9 [m.F] K)=zs (.val (openTs K.os.length [.bool (s4 m)]).1 ⟨K.os++(openTs K.os.length [.bool (s4 m)]).2,K.ext,K.tch⟩):=C9 B (by simp only[VV,XP,seval]) (D4 (a:=fun p:(Modl)=>[p.F]) (r:=fun p=>[.bool (s4 p)]) (fun x y e=>by simp only[VJ]at e;simp only[e]) (m) D) (by simp only[VN,XP,seval])
theorem aO  (B:PEok ⟨env,T,A1⟩):TC env 9 Ai:=D6 B fun p h=>Pr  h
end
end Go.Proofs.AmEnv
set_option maxRecDepth 100000
namespace Go.AM
def jP(k:IntKind)(a b:Int):Int:=Ax k (Nat.land (modN a (pow2 k)) (modN b (pow2 k)))
def ZI(k:IntKind)(a b:Int):Int:=Ax k (Nat.lor (modN a (pow2 k)) (modN b (pow2 k)))
def EB(k:IntKind)(a b:Int):Int:=Ax k (Nat.xor (modN a (pow2 k)) (modN b (pow2 k)))
theorem LL(fl:EqK)(k:IntKind)(a b:Int):J3 .and fl (.int k a) (.int k b)=zs (.int k (jP k a b)):=by
 show d8 (.int k a) (.int k b) (fun k a b=>z6 k (Ax k (Nat.land (modN a (pow2 k)) (modN b (pow2 k)))))=_;rw[X8,Cy];rfl
theorem ZJ(fl:EqK)(k:IntKind)(a b:Int):J3 .or fl (.int k a) (.int k b)=zs (.int k (ZI k a b)):=by
 show d8 (.int k a) (.int k b) (fun k a b=>z6 k (Ax k (Nat.lor (modN a (pow2 k)) (modN b (pow2 k)))))=_;rw[X8,Cy];rfl
theorem LM(fl:EqK)(k:IntKind)(a b:Int):J3 .xor fl (.int k a) (.int k b)=zs (.int k (EB k a b)):=by
 show d8 (.int k a) (.int k b) (fun k a b=>z6 k (Ax k (Nat.xor (modN a (pow2 k)) (modN b (pow2 k)))))=_;rw[X8,Cy];rfl
theorem tT(k:IntKind)(n:Nat):(bif Nat.ble n (J2 k)then n else J2 k)=min n (J2 k):=by
 cases h:Nat.ble n (J2 k)with
 |true=>have:=B9 h;simp;omega
 |false=>
  have:¬n<=J2 k:=fun e=>by rw[zkj e]at h;cases h
  simp;omega
theorem LN(fl:EqK)(k j:IntKind)(a:Int)(n:Nat):J3 .shl fl (.int k a) (.int j (n:Int))=zs (.int k (k.wrap (a*(2^(min n (J2 k)):Nat)))):=by
 show O8 k (a*zka (Nat.pow 2 (bif Nat.ble n (J2 k)then n else J2 k)))=_
 rw[a8,tT];rfl
theorem LO(fl:EqK)(k j:IntKind)(a:Int)(n:Nat):J3 .shr fl (.int k a) (.int j (n:Int))=zs (.int k (a.fdiv (2^(min n (J2 k)):Nat))):=by
 show z6 k (a.fdiv (zka (Nat.pow 2 (bif Nat.ble n (J2 k)then n else J2 k))))=_
 rw[Cy,tT];rfl
theorem eK(b:Int)(e:Nat)(he:e<=32):jP .u64 (IntKind.wrap .u64 b) ((2^e-1:Nat):Int)=((b%(2^e:Nat)).toNat:Int):=by
 have hp:(0:Int)<18446744073709551616:=by omega
 have h2:(2:Nat)^e<=2^32:=Nat.pow_le_pow_right (by omega) he;have h3:0<2^e:=Nat.two_pow_pos e;have hdvd:(2^e) ∣ 18446744073709551616:=⟨2^(64-e),by rw[<-Nat.pow_add,show e+(64-e)=64 by omega]⟩
 have hw:IntKind.wrap .u64 b=b%18446744073709551616:=by simp[IntKind.wrap,IntKind.bits,IntKind.signed]
 have m1:(modN (IntKind.wrap .u64 b) (pow2 .u64):Int)=b%18446744073709551616:=by
  rw[Kr _ _ (Bx _),hw];simp[pow2]
 have m2:(modN ((2^e-1:Nat):Int) (pow2 .u64):Int)=((2^e-1:Nat):Int):=by
  rw[Kr _ _ (Bx _)];exact Int.emod_eq_of_lt (by omega) (by simp only[pow2];omega)
 unfold jP;have m2':modN ((2^e-1:Nat):Int) (pow2 .u64)=2^e-1:=by omega
 rw [m2'];have m3:Nat.land (modN (IntKind.wrap .u64 b) (pow2 .u64)) (2^e-1)=modN (IntKind.wrap .u64 b) (pow2 .u64)%2^e:=Nat.and_two_pow_sub_one_eq_mod _ _;rw[m3];have hlt:modN (IntKind.wrap .u64 b) (pow2 .u64)%2^e<2^e:=Nat.mod_lt _ h3;have hwr:∀m:Nat,m<18446744073709551616->Ax .u64 m=(m:Int):=fun m hm=>by
  unfold Ax;cases e:Nat.ble (half .u64) m with
  |false=>rfl
  |true=>
   have:=B9 e
   have hh:half .u64=18446744073709551616:=rfl;omega
 rw [hwr _ (by have:(2:Nat)^32=4294967296:=by decide
               omega)]
 have:((modN (IntKind.wrap .u64 b) (pow2 .u64)%2^e:Nat):Int)=b%((2^e:Nat):Int):=by
  rw[Int.natCast_emod,m1];exact Int.emod_emod_of_dvd b (show((2^e:Nat):Int) ∣ ((18446744073709551616:Nat):Int)from Int.natCast_dvd_natCast.2 hdvd)
 rw[this]
 have:=Int.emod_nonneg b (show((2^e:Nat):Int)≠0 by omega)
 omega
end Go.AM
namespace Go.Proofs.AmEnv
open Go Go.AM
variable {T:Nat->Option (List AV->Option (List AV))}
def j1(k:IntKind)(op:List UInt8)(a b:Int):Int×Int:=
 if b=0 then(0,1)
 else if op=[37]/\b=-1 then(0,0)
 else if op=[37]then(a.tmod b,0)
 else if b=-1 then(if a=0 then(k.wrap (a.tdiv b),0)else if k.wrap (0-a)=a then(0,2)else(k.wrap (a.tdiv b),0))else(k.wrap (a.tdiv b),0)
def Aj(k:IntKind)(m:Int)(op:List UInt8)(a b:Int):Int:=
 if op=[43]then k.wrap (a+b)else if op=[45]then k.wrap (a-b)else if op=[42]then k.wrap (a*b)
 else if op=[38]then jP k a b else if op=[124]then ZI k a b else if op=[94]then EB k a b
 else if op=[60,60]then k.wrap (a*(2^(min (b%m).toNat (J2 k)):Nat))else if op=[62,62]then a.fdiv (2^(min (b%m).toNat (J2 k)):Nat)
 else if op=[61,61]then(if a=b then 1 else 0)else if op=[33,61]then(if(!decide (a=b))=zt then 1 else 0)
 else if op=[60]then(if a<b then 1 else 0)else if op=[60,61]then(if a<=b then 1 else 0)
 else if op=[62]then(if b<a then 1 else 0)else if op=[62,61]then(if b<=a then 1 else 0)else 0
theorem LP(b:Int):jP .u64 (IntKind.wrap .u64 b) (IntKind.wrap .u64 (IntKind.wrap .i64 (32-1)))=((b%32).toNat:Int):=by
 have:IntKind.wrap .u64 (IntKind.wrap .i64 (32-1))=((2^5-1:Nat):Int):=by decide
 rw[this];exact eK b 5 (by omega)
theorem LQ(b:Int):jP .u64 (IntKind.wrap .u64 b) (IntKind.wrap .u64 (IntKind.wrap .i64 (64-1)))=((b%64).toNat:Int):=by
 have:IntKind.wrap .u64 (IntKind.wrap .i64 (64-1))=((2^6-1:Nat):Int):=by decide
 rw[this];exact eK b 6 (by omega)
variable {K:PK}{E:Env}
theorem Xj(t:Nat)(k:IntKind)(a:Int){b:Int}(h:¬b=0):R1 E .quo t (.int k a) (.int k b) K=.val (.int k (k.wrap (a.tdiv b))) K:=by
 rw[bp _ _ rfl rfl];show Db (d8 (.int k a) (.int k b) (fun k a b=>bif intEq b 0 then zn else O8 k (a.tdiv b))) K=_
 rw[X8,o6,beq_false_of_ne h];exact congrArg (Db · K) (a8 k _)
theorem tU(t:Nat)(k:IntKind)(a:Int){b:Int}(h:¬b=0):R1 E .rem t (.int k a) (.int k b) K=.val (.int k (a.tmod b)) K:=by
 rw[bp _ _ rfl rfl];show Db (d8 (.int k a) (.int k b) (fun k a b=>bif intEq b 0 then zn else z6 k (a.tmod b))) K=_
 rw[X8,o6,beq_false_of_ne h];exact congrArg (Db · K) (Cy k _)
theorem mD(k:IntKind)(a:Int):Kh .neg (.int k a)=zs (.int k (k.wrap (0-a))):=a8 k _
theorem K5(t:Nat)(k:IntKind)(a b:Int):R1 E .and t (.int k a) (.int k b) K=.val (.int k (jP k a b)) K:=by rw[bp _ _ rfl rfl,LL];rfl
theorem d9(t:Nat)(k:IntKind)(a b:Int):R1 E .or t (.int k a) (.int k b) K=.val (.int k (ZI k a b)) K:=by rw[bp _ _ rfl rfl,ZJ];rfl
theorem K6(t:Nat)(k:IntKind)(a b:Int):R1 E .xor t (.int k a) (.int k b) K=.val (.int k (EB k a b)) K:=by rw[bp _ _ rfl rfl,LM];rfl
theorem K7(t:Nat)(k j:IntKind)(a:Int)(n:Nat):R1 E .shl t (.int k a) (.int j (n:Int)) K=.val (.int k (k.wrap (a*(2^(min n (J2 k)):Nat)))) K:=by rw[bp _ _ rfl rfl,LN];rfl
theorem K8(t:Nat)(k j:IntKind)(a:Int)(n:Nat):R1 E .shr t (.int k a) (.int j (n:Int)) K=.val (.int k (a.fdiv (2^(min n (J2 k)):Nat))) K:=by rw[bp _ _ rfl rfl,LO];rfl
theorem eL  {b:Bool}:AM.Comes ⟨env,T,A1⟩ 73 [.bool b] [.int .i32 (if b=zt then 1 else 0)]:=by
 refine⟨[.int .i32 (if b=zt then 1 else 0)],⟨[],0,[]⟩,?_,back_of rfl zqb rfl rfl rfl⟩;rw[A5 (c:=RD) (nt:=4) (rs:=[.tmp 2]) rfl (by simp)];unfold RD;unfold K0;cases b<;>simp only[XP,seval]
def Tg:=Bs (fun p:(Bool)=>[.bool p]) (fun p=>[.int .i32 (if p=zt then 1 else 0)]) (fun p=>True)
theorem EC(B:T 73=zs Tg){b:Bool}{K:PK}:evP ⟨env,T,A1⟩ (.call 73 [.bool b] K)=zs (.val (openTs K.os.length [.int .i32 (if b=zt then 1 else 0)]).1 ⟨K.os++(openTs K.os.length [.int .i32 (if b=zt then 1 else 0)]).2,K.ext,K.tch⟩):=C9 B (by simp only[VV,XP,seval]) (D4 (a:=fun p:(Bool)=>[.bool p]) (r:=fun p=>[.int .i32 (if p=zt then 1 else 0)]) (fun x y e=>by simp only[VJ]at e;simp only[e]) (b) trivial) (by simp only[VN,XP,seval])
theorem tV  (B:PEok ⟨env,T,A1⟩):TC env 73 Tg:=D6 B fun p h=>eL
theorem Th  {op:List UInt8} {a:Int} {b:Int}:AM.Comes ⟨env,T,A1⟩ 66 [.str op,.int .i32 a,.int .i32 b] [.int .i32 (j1 .i32 op a b).1,.int .i64 (j1 .i32 op a b).2]:=by
 refine⟨[.int .i32 (j1 .i32 op a b).1,.int .i64 (j1 .i32 op a b).2],⟨[],0,[]⟩,?_,back_of rfl zqb rfl rfl rfl⟩;rw[A5 (c:=QX) (nt:=40) (rs:=[.tmp 6,.tmp 7]) rfl (by simp)];unfold QX;unfold K0;unfold j1;by_cases h0:b=0
 . simp only[eq_true h0,XP,seval]
 by_cases h1:op=[37]
 . by_cases h2:b=-1
   . simp only[h0,eq_true h1,eq_true h2,XP,seval]
   . simp only[h0,eq_true h1,h2,tU _ _ a h0,XP,seval]
 by_cases h2:b=-1
 . by_cases B:a=0
   . simp only[h0,eq_true h2,h1,eq_true B,Xj _ _ a h0,XP,seval]
   . by_cases D:IntKind.wrap .i32 (0-a)=a
     . simp only[h0,eq_true h2,h1,B,mD,eq_true D,XP,seval]
     . simp only[h0,eq_true h2,h1,B,mD,D,Xj _ _ a h0,XP,seval]
 . simp only[h0,h1,h2,Xj _ _ a h0,XP,seval]
def Ci:=Bs (fun p:(List UInt8)×(Int)×(Int)=>[.str p.1,.int .i32 p.2.1,.int .i32 p.2.2]) (fun p=>[.int .i32 (j1 .i32 p.1 p.2.1 p.2.2).1,.int .i64 (j1 .i32 p.1 p.2.1 p.2.2).2]) (fun p=>True)
theorem pQ(B:T 66=zs Ci){op:List UInt8}{a:Int}{b:Int}{K:PK}:evP ⟨env,T,A1⟩ (.call 66 [.str op,.int .i32 a,.int .i32 b] K)=zs (.val (openTs K.os.length [.int .i32 (j1 .i32 op a b).1,.int .i64 (j1 .i32 op a b).2]).1 ⟨K.os++(openTs K.os.length [.int .i32 (j1 .i32 op a b).1,.int .i64 (j1 .i32 op a b).2]).2,K.ext,K.tch⟩):=C9 B (by simp only[VV,XP,seval]) (D4 (a:=fun p:(List UInt8)×(Int)×(Int)=>[.str p.1,.int .i32 p.2.1,.int .i32 p.2.2]) (r:=fun p=>[.int .i32 (j1 .i32 p.1 p.2.1 p.2.2).1,.int .i64 (j1 .i32 p.1 p.2.1 p.2.2).2]) (fun x y e=>by simp only[VJ]at e;simp only[e]) (op,a,b) trivial) (by simp only[VN,XP,seval])
theorem eM  (B:PEok ⟨env,T,A1⟩):TC env 66 Ci:=D6 B fun p h=>Th
theorem aP(O:T 73=zs Tg){op:List UInt8}{a:Int}{b:Int}:AM.Comes ⟨env,T,A1⟩ 67 [.str op,.int .i32 a,.int .i32 b,.int .i64 32] [.int .i32 (Aj .i32 32 op a b)]:=by
 refine⟨[.int .i32 (Aj .i32 32 op a b)],⟨[],0,[]⟩,?_,back_of rfl zqb rfl rfl rfl⟩;rw[A5 (c:=QY) (nt:=93) (rs:=[.tmp 8]) rfl (by simp)];unfold QY;unfold K0;have to:=fun b K=>EC (K:=K) (b:=b) O
 have B:=LP b;unfold Aj;by_cases h1:op=[43]
 . simp only[B,B3,to,K5,d9,K6,K7,K8,eq_true h1,XP,Nat.reduceAdd,Nat.reduceSub,Nat.reduceLT,Nat.reduceLeDiff,Nat.reduceEqDiff,Nat.reduceMul,↓reduceIte]
 by_cases h2:op=[45]
 . simp only[B,B3,to,K5,d9,K6,K7,K8,h1,eq_true h2,XP,Nat.reduceAdd,Nat.reduceSub,Nat.reduceLT,Nat.reduceLeDiff,Nat.reduceEqDiff,Nat.reduceMul,↓reduceIte]
 by_cases D:op=[42]
 . simp only[B,B3,to,K5,d9,K6,K7,K8,h1,h2,eq_true D,XP,Nat.reduceAdd,Nat.reduceSub,Nat.reduceLT,Nat.reduceLeDiff,Nat.reduceEqDiff,Nat.reduceMul,↓reduceIte]
 by_cases H:op=[38]
 . simp only[B,B3,to,K5,d9,K6,K7,K8,h1,h2,D,eq_true H,XP,Nat.reduceAdd,Nat.reduceSub,Nat.reduceLT,Nat.reduceLeDiff,Nat.reduceEqDiff,Nat.reduceMul,↓reduceIte]
 by_cases I:op=[124]
 . simp only[B,B3,to,K5,d9,K6,K7,K8,h1,h2,D,H,eq_true I,XP,Nat.reduceAdd,Nat.reduceSub,Nat.reduceLT,Nat.reduceLeDiff,Nat.reduceEqDiff,Nat.reduceMul,↓reduceIte]
 by_cases N:op=[94]
 . simp only[B,B3,to,K5,d9,K6,K7,K8,h1,h2,D,H,I,eq_true N,XP,Nat.reduceAdd,Nat.reduceSub,Nat.reduceLT,Nat.reduceLeDiff,Nat.reduceEqDiff,Nat.reduceMul,↓reduceIte]
 by_cases Q:op=[60,60]
 . simp only[B,B3,to,K5,d9,K6,K7,K8,h1,h2,D,H,I,N,eq_true Q,XP,Nat.reduceAdd,Nat.reduceSub,Nat.reduceLT,Nat.reduceLeDiff,Nat.reduceEqDiff,Nat.reduceMul,↓reduceIte]
 by_cases h8:op=[62,62]
 . simp only[B,B3,to,K5,d9,K6,K7,K8,h1,h2,D,H,I,N,Q,eq_true h8,XP,Nat.reduceAdd,Nat.reduceSub,Nat.reduceLT,Nat.reduceLeDiff,Nat.reduceEqDiff,Nat.reduceMul,↓reduceIte]
 by_cases V:op=[61,61]
 . simp only[B,B3,to,K5,d9,K6,K7,K8,h1,h2,D,H,I,N,Q,h8,eq_true V,XP,Nat.reduceAdd,Nat.reduceSub,Nat.reduceLT,Nat.reduceLeDiff,Nat.reduceEqDiff,Nat.reduceMul,↓reduceIte]
 by_cases G:op=[33,61]
 . simp only[B,B3,to,K5,d9,K6,K7,K8,h1,h2,D,H,I,N,Q,h8,V,eq_true G,XP,Nat.reduceAdd,Nat.reduceSub,Nat.reduceLT,Nat.reduceLeDiff,Nat.reduceEqDiff,Nat.reduceMul,↓reduceIte]
 by_cases J:op=[60]
 . simp only[B,B3,to,K5,d9,K6,K7,K8,h1,h2,D,H,I,N,Q,h8,V,G,eq_true J,XP,Nat.reduceAdd,Nat.reduceSub,Nat.reduceLT,Nat.reduceLeDiff,Nat.reduceEqDiff,Nat.reduceMul,↓reduceIte]
 by_cases U:op=[60,61]
 . simp only[B,B3,to,K5,d9,K6,K7,K8,h1,h2,D,H,I,N,Q,h8,V,G,J,eq_true U,XP,Nat.reduceAdd,Nat.reduceSub,Nat.reduceLT,Nat.reduceLeDiff,Nat.reduceEqDiff,Nat.reduceMul,↓reduceIte]
 by_cases X:op=[62]
 . simp only[B,B3,to,K5,d9,K6,K7,K8,h1,h2,D,H,I,N,Q,h8,V,G,J,U,eq_true X,XP,Nat.reduceAdd,Nat.reduceSub,Nat.reduceLT,Nat.reduceLeDiff,Nat.reduceEqDiff,Nat.reduceMul,↓reduceIte]
 by_cases Y:op=[62,61]
 . simp only[B,B3,to,K5,d9,K6,K7,K8,h1,h2,D,H,I,N,Q,h8,V,G,J,U,X,eq_true Y,XP,Nat.reduceAdd,Nat.reduceSub,Nat.reduceLT,Nat.reduceLeDiff,Nat.reduceEqDiff,Nat.reduceMul,↓reduceIte]
 simp only[B,B3,to,K5,d9,K6,K7,K8,h1,h2,D,H,I,N,Q,h8,V,G,J,U,X,Y,XP,Nat.reduceAdd,Nat.reduceSub,Nat.reduceLT,Nat.reduceLeDiff,Nat.reduceEqDiff,Nat.reduceMul,↓reduceIte]
def Ls:=Bs (fun p:(List UInt8)×(Int)×(Int)=>[.str p.1,.int .i32 p.2.1,.int .i32 p.2.2,.int .i64 32]) (fun p=>[.int .i32 (Aj .i32 32 p.1 p.2.1 p.2.2)]) (fun p=>True)
theorem xT(B:T 67=zs Ls){op:List UInt8}{a:Int}{b:Int}{K:PK}:evP ⟨env,T,A1⟩ (.call 67 [.str op,.int .i32 a,.int .i32 b,.int .i64 32] K)=zs (.val (openTs K.os.length [.int .i32 (Aj .i32 32 op a b)]).1 ⟨K.os++(openTs K.os.length [.int .i32 (Aj .i32 32 op a b)]).2,K.ext,K.tch⟩):=C9 B (by simp only[VV,XP,seval]) (D4 (a:=fun p:(List UInt8)×(Int)×(Int)=>[.str p.1,.int .i32 p.2.1,.int .i32 p.2.2,.int .i64 32]) (r:=fun p=>[.int .i32 (Aj .i32 32 p.1 p.2.1 p.2.2)]) (fun x y e=>by simp only[VJ]at e;simp only[e]) (op,a,b) trivial) (by simp only[VN,XP,seval])
theorem pR(B:T 73=zs Tg)(D:PEok ⟨env,T,A1⟩):TC env 67 Ls:=D6 D fun p h=>aP B
theorem eN  {b:Bool}:AM.Comes ⟨env,T,A1⟩ 74 [.bool b] [.int .i64 (if b=zt then 1 else 0)]:=by
 refine⟨[.int .i64 (if b=zt then 1 else 0)],⟨[],0,[]⟩,?_,back_of rfl zqb rfl rfl rfl⟩;rw[A5 (c:=RE) (nt:=4) (rs:=[.tmp 2]) rfl (by simp)];unfold RE;unfold K0;cases b<;>simp only[XP,seval]
def Ti:=Bs (fun p:(Bool)=>[.bool p]) (fun p=>[.int .i64 (if p=zt then 1 else 0)]) (fun p=>True)
theorem ED(B:T 74=zs Ti){b:Bool}{K:PK}:evP ⟨env,T,A1⟩ (.call 74 [.bool b] K)=zs (.val (openTs K.os.length [.int .i64 (if b=zt then 1 else 0)]).1 ⟨K.os++(openTs K.os.length [.int .i64 (if b=zt then 1 else 0)]).2,K.ext,K.tch⟩):=C9 B (by simp only[VV,XP,seval]) (D4 (a:=fun p:(Bool)=>[.bool p]) (r:=fun p=>[.int .i64 (if p=zt then 1 else 0)]) (fun x y e=>by simp only[VJ]at e;simp only[e]) (b) trivial) (by simp only[VN,XP,seval])
theorem tW  (B:PEok ⟨env,T,A1⟩):TC env 74 Ti:=D6 B fun p h=>eN
theorem Tj  {op:List UInt8} {a:Int} {b:Int}:AM.Comes ⟨env,T,A1⟩ 68 [.str op,.int .i64 a,.int .i64 b] [.int .i64 (j1 .i64 op a b).1,.int .i64 (j1 .i64 op a b).2]:=by
 refine⟨[.int .i64 (j1 .i64 op a b).1,.int .i64 (j1 .i64 op a b).2],⟨[],0,[]⟩,?_,back_of rfl zqb rfl rfl rfl⟩;rw[A5 (c:=QZ) (nt:=40) (rs:=[.tmp 6,.tmp 7]) rfl (by simp)];unfold QZ;unfold K0;unfold j1;by_cases h0:b=0
 . simp only[eq_true h0,XP,seval]
 by_cases h1:op=[37]
 . by_cases h2:b=-1
   . simp only[h0,eq_true h1,eq_true h2,XP,seval]
   . simp only[h0,eq_true h1,h2,tU _ _ a h0,XP,seval]
 by_cases h2:b=-1
 . by_cases B:a=0
   . simp only[h0,eq_true h2,h1,eq_true B,Xj _ _ a h0,XP,seval]
   . by_cases D:IntKind.wrap .i64 (0-a)=a
     . simp only[h0,eq_true h2,h1,B,mD,eq_true D,XP,seval]
     . simp only[h0,eq_true h2,h1,B,mD,D,Xj _ _ a h0,XP,seval]
 . simp only[h0,h1,h2,Xj _ _ a h0,XP,seval]
def Cj:=Bs (fun p:(List UInt8)×(Int)×(Int)=>[.str p.1,.int .i64 p.2.1,.int .i64 p.2.2]) (fun p=>[.int .i64 (j1 .i64 p.1 p.2.1 p.2.2).1,.int .i64 (j1 .i64 p.1 p.2.1 p.2.2).2]) (fun p=>True)
theorem pS(B:T 68=zs Cj){op:List UInt8}{a:Int}{b:Int}{K:PK}:evP ⟨env,T,A1⟩ (.call 68 [.str op,.int .i64 a,.int .i64 b] K)=zs (.val (openTs K.os.length [.int .i64 (j1 .i64 op a b).1,.int .i64 (j1 .i64 op a b).2]).1 ⟨K.os++(openTs K.os.length [.int .i64 (j1 .i64 op a b).1,.int .i64 (j1 .i64 op a b).2]).2,K.ext,K.tch⟩):=C9 B (by simp only[VV,XP,seval]) (D4 (a:=fun p:(List UInt8)×(Int)×(Int)=>[.str p.1,.int .i64 p.2.1,.int .i64 p.2.2]) (r:=fun p=>[.int .i64 (j1 .i64 p.1 p.2.1 p.2.2).1,.int .i64 (j1 .i64 p.1 p.2.1 p.2.2).2]) (fun x y e=>by simp only[VJ]at e;simp only[e]) (op,a,b) trivial) (by simp only[VN,XP,seval])
theorem eO  (B:PEok ⟨env,T,A1⟩):TC env 68 Cj:=D6 B fun p h=>Tj
theorem aQ(O:T 74=zs Ti){op:List UInt8}{a:Int}{b:Int}:AM.Comes ⟨env,T,A1⟩ 69 [.str op,.int .i64 a,.int .i64 b,.int .i64 64] [.int .i64 (Aj .i64 64 op a b)]:=by
 refine⟨[.int .i64 (Aj .i64 64 op a b)],⟨[],0,[]⟩,?_,back_of rfl zqb rfl rfl rfl⟩;rw[A5 (c:=RA) (nt:=93) (rs:=[.tmp 8]) rfl (by simp)];unfold RA;unfold K0;have to:=fun b K=>ED (K:=K) (b:=b) O
 have B:=LQ b;unfold Aj;by_cases h1:op=[43]
 . simp only[B,B3,to,K5,d9,K6,K7,K8,eq_true h1,XP,Nat.reduceAdd,Nat.reduceSub,Nat.reduceLT,Nat.reduceLeDiff,Nat.reduceEqDiff,Nat.reduceMul,↓reduceIte]
 by_cases h2:op=[45]
 . simp only[B,B3,to,K5,d9,K6,K7,K8,h1,eq_true h2,XP,Nat.reduceAdd,Nat.reduceSub,Nat.reduceLT,Nat.reduceLeDiff,Nat.reduceEqDiff,Nat.reduceMul,↓reduceIte]
 by_cases D:op=[42]
 . simp only[B,B3,to,K5,d9,K6,K7,K8,h1,h2,eq_true D,XP,Nat.reduceAdd,Nat.reduceSub,Nat.reduceLT,Nat.reduceLeDiff,Nat.reduceEqDiff,Nat.reduceMul,↓reduceIte]
 by_cases H:op=[38]
 . simp only[B,B3,to,K5,d9,K6,K7,K8,h1,h2,D,eq_true H,XP,Nat.reduceAdd,Nat.reduceSub,Nat.reduceLT,Nat.reduceLeDiff,Nat.reduceEqDiff,Nat.reduceMul,↓reduceIte]
 by_cases I:op=[124]
 . simp only[B,B3,to,K5,d9,K6,K7,K8,h1,h2,D,H,eq_true I,XP,Nat.reduceAdd,Nat.reduceSub,Nat.reduceLT,Nat.reduceLeDiff,Nat.reduceEqDiff,Nat.reduceMul,↓reduceIte]
 by_cases N:op=[94]
 . simp only[B,B3,to,K5,d9,K6,K7,K8,h1,h2,D,H,I,eq_true N,XP,Nat.reduceAdd,Nat.reduceSub,Nat.reduceLT,Nat.reduceLeDiff,Nat.reduceEqDiff,Nat.reduceMul,↓reduceIte]
 by_cases Q:op=[60,60]
 . simp only[B,B3,to,K5,d9,K6,K7,K8,h1,h2,D,H,I,N,eq_true Q,XP,Nat.reduceAdd,Nat.reduceSub,Nat.reduceLT,Nat.reduceLeDiff,Nat.reduceEqDiff,Nat.reduceMul,↓reduceIte]
 by_cases h8:op=[62,62]
 . simp only[B,B3,to,K5,d9,K6,K7,K8,h1,h2,D,H,I,N,Q,eq_true h8,XP,Nat.reduceAdd,Nat.reduceSub,Nat.reduceLT,Nat.reduceLeDiff,Nat.reduceEqDiff,Nat.reduceMul,↓reduceIte]
 by_cases V:op=[61,61]
 . simp only[B,B3,to,K5,d9,K6,K7,K8,h1,h2,D,H,I,N,Q,h8,eq_true V,XP,Nat.reduceAdd,Nat.reduceSub,Nat.reduceLT,Nat.reduceLeDiff,Nat.reduceEqDiff,Nat.reduceMul,↓reduceIte]
 by_cases G:op=[33,61]
 . simp only[B,B3,to,K5,d9,K6,K7,K8,h1,h2,D,H,I,N,Q,h8,V,eq_true G,XP,Nat.reduceAdd,Nat.reduceSub,Nat.reduceLT,Nat.reduceLeDiff,Nat.reduceEqDiff,Nat.reduceMul,↓reduceIte]
 by_cases J:op=[60]
 . simp only[B,B3,to,K5,d9,K6,K7,K8,h1,h2,D,H,I,N,Q,h8,V,G,eq_true J,XP,Nat.reduceAdd,Nat.reduceSub,Nat.reduceLT,Nat.reduceLeDiff,Nat.reduceEqDiff,Nat.reduceMul,↓reduceIte]
 by_cases U:op=[60,61]
 . simp only[B,B3,to,K5,d9,K6,K7,K8,h1,h2,D,H,I,N,Q,h8,V,G,J,eq_true U,XP,Nat.reduceAdd,Nat.reduceSub,Nat.reduceLT,Nat.reduceLeDiff,Nat.reduceEqDiff,Nat.reduceMul,↓reduceIte]
 by_cases X:op=[62]
 . simp only[B,B3,to,K5,d9,K6,K7,K8,h1,h2,D,H,I,N,Q,h8,V,G,J,U,eq_true X,XP,Nat.reduceAdd,Nat.reduceSub,Nat.reduceLT,Nat.reduceLeDiff,Nat.reduceEqDiff,Nat.reduceMul,↓reduceIte]
 by_cases Y:op=[62,61]
 . simp only[B,B3,to,K5,d9,K6,K7,K8,h1,h2,D,H,I,N,Q,h8,V,G,J,U,X,eq_true Y,XP,Nat.reduceAdd,Nat.reduceSub,Nat.reduceLT,Nat.reduceLeDiff,Nat.reduceEqDiff,Nat.reduceMul,↓reduceIte]
 simp only[B,B3,to,K5,d9,K6,K7,K8,h1,h2,D,H,I,N,Q,h8,V,G,J,U,X,Y,XP,Nat.reduceAdd,Nat.reduceSub,Nat.reduceLT,Nat.reduceLeDiff,Nat.reduceEqDiff,Nat.reduceMul,↓reduceIte]
def Lt:=Bs (fun p:(List UInt8)×(Int)×(Int)=>[.str p.1,.int .i64 p.2.1,.int .i64 p.2.2,.int .i64 64]) (fun p=>[.int .i64 (Aj .i64 64 p.1 p.2.1 p.2.2)]) (fun p=>True)
theorem xU(B:T 69=zs Lt){op:List UInt8}{a:Int}{b:Int}{K:PK}:evP ⟨env,T,A1⟩ (.call 69 [.str op,.int .i64 a,.int .i64 b,.int .i64 64] K)=zs (.val (openTs K.os.length [.int .i64 (Aj .i64 64 op a b)]).1 ⟨K.os++(openTs K.os.length [.int .i64 (Aj .i64 64 op a b)]).2,K.ext,K.tch⟩):=C9 B (by simp only[VV,XP,seval]) (D4 (a:=fun p:(List UInt8)×(Int)×(Int)=>[.str p.1,.int .i64 p.2.1,.int .i64 p.2.2,.int .i64 64]) (r:=fun p=>[.int .i64 (Aj .i64 64 p.1 p.2.1 p.2.2)]) (fun x y e=>by simp only[VJ]at e;simp only[e]) (op,a,b) trivial) (by simp only[VN,XP,seval])
theorem pT(B:T 74=zs Ti)(D:PEok ⟨env,T,A1⟩):TC env 69 Lt:=D6 D fun p h=>aQ B
def K9(k:IntKind)(m:Int)(op:List UInt8)(a b:Int):Int×Int:=if op=[47]then j1 k op a b else if op=[37]then j1 k op a b else(Aj k m op a b,0)
def Ak(t:Int)(op:List UInt8)(a b:Int):Int×Int:=
 if t=1 then(IntKind.wrap .i64 (K9 .i32 32 op (IntKind.wrap .i32 a) (IntKind.wrap .i32 b)).1,(K9 .i32 32 op (IntKind.wrap .i32 a) (IntKind.wrap .i32 b)).2)
 else if t=2 then K9 .i64 64 op a b else(0,0)
theorem eP(B:T 66=zs Ci)(D:T 67=zs Ls){op:List UInt8}{a:Int}{b:Int}:AM.Comes ⟨env,T,A1⟩ 55 [.str op,.int .i32 a,.int .i32 b,.int .i64 32] [.int .i64 (IntKind.wrap .i64 (K9 .i32 32 op a b).1),.int .i64 (K9 .i32 32 op a b).2]:=by
 refine⟨[.int .i64 (IntKind.wrap .i64 (K9 .i32 32 op a b).1),.int .i64 (K9 .i32 32 op a b).2],⟨[],0,[]⟩,?_,back_of rfl zqb rfl rfl rfl⟩;rw[A5 (c:=QP) (nt:=34) (rs:=[.tmp 8,.tmp 9]) rfl (by simp)];unfold QP;unfold K0;have G:=fun K=>pQ (K:=K) (op:=op) (a:=a) (b:=b) B
 have te:=fun K=>xT (K:=K) (op:=op) (a:=a) (b:=b) D
 unfold K9;by_cases h1:op=[47]
 . simp only[G,te,B3,eq_true h1,XP,seval]
 by_cases h2:op=[37]
 . simp only[G,te,B3,h1,eq_true h2,XP,seval]
 simp only[G,te,B3,h1,h2,XP,seval]
def Tk:=Bs (fun p:(List UInt8)×(Int)×(Int)=>[.str p.1,.int .i32 p.2.1,.int .i32 p.2.2,.int .i64 32]) (fun p=>[.int .i64 (IntKind.wrap .i64 (K9 .i32 32 p.1 p.2.1 p.2.2).1),.int .i64 (K9 .i32 32 p.1 p.2.1 p.2.2).2]) (fun p=>True)
theorem EE(B:T 55=zs Tk){op:List UInt8}{a:Int}{b:Int}{K:PK}:evP ⟨env,T,A1⟩ (.call 55 [.str op,.int .i32 a,.int .i32 b,.int .i64 32] K)=zs (.val (openTs K.os.length [.int .i64 (IntKind.wrap .i64 (K9 .i32 32 op a b).1),.int .i64 (K9 .i32 32 op a b).2]).1 ⟨K.os++(openTs K.os.length [.int .i64 (IntKind.wrap .i64 (K9 .i32 32 op a b).1),.int .i64 (K9 .i32 32 op a b).2]).2,K.ext,K.tch⟩):=C9 B (by simp only[VV,XP,seval]) (D4 (a:=fun p:(List UInt8)×(Int)×(Int)=>[.str p.1,.int .i32 p.2.1,.int .i32 p.2.2,.int .i64 32]) (r:=fun p=>[.int .i64 (IntKind.wrap .i64 (K9 .i32 32 p.1 p.2.1 p.2.2).1),.int .i64 (K9 .i32 32 p.1 p.2.1 p.2.2).2]) (fun x y e=>by simp only[VJ]at e;simp only[e]) (op,a,b) trivial) (by simp only[VN,XP,seval])
theorem tX(B:T 66=zs Ci)(D:T 67=zs Ls)(G:PEok ⟨env,T,A1⟩):TC env 55 Tk:=D6 G fun p h=>eP B D
theorem eQ(B:T 68=zs Cj)(D:T 69=zs Lt){op:List UInt8}{a:Int}{b:Int}:AM.Comes ⟨env,T,A1⟩ 56 [.str op,.int .i64 a,.int .i64 b,.int .i64 64] [.int .i64 (K9 .i64 64 op a b).1,.int .i64 (K9 .i64 64 op a b).2]:=by
 refine⟨[.int .i64 (K9 .i64 64 op a b).1,.int .i64 (K9 .i64 64 op a b).2],⟨[],0,[]⟩,?_,back_of rfl zqb rfl rfl rfl⟩;rw[A5 (c:=QQ) (nt:=32) (rs:=[.tmp 8,.tmp 9]) rfl (by simp)];unfold QQ;unfold K0;have G:=fun K=>pS (K:=K) (op:=op) (a:=a) (b:=b) B
 have te:=fun K=>xU (K:=K) (op:=op) (a:=a) (b:=b) D
 unfold K9;by_cases h1:op=[47]
 . simp only[G,te,B3,eq_true h1,XP,seval]
 by_cases h2:op=[37]
 . simp only[G,te,B3,h1,eq_true h2,XP,seval]
 simp only[G,te,B3,h1,h2,XP,seval]
def Tl:=Bs (fun p:(List UInt8)×(Int)×(Int)=>[.str p.1,.int .i64 p.2.1,.int .i64 p.2.2,.int .i64 64]) (fun p=>[.int .i64 (K9 .i64 64 p.1 p.2.1 p.2.2).1,.int .i64 (K9 .i64 64 p.1 p.2.1 p.2.2).2]) (fun p=>True)
theorem EF(B:T 56=zs Tl){op:List UInt8}{a:Int}{b:Int}{K:PK}:evP ⟨env,T,A1⟩ (.call 56 [.str op,.int .i64 a,.int .i64 b,.int .i64 64] K)=zs (.val (openTs K.os.length [.int .i64 (K9 .i64 64 op a b).1,.int .i64 (K9 .i64 64 op a b).2]).1 ⟨K.os++(openTs K.os.length [.int .i64 (K9 .i64 64 op a b).1,.int .i64 (K9 .i64 64 op a b).2]).2,K.ext,K.tch⟩):=C9 B (by simp only[VV,XP,seval]) (D4 (a:=fun p:(List UInt8)×(Int)×(Int)=>[.str p.1,.int .i64 p.2.1,.int .i64 p.2.2,.int .i64 64]) (r:=fun p=>[.int .i64 (K9 .i64 64 p.1 p.2.1 p.2.2).1,.int .i64 (K9 .i64 64 p.1 p.2.1 p.2.2).2]) (fun x y e=>by simp only[VJ]at e;simp only[e]) (op,a,b) trivial) (by simp only[VN,XP,seval])
theorem tY(B:T 68=zs Cj)(D:T 69=zs Lt)(G:PEok ⟨env,T,A1⟩):TC env 56 Tl:=D6 G fun p h=>eQ B D
theorem Tm(B:T 55=zs Tk)(D:T 56=zs Tl){t:Int}{op:List UInt8}{a:Int}{b:Int}:AM.Comes ⟨env,T,A1⟩ 44 [.int .i64 t,.str op,.int .i64 a,.int .i64 b] [.int .i64 (Ak t op a b).1,.int .i64 (Ak t op a b).2]:=by
 refine⟨[.int .i64 (Ak t op a b).1,.int .i64 (Ak t op a b).2],⟨[],0,[]⟩,?_,back_of rfl zqb rfl rfl rfl⟩;rw[A5 (c:=QI) (nt:=29) (rs:=[.tmp 8,.tmp 9]) rfl (by simp)];unfold QI;unfold K0;have t1:=fun K=>EE (K:=K) (op:=op) (a:=IntKind.wrap .i32 a) (b:=IntKind.wrap .i32 b) B
 have G:=fun K=>EF (K:=K) (op:=op) (a:=a) (b:=b) D
 unfold Ak;by_cases h1:t=1
 . simp only[t1,G,B3,eq_true h1,XP,seval]
 by_cases h2:t=2
 . simp only[t1,G,B3,h1,eq_true h2,XP,seval]
 simp only[t1,G,B3,h1,h2,XP,seval]
def Z8:=Bs (fun p:(Int)×(List UInt8)×(Int)×(Int)=>[.int .i64 p.1,.str p.2.1,.int .i64 p.2.2.1,.int .i64 p.2.2.2]) (fun p=>[.int .i64 (Ak p.1 p.2.1 p.2.2.1 p.2.2.2).1,.int .i64 (Ak p.1 p.2.1 p.2.2.1 p.2.2.2).2]) (fun p=>True)
theorem Xk(B:T 44=zs Z8){t:Int}{op:List UInt8}{a:Int}{b:Int}{K:PK}:evP ⟨env,T,A1⟩ (.call 44 [.int .i64 t,.str op,.int .i64 a,.int .i64 b] K)=zs (.val (openTs K.os.length [.int .i64 (Ak t op a b).1,.int .i64 (Ak t op a b).2]).1 ⟨K.os++(openTs K.os.length [.int .i64 (Ak t op a b).1,.int .i64 (Ak t op a b).2]).2,K.ext,K.tch⟩):=C9 B (by simp only[VV,XP,seval]) (D4 (a:=fun p:(Int)×(List UInt8)×(Int)×(Int)=>[.int .i64 p.1,.str p.2.1,.int .i64 p.2.2.1,.int .i64 p.2.2.2]) (r:=fun p=>[.int .i64 (Ak p.1 p.2.1 p.2.2.1 p.2.2.2).1,.int .i64 (Ak p.1 p.2.1 p.2.2.1 p.2.2.2).2]) (fun x y e=>by simp only[VJ]at e;simp only[e]) (t,op,a,b) trivial) (by simp only[VN,XP,seval])
theorem eR(B:T 55=zs Tk)(D:T 56=zs Tl)(G:PEok ⟨env,T,A1⟩):TC env 44 Z8:=D6 G fun p h=>Tm B D
section
variable {K:PK}{fr:PF}{x:Operand}{v:AV}
theorem Xl:prim env (.makeInterface 61 x) fr K=.val (.iface 61 (opvP env x fr)) K:=rfl
theorem LR(u:Nat):prim env (.typeAssert x u 61 zf) fr K=Db (Kl 61 (opvP env x fr)) K:=rfl
theorem ZK:Kl 61 (.iface 61 v)=zs v:=rfl
theorem BD(t:Nat):R1 env .neq 20 (.iface t v) .niliface K=.val (.bool zt) K:=by rw[bp _ _ rfl rfl];rfl
theorem BE:R1 env .neq 20 .niliface .niliface K=.val (.bool zf) K:=by rw[bp _ _ rfl rfl];rfl
theorem tZ:opvP env (.const .nilIface) fr=.niliface:=rfl
end
structure Mst where
 steps:Int
 input:List Int
 data:List (List Int)
 out:List Int
 calls:Int
def mB(m:Modl)(s:Mst)(d o:AV):AV:=.agg [fslN (m.gs.map Glo.F),fslN (m.fs.map Cod.F),fslN (ints s.input),.int .i64 s.steps,d,o,.int .i64 0,.int .i64 0,.int .i64 s.calls]
def D8(st c:Int):AV:=.iface 61 (.agg [.int .i64 st,.int .i64 c])
theorem Tn{K:PK}{n:Nat}{l:List XOp}(h1:(K.tch.all fun i=>decide (n<=i))=zf)(h2:(l.all fun o=>!o.careful)=zf):Am n l K=zf:=by unfold Am;rw[h1,h2];rfl
theorem Ea{n:Int}(h1:-9223372036854775808<=n)(h2:n<=9223372036854775807):IntKind.wrap .i64 n=n:=by
 rw[IntKind.wrap_i64];omega
theorem LS{K:PK}{n:Int}{l:List Int}:Db (bK env (.slice 3) (zs (.int .i64 1)) zn zn (fslN (ints (n::l)))) K=.val (fslN (ints l)) K:=by
 show Db ((Iv 1 (ints (n::l)) zf (zs (.int .i64 1)) zn zn).map fun y=>match y with | .fsl l _=>AV.fsl l l.isEmpty|y=>y) K=_
 show Db ((A9 (Nat.ble 1 (lenL (ints (n::l)))&&Nat.ble (lenL (ints (n::l))) (lenL (ints (n::l)))&&Nat.ble (lenL (ints (n::l))) (lenL (ints (n::l)))&&zt) (zs (AV.fsl (takeL (dropL (ints (n::l)) 1) (Nat.sub (lenL (ints (n::l))) 1)) (zf&&Nat.beq (lenL (ints (n::l))) (lenL (ints (n::l))))))).map fun y=>match y with | .fsl l _=>AV.fsl l l.isEmpty|y=>y) K=_
 rw[A3,zkj (show 1<=(ints (n::l)).length by simp),zkj (zkk _),G4,G3];show OpS.val (.fsl (((ints (n::l)).drop 1).take ((ints (n::l)).length-1)) (((ints (n::l)).drop 1).take ((ints (n::l)).length-1)).isEmpty) K=_
 rw[zqk (by simp)];rfl
section
variable {m:Modl}{s:Mst}{d o:AV}{rest:List PO}{ext:Nat}{tch:List Nat}
theorem x6(hN:T 31=zn)(h:1<=s.steps)(hs:s.steps<=20000):evP ⟨env,T,A1⟩ (.call 31 [.ptr 0 0 0] ⟨(.row 1 [mB m s d o] 9::rest),ext,tch⟩)=zs (.val [] ⟨.row 1 [mB m {s with steps:=s.steps-1} d o] 9::rest,ext,[0]++tch⟩):=by
 have B:¬s.steps<1:=by omega
 rw[Di hN rfl];rw[A5 (c:=HH) (nt:=16) (rs:=[]) rfl (by simp)];unfold HH;unfold mB;have D:=Ea (n:=s.steps-1) (by omega) (by omega);simp only[B,D,Xl,XP,seval]
theorem mE(hN:T 31=zn)(h:¬1<=s.steps):evP ⟨env,T,A1⟩ (.call 31 [.ptr 0 0 0] ⟨(.row 1 [mB m s d o] 9::rest),ext,tch⟩)=zs (.pan (D8 3 0) ⟨(.row 1 [mB m s d o] 9::rest),ext,tch⟩):=by
 have B:s.steps<1:=by omega
 rw[Di hN rfl];rw[A5 (c:=HH) (nt:=16) (rs:=[]) rfl (by simp)];unfold HH;unfold mB D8;simp only[eq_true B,Xl,XP,seval]
theorem xV(hN:T 30=zn){K:PK}:evP ⟨env,T,A1⟩ (.call 30 [.int .i64 0] K)=zs (.val [] K):=by
 rw[Di hN rfl];rw[A5 (c:=HG) (nt:=7) (rs:=[]) rfl (by simp)];unfold HG;simp only[Xl,XP,seval]
theorem Qk(hN:T 30=zn){K:PK}{t:Int}(h:¬t=0):evP ⟨env,T,A1⟩ (.call 30 [.int .i64 t] K)=zs (.pan (D8 2 t) K):=by
 rw[Di hN rfl];rw[A5 (c:=HG) (nt:=7) (rs:=[]) rfl (by simp)];unfold HG;unfold D8;simp only[h,Xl,XP,seval]
theorem EG(hN:T 47=zn)(h:s.input=[]):evP ⟨env,T,A1⟩ (.call 47 [.ptr 0 0 0] ⟨(.row 1 [mB m s d o] 9::rest),ext,tch⟩)=zs (.val [.int .i64 0] ⟨(.row 1 [mB m s d o] 9::rest),ext,tch⟩):=by
 rw[Di hN rfl];rw[A5 (c:=HI) (nt:=25) (rs:=[.tmp 2]) rfl (by simp)];unfold HI;unfold mB;have B:decide (((ints []).length:Int)=0)=zt:=rfl;simp only[h,B,Xl,XP,seval]
theorem EH(hN:T 47=zn){n:Int}{l:List Int}(h:s.input=n::l):evP ⟨env,T,A1⟩ (.call 47 [.ptr 0 0 0] ⟨(.row 1 [mB m s d o] 9::rest),ext,tch⟩)=zs (.val [.int .i64 n] ⟨.row 1 [mB m {s with input:=l} d o] 9::rest,ext,[0]++tch⟩):=by
 rw[Di hN rfl];rw[A5 (c:=HI) (nt:=25) (rs:=[.tmp 2]) rfl (by simp)];unfold HI;unfold mB;have B:decide (((ints (n::l)).length:Int)=0)=zf:=by simp;omega
 have hi:Vd ty3 (fslN (ints (n::l))) (.int .i64 0)=zs (.fptr (.int .i64 n) 0):=ix_fslN (i:=0) rfl rfl;simp only[h,B,hi,LS,Xl,XP,seval]
end
abbrev at'(l:List Int)(i:Int):Int:=l.getD i.toNat 0
abbrev put'(l:List Int)(i v:Int):List Int:=l.set i.toNat v
theorem H4{r:List Int}{d:Nat}{v:Int}:(ints r).set d (.int .i64 v)=ints (r.set d v):=by
 rw[ints,ints,List.map_set]
def rowO(l:List Int):AV:=ownd 0 1 (ints l)
theorem eS{l:List (List Int)}{i:Nat}{v:List Int}:(l.map rowO).set i (ownd 0 1 (ints v))=(l.set i v).map rowO:=by rw[List.map_set];rfl
theorem Ck{l:List (List Int)}{i:Nat}(h:i<l.length):(l.map rowO)[i]?=zs (ownd 0 1 (ints l[i])):=by rw[zql,zqf h];rfl
theorem thereD_iff{a n:Int}:thereD a n=zt↔0<=a/\a<n:=by unfold thereD;simp
theorem uA(k sz o:Nat)(es:List AV)(c:AV):putCl (ownd k sz es) o c=c:=rfl
theorem uB{l:List Int}{v:Int}:ints l++[.int .i64 v]=ints (l++[v]):=by simp[ints]
theorem gD{l:List Int}{i:Nat}(h:i<l.length):l.getD i 0=l[i]:=by simp[zqp,h]
theorem HK{l:List (List Int)}{i:Nat}(h:i<l.length):l.getD i []=l[i]:=by simp[zqp,h]
theorem BF{l:List Glo}{i:Nat}{g:Glo}(h:i<l.length):l.getD i g=l[i]:=by simp[zqp,h]
def dA(f:Bool)(i:Nat)(s:Mst):AV:=match f with|true=>.msl i 0 s.data.length 1|false=>.nilsl
def dR(f:Bool)(s:Mst):List PO:=match f with|true=>[.row 0 (s.data.map rowO) 1]|false=>[]
def oA(f n:Bool)(i:Nat)(o:List Int):AV:=match f,n with|false,zf=>.nilsl|false,zt=>.msl i 0 o.length 1|true,zf=>.msl i 0 o.length 1|true,zt=>.msl (i+1) 0 o.length 1
def oR(f n:Bool)(o:List Int):List PO:=match f,n with|false,zf=>[]|false,zt=>[.row 0 (ints o) 1]|true,zf=>[.row 0 (ints o) 1]|true,zt=>[.dead,.row 0 (ints o) 1]
def nB(f:Bool):Nat:=match f with|true=>1|false=>0
def t7(fd fo n:Bool)(m:Modl)(s:Mst)(r:List Int):List PO:=.row 1 [mB m s (dA fd 2 s) (oA fo n (2+nB fd) s.out)] 9::.row 0 (ints r) 1::(dR fd s++oR fo n s.out)
def gAt(m:Modl)(i:Int):Glo:=m.gs.getD i.toNat ⟨[],0,0,0⟩
def dAt(s:Mst)(i:Int):List Int:=s.data.getD i.toNat []
def doesI(m:Modl)(x:Ins)(r:List Int)(s:Mst):Int×Mst×List Int:=
 if x.op=1 then(0,s,put' r x.dst x.n)
 else if x.op=2 then(0,s,put' r x.dst (at' r x.a))
 else if x.op=3 then(if(Ak x.ty x.s (at' r x.a) (at' r x.b)).2=0 then(0,s,put' r x.dst (Ak x.ty x.s (at' r x.a) (at' r x.b)).1)else((Ak x.ty x.s (at' r x.a) (at' r x.b)).2,s,r))
 else if x.op=4 then(0,s,put' r x.dst (wrapD x.ty (at' r x.a)))
 else if x.op=5 then(if thereD (at' r x.a) (gAt m x.n).size=zt then(0,s,put' r x.dst (at' (dAt s x.n) (at' r x.a)))else(3,s,r))
 else if x.op=6 then(if thereD (at' r x.a) (gAt m x.n).size=zt then(0,{s with data:=s.data.set x.n.toNat (put' (dAt s x.n) (at' r x.a) (wrapD (gAt m x.n).ty (at' r x.b)))},r)else(3,s,r))
 else if x.op=7 then(0,s,put' r x.dst (at' (dAt s x.n) 0))
 else if x.op=8 then(0,{s with data:=s.data.set x.n.toNat (put' (dAt s x.n) 0 (at' r x.a))},r)
 else if x.op=10 then(0,{s with input:=s.input.tail},put' r x.dst (s.input.headD 0))
 else if x.op=11 then(0,{s with out:=s.out++[at' r x.a]},r)
 else(0,s,r)
structure InsOk(m:Modl)(x:Ins)(r:List Int)(s:Mst):Prop where
 dst:x.op=1\/x.op=2\/x.op=3\/x.op=4\/x.op=5\/x.op=7\/x.op=10->0<=x.dst/\x.dst<r.length
 a:x.op=2\/x.op=3\/x.op=4\/x.op=5\/x.op=6\/x.op=8\/x.op=11->0<=x.a/\x.a<r.length
 b:x.op=3\/x.op=6->0<=x.b/\x.b<r.length
 n:x.op=5\/x.op=6\/x.op=7\/x.op=8->0<=x.n/\x.n<m.gs.length
 d:s.data.length=m.gs.length/\∀(i:Nat) l g,s.data[i]?=zs l->m.gs[i]?=zs g->(l.length:Int)=max g.size 1
section
variable {m:Modl}{s:Mst}{fd fo:Bool}{r:List Int}{x:Ins}
theorem ZL(h:x.op=1)(ho:InsOk m x r s)(hd0:fd=zf->s.data=[])(hol:s.out.length<=30000):∃tch,evP ⟨env,T,A1⟩ (.body 33 [.ptr 0 0 0,x.F,.msl 1 0 r.length 1] ⟨t7 fd fo zf m s r,2+nB fd+nB fo,[]⟩)=zs (.val [] ⟨t7 fd fo zf m s (put' r x.dst x.n),2+nB fd+nB fo,tch⟩):=by
 obtain⟨d,D,B⟩:∃d:Nat,x.dst=d/\d<r.length:=by have:=ho.dst (by omega);exact⟨x.dst.toNat,by omega,by omega⟩
 rw [A5 (c:=Ij) (nt:=173) (rs:=[]) rfl (by simp)];unfold Ij;unfold V7 V6 s9 t7 mB Ins.F;cases fd<;>cases fo<;>(
  simp only[dA,dR,oA,oR,nB,put',at',D];simp only[eq_true h,A8 B,B,H4,zqz,XP,seval];exact⟨_,rfl⟩)
theorem ZM(h:x.op=2)(ho:InsOk m x r s)(hd0:fd=zf->s.data=[])(hol:s.out.length<=30000):∃tch,evP ⟨env,T,A1⟩ (.body 33 [.ptr 0 0 0,x.F,.msl 1 0 r.length 1] ⟨t7 fd fo zf m s r,2+nB fd+nB fo,[]⟩)=zs (.val [] ⟨t7 fd fo zf m s (put' r x.dst (at' r x.a)),2+nB fd+nB fo,tch⟩):=by
 obtain⟨d,G,D⟩:∃d:Nat,x.dst=d/\d<r.length:=by have:=ho.dst (by omega);exact⟨x.dst.toNat,by omega,by omega⟩
 obtain⟨a,ha,B⟩:∃a:Nat,x.a=a/\a<r.length:=by have:=ho.a (by omega);exact⟨x.a.toNat,by omega,by omega⟩
 rw [A5 (c:=Ij) (nt:=173) (rs:=[]) rfl (by simp)];unfold Ij;unfold V7 V6 s9 Ae t7 mB Ins.F;cases fd<;>cases fo<;>(
  simp only[dA,dR,oA,oR,nB,put',at',G,ha];simp only[eq_true h,(show ¬x.op=1 by omega),A8 D,D,A8 B,B,gD B,H4,zqz,XP,seval];exact⟨_,rfl⟩)
theorem ZN(hB:T 44=zs Z8)(hN:T 30=zn)(h:x.op=3)(ho:InsOk m x r s)(hd0:fd=zf->s.data=[])(hol:s.out.length<=30000)(H:(Ak x.ty x.s (at' r x.a) (at' r x.b)).2=0):∃tch,evP ⟨env,T,A1⟩ (.body 33 [.ptr 0 0 0,x.F,.msl 1 0 r.length 1] ⟨t7 fd fo zf m s r,2+nB fd+nB fo,[]⟩)=zs (.val [] ⟨t7 fd fo zf m s (put' r x.dst (Ak x.ty x.s (at' r x.a) (at' r x.b)).1),2+nB fd+nB fo,tch⟩):=by
 obtain⟨d,J,G⟩:∃d:Nat,x.dst=d/\d<r.length:=by have:=ho.dst (by omega);exact⟨x.dst.toNat,by omega,by omega⟩
 obtain⟨a,ha,B⟩:∃a:Nat,x.a=a/\a<r.length:=by have:=ho.a (by omega);exact⟨x.a.toNat,by omega,by omega⟩
 obtain⟨b,hb,D⟩:∃b:Nat,x.b=b/\b<r.length:=by have:=ho.b (by omega);exact⟨x.b.toNat,by omega,by omega⟩
 have I:=fun K=>Xk (K:=K) (t:=x.ty) (op:=x.s) (a:=r[a]) (b:=r[b]) hB
 rw [at',at',ha,hb,zqz,zqz,gD B,gD D]at H;rw[H]at I;rw[A5 (c:=Ij) (nt:=173) (rs:=[]) rfl (by simp)];unfold Ij;unfold V7 V6 s9 Ae Bh t7 mB Ins.F;cases fd<;>cases fo<;>(
  simp only[dA,dR,oA,oR,nB,put',at',J,ha,hb];simp only[eq_true h,(show ¬x.op=1 by omega),(show ¬x.op=2 by omega),A8 G,G,A8 B,B,gD B,A8 D,D,gD D,H4,I,xV hN,zqz,XP,seval];exact⟨_,rfl⟩)
theorem LU(hB:T 44=zs Z8)(hN:T 30=zn)(h:x.op=3)(ho:InsOk m x r s)(hd0:fd=zf->s.data=[])(hol:s.out.length<=30000)(H:¬(Ak x.ty x.s (at' r x.a) (at' r x.b)).2=0):∃tch,evP ⟨env,T,A1⟩ (.body 33 [.ptr 0 0 0,x.F,.msl 1 0 r.length 1] ⟨t7 fd fo zf m s r,2+nB fd+nB fo,[]⟩)=zs (.pan (D8 2 (Ak x.ty x.s (at' r x.a) (at' r x.b)).2) ⟨t7 fd fo zf m s r,2+nB fd+nB fo,tch⟩):=by
 obtain⟨d,J,G⟩:∃d:Nat,x.dst=d/\d<r.length:=by have:=ho.dst (by omega);exact⟨x.dst.toNat,by omega,by omega⟩
 obtain⟨a,ha,B⟩:∃a:Nat,x.a=a/\a<r.length:=by have:=ho.a (by omega);exact⟨x.a.toNat,by omega,by omega⟩
 obtain⟨b,hb,D⟩:∃b:Nat,x.b=b/\b<r.length:=by have:=ho.b (by omega);exact⟨x.b.toNat,by omega,by omega⟩
 have I:=fun K=>Xk (K:=K) (t:=x.ty) (op:=x.s) (a:=r[a]) (b:=r[b]) hB
 rw [at',at',ha,hb,zqz,zqz,gD B,gD D]at H;rw[A5 (c:=Ij) (nt:=173) (rs:=[]) rfl (by simp)];unfold Ij;unfold V7 V6 s9 Ae Bh t7 mB Ins.F;cases fd<;>cases fo<;>(
  simp only[dA,dR,oA,oR,nB,put',at',J,ha,hb];simp only[eq_true h,(show ¬x.op=1 by omega),(show ¬x.op=2 by omega),A8 G,G,A8 B,B,gD B,A8 D,D,gD D,H4,I,fun K=>Qk (K:=K) hN H,zqz,XP,seval];exact⟨_,rfl⟩)
theorem ZO(hW:T 45=zs F5)(h:x.op=4)(ho:InsOk m x r s)(hd0:fd=zf->s.data=[])(hol:s.out.length<=30000):∃tch,evP ⟨env,T,A1⟩ (.body 33 [.ptr 0 0 0,x.F,.msl 1 0 r.length 1] ⟨t7 fd fo zf m s r,2+nB fd+nB fo,[]⟩)=zs (.val [] ⟨t7 fd fo zf m s (put' r x.dst (wrapD x.ty (at' r x.a))),2+nB fd+nB fo,tch⟩):=by
 obtain⟨d,H,D⟩:∃d:Nat,x.dst=d/\d<r.length:=by have:=ho.dst (by omega);exact⟨x.dst.toNat,by omega,by omega⟩
 obtain⟨a,ha,B⟩:∃a:Nat,x.a=a/\a<r.length:=by have:=ho.a (by omega);exact⟨x.a.toNat,by omega,by omega⟩
 have G:=fun K=>Dx (K:=K) (t:=x.ty) (v:=r[a]) hW
 rw [A5 (c:=Ij) (nt:=173) (rs:=[]) rfl (by simp)];unfold Ij;unfold V7 V6 s9 Ae Bh Ek t7 mB Ins.F;cases fd<;>cases fo<;>(
  simp only[dA,dR,oA,oR,nB,put',at',H,ha];simp only[eq_true h,(show ¬x.op=1 by omega),(show ¬x.op=2 by omega),(show ¬x.op=3 by omega),A8 D,D,A8 B,B,gD B,H4,G,zqz,XP,seval];exact⟨_,rfl⟩)
theorem aS(hE:T 46=zn)(a b c:AV)(K:PK):evP ⟨env,T,A1⟩ (.call 46 [a,b,c] K)=zU K (Vb env [.tmp 6] (evP ⟨env,T,A1⟩ (.code AJ (enterP 0 [a,b,c]) ⟨K.os,K.os.length,[]⟩))):=by
 rw[Di hE rfl,A5 (c:=AJ) (nt:=29) (rs:=[.tmp 6]) rfl (by simp)]
theorem ZP(hE:T 46=zn)(hN:T 30=zn)(hT:T 52=zs D2)(h:x.op=5)(ho:InsOk m x r s)(N:fd=zf->s.data=[])(hol:s.out.length<=30000)(J:thereD (at' r x.a) (gAt m x.n).size=zt):∃tch,evP ⟨env,T,A1⟩ (.body 33 [.ptr 0 0 0,x.F,.msl 1 0 r.length 1] ⟨t7 fd fo zf m s r,2+nB fd+nB fo,[]⟩)=zs (.val [] ⟨t7 fd fo zf m s (put' r x.dst (at' (dAt s x.n) (at' r x.a))),2+nB fd+nB fo,tch⟩):=by
 obtain⟨d,V,I⟩:∃d:Nat,x.dst=d/\d<r.length:=by have:=ho.dst (by omega);exact⟨x.dst.toNat,by omega,by omega⟩
 obtain⟨a,ha,D⟩:∃a:Nat,x.a=a/\a<r.length:=by have:=ho.a (by omega);exact⟨x.a.toNat,by omega,by omega⟩
 obtain⟨n,hn,G⟩:∃n:Nat,x.n=n/\n<m.gs.length:=by have:=ho.n (by omega);exact⟨x.n.toNat,by omega,by omega⟩
 have B:n<s.data.length:=by have:=ho.d.1;omega
 have O:fd=zt:=by cases fd with|true=>rfl|false=>have:=N rfl;rw[this]at B;simp at B
 subst O;have hlen:=ho.d.2 n _ _ (zqf B) (zqf G);have hg:=A7 (F:=Glo.F) G;simp only[Glo.F]at hg;rw[at',gAt,ha,hn,zqz,zqz,gD D,BF G]at J;obtain⟨e,U,H⟩:∃e:Nat,r[a]=e/\e<s.data[n].length:=by have:=thereD_iff.1 J;exact⟨r[a].toNat,by omega,by omega⟩
 have Q:=fun K=>Q7 (K:=K) (a:=(e:Int)) (n:=m.gs[n].size) hT
 rw [U]at J;rw[J]at Q;rw[A5 (c:=Ij) (nt:=173) (rs:=[]) rfl (by simp)];unfold Ij;unfold V7 V6 s9 Ae Bh Ek Gb t7 mB Ins.F;cases fo<;>(
  simp only[dA,dR,oA,oR,nB,put',at',V,ha,hn];simp only[eq_true h,(show ¬x.op=1 by omega),(show ¬x.op=2 by omega),(show ¬x.op=3 by omega),(show ¬x.op=4 by omega),A8 D,D,gD D,gAt,dAt,BF G,HK B,hg,Ck B,B,Q,aS hE,AJ,zqa,A8 I,I,H4,U,A8 H,H,gD H,zqz,XP,seval];exact⟨_,rfl⟩)
theorem LV(hE:T 46=zn)(hN:T 30=zn)(hT:T 52=zs D2)(h:x.op=5)(ho:InsOk m x r s)(I:fd=zf->s.data=[])(hol:s.out.length<=30000)(N:¬thereD (at' r x.a) (gAt m x.n).size=zt):∃tch,evP ⟨env,T,A1⟩ (.body 33 [.ptr 0 0 0,x.F,.msl 1 0 r.length 1] ⟨t7 fd fo zf m s r,2+nB fd+nB fo,[]⟩)=zs (.pan (D8 2 3) ⟨t7 fd fo zf m s r,2+nB fd+nB fo,tch⟩):=by
 obtain⟨d,Q,H⟩:∃d:Nat,x.dst=d/\d<r.length:=by have:=ho.dst (by omega);exact⟨x.dst.toNat,by omega,by omega⟩
 obtain⟨a,ha,D⟩:∃a:Nat,x.a=a/\a<r.length:=by have:=ho.a (by omega);exact⟨x.a.toNat,by omega,by omega⟩
 obtain⟨n,hn,G⟩:∃n:Nat,x.n=n/\n<m.gs.length:=by have:=ho.n (by omega);exact⟨x.n.toNat,by omega,by omega⟩
 have B:n<s.data.length:=by have:=ho.d.1;omega
 have J:fd=zt:=by cases fd with|true=>rfl|false=>have:=I rfl;rw[this]at B;simp at B
 subst J;have hlen:=ho.d.2 n _ _ (zqf B) (zqf G);have hg:=A7 (F:=Glo.F) G;simp only[Glo.F]at hg;rw[at',gAt,ha,hn,zqz,zqz,gD D,BF G]at N;have O:=fun K=>Q7 (K:=K) (a:=r[a]) (n:=m.gs[n].size) hT
 rw [zki.2 N]at O;rw[A5 (c:=Ij) (nt:=173) (rs:=[]) rfl (by simp)];unfold Ij;unfold V7 V6 s9 Ae Bh Ek Gb t7 mB Ins.F;cases fo<;>(
  simp only[dA,dR,oA,oR,nB,put',at',Q,ha,hn];simp only[eq_true h,(show ¬x.op=1 by omega),(show ¬x.op=2 by omega),(show ¬x.op=3 by omega),(show ¬x.op=4 by omega),A8 D,D,gD D,gAt,dAt,BF G,HK B,hg,Ck B,B,O,aS hE,AJ,zqa,A8 H,H,H4,fun K=>Qk (K:=K) hN (t:=3) (by decide),zqz,XP,seval];exact⟨_,rfl⟩)
theorem ZQ(hE:T 46=zn)(hN:T 30=zn)(hT:T 52=zs D2)(hW:T 45=zs F5)(h:x.op=6)(ho:InsOk m x r s)(N:fd=zf->s.data=[])(hol:s.out.length<=30000)(J:thereD (at' r x.a) (gAt m x.n).size=zt):∃tch,evP ⟨env,T,A1⟩ (.body 33 [.ptr 0 0 0,x.F,.msl 1 0 r.length 1] ⟨t7 fd fo zf m s r,2+nB fd+nB fo,[]⟩)=zs (.val [] ⟨t7 fd fo zf m {s with data:=s.data.set x.n.toNat (put' (dAt s x.n) (at' r x.a) (wrapD (gAt m x.n).ty (at' r x.b)))} r,2+nB fd+nB fo,tch⟩):=by
 obtain⟨a,ha,D⟩:∃a:Nat,x.a=a/\a<r.length:=by have:=ho.a (by omega);exact⟨x.a.toNat,by omega,by omega⟩
 obtain⟨b,hb,H⟩:∃b:Nat,x.b=b/\b<r.length:=by have:=ho.b (by omega);exact⟨x.b.toNat,by omega,by omega⟩
 obtain⟨n,hn,G⟩:∃n:Nat,x.n=n/\n<m.gs.length:=by have:=ho.n (by omega);exact⟨x.n.toNat,by omega,by omega⟩
 have B:n<s.data.length:=by have:=ho.d.1;omega
 have O:fd=zt:=by cases fd with|true=>rfl|false=>have:=N rfl;rw[this]at B;simp at B
 subst O;have hlen:=ho.d.2 n _ _ (zqf B) (zqf G);have hg:=A7 (F:=Glo.F) G;simp only[Glo.F]at hg;rw[at',gAt,ha,hn,zqz,zqz,gD D,BF G]at J;obtain⟨e,U,I⟩:∃e:Nat,r[a]=e/\e<s.data[n].length:=by have:=thereD_iff.1 J;exact⟨r[a].toNat,by omega,by omega⟩
 have Q:=fun K=>Q7 (K:=K) (a:=(e:Int)) (n:=m.gs[n].size) hT
 rw[U]at J;rw[J]at Q;have V:=fun K=>Dx (K:=K) (t:=m.gs[n].ty) (v:=r[b]) hW
 rw [A5 (c:=Ij) (nt:=173) (rs:=[]) rfl (by simp)];unfold Ij;unfold V7 V6 s9 Ae Bh Ek Gb Lh t7 mB Ins.F;cases fo<;>(
  simp only[dA,dR,oA,oR,nB,put',at',ha,hb,hn];simp only[eq_true h,(show ¬x.op=1 by omega),(show ¬x.op=2 by omega),(show ¬x.op=3 by omega),(show ¬x.op=4 by omega),(show ¬x.op=5 by omega),A8 D,D,gD D,gAt,dAt,BF G,HK B,hg,Ck B,B,Q,aS hE,AJ,zqa,A8 H,H,gD H,V,eS,uA,H4,U,A8 I,I,gD I,zqu,zqz,XP,seval];exact⟨_,rfl⟩)
theorem LW(hE:T 46=zn)(hN:T 30=zn)(hT:T 52=zs D2)(hW:T 45=zs F5)(h:x.op=6)(ho:InsOk m x r s)(I:fd=zf->s.data=[])(hol:s.out.length<=30000)(N:¬thereD (at' r x.a) (gAt m x.n).size=zt):∃tch,evP ⟨env,T,A1⟩ (.body 33 [.ptr 0 0 0,x.F,.msl 1 0 r.length 1] ⟨t7 fd fo zf m s r,2+nB fd+nB fo,[]⟩)=zs (.pan (D8 2 3) ⟨t7 fd fo zf m s r,2+nB fd+nB fo,tch⟩):=by
 obtain⟨a,ha,D⟩:∃a:Nat,x.a=a/\a<r.length:=by have:=ho.a (by omega);exact⟨x.a.toNat,by omega,by omega⟩
 obtain⟨b,hb,H⟩:∃b:Nat,x.b=b/\b<r.length:=by have:=ho.b (by omega);exact⟨x.b.toNat,by omega,by omega⟩
 obtain⟨n,hn,G⟩:∃n:Nat,x.n=n/\n<m.gs.length:=by have:=ho.n (by omega);exact⟨x.n.toNat,by omega,by omega⟩
 have B:n<s.data.length:=by have:=ho.d.1;omega
 have J:fd=zt:=by cases fd with|true=>rfl|false=>have:=I rfl;rw[this]at B;simp at B
 subst J;have hlen:=ho.d.2 n _ _ (zqf B) (zqf G);have hg:=A7 (F:=Glo.F) G;simp only[Glo.F]at hg;rw[at',gAt,ha,hn,zqz,zqz,gD D,BF G]at N;have O:=fun K=>Q7 (K:=K) (a:=r[a]) (n:=m.gs[n].size) hT
 rw[zki.2 N]at O;have Q:=fun K=>Dx (K:=K) (t:=m.gs[n].ty) (v:=r[b]) hW
 rw [A5 (c:=Ij) (nt:=173) (rs:=[]) rfl (by simp)];unfold Ij;unfold V7 V6 s9 Ae Bh Ek Gb Lh t7 mB Ins.F;cases fo<;>(
  simp only[dA,dR,oA,oR,nB,put',at',ha,hb,hn];simp only[eq_true h,(show ¬x.op=1 by omega),(show ¬x.op=2 by omega),(show ¬x.op=3 by omega),(show ¬x.op=4 by omega),(show ¬x.op=5 by omega),A8 D,D,gD D,gAt,dAt,BF G,HK B,hg,Ck B,B,O,aS hE,AJ,zqa,A8 H,H,gD H,Q,fun K=>Qk (K:=K) hN (t:=3) (by decide),zqz,XP,seval];exact⟨_,rfl⟩)
theorem ZR(h:x.op=7)(ho:InsOk m x r s)(G:fd=zf->s.data=[])(hol:s.out.length<=30000):∃tch,evP ⟨env,T,A1⟩ (.body 33 [.ptr 0 0 0,x.F,.msl 1 0 r.length 1] ⟨t7 fd fo zf m s r,2+nB fd+nB fo,[]⟩)=zs (.val [] ⟨t7 fd fo zf m s (put' r x.dst (at' (dAt s x.n) 0)),2+nB fd+nB fo,tch⟩):=by
 obtain⟨d,N,D⟩:∃d:Nat,x.dst=d/\d<r.length:=by have:=ho.dst (by omega);exact⟨x.dst.toNat,by omega,by omega⟩
 obtain⟨n,hn,I⟩:∃n:Nat,x.n=n/\n<m.gs.length:=by have:=ho.n (by omega);exact⟨x.n.toNat,by omega,by omega⟩
 have B:n<s.data.length:=by have:=ho.d.1;omega
 have H:fd=zt:=by cases fd with|true=>rfl|false=>have:=G rfl;rw[this]at B;simp at B
 subst H;have hlen:=ho.d.2 n _ _ (zqf B) (zqf I);have h0:0<s.data[n].length:=by omega
 have J:∀i,Vd ty3 (.msl i 0 s.data[n].length 1) (.int .i64 0)=zs (.ptr i 0 0):=fun i=>by have:=ix_msl (te:=ty3) (k:=.i64) (id:=i) (off:=0) (i:=0) (n:=s.data[n].length) (sz:=1) h0 rfl;simpa using this
 rw [A5 (c:=Ij) (nt:=173) (rs:=[]) rfl (by simp)];unfold Ij;unfold V7 V6 s9 Ae Bh Ek Gb Lh Sq t7 mB Ins.F;cases fo<;>(
  simp only[dA,dR,oA,oR,nB,put',at',N,hn];simp only[eq_true h,(show ¬x.op=1 by omega),(show ¬x.op=2 by omega),(show ¬x.op=3 by omega),(show ¬x.op=4 by omega),(show ¬x.op=5 by omega),(show ¬x.op=6 by omega),A8 D,D,H4,gD h0,dAt,HK B,Ck B,B,zqa,A8 h0,h0,Int.toNat_zero,J,zqz,XP,seval];exact⟨_,rfl⟩)
theorem ZS(h:x.op=8)(ho:InsOk m x r s)(G:fd=zf->s.data=[])(hol:s.out.length<=30000):∃tch,evP ⟨env,T,A1⟩ (.body 33 [.ptr 0 0 0,x.F,.msl 1 0 r.length 1] ⟨t7 fd fo zf m s r,2+nB fd+nB fo,[]⟩)=zs (.val [] ⟨t7 fd fo zf m {s with data:=s.data.set x.n.toNat (put' (dAt s x.n) 0 (at' r x.a))} r,2+nB fd+nB fo,tch⟩):=by
 obtain⟨a,ha,D⟩:∃a:Nat,x.a=a/\a<r.length:=by have:=ho.a (by omega);exact⟨x.a.toNat,by omega,by omega⟩
 obtain⟨n,hn,I⟩:∃n:Nat,x.n=n/\n<m.gs.length:=by have:=ho.n (by omega);exact⟨x.n.toNat,by omega,by omega⟩
 have B:n<s.data.length:=by have:=ho.d.1;omega
 have H:fd=zt:=by cases fd with|true=>rfl|false=>have:=G rfl;rw[this]at B;simp at B
 subst H;have hlen:=ho.d.2 n _ _ (zqf B) (zqf I);have h0:0<s.data[n].length:=by omega
 have J:∀i,Vd ty3 (.msl i 0 s.data[n].length 1) (.int .i64 0)=zs (.ptr i 0 0):=fun i=>by have:=ix_msl (te:=ty3) (k:=.i64) (id:=i) (off:=0) (i:=0) (n:=s.data[n].length) (sz:=1) h0 rfl;simpa using this
 rw [A5 (c:=Ij) (nt:=173) (rs:=[]) rfl (by simp)];unfold Ij;unfold V7 V6 s9 Ae Bh Ek Gb Lh Sq Xf t7 mB Ins.F;cases fo<;>(
  simp only[dA,dR,oA,oR,nB,put',at',ha,hn];simp only[eq_true h,(show ¬x.op=1 by omega),(show ¬x.op=2 by omega),(show ¬x.op=3 by omega),(show ¬x.op=4 by omega),(show ¬x.op=5 by omega),(show ¬x.op=6 by omega),(show ¬x.op=7 by omega),A8 D,D,gD D,H4,eS,uA,zqu,gD h0,dAt,HK B,Ck B,B,zqa,A8 h0,h0,Int.toNat_zero,J,zqz,XP,seval];exact⟨_,rfl⟩)
theorem EI(hX:T 47=zn)(h:x.op=10)(ho:InsOk m x r s)(hd0:fd=zf->s.data=[])(hol:s.out.length<=30000)(hi:s.input=[]):∃tch,evP ⟨env,T,A1⟩ (.body 33 [.ptr 0 0 0,x.F,.msl 1 0 r.length 1] ⟨t7 fd fo zf m s r,2+nB fd+nB fo,[]⟩)=zs (.val [] ⟨t7 fd fo zf m {s with input:=s.input.tail} (put' r x.dst (s.input.headD 0)),2+nB fd+nB fo,tch⟩):=by
 obtain⟨d,D,B⟩:∃d:Nat,x.dst=d/\d<r.length:=by have:=ho.dst (by omega);exact⟨x.dst.toNat,by omega,by omega⟩
 have nx:=fun d o rest ext tch=>EG (d:=d) (o:=o) (rest:=rest) (ext:=ext) (tch:=tch) (m:=m) hX hi
 unfold mB at nx;simp only[hi]at nx;rw[A5 (c:=Ij) (nt:=173) (rs:=[]) rfl (by simp)];unfold Ij;unfold V7 V6 s9 Ae Bh Ek Gb Lh Sq Xf eC t7 mB Ins.F;cases fd<;>cases fo<;>(
  simp only[dA,dR,oA,oR,nB,put',at',D];simp only[eq_true h,(show ¬x.op=1 by omega),(show ¬x.op=2 by omega),(show ¬x.op=3 by omega),(show ¬x.op=4 by omega),(show ¬x.op=5 by omega),(show ¬x.op=6 by omega),(show ¬x.op=7 by omega),(show ¬x.op=8 by omega),A8 B,B,H4,Tn,zqv,zqw,Nat.reduceBEq,hi,nx,List.tail_cons,List.tail_nil,zqx,List.headD_nil,zqz,XP,seval];exact⟨_,rfl⟩)
theorem LX(hX:T 47=zn)(h:x.op=10)(ho:InsOk m x r s)(hd0:fd=zf->s.data=[])(hol:s.out.length<=30000){v:Int}{t:List Int}(hi:s.input=v::t):∃tch,evP ⟨env,T,A1⟩ (.body 33 [.ptr 0 0 0,x.F,.msl 1 0 r.length 1] ⟨t7 fd fo zf m s r,2+nB fd+nB fo,[]⟩)=zs (.val [] ⟨t7 fd fo zf m {s with input:=s.input.tail} (put' r x.dst (s.input.headD 0)),2+nB fd+nB fo,tch⟩):=by
 obtain⟨d,D,B⟩:∃d:Nat,x.dst=d/\d<r.length:=by have:=ho.dst (by omega);exact⟨x.dst.toNat,by omega,by omega⟩
 have nx:=fun d o rest ext tch=>EH (d:=d) (o:=o) (rest:=rest) (ext:=ext) (tch:=tch) (m:=m) hX hi
 unfold mB at nx;simp only[hi]at nx;rw[A5 (c:=Ij) (nt:=173) (rs:=[]) rfl (by simp)];unfold Ij;unfold V7 V6 s9 Ae Bh Ek Gb Lh Sq Xf eC t7 mB Ins.F;cases fd<;>cases fo<;>(
  simp only[dA,dR,oA,oR,nB,put',at',D];simp only[eq_true h,(show ¬x.op=1 by omega),(show ¬x.op=2 by omega),(show ¬x.op=3 by omega),(show ¬x.op=4 by omega),(show ¬x.op=5 by omega),(show ¬x.op=6 by omega),(show ¬x.op=7 by omega),(show ¬x.op=8 by omega),A8 B,B,H4,Tn,zqv,zqw,Nat.reduceBEq,hi,nx,List.tail_cons,List.tail_nil,zqx,List.headD_nil,zqz,XP,seval];exact⟨_,rfl⟩)
theorem LY(h:x.op=11)(ho:InsOk m x r s)(hd0:fd=zf->s.data=[])(hol:s.out.length<=30000)(hf:fo=zt):∃tch,evP ⟨env,T,A1⟩ (.body 33 [.ptr 0 0 0,x.F,.msl 1 0 r.length 1] ⟨t7 fd fo zf m s r,2+nB fd+nB fo,[]⟩)=zs (.val [] ⟨t7 fd fo zt m {s with out:=s.out++[at' r x.a]} r,2+nB fd+nB fo,tch⟩):=by
 obtain⟨a,ha,B⟩:∃a:Nat,x.a=a/\a<r.length:=by have:=ho.a (by omega);exact⟨x.a.toNat,by omega,by omega⟩
 have hb:(s.out.length+1)*8<=140737488355328:=by omega
 subst hf;rw[A5 (c:=Ij) (nt:=173) (rs:=[]) rfl (by simp)];unfold Ij;unfold V7 V6 s9 Ae Bh Ek Gb Lh Sq Xf eC sS t7 mB Ins.F;cases fd<;>(
  simp only[dA,dR,oA,oR,nB,put',at',ha];simp only[eq_true h,(show ¬x.op=1 by omega),(show ¬x.op=2 by omega),(show ¬x.op=3 by omega),(show ¬x.op=4 by omega),(show ¬x.op=5 by omega),(show ¬x.op=6 by omega),(show ¬x.op=7 by omega),(show ¬x.op=8 by omega),(show ¬x.op=10 by omega),A8 B,B,gD B,zqa,zqq,hb,uB,zqz,XP,seval];exact⟨_,rfl⟩)
theorem EJ(h:x.op=11)(ho:InsOk m x r s)(hd0:fd=zf->s.data=[])(hol:s.out.length<=30000)(hf:fo=zf)(D:s.out=[]):∃tch,evP ⟨env,T,A1⟩ (.body 33 [.ptr 0 0 0,x.F,.msl 1 0 r.length 1] ⟨t7 fd fo zf m s r,2+nB fd+nB fo,[]⟩)=zs (.val [] ⟨t7 fd fo zt m {s with out:=s.out++[at' r x.a]} r,2+nB fd+nB fo,tch⟩):=by
 obtain⟨a,ha,B⟩:∃a:Nat,x.a=a/\a<r.length:=by have:=ho.a (by omega);exact⟨x.a.toNat,by omega,by omega⟩
 have hb:(s.out.length+1)*8<=140737488355328:=by omega
 subst hf;rw[A5 (c:=Ij) (nt:=173) (rs:=[]) rfl (by simp)];unfold Ij;unfold V7 V6 s9 Ae Bh Ek Gb Lh Sq Xf eC sS t7 mB Ins.F;cases fd<;>(
  simp only[dA,dR,oA,oR,nB,put',at',ha];simp only[eq_true h,(show ¬x.op=1 by omega),(show ¬x.op=2 by omega),(show ¬x.op=3 by omega),(show ¬x.op=4 by omega),(show ¬x.op=5 by omega),(show ¬x.op=6 by omega),(show ¬x.op=7 by omega),(show ¬x.op=8 by omega),(show ¬x.op=10 by omega),A8 B,B,gD B,zqa,zqq,hb,D,List.map_cons,List.map_nil,zqz,XP,seval];exact⟨_,rfl⟩)
end
end Go.Proofs.AmEnv
set_option maxRecDepth 100000
namespace Go.AM
section
variable {E:Env}{K K1 K' Kf:PK}{ids:List Nat}
theorem aT{T:Nat->Option (List AV->Option (List AV))}{F:Nat->Option PFn}{f:Nat}{args args':List AV}{v v':AV}(B:T f=zn)(D:inpOf (F f)=zf)(hi:focusIds args K=ids)(ha:renL (posOf ids) args=args')(G:focusK ids K=Kf)
 (hb:evP ⟨E,T,F⟩ (.body f args' Kf)=zs (.pan v K1))(hm:mergeK ids K K1=zs K')(hv:G2 (backN ids K.os.length) v=v'):evP ⟨E,T,F⟩ (.call f args K)=zs (.pan v' K'):=by
 rw[evP];show(match T f with|some g=>_|none=>_)=_
 rw[B];dsimp only;show(match inpOf (F f)with|true=>_|false=>_)=_
 rw[D];dsimp only;rw[hi,ha,G,hb];show(match mergeK ids K K1 with|some K'=>zs (PR.pan (G2 (backN ids K.os.length) v) K')|none=>zn)=_
 rw[hm,hv]
theorem Xm{t:Nat}{v:AV}:J4 (.iface t v)=J4 v:=by rw[J4]
theorem Xn{t:Nat}{v:AV}{σ:Nat->Option Nat}:G2 σ (.iface t v)=.iface t (G2 σ v):=by rw[G2]
end
end Go.AM
namespace Go.Proofs.AmEnv
open Go Go.AM
variable {T:Nat->Option (List AV->Option (List AV))}
structure RunT(T:Nat->Option (List AV->Option (List AV))):Prop where
 hB:T 44=zs Z8
 hW:T 45=zs F5
 hN:T 30=zn
 hE:T 46=zn
 hT:T 52=zs D2
 hX:T 47=zn
 hS:T 31=zn
 hD:T 33=zn
 hC:T 32=zn
 hL:T 18=zn
section
variable {m:Modl}{s:Mst}{fa fd fo n:Bool}{r a:List Int}{x:Ins}
theorem Xo(R:RunT T)(ho:InsOk m x r s)(hop:1<=x.op/\x.op<=11/\x.op≠9)(B:fd=zf->s.data=[])(H:fo=zf->s.out=[])(D:s.out.length<=30000):∃tch,evP ⟨env,T,A1⟩ (.body 33 [.ptr 0 0 0,x.F,.msl 1 0 r.length 1] ⟨t7 fd fo zf m s r,2+nB fd+nB fo,[]⟩)=(if(doesI m x r s).1=0 then zs (.val [] ⟨t7 fd fo (decide (x.op=11)) m (doesI m x r s).2.1 (doesI m x r s).2.2,2+nB fd+nB fo,tch⟩)else zs (.pan (D8 2 (doesI m x r s).1) ⟨t7 fd fo zf m s r,2+nB fd+nB fo,tch⟩)):=by
 have hc:x.op=1\/x.op=2\/x.op=3\/x.op=4\/x.op=5\/x.op=6\/x.op=7\/x.op=8\/x.op=10\/x.op=11:=by omega
 rcases hc with h|h|h|h|h|h|h|h|h|h
 . obtain⟨tch,e⟩:=ZL (T:=T) h ho B D;exact⟨tch,by rw[e];simp only[doesI,h,Int.reduceEq,↓reduceIte,decide_true,decide_false]⟩
 . obtain⟨tch,e⟩:=ZM (T:=T) h ho B D;exact⟨tch,by rw[e];simp only[doesI,h,Int.reduceEq,↓reduceIte,decide_true,decide_false]⟩
 . by_cases G:(Ak x.ty x.s (at' r x.a) (at' r x.b)).2=0
   . obtain⟨tch,e⟩:=ZN R.hB R.hN h ho B D G;exact⟨tch,by rw[e];simp only[doesI,h,G,Int.reduceEq,↓reduceIte,decide_true,decide_false,zkd]⟩
   . obtain⟨tch,e⟩:=LU R.hB R.hN h ho B D G;exact⟨tch,by rw[e];simp only[doesI,h,G,Int.reduceEq,↓reduceIte,decide_true,decide_false,zkd]⟩
 . obtain⟨tch,e⟩:=ZO R.hW h ho B D;exact⟨tch,by rw[e];simp only[doesI,h,Int.reduceEq,↓reduceIte,decide_true,decide_false]⟩
 . by_cases G:thereD (at' r x.a) (gAt m x.n).size=zt
   . obtain⟨tch,e⟩:=ZP R.hE R.hN R.hT h ho B D G;exact⟨tch,by rw[e];simp only[doesI,h,G,Int.reduceEq,↓reduceIte,decide_true,decide_false,zkd]⟩
   . obtain⟨tch,e⟩:=LV R.hE R.hN R.hT h ho B D G;exact⟨tch,by rw[e];simp only[doesI,h,G,Int.reduceEq,↓reduceIte,decide_true,decide_false,zkd]⟩
 . by_cases G:thereD (at' r x.a) (gAt m x.n).size=zt
   . obtain⟨tch,e⟩:=ZQ R.hE R.hN R.hT R.hW h ho B D G;exact⟨tch,by rw[e];simp only[doesI,h,G,Int.reduceEq,↓reduceIte,decide_true,decide_false,zkd]⟩
   . obtain⟨tch,e⟩:=LW R.hE R.hN R.hT R.hW h ho B D G;exact⟨tch,by rw[e];simp only[doesI,h,G,Int.reduceEq,↓reduceIte,decide_true,decide_false,zkd]⟩
 . obtain⟨tch,e⟩:=ZR (T:=T) h ho B D;exact⟨tch,by rw[e];simp only[doesI,h,Int.reduceEq,↓reduceIte,decide_true,decide_false]⟩
 . obtain⟨tch,e⟩:=ZS (T:=T) h ho B D;exact⟨tch,by rw[e];simp only[doesI,h,Int.reduceEq,↓reduceIte,decide_true,decide_false]⟩
 . cases hi:s.input with
   |nil=>obtain⟨tch,e⟩:=EI R.hX h ho B D hi;exact⟨tch,by rw[e];simp only[doesI,h,Int.reduceEq,↓reduceIte,decide_true,decide_false]⟩
   |cons v t=>obtain⟨tch,e⟩:=LX R.hX h ho B D hi;exact⟨tch,by rw[e];simp only[doesI,h,Int.reduceEq,↓reduceIte,decide_true,decide_false]⟩
 . cases hf:fo with
   |true=>obtain⟨tch,e⟩:=LY (T:=T) h ho B D hf;exact⟨tch,by rw[hf]at e;rw[e];simp only[doesI,h,Int.reduceEq,↓reduceIte,decide_true,decide_false]⟩
   |false=>obtain⟨tch,e⟩:=EJ (T:=T) h ho B D hf (H hf);exact⟨tch,by rw[hf]at e;rw[e];simp only[doesI,h,Int.reduceEq,↓reduceIte,decide_true,decide_false]⟩
def aR(f:Bool)(a:List Int):List PO:=match f with|true=>[.row 0 (ints a) 1]|false=>[]
def E6(fa fd fo n:Bool)(m:Modl)(s:Mst)(a:List Int):List PO:=.row 1 [mB m s (dA fd (1+nB fa) s) (oA fo n (1+nB fa+nB fd) s.out)] 9::(aR fa a++(dR fd s++oR fo n s.out))
end
section
variable {m:Modl}{s:Mst}{fa fd fo n n':Bool}{r a:List Int}{x:Ins}{cs xs:List AV}{cz xz:Nat}
def nE(fa fd fo:Bool):Nat:=1+nB fa+nB fd+nB fo
def dd(f:Bool):List PO:=match f with|true=>[.dead]|false=>[]
def rC(fa fd fo n n':Bool)(m:Modl)(s:Mst)(a:List Int)(j:Nat):List PO:=match n' with
 |false=>E6 fa fd fo n m s a
 |true=>.row 1 [mB m s (dA fd (1+nB fa) s) (.msl j 0 s.out.length 1)] 9::(aR fa a++(dR fd s++(dd fo++dd n)))
def oG(n':Bool)(o:List Int):List PO:=match n' with|false=>[]|true=>[.row 0 (ints o) 1]
def Ps(fa fd fo n:Bool)(r:Nat):List Nat:=0::r::((match fd with|true=>[1+nB fa]|false=>[])++(match fo,n with|false,zf=>[]|true,zf=>[1+nB fa+nB fd]|false,zt=>[1+nB fa+nB fd]|true,zt=>[2+nB fa+nB fd]))
theorem pU(R:RunT T)(ho:InsOk m x r s)(B:1<=x.op/\x.op<=11/\x.op≠9)(D:fd=zf->s.data=[])(hf0:fo=zf->n=zf->s.out=[])(G:s.out.length<=30000)(hn:decide (x.op=11)=n')(H:(doesI m x r s).1=0):
 ∃t1,∀tch,evP ⟨env,T,A1⟩ (.call 33 [.ptr 0 0 0,x.F,.msl (nE fa fd fo+nB n+1) 0 r.length 1] ⟨E6 fa fd fo n m s a++[.row 1 cs cz,.row 0 (ints r) 1,.row 1 xs xz],nE fa fd fo,tch⟩)=zs (.val [] ⟨rC fa fd fo n n' m (doesI m x r s).2.1 a (nE fa fd fo+nB n+3)++(.row 1 cs cz::.row 0 (ints (doesI m x r s).2.2) 1::.row 1 xs xz::oG n' (doesI m x r s).2.1.out),nE fa fd fo,t1++tch⟩):=by
 obtain⟨t0,hb⟩:=Xo (T:=T) (fd:=fd) (fo:=fo||n) (m:=m) (s:=s) (r:=r) (x:=x) R ho B D (by cases fo<;>cases n<;>simp_all) G;rw[if_pos H,hn]at hb;refine⟨((t0.filter (· < (Ps fa fd fo n (nE fa fd fo+nB n+1)).length)).map fun j=>(Ps fa fd fo n (nE fa fd fo+nB n+1)).getD j 0),fun tch=>nQ (ids:=Ps fa fd fo n (nE fa fd fo+nB n+1)) (args':=[.ptr 0 0 0,x.F,.msl 1 0 r.length 1]) (Kf:=⟨t7 fd (fo||n) zf m s r,2+nB fd+nB (fo||n),[]⟩) R.hD rfl ?_ ?_ ?_ hb ?_ ?_⟩<;>cases fa<;>cases fd<;>cases fo<;>cases n<;>cases n'<;>rfl
theorem jQ(R:RunT T)(ho:InsOk m x r s)(B:1<=x.op/\x.op<=11/\x.op≠9)(D:fd=zf->s.data=[])(hf0:fo=zf->n=zf->s.out=[])(G:s.out.length<=30000)(H:¬(doesI m x r s).1=0):
 ∃t1,∀tch,evP ⟨env,T,A1⟩ (.call 33 [.ptr 0 0 0,x.F,.msl (nE fa fd fo+nB n+1) 0 r.length 1] ⟨E6 fa fd fo n m s a++[.row 1 cs cz,.row 0 (ints r) 1,.row 1 xs xz],nE fa fd fo,tch⟩)=zs (.pan (D8 2 (doesI m x r s).1) ⟨E6 fa fd fo n m s a++[.row 1 cs cz,.row 0 (ints r) 1,.row 1 xs xz],nE fa fd fo,t1++tch⟩):=by
 obtain⟨t0,hb⟩:=Xo (T:=T) (fd:=fd) (fo:=fo||n) (m:=m) (s:=s) (r:=r) (x:=x) R ho B D (by cases fo<;>cases n<;>simp_all) G;rw[if_neg H]at hb;refine⟨((t0.filter (· < (Ps fa fd fo n (nE fa fd fo+nB n+1)).length)).map fun j=>(Ps fa fd fo n (nE fa fd fo+nB n+1)).getD j 0),fun tch=>aT (ids:=Ps fa fd fo n (nE fa fd fo+nB n+1)) (args':=[.ptr 0 0 0,x.F,.msl 1 0 r.length 1]) (Kf:=⟨t7 fd (fo||n) zf m s r,2+nB fd+nB (fo||n),[]⟩) R.hD rfl ?_ ?_ ?_ hb ?_ ?_⟩<;>cases fa<;>cases fd<;>cases fo<;>cases n<;>rfl
end
section
variable {m:Modl}{s:Mst}{fa fd fo n:Bool}{r a:List Int}{c:Cod}{l:List Ins}{k:Nat}{at0:Int}{tch:List Nat}
def Ql(c:Cod):PO:=.row 1 [c.F] 5
def msL(fa fd fo n:Bool)(m:Modl)(s:Mst)(a:List Int)(c:Cod)(r:List Int)(tch:List Nat):PK:=⟨E6 fa fd fo n m s a++[Ql c,.row 0 (ints r) 1],nE fa fd fo,tch⟩
def U0(fa fd fo n:Bool)(r:List Int)(at0:Int):PF:=[(0,.ptr 0 0 0),(7,.ptr (nE fa fd fo+nB n) 0 0),(8,.msl (nE fa fd fo+nB n+1) 0 r.length 1),(9,.int .i64 at0)]
def frI(l:List Ins)(k:Nat):PF:=[(46,fslN (l.map Ins.F)),(47,.int .i64 (l.length:Int)),(48,.int .i64 (k:Int))]
def stp(s:Mst):Mst:={s with steps:=s.steps-1}
theorem LZ(R:RunT T)(D:k<l.length)(hl:l.length<=2000000000000)(h:¬1<=s.steps):
 ∃t1,evP ⟨env,T,A1⟩ (.code i6 (U0 fa fd fo n r at0++frI l k) (msL fa fd fo n m s a c r tch))=zs (.pan (D8 3 0) ⟨E6 fa fd fo n m s a,nE fa fd fo,t1⟩):=by
 have B:decide ((k:Int)<(l.length:Int))=zt:=by simp[D]
 have hi:=A7 (F:=Ins.F) D;have st:=fun d o rest ext tch=>mE (T:=T) (m:=m) (s:=s) (d:=d) (o:=o) (rest:=rest) (ext:=ext) (tch:=tch) R.hS h
 unfold i6 Sm Sl Sk Sj Si U0 frI msL E6 Ql;unfold mB at st|-;simp only[Ins.F,Cod.F,D8]at hi st|-;cases fa<;>cases fd<;>cases fo<;>cases n<;>(
  simp only[dA,dR,oA,oR,aR,nB,nE];simp only[B,hi,st,XP,seval];exact⟨_,rfl⟩)
theorem MA{n':Bool}(R:RunT T)(O:k<l.length)(hl:l.length<=2000000000000)(h:1<=s.steps)(Q:s.steps<=20000)(D:1<=l[k].op/\l[k].op<=11/\l[k].op≠9)(ho:InsOk m l[k] r (stp s))(G:fd=zf->s.data=[])(H:fo=zf->n=zf->s.out=[])(I:s.out.length<=30000)(hn:decide (l[k].op=11)=n')(U:(doesI m l[k] r (stp s)).1=0):
 ∃t1,evP ⟨env,T,A1⟩ (.code i6 (U0 fa fd fo n r at0++frI l k) (msL fa fd fo n m s a c r tch))=zs (.ok .normal (U0 fa fd fo (n||n') r at0++frI l (k+1)) (msL fa fd fo (n||n') m (doesI m l[k] r (stp s)).2.1 a c (doesI m l[k] r (stp s)).2.2 t1)):=by
 have J:decide ((k:Int)<(l.length:Int))=zt:=by simp[O]
 have hi:=A7 (F:=Ins.F) O;have V:=B5 (i:=k) (by omega);have st:=fun d o rest ext tch=>x6 (T:=T) (m:=m) (s:=s) (d:=d) (o:=o) (rest:=rest) (ext:=ext) (tch:=tch) R.hS h Q
 have X:(l[k].op=9)=False:=eq_false D.2.2;have N:=fun cs cz xs xz=>pU (T:=T) (m:=m) (s:=stp s) (fa:=fa) (fd:=fd) (fo:=fo) (n:=n) (n':=n') (r:=r) (a:=a) (x:=l[k]) (cs:=cs) (cz:=cz) (xs:=xs) (xz:=xz) R ho D G H I hn U
 have B:=(N [c.F] 5 [l[k].F] 8).choose_spec;generalize (N [c.F] 5 [l[k].F] 8).choose=t1 at B;clear N;generalize doesI m l[k] r (stp s)=y at B|-;unfold i6 Sm Sl Sk Sj Si U0 frI msL E6 Ql;unfold E6 at B;unfold mB at st B|-;simp only[Ins.F,Cod.F,stp]at hi st B|-;cases fa<;>cases fd<;>cases fo<;>cases n<;>cases n'<;>(
  simp only[dA,dR,oA,oR,aR,nB,nE,rC,oG,dd,E6,mB,Nat.reduceAdd,zqd,zqc,zqe,zkg,zke]at B|-;simp only[J,hi,st,B,X,V,XP,seval];exact⟨_,rfl⟩)
theorem EK(R:RunT T)(O:k<l.length)(hl:l.length<=2000000000000)(h:1<=s.steps)(Q:s.steps<=20000)(D:1<=l[k].op/\l[k].op<=11/\l[k].op≠9)(ho:InsOk m l[k] r (stp s))(G:fd=zf->s.data=[])(H:fo=zf->n=zf->s.out=[])(I:s.out.length<=30000)(U:¬(doesI m l[k] r (stp s)).1=0):
 ∃t1,evP ⟨env,T,A1⟩ (.code i6 (U0 fa fd fo n r at0++frI l k) (msL fa fd fo n m s a c r tch))=zs (.pan (D8 2 (doesI m l[k] r (stp s)).1) ⟨E6 fa fd fo n m (stp s) a,nE fa fd fo,t1⟩):=by
 have J:decide ((k:Int)<(l.length:Int))=zt:=by simp[O]
 have hi:=A7 (F:=Ins.F) O;have V:=B5 (i:=k) (by omega);have st:=fun d o rest ext tch=>x6 (T:=T) (m:=m) (s:=s) (d:=d) (o:=o) (rest:=rest) (ext:=ext) (tch:=tch) R.hS h Q
 have X:(l[k].op=9)=False:=eq_false D.2.2;have N:=fun cs cz xs xz=>jQ (T:=T) (m:=m) (s:=stp s) (fa:=fa) (fd:=fd) (fo:=fo) (n:=n) (r:=r) (a:=a) (x:=l[k]) (cs:=cs) (cz:=cz) (xs:=xs) (xz:=xz) R ho D G H I U
 have B:=(N [c.F] 5 [l[k].F] 8).choose_spec;generalize (N [c.F] 5 [l[k].F] 8).choose=t1 at B;clear N;generalize doesI m l[k] r (stp s)=y at B|-;unfold D8 at B|-;unfold i6 Sm Sl Sk Sj Si U0 frI msL E6 Ql;unfold E6 at B;unfold mB at st B|-;simp only[Ins.F,Cod.F,stp]at hi st B|-;cases fa<;>cases fd<;>cases fo<;>cases n<;>(
  simp only[dA,dR,oA,oR,aR,nB,nE,rC,oG,dd,E6,mB,Nat.reduceAdd,zqd,zqc,zqe,zkg,zke]at B|-;simp only[J,hi,st,B,X,V,XP,seval];exact⟨_,rfl⟩)
end
section
variable {m:Modl}{s:Mst}{fd fo:Bool}{r:List Int}{x:Ins}{k:Nat}{n':Bool}
def argsI(x:Ins)(r:List Int):List Int:=x.args.map (at' r)
def x7(f:Bool)(j:Nat)(a:List Int):AV:=match f with|true=>.msl j 0 a.length 1|false=>.nilsl
def pV(fd fo:Bool)(r:List Int)(y:AV):PF:=[(0,.ptr 0 0 0),(2,.msl 1 0 r.length 1),(4,.ptr (nE zt fd fo) 0 0),(6,y)]
def pW(x:Ins)(k:Nat):PF:=[(11,fslN (ints x.args)),(12,.int .i64 (x.args.length:Int)),(13,.int .i64 (k:Int))]
def mF(fd fo f:Bool)(m:Modl)(s:Mst)(r:List Int)(x:Ins)(a:List Int):PK:=⟨E6 zt fd fo zf m s r++(.row 1 [x.F] 8::aR f a),nE zt fd fo,[]⟩
theorem MB(D:0<x.args.length)(I:∀y∈x.args,0<=y/\y<r.length):
 evP ⟨env,T,A1⟩ (.code Lg (pV fd fo r .nilsl++pW x 0) (mF fd fo zf m s r x []))=zs (.ok .normal (pV fd fo r (.msl (nE zt fd fo+1) 0 1 1)++pW x 1) (mF fd fo zt m s r x ((argsI x r).take 1))):=by
 obtain⟨j,H,B⟩:∃j:Nat,x.args[0]=j/\j<r.length:=by have:=I _ (zqg D);exact⟨x.args[0].toNat,by omega,by omega⟩
 have J:ints ((argsI x r).take 1)=[.int .i64 r[j]]:=by
  unfold argsI;cases h:x.args with
  |nil=>rw[h]at D;cases D
  |cons y l=>simp only[h,List.getElem_cons_zero]at H;subst H;simp[ints,B]
 have hi:Vd ty3 (fslN (ints x.args)) (.int .i64 0)=zs (.fptr (.int .i64 x.args[0]) 0):=ix_fslN (i:=0) (A8 D) rfl;have G:decide ((0:Int)<(x.args.length:Int))=zt:=by simp[D]
 unfold Lg lR lQ pV pW mF E6;unfold mB;simp only[Ins.F];cases fd<;>cases fo<;>(
  simp only[dA,dR,oA,oR,aR,nB,nE];simp only[G,hi,H,B,A8 B,J,show((0:Nat):Int)=0 from rfl,show IntKind.i64.wrap (0+1)=((1:Nat):Int)from rfl,XP,Nat.reduceAdd,Nat.reduceSub,Nat.reduceLT,Nat.reduceLeDiff,Nat.reduceEqDiff,Nat.reduceMul,↓reduceIte])
theorem MC(D:k<x.args.length)(h0:0<k)(N:∀y∈x.args,0<=y/\y<r.length)(hl:x.args.length<=100000):
 evP ⟨env,T,A1⟩ (.code Lg (pV fd fo r (.msl (nE zt fd fo+1) 0 k 1)++pW x k) (mF fd fo zt m s r x ((argsI x r).take k)))=zs (.ok .normal (pV fd fo r (.msl (nE zt fd fo+1) 0 (k+1) 1)++pW x (k+1)) (mF fd fo zt m s r x ((argsI x r).take (k+1)))):=by
 obtain⟨j,J,B⟩:∃j:Nat,x.args[k]=j/\j<r.length:=by have:=N _ (zqg D);exact⟨x.args[k].toNat,by omega,by omega⟩
 have G:k<(argsI x r).length:=by unfold argsI;simpa using D
 have hg:(argsI x r)[k]=r[j]:=by simp[argsI,J,B]
 have I:=pJ G;rw[hg]at I;have O:(ints ((argsI x r).take k)).length=k:=by simp;omega
 have Q:=B5 (i:=k) (by omega);have hz:(k+1)*8<=140737488355328:=by omega
 have hi:=A8 D;have H:decide ((k:Int)<(x.args.length:Int))=zt:=by simp[D]
 unfold Lg lR lQ pV pW mF E6;unfold mB;simp only[Ins.F];cases fd<;>cases fo<;>(
  simp only[dA,dR,oA,oR,aR,nB,nE];simp only[H,hi,J,B,A8 B,I,O,Q,hz,XP,seval])
theorem BG{y:AV}{K:PK}:∃fr',evP ⟨env,T,A1⟩ (.code Lg (pV fd fo r y++pW x x.args.length) K)=zs (.ok (.exit 0) fr' K)/\lookP fr' 0=.ptr 0 0 0/\lookP fr' 2=.msl 1 0 r.length 1/\lookP fr' 4=.ptr (nE zt fd fo) 0 0/\lookP fr' 6=y:=by
 unfold Lg lR lQ pV pW;have B:decide ((x.args.length:Int)<(x.args.length:Int))=zf:=by simp
 simp only[B,XP,seval];exact⟨_,rfl,rfl,rfl,rfl,rfl⟩
def neE(l:List Int):Bool:=!l.isEmpty
theorem uC(D:∀y∈x.args,0<=y/\y<r.length)(hl:x.args.length<=100000):∃fr',evP ⟨env,T,A1⟩ (.code (.loop Lg) (pV fd fo r .nilsl++pW x 0) (mF fd fo zf m s r x []))=zs (.ok (.exit 0) fr' (mF fd fo (neE (argsI x r)) m s r x (argsI x r)))/\lookP fr' 0=.ptr 0 0 0/\lookP fr' 2=.msl 1 0 r.length 1/\lookP fr' 4=.ptr (nE zt fd fo) 0 0/\lookP fr' 6=x7 (neE (argsI x r)) (nE zt fd fo+1) (argsI x r):=by
 by_cases h0:x.args.length=0
 . have h1:x.args=[]:=zqy.1 h0
   obtain⟨fr',e,p⟩:=BG (T:=T) (fd:=fd) (fo:=fo) (r:=r) (x:=x) (y:=.nilsl) (K:=mF fd fo zf m s r x []);rw[h0]at e;have h2:argsI x r=[]:=by unfold argsI;rw[h1];rfl
   rw[h2];exact⟨fr',J5 e,p⟩
 . have:=Ve (P:=⟨env,T,A1⟩) (c:=Lg) (fun i=>(pV fd fo r (.msl (nE zt fd fo+1) 0 (i+1) 1)++pW x (i+1),mF fd fo zt m s r x ((argsI x r).take (i+1)))) (x.args.length-1) fun i hi=>MC (by omega) (by omega) D hl
   obtain ⟨fr',e,p⟩:=BG (T:=T) (fd:=fd) (fo:=fo) (r:=r) (x:=x) (y:=.msl (nE zt fd fo+1) 0 x.args.length 1) (K:=mF fd fo zt m s r x (argsI x r));have hn:neE (argsI x r)=zt:=by
    unfold neE argsI;cases h:x.args with
    |nil=>rw[h]at h0;exact absurd rfl h0
    |cons _ _=>rfl
   have B:(argsI x r).length=x.args.length:=by simp[argsI]
   rw[hn];refine⟨fr',?_,?_⟩
   . rw[H9 (MB (by omega) D),this]
     simp only[show x.args.length-1+1=x.args.length by omega];rw[zqk (by omega)];exact J5 e
   . unfold x7;rw[B];exact p
end
inductive Rs where
 |ret (v:Int) (s:Mst)
 |stop (st c:Int) (s:Mst)
def Rs.st:Rs->Mst | .ret _ s=>s | .stop _ _ s=>s
def xW(x:Rs)(K:Mst->PK):PR:=match x with | .ret v s=>.val [.int .i64 v] (K s) | .stop st c s=>.pan (D8 st c) (K s)
def uD(T:Nat->Option (List AV->Option (List AV)))(m:Modl)(C:Int->List Int->Mst->Rs)(B:Int->List Int->Mst->Prop):Prop:=
 ∀ (fa fd fo:Bool) (f:Int) (a:List Int) (s:Mst),B f a s->(fa=zf->a=[])->(fd=zf->s.data=[])->(fo=zf->s.out=[]) ->
   ∃n' t1,(fo=zf->n'=zf->(C f a s).st.out=[])/\evP ⟨env,T,A1⟩ (.body 18 [.ptr 0 0 0,.int .i64 f,x7 fa 1 a] ⟨E6 fa fd fo zf m s a,nE fa fd fo,[]⟩)=zs (xW (C f a s) fun s'=>⟨E6 fa fd fo n' m s' a,nE fa fd fo,t1⟩)
section
variable {m:Modl}{s s':Mst}{fa fd fo n':Bool}{r a:List Int}{x:Ins}{xs:List AV}{xz:Nat}{f v:Int}{t0:List Nat}
def pX(fa fd fo:Bool):List Nat:=0::((match fa with|true=>[nE zt fd fo+1]|false=>[])++((match fd with|true=>[2]|false=>[])++(match fo with|true=>[2+nB fd]|false=>[])))
theorem uE(R:RunT T)(hb:evP ⟨env,T,A1⟩ (.body 18 [.ptr 0 0 0,.int .i64 f,x7 fa 1 a] ⟨E6 fa fd fo zf m s a,nE fa fd fo,[]⟩)=zs (.val [.int .i64 v] ⟨E6 fa fd fo n' m s' a,nE fa fd fo,t0⟩)):
 ∃t1,∀tch,evP ⟨env,T,A1⟩ (.call 18 [.ptr 0 0 0,.int .i64 f,x7 fa (nE zt fd fo+1) a] ⟨E6 zt fd fo zf m s r++(.row 1 xs xz::aR fa a),nE zt fd fo,tch⟩)=zs (.val [.int .i64 v] ⟨rC zt fd fo zf n' m s' r (nE zt fd fo+1+nB fa)++(.row 1 xs xz::(aR fa a++oG n' s'.out)),nE zt fd fo,t1++tch⟩):=by
 refine⟨((t0.filter (· < (pX fa fd fo).length)).map fun j=>(pX fa fd fo).getD j 0),fun tch=>nQ (ids:=pX fa fd fo) (args':=[.ptr 0 0 0,.int .i64 f,x7 fa 1 a]) (Kf:=⟨E6 fa fd fo zf m s a,nE fa fd fo,[]⟩) R.hL rfl ?_ ?_ ?_ hb ?_ ?_⟩<;>cases fa<;>cases fd<;>cases fo<;>cases n'<;>rfl
theorem xX{st c:Int}(R:RunT T)(hb:evP ⟨env,T,A1⟩ (.body 18 [.ptr 0 0 0,.int .i64 f,x7 fa 1 a] ⟨E6 fa fd fo zf m s a,nE fa fd fo,[]⟩)=zs (.pan (D8 st c) ⟨E6 fa fd fo n' m s' a,nE fa fd fo,t0⟩)):
 ∃t1,∀tch,evP ⟨env,T,A1⟩ (.call 18 [.ptr 0 0 0,.int .i64 f,x7 fa (nE zt fd fo+1) a] ⟨E6 zt fd fo zf m s r++(.row 1 xs xz::aR fa a),nE zt fd fo,tch⟩)=zs (.pan (D8 st c) ⟨rC zt fd fo zf n' m s' r (nE zt fd fo+1+nB fa)++(.row 1 xs xz::(aR fa a++oG n' s'.out)),nE zt fd fo,t1++tch⟩):=by
 refine⟨((t0.filter (· < (pX fa fd fo).length)).map fun j=>(pX fa fd fo).getD j 0),fun tch=>aT (ids:=pX fa fd fo) (args':=[.ptr 0 0 0,.int .i64 f,x7 fa 1 a]) (Kf:=⟨E6 fa fd fo zf m s a,nE fa fd fo,[]⟩) R.hL rfl ?_ ?_ ?_ hb ?_ ?_⟩<;>cases fa<;>cases fd<;>cases fo<;>cases n'<;>rfl
theorem MD(R:RunT T)(J:∀y∈x.args,0<=y/\y<r.length)(hl:x.args.length<=100000)(hd:0<=x.dst)(hd2:x.dst<r.length)(hb:evP ⟨env,T,A1⟩ (.body 18 [.ptr 0 0 0,.int .i64 x.n,x7 (neE (argsI x r)) 1 (argsI x r)] ⟨E6 (neE (argsI x r)) fd fo zf m s (argsI x r),nE (neE (argsI x r)) fd fo,[]⟩)=zs (.val [.int .i64 v] ⟨E6 (neE (argsI x r)) fd fo n' m s' (argsI x r),nE (neE (argsI x r)) fd fo,t0⟩)):∃t1,evP ⟨env,T,A1⟩ (.body 32 [.ptr 0 0 0,x.F,.msl 1 0 r.length 1] ⟨E6 zt fd fo zf m s r,nE zt fd fo,[]⟩)=zs (.val [] ⟨E6 zt fd fo n' m s' (put' r x.dst v),nE zt fd fo,t1⟩):=by
 obtain⟨t1,hc⟩:=uE (r:=r) (xs:=[x.F]) (xz:=8) R hb;obtain⟨fr',B,h1,h2,I,H⟩:=uC (T:=T) (m:=m) (s:=s) (fd:=fd) (fo:=fo) J hl;obtain⟨d,D,G⟩:∃d:Nat,x.dst=d/\d<r.length:=⟨x.dst.toNat,by omega,by omega⟩
 have h0:decide ((d:Int)>=0)=zt:=by simp
 generalize neE (argsI x r)=fa at hc B H;generalize argsI x r=a at hc B H;rw[A5 (c:=AH) (nt:=38) (rs:=[]) rfl (by simp)];unfold AH;unfold lX lW lV lU lT lS;unfold pV pW mF E6 at B;unfold E6 at hc|-;unfold mB at hc B|-;simp only[Ins.F]at hc B|-;cases fa<;>cases fd<;>cases fo<;>cases n'<;>(
  simp only[dA,dR,oA,oR,aR,nB,nE,rC,oG,dd,E6,mB,x7,Nat.reduceAdd,zqd,zqc,zqe,put',D,zqz,show((0:Nat):Int)=0 from rfl]at hc B h1 h2 I H|-;simp only[hc,B,h1,h2,I,H,D,h0,A8 G,G,H4,zqa,show((0:Nat):Int)=0 from rfl,XP,Nat.reduceAdd,Nat.reduceSub,Nat.reduceLT,Nat.reduceLeDiff,Nat.reduceEqDiff,Nat.reduceMul,↓reduceIte];exact⟨_,rfl⟩)
theorem ME(R:RunT T)(H:∀y∈x.args,0<=y/\y<r.length)(hl:x.args.length<=100000)(hd:¬0<=x.dst)(hb:evP ⟨env,T,A1⟩ (.body 18 [.ptr 0 0 0,.int .i64 x.n,x7 (neE (argsI x r)) 1 (argsI x r)] ⟨E6 (neE (argsI x r)) fd fo zf m s (argsI x r),nE (neE (argsI x r)) fd fo,[]⟩)=zs (.val [.int .i64 v] ⟨E6 (neE (argsI x r)) fd fo n' m s' (argsI x r),nE (neE (argsI x r)) fd fo,t0⟩)):∃t1,evP ⟨env,T,A1⟩ (.body 32 [.ptr 0 0 0,x.F,.msl 1 0 r.length 1] ⟨E6 zt fd fo zf m s r,nE zt fd fo,[]⟩)=zs (.val [] ⟨E6 zt fd fo n' m s' r,nE zt fd fo,t1⟩):=by
 obtain⟨t1,hc⟩:=uE (r:=r) (xs:=[x.F]) (xz:=8) R hb;obtain⟨fr',B,h1,h2,G,D⟩:=uC (T:=T) (m:=m) (s:=s) (fd:=fd) (fo:=fo) H hl;have h0:decide (x.dst>=0)=zf:=by simp;omega
 generalize neE (argsI x r)=fa at hc B D;generalize argsI x r=a at hc B D;rw[A5 (c:=AH) (nt:=38) (rs:=[]) rfl (by simp)];unfold AH;unfold lX lW lV lU lT lS;unfold pV pW mF E6 at B;unfold E6 at hc|-;unfold mB at hc B|-;simp only[Ins.F]at hc B|-;cases fa<;>cases fd<;>cases fo<;>cases n'<;>(
  simp only[dA,dR,oA,oR,aR,nB,nE,rC,oG,dd,E6,mB,x7,Nat.reduceAdd,zqd,zqc,zqe,show((0:Nat):Int)=0 from rfl]at hc B h1 h2 G D|-;simp only[hc,B,h1,h2,G,D,h0,zqa,show((0:Nat):Int)=0 from rfl,XP,Nat.reduceAdd,Nat.reduceSub,Nat.reduceLT,Nat.reduceLeDiff,Nat.reduceEqDiff,Nat.reduceMul,↓reduceIte];exact⟨_,rfl⟩)
theorem MF(R:RunT T)(H:∀y∈x.args,0<=y/\y<r.length)(hl:x.args.length<=100000){st c:Int}(hb:evP ⟨env,T,A1⟩ (.body 18 [.ptr 0 0 0,.int .i64 x.n,x7 (neE (argsI x r)) 1 (argsI x r)] ⟨E6 (neE (argsI x r)) fd fo zf m s (argsI x r),nE (neE (argsI x r)) fd fo,[]⟩)=zs (.pan (D8 st c) ⟨E6 (neE (argsI x r)) fd fo n' m s' (argsI x r),nE (neE (argsI x r)) fd fo,t0⟩)):∃t1,evP ⟨env,T,A1⟩ (.body 32 [.ptr 0 0 0,x.F,.msl 1 0 r.length 1] ⟨E6 zt fd fo zf m s r,nE zt fd fo,[]⟩)=zs (.pan (D8 st c) ⟨E6 zt fd fo n' m s' r,nE zt fd fo,t1⟩):=by
 obtain ⟨t1,hc⟩:=xX (r:=r) (xs:=[x.F]) (xz:=8) R hb;obtain⟨fr',B,h1,h2,G,D⟩:=uC (T:=T) (m:=m) (s:=s) (fd:=fd) (fo:=fo) H hl;unfold D8 at hc|-;generalize neE (argsI x r)=fa at hc B D;generalize argsI x r=a at hc B D;rw[A5 (c:=AH) (nt:=38) (rs:=[]) rfl (by simp)];unfold AH;unfold lX lW lV lU lT lS;unfold pV pW mF E6 at B;unfold E6 at hc|-;unfold mB at hc B|-;simp only[Ins.F]at hc B|-;cases fa<;>cases fd<;>cases fo<;>cases n'<;>(
  simp only[dA,dR,oA,oR,aR,nB,nE,rC,oG,dd,E6,mB,x7,Nat.reduceAdd,zqd,zqc,zqe,show((0:Nat):Int)=0 from rfl]at hc B h1 h2 G D|-;simp only[hc,B,h1,h2,G,D,zqa,show((0:Nat):Int)=0 from rfl,XP,Nat.reduceAdd,Nat.reduceSub,Nat.reduceLT,Nat.reduceLeDiff,Nat.reduceEqDiff,Nat.reduceMul,↓reduceIte];exact⟨_,rfl⟩)
end
section
variable {m:Modl}{s s2:Mst}{fa fd fo n n':Bool}{r r2 a:List Int}{c:Cod}{l:List Ins}{k:Nat}{at0:Int}{tch t0:List Nat}{x:Ins}{cs xs:List AV}{cz xz:Nat}
theorem EL(R:RunT T)(hb:evP ⟨env,T,A1⟩ (.body 32 [.ptr 0 0 0,x.F,.msl 1 0 r.length 1] ⟨E6 zt fd (fo||n) zf m s r,nE zt fd (fo||n),[]⟩)=zs (.val [] ⟨E6 zt fd (fo||n) n' m s2 r2,nE zt fd (fo||n),t0⟩)):
 ∃t1,∀tch,evP ⟨env,T,A1⟩ (.call 32 [.ptr 0 0 0,x.F,.msl (nE fa fd fo+nB n+1) 0 r.length 1] ⟨E6 fa fd fo n m s a++[.row 1 cs cz,.row 0 (ints r) 1,.row 1 xs xz],nE fa fd fo,tch⟩)=zs (.val [] ⟨rC fa fd fo n n' m s2 a (nE fa fd fo+nB n+3)++(.row 1 cs cz::.row 0 (ints r2) 1::.row 1 xs xz::oG n' s2.out),nE fa fd fo,t1++tch⟩):=by
 refine⟨((t0.filter (· < (Ps fa fd fo n (nE fa fd fo+nB n+1)).length)).map fun j=>(Ps fa fd fo n (nE fa fd fo+nB n+1)).getD j 0),fun tch=>nQ (ids:=Ps fa fd fo n (nE fa fd fo+nB n+1)) (args':=[.ptr 0 0 0,x.F,.msl 1 0 r.length 1]) (Kf:=⟨E6 zt fd (fo||n) zf m s r,nE zt fd (fo||n),[]⟩) R.hC rfl ?_ ?_ ?_ hb ?_ ?_⟩<;>cases fa<;>cases fd<;>cases fo<;>cases n<;>cases n'<;>rfl
theorem xY{st e:Int}(R:RunT T)(hb:evP ⟨env,T,A1⟩ (.body 32 [.ptr 0 0 0,x.F,.msl 1 0 r.length 1] ⟨E6 zt fd (fo||n) zf m s r,nE zt fd (fo||n),[]⟩)=zs (.pan (D8 st e) ⟨E6 zt fd (fo||n) n' m s2 r,nE zt fd (fo||n),t0⟩)):
 ∃t1,∀tch,evP ⟨env,T,A1⟩ (.call 32 [.ptr 0 0 0,x.F,.msl (nE fa fd fo+nB n+1) 0 r.length 1] ⟨E6 fa fd fo n m s a++[.row 1 cs cz,.row 0 (ints r) 1,.row 1 xs xz],nE fa fd fo,tch⟩)=zs (.pan (D8 st e) ⟨rC fa fd fo n n' m s2 a (nE fa fd fo+nB n+3)++(.row 1 cs cz::.row 0 (ints r) 1::.row 1 xs xz::oG n' s2.out),nE fa fd fo,t1++tch⟩):=by
 refine⟨((t0.filter (· < (Ps fa fd fo n (nE fa fd fo+nB n+1)).length)).map fun j=>(Ps fa fd fo n (nE fa fd fo+nB n+1)).getD j 0),fun tch=>aT (ids:=Ps fa fd fo n (nE fa fd fo+nB n+1)) (args':=[.ptr 0 0 0,x.F,.msl 1 0 r.length 1]) (Kf:=⟨E6 zt fd (fo||n) zf m s r,nE zt fd (fo||n),[]⟩) R.hC rfl ?_ ?_ ?_ hb ?_ ?_⟩<;>cases fa<;>cases fd<;>cases fo<;>cases n<;>cases n'<;>rfl
theorem xZ(R:RunT T)(H:k<l.length)(hl:l.length<=2000000000000)(h:1<=s.steps)(I:s.steps<=20000)(D:l[k].op=9)(hb:evP ⟨env,T,A1⟩ (.body 32 [.ptr 0 0 0,l[k].F,.msl 1 0 r.length 1] ⟨E6 zt fd (fo||n) zf m (stp s) r,nE zt fd (fo||n),[]⟩)=zs (.val [] ⟨E6 zt fd (fo||n) n' m s2 r2,nE zt fd (fo||n),t0⟩)):
 ∃t1,evP ⟨env,T,A1⟩ (.code i6 (U0 fa fd fo n r at0++frI l k) (msL fa fd fo n m s a c r tch))=zs (.ok .normal (U0 fa fd fo (n||n') r at0++frI l (k+1)) (msL fa fd fo (n||n') m s2 a c r2 t1)):=by
 have G:decide ((k:Int)<(l.length:Int))=zt:=by simp[H]
 have hi:=A7 (F:=Ins.F) H;have J:=B5 (i:=k) (by omega);have st:=fun d o rest ext tch=>x6 (T:=T) (m:=m) (s:=s) (d:=d) (o:=o) (rest:=rest) (ext:=ext) (tch:=tch) R.hS h I
 have N:(l[k].op=9)=True:=eq_true D;obtain⟨t1,B⟩:=EL (fa:=fa) (a:=a) (cs:=[c.F]) (cz:=5) (xs:=[l[k].F]) (xz:=8) R hb;clear hb;unfold i6 Sm Sl Sk Sj Si U0 frI msL E6 Ql;unfold E6 at B;unfold mB at st B|-;simp only[Ins.F,Cod.F,stp]at hi st B|-;cases fa<;>cases fd<;>cases fo<;>cases n<;>cases n'<;>(
  simp only[dA,dR,oA,oR,aR,nB,nE,rC,oG,dd,E6,mB,Nat.reduceAdd,zqd,zqc,zqe,zkg,zke]at B|-;simp only[G,hi,st,B,N,J,XP,seval];exact⟨_,rfl⟩)
theorem uF{z e:Int}(R:RunT T)(H:k<l.length)(hl:l.length<=2000000000000)(h:1<=s.steps)(I:s.steps<=20000)(D:l[k].op=9)(hb:evP ⟨env,T,A1⟩ (.body 32 [.ptr 0 0 0,l[k].F,.msl 1 0 r.length 1] ⟨E6 zt fd (fo||n) zf m (stp s) r,nE zt fd (fo||n),[]⟩)=zs (.pan (D8 z e) ⟨E6 zt fd (fo||n) n' m s2 r,nE zt fd (fo||n),t0⟩)):
 ∃t1,evP ⟨env,T,A1⟩ (.code i6 (U0 fa fd fo n r at0++frI l k) (msL fa fd fo n m s a c r tch))=zs (.pan (D8 z e) ⟨E6 fa fd fo (n||n') m s2 a,nE fa fd fo,t1⟩):=by
 have G:decide ((k:Int)<(l.length:Int))=zt:=by simp[H]
 have hi:=A7 (F:=Ins.F) H;have st:=fun d o rest ext tch=>x6 (T:=T) (m:=m) (s:=s) (d:=d) (o:=o) (rest:=rest) (ext:=ext) (tch:=tch) R.hS h I
 have J:(l[k].op=9)=True:=eq_true D;obtain⟨t1,B⟩:=xY (fa:=fa) (a:=a) (cs:=[c.F]) (cz:=5) (xs:=[l[k].F]) (xz:=8) R hb;clear hb;unfold D8 at B|-;unfold i6 Sm Sl Sk Sj Si U0 frI msL E6 Ql;unfold E6 at B;unfold mB at st B|-;simp only[Ins.F,Cod.F,stp]at hi st B|-;cases fa<;>cases fd<;>cases fo<;>cases n<;>cases n'<;>(
  simp only[dA,dR,oA,oR,aR,nB,nE,rC,oG,dd,E6,mB,Nat.reduceAdd,zqd,zqc,zqe,zkg,zke]at B|-;simp only[G,hi,st,B,J,XP,seval];exact⟨_,rfl⟩)
theorem ZT:evP ⟨env,T,A1⟩ (.code i6 (U0 fa fd fo n r at0++frI l l.length) (msL fa fd fo n m s a c r2 tch))=zs (.ok (.exit 2) ((49,.bool zf)::(U0 fa fd fo n r at0++frI l l.length)) (msL fa fd fo n m s a c r2 tch)):=by
 have B:decide ((l.length:Int)<(l.length:Int))=zf:=by simp
 unfold i6 Sm Sl Sk Sj Si U0 frI;simp only[B,XP,seval]
end
section
variable {m:Modl}{s:Mst}{fa fd fo n:Bool}{r a:List Int}{c:Cod}{i:Nat}{tch:List Nat}
theorem MG(R:RunT T)(hi:i<c.blocks.length)(h:¬1<=s.steps):∃t1,evP ⟨env,T,A1⟩ (.code Q9 (U0 fa fd fo n r (i:Int)) (msL fa fd fo n m s a c r tch))=zs (.pan (D8 3 0) ⟨E6 fa fd fo n m s a++[Ql c,.row 0 (ints r) 1],nE fa fd fo,t1⟩):=by
 have st:=fun d o rest ext tch=>mE (T:=T) (m:=m) (s:=s) (d:=d) (o:=o) (rest:=rest) (ext:=ext) (tch:=tch) R.hS h
 unfold Q9 Ji Jh Jg Sp So Sn U0 msL E6 Ql;unfold mB at st|-;simp only[Cod.F,D8]at st|-;cases fa<;>cases fd<;>cases fo<;>cases n<;>(
  simp only[dA,dR,oA,oR,aR,nB,nE];simp only[st,XP,seval];exact⟨_,rfl⟩)
theorem MH(R:RunT T)(hi:i<c.blocks.length)(h:1<=s.steps)(B:s.steps<=20000)(D:c.blocks[i].e.kind=3)(ha:c.blocks[i].e.a<0)(h1:0<=s.calls)(h2:s.calls<=40):∃t1,evP ⟨env,T,A1⟩ (.code Q9 (U0 fa fd fo n r (i:Int)) (msL fa fd fo n m s a c r tch))=zs (.ok .ret [(6,.int .i64 0)] ⟨E6 fa fd fo n m {stp s with calls:=s.calls-1} a,nE fa fd fo,t1⟩):=by
 have st:=fun d o rest ext tch=>x6 (T:=T) (m:=m) (s:=s) (d:=d) (o:=o) (rest:=rest) (ext:=ext) (tch:=tch) R.hS h B
 have hb:=A7 (F:=Blk.F) hi;have hc:=Ea (n:=s.calls-1) (by omega) (by omega);unfold Q9 Ji Jh Jg Sp So Sn U0 msL E6 Ql;unfold mB at st|-;simp only[Cod.F,Blk.F,stp]at hb st|-;cases fa<;>cases fd<;>cases fo<;>cases n<;>(
  simp only[dA,dR,oA,oR,aR,nB,nE,E6,mB,Nat.reduceAdd,zqd,zqc,zqe];simp only[st,hb,hc,eq_true D,eq_true ha,XP,seval];exact⟨_,rfl⟩)
theorem MI(R:RunT T)(hi:i<c.blocks.length)(h:1<=s.steps)(H:s.steps<=20000)(I:c.blocks[i].e.kind=3)(ha:0<=c.blocks[i].e.a/\c.blocks[i].e.a<r.length)(h1:0<=s.calls)(h2:s.calls<=40):∃t1,evP ⟨env,T,A1⟩ (.code Q9 (U0 fa fd fo n r (i:Int)) (msL fa fd fo n m s a c r tch))=zs (.ok .ret [(6,.int .i64 (at' r c.blocks[i].e.a))] ⟨E6 fa fd fo n m {stp s with calls:=s.calls-1} a,nE fa fd fo,t1⟩):=by
 have st:=fun d o rest ext tch=>x6 (T:=T) (m:=m) (s:=s) (d:=d) (o:=o) (rest:=rest) (ext:=ext) (tch:=tch) R.hS h H
 have hb:=A7 (F:=Blk.F) hi;have hc:=Ea (n:=s.calls-1) (by omega) (by omega);obtain⟨d,G,B⟩:∃d:Nat,c.blocks[i].e.a=d/\d<r.length:=⟨c.blocks[i].e.a.toNat,by omega,by omega⟩
 have D:((d:Int)<0)=False:=eq_false (by omega);simp only[at',G,zqz,gD B];unfold Q9 Ji Jh Jg Sp So Sn U0 msL E6 Ql;unfold mB at st|-;simp only[Cod.F,Blk.F,stp]at hb st|-;cases fa<;>cases fd<;>cases fo<;>cases n<;>(
  simp only[dA,dR,oA,oR,aR,nB,nE,E6,mB,Nat.reduceAdd,zqd,zqc,zqe];simp only[st,hb,hc,eq_true I,G,D,A8 B,B,XP,seval];exact⟨_,rfl⟩)
theorem MJ(R:RunT T)(hi:i<c.blocks.length)(h:1<=s.steps)(H:s.steps<=20000)(I:c.blocks[i].e.kind=2)(ha:0<=c.blocks[i].e.a/\c.blocks[i].e.a<r.length)(D:at' r c.blocks[i].e.a=0):∃t1,evP ⟨env,T,A1⟩ (.code Q9 (U0 fa fd fo n r (i:Int)) (msL fa fd fo n m s a c r tch))=zs (.ok .normal (U0 fa fd fo n r c.blocks[i].e.els) (msL fa fd fo n m (stp s) a c r t1)):=by
 have st:=fun d o rest ext tch=>x6 (T:=T) (m:=m) (s:=s) (d:=d) (o:=o) (rest:=rest) (ext:=ext) (tch:=tch) R.hS h H
 have hb:=A7 (F:=Blk.F) hi;obtain⟨d,G,B⟩:∃d:Nat,c.blocks[i].e.a=d/\d<r.length:=⟨c.blocks[i].e.a.toNat,by omega,by omega⟩
 simp only[at',G,zqz,gD B]at D;unfold Q9 Ji Jh Jg Sp So Sn U0 msL E6 Ql;unfold mB at st|-;simp only[Cod.F,Blk.F,stp]at hb st|-;cases fa<;>cases fd<;>cases fo<;>cases n<;>(
  simp only[dA,dR,oA,oR,aR,nB,nE,E6,mB,Nat.reduceAdd,zqd,zqc,zqe];simp only[st,hb,eq_true I,(show ¬c.blocks[i].e.kind=3 by omega),G,A8 B,B,D,XP,seval];exact⟨_,rfl⟩)
theorem MK(R:RunT T)(hi:i<c.blocks.length)(h:1<=s.steps)(H:s.steps<=20000)(I:c.blocks[i].e.kind=2)(ha:0<=c.blocks[i].e.a/\c.blocks[i].e.a<r.length)(D:¬at' r c.blocks[i].e.a=0):∃t1,evP ⟨env,T,A1⟩ (.code Q9 (U0 fa fd fo n r (i:Int)) (msL fa fd fo n m s a c r tch))=zs (.ok .normal (U0 fa fd fo n r c.blocks[i].e.to) (msL fa fd fo n m (stp s) a c r t1)):=by
 have st:=fun d o rest ext tch=>x6 (T:=T) (m:=m) (s:=s) (d:=d) (o:=o) (rest:=rest) (ext:=ext) (tch:=tch) R.hS h H
 have hb:=A7 (F:=Blk.F) hi;obtain⟨d,G,B⟩:∃d:Nat,c.blocks[i].e.a=d/\d<r.length:=⟨c.blocks[i].e.a.toNat,by omega,by omega⟩
 simp only[at',G,zqz,gD B]at D;unfold Q9 Ji Jh Jg Sp So Sn U0 msL E6 Ql;unfold mB at st|-;simp only[Cod.F,Blk.F,stp]at hb st|-;cases fa<;>cases fd<;>cases fo<;>cases n<;>(
  simp only[dA,dR,oA,oR,aR,nB,nE,E6,mB,Nat.reduceAdd,zqd,zqc,zqe];simp only[st,hb,eq_true I,(show ¬c.blocks[i].e.kind=3 by omega),G,A8 B,B,D,XP,seval];exact⟨_,rfl⟩)
theorem ML(R:RunT T)(hi:i<c.blocks.length)(h:1<=s.steps)(B:s.steps<=20000)(hk:c.blocks[i].e.kind=1):∃t1,evP ⟨env,T,A1⟩ (.code Q9 (U0 fa fd fo n r (i:Int)) (msL fa fd fo n m s a c r tch))=zs (.ok .normal (U0 fa fd fo n r c.blocks[i].e.to) (msL fa fd fo n m (stp s) a c r t1)):=by
 have st:=fun d o rest ext tch=>x6 (T:=T) (m:=m) (s:=s) (d:=d) (o:=o) (rest:=rest) (ext:=ext) (tch:=tch) R.hS h B
 have hb:=A7 (F:=Blk.F) hi;unfold Q9 Ji Jh Jg Sp So Sn U0 msL E6 Ql;unfold mB at st|-;simp only[Cod.F,Blk.F,stp]at hb st|-;cases fa<;>cases fd<;>cases fo<;>cases n<;>(
  simp only[dA,dR,oA,oR,aR,nB,nE,E6,mB,Nat.reduceAdd,zqd,zqc,zqe];simp only[st,hb,(show ¬c.blocks[i].e.kind=3 by omega),(show ¬c.blocks[i].e.kind=2 by omega),XP,seval];exact⟨_,rfl⟩)
end
inductive I2 where
 |go (r:List Int) (s:Mst)
 |stop (st c:Int) (s:Mst)
def insF(m:Modl)(C:Int->List Int->Mst->Rs):List Ins->List Int->Mst->I2
 |[],r,s=>.go r s
 | x :: l,r,s=>if s.steps<1 then .stop 3 0 s else if x.op=9 then(match C x.n (argsI x r) (stp s)with
     |.ret v s2=>insF m C l (if 0<=x.dst then put' r x.dst v else r) s2
     |.stop st c s2=>.stop st c s2)
  else if(doesI m x r (stp s)).1=0 then insF m C l (doesI m x r (stp s)).2.2 (doesI m x r (stp s)).2.1 else .stop 2 (doesI m x r (stp s)).1 (stp s)
def blkAt(c:Cod)(i:Int):Blk:=c.blocks.getD i.toNat ⟨[],⟨0,0,0,0⟩⟩
def U1(m:Modl)(C:Int->List Int->Mst->Rs)(c:Cod):Nat->Int->List Int->Mst->Rs
 |0,_,_,s=>.stop 3 0 s
 | n+1,i,r,s=>match insF m C (blkAt c i).code r s with
  |.stop st e s=>.stop st e s
  | .go r s=>if s.steps<1 then .stop 3 0 s
   else if(blkAt c i).e.kind=3 then .ret (if(blkAt c i).e.a<0 then 0 else at' r (blkAt c i).e.a) {stp s with calls:=s.calls-1}
   else U1 m C c n (if(blkAt c i).e.kind=2/\at' r (blkAt c i).e.a=0 then(blkAt c i).e.els else(blkAt c i).e.to) r (stp s)
def To(m:Modl)(f:Int):Cod:=m.fs.getD f.toNat ⟨[],0,0,[],[]⟩
def initR(n:Nat)(a:List Int):List Int:=a.take n++zqh (n-a.length) 0
def V1(m:Modl):Nat->Int->List Int->Mst->Rs
 |0,_,_,s=>.stop 2 4 s
 | d+1,f,a,s=>if 32<=s.calls then .stop 2 4 s
  else U1 m (V1 m d) (To m f) (s.steps.toNat+1) 0 (initR (To m f).regs.length a) {s with calls:=s.calls+1}
def s5(m:Modl)(d:List (List Int)):Prop:=d.length=m.gs.length/\∀(i:Nat) l g,d[i]?=zs l->m.gs[i]?=zs g->(l.length:Int)=max g.size 1
structure Sok(m:Modl)(s:Mst):Prop where
 d:s5 m s.data
 st:s.steps<=20000
 ou:s.out.length+s.steps.toNat<=30000
 ca:0<=s.calls/\s.calls<=33
structure InsR(m:Modl)(nr:Nat)(x:Ins):Prop where
 op:1<=x.op/\x.op<=11
 dst:x.op=1\/x.op=2\/x.op=3\/x.op=4\/x.op=5\/x.op=7\/x.op=10->0<=x.dst/\x.dst<nr
 a:x.op=2\/x.op=3\/x.op=4\/x.op=5\/x.op=6\/x.op=8\/x.op=11->0<=x.a/\x.a<nr
 b:x.op=3\/x.op=6->0<=x.b/\x.b<nr
 n:x.op=5\/x.op=6\/x.op=7\/x.op=8->0<=x.n/\x.n<m.gs.length
 c:x.op=9->(0<=x.n/\x.n<m.fs.length)/\(∀y∈x.args,0<=y/\y<nr)/\x.args.length<=100000/\x.dst<nr
structure EndR(nb nr:Nat)(e:Endd):Prop where
 k:1<=e.kind/\e.kind<=3
 a3:e.kind=3->e.a<nr
 a2:e.kind=2->0<=e.a/\e.a<nr
 to:e.kind≠3->0<=e.to/\e.to<nb
 els:e.kind=2->0<=e.els/\e.els<nb
structure CodR(m:Modl)(c:Cod):Prop where
 nb:1<=c.blocks.length
 b:∀b∈c.blocks,b.code.length<=2000000000000/\(∀x∈b.code,InsR m c.regs.length x)/\EndR c.blocks.length c.regs.length b.e
 nr:c.regs.length<=100000
structure ModR'(m:Modl):Prop where
 f:∀c∈m.fs,CodR m c
theorem Sok.stp{m:Modl}{s:Mst}(h:Sok m s)(h1:1<=s.steps):Sok m (stp s)/\(stp s).out.length+(stp s).steps.toNat+1<=30000:=by
 have:=h.ou;have:=h.st
 refine⟨⟨h.d,?_,?_,h.ca⟩,?_⟩<;>simp only[AmEnv.stp]<;>omega
theorem InsR.ok{m:Modl}{s:Mst}{x:Ins}{r:List Int}(h:InsR m r.length x)(B:s5 m s.data):InsOk m x r s:=⟨h.dst,h.a,h.b,h.n,B⟩
theorem put_len(l:List Int)(i v:Int):(put' l i v).length=l.length:=by simp[put']
theorem s5.set{m:Modl}{d:List (List Int)}(h:s5 m d)(i:Nat)(j v:Int):s5 m (d.set i (put' (d.getD i []) j v)):=by
 refine⟨by simp[h.1],fun k l g B hg=>?_⟩;rw[List.getElem?_set]at B;split at B
 . rename_i e;subst e
   split at B
   . rename_i hl
     cases B;rw[put_len];exact h.2 i _ g (by simp[hl]) hg
   . cases B
 . exact h.2 k l g B hg
theorem pY{m:Modl}{s:Mst}{x:Ins}{r:List Int}(B:s5 m s.data):s5 m (doesI m x r s).2.1.data/\(doesI m x r s).2.1.steps=s.steps/\(doesI m x r s).2.1.calls=s.calls/\(doesI m x r s).2.1.out.length<=s.out.length+1/\(doesI m x r s).2.2.length=r.length/\(x.op≠11->(doesI m x r s).2.1.out=s.out):=by
 unfold doesI
 repeat' split
 all_goals first
  |exact⟨B,rfl,rfl,Nat.le_succ _,by first|rfl|exact put_len _ _ _,fun _=>rfl⟩
  |exact⟨B.set _ _ _,rfl,rfl,Nat.le_succ _,rfl,fun _=>rfl⟩
  |exact⟨B,rfl,rfl,by simp,rfl,fun h=>absurd (by assumption) h⟩
def pZ(m:Modl)(cl:Int)(f:Int)(a:List Int)(s:Mst):Prop:=(0<=f/\f<m.fs.length)/\Sok m s/\s.calls=cl
def uG(m:Modl)(cl:Int)(C:Int->List Int->Mst->Rs):Prop:=∀f a s,pZ m cl f a s->Sok m (C f a s).st/\(C f a s).st.steps<=s.steps/\∀v s',C f a s=.ret v s'->s'.calls=s.calls
theorem Gk{P:PE}{c:PC}{fr:PF}{K K':PK}{v:AV}(h:evP P (.code c fr K)=zs (.pan v K')):evP P (.code (.loop c) fr K)=zs (.pan v K'):=by rw[bX,h];rfl
theorem mG{fa fd fo n:Bool}{r r2:List Int}{at0:Int}(h:r2.length=r.length):U0 fa fd fo n r2 at0=U0 fa fd fo n r at0:=by unfold U0;rw[h]
theorem s5.nil{m:Modl}{s:Mst}(h:s5 m s.data)(hg:m.gs=[]):s.data=[]:=zqy.1 (by rw[h.1,hg];rfl)
def I2.st:I2->Mst | .go _ s=>s | .stop _ _ s=>s
section
variable {m:Modl}{C:Int->List Int->Mst->Rs}{fa fd fo:Bool}{a:List Int}{c:Cod}{l:List Ins}{at0 cl:Int}{nr:Nat}
def inP(fa fd fo:Bool)(m:Modl)(a:List Int)(c:Cod)(l:List Ins)(at0:Int)(y:I2)(n2:Bool)(t1:List Nat):PR:=match y with
 |.go r2 s2=>.ok (.exit 2) ((49,.bool zf)::(U0 fa fd fo n2 r2 at0++frI l l.length)) (msL fa fd fo n2 m s2 a c r2 t1)
 | .stop st e s2=>.pan (D8 st e) ⟨E6 fa fd fo n2 m s2 a,nE fa fd fo,t1⟩
structure InE(m:Modl)(nr:Nat)(s:Mst)(y:I2):Prop where
 ok:Sok m y.st
 st:y.st.steps<=s.steps
 go:∀r2 s2,y=.go r2 s2->r2.length=nr/\s2.calls=s.calls
theorem InE.of{s B:Mst}{y:I2}(h:InE m nr B y)(h1:B.steps<=s.steps)(h2:B.calls=s.calls):InE m nr s y:=⟨h.ok,zkb h.st h1,fun r2 s2 e=>⟨(h.go r2 s2 e).1,(h.go r2 s2 e).2.trans h2⟩⟩
theorem EM(R:RunT T)(hc:uD T m C (pZ m cl))(hp:uG m cl C)(hl:l.length<=2000000000000)(hx:∀x∈l,InsR m nr x)(D:fd=zf->m.gs=[]):
 ∀ (j k:Nat) (n:Bool) (r:List Int) (s:Mst) (tch:List Nat),l.length=k+j->r.length=nr->Sok m s->s.calls=cl->(fo=zf->n=zf->s.out=[]) ->
   InE m nr s (insF m C (l.drop k) r s)/\∃n2 t1,evP ⟨env,T,A1⟩ (.code (.loop i6) (U0 fa fd fo n r at0++frI l k) (msL fa fd fo n m s a c r tch))=zs (inP fa fd fo m a c l at0 (insF m C (l.drop k) r s) n2 t1)/\(fo=zf->n2=zf->(insF m C (l.drop k) r s).st.out=[])
 |0,k,n,r,s,tch,e,hr,hs,hcl,ho=>by
  obtain rfl:k=l.length:=by omega
  rw[zqi];exact⟨⟨hs,Int.le_refl _,fun _ _ e=>by cases e;exact⟨hr,rfl⟩⟩,n,tch,J5 ZT,ho⟩
 |j + 1,k,n,r,s,tch,e,hr,hs,hcl,ho=>by
  have J:k<l.length:=by omega
  have G:InsR m r.length l[k]:=hr▸hx _ (zqg J);rw[zqj J,insF];by_cases h1:s.steps<1
  . rw[if_pos h1]
    obtain⟨t1,h⟩:=LZ (T:=T) (m:=m) (s:=s) (fa:=fa) (fd:=fd) (fo:=fo) (n:=n) (r:=r) (a:=a) (c:=c) (at0:=at0) (tch:=tch) R J hl (by omega);exact⟨⟨hs,Int.le_refl _,fun _ _ e=>by cases e⟩,n,t1,Gk h,ho⟩
  . rw [if_neg h1]
    have B:=hs.stp (by omega);have H:(stp s).steps<=s.steps:=by simp only[stp];omega
    have ad:(fo||n)=zf->(stp s).out=[]:=fun e=>by
     rw[zkh]at e;exact ho e.1 e.2
    by_cases Q:l[k].op=9
    . rw [if_pos Q]
      obtain⟨hn,hy,N,ac⟩:=G.c Q;have V:pZ m cl l[k].n (argsI l[k] r) (stp s):=⟨hn,B.1,hcl⟩
      obtain ⟨p1,p2,p3⟩:=hp _ _ _ V;obtain⟨n',t0,q1,q2⟩:=hc (neE (argsI l[k] r)) fd (fo||n) l[k].n (argsI l[k] r) (stp s) V (fun e=>by
       revert e;cases argsI l[k] r with|nil=>intro _;rfl|cons _ _=>intro e;cases e) (fun e=>B.1.d.nil (D e)) ad
      have hq:fo=zf->(n||n')=zf->(C l[k].n (argsI l[k] r) (stp s)).st.out=[]:=fun e1 e2=>by
       rw[zkh]at e2;exact q1 (by rw[e1,e2.1];rfl) e2.2
      cases hC:C l[k].n (argsI l[k] r) (stp s)with
      |stop z e s2=>
       rw[hC]at p1 p2 q1 q2 hq;obtain⟨t2,b⟩:=MF R hy N q2;obtain⟨O,b⟩:=uF (fa:=fa) (a:=a) (c:=c) (at0:=at0) (tch:=tch) R J hl (by omega) hs.st Q b;exact⟨⟨p1,zkb p2 H,fun _ _ e=>by cases e⟩,n||n',O,Gk b,hq⟩
      |ret v s2=>
       rw [hC]at p1 p2 q1 q2 hq;have p3:=p3 v s2 hC;have X:∀(r2:List Int),r2.length=r.length->(∃t1,evP ⟨env,T,A1⟩ (.body 32 [.ptr 0 0 0,l[k].F,.msl 1 0 r.length 1] ⟨E6 zt fd (fo||n) zf m (stp s) r,nE zt fd (fo||n),[]⟩)=zs (.val [] ⟨E6 zt fd (fo||n) n' m s2 r2,nE zt fd (fo||n),t1⟩)) ->
        InE m nr s (insF m C (l.drop (k+1)) r2 s2)/\∃n2 t1,evP ⟨env,T,A1⟩ (.code (.loop i6) (U0 fa fd fo n r at0++frI l k) (msL fa fd fo n m s a c r tch))=zs (inP fa fd fo m a c l at0 (insF m C (l.drop (k+1)) r2 s2) n2 t1)/\(fo=zf->n2=zf->(insF m C (l.drop (k+1)) r2 s2).st.out=[]):=by
        intro r2 U ⟨t1,b⟩;obtain⟨O,b⟩:=xZ (fa:=fa) (a:=a) (c:=c) (at0:=at0) (tch:=tch) R J hl (by omega) hs.st Q b;obtain⟨g1,n2,t4,g2,g3⟩:=EM R hc hp hl hx D j (k+1) (n||n') r2 s2 O (by omega) (U.trans hr) p1 (p3.trans hcl) hq;refine⟨g1.of (zkb p2 H) p3,n2,t4,?_,g3⟩;rw[H9 b,<-mG U];exact g2
       by_cases I:0<=l[k].dst
       . simp only[if_pos I]
         exact X _ (put_len _ _ _) (MD R hy N I ac q2)
       . simp only[if_neg I]
         exact X _ rfl (ME R hy N I q2)
    . rw [if_neg Q]
      have Y:1<=l[k].op/\l[k].op<=11/\l[k].op≠9:=⟨G.op.1,G.op.2,Q⟩
      have aa:=G.ok B.1.d;obtain⟨k1,k2,k3,k4,k5,k6⟩:=pY (x:=l[k]) (r:=r) B.1.d;have ab:s.out.length<=30000:=by have:=hs.ou;omega
      by_cases hv:(doesI m l[k] r (stp s)).1=0
      . rw [if_pos hv]
        obtain⟨O,b⟩:=MA (T:=T) (fa:=fa) (fd:=fd) (fo:=fo) (n:=n) (n':=decide (l[k].op=11)) (a:=a) (c:=c) (at0:=at0) (tch:=tch) R J hl (by omega) hs.st Y aa (fun e=>B.1.d.nil (D e)) ho ab rfl hv;have ae:Sok m (doesI m l[k] r (stp s)).2.1:=⟨k1,by rw[k2];exact B.1.st,by rw[k2];have:=B.2;omega,by rw[k3];exact B.1.ca⟩
        obtain ⟨g1,n2,t4,g2,g3⟩:=EM R hc hp hl hx D j (k+1) (n||decide (l[k].op=11)) _ _ O (by omega) (k5.trans hr) ae (k3.trans hcl) (fun e1 e2=>by
         rw[zkh]at e2;rw[k6 (of_decide_eq_false e2.2)];exact ho e1 e2.1)
        refine⟨g1.of (by rw[k2];exact H) k3,n2,t4,?_,g3⟩;rw[H9 b,<-mG k5];exact g2
      . rw[if_neg hv]
        obtain⟨O,b⟩:=EK (T:=T) (fa:=fa) (fd:=fd) (fo:=fo) (n:=n) (a:=a) (c:=c) (at0:=at0) (tch:=tch) R J hl (by omega) hs.st Y aa (fun e=>B.1.d.nil (D e)) ho ab hv;exact⟨⟨B.1,H,fun _ _ e=>by cases e⟩,n,O,Gk b,fun e1 e2=>ho e1 e2⟩
end
def HL(e:Nat)(l:List Nat):List Nat:=l.filter fun x=>decide (x<e)
theorem aU(e:Nat)(l:List Nat):l.filter (fun x=>decide (x<e))=HL e l:=rfl
section
variable {m:Modl}{s s2 s3:Mst}{fa fd fo n n2:Bool}{r r2 a:List Int}{c:Cod}{i:Nat}{tch t1:List Nat}{F:List Nat->List Nat}{j:Int}
theorem ZU(hi:i<c.blocks.length)(B:evP ⟨env,T,A1⟩ (.code (.loop i6) (U0 fa fd fo n r (i:Int)++frI c.blocks[i].code 0) (msL fa fd fo n m s a c r (HL (nE fa fd fo) tch)))=zs (.ok (.exit 2) ((49,.bool zf)::(U0 fa fd fo n2 r2 (i:Int)++frI c.blocks[i].code c.blocks[i].code.length)) (msL fa fd fo n2 m s2 a c r2 t1)))(D:∀t,evP ⟨env,T,A1⟩ (.code Q9 (U0 fa fd fo n2 r2 (i:Int)) (msL fa fd fo n2 m s2 a c r2 t))=zs (.ok .normal (U0 fa fd fo n2 r2 j) (msL fa fd fo n2 m s3 a c r2 (F t)))):∃t',evP ⟨env,T,A1⟩ (.code Ad (U0 fa fd fo n r (i:Int)) (msL fa fd fo n m s a c r tch))=zs (.ok .normal (U0 fa fd fo n2 r2 j) (msL fa fd fo n2 m s3 a c r2 t')):=by
 have hb:=A7 (F:=Blk.F) hi;unfold Ad eB;unfold U0 frI msL E6 Ql at B;unfold U0 msL E6 Ql at D|-;unfold mB at B D|-;simp only[Cod.F,Blk.F]at hb B D|-;cases fa<;>cases fd<;>cases fo<;>cases n<;>cases n2<;>(
  simp only[dA,dR,oA,oR,aR,nB,nE,Nat.reduceAdd,zqd,zqc,zqe,show((0:Nat):Int)=0 from rfl]at B D|-;simp only[hb,B,D,aU,zqa,XP,Nat.reduceAdd,Nat.reduceSub,Nat.reduceLT,Nat.reduceLeDiff,Nat.reduceEqDiff,Nat.reduceMul,↓reduceIte];exact⟨_,rfl⟩)
theorem ZV{v:Int}(hi:i<c.blocks.length)(B:evP ⟨env,T,A1⟩ (.code (.loop i6) (U0 fa fd fo n r (i:Int)++frI c.blocks[i].code 0) (msL fa fd fo n m s a c r (HL (nE fa fd fo) tch)))=zs (.ok (.exit 2) ((49,.bool zf)::(U0 fa fd fo n2 r2 (i:Int)++frI c.blocks[i].code c.blocks[i].code.length)) (msL fa fd fo n2 m s2 a c r2 t1)))(D:∀t,evP ⟨env,T,A1⟩ (.code Q9 (U0 fa fd fo n2 r2 (i:Int)) (msL fa fd fo n2 m s2 a c r2 t))=zs (.ok .ret [(6,.int .i64 v)] ⟨E6 fa fd fo n2 m s3 a,nE fa fd fo,F t⟩)):∃t',evP ⟨env,T,A1⟩ (.code Ad (U0 fa fd fo n r (i:Int)) (msL fa fd fo n m s a c r tch))=zs (.ok .ret [(6,.int .i64 v)] ⟨E6 fa fd fo n2 m s3 a,nE fa fd fo,t'⟩):=by
 have hb:=A7 (F:=Blk.F) hi;unfold Ad eB;unfold U0 frI msL E6 Ql at B;unfold U0 msL E6 Ql at D|-;unfold mB at B D|-;simp only[Cod.F,Blk.F]at hb B D|-;cases fa<;>cases fd<;>cases fo<;>cases n<;>cases n2<;>(
  simp only[dA,dR,oA,oR,aR,nB,nE,Nat.reduceAdd,zqd,zqc,zqe,show((0:Nat):Int)=0 from rfl]at B D|-;simp only[hb,B,D,aU,zqa,XP,Nat.reduceAdd,Nat.reduceSub,Nat.reduceLT,Nat.reduceLeDiff,Nat.reduceEqDiff,Nat.reduceMul,↓reduceIte];exact⟨_,rfl⟩)
theorem ZW{z e:Int}(hi:i<c.blocks.length)(B:evP ⟨env,T,A1⟩ (.code (.loop i6) (U0 fa fd fo n r (i:Int)++frI c.blocks[i].code 0) (msL fa fd fo n m s a c r (HL (nE fa fd fo) tch)))=zs (.ok (.exit 2) ((49,.bool zf)::(U0 fa fd fo n2 r2 (i:Int)++frI c.blocks[i].code c.blocks[i].code.length)) (msL fa fd fo n2 m s2 a c r2 t1)))(D:∀t,evP ⟨env,T,A1⟩ (.code Q9 (U0 fa fd fo n2 r2 (i:Int)) (msL fa fd fo n2 m s2 a c r2 t))=zs (.pan (D8 z e) ⟨E6 fa fd fo n2 m s2 a++[Ql c,.row 0 (ints r2) 1],nE fa fd fo,F t⟩)):∃t',evP ⟨env,T,A1⟩ (.code Ad (U0 fa fd fo n r (i:Int)) (msL fa fd fo n m s a c r tch))=zs (.pan (D8 z e) ⟨E6 fa fd fo n2 m s2 a,nE fa fd fo,t'⟩):=by
 have hb:=A7 (F:=Blk.F) hi;unfold D8 at D|-;unfold Ad eB;unfold U0 frI msL E6 Ql at B;unfold U0 msL E6 Ql at D|-;unfold mB at B D|-;simp only[Cod.F,Blk.F]at hb B D|-;cases fa<;>cases fd<;>cases fo<;>cases n<;>cases n2<;>(
  simp only[dA,dR,oA,oR,aR,nB,nE,Nat.reduceAdd,zqd,zqc,zqe,show((0:Nat):Int)=0 from rfl]at B D|-;simp only[hb,B,D,aU,Xm,Xn,zqa,XP,Nat.reduceAdd,Nat.reduceSub,Nat.reduceLT,Nat.reduceLeDiff,Nat.reduceEqDiff,Nat.reduceMul,↓reduceIte];exact⟨_,rfl⟩)
theorem ZX{z e:Int}(hi:i<c.blocks.length)(B:evP ⟨env,T,A1⟩ (.code (.loop i6) (U0 fa fd fo n r (i:Int)++frI c.blocks[i].code 0) (msL fa fd fo n m s a c r (HL (nE fa fd fo) tch)))=zs (.pan (D8 z e) ⟨E6 fa fd fo n2 m s2 a,nE fa fd fo,t1⟩)):∃t',evP ⟨env,T,A1⟩ (.code Ad (U0 fa fd fo n r (i:Int)) (msL fa fd fo n m s a c r tch))=zs (.pan (D8 z e) ⟨E6 fa fd fo n2 m s2 a,nE fa fd fo,t'⟩):=by
 have hb:=A7 (F:=Blk.F) hi;unfold D8 at B|-;unfold Ad eB;unfold U0 frI msL E6 Ql at B;unfold U0 msL E6 Ql at|-;unfold mB at B|-;simp only[Cod.F,Blk.F]at hb B|-;cases fa<;>cases fd<;>cases fo<;>cases n<;>cases n2<;>(
  simp only[dA,dR,oA,oR,aR,nB,nE,Nat.reduceAdd,zqd,zqc,zqe,show((0:Nat):Int)=0 from rfl]at B|-;simp only[hb,B,aU,Xm,Xn,zqa,XP,Nat.reduceAdd,Nat.reduceSub,Nat.reduceLT,Nat.reduceLeDiff,Nat.reduceEqDiff,Nat.reduceMul,↓reduceIte];exact⟨_,rfl⟩)
end
theorem aV(l c:Operand)(fr:PF)(K:PK):prim env (.makeSlice 26 l c) fr K=Mc env Ca (opvP env l fr) (opvP env c fr) K:=rfl
theorem RG{k k':IntKind}{n:Nat}{K:PK}(h:n*8<=140737488355328):Mc env Ca (.int k (n:Int)) (.int k' (n:Int)) K=.val (.msl K.os.length 0 n 1) ⟨K.os++[.row 0 (ints (zqh n 0)) 1],K.ext,K.tch⟩:=by
 have e:ints (zqh n 0)=zqh n (AV.int .i64 0):=by simp[ints]
 rw[e];show(match zs ty3,zs n,zs n with|some te,zs n,zs m=>(if n<=m/\m*te.bytes<=140737488355328/\0<te.size then OpS.val (.msl K.os.length 0 n te.size) (AM.newRow 0 (zqh n te.zero) te.size K)else .bad)|_,_,_=>.bad)=_
 exact if_pos ⟨zkk _,h,by decide⟩
theorem uH{os:List PO}{id N ext:Nat}{tch:List Nat}{x:AV}{a:List Int}{os2:List PO}(B:os[id]?=zs (.row 0 (ints (zqh N 0)) 1))(D:takeE ty3 x ext [] os=zs (ints a,os2)):
 E9 env .copy [26,26] [.msl id 0 N 1,x] ⟨os,ext,tch⟩=zs (.int .i64 (zka (min N a.length)),⟨os.set id (.row 0 (ints (initR N a)) 1),ext,id::tch⟩):=by
 show(match takeE ty3 x ext [] os with|some q=>nA 1 id 0 N q.1 ⟨os,ext,tch⟩|none=>zn)=_
 rw[D];show(match os[id]? with|some (.row 0 es z)=>if z=1/\0+N<=es.length/\Cz es=zt/\Cz (ints a)=zt then zs (AV.int .i64 (zka (min N (ints a).length)),(⟨os.set id (.row 0 (es.take 0++((ints a).take (min N (ints a).length)++es.drop (0+min N (ints a).length))) z),ext,id::tch⟩:PK))else zn|_=>zn)=_
 rw[B];show(if 1=1/\_ then _ else _)=_
 rw[if_pos ⟨rfl,by simp[ints],aG _,aG _⟩];have hl:(ints a).length=a.length:=by simp[ints]
 have:(ints (zqh N 0)).take 0++((ints a).take (min N (ints a).length)++(ints (zqh N 0)).drop (0+min N (ints a).length))=ints (initR N a):=by
  rw[hl];unfold initR ints;rw[List.take_zero,zqc,zqm,<-List.map_take,<-List.map_drop,List.drop_replicate]
  congr 1
  . congr 1
    rw[Nat.min_def];split
    . rfl
    . rw[zqk (zkk _),zqk (by omega)]
  . congr 2;omega
 rw[this,hl]
section
variable {m:Modl}{s s2:Mst}{fa fd fo n2:Bool}{a:List Int}{f:Nat}{t1:List Nat}
theorem BH(R:RunT T)(h:32<=s.calls):∃t1,evP ⟨env,T,A1⟩ (.body 18 [.ptr 0 0 0,.int .i64 (f:Int),x7 fa 1 a] ⟨E6 fa fd fo zf m s a,nE fa fd fo,[]⟩)=zs (.pan (D8 2 4) ⟨E6 fa fd fo zf m s a,nE fa fd fo,t1⟩):=by
 have hg:decide (s.calls>=32)=zt:=by simp;omega
 have B:=fun K=>Qk (T:=T) (K:=K) R.hN (t:=4) (by decide)
 unfold D8 at B|-;rw[A5 (c:=AG) (nt:=109) (rs:=[.tmp 6]) rfl (by simp)];unfold AG;unfold aB aA Zz Zy Zx Zw Zu lP E6;unfold mB;cases fa<;>cases fd<;>cases fo<;>(
  simp only[dA,dR,oA,oR,aR,nB,nE,x7,Nat.reduceAdd,zqd,zqc,zqe];simp only[hg,B,Xm,Xn,XP,seval];exact⟨_,rfl⟩)
theorem MM{N:Nat}{C:PO}{tch:List Nat}(hz:fa=zf->a=[]):E9 env .copy [26,26] [.msl (nE fa fd fo+1) 0 N 1,x7 fa 1 a] ⟨E6 fa fd fo zf m s a++[C,.row 0 (ints (zqh N 0)) 1],nE fa fd fo,tch⟩=zs (.int .i64 (zka (min N a.length)),⟨E6 fa fd fo zf m s a++[C,.row 0 (ints (initR N a)) 1],nE fa fd fo,(nE fa fd fo+1)::tch⟩):=by
 cases fa with
 |false=>
  rw[hz rfl];rw[uH (a:=[]) (os2:=E6 zf fd fo zf m s []++[C,.row 0 (ints (zqh N 0)) 1]) (by cases fd<;>cases fo<;>rfl) (by cases fd<;>cases fo<;>rfl)];cases fd<;>cases fo<;>rfl
 |true=>
  rw[uH (a:=a) (os2:=E6 zt fd fo zf m s a++[C,.row 0 (ints (zqh N 0)) 1]) (by cases fd<;>cases fo<;>rfl) ?_]
  . cases fd<;>cases fo<;>rfl
  . unfold E6 x7 aR
    have hl:(ints a).length=a.length:=by simp[ints]
    cases fd<;>cases fo<;>(
     simp only[dA,dR,oA,oR,nB,Nat.reduceAdd,zqd,zqc,zqe];simp only[hl,aG,XP,seval])
def aW(s:Mst):Mst:={s with calls:=s.calls+1}
theorem Nn(n:Nat)(a:List Int):(initR n a).length=n:=by unfold initR;rw[zqq,List.length_take,List.length_replicate];omega
theorem MN{v:Int}(h:¬32<=s.calls)(h0:0<=s.calls)(hf:f<m.fs.length)(hn:m.fs[f].regs.length<=100000)(hz:fa=zf->a=[])(hl:evP ⟨env,T,A1⟩ (.code (.loop Ad) (U0 fa fd fo zf (initR m.fs[f].regs.length a) 0) (msL fa fd fo zf m (aW s) a m.fs[f] (initR m.fs[f].regs.length a) [0]))=zs (.ok .ret [(6,.int .i64 v)] ⟨E6 fa fd fo n2 m s2 a,nE fa fd fo,t1⟩)):∃t1,evP ⟨env,T,A1⟩ (.body 18 [.ptr 0 0 0,.int .i64 (f:Int),x7 fa 1 a] ⟨E6 fa fd fo zf m s a,nE fa fd fo,[]⟩)=zs (.val [.int .i64 v] ⟨E6 fa fd fo n2 m s2 a,nE fa fd fo,t1⟩):=by
 have hg:decide (s.calls>=32)=zf:=by simp;omega
 have hc:=Ea (n:=s.calls+1) (by omega) (by omega);have hi:=A7 (F:=Cod.F) hf;have B:=fun tch=>MM (m:=m) (s:=aW s) (fd:=fd) (fo:=fo) (N:=m.fs[f].regs.length) (C:=.row 1 [m.fs[f].F] 5) (tch:=tch) hz
 have mk:=fun k k' K=>RG (k:=k) (k':=k') (n:=m.fs[f].regs.length) (K:=K) (by omega)
 have D:=Nn m.fs[f].regs.length a;generalize initR m.fs[f].regs.length a=r0 at B hl D;unfold U0 msL Ql at hl;rw[D]at hl;rw[A5 (c:=AG) (nt:=109) (rs:=[.tmp 6]) rfl (by simp)];unfold AG;unfold aB aA Zz Zy Zx Zw Zu lP;unfold E6 at B hl|-;unfold mB at B hl|-;simp only[Cod.F,aW]at hi B hl|-;cases fa<;>cases fd<;>cases fo<;>(
  simp only[dA,dR,oA,oR,aR,nB,nE,x7,Nat.reduceAdd,zqd,zqc,zqe]at B hl|-;simp only[hg,hc,hi,B,hl,aV,mk,zqa,XP,Nat.reduceAdd,Nat.reduceSub,Nat.reduceLT,Nat.reduceLeDiff,Nat.reduceEqDiff,Nat.reduceMul,↓reduceIte];exact⟨_,rfl⟩)
theorem MO{z e:Int}(h:¬32<=s.calls)(h0:0<=s.calls)(hf:f<m.fs.length)(hn:m.fs[f].regs.length<=100000)(hz:fa=zf->a=[])(hl:evP ⟨env,T,A1⟩ (.code (.loop Ad) (U0 fa fd fo zf (initR m.fs[f].regs.length a) 0) (msL fa fd fo zf m (aW s) a m.fs[f] (initR m.fs[f].regs.length a) [0]))=zs (.pan (D8 z e) ⟨E6 fa fd fo n2 m s2 a,nE fa fd fo,t1⟩)):∃t1,evP ⟨env,T,A1⟩ (.body 18 [.ptr 0 0 0,.int .i64 (f:Int),x7 fa 1 a] ⟨E6 fa fd fo zf m s a,nE fa fd fo,[]⟩)=zs (.pan (D8 z e) ⟨E6 fa fd fo n2 m s2 a,nE fa fd fo,t1⟩):=by
 have hg:decide (s.calls>=32)=zf:=by simp;omega
 have hc:=Ea (n:=s.calls+1) (by omega) (by omega);have hi:=A7 (F:=Cod.F) hf;have B:=fun tch=>MM (m:=m) (s:=aW s) (fd:=fd) (fo:=fo) (N:=m.fs[f].regs.length) (C:=.row 1 [m.fs[f].F] 5) (tch:=tch) hz
 have mk:=fun k k' K=>RG (k:=k) (k':=k') (n:=m.fs[f].regs.length) (K:=K) (by omega)
 have D:=Nn m.fs[f].regs.length a;generalize initR m.fs[f].regs.length a=r0 at B hl D;unfold D8 at hl|-;unfold U0 msL Ql at hl;rw[D]at hl;rw[A5 (c:=AG) (nt:=109) (rs:=[.tmp 6]) rfl (by simp)];unfold AG;unfold aB aA Zz Zy Zx Zw Zu lP;unfold E6 at B hl|-;unfold mB at B hl|-;simp only[Cod.F,aW]at hi B hl|-;cases fa<;>cases fd<;>cases fo<;>cases n2<;>(
  simp only[dA,dR,oA,oR,aR,nB,nE,x7,Nat.reduceAdd,zqd,zqc,zqe]at B hl|-;simp only[hg,hc,hi,B,hl,aV,mk,Xm,Xn,zqa,XP,Nat.reduceAdd,Nat.reduceSub,Nat.reduceLT,Nat.reduceLeDiff,Nat.reduceEqDiff,Nat.reduceMul,↓reduceIte];exact⟨_,rfl⟩)
end
end Go.Proofs.AmEnv
