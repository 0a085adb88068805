/- What this program's functions do, at any data. Conditions: none. -/
import Derived.Test.YthoghikipmifeaaDoorEnv
set_option linter.unusedVariables false
set_option linter.unusedSimpArgs false
set_option linter.unusedSectionVars false
set_option linter.defProp false
set_option maxRecDepth 100000
set_option maxHeartbeats 4000000
open List renaming length_map→zqa,nodup_nil→zqb,getElem_mem→zqc,getElem?_eq_getElem→zqd,cons_append→zqe,nil_append→zqf,append_nil→zqg,drop_length→zqh,drop_eq_getElem_cons→zqi,getElem?_map→zqj,take_zero→zqk,findIdx?_eq_some_iff_getElem→zql,length_zip→zqm,getD_eq_getElem?_getD→zqn,take_succ_eq_append_getElem→zqo,map_append→zqp,mem_singleton→zqq,findIdx?_eq_none_iff→zqr,take_of_length_le→zqs,length_set→zqt,contains_cons→zqu,contains_nil→zqv,headD_cons→zqw,length_append→zqx
open Int renaming toNat_natCast→zqy
open Bool renaming false_and→zqz,false_eq_true→zka,or_true→zkb,and_eq_true→zkc,or_false→zkd,eq_false_iff→zke
open Nat renaming ble_eq_true_of_le→zkf
noncomputable section
namespace Go.Proofs.AmEnv
open Go Go.AM
variable {T:Nat->Option (List AV->Option (List AV))}
abbrev ints(l:List Int):List AV:=l.map (AV.int .i64)
theorem Zm(l:List Int):Az (ints l)=true:=by
 induction l with
 |nil=>rfl
 |cons x l ih=>exact ih
theorem A8{l:List Int}{i:Nat}(h:i<l.length):(ints l)[i]?=some (.int .i64 l[i]):=by
 unfold ints;rw[zqj,zqd h];rfl
theorem Lh{l:List Int}{i:Nat}(h:i<l.length):ints (l.take i)++[.int .i64 l[i]]=ints (l.take (i+1)):=by
 unfold ints;rw[zqo h,zqp];rfl
section
variable {l:List Int}{f:Bool}{i:Nat}{x:Int}{es:List AV}
theorem VZ(hl:0<l.length):
 evP ⟨env,T,A1⟩ (.code Jd [(0,.fsl (ints l) f),(3,.nilsl),(4,.int .i64 0)] ⟨[],0,[]⟩)=some (.ok .normal [(0,.fsl (ints l) f),(3,.msl 0 0 1 1),(4,.int .i64 ((1:Nat):Int))] ⟨[.row 0 (ints (l.take 1)) 1],0,[]⟩):=by
 unfold Jd;have hlt:decide ((0:Int)<((ints l).length:Int))=true:=by simp[hl]
 have hi:=A8 hl;have hw:=B2 (i:=0) (by omega);have hx:Hs ty3 (.fsl (ints l) f) (.int .i64 0)=some (.fptr (.int .i64 l[0]) 0):=ix_fsl (i:=0) hi rfl;have ht:=Lh hl;rw[zqk]at ht;have ht:[AV.int .i64 l[0]]=ints (l.take 1):=ht;simp -implicitDefEqProofs only[hlt,hx,<-ht,show IntKind.i64.wrap (0+1)=((1:Nat):Int)from rfl,XP,Nat.reduceAdd,Nat.reduceSub,Nat.reduceLT,Nat.reduceLeDiff,Nat.reduceEqDiff,Nat.reduceMul,↓reduceIte]
theorem WA(hl:i<l.length)(hs:l.length*8<=140737488355328):
 evP ⟨env,T,A1⟩ (.code Jd [(0,.fsl (ints l) f),(3,.msl 0 0 i 1),(4,.int .i64 i)] ⟨[.row 0 (ints (l.take i)) 1],0,[]⟩)=some (.ok .normal [(0,.fsl (ints l) f),(3,.msl 0 0 (i+1) 1),(4,.int .i64 ((i+1:Nat):Int))] ⟨[.row 0 (ints (l.take (i+1))) 1],0,[]⟩):=by
 unfold Jd;have hlt:decide ((i:Int)<((ints l).length:Int))=true:=by simp[hl]
 have hi:=A8 hl;have hm:(ints (l.take i)).length=i:=by simp;omega
 have hw:=B2 (i:=i) (by omega);have hz:(i+1)*8<=140737488355328:=by omega
 simp -implicitDefEqProofs only[hlt,hi,hm,hw,hz,Lh hl,XP,seval]
theorem GE{y:AV}{K:PK}:∃fr',evP ⟨env,T,A1⟩ (.code Jd [(0,.fsl (ints l) f),(3,y),(4,.int .i64 l.length)] K)=some (.ok (.exit 0) fr' K)/\lookP fr' 3=y:=by
 unfold Jd;have hlt:decide ((l.length:Int)<((ints l).length:Int))=false:=by simp
 simp -implicitDefEqProofs only[hlt,XP,seval];exact⟨_,rfl,rfl⟩
theorem GF(hs:l.length*8<=140737488355328):∀(n i:Nat),l.length=i+n->0<i->∃fr',evP ⟨env,T,A1⟩ (.code (.loop Jd) [(0,.fsl (ints l) f),(3,.msl 0 0 i 1),(4,.int .i64 i)] ⟨[.row 0 (ints (l.take i)) 1],0,[]⟩)=some (.ok (.exit 0) fr' ⟨[.row 0 (ints l) 1],0,[]⟩)/\lookP fr' 3=.msl 0 0 l.length 1
 | 0,i,e,h0=>by
  obtain rfl:i=l.length:=by omega
  rw[List.take_length];obtain⟨fr',h1,h2⟩:=GE (T:=T) (l:=l) (f:=f) (y:=.msl 0 0 l.length 1) (K:=⟨[.row 0 (ints l) 1],0,[]⟩);exact⟨fr',C6 h1,h2⟩
 | n+1,i,e,h0=>by
  rw[loop_more (WA (by omega) hs)];exact GF hs n (i+1) (by omega) (by omega)
theorem Ru(hs:l.length*8<=140737488355328):AM.Comes ⟨env,T,A1⟩ 52 [.fsl (ints l) f] [ownd 0 1 (ints l)]:=by
 cases l with
 | nil =>
  obtain⟨fr',h1,h2⟩:=GE (T:=T) (l:=[]) (f:=f) (y:=.nilsl) (K:=⟨[],0,[]⟩);have hl:=C6 h1;refine⟨[.nilsl],⟨[],0,[]⟩,?_,⟨by decide,rfl,rfl⟩⟩;rw[A3 (c:=EU) (nt:=19) (rs:=[.tmp 2]) rfl (by simp)];unfold EU K0;have hl:evP ⟨env,T,A1⟩ (.code (.loop Jd) [(0,.fsl (ints []) f),(3,.nilsl),(4,.int .i64 0)] ⟨[],0,[]⟩)=_:=hl;simp -implicitDefEqProofs only[hl,h2,XP,seval]
 | cons x r =>
  obtain⟨fr',h1,h2⟩:=GF (T:=T) (f:=f) hs r.length 1 (by simp;omega) (by decide);have hl:=(loop_more (VZ (T:=T) (f:=f) (l:=x::r) (by simp))).trans h1;refine⟨[.msl 0 0 (x::r).length 1],⟨[.row 0 (ints (x::r)) 1],0,[]⟩,?_,?_⟩
  . rw[A3 (c:=EU) (nt:=19) (rs:=[.tmp 2]) rfl (by simp)]
    unfold EU K0;simp -implicitDefEqProofs only[hl,h2,XP,seval]
  . refine back_of (vs':=[.msl 0 0 (x::r).length 1]) (os':=[.row 0 (ints (x::r)) 1]) ?_ ?_ (us:=[.msl 0 0 (ints (x::r)).length 1]) (ps:=[.row 0 (ints (x::r)) 1]) ?_ ?_ ?_
    all_goals simp -implicitDefEqProofs only[zqa,XP,seval]
end
theorem ints_inj{l m:List Int}(h:ints l=ints m):l=m:=by
 induction l generalizing m with
 | nil=>cases m with
  |nil=>rfl
  |cons=>cases h
 | cons x l ih=>cases m with
  |nil=>cases h
  |cons y m=>injection h with h1 h2;injection h1 with _ h1;rw[h1,ih h2]
section
variable {l m:List Int}{f g:Bool}{i:Nat}
theorem WB(hl:i<l.length)(hm:i<m.length)(he:l[i]=m[i])(hs:l.length<=140737488355328):
 evP ⟨env,T,A1⟩ (.code Dk [(0,.fsl (ints l) f),(1,.fsl (ints m) g),(5,.int .i64 i)] ⟨[],0,[]⟩)=some (.ok .normal [(0,.fsl (ints l) f),(1,.fsl (ints m) g),(5,.int .i64 ((i+1:Nat):Int))] ⟨[],0,[]⟩):=by
 unfold Dk;have hlt:decide ((i:Int)<((ints l).length:Int))=true:=by simp[hl]
 have h1:=A8 hl;have h2:=A8 hm;have hw:=B2 (i:=i) (by omega);simp -implicitDefEqProofs only[hlt,h1,h2,hw,he,u_not,XP,seval]
theorem WC(hl:i<l.length)(hm:i<m.length)(he:¬l[i]=m[i]):
 ∃fr',evP ⟨env,T,A1⟩ (.code Dk [(0,.fsl (ints l) f),(1,.fsl (ints m) g),(5,.int .i64 i)] ⟨[],0,[]⟩)=some (.ok .ret fr' ⟨[],0,[]⟩)/\lookP fr' 4=.bool false:=by
 unfold Dk;have hlt:decide ((i:Int)<((ints l).length:Int))=true:=by simp[hl]
 have h1:=A8 hl;have h2:=A8 hm;have hd:decide (l[i]=m[i])=false:=by simp[he]
 simp -implicitDefEqProofs only[hlt,h1,h2,hd,u_not,XP,seval];exact⟨_,rfl,rfl⟩
theorem WD(hm:l.length=m.length):∃fr',evP ⟨env,T,A1⟩ (.code Dk [(0,.fsl (ints l) f),(1,.fsl (ints m) g),(5,.int .i64 l.length)] ⟨[],0,[]⟩)=some (.ok (.exit 0) fr' ⟨[],0,[]⟩):=by
 unfold Dk;have hlt:decide ((l.length:Int)<((ints l).length:Int))=false:=by simp
 simp -implicitDefEqProofs only[hlt,XP,seval];exact⟨_,rfl⟩
theorem si_l(hs:l.length<=140737488355328)(hm:l.length=m.length):∀(n i:Nat),l.length=i+n ->
 (l.drop i=m.drop i/\∃fr',evP ⟨env,T,A1⟩ (.code (.loop Dk) [(0,.fsl (ints l) f),(1,.fsl (ints m) g),(5,.int .i64 i)] ⟨[],0,[]⟩)=some (.ok (.exit 0) fr' ⟨[],0,[]⟩))\/
 (l.drop i≠m.drop i/\∃fr',evP ⟨env,T,A1⟩ (.code (.loop Dk) [(0,.fsl (ints l) f),(1,.fsl (ints m) g),(5,.int .i64 i)] ⟨[],0,[]⟩)=some (.ok .ret fr' ⟨[],0,[]⟩)/\lookP fr' 4=.bool false)
 | 0,i,e=>by
  obtain rfl:i=l.length:=by omega
  obtain⟨fr',h⟩:=WD (T:=T) (f:=f) (g:=g) hm;exact .inl ⟨by rw[zqh,hm,zqh],fr',C6 h⟩
 | n + 1,i,e=>by
  have hl:i<l.length:=by omega
  have hl':i<m.length:=by omega
  rw[zqi hl,zqi hl'];by_cases he:l[i]=m[i]
  . rw[loop_more (WB hl hl' he hs)]
    rcases si_l hs hm n (i+1) (by omega)with⟨h1,h2⟩|⟨h1,h2⟩
    . exact .inl ⟨by rw[he,h1],h2⟩
    . exact .inr ⟨fun h=>h1 (List.cons.inj h).2,h2⟩
  . obtain⟨fr',h1,h2⟩:=WC (T:=T) (f:=f) (g:=g) hl hl' he
    exact .inr ⟨fun h=>he (List.cons.inj h).1,fr',u7 h1,h2⟩
theorem Rv(hs:l.length<=140737488355328):AM.Comes ⟨env,T,A1⟩ 23 [.fsl (ints l) f,.fsl (ints m) g] [.bool (decide (l=m))]:=by
 refine⟨[.bool (decide (l=m))],⟨[],0,[]⟩,?_,back_of rfl zqb rfl rfl rfl⟩;rw[A3 (c:=MM) (nt:=27) (rs:=[.tmp 4]) rfl (by simp)];unfold MM K0;by_cases hm:l.length=m.length
 . have hn:(!decide (((ints l).length:Int)=((ints m).length:Int)))=false:=by simp[hm]
   rcases si_l (T:=T) (f:=f) (g:=g) hs hm l.length 0 (by omega)with⟨h1,fr',h2⟩|⟨h1,fr',h2,h3⟩
   . have h1:decide (l=m)=true:=by simpa using h1
     have h2:evP ⟨env,T,A1⟩ (.code (.loop Dk) [(0,.fsl (ints l) f),(1,.fsl (ints m) g),(5,.int .i64 0)] ⟨[],0,[]⟩)=_:=h2;simp -implicitDefEqProofs only[hn,h1,h2,XP,seval]
   . have h1:decide (l=m)=false:=by simpa using h1
     have h2:evP ⟨env,T,A1⟩ (.code (.loop Dk) [(0,.fsl (ints l) f),(1,.fsl (ints m) g),(5,.int .i64 0)] ⟨[],0,[]⟩)=_:=h2;simp -implicitDefEqProofs only[hn,h1,h2,h3,XP,seval]
 . have hn:(!decide (((ints l).length:Int)=((ints m).length:Int)))=true:=by simp[hm];omega
   have h1:decide (l=m)=false:=by simp;intro h;exact hm (by rw[h])
   simp -implicitDefEqProofs only[hn,h1,XP,seval]
end
structure Ins where
 op:Int
 ty:Int
 dst:Int
 a:Int
 b:Int
 n:Int
 s:List UInt8
 args:List Int
deriving DecidableEq
abbrev bigN:Nat:=140737488355328
def Ins.cs(x:Ins)(v:AV):List AV:=[.int .i64 x.op,.int .i64 x.ty,.int .i64 x.dst,.int .i64 x.a,.int .i64 x.b,.int .i64 x.n,.str x.s,v]
def Ins.F(x:Ins):AV:=.agg [.int .i64 x.op,.int .i64 x.ty,.int .i64 x.dst,.int .i64 x.a,.int .i64 x.b,.int .i64 x.n,.str x.s,fslN (ints x.args)]
def Ins.O(x:Ins):AV:=.agg [.int .i64 x.op,.int .i64 x.ty,.int .i64 x.dst,.int .i64 x.a,.int .i64 x.b,.int .i64 x.n,.str x.s,ownd 0 1 (ints x.args)]
def Ins.ok(x:Ins):Prop:=x.args.length*8<=bigN
theorem fslN_inj{l m:List AV}(h:fslN l=fslN m):l=m:=by unfold fslN at h;injection h
theorem Ins.F_inj{x y:Ins}(h:x.F=y.F):x=y:=by
 cases x;cases y;simp only[Ins.F,AV.agg.injEq,List.cons.injEq,AV.int.injEq,AV.str.injEq,true_and,and_true]at h;obtain⟨rfl,rfl,rfl,rfl,rfl,rfl,rfl,h⟩:=h;rw[ints_inj (fslN_inj h)]
def G5:=W3 (fun l:List Int=>[fslN (ints l)]) (fun l=>[ownd 0 1 (ints l)]) (fun l=>l.length*8<=bigN)
theorem l6{l:List Int}(h:l.length*8<=bigN):G5 [fslN (ints l)]=some [ownd 0 1 (ints l)]:=B5 (a:=fun l:List Int=>[fslN (ints l)]) (fun x y e=>by injection e with e _;rw[ints_inj (fslN_inj e)]) l h
def Z5:=W3 (fun p:List Int×List Int=>[fslN (ints p.1),fslN (ints p.2)]) (fun p=>[.bool (decide (p.1=p.2))]) (fun p=>p.1.length*8<=bigN)
theorem Je{l m:List Int}(h:l.length*8<=bigN):Z5 [fslN (ints l),fslN (ints m)]=some [.bool (decide (l=m))]:=B5 (a:=fun p:List Int×List Int=>[fslN (ints p.1),fslN (ints p.2)]) (r:=fun p=>[.bool (decide (p.1=p.2))]) (fun x y e=>by
 injection e with e1 e;injection e with e2 _
 rw[ints_inj (fslN_inj e1),ints_inj (fslN_inj e2)]) (l,m) h
theorem frzL_ints(l:List Int):frzL (ints l)=some (ints l):=m0 (f:=AV.int .i64) (g:=AV.int .i64) (fun _=>rfl) l
section
variable {T:Nat->Option (List AV->Option (List AV))}
theorem noFL_ints(l:List Int):noFL (ints l)=true:=by
 induction l with
 |nil=>rfl
 |cons x l ih=>exact ih
theorem Ny(hT:T 52=some G5){x:Ins}(h:x.ok):AM.Comes ⟨env,T,A1⟩ 72 [x.F] [x.O]:=by
 refine⟨[.agg (x.cs (.msl 1 0 (ints x.args).length 1))],⟨[.row 1 [.agg (x.cs (.msl 1 0 (ints x.args).length 1))] 8,.row 0 (ints x.args) 1],0,[]⟩,?_,?_⟩
 . rw[A3 (c:=NV) (nt:=8) (rs:=[.cell 2 49]) rfl (by simp)]
   unfold NV K0;have ht:∀{K:PK},evP ⟨env,T,A1⟩ (.call 52 [fslN (ints x.args)] K)=some (.val (openTs K.os.length [ownd 0 1 (ints x.args)]).1 ⟨K.os++(openTs K.os.length [ownd 0 1 (ints x.args)]).2,K.ext,K.tch⟩):=B3 hT (by show consO (bP (frzL (ints x.args))) (some [])=_;rw[frzL_ints];rfl) (l6 h) (by rfl);simp -implicitDefEqProofs only[Ins.F,Ins.cs,ht,XP,seval]
 . refine back_of (vs':=[.agg (x.cs (.msl 1 0 (ints x.args).length 1))]) (os':=[.row 1 [.agg (x.cs (.msl 1 0 (ints x.args).length 1))] 8,.row 0 (ints x.args) 1]) ?_ ?_ (us:=[.agg (x.cs (.msl 0 0 (ints x.args).length 1))]) (ps:=[.row 0 (ints x.args) 1]) ?_ ?_ ?_
   all_goals simp -implicitDefEqProofs only[Ins.cs,Ins.O,XP,seval]
theorem Nz(hT:T 23=some Z5){x y:Ins}(h:x.ok):AM.Comes ⟨env,T,A1⟩ 13 [x.F,y.F] [.bool (decide (x=y))]:=by
 refine⟨[.bool (decide (x=y))],⟨[],0,[]⟩,?_,back_of rfl zqb rfl rfl rfl⟩;rw[A3 (c:=MD) (nt:=59) (rs:=[.tmp 4]) rfl (by simp)];unfold MD K0;have ht:∀{K:PK},evP ⟨env,T,A1⟩ (.call 23 [fslN (ints x.args),fslN (ints y.args)] K)=some (.val [.bool (decide (x.args=y.args))] ⟨K.os++[],K.ext,K.tch⟩):=B3 hT (by show consO (bP (frzL (ints x.args))) (consO (bP (frzL (ints y.args))) (some []))=_;rw[frzL_ints,frzL_ints];rfl) (Je h) (by rfl);have no:∀{p:Prop} [Decidable p],¬p->decide p=false:=fun h=>by simp[h]
 have yes:∀{p:Prop} [Decidable p],p->decide p=true:=fun h=>by simp[h]
 have ext:x=y↔x.op=y.op/\x.ty=y.ty/\x.dst=y.dst/\x.a=y.a/\x.b=y.b/\x.n=y.n/\x.s=y.s/\x.args=y.args:=by
  cases x;cases y;simp
 by_cases h1:x.op=y.op
 . by_cases h2:x.ty=y.ty
   . by_cases h3:x.dst=y.dst
     . by_cases h4:x.a=y.a
       . by_cases h5:x.b=y.b
         . by_cases h6:x.n=y.n
           . by_cases h7:x.s=y.s
             . have e:decide (x=y)=decide (x.args=y.args):=by simp[ext,h1,h2,h3,h4,h5,h6,h7]
               simp -implicitDefEqProofs only[Ins.F,ht,e,yes h1,yes h2,yes h3,yes h4,yes h5,yes h6,yes h7,XP,seval]
             . have e:decide (x=y)=false:=no fun e=>h7 (ext.1 e).2.2.2.2.2.2.1
               simp -implicitDefEqProofs only[Ins.F,e,yes h1,yes h2,yes h3,yes h4,yes h5,yes h6,no h7,XP,seval]
           . have e:decide (x=y)=false:=no fun e=>h6 (ext.1 e).2.2.2.2.2.1
             simp -implicitDefEqProofs only[Ins.F,e,yes h1,yes h2,yes h3,yes h4,yes h5,no h6,XP,seval]
         . have e:decide (x=y)=false:=no fun e=>h5 (ext.1 e).2.2.2.2.1
           simp -implicitDefEqProofs only[Ins.F,e,yes h1,yes h2,yes h3,yes h4,no h5,XP,seval]
       . have e:decide (x=y)=false:=no fun e=>h4 (ext.1 e).2.2.2.1
         simp -implicitDefEqProofs only[Ins.F,e,yes h1,yes h2,yes h3,no h4,XP,seval]
     . have e:decide (x=y)=false:=no fun e=>h3 (ext.1 e).2.2.1
       simp -implicitDefEqProofs only[Ins.F,e,yes h1,yes h2,no h3,XP,seval]
   . have e:decide (x=y)=false:=no fun e=>h2 (ext.1 e).2.1
     simp -implicitDefEqProofs only[Ins.F,e,yes h1,no h2,XP,seval]
 . have e:decide (x=y)=false:=no fun e=>h1 (ext.1 e).1
   simp -implicitDefEqProofs only[Ins.F,e,no h1,XP,seval]
end
def Z6:=W3 (fun x:Ins=>[x.F]) (fun x=>[x.O]) Ins.ok
theorem Ve{x:Ins}(h:x.ok):Z6 [x.F]=some [x.O]:=B5 (a:=fun x:Ins=>[x.F]) (fun x y e=>by injection e with e _;rw[Ins.F_inj e]) x h
def N0:=W3 (fun p:Ins×Ins=>[p.1.F,p.2.F]) (fun p=>[.bool (decide (p.1=p.2))]) (fun p=>p.1.ok)
theorem Fy{x y:Ins}(h:x.ok):N0 [x.F,y.F]=some [.bool (decide (x=y))]:=B5 (a:=fun p:Ins×Ins=>[p.1.F,p.2.F]) (r:=fun p=>[.bool (decide (p.1=p.2))]) (fun x y e=>by
 injection e with e1 e;injection e with e2 _
 rw[Ins.F_inj e1,Ins.F_inj e2]) (x,y) h
theorem Ins.viewF{os:List PO}(x:Ins):viewA os x.F=some x.F:=by
 unfold Ins.F;simp -implicitDefEqProofs only[frzL_ints,XP,seval]
theorem Ins.frzF(x:Ins):frzC x.F=some x.F:=by
 unfold Ins.F;simp -implicitDefEqProofs only[frzL_ints,XP,seval]
theorem Ins.frzO(x:Ins):frzC x.O=some x.F:=by
 unfold Ins.F Ins.O;simp -implicitDefEqProofs only[frzL_ints,XP,seval]
theorem A6{X:Type}{F:X->AV}{l:List X}{i:Nat}(h:i<l.length):(l.map F)[i]?=some (F l[i]):=by rw[zqj,zqd h];rfl
theorem map_take{X:Type}{F:X->AV}{l:List X}{i:Nat}(h:i<l.length):(l.take i).map F++[F l[i]]=(l.take (i+1)).map F:=by rw[zqo h,zqp];rfl
section
variable {l:List Ins}{f:Bool}{i:Nat}
theorem Rw(hT:T 72=some Z6){x:Ins}(h:x.ok){K:PK}:evP ⟨env,T,A1⟩ (.call 72 [x.F] K)=some (.val (openTs K.os.length [x.O]).1 ⟨K.os++(openTs K.os.length [x.O]).2,K.ext,K.tch⟩):=B3 hT (by show consO (viewA _ x.F) (some [])=_;rw[Ins.viewF];rfl) (Ve h) (by
 unfold Ins.O Ins.F;simp -implicitDefEqProofs only[noFL_ints,XP,seval])
theorem GG(hT:T 72=some Z6)(hl:i<l.length)(hk:l[i].ok)(hs:l.length*88<=bigN):
 evP ⟨env,T,A1⟩ (.code Nj [(0,fslN (l.map Ins.F)),(3,.msl 0 0 i 8),(4,.int .i64 i)] ⟨[.row 0 ((l.take i).map Ins.O) 8],0,[]⟩)=some (.ok .normal [(0,fslN (l.map Ins.F)),(3,.msl 0 0 (i+1) 8),(4,.int .i64 ((i+1:Nat):Int))] ⟨[.row 0 ((l.take (i+1)).map Ins.O) 8],0,[]⟩):=by
 unfold Nj;have hlt:decide ((i:Int)<((l.map Ins.F).length:Int))=true:=by simp[hl]
 have hi:=A6 (F:=Ins.F) hl;have hm:((l.take i).map Ins.O).length=i:=by simp;omega
 have hw:=B2 (i:=i) (by simp only[bigN]at hs;omega);have hz:(i+1)*88<=140737488355328:=by simp only[bigN]at hs;omega
 have ht:=fun K=>Rw (K:=K) hT hk
 have hx:=map_take (F:=Ins.O) hl;simp only[Ins.F]at ht hi;simp only[Ins.O]at hx;simp -implicitDefEqProofs only[hlt,hi,hm,hw,hz,Ins.O,ht,hx,XP,seval]
theorem GH(hT:T 72=some Z6)(hl:0<l.length)(hk:l[0].ok)(hs:l.length*88<=bigN):
 evP ⟨env,T,A1⟩ (.code Nj [(0,fslN (l.map Ins.F)),(3,.nilsl),(4,.int .i64 0)] ⟨[],0,[]⟩)=some (.ok .normal [(0,fslN (l.map Ins.F)),(3,.msl 0 0 1 8),(4,.int .i64 ((1:Nat):Int))] ⟨[.row 0 ((l.take 1).map Ins.O) 8],0,[]⟩):=by
 unfold Nj;have hlt:decide ((0:Int)<((l.map Ins.F).length:Int))=true:=by simp[hl]
 have hi:=A6 (F:=Ins.F) hl;have hi:=ix_fslN (te:=Z4) (k:=.i64) (i:=0) hi rfl;have hi:Hs Z4 (fslN (l.map Ins.F)) (.int .i64 0)=some (.fptr (Ins.F l[0]) 0):=hi;have ht:=fun K=>Rw (K:=K) hT hk
 have hx:=map_take (F:=Ins.O) hl;rw[zqk]at hx;have hx:[Ins.O l[0]]=(l.take 1).map Ins.O:=hx;simp only[Ins.F]at ht hi;rw[<-hx];simp -implicitDefEqProofs only[hlt,hi,Ins.O,ht,show IntKind.i64.wrap (0+1)=((1:Nat):Int)from rfl,XP,Nat.reduceAdd,Nat.reduceSub,Nat.reduceLT,Nat.reduceLeDiff,Nat.reduceEqDiff,Nat.reduceMul,↓reduceIte]
theorem GI{y:AV}{K:PK}:∃fr',evP ⟨env,T,A1⟩ (.code Nj [(0,fslN (l.map Ins.F)),(3,y),(4,.int .i64 l.length)] K)=some (.ok (.exit 0) fr' K)/\lookP fr' 3=y:=by
 unfold Nj;have hlt:decide ((l.length:Int)<((l.map Ins.F).length:Int))=false:=by simp
 simp -implicitDefEqProofs only[hlt,XP,seval];exact⟨_,rfl,rfl⟩
theorem Li(hT:T 72=some Z6)(hk:∀x∈l,x.ok)(hs:l.length*88<=bigN):AM.Comes ⟨env,T,A1⟩ 65 [fslN (l.map Ins.F)] [ownd 0 8 (l.map Ins.O)]:=by
 obtain⟨fr',y,os,h1,h2,h3⟩:=Fc (P:=⟨env,T,A1⟩) (c:=Nj) (A:=fslN (l.map Ins.F)) (O:=Ins.O) (sz:=8) (l:=l) (fun h=>GH hT h (hk _ (zqc h)) hs) (fun i h=>GG hT h (hk _ (zqc h)) hs) (fun y K=>GI);refine⟨[y],⟨os,0,[]⟩,?_,J2 h3⟩;rw[A3 (c:=NP) (nt:=20) (rs:=[.tmp 2]) rfl (by simp)];unfold NP K0;rcases h3 with⟨_,rfl,rfl⟩|⟨rfl,rfl⟩
 . simp -implicitDefEqProofs only[h1,h2,XP,seval]
 . simp -implicitDefEqProofs only[h1,h2,XP,seval]
end
theorem map_inj{X:Type}{F:X->AV}(hF:∀x y,F x=F y->x=y):∀{l m:List X},l.map F=m.map F->l=m
 |[],[],_=>rfl
 |[],_::_,h=>by cases h
 |_::_,[],h=>by cases h
 | x::l,y::m,h=>by
  injection h with h1 h2
  rw[hF _ _ h1,map_inj hF h2]
def V0:=W3 (fun l:List Ins=>[fslN (l.map Ins.F)]) (fun l=>[ownd 0 8 (l.map Ins.O)]) (fun l=>(∀x∈l,x.ok)/\l.length*88<=bigN)
theorem Rx{l:List Ins}(h1:∀x∈l,x.ok)(h2:l.length*88<=bigN):V0 [fslN (l.map Ins.F)]=some [ownd 0 8 (l.map Ins.O)]:=B5 (a:=fun l:List Ins=>[fslN (l.map Ins.F)]) (fun x y e=>by injection e with e _;rw[map_inj (fun _ _=>Ins.F_inj) (fslN_inj e)]) l ⟨h1,h2⟩
def V1:=W3 (fun p:List Ins×List Ins=>[fslN (p.1.map Ins.F),fslN (p.2.map Ins.F)]) (fun p=>[.bool (decide (p.1=p.2))]) (fun p=>(∀x∈p.1,x.ok)/\p.1.length*88<=bigN)
theorem Ry{l m:List Ins}(h1:∀x∈l,x.ok)(h2:l.length*88<=bigN):V1 [fslN (l.map Ins.F),fslN (m.map Ins.F)]=some [.bool (decide (l=m))]:=B5 (a:=fun p:List Ins×List Ins=>[fslN (p.1.map Ins.F),fslN (p.2.map Ins.F)]) (r:=fun p=>[.bool (decide (p.1=p.2))]) (fun x y e=>by
 injection e with e1 e;injection e with e2 _
 rw[map_inj (fun _ _=>Ins.F_inj) (fslN_inj e1),map_inj (fun _ _=>Ins.F_inj) (fslN_inj e2)]) (l,m) ⟨h1,h2⟩
theorem Rz(hT:T 13=some N0){x y:Ins}(h:x.ok){K:PK}:evP ⟨env,T,A1⟩ (.call 13 [x.F,y.F] K)=some (.val [.bool (decide (x=y))] ⟨K.os++[],K.ext,K.tch⟩):=B3 hT (by show consO (viewA _ x.F) (consO (viewA _ y.F) (some []))=_;rw[Ins.viewF,Ins.viewF];rfl) (Fy h) (by
 unfold Ins.F;simp -implicitDefEqProofs only[XP,seval])
section
variable {l m:List Ins}{i:Nat}
theorem GJ(hT:T 13=some N0)(hl:i<l.length)(hm:i<m.length)(hk:l[i].ok)(hs:l.length*88<=bigN)(he:l[i]=m[i]):
 evP ⟨env,T,A1⟩ (.code Ni [(0,fslN (l.map Ins.F)),(1,fslN (m.map Ins.F)),(5,.int .i64 i)] ⟨[],0,[]⟩)=some (.ok .normal [(0,fslN (l.map Ins.F)),(1,fslN (m.map Ins.F)),(5,.int .i64 ((i+1:Nat):Int))] ⟨[],0,[]⟩):=by
 unfold Ni;have hlt:decide ((i:Int)<((l.map Ins.F).length:Int))=true:=by simp[hl]
 have h1:=A6 (F:=Ins.F) hl;have h2:=A6 (F:=Ins.F) hm;have hw:=B2 (i:=i) (by simp only[bigN]at hs;omega);have ht:=fun K=>Rz (K:=K) hT (y:=m[i]) hk
 rw[B9 he]at ht;simp only[Ins.F]at ht h1 h2;simp -implicitDefEqProofs only[hlt,h1,h2,hw,ht,u_not,XP,seval]
theorem GK(hT:T 13=some N0)(hl:i<l.length)(hm:i<m.length)(hk:l[i].ok)(he:¬l[i]=m[i]):
 ∃fr',evP ⟨env,T,A1⟩ (.code Ni [(0,fslN (l.map Ins.F)),(1,fslN (m.map Ins.F)),(5,.int .i64 i)] ⟨[],0,[]⟩)=some (.ok .ret fr' ⟨[],0,[]⟩)/\lookP fr' 4=.bool false:=by
 unfold Ni;have hlt:decide ((i:Int)<((l.map Ins.F).length:Int))=true:=by simp[hl]
 have h1:=A6 (F:=Ins.F) hl;have h2:=A6 (F:=Ins.F) hm;have ht:=fun K=>Rz (K:=K) hT (y:=m[i]) hk
 rw[C9 he]at ht;simp only[Ins.F]at ht h1 h2;simp -implicitDefEqProofs only[hlt,h1,h2,ht,u_not,XP,seval];exact⟨_,rfl,rfl⟩
theorem GL:∃fr',evP ⟨env,T,A1⟩ (.code Ni [(0,fslN (l.map Ins.F)),(1,fslN (m.map Ins.F)),(5,.int .i64 l.length)] ⟨[],0,[]⟩)=some (.ok (.exit 0) fr' ⟨[],0,[]⟩):=by
 unfold Ni;have hlt:decide ((l.length:Int)<((l.map Ins.F).length:Int))=false:=by simp
 simp -implicitDefEqProofs only[hlt,XP,seval];exact⟨_,rfl⟩
theorem Lj(hT:T 13=some N0)(hk:∀x∈l,x.ok)(hs:l.length*88<=bigN):AM.Comes ⟨env,T,A1⟩ 62 [fslN (l.map Ins.F),fslN (m.map Ins.F)] [.bool (decide (l=m))]:=by
 refine⟨[.bool (decide (l=m))],⟨[],0,[]⟩,?_,back_of rfl zqb rfl rfl rfl⟩;rw[A3 (c:=NM) (nt:=27) (rs:=[.tmp 4]) rfl (by simp)];unfold NM K0;by_cases hm:l.length=m.length
 . have hn:(!decide (((l.map Ins.F).length:Int)=((m.map Ins.F).length:Int)))=false:=by simp[hm]
   rcases same_loop (P:=⟨env,T,A1⟩) (c:=Ni) (A:=fslN (l.map Ins.F)) (B:=fslN (m.map Ins.F)) hm (fun i h h' e=>GJ hT h h' (hk _ (zqc h)) hs e) (fun i h h' e=>GK hT h h' (hk _ (zqc h)) e) GL with⟨h1,fr',h2⟩|⟨h1,fr',h2,h3⟩
   . simp -implicitDefEqProofs only[hn,B9 h1,h2,XP,seval]
   . simp -implicitDefEqProofs only[hn,C9 h1,h2,h3,XP,seval]
 . have hn:(!decide (((l.map Ins.F).length:Int)=((m.map Ins.F).length:Int)))=true:=by simp;omega
   have h1:¬l=m:=fun h=>hm (by rw[h])
   simp -implicitDefEqProofs only[hn,C9 h1,XP,seval]
end
structure Endd where
 kind:Int
 a:Int
 to:Int
 els:Int
deriving DecidableEq
structure Blk where
 code:List Ins
 e:Endd
deriving DecidableEq
def Endd.F(e:Endd):AV:=.agg [.int .i64 e.kind,.int .i64 e.a,.int .i64 e.to,.int .i64 e.els]
def Blk.F(x:Blk):AV:=.agg [fslN (x.code.map Ins.F),.int .i64 x.e.kind,.int .i64 x.e.a,.int .i64 x.e.to,.int .i64 x.e.els]
def Blk.O(x:Blk):AV:=.agg [ownd 0 8 (x.code.map Ins.O),.int .i64 x.e.kind,.int .i64 x.e.a,.int .i64 x.e.to,.int .i64 x.e.els]
def Blk.ok(x:Blk):Prop:=(∀y∈x.code,y.ok)/\x.code.length*88<=bigN
theorem Blk.F_inj{x y:Blk}(h:x.F=y.F):x=y:=by
 obtain⟨c,e⟩:=x;obtain⟨c',e'⟩:=y;cases e;cases e';simp only[Blk.F,AV.agg.injEq,List.cons.injEq,AV.int.injEq,true_and,and_true]at h;obtain⟨h,rfl,rfl,rfl,rfl⟩:=h;rw[map_inj (fun _ _=>Ins.F_inj) (fslN_inj h)]
theorem frzL_insF(l:List Ins):frzL (l.map Ins.F)=some (l.map Ins.F):=m0 Ins.frzF l
theorem nW(l:List Ins):frzL (l.map Ins.O)=some (l.map Ins.F):=m0 Ins.frzO l
theorem Dn{X:Type}{O:X->AV}(h:∀x,noF (O x)=true):∀l:List X,noFL (l.map O)=true
 |[]=>rfl
 |x::l=>by show(noF (O x)&&noFL (l.map O))=true;rw[h,Dn h l];rfl
theorem Ins.noF(x:Ins):noF x.O=true:=by
 unfold Ins.O;simp -implicitDefEqProofs only[noFL_ints,XP,seval]
theorem noFL_insO(l:List Ins):noFL (l.map Ins.O)=true:=Dn Ins.noF l
theorem Blk.frzF(x:Blk):frzC x.F=some x.F:=by
 unfold Blk.F;simp -implicitDefEqProofs only[frzL_insF,XP,seval]
theorem Blk.frzO(x:Blk):frzC x.O=some x.F:=by
 unfold Blk.F Blk.O;simp -implicitDefEqProofs only[nW,XP,seval]
theorem Blk.noF(x:Blk):noF x.O=true:=by
 unfold Blk.O;simp -implicitDefEqProofs only[noFL_insO,XP,seval]
theorem Nk(hT:T 65=some V0){l:List Ins}(h1:∀x∈l,x.ok)(h2:l.length*88<=bigN){K:PK}:evP ⟨env,T,A1⟩ (.call 65 [fslN (l.map Ins.F)] K)=some (.val (openTs K.os.length [ownd 0 8 (l.map Ins.O)]).1 ⟨K.os++(openTs K.os.length [ownd 0 8 (l.map Ins.O)]).2,K.ext,K.tch⟩):=B3 hT (by show consO (bP (frzL (l.map Ins.F))) (some [])=_;rw[frzL_insF];rfl) (Rx h1 h2) (by simp -implicitDefEqProofs only[noFL_insO,XP,seval])
section
variable {l:List Blk}{i:Nat}
theorem GM(hT:T 65=some V0)(hl:i<l.length)(hk:l[i].ok)(hs:l.length*56<=bigN):
 evP ⟨env,T,A1⟩ (.code Nh [(0,fslN (l.map Blk.F)),(3,.msl 0 0 i 5),(4,.int .i64 i)] ⟨[.row 0 ((l.take i).map Blk.O) 5],0,[]⟩)=some (.ok .normal [(0,fslN (l.map Blk.F)),(3,.msl 0 0 (i+1) 5),(4,.int .i64 ((i+1:Nat):Int))] ⟨[.row 0 ((l.take (i+1)).map Blk.O) 5],0,[]⟩):=by
 unfold Nh;have hlt:decide ((i:Int)<((l.map Blk.F).length:Int))=true:=by simp[hl]
 have hi:=A6 (F:=Blk.F) hl;have hm:((l.take i).map Blk.O).length=i:=by simp;omega
 have hw:=B2 (i:=i) (by simp only[bigN]at hs;omega);have hz:(i+1)*56<=140737488355328:=by simp only[bigN]at hs;omega
 have ht:=fun K=>Nk (K:=K) hT hk.1 hk.2
 have hx:=map_take (F:=Blk.O) hl;simp only[Blk.F]at hi;simp only[Blk.O]at hx;simp -implicitDefEqProofs only[hlt,hi,hm,hw,hz,Blk.O,ht,hx,XP,seval]
theorem GN(hT:T 65=some V0)(hl:0<l.length)(hk:l[0].ok)(hs:l.length*56<=bigN):
 evP ⟨env,T,A1⟩ (.code Nh [(0,fslN (l.map Blk.F)),(3,.nilsl),(4,.int .i64 0)] ⟨[],0,[]⟩)=some (.ok .normal [(0,fslN (l.map Blk.F)),(3,.msl 0 0 1 5),(4,.int .i64 ((1:Nat):Int))] ⟨[.row 0 ((l.take 1).map Blk.O) 5],0,[]⟩):=by
 unfold Nh;have hlt:decide ((0:Int)<((l.map Blk.F).length:Int))=true:=by simp[hl]
 have hi:=A6 (F:=Blk.F) hl;have hi:=ix_fslN (te:=l5) (k:=.i64) (i:=0) hi rfl;have hi:Hs l5 (fslN (l.map Blk.F)) (.int .i64 0)=some (.fptr (Blk.F l[0]) 0):=hi;have ht:=fun K=>Nk (K:=K) hT hk.1 hk.2
 have hx:=map_take (F:=Blk.O) hl;rw[zqk]at hx;have hx:[Blk.O l[0]]=(l.take 1).map Blk.O:=hx;simp only[Blk.F]at hi;rw[<-hx];simp -implicitDefEqProofs only[hlt,hi,Blk.O,ht,show IntKind.i64.wrap (0+1)=((1:Nat):Int)from rfl,XP,Nat.reduceAdd,Nat.reduceSub,Nat.reduceLT,Nat.reduceLeDiff,Nat.reduceEqDiff,Nat.reduceMul,↓reduceIte]
theorem GO{y:AV}{K:PK}:∃fr',evP ⟨env,T,A1⟩ (.code Nh [(0,fslN (l.map Blk.F)),(3,y),(4,.int .i64 l.length)] K)=some (.ok (.exit 0) fr' K)/\lookP fr' 3=y:=by
 unfold Nh;have hlt:decide ((l.length:Int)<((l.map Blk.F).length:Int))=false:=by simp
 simp -implicitDefEqProofs only[hlt,XP,seval];exact⟨_,rfl,rfl⟩
theorem Ll(hT:T 65=some V0)(hk:∀x∈l,x.ok)(hs:l.length*56<=bigN):AM.Comes ⟨env,T,A1⟩ 53 [fslN (l.map Blk.F)] [ownd 0 5 (l.map Blk.O)]:=by
 obtain⟨fr',y,os,h1,h2,h3⟩:=Fc (P:=⟨env,T,A1⟩) (c:=Nh) (A:=fslN (l.map Blk.F)) (O:=Blk.O) (sz:=5) (l:=l) (fun h=>GN hT h (hk _ (zqc h)) hs) (fun i h=>GM hT h (hk _ (zqc h)) hs) (fun y K=>GO);refine⟨[y],⟨os,0,[]⟩,?_,J2 h3⟩;rw[A3 (c:=NF) (nt:=27) (rs:=[.tmp 2]) rfl (by simp)];unfold NF K0;rcases h3 with⟨_,rfl,rfl⟩|⟨rfl,rfl⟩
 . simp -implicitDefEqProofs only[h1,h2,XP,seval]
 . simp -implicitDefEqProofs only[h1,h2,XP,seval]
theorem Zn{e e':Endd}{K:PK}:N4 env .eql 44 (.agg [.int .i64 e.kind,.int .i64 e.a,.int .i64 e.to,.int .i64 e.els]) (.agg [.int .i64 e'.kind,.int .i64 e'.a,.int .i64 e'.to,.int .i64 e'.els]) K=.val (.bool (decide (e=e'))) K:=by
 have h:∀a b:Int,gC (.int .i64 a) (.int .i64 b)=some (decide (a=b)):=fun a b=>by
  show some (intEq a b)=_
  rw[S6];by_cases e:a=b<;>simp[e]
 rw[bp _ _ rfl rfl];show z8 (A4 (onOB (gC (.int .i64 e.kind) (.int .i64 e'.kind)) none (onOB (gC (.int .i64 e.a) (.int .i64 e'.a)) none (onOB (gC (.int .i64 e.to) (.int .i64 e'.to)) none (onOB (gC (.int .i64 e.els) (.int .i64 e'.els)) none (some true) (some false)) (some false)) (some false)) (some false)) E3) K=_
 simp only[h];obtain⟨a,b,c,d⟩:=e;obtain⟨a',b',c',d'⟩:=e';simp only[Endd.mk.injEq];by_cases h1:a=a'
 . by_cases h2:b=b'
   . by_cases h3:c=c'
     . by_cases h4:d=d'
       . rw[B9 h1,B9 h2,B9 h3,B9 h4,B9 (p:=a=a'/\b=b'/\c=c'/\d=d') ⟨h1,h2,h3,h4⟩];rfl
       . rw[B9 h1,B9 h2,B9 h3,C9 h4,C9 (p:=a=a'/\b=b'/\c=c'/\d=d') (fun h=>h4 h.2.2.2)];rfl
     . rw[B9 h1,B9 h2,C9 h3,C9 (p:=a=a'/\b=b'/\c=c'/\d=d') (fun h=>h3 h.2.2.1)];rfl
   . rw[B9 h1,C9 h2,C9 (p:=a=a'/\b=b'/\c=c'/\d=d') (fun h=>h2 h.2.1)];rfl
 . rw[C9 h1,C9 (p:=a=a'/\b=b'/\c=c'/\d=d') (fun h=>h1 h.1)];rfl
end
def y5:=W3 (fun l:List Blk=>[fslN (l.map Blk.F)]) (fun l=>[ownd 0 5 (l.map Blk.O)]) (fun l=>(∀x∈l,x.ok)/\l.length*56<=bigN)
theorem Sa{l:List Blk}(h1:∀x∈l,x.ok)(h2:l.length*56<=bigN):y5 [fslN (l.map Blk.F)]=some [ownd 0 5 (l.map Blk.O)]:=B5 (a:=fun l:List Blk=>[fslN (l.map Blk.F)]) (fun x y e=>by injection e with e _;rw[map_inj (fun _ _=>Blk.F_inj) (fslN_inj e)]) l ⟨h1,h2⟩
def y6:=W3 (fun p:List Blk×List Blk=>[fslN (p.1.map Blk.F),fslN (p.2.map Blk.F)]) (fun p=>[.bool (decide (p.1=p.2))]) (fun p=>(∀x∈p.1,x.ok)/\p.1.length*56<=bigN)
theorem Sb{l m:List Blk}(h1:∀x∈l,x.ok)(h2:l.length*56<=bigN):y6 [fslN (l.map Blk.F),fslN (m.map Blk.F)]=some [.bool (decide (l=m))]:=B5 (a:=fun p:List Blk×List Blk=>[fslN (p.1.map Blk.F),fslN (p.2.map Blk.F)]) (r:=fun p=>[.bool (decide (p.1=p.2))]) (fun x y e=>by
 injection e with e1 e;injection e with e2 _
 rw[map_inj (fun _ _=>Blk.F_inj) (fslN_inj e1),map_inj (fun _ _=>Blk.F_inj) (fslN_inj e2)]) (l,m) ⟨h1,h2⟩
theorem Nl(hT:T 62=some V1){l m:List Ins}(h1:∀x∈l,x.ok)(h2:l.length*88<=bigN){K:PK}:evP ⟨env,T,A1⟩ (.call 62 [fslN (l.map Ins.F),fslN (m.map Ins.F)] K)=some (.val [.bool (decide (l=m))] ⟨K.os++[],K.ext,K.tch⟩):=B3 hT (by show consO (bP (frzL (l.map Ins.F))) (consO (bP (frzL (m.map Ins.F))) (some []))=_;rw[frzL_insF,frzL_insF];rfl) (Ry h1 h2) (by simp -implicitDefEqProofs only[XP,seval])
section
variable {l m:List Blk}{i:Nat}
theorem GP(hT:T 62=some V1)(hl:i<l.length)(hm:i<m.length)(hk:l[i].ok)(hs:l.length*56<=bigN)(he:l[i]=m[i]):
 evP ⟨env,T,A1⟩ (.code Ng [(0,fslN (l.map Blk.F)),(1,fslN (m.map Blk.F)),(5,.int .i64 i)] ⟨[],0,[]⟩)=some (.ok .normal [(0,fslN (l.map Blk.F)),(1,fslN (m.map Blk.F)),(5,.int .i64 ((i+1:Nat):Int))] ⟨[],0,[]⟩):=by
 unfold Ng;have hlt:decide ((i:Int)<((l.map Blk.F).length:Int))=true:=by simp[hl]
 have h1:=A6 (F:=Blk.F) hl;have h2:=A6 (F:=Blk.F) hm;have hw:=B2 (i:=i) (by simp only[bigN]at hs;omega);have ht:=fun K=>Nl (K:=K) hT (m:=m[i].code) hk.1 hk.2
 have e1:l[i].e=m[i].e:=by rw[he]
 have e2:l[i].code=m[i].code:=by rw[he]
 rw[B9 e2]at ht;simp only[Blk.F]at h1 h2;simp -implicitDefEqProofs only[hlt,h1,h2,hw,ht,u_not,Zn,B9 e1,XP,seval]
theorem GQ(hT:T 62=some V1)(hl:i<l.length)(hm:i<m.length)(hk:l[i].ok)(he:¬l[i]=m[i]):
 ∃fr',evP ⟨env,T,A1⟩ (.code Ng [(0,fslN (l.map Blk.F)),(1,fslN (m.map Blk.F)),(5,.int .i64 i)] ⟨[],0,[]⟩)=some (.ok .ret fr' ⟨[],0,[]⟩)/\lookP fr' 4=.bool false:=by
 unfold Ng;have hlt:decide ((i:Int)<((l.map Blk.F).length:Int))=true:=by simp[hl]
 have h1:=A6 (F:=Blk.F) hl;have h2:=A6 (F:=Blk.F) hm;have ht:=fun K=>Nl (K:=K) hT (m:=m[i].code) hk.1 hk.2
 simp only[Blk.F]at h1 h2;by_cases e1:l[i].e=m[i].e
 . have e2:¬l[i].code=m[i].code:=fun h=>he (by cases h3:l[i];cases h4:m[i];rw[h3,h4]at e1 h;cases e1;cases h;rfl)
   rw[C9 e2]at ht;simp -implicitDefEqProofs only[hlt,h1,h2,ht,u_not,Zn,B9 e1,XP,seval];exact⟨_,rfl,rfl⟩
 . simp -implicitDefEqProofs only[hlt,h1,h2,u_not,Zn,C9 e1,XP,seval]
   exact⟨_,rfl,rfl⟩
theorem GR:∃fr',evP ⟨env,T,A1⟩ (.code Ng [(0,fslN (l.map Blk.F)),(1,fslN (m.map Blk.F)),(5,.int .i64 l.length)] ⟨[],0,[]⟩)=some (.ok (.exit 0) fr' ⟨[],0,[]⟩):=by
 unfold Ng;have hlt:decide ((l.length:Int)<((l.map Blk.F).length:Int))=false:=by simp
 simp -implicitDefEqProofs only[hlt,XP,seval];exact⟨_,rfl⟩
theorem Lm(hT:T 62=some V1)(hk:∀x∈l,x.ok)(hs:l.length*56<=bigN):AM.Comes ⟨env,T,A1⟩ 47 [fslN (l.map Blk.F),fslN (m.map Blk.F)] [.bool (decide (l=m))]:=by
 refine⟨[.bool (decide (l=m))],⟨[],0,[]⟩,?_,back_of rfl zqb rfl rfl rfl⟩;rw[A3 (c:=NC) (nt:=42) (rs:=[.tmp 4]) rfl (by simp)];unfold NC K0;by_cases hm:l.length=m.length
 . have hn:(!decide (((l.map Blk.F).length:Int)=((m.map Blk.F).length:Int)))=false:=by simp[hm]
   rcases same_loop (P:=⟨env,T,A1⟩) (c:=Ng) (A:=fslN (l.map Blk.F)) (B:=fslN (m.map Blk.F)) hm (fun i h h' e=>GP hT h h' (hk _ (zqc h)) hs e) (fun i h h' e=>GQ hT h h' (hk _ (zqc h)) e) GR with⟨h1,fr',h2⟩|⟨h1,fr',h2,h3⟩
   . simp -implicitDefEqProofs only[hn,B9 h1,h2,XP,seval]
   . simp -implicitDefEqProofs only[hn,C9 h1,h2,h3,XP,seval]
 . have hn:(!decide (((l.map Blk.F).length:Int)=((m.map Blk.F).length:Int)))=true:=by simp;omega
   have h1:¬l=m:=fun h=>hm (by rw[h])
   simp -implicitDefEqProofs only[hn,C9 h1,XP,seval]
end
structure Cod where
 name:List UInt8
 ty:Int
 ps:Int
 regs:List Int
 blocks:List Blk
deriving DecidableEq
def Cod.F(x:Cod):AV:=.agg [.str x.name,.int .i64 x.ty,.int .i64 x.ps,fslN (ints x.regs),fslN (x.blocks.map Blk.F)]
def Cod.O(x:Cod):AV:=.agg [.str x.name,.int .i64 x.ty,.int .i64 x.ps,ownd 0 1 (ints x.regs),ownd 0 5 (x.blocks.map Blk.O)]
def Cod.cs(x:Cod)(u v:AV):List AV:=[.str x.name,.int .i64 x.ty,.int .i64 x.ps,u,v]
def Cod.ok(x:Cod):Prop:=x.regs.length*8<=bigN/\(∀y∈x.blocks,y.ok)/\x.blocks.length*56<=bigN
theorem Cod.F_inj{x y:Cod}(h:x.F=y.F):x=y:=by
 cases x;cases y;simp only[Cod.F,AV.agg.injEq,List.cons.injEq,AV.int.injEq,AV.str.injEq,true_and,and_true]at h;obtain⟨rfl,rfl,rfl,h1,h2⟩:=h;rw[ints_inj (fslN_inj h1),map_inj (fun _ _=>Blk.F_inj) (fslN_inj h2)]
theorem frzL_blkF(l:List Blk):frzL (l.map Blk.F)=some (l.map Blk.F):=m0 Blk.frzF l
theorem Wv(l:List Blk):frzL (l.map Blk.O)=some (l.map Blk.F):=m0 Blk.frzO l
theorem noFL_blkO(l:List Blk):noFL (l.map Blk.O)=true:=Dn Blk.noF l
theorem Cod.viewF{os:List PO}(x:Cod):viewA os x.F=some x.F:=by
 unfold Cod.F;simp -implicitDefEqProofs only[frzL_blkF,frzL_ints,XP,seval]
theorem Cod.frzF(x:Cod):frzC x.F=some x.F:=by
 unfold Cod.F;simp -implicitDefEqProofs only[frzL_blkF,frzL_ints,XP,seval]
theorem Cod.frzO(x:Cod):frzC x.O=some x.F:=by
 unfold Cod.F Cod.O;simp -implicitDefEqProofs only[Wv,frzL_ints,XP,seval]
theorem Cod.noF(x:Cod):noF x.O=true:=by
 unfold Cod.O;simp -implicitDefEqProofs only[noFL_blkO,noFL_ints,XP,seval]
theorem nX(hT:T 52=some G5){l:List Int}(h:l.length*8<=bigN){K:PK}:evP ⟨env,T,A1⟩ (.call 52 [fslN (ints l)] K)=some (.val (openTs K.os.length [ownd 0 1 (ints l)]).1 ⟨K.os++(openTs K.os.length [ownd 0 1 (ints l)]).2,K.ext,K.tch⟩):=B3 hT (by show consO (bP (frzL (ints l))) (some [])=_;rw[frzL_ints];rfl) (l6 h) (by rfl)
theorem dQ(hT:T 53=some y5){l:List Blk}(h1:∀x∈l,x.ok)(h2:l.length*56<=bigN){K:PK}:evP ⟨env,T,A1⟩ (.call 53 [fslN (l.map Blk.F)] K)=some (.val (openTs K.os.length [ownd 0 5 (l.map Blk.O)]).1 ⟨K.os++(openTs K.os.length [ownd 0 5 (l.map Blk.O)]).2,K.ext,K.tch⟩):=B3 hT (by show consO (bP (frzL (l.map Blk.F))) (some [])=_;rw[frzL_blkF];rfl) (Sa h1 h2) (by simp -implicitDefEqProofs only[noFL_blkO,XP,seval])
theorem Ww(hT:T 23=some Z5){l m:List Int}(h:l.length*8<=bigN){K:PK}:evP ⟨env,T,A1⟩ (.call 23 [fslN (ints l),fslN (ints m)] K)=some (.val [.bool (decide (l=m))] ⟨K.os++[],K.ext,K.tch⟩):=B3 hT (by show consO (bP (frzL (ints l))) (consO (bP (frzL (ints m))) (some []))=_;rw[frzL_ints,frzL_ints];rfl) (Je h) (by rfl)
theorem dS(hT:T 47=some y6){l m:List Blk}(h1:∀x∈l,x.ok)(h2:l.length*56<=bigN){K:PK}:evP ⟨env,T,A1⟩ (.call 47 [fslN (l.map Blk.F),fslN (m.map Blk.F)] K)=some (.val [.bool (decide (l=m))] ⟨K.os++[],K.ext,K.tch⟩):=B3 hT (by show consO (bP (frzL (l.map Blk.F))) (consO (bP (frzL (m.map Blk.F))) (some []))=_;rw[frzL_blkF,frzL_blkF];rfl) (Sb h1 h2) (by simp -implicitDefEqProofs only[XP,seval])
theorem Sc(h21:T 52=some G5)(h22:T 53=some y5){x:Cod}(h:x.ok):AM.Comes ⟨env,T,A1⟩ 41 [x.F] [x.O]:=by
 refine⟨[.agg (x.cs (.msl 1 0 (ints x.regs).length 1) (.msl 2 0 (x.blocks.map Blk.O).length 5))],⟨[.row 1 [.agg (x.cs (.msl 1 0 (ints x.regs).length 1) (.msl 2 0 (x.blocks.map Blk.O).length 5))] 5,.row 0 (ints x.regs) 1,.row 0 (x.blocks.map Blk.O) 5],0,[]⟩,?_,?_⟩
 . rw[A3 (c:=MW) (nt:=12) (rs:=[.cell 2 41]) rfl (by simp)]
   unfold MW K0;have ht1:=fun K=>nX (K:=K) h21 h.1
   have ht2:=fun K=>dQ (K:=K) h22 h.2.1 h.2.2
   simp -implicitDefEqProofs only[Cod.F,Cod.cs,ht1,ht2,XP,seval]
 . refine back_of (vs':=[.agg (x.cs (.msl 1 0 (ints x.regs).length 1) (.msl 2 0 (x.blocks.map Blk.O).length 5))]) (os':=[.row 1 [.agg (x.cs (.msl 1 0 (ints x.regs).length 1) (.msl 2 0 (x.blocks.map Blk.O).length 5))] 5,.row 0 (ints x.regs) 1,.row 0 (x.blocks.map Blk.O) 5]) ?_ ?_ (us:=[.agg (x.cs (.msl 0 0 (ints x.regs).length 1) (.msl 1 0 (x.blocks.map Blk.O).length 5))]) (ps:=[.row 0 (ints x.regs) 1,.row 0 (x.blocks.map Blk.O) 5]) ?_ ?_ ?_
   all_goals simp -implicitDefEqProofs only[Cod.cs,Cod.O,XP,seval]
theorem Sd(h12:T 23=some Z5)(h28:T 47=some y6){x y:Cod}(h:x.ok):AM.Comes ⟨env,T,A1⟩ 36 [x.F,y.F] [.bool (decide (x=y))]:=by
 refine⟨[.bool (decide (x=y))],⟨[],0,[]⟩,?_,back_of rfl zqb rfl rfl rfl⟩;rw[A3 (c:=MV) (nt:=38) (rs:=[.tmp 4]) rfl (by simp)];unfold MV K0;have ht:=fun K=>Ww (K:=K) h12 (m:=y.regs) h.1
 have ht2:=fun K=>dS (K:=K) h28 (m:=y.blocks) h.2.1 h.2.2
 have ext:x=y↔x.name=y.name/\x.ty=y.ty/\x.ps=y.ps/\x.regs=y.regs/\x.blocks=y.blocks:=by
  cases x;cases y;simp
 by_cases h1:x.name=y.name
 . by_cases h2:x.ty=y.ty
   . by_cases h3:x.ps=y.ps
     . by_cases h4:x.regs=y.regs
       . have e:decide (x=y)=decide (x.blocks=y.blocks):=by simp[ext,h1,h2,h3,h4]
         rw[B9 h4]at ht;simp -implicitDefEqProofs only[Cod.F,ht,ht2,e,B9 h1,B9 h2,B9 h3,XP,seval]
       . have e:decide (x=y)=false:=C9 fun e=>h4 (ext.1 e).2.2.2.1
         rw[C9 h4]at ht;simp -implicitDefEqProofs only[Cod.F,ht,e,B9 h1,B9 h2,B9 h3,XP,seval]
     . have e:decide (x=y)=false:=C9 fun e=>h3 (ext.1 e).2.2.1
       simp -implicitDefEqProofs only[Cod.F,e,B9 h1,B9 h2,C9 h3,XP,seval]
   . have e:decide (x=y)=false:=C9 fun e=>h2 (ext.1 e).2.1
     simp -implicitDefEqProofs only[Cod.F,e,B9 h1,C9 h2,XP,seval]
 . have e:decide (x=y)=false:=C9 fun e=>h1 (ext.1 e).1
   simp -implicitDefEqProofs only[Cod.F,e,C9 h1,XP,seval]
section
variable {l:List Int}
theorem wQ{t:Nat}{K:PK}(h:L6 env t=.slc):N4 env .eql t .nilsl .nilsl K=.val (.bool true) K:=by rw[bp _ _ rfl rfl,h];rfl
theorem wR{t:Nat}{K:PK}(h:L6 env t=.slc):N4 env .eql t (.fsl [] false) .nilsl K=.val (.bool false) K:=by rw[bp _ _ rfl rfl,h];rfl
theorem rZ{t:Nat}{K:PK}{e:AV}{es:List AV}(h:L6 env t=.slc):N4 env .eql t (fslN (e::es)) .nilsl K=.val (.bool false) K:=by rw[bp _ _ rfl rfl,h];rfl
theorem BY(n:Nat):F1 n []=true:=rfl
theorem nY:AM.Comes ⟨env,T,A1⟩ 28 [.nilsl] [ownd 0 1 (ints [])]:=by
 refine⟨[.nilsl],⟨[],0,[]⟩,?_,J2 (.inl ⟨rfl,rfl,rfl⟩)⟩;rw[A3 (c:=zK) (nt:=8) (rs:=[.tmp 2]) rfl (by simp)];unfold zK K0;simp -implicitDefEqProofs only[wQ (t:=26) rfl,XP,seval]
theorem nZ:AM.Comes ⟨env,T,A1⟩ 28 [.fsl [] false] [ownd 0 1 (ints [])]:=by
 refine⟨[.msl 0 0 0 1],⟨[.row 0 [] 1],0,[]⟩,?_,J2 (.inr ⟨rfl,rfl⟩)⟩;rw[A3 (c:=zK) (nt:=8) (rs:=[.tmp 2]) rfl (by simp)];unfold zK K0;simp -implicitDefEqProofs only[wR (t:=26) rfl,BY,XP,seval]
theorem lA:∀l:List Int,F1 1 (ints l)=true
 |[]=>rfl
 |x::l=>lA l
theorem iJ{x:Int}{l:List Int}(hs:(x::l).length*8<=bigN):AM.Comes ⟨env,T,A1⟩ 28 [fslN (ints (x::l))] [ownd 0 1 (ints (x::l))]:=by
 refine⟨[.msl 0 0 (ints (x::l)).length 1],⟨[.row 0 (ints (x::l)) 1],0,[]⟩,?_,J2 (.inr ⟨rfl,rfl⟩)⟩;rw[A3 (c:=zK) (nt:=8) (rs:=[.tmp 2]) rfl (by simp)];unfold zK K0;have h1:∀K:PK,N4 env .eql 26 (fslN (ints (x::l))) .nilsl K=.val (.bool false) K:=fun K=>rZ (t:=26) rfl
 have h2:=lA (x::l);have h3:(ints (x::l)).isEmpty=false:=rfl;have h4:(ints (x::l)).length*8<=140737488355328:=by simpa[bigN]using hs
 generalize ints (x::l)=es at h1 h2 h3 h4;simp -implicitDefEqProofs only[h1,h2,h3,h4,XP,seval]
theorem sB{P:PE}(hP:PEok P)(he:P=⟨env,T,A1⟩):TC P.E 28 G5:=by
 subst he;refine EE hP (fun a args rs hg a' ha=>?_) (by unfold G5 W3;rw[dif_neg];rintro⟨x,_,h⟩;cases h);obtain⟨l,h1,h2,rfl⟩:=mG hg;injection h2 with h2 h3
 subst h2 h3;cases l with
 | nil =>
  rcases List.mem_cons.1 ha with rfl|ha
  . exact nY
  . obtain rfl:=zqq.1 ha;exact nZ
 | cons x l =>
  obtain rfl:=zqq.1 (show a'∈[fslN (ints (x::l))]from ha);exact iJ h1
end
structure Glo where
 name:List UInt8
 ty:Int
 size:Int
 at_:Int
deriving DecidableEq
structure Modl where
 gs:List Glo
 fs:List Cod
deriving DecidableEq
def Glo.F(g:Glo):AV:=.agg [.str g.name,.int .i64 g.ty,.int .i64 g.size,.int .i64 g.at_]
def Modl.F(m:Modl):AV:=.agg [fslN (m.gs.map Glo.F),fslN (m.fs.map Cod.F)]
def Modl.O(m:Modl):AV:=.agg [ownd 0 4 (m.gs.map Glo.F),ownd 0 5 (m.fs.map Cod.O)]
abbrev GS(l:List Bool):List AV:=l.map AV.bool
def chkF(m:Modl)(c:Cod):AV:=.agg [fslN (m.gs.map Glo.F),fslN (m.fs.map Cod.F),.str c.name,.int .i64 c.ty,.int .i64 c.ps,fslN (ints c.regs),fslN (c.blocks.map Blk.F)]
theorem Glo.F_inj{x y:Glo}(h:x.F=y.F):x=y:=by
 cases x;cases y;simp only[Glo.F,AV.agg.injEq,List.cons.injEq,AV.int.injEq,AV.str.injEq,true_and,and_true]at h;obtain⟨rfl,rfl,rfl,rfl⟩:=h;rfl
theorem Endd.F_inj{x y:Endd}(h:x.F=y.F):x=y:=by
 cases x;cases y;simp only[Endd.F,AV.agg.injEq,List.cons.injEq,AV.int.injEq,true_and,and_true]at h;obtain⟨rfl,rfl,rfl,rfl⟩:=h;rfl
theorem Modl.F_inj{x y:Modl}(h:x.F=y.F):x=y:=by
 cases x;cases y;simp only[Modl.F,AV.agg.injEq,List.cons.injEq,and_true]at h;rw[map_inj (fun _ _=>Glo.F_inj) (fslN_inj h.1),map_inj (fun _ _=>Cod.F_inj) (fslN_inj h.2)]
theorem fslN_iff{l m:List AV}:fslN l=fslN m↔l=m:=⟨fslN_inj,fun h=>h▸rfl⟩
theorem ints_iff{l m:List Int}:l.map (AV.int .i64)=m.map (AV.int .i64)↔l=m:=⟨ints_inj,fun h=>h▸rfl⟩
theorem Ins.F_iff{x y:Ins}:x.F=y.F↔x=y:=⟨Ins.F_inj,fun h=>h▸rfl⟩
theorem Cod.F_iff{x y:Cod}:x.F=y.F↔x=y:=⟨Cod.F_inj,fun h=>h▸rfl⟩
theorem Endd.F_iff{x y:Endd}:x.F=y.F↔x=y:=⟨Endd.F_inj,fun h=>h▸rfl⟩
theorem Modl.F_iff{x y:Modl}:x.F=y.F↔x=y:=⟨Modl.F_inj,fun h=>h▸rfl⟩
theorem codL_iff{l m:List Cod}:l.map Cod.F=m.map Cod.F↔l=m:=⟨map_inj fun _ _=>Cod.F_inj,fun h=>h▸rfl⟩
theorem gloL_iff{l m:List Glo}:l.map Glo.F=m.map Glo.F↔l=m:=⟨map_inj fun _ _=>Glo.F_inj,fun h=>h▸rfl⟩
theorem Glo.frzF(x:Glo):frzC x.F=some x.F:=by unfold Glo.F;simp -implicitDefEqProofs only[XP,seval]
theorem frzL_gloF(l:List Glo):frzL (l.map Glo.F)=some (l.map Glo.F):=m0 Glo.frzF l
theorem frzL_codF(l:List Cod):frzL (l.map Cod.F)=some (l.map Cod.F):=m0 Cod.frzF l
theorem oB(l:List Cod):frzL (l.map Cod.O)=some (l.map Cod.F):=m0 Cod.frzO l
theorem Endd.viewF{os:List PO}(x:Endd):viewA os x.F=some x.F:=by unfold Endd.F;simp -implicitDefEqProofs only[XP,seval]
theorem Modl.viewF{os:List PO}(x:Modl):viewA os x.F=some x.F:=by unfold Modl.F;simp -implicitDefEqProofs only[frzL_gloF,frzL_codF,XP,seval]
theorem chk_viewF{os:List PO}(m:Modl)(c:Cod):viewA os (chkF m c)=some (chkF m c):=by unfold chkF;simp -implicitDefEqProofs only[frzL_gloF,frzL_codF,frzL_ints,frzL_blkF,XP,seval]
theorem chk_iff{m m':Modl}{c c':Cod}:chkF m c=chkF m' c'↔m=m'/\c=c':=by
 constructor
 . intro h
   simp only[chkF,AV.agg.injEq,List.cons.injEq,AV.int.injEq,AV.str.injEq,and_true]at h;obtain⟨h1,h2,h3,⟨_,h4⟩,⟨_,h5⟩,h6,h7⟩:=h;exact⟨Modl.F_inj (by simp only[Modl.F];rw[h1,h2]),Cod.F_inj (by simp only[Cod.F];rw[h3,h4,h5,h6,h7])⟩
 . rintro⟨rfl,rfl⟩;rfl
theorem Glo.noF(x:Glo):noF x.F=true:=by unfold Glo.F;simp -implicitDefEqProofs only[XP,seval]
theorem noFL_gloO(l:List Glo):noFL (l.map Glo.F)=true:=Dn Glo.noF l
theorem noFL_codO(l:List Cod):noFL (l.map Cod.O)=true:=Dn Cod.noF l
theorem Cod.okO(c:Cod):(c.O.cells.all fun c=>(ownOf c).isSome||clo c)=true:=rfl
theorem Modl.okO(m:Modl):(m.O.cells.all fun c=>(ownOf c).isSome||clo c)=true:=rfl
theorem Modl.noF(m:Modl):noF m.O=true:=by unfold Modl.O;simp -implicitDefEqProofs only[noFL_gloO,noFL_codO,XP,seval]
def F0(n:Int):Bool:=decide (n=1)||decide (n=2)
def thereD(a n:Int):Bool:=decide (0<=a)&&decide (a<n)
def Ga(t:Int):Int:=if t=2 then 2 else 1
def wrapD(t v:Int):Int:=if t=3 then IntKind.wrap .i64 (IntKind.wrap .i8 v)else if t=1 then IntKind.wrap .i64 (IntKind.wrap .i32 v)else if t=2 then v else 0
def E2:List UInt8:=[109,97,105,110]
def VJ:=z0z @Int.ofNat_inj<|z0z @List.cons.injEq.{0}<|z0z @AV.int.injEq<|z0z @AV.str.injEq<|z0z @AV.bool.injEq<|z0z @AV.agg.injEq<|z0z @true_and<|z0z @and_true<|z0z @fslN_iff<|z0z @chk_iff<|z0z @Ins.F_iff<|z0z @Cod.F_iff<|z0z @Modl.F_iff<|z0z @Endd.F_iff<|z0z @ints_iff<|z0z @codL_iff<|@gloL_iff
def VV:=z0z @chk_viewF<|z0z @Ins.viewF<|z0z @Cod.viewF<|z0z @Modl.viewF<|z0z @Endd.viewF<|z0z @frzL_ints<|z0z @frzL_insF<|z0z @frzL_blkF<|z0z @frzL_codF<|@frzL_gloF
def VN:=z0z @Cod.okO<|z0z @Modl.okO<|z0z @Modl.noF<|z0z @noFL_ints<|z0z @noFL_insO<|z0z @noFL_blkO<|z0z @noFL_codO<|z0z @noFL_gloO<|z0z @Ins.noF<|z0z @Blk.noF<|@Cod.noF
theorem Oa  {n:Int}:AM.Comes ⟨env,T,A1⟩ 18 [.int .i64 n] [.bool (F0 n)]:=by
 refine⟨[.bool (F0 n)],⟨[],0,[]⟩,?_,back_of rfl zqb rfl rfl rfl⟩;rw[A3 (c:=MH) (nt:=9) (rs:=[.tmp 2]) rfl (by simp)];unfold MH;unfold K0;unfold F0;by_cases h1:n=1
 . by_cases h2:n=2
   . simp -implicitDefEqProofs only[eq_true h1,eq_true h2,XP,seval]
   . simp -implicitDefEqProofs only[eq_true h1,h2,XP,seval]
 . by_cases h2:n=2
   . simp -implicitDefEqProofs only[h1,eq_true h2,XP,seval]
   . simp -implicitDefEqProofs only[h1,h2,XP,seval]
def N1:=W3 (fun p:(Int)=>[.int .i64 p]) (fun p=>[.bool (F0 p)]) (fun p=>True)
theorem Gw(hir_number:T 18=some N1){n:Int}{K:PK}:evP ⟨env,T,A1⟩ (.call 18 [.int .i64 n] K)=some (.val (openTs K.os.length [.bool (F0 n)]).1 ⟨K.os++(openTs K.os.length [.bool (F0 n)]).2,K.ext,K.tch⟩):=B3 hir_number (by simp -implicitDefEqProofs only[VV,XP,seval]) (B5 (a:=fun p:(Int)=>[.int .i64 p]) (r:=fun p=>[.bool (F0 p)]) (fun x y e=>by simp only[VJ]at e;simp only[e]) (n) trivial) (by simp -implicitDefEqProofs only[VN,XP,seval])
theorem Zo  (hP:PEok ⟨env,T,A1⟩):TC env 18 N1:=B8 hP fun p h=>Oa
theorem Se  {a:Int} {n:Int}:AM.Comes ⟨env,T,A1⟩ 46 [.int .i64 a,.int .i64 n] [.bool (thereD a n)]:=by
 refine⟨[.bool (thereD a n)],⟨[],0,[]⟩,?_,back_of rfl zqb rfl rfl rfl⟩;rw[A3 (c:=NB) (nt:=12) (rs:=[.tmp 4]) rfl (by simp)];unfold NB;unfold K0;unfold thereD;by_cases h1:0<=a
 . by_cases h2:a<n
   . simp -implicitDefEqProofs only[eq_true h1,eq_true h2,XP,seval]
   . simp -implicitDefEqProofs only[eq_true h1,h2,XP,seval]
 . by_cases h2:a<n
   . simp -implicitDefEqProofs only[h1,eq_true h2,XP,seval]
   . simp -implicitDefEqProofs only[h1,h2,XP,seval]
def D4:=W3 (fun p:(Int)×(Int)=>[.int .i64 p.1,.int .i64 p.2]) (fun p=>[.bool (thereD p.1 p.2)]) (fun p=>True)
theorem O0(hir_there:T 46=some D4){a:Int}{n:Int}{K:PK}:evP ⟨env,T,A1⟩ (.call 46 [.int .i64 a,.int .i64 n] K)=some (.val (openTs K.os.length [.bool (thereD a n)]).1 ⟨K.os++(openTs K.os.length [.bool (thereD a n)]).2,K.ext,K.tch⟩):=B3 hir_there (by simp -implicitDefEqProofs only[VV,XP,seval]) (B5 (a:=fun p:(Int)×(Int)=>[.int .i64 p.1,.int .i64 p.2]) (r:=fun p=>[.bool (thereD p.1 p.2)]) (fun x y e=>by simp only[VJ]at e;simp only[e]) (a,n) trivial) (by simp -implicitDefEqProofs only[VN,XP,seval])
theorem dT  (hP:PEok ⟨env,T,A1⟩):TC env 46 D4:=B8 hP fun p h=>Se
theorem Vf  {t:Int}:AM.Comes ⟨env,T,A1⟩ 60 [.int .i64 t] [.int .i64 (Ga t)]:=by
 refine⟨[.int .i64 (Ga t)],⟨[],0,[]⟩,?_,back_of rfl zqb rfl rfl rfl⟩;rw[A3 (c:=NK) (nt:=5) (rs:=[.tmp 2]) rfl (by simp)];unfold NK;unfold K0;unfold Ga;by_cases h1:t=2
 . simp -implicitDefEqProofs only[eq_true h1,XP,seval]
 . simp -implicitDefEqProofs only[h1,XP,seval]
def Do:=W3 (fun p:(Int)=>[.int .i64 p]) (fun p=>[.int .i64 (Ga p)]) (fun p=>True)
theorem sC(hir_wide:T 60=some Do){t:Int}{K:PK}:evP ⟨env,T,A1⟩ (.call 60 [.int .i64 t] K)=some (.val (openTs K.os.length [.int .i64 (Ga t)]).1 ⟨K.os++(openTs K.os.length [.int .i64 (Ga t)]).2,K.ext,K.tch⟩):=B3 hir_wide (by simp -implicitDefEqProofs only[VV,XP,seval]) (B5 (a:=fun p:(Int)=>[.int .i64 p]) (r:=fun p=>[.int .i64 (Ga p)]) (fun x y e=>by simp only[VJ]at e;simp only[e]) (t) trivial) (by simp -implicitDefEqProofs only[VN,XP,seval])
theorem iK  (hP:PEok ⟨env,T,A1⟩):TC env 60 Do:=B8 hP fun p h=>Vf
theorem B1(k j:IntKind)(n:Int):O8 (.int k) (.int j n)=some (.int k (k.wrap n)):=V4 k n
theorem Ob  {t:Int} {v:Int}:AM.Comes ⟨env,T,A1⟩ 49 [.int .i64 t,.int .i64 v] [.int .i64 (wrapD t v)]:=by
 refine⟨[.int .i64 (wrapD t v)],⟨[],0,[]⟩,?_,back_of rfl zqb rfl rfl rfl⟩;rw[A3 (c:=NE) (nt:=19) (rs:=[.tmp 4]) rfl (by simp)];unfold NE;unfold K0;unfold wrapD;by_cases h1:t=3
 . simp -implicitDefEqProofs only[B1,eq_true h1,XP,seval]
 by_cases h2:t=1
 . simp -implicitDefEqProofs only[B1,h1,eq_true h2,XP,seval]
 by_cases h3:t=2
 . simp -implicitDefEqProofs only[B1,h1,h2,eq_true h3,XP,seval]
 simp -implicitDefEqProofs only[B1,h1,h2,h3,XP,seval]
def F2:=W3 (fun p:(Int)×(Int)=>[.int .i64 p.1,.int .i64 p.2]) (fun p=>[.int .i64 (wrapD p.1 p.2)]) (fun p=>True)
theorem Bs(hword_Wrap:T 49=some F2){t:Int}{v:Int}{K:PK}:evP ⟨env,T,A1⟩ (.call 49 [.int .i64 t,.int .i64 v] K)=some (.val (openTs K.os.length [.int .i64 (wrapD t v)]).1 ⟨K.os++(openTs K.os.length [.int .i64 (wrapD t v)]).2,K.ext,K.tch⟩):=B3 hword_Wrap (by simp -implicitDefEqProofs only[VV,XP,seval]) (B5 (a:=fun p:(Int)×(Int)=>[.int .i64 p.1,.int .i64 p.2]) (r:=fun p=>[.int .i64 (wrapD p.1 p.2)]) (fun x y e=>by simp only[VJ]at e;simp only[e]) (t,v) trivial) (by simp -implicitDefEqProofs only[VN,XP,seval])
theorem Zp  (hP:PEok ⟨env,T,A1⟩):TC env 49 F2:=B8 hP fun p h=>Ob
theorem An(hir_number:T 18=some N1){n:Int}:AM.Comes ⟨env,T,A1⟩ 31 [.int .i64 n] [.bool (!F0 n)]:=by
 refine⟨[.bool (!F0 n)],⟨[],0,[]⟩,?_,back_of rfl zqb rfl rfl rfl⟩;rw[A3 (c:=MQ) (nt:=6) (rs:=[.tmp 2]) rfl (by simp)];unfold MQ;unfold K0;simp -implicitDefEqProofs only[Gw hir_number,XP,seval]
def C7:=W3 (fun p:(Int)=>[.int .i64 p]) (fun p=>[.bool (!F0 p)]) (fun p=>True)
theorem o8(hir_checker_code_1:T 31=some C7){n:Int}{K:PK}:evP ⟨env,T,A1⟩ (.call 31 [.int .i64 n] K)=some (.val (openTs K.os.length [.bool (!F0 n)]).1 ⟨K.os++(openTs K.os.length [.bool (!F0 n)]).2,K.ext,K.tch⟩):=B3 hir_checker_code_1 (by simp -implicitDefEqProofs only[VV,XP,seval]) (B5 (a:=fun p:(Int)=>[.int .i64 p]) (r:=fun p=>[.bool (!F0 p)]) (fun x y e=>by simp only[VJ]at e;simp only[e]) (n) trivial) (by simp -implicitDefEqProofs only[VN,XP,seval])
theorem Dp(hir_number:T 18=some N1)(hP:PEok ⟨env,T,A1⟩):TC env 31 C7:=B8 hP fun p h=>An hir_number
theorem Jf  {c:Cod}:AM.Comes ⟨env,T,A1⟩ 35 [c.F] [.bool (decide (c.name=E2))]:=by
 refine⟨[.bool (decide (c.name=E2))],⟨[],0,[]⟩,?_,back_of rfl zqb rfl rfl rfl⟩;rw[A3 (c:=MU) (nt:=6) (rs:=[.tmp 2]) rfl (by simp)];unfold MU;unfold K0;unfold Cod.F E2;simp -implicitDefEqProofs only[XP,seval]
def K6:=W3 (fun p:(Cod)=>[p.F]) (fun p=>[.bool (decide (p.name=E2))]) (fun p=>True)
theorem Jg(hir_mainOf_1:T 35=some K6){c:Cod}{K:PK}:evP ⟨env,T,A1⟩ (.call 35 [c.F] K)=some (.val (openTs K.os.length [.bool (decide (c.name=E2))]).1 ⟨K.os++(openTs K.os.length [.bool (decide (c.name=E2))]).2,K.ext,K.tch⟩):=B3 hir_mainOf_1 (by simp -implicitDefEqProofs only[VV,XP,seval]) (B5 (a:=fun p:(Cod)=>[p.F]) (r:=fun p=>[.bool (decide (p.name=E2))]) (fun x y e=>by simp only[VJ]at e;simp only[e]) (c) trivial) (by simp -implicitDefEqProofs only[VN,XP,seval])
theorem Sf  (hP:PEok ⟨env,T,A1⟩):TC env 35 K6:=B8 hP fun p h=>Jf
def writesD(x:Ins):Int:=if x.op=1 then x.dst else if x.op=2 then x.dst else if x.op=3 then x.dst else if x.op=4 then x.dst else if x.op=5 then x.dst else if x.op=7 then x.dst else if x.op=10 then x.dst else if x.op=9 then(if -1<=x.dst then x.dst else -1)else -1
def readsD(x:Ins):List Int:=if x.op=2 then [x.a]else if x.op=4 then [x.a]else if x.op=5 then [x.a]else if x.op=8 then [x.a]else if x.op=11 then [x.a]else if x.op=3 then [x.a,x.b]else if x.op=6 then [x.a,x.b]else if x.op=9 then x.args else []
theorem l7(a b:Int)(K:PK):Jy (E9 env .max [3,3] [.int .i64 a,.int .i64 b] K)=.val (.int .i64 (if b<=a then a else b)) K:=by
 show Jy ((Ku [.int .i64 b] (.int .i64 a)).map (·,K))=_
 show Jy ((some (AV.int .i64 (bif intLe b a then a else b))).map (·,K))=_
 rw[N6];by_cases hb:b<=a
 . rw[if_pos hb,decide_eq_true hb];rfl
 . rw[if_neg hb,decide_eq_false hb];rfl
theorem Oc  {x:Ins}:AM.Comes ⟨env,T,A1⟩ 56 [x.F] [.int .i64 (writesD x)]:=by
 refine⟨[.int .i64 (writesD x)],⟨[],0,[]⟩,?_,back_of rfl zqb rfl rfl rfl⟩;rw[A3 (c:=NG) (nt:=20) (rs:=[.tmp 2]) rfl (by simp)];unfold NG;unfold K0;unfold Ins.F writesD;by_cases e1:x.op=1
 . simp -implicitDefEqProofs only[l7,eq_true e1,XP,seval]
 by_cases e2:x.op=2
 . simp -implicitDefEqProofs only[l7,e1,eq_true e2,XP,seval]
 by_cases e3:x.op=3
 . simp -implicitDefEqProofs only[l7,e1,e2,eq_true e3,XP,seval]
 by_cases e4:x.op=4
 . simp -implicitDefEqProofs only[l7,e1,e2,e3,eq_true e4,XP,seval]
 by_cases e5:x.op=5
 . simp -implicitDefEqProofs only[l7,e1,e2,e3,e4,eq_true e5,XP,seval]
 by_cases e7:x.op=7
 . simp -implicitDefEqProofs only[l7,e1,e2,e3,e4,e5,eq_true e7,XP,seval]
 by_cases e10:x.op=10
 . simp -implicitDefEqProofs only[l7,e1,e2,e3,e4,e5,e7,eq_true e10,XP,seval]
 by_cases e9:x.op=9
 . simp -implicitDefEqProofs only[l7,e1,e2,e3,e4,e5,e7,e10,eq_true e9,XP,seval]
 simp -implicitDefEqProofs only[l7,e1,e2,e3,e4,e5,e7,e10,e9,XP,seval]
def Z7:=W3 (fun p:(Ins)=>[p.F]) (fun p=>[.int .i64 (writesD p)]) (fun p=>True)
theorem iL(hir_Writes:T 56=some Z7){x:Ins}{K:PK}:evP ⟨env,T,A1⟩ (.call 56 [x.F] K)=some (.val (openTs K.os.length [.int .i64 (writesD x)]).1 ⟨K.os++(openTs K.os.length [.int .i64 (writesD x)]).2,K.ext,K.tch⟩):=B3 hir_Writes (by simp -implicitDefEqProofs only[VV,XP,seval]) (B5 (a:=fun p:(Ins)=>[p.F]) (r:=fun p=>[.int .i64 (writesD p)]) (fun x y e=>by simp only[VJ]at e;simp only[e]) (x) trivial) (by simp -implicitDefEqProofs only[VN,XP,seval])
theorem Zq  (hP:PEok ⟨env,T,A1⟩):TC env 56 Z7:=B8 hP fun p h=>Oc
theorem Sg(hCloneInts:T 28=some G5){x:Ins}(hk:x.ok):AM.Comes ⟨env,T,A1⟩ 55 [x.F] [ownd 0 1 (ints (readsD x))]:=by
 have one:∀(a:Int)(L:List Int),L=[a]->evP ⟨env,T,A1⟩ (.body 55 [x.F] K0)=some (.val [.msl 0 0 1 1] ⟨[.row 0 [.int .i64 a] 1],0,[]⟩)->AM.Comes ⟨env,T,A1⟩ 55 [x.F] [ownd 0 1 (ints L)]:=fun a L e h=>by
  subst e;exact⟨_,_,h,J2 (.inr ⟨rfl,rfl⟩)⟩
 have two:∀(a b:Int)(L:List Int),L=[a,b]->evP ⟨env,T,A1⟩ (.body 55 [x.F] K0)=some (.val [.msl 0 0 2 1] ⟨[.row 0 [.int .i64 a,.int .i64 b] 1],0,[]⟩)->AM.Comes ⟨env,T,A1⟩ 55 [x.F] [ownd 0 1 (ints L)]:=fun a b L e h=>by
  subst e;exact⟨_,_,h,J2 (.inr ⟨rfl,rfl⟩)⟩
 by_cases e2:x.op=2
 . refine one x.a _ (by simp[readsD,e2]) ?_
   rw[A3 (c:=Wu) (nt:=27) (rs:=[.tmp 2]) rfl (by simp)];unfold Wu;unfold K0 Ins.F;simp -implicitDefEqProofs only[eq_true e2,XP,seval]
 by_cases e4:x.op=4
 . refine one x.a _ (by simp[readsD,e4]) ?_
   rw[A3 (c:=Wu) (nt:=27) (rs:=[.tmp 2]) rfl (by simp)];unfold Wu;unfold K0 Ins.F;simp -implicitDefEqProofs only[e2,eq_true e4,XP,seval]
 by_cases e5:x.op=5
 . refine one x.a _ (by simp[readsD,e5]) ?_
   rw[A3 (c:=Wu) (nt:=27) (rs:=[.tmp 2]) rfl (by simp)];unfold Wu;unfold K0 Ins.F;simp -implicitDefEqProofs only[e2,e4,eq_true e5,XP,seval]
 by_cases e8:x.op=8
 . refine one x.a _ (by simp[readsD,e8]) ?_
   rw[A3 (c:=Wu) (nt:=27) (rs:=[.tmp 2]) rfl (by simp)];unfold Wu;unfold K0 Ins.F;simp -implicitDefEqProofs only[e2,e4,e5,eq_true e8,XP,seval]
 by_cases e11:x.op=11
 . refine one x.a _ (by simp[readsD,e11]) ?_
   rw[A3 (c:=Wu) (nt:=27) (rs:=[.tmp 2]) rfl (by simp)];unfold Wu;unfold K0 Ins.F;simp -implicitDefEqProofs only[e2,e4,e5,e8,eq_true e11,XP,seval]
 by_cases e3:x.op=3
 . refine two x.a x.b _ (by simp[readsD,e3]) ?_
   rw[A3 (c:=Wu) (nt:=27) (rs:=[.tmp 2]) rfl (by simp)];unfold Wu;unfold K0 Ins.F;simp -implicitDefEqProofs only[e2,e4,e5,e8,e11,eq_true e3,XP,seval]
 by_cases e6:x.op=6
 . refine two x.a x.b _ (by simp[readsD,e6]) ?_
   rw[A3 (c:=Wu) (nt:=27) (rs:=[.tmp 2]) rfl (by simp)];unfold Wu;unfold K0 Ins.F;simp -implicitDefEqProofs only[e2,e4,e5,e8,e11,e3,eq_true e6,XP,seval]
 by_cases e9:x.op=9
 . rw[show readsD x=x.args by simp[readsD,e9]]
   refine⟨[.msl 0 0 x.args.length 1],⟨[.row 0 (ints x.args) 1],0,[]⟩,?_,J2 (.inr ⟨by rw[zqa],rfl⟩)⟩;rw[A3 (c:=Wu) (nt:=27) (rs:=[.tmp 2]) rfl (by simp)];unfold Wu;unfold K0 Ins.F;have t:∀{K:PK},evP ⟨env,T,A1⟩ (.call 28 [fslN (ints x.args)] K)=some (.val (openTs K.os.length [ownd 0 1 (ints x.args)]).1 ⟨K.os++(openTs K.os.length [ownd 0 1 (ints x.args)]).2,K.ext,K.tch⟩):=B3 hCloneInts (by simp -implicitDefEqProofs only[frzL_ints,XP,seval]) (l6 hk) rfl;simp -implicitDefEqProofs only[e2,e4,e5,e8,e11,e3,e6,eq_true e9,t,zqa,XP,seval]
 . rw[show readsD x=[] by simp[readsD,e2,e4,e5,e8,e11,e3,e6,e9]]
   refine⟨[.nilsl],⟨[],0,[]⟩,?_,J2 (.inl ⟨rfl,rfl,rfl⟩)⟩;rw[A3 (c:=Wu) (nt:=27) (rs:=[.tmp 2]) rfl (by simp)];unfold Wu;unfold K0 Ins.F;simp -implicitDefEqProofs only[e2,e4,e5,e8,e11,e3,e6,e9,XP,seval]
def Ao:=W3 (fun p:(Ins)=>[p.F]) (fun p=>[ownd 0 1 (ints (readsD p))]) (fun p=>p.ok)
theorem oC(hir_Reads:T 55=some Ao){x:Ins}{K:PK}(hk:x.ok):evP ⟨env,T,A1⟩ (.call 55 [x.F] K)=some (.val (openTs K.os.length [ownd 0 1 (ints (readsD x))]).1 ⟨K.os++(openTs K.os.length [ownd 0 1 (ints (readsD x))]).2,K.ext,K.tch⟩):=B3 hir_Reads (by simp -implicitDefEqProofs only[VV,XP,seval]) (B5 (a:=fun p:(Ins)=>[p.F]) (r:=fun p=>[ownd 0 1 (ints (readsD p))]) (fun x y e=>by simp only[VJ]at e;simp only[e]) (x) hk) (by simp -implicitDefEqProofs only[VN,XP,seval])
theorem dU(hCloneInts:T 28=some G5)(hP:PEok ⟨env,T,A1⟩):TC env 55 Ao:=B8 hP fun p h=>Sg hCloneInts h
def idxOf{X:Type}(p:X->Bool)(l:List X):Int:=match l.findIdx? p with|some i=>(i:Int)|none=>-1
theorem idx_loop{P:PE}{c:PC}{X:Type}{p:X->Bool}{l:List X}{S:Nat->PF}{K:PK}
 (h1:∀i (h:i<l.length),p l[i]=false->evP P (.code c (S i) K)=some (.ok .normal (S (i+1)) K))
 (h2:∀i (h:i<l.length),p l[i]=true->∃fr',evP P (.code c (S i) K)=some (.ok .ret fr' K)/\lookP fr' 4=.int .i64 (i:Int))
 (hx:∃fr',evP P (.code c (S l.length) K)=some (.ok (.exit 0) fr' K)):
 (∃i:Nat,idxOf p l=i/\∃fr',evP P (.code (.loop c) (S 0) K)=some (.ok .ret fr' K)/\lookP fr' 4=.int .i64 (i:Int))\/(idxOf p l=-1/\∃fr',evP P (.code (.loop c) (S 0) K)=some (.ok (.exit 0) fr' K)):=by
 have key:∀(n i:Nat),l.length=i+n->(∀j (hj:j<l.length),j<i->p l[j]=false)->(∃k:Nat,idxOf p l=k/\∃fr',evP P (.code (.loop c) (S i) K)=some (.ok .ret fr' K)/\lookP fr' 4=.int .i64 (k:Int))\/(idxOf p l=-1/\∃fr',evP P (.code (.loop c) (S i) K)=some (.ok (.exit 0) fr' K)):=fun n=>by
  induction n with
  | zero =>
   intro i e hp;obtain rfl:i=l.length:=by omega
   obtain⟨fr',h⟩:=hx;refine .inr ⟨?_,fr',C6 h⟩;unfold idxOf
   have:l.findIdx? p=none:=by
    rw[zqr];intro x hm;obtain⟨j,hj,rfl⟩:=List.getElem_of_mem hm;exact hp j hj hj
   rw[this]
  | succ n ih =>
   intro i e hp;have hl:i<l.length:=by omega
   cases hq:p l[i]with
   | false =>
    rw[loop_more (h1 i hl hq)];refine ih (i+1) (by omega) fun j hj hji=>?_
    by_cases he:j=i
    . subst he;exact hq
    . exact hp j hj (by omega)
   | true =>
    obtain⟨fr',q1,q2⟩:=h2 i hl hq;refine .inl ⟨i,?_,fr',u7 q1,q2⟩;unfold idxOf
    have:l.findIdx? p=some i:=by
     rw[zql];exact⟨hl,hq,fun j hj=>by simpa using hp j (by omega) hj⟩
    rw[this]
 exact key l.length 0 (by omega) fun j hj h=>absurd h (by omega)
theorem lB{X:Type}{p:X->Bool}{l:List X}:decide (0<=idxOf p l)=l.any p:=by
 unfold idxOf;cases h:l.findIdx? p with
 | none =>
  rw[zqr]at h
  have:l.any p=false:=by rw[List.any_eq_false];intro x hx;simp[h x hx]
  rw[this];rfl
 | some i =>
  rw[zql]at h;obtain⟨h1,h2,_⟩:=h
  have:l.any p=true:=List.any_eq_true.2 ⟨_,zqc h1,h2⟩
  rw[this];simp
section
variable {l:List Int}{i:Nat}{v:Int}
theorem GT(h:i<l.length)(hs:l.length<=bigN)(hp:decide (v=l[i])=false):evP ⟨env,T,A1⟩ (.code Fx [(0,fslN (ints l)),(1,.int .i64 v),(7,.int .i64 (l.length:Int)),(8,.int .i64 (i:Int))] ⟨[],0,[]⟩)=some (.ok .normal [(0,fslN (ints l)),(1,.int .i64 v),(7,.int .i64 (l.length:Int)),(8,.int .i64 ((i+1:Nat):Int))] ⟨[],0,[]⟩):=by
 unfold Fx;have hlt:decide ((i:Int)<(l.length:Int))=true:=by simp[h]
 have hw:=B2 (i:=i) (by simp only[bigN]at hs;omega);simp -implicitDefEqProofs only[hlt,A8 h,hw,hp,XP,seval]
theorem GU(h:i<l.length)(hp:decide (v=l[i])=true):∃fr',evP ⟨env,T,A1⟩ (.code Fx [(0,fslN (ints l)),(1,.int .i64 v),(7,.int .i64 (l.length:Int)),(8,.int .i64 (i:Int))] ⟨[],0,[]⟩)=some (.ok .ret fr' ⟨[],0,[]⟩)/\lookP fr' 4=.int .i64 (i:Int):=by
 unfold Fx;have hlt:decide ((i:Int)<(l.length:Int))=true:=by simp[h]
 simp -implicitDefEqProofs only[hlt,A8 h,hp,XP,seval];exact⟨_,rfl,rfl⟩
theorem GV:∃fr',evP ⟨env,T,A1⟩ (.code Fx [(0,fslN (ints l)),(1,.int .i64 v),(7,.int .i64 (l.length:Int)),(8,.int .i64 (l.length:Int))] ⟨[],0,[]⟩)=some (.ok (.exit 0) fr' ⟨[],0,[]⟩):=by
 unfold Fx;have hlt:decide ((l.length:Int)<(l.length:Int))=false:=by simp
 simp -implicitDefEqProofs only[hlt,XP,seval];exact⟨_,rfl⟩
theorem Vh  {l:List Int} {v:Int} (hk:l.length<=bigN):AM.Comes ⟨env,T,A1⟩ 67 [fslN (ints l),.int .i64 v] [.int .i64 (idxOf (fun n=>decide (v=n)) l)]:=by
 refine⟨[.int .i64 (idxOf (fun n=>decide (v=n)) l)],⟨[],0,[]⟩,?_,back_of rfl zqb rfl rfl rfl⟩;rw[A3 (c:=NQ) (nt:=19) (rs:=[.tmp 4]) rfl (by simp)];unfold NQ;unfold K0;rcases idx_loop (P:=⟨env,T,A1⟩) (c:=Fx) (p:=fun n=>decide (v=n)) (l:=l) (S:=fun i=>[(0,fslN (ints l)),(1,.int .i64 v),(7,.int .i64 (l.length:Int)),(8,.int .i64 (i:Int))]) (K:=⟨[],0,[]⟩) (fun i h hp=>GT h hk hp) (fun i h hp=>GU h hp) GV with⟨i,e,fr',h1,h2⟩|⟨e,fr',h1⟩
 . have h1:evP ⟨env,T,A1⟩ (.code (.loop Fx) [(0,fslN (ints l)),(1,.int .i64 v),(7,.int .i64 (l.length:Int)),(8,.int .i64 0)] ⟨[],0,[]⟩)=_:=h1
   simp -implicitDefEqProofs only[h1,h2,e,zqa,XP,seval]
 . have h1:evP ⟨env,T,A1⟩ (.code (.loop Fx) [(0,fslN (ints l)),(1,.int .i64 v),(7,.int .i64 (l.length:Int)),(8,.int .i64 0)] ⟨[],0,[]⟩)=_:=h1
   simp -implicitDefEqProofs only[h1,e,zqa,XP,seval]
def Dq:=W3 (fun p:(List Int)×(Int)=>[fslN (ints p.1),.int .i64 p.2]) (fun p=>[.int .i64 (idxOf (fun n=>decide (p.2=n)) p.1)]) (fun p=>p.1.length<=bigN)
theorem sD(hIdxInts:T 67=some Dq){l:List Int}{v:Int}{K:PK}(hk:l.length<=bigN):evP ⟨env,T,A1⟩ (.call 67 [fslN (ints l),.int .i64 v] K)=some (.val (openTs K.os.length [.int .i64 (idxOf (fun n=>decide (v=n)) l)]).1 ⟨K.os++(openTs K.os.length [.int .i64 (idxOf (fun n=>decide (v=n)) l)]).2,K.ext,K.tch⟩):=B3 hIdxInts (by simp -implicitDefEqProofs only[VV,XP,seval]) (B5 (a:=fun p:(List Int)×(Int)=>[fslN (ints p.1),.int .i64 p.2]) (r:=fun p=>[.int .i64 (idxOf (fun n=>decide (p.2=n)) p.1)]) (fun x y e=>by simp only[VJ]at e;simp only[e]) (l,v) hk) (by simp -implicitDefEqProofs only[VN,XP,seval])
theorem iM  (hP:PEok ⟨env,T,A1⟩):TC env 67 Dq:=B8 hP fun p h=>Vh  h
theorem Sh(hIdxInts:T 67=some Dq){l:List Int}{v:Int}(hk:l.length<=bigN):AM.Comes ⟨env,T,A1⟩ 57 [fslN (ints l),.int .i64 v] [.bool (l.any fun n=>decide (v=n))]:=by
 refine⟨[.bool (l.any fun n=>decide (v=n))],⟨[],0,[]⟩,?_,back_of rfl zqb rfl rfl rfl⟩;rw[A3 (c:=NH) (nt:=9) (rs:=[.tmp 4]) rfl (by simp)];unfold NH;unfold K0;rw[<-lB];have t:=fun K=>sD (K:=K) (v:=v) hIdxInts hk
 simp -implicitDefEqProofs only[t,XP,seval]
def m4:=W3 (fun p:(List Int)×(Int)=>[fslN (ints p.1),.int .i64 p.2]) (fun p=>[.bool (p.1.any fun n=>decide (p.2=n))]) (fun p=>p.1.length<=bigN)
theorem dX(hIdxInts:T 67=some Dq)(hP:PEok ⟨env,T,A1⟩):TC env 57 m4:=B8 hP fun p h=>Sh hIdxInts h
end
section
variable {l:List Int}{i:Nat}
theorem GW(hN:T 31=some C7)(h:i<l.length)(hs:l.length<=bigN)(hp:(!F0 l[i])=false):evP ⟨env,T,A1⟩ (.code Fu [(0,fslN (ints l)),(1,.fn (.func 31) [] []),(7,.int .i64 (l.length:Int)),(8,.int .i64 (i:Int))] ⟨[],0,[]⟩)=some (.ok .normal [(0,fslN (ints l)),(1,.fn (.func 31) [] []),(7,.int .i64 (l.length:Int)),(8,.int .i64 ((i+1:Nat):Int))] ⟨[],0,[]⟩):=by
 unfold Fu;have hlt:decide ((i:Int)<(l.length:Int))=true:=by simp[h]
 have hw:=B2 (i:=i) (by simp only[bigN]at hs;omega);simp -implicitDefEqProofs only[hlt,A8 h,hw,o8 hN,hp,XP,seval]
theorem GX(hN:T 31=some C7)(h:i<l.length)(hp:(!F0 l[i])=true):∃fr',evP ⟨env,T,A1⟩ (.code Fu [(0,fslN (ints l)),(1,.fn (.func 31) [] []),(7,.int .i64 (l.length:Int)),(8,.int .i64 (i:Int))] ⟨[],0,[]⟩)=some (.ok .ret fr' ⟨[],0,[]⟩)/\lookP fr' 4=.int .i64 (i:Int):=by
 unfold Fu;have hlt:decide ((i:Int)<(l.length:Int))=true:=by simp[h]
 simp -implicitDefEqProofs only[hlt,A8 h,o8 hN,hp,XP,seval];exact⟨_,rfl,rfl⟩
theorem GY:∃fr',evP ⟨env,T,A1⟩ (.code Fu [(0,fslN (ints l)),(1,.fn (.func 31) [] []),(7,.int .i64 (l.length:Int)),(8,.int .i64 (l.length:Int))] ⟨[],0,[]⟩)=some (.ok (.exit 0) fr' ⟨[],0,[]⟩):=by
 unfold Fu;have hlt:decide ((l.length:Int)<(l.length:Int))=false:=by simp
 simp -implicitDefEqProofs only[hlt,XP,seval];exact⟨_,rfl⟩
theorem Vi(hN:T 31=some C7)(hI:T 42=none)(hs:l.length<=bigN)(K:PK):evP ⟨env,T,A1⟩ (.call 42 [fslN (ints l),.fn (.func 31) [] []] K)=some (.val [.int .i64 (idxOf (fun n=>!F0 n) l)] K):=by
 refine jY (tch:=[]) hI rfl rfl rfl ?_ rfl;rw[A3 (c:=MX) (nt:=19) (rs:=[.tmp 4]) rfl (by simp)];unfold MX;rcases idx_loop (P:=⟨env,T,A1⟩) (c:=Fu) (p:=fun n=>!F0 n) (l:=l) (S:=fun i=>[(0,fslN (ints l)),(1,.fn (.func 31) [] []),(7,.int .i64 (l.length:Int)),(8,.int .i64 (i:Int))]) (K:=⟨[],0,[]⟩) (fun i h hp=>GW hN h hs hp) (fun i h hp=>GX hN h hp) GY with⟨i,e,fr',h1,h2⟩|⟨e,fr',h1⟩
 . have h1:evP ⟨env,T,A1⟩ (.code (.loop Fu) [(0,fslN (ints l)),(1,.fn (.func 31) [] []),(7,.int .i64 (l.length:Int)),(8,.int .i64 0)] ⟨[],0,[]⟩)=_:=h1
   simp -implicitDefEqProofs only[h1,h2,e,zqa,XP,seval]
 . have h1:evP ⟨env,T,A1⟩ (.code (.loop Fu) [(0,fslN (ints l)),(1,.fn (.func 31) [] []),(7,.int .i64 (l.length:Int)),(8,.int .i64 0)] ⟨[],0,[]⟩)=_:=h1
   simp -implicitDefEqProofs only[h1,e,zqa,XP,seval]
theorem Si(hN:T 31=some C7)(hI:T 42=none)(hC:T 30=none)(hs:l.length<=bigN)(K:PK):evP ⟨env,T,A1⟩ (.call 30 [fslN (ints l),.fn (.func 31) [] []] K)=some (.val [.bool (l.any fun n=>!F0 n)] K):=by
 refine jY (tch:=[]) hC rfl rfl rfl ?_ rfl;rw[<-lB];have t:=fun K=>Vi hN hI hs K
 rw[A3 (c:=MP) (nt:=9) (rs:=[.tmp 4]) rfl (by simp)];unfold MP;simp -implicitDefEqProofs only[t,XP,seval]
end
section
variable {l:List Cod}{i:Nat}
theorem GZ(hN:T 35=some K6)(h:i<l.length)(hs:l.length<=bigN)(hp:decide (l[i].name=E2)=false):evP ⟨env,T,A1⟩ (.code Fs [(0,fslN (l.map Cod.F)),(1,.fn (.func 35) [] []),(7,.int .i64 (l.length:Int)),(8,.int .i64 (i:Int))] ⟨[],0,[]⟩)=some (.ok .normal [(0,fslN (l.map Cod.F)),(1,.fn (.func 35) [] []),(7,.int .i64 (l.length:Int)),(8,.int .i64 ((i+1:Nat):Int))] ⟨[],0,[]⟩):=by
 unfold Fs;have hlt:decide ((i:Int)<(l.length:Int))=true:=by simp[h]
 have hw:=B2 (i:=i) (by simp only[bigN]at hs;omega);have hi:=A6 (F:=Cod.F) h;have t:=fun K=>Jg (K:=K) (c:=l[i]) hN
 simp only[Cod.F]at hi t;simp -implicitDefEqProofs only[hlt,hi,hw,t,hp,XP,seval]
theorem HA(hN:T 35=some K6)(h:i<l.length)(hp:decide (l[i].name=E2)=true):∃fr',evP ⟨env,T,A1⟩ (.code Fs [(0,fslN (l.map Cod.F)),(1,.fn (.func 35) [] []),(7,.int .i64 (l.length:Int)),(8,.int .i64 (i:Int))] ⟨[],0,[]⟩)=some (.ok .ret fr' ⟨[],0,[]⟩)/\lookP fr' 4=.int .i64 (i:Int):=by
 unfold Fs;have hlt:decide ((i:Int)<(l.length:Int))=true:=by simp[h]
 have hi:=A6 (F:=Cod.F) h;have t:=fun K=>Jg (K:=K) (c:=l[i]) hN
 simp only[Cod.F]at hi t;simp -implicitDefEqProofs only[hlt,hi,t,hp,XP,seval];exact⟨_,rfl,rfl⟩
theorem HB:∃fr',evP ⟨env,T,A1⟩ (.code Fs [(0,fslN (l.map Cod.F)),(1,.fn (.func 35) [] []),(7,.int .i64 (l.length:Int)),(8,.int .i64 (l.length:Int))] ⟨[],0,[]⟩)=some (.ok (.exit 0) fr' ⟨[],0,[]⟩):=by
 unfold Fs;have hlt:decide ((l.length:Int)<(l.length:Int))=false:=by simp
 simp -implicitDefEqProofs only[hlt,XP,seval];exact⟨_,rfl⟩
theorem Vj(hN:T 35=some K6)(hI:T 34=none)(hs:l.length<=bigN)(K:PK):evP ⟨env,T,A1⟩ (.call 34 [fslN (l.map Cod.F),.fn (.func 35) [] []] K)=some (.val [.int .i64 (idxOf (fun c:Cod=>decide (c.name=E2)) l)] K):=by
 refine jY (tch:=[]) hI rfl rfl rfl ?_ rfl;rw[A3 (c:=MT) (nt:=19) (rs:=[.tmp 4]) rfl (by simp)];unfold MT;rcases idx_loop (P:=⟨env,T,A1⟩) (c:=Fs) (p:=fun c:Cod=>decide (c.name=E2)) (l:=l) (S:=fun i=>[(0,fslN (l.map Cod.F)),(1,.fn (.func 35) [] []),(7,.int .i64 (l.length:Int)),(8,.int .i64 (i:Int))]) (K:=⟨[],0,[]⟩) (fun i h hp=>GZ hN h hs hp) (fun i h hp=>HA hN h hp) HB with⟨i,e,fr',h1,h2⟩|⟨e,fr',h1⟩
 . have h1:evP ⟨env,T,A1⟩ (.code (.loop Fs) [(0,fslN (l.map Cod.F)),(1,.fn (.func 35) [] []),(7,.int .i64 (l.length:Int)),(8,.int .i64 0)] ⟨[],0,[]⟩)=_:=h1
   simp -implicitDefEqProofs only[h1,h2,e,zqa,XP,seval]
 . have h1:evP ⟨env,T,A1⟩ (.code (.loop Fs) [(0,fslN (l.map Cod.F)),(1,.fn (.func 35) [] []),(7,.int .i64 (l.length:Int)),(8,.int .i64 0)] ⟨[],0,[]⟩)=_:=h1
   simp -implicitDefEqProofs only[h1,e,zqa,XP,seval]
theorem Od(hir_mainOf_1:T 35=some K6)(nIdxCodes:T 34=none){m:Modl}(hk:m.fs.length<=bigN):AM.Comes ⟨env,T,A1⟩ 20 [m.F] [.int .i64 (idxOf (fun c:Cod=>decide (c.name=E2)) m.fs)]:=by
 refine⟨[.int .i64 (idxOf (fun c:Cod=>decide (c.name=E2)) m.fs)],⟨[],0,[]⟩,?_,back_of rfl zqb rfl rfl rfl⟩;rw[A3 (c:=MJ) (nt:=6) (rs:=[.tmp 2]) rfl (by simp)];unfold MJ;unfold K0;unfold Modl.F;have t:=fun K=>Vj hir_mainOf_1 nIdxCodes hk K
 simp -implicitDefEqProofs only[t,XP,seval]
def L3:=W3 (fun p:(Modl)=>[p.F]) (fun p=>[.int .i64 (idxOf (fun c:Cod=>decide (c.name=E2)) p.fs)]) (fun p=>p.fs.length<=bigN)
theorem Gx(hir_mainOf:T 20=some L3){m:Modl}{K:PK}(hk:m.fs.length<=bigN):evP ⟨env,T,A1⟩ (.call 20 [m.F] K)=some (.val (openTs K.os.length [.int .i64 (idxOf (fun c:Cod=>decide (c.name=E2)) m.fs)]).1 ⟨K.os++(openTs K.os.length [.int .i64 (idxOf (fun c:Cod=>decide (c.name=E2)) m.fs)]).2,K.ext,K.tch⟩):=B3 hir_mainOf (by simp -implicitDefEqProofs only[VV,XP,seval]) (B5 (a:=fun p:(Modl)=>[p.F]) (r:=fun p=>[.int .i64 (idxOf (fun c:Cod=>decide (c.name=E2)) p.fs)]) (fun x y e=>by simp only[VJ]at e;simp only[e]) (m) hk) (by simp -implicitDefEqProofs only[VN,XP,seval])
theorem Zr(hir_mainOf_1:T 35=some K6)(nIdxCodes:T 34=none)(hP:PEok ⟨env,T,A1⟩):TC env 20 L3:=B8 hP fun p h=>Od hir_mainOf_1 nIdxCodes h
end
def Ln(p s:List UInt8):Bool:=Nat.ble (j1 s) 4000000000||oneB p
def R0(args:List AV):Option (List AV):=match args with|[.str s,.str p]=>if Ln p s=true then some [.bool (contS p s)]else none|_=>none
theorem Zs{s p:List UInt8}(h:Ln p s=true):R0 [.str s,.str p]=some [.bool (contS p s)]:=if_pos h
theorem Lo(hT:T 54=some R0){s p:List UInt8}{K:PK}(h:Ln p s=true):evP ⟨env,T,A1⟩ (.call 54 [.str s,.str p] K)=some (.val [.bool (contS p s)] ⟨K.os++[],K.ext,K.tch⟩):=B3 hT rfl (Zs h) rfl
theorem Ph{t:Nat}{a b:List UInt8}{K:PK}(h:a.length+b.length<=4611686018427387904):N4 env .add t (.str a) (.str b) K=.val (.str (a++b)) K:=by
 rw[bp _ _ rfl rfl];show z8 (bif Nat.ble (Nat.add (j1 a) (j1 b)) 4611686018427387904 then some (AV.str (a++b))else none) K=_
 rw[k9,k9,show Nat.ble (Nat.add a.length b.length) 4611686018427387904=true from zkf h];rfl
def o9:List UInt8:=[32,43,32,45,32,42,32,47,32,37,32,38,32,124,32,94,32,60,60,32,62,62,32,61,61,32,33,61,32,60,32,60,61,32,62,32,62,61,32]
def r6:List UInt8:=[32,61,61,32,33,61,32,60,32,60,61,32,62,32,62,61,32]
def r7(x:Ins):Bool:=if x.op=3 then !decide (x.s=[])&&(!contS [32] x.s&&contS (32::(x.s++[32])) o9)else if x.op=4 then decide (1<=x.ty)&&decide (x.ty<=3)else decide (1<=x.op)&&decide (x.op<=11)
theorem Vk(hstrings_Contains:T 54=some R0){x:Ins}(hk:x.s.length<=bigN):AM.Comes ⟨env,T,A1⟩ 43 [x.F] [.bool (r7 x)]:=by
 refine⟨[.bool (r7 x)],⟨[],0,[]⟩,?_,back_of rfl zqb rfl rfl rfl⟩;rw[A3 (c:=MY) (nt:=41) (rs:=[.tmp 2]) rfl (by simp)];unfold MY;unfold K0;have d1:∀K:PK,N4 env .add 9 (.str [32]) (.str x.s) K=.val (.str (32::x.s)) K:=fun K=>Ph (by simp only[bigN]at hk;simp;omega)
 have d2:∀K:PK,N4 env .add 9 (.str (32::x.s)) (.str [32]) K=.val (.str (32::(x.s++[32]))) K:=fun K=>Ph (by simp only[bigN]at hk;simp;omega)
 have c1:=fun K=>Lo (K:=K) (s:=x.s) (p:=[32]) hstrings_Contains (by unfold Ln;rw[show oneB [32]=true from rfl,zkb])
 have c2:=fun K=>Lo (K:=K) (s:=o9) (p:=32::(x.s++[32])) hstrings_Contains (by unfold Ln;rfl)
 unfold Ins.F r7;unfold o9 at c2|-;by_cases e3:x.op=3
 . by_cases q1:x.s=[]
   . simp -implicitDefEqProofs only[eq_true e3,eq_true q1,zqz,XP,seval]
   cases q2:contS [32] x.s with
   |true=>simp -implicitDefEqProofs only[eq_true e3,eq_false q1,c1,q2,zqz,Bool.and_false,XP,seval]
   |false=>simp -implicitDefEqProofs only[eq_true e3,eq_false q1,c1,q2,d1,d2,c2,XP,seval]
 by_cases e4:x.op=4
 . by_cases q1:1<=x.ty
   . simp -implicitDefEqProofs only[e3,eq_true e4,eq_true q1,XP,seval]
   . simp -implicitDefEqProofs only[e3,eq_true e4,eq_false q1,zqz,XP,seval]
 . by_cases q1:1<=x.op
   . simp -implicitDefEqProofs only[e3,e4,eq_true q1,XP,seval]
   . simp -implicitDefEqProofs only[e3,e4,eq_false q1,zqz,XP,seval]
def Dr:=W3 (fun p:(Ins)=>[p.F]) (fun p=>[.bool (r7 p)]) (fun p=>p.s.length<=bigN)
theorem sE(hir_form:T 43=some Dr){x:Ins}{K:PK}(hk:x.s.length<=bigN):evP ⟨env,T,A1⟩ (.call 43 [x.F] K)=some (.val (openTs K.os.length [.bool (r7 x)]).1 ⟨K.os++(openTs K.os.length [.bool (r7 x)]).2,K.ext,K.tch⟩):=B3 hir_form (by simp -implicitDefEqProofs only[VV,XP,seval]) (B5 (a:=fun p:(Ins)=>[p.F]) (r:=fun p=>[.bool (r7 p)]) (fun x y e=>by simp only[VJ]at e;simp only[e]) (x) hk) (by simp -implicitDefEqProofs only[VN,XP,seval])
theorem iN(hstrings_Contains:T 54=some R0)(hP:PEok ⟨env,T,A1⟩):TC env 43 Dr:=B8 hP fun p h=>Vk hstrings_Contains h
def N2(m:Modl)(at_:Int)(arr:Bool):Bool:=thereD at_ m.gs.length&&(match m.gs[at_.toNat]? with|some g=>decide (0<g.size)==arr|none=>false)
theorem lC(t:Nat)(h:L6 env t=L6 env 4)(a b:Bool)(K:PK):N4 env .eql t (.bool a) (.bool b) K=.val (.bool (a==b)) K:=by
 rw[bp _ _ rfl rfl,h];cases a<;>cases b<;>rfl
theorem G6{a n:Int}(h:thereD a n=true):∃k:Nat,a=k/\(k:Int)<n:=by
 unfold thereD at h;rw[zkc]at h;have h0:=of_decide_eq_true h.1;have h1:=of_decide_eq_true h.2;obtain⟨k,rfl⟩:=Int.eq_ofNat_of_zero_le h0;exact⟨k,rfl,h1⟩
theorem Ap(hir_there:T 46=some D4){m:Modl}{c:Cod}{a:Int}{arr:Bool}:AM.Comes ⟨env,T,A1⟩ 58 [chkF m c,.int .i64 a,.bool arr] [.bool (N2 m a arr)]:=by
 refine⟨[.bool (N2 m a arr)],⟨[],0,[]⟩,?_,back_of rfl zqb rfl rfl rfl⟩;rw[A3 (c:=NI) (nt:=25) (rs:=[.tmp 6]) rfl (by simp)];unfold NI;unfold K0;have t:=fun K=>O0 (K:=K) (a:=a) (n:=m.gs.length) hir_there
 have eb:=lC 4 rfl;unfold chkF N2;cases ht:thereD a m.gs.length with
 |false=>rw[ht]at t;simp -implicitDefEqProofs only[t,zqa,zqz,XP,seval]
 | true =>
  obtain⟨k,rfl,hk⟩:=G6 ht;have hk:k<m.gs.length:=by omega
  rw[ht]at t;have hi:=A6 (F:=Glo.F) hk;simp only[Glo.F]at hi;rw[show((k:Int)).toNat=k from rfl,zqd hk];simp -implicitDefEqProofs only[t,zqa,hi,eb,XP,seval]
def D9:=W3 (fun p:(Modl)×(Cod)×(Int)×(Bool)=>[chkF p.1 p.2.1,.int .i64 p.2.2.1,.bool p.2.2.2]) (fun p=>[.bool (N2 p.1 p.2.2.1 p.2.2.2)]) (fun p=>True)
theorem Gy(hir_checker_global:T 58=some D9){m:Modl}{c:Cod}{a:Int}{arr:Bool}{K:PK}:evP ⟨env,T,A1⟩ (.call 58 [chkF m c,.int .i64 a,.bool arr] K)=some (.val (openTs K.os.length [.bool (N2 m a arr)]).1 ⟨K.os++(openTs K.os.length [.bool (N2 m a arr)]).2,K.ext,K.tch⟩):=B3 hir_checker_global (by simp -implicitDefEqProofs only[VV,XP,seval]) (B5 (a:=fun p:(Modl)×(Cod)×(Int)×(Bool)=>[chkF p.1 p.2.1,.int .i64 p.2.2.1,.bool p.2.2.2]) (r:=fun p=>[.bool (N2 p.1 p.2.2.1 p.2.2.2)]) (fun x y e=>by simp only[VJ]at e;simp only[e]) (m,c,a,arr) trivial) (by simp -implicitDefEqProofs only[VN,XP,seval])
theorem Ds(hir_there:T 46=some D4)(hP:PEok ⟨env,T,A1⟩):TC env 58 D9:=B8 hP fun p h=>Ap hir_there
def Ah(l:List Int)(r:Int):Int:=l.getD r.toNat 0
theorem Jh{l:List Int}{k:Nat}(h:k<l.length):(ints l)[k]?=some (.int .i64 (Ah l k)):=by
 rw[A8 h];unfold Ah;simp[h]
theorem Pj{m:Modl}{c:Cod}{r t:Int}{id:Nat}{K:PK}(hN:T 59=none)(hr:thereD r c.regs.length=true)(hK:K.os[id]?=some (.row 1 [chkF m c] 7)):
 evP ⟨env,T,A1⟩ (.call 59 [.int .i64 r,.int .i64 t,.ptr id 0 0] K)=some (.val [.bool (decide (Ah c.regs r=t))] K):=by
 obtain⟨k,rfl,hk⟩:=G6 hr;have hi:=Jh (show k<c.regs.length by omega);rw[Gc hN rfl];rw[A3 (c:=NJ) (nt:=14) (rs:=[.tmp 5]) rfl (by simp)];unfold NJ;unfold chkF at hK;simp -implicitDefEqProofs only[hK,hi,XP,seval]
theorem Sj{P:PE}{c:PC}{X:Type}{p:X->Bool}{l:List X}{S:Nat->PF}{K:PK}{x:Nat}{Q:PF->Prop}{R:PF->PK->Prop}
 (h1:∀i (h:i<l.length),p l[i]=true->evP P (.code c (S i) K)=some (.ok .normal (S (i+1)) K))
 (h2:∀i (h:i<l.length),p l[i]=false->∃fr' K',evP P (.code c (S i) K)=some (.ok .ret fr' K')/\R fr' K')
 (hx:∃fr',evP P (.code c (S l.length) K)=some (.ok (.exit x) fr' K)/\Q fr'):
 (l.all p=true/\∃fr',evP P (.code (.loop c) (S 0) K)=some (.ok (.exit x) fr' K)/\Q fr')\/(l.all p=false/\∃fr' K',evP P (.code (.loop c) (S 0) K)=some (.ok .ret fr' K')/\R fr' K'):=by
 have key:∀(n i:Nat),l.length=i+n->((l.drop i).all p=true/\∃fr',evP P (.code (.loop c) (S i) K)=some (.ok (.exit x) fr' K)/\Q fr')\/((l.drop i).all p=false/\∃fr' K',evP P (.code (.loop c) (S i) K)=some (.ok .ret fr' K')/\R fr' K'):=fun n=>by
  induction n with
  | zero =>
   intro i e;obtain rfl:i=l.length:=by omega
   obtain⟨fr',h,q⟩:=hx;exact .inl ⟨by rw[zqh];rfl,fr',C6 h,q⟩
  | succ n ih =>
   intro i e;have hl:i<l.length:=by omega
   rw[zqi hl,List.all_cons];cases hq:p l[i]with
   | true =>
    rw[loop_more (h1 i hl hq),Bool.true_and];exact ih (i+1) (by omega)
   | false =>
    obtain⟨fr',K',q1,q2⟩:=h2 i hl hq;exact .inr ⟨rfl,fr',K',u7 q1,q2⟩
 exact key l.length 0 (by omega)
section
variable {m:Modl}{c:Cod}{x:Ins}{fr:PF}{i:Nat}{tch:List Nat}
def Lr:List Int:=[1,2,3,4,5,7,10]
def bR(c:Cod)(x:Ins):Bool:=!((!decide (x.op=9)||decide (0<=writesD x))&&(!decide (writesD x=-1) && !thereD (writesD x) c.regs.length))
def codI(l:List Cod)(i:Int):Cod:=l.getD i.toNat ⟨[],0,0,[],[]⟩
def iO(m:Modl)(c:Cod)(x:Ins):Bool:=
 if x.op=1 then decide (wrapD (Ah c.regs x.dst) x.n=x.n)else if x.op=5 then N2 m x.n true else if x.op=6 then N2 m x.n true else if x.op=7 then N2 m x.n false else if x.op=8 then N2 m x.n false
 else if x.op=9 then thereD x.n m.fs.length&&decide ((codI m.fs x.n).ps<=(codI m.fs x.n).regs.length)else true
def r8(x:Ins):Bool:=(Lr.any fun n=>decide (x.op=n))&&decide (x.dst<0)
def C8(m:Modl)(c:Cod)(x:Ins):Bool:=(readsD x).all (fun r=>thereD r c.regs.length)&&(bR c x&&(!r8 x&&iO m c x))
theorem Ji{l:List Cod}{k:Nat}(h:k<l.length):(l.map Cod.F)[k]?=some (codI l k).F:=by
 rw[A6 (F:=Cod.F) h];unfold codI;simp[h]
theorem AD{w:PO}(h2:lookP fr 2=.ptr 0 0 0)(h3:lookP fr 3=.ptr 1 0 0)(hw:T 49=some F2)(hg:T 58=some D9)(ht:T 46=some D4)(h1:x.op=1->thereD x.dst c.regs.length=true):
 evP ⟨env,T,A1⟩ (.code Rr fr ⟨[.row 1 [chkF m c] 7,.row 1 [x.F] 8,w],0,tch⟩)=some (.ok .ret [(4,.bool (iO m c x))] ⟨[],0,[]⟩):=by
 have tw:=fun t v K=>Bs (K:=K) (t:=t) (v:=v) hw
 have tg:=fun a b K=>Gy (K:=K) (m:=m) (c:=c) (a:=a) (arr:=b) hg
 have tt:=fun a n K=>O0 (K:=K) (a:=a) (n:=n) ht
 unfold Rr rO rN rM rL rK zR zQ iO;unfold Ins.F;unfold chkF at tg|-;by_cases e1:x.op=1
 . obtain⟨k,hk,hlt⟩:=G6 (h1 e1)
   have hi:=Jh (show k<c.regs.length by omega);rw[hk];simp -implicitDefEqProofs only[h2,h3,eq_true e1,tw,hi,XP,seval]
 by_cases e5:x.op=5
 . simp -implicitDefEqProofs only[h2,h3,e1,eq_true e5,tg,XP,seval]
 by_cases e6:x.op=6
 . simp -implicitDefEqProofs only[h2,h3,e1,e5,eq_true e6,tg,XP,seval]
 by_cases e7:x.op=7
 . simp -implicitDefEqProofs only[h2,h3,e1,e5,e6,eq_true e7,tg,XP,seval]
 by_cases e8:x.op=8
 . simp -implicitDefEqProofs only[h2,h3,e1,e5,e6,e7,eq_true e8,tg,XP,seval]
 by_cases e9:x.op=9
 . cases ht:thereD x.n m.fs.length with
   |false=>simp -implicitDefEqProofs only[h2,h3,e1,e5,e6,e7,e8,eq_true e9,tt,ht,zqa,zqz,XP,seval]
   | true =>
    obtain⟨k,hk,hlt⟩:=G6 ht;have hi:=Ji (show k<m.fs.length by omega);simp only[Cod.F]at hi;rw[hk]at ht|-;simp -implicitDefEqProofs only[h2,h3,e1,e5,e6,e7,e8,eq_true e9,tt,ht,zqa,hi,XP,seval]
 . simp -implicitDefEqProofs only[h2,h3,e1,e5,e6,e7,e8,e9,XP,seval]
end
section
variable {m:Modl}{c:Cod}{x:Ins}{fr:PF}{i:Nat}{L:List Int}
theorem HC(h2:lookP fr 2=.ptr 0 0 0)(h3:lookP fr 3=.ptr 1 0 0)(hw:T 49=some F2)(hg:T 58=some D9)(ht:T 46=some D4)(hc:T 57=some m4)(h1:x.op=1->¬x.dst<0->thereD x.dst c.regs.length=true):
 evP ⟨env,T,A1⟩ (.code Zi fr ⟨[.row 1 [chkF m c] 7,.row 1 [x.F] 8],0,[]⟩)=some (.ok .ret [(4,.bool (!r8 x&&iO m c x))] ⟨[],0,[]⟩):=by
 have tc:∀K:PK,K.os[2]?=some (.row 0 (ints Lr) 1)->evP ⟨env,T,A1⟩ (.call 57 [.msl 2 0 7 1,.int .i64 x.op] K)=some (.val [.bool (Lr.any fun n=>decide (x.op=n))] ⟨K.os++[],K.ext,K.tch⟩):=fun K hK=>B3 hc (by
  simp only[Lr,ints,List.map]at hK;simp -implicitDefEqProofs only[hK,Lr,XP,seval];rfl) (B5 (a:=fun p:List Int×Int=>[fslN (ints p.1),.int .i64 p.2]) (r:=fun p=>[.bool (p.1.any fun n=>decide (p.2=n))]) (fun x y e=>by simp only[List.cons.injEq,fslN_iff,ints_iff,AV.int.injEq,true_and,and_true]at e;simp only[e]) (Lr,x.op) (by show Lr.length<=bigN;decide)) rfl
 unfold Zi zP r8;cases ha:(Lr.any fun n=>decide (x.op=n))with
 | false =>
  rw[zqz];rw[ha]at tc;have sw:∀(fr:PF)(tch:List Nat),lookP fr 2=.ptr 0 0 0->lookP fr 3=.ptr 1 0 0->evP ⟨env,T,A1⟩ (.code Rr fr ⟨[.row 1 [chkF m c] 7,.row 1 [x.F] 8,.row 0 [.int .i64 1,.int .i64 2,.int .i64 3,.int .i64 4,.int .i64 5,.int .i64 7,.int .i64 10] 1],0,tch⟩)=some (.ok .ret [(4,.bool (iO m c x))] ⟨[],0,[]⟩):=fun fr tch a b=>AD a b hw hg ht fun e=>absurd ha (by simp[Lr,e])
  simp only[Ins.F]at sw|-;simp only[Lr,ints,List.map]at tc;simp -implicitDefEqProofs only[h2,h3,tc,sw,XP,seval]
 | true =>
  rw[ha]at tc;simp only[Lr,ints,List.map]at tc;by_cases hd:x.dst<0
  . simp only[Ins.F]
    simp -implicitDefEqProofs only[h2,h3,tc,eq_true hd,zqz,XP,seval]
  . have sw:∀(fr:PF)(tch:List Nat),lookP fr 2=.ptr 0 0 0->lookP fr 3=.ptr 1 0 0->evP ⟨env,T,A1⟩ (.code Rr fr ⟨[.row 1 [chkF m c] 7,.row 1 [x.F] 8,.row 0 [.int .i64 1,.int .i64 2,.int .i64 3,.int .i64 4,.int .i64 5,.int .i64 7,.int .i64 10] 1],0,tch⟩)=some (.ok .ret [(4,.bool (iO m c x))] ⟨[],0,[]⟩):=fun fr tch a b=>AD a b hw hg ht fun e=>h1 e hd
    simp only[Ins.F]at sw|-;simp -implicitDefEqProofs only[h2,h3,tc,hd,sw,XP,seval]
theorem HE(h:bR c x=true)(e:x.op=1)(hd:¬x.dst<0):thereD x.dst c.regs.length=true:=by
 unfold bR writesD at h;rw[if_pos e]at h
 have:¬x.dst=-1:=by omega
 have h9:¬x.op=9:=by omega
 cases ht:thereD x.dst c.regs.length with
 |true=>rfl
 |false=>rw[ht]at h;simp[this,h9]at h
theorem HF(h2:lookP fr 2=.ptr 0 0 0)(h3:lookP fr 3=.ptr 1 0 0)(hw:T 49=some F2)(hg:T 58=some D9)(ht:T 46=some D4)(hc:T 57=some m4)(hwr:T 56=some Z7):
 evP ⟨env,T,A1⟩ (.code Zj fr ⟨[.row 1 [chkF m c] 7,.row 1 [x.F] 8],0,[]⟩)=some (.ok .ret [(4,.bool (bR c x&&(!r8 x&&iO m c x)))] ⟨[],0,[]⟩):=by
 have tw:=fun K=>iL (K:=K) (x:=x) hwr
 have tt:=fun K=>O0 (K:=K) (a:=writesD x) (n:=c.regs.length) ht
 have k16:bR c x=true->∀fr:PF,lookP fr 2=.ptr 0 0 0->lookP fr 3=.ptr 1 0 0->evP ⟨env,T,A1⟩ (.code Zi fr ⟨[.row 1 [chkF m c] 7,.row 1 [x.F] 8],0,[]⟩)=some (.ok .ret [(4,.bool (!r8 x&&iO m c x))] ⟨[],0,[]⟩):=fun h fr a b=>HC a b hw hg ht hc (HE h)
 unfold Zj zO zN;have fin:bR c x=!((!decide (x.op=9)||decide (0<=writesD x))&&(!decide (writesD x=-1) && !thereD (writesD x) c.regs.length)):=rfl;simp only[Ins.F]at tw k16|-;simp only[chkF]at k16|-;by_cases e9:x.op=9
 . by_cases w0:0<=writesD x
   . have w1:¬writesD x=-1:=by omega
     cases q:thereD (writesD x) c.regs.length with
     | true =>
      have ok:bR c x=true:=by rw[fin,q];simp
      have k16:=k16 ok;rw[q]at tt;simp -implicitDefEqProofs only[h2,h3,tw,tt,eq_true e9,eq_true w0,eq_false w1,zqa,ok,k16,XP,seval]
     | false =>
      have ok:bR c x=false:=by rw[fin,q];simp[w0,w1]
      rw[q]at tt;simp -implicitDefEqProofs only[h2,h3,tw,tt,eq_true e9,eq_true w0,eq_false w1,zqa,ok,zqz,XP,seval]
   . have ok:bR c x=true:=by rw[fin];simp[e9,w0]
     have k16:=k16 ok;simp -implicitDefEqProofs only[h2,h3,tw,eq_true e9,eq_false w0,ok,k16,XP,seval]
 . by_cases w1:writesD x=-1
   . have ok:bR c x=true:=by rw[fin];simp[w1]
     have k16:=k16 ok;simp -implicitDefEqProofs only[h2,h3,tw,e9,eq_true w1,ok,k16,XP,seval]
   . cases q:thereD (writesD x) c.regs.length with
     | true =>
      have ok:bR c x=true:=by rw[fin,q];simp
      have k16:=k16 ok;rw[q]at tt;simp -implicitDefEqProofs only[h2,h3,tw,tt,e9,eq_false w1,zqa,ok,k16,XP,seval]
     | false =>
      have ok:bR c x=false:=by rw[fin,q];simp[e9,w1]
      rw[q]at tt;simp -implicitDefEqProofs only[h2,h3,tw,tt,e9,eq_false w1,zqa,ok,zqz,XP,seval]
theorem WE(ht:T 46=some D4)(h:i<L.length)(hs:L.length<=bigN)(hp:thereD L[i] c.regs.length=true):evP ⟨env,T,A1⟩ (.code Fv [(2,.ptr 0 0 0),(3,.ptr 1 0 0),(9,.msl 2 0 L.length 1),(10,.int .i64 (L.length:Int)),(11,.int .i64 (i:Int))] ⟨[.row 1 [chkF m c] 7,.row 1 [x.F] 8,.row 0 (ints L) 1],0,[]⟩)=some (.ok .normal [(2,.ptr 0 0 0),(3,.ptr 1 0 0),(9,.msl 2 0 L.length 1),(10,.int .i64 (L.length:Int)),(11,.int .i64 ((i+1:Nat):Int))] ⟨[.row 1 [chkF m c] 7,.row 1 [x.F] 8,.row 0 (ints L) 1],0,[]⟩):=by
 unfold Fv kZ rJ rI rH;have hlt:decide ((i:Int)<(L.length:Int))=true:=by simp[h]
 have hw:=B2 (i:=i) (by simp only[bigN]at hs;omega);have tt:=fun K=>O0 (K:=K) (a:=L[i]) (n:=c.regs.length) ht
 rw[hp]at tt;unfold chkF Ins.F;simp -implicitDefEqProofs only[hlt,A8 h,hw,tt,h,zqa,XP,seval]
theorem WG(ht:T 46=some D4)(h:i<L.length)(hp:thereD L[i] c.regs.length=false):evP ⟨env,T,A1⟩ (.code Fv [(2,.ptr 0 0 0),(3,.ptr 1 0 0),(9,.msl 2 0 L.length 1),(10,.int .i64 (L.length:Int)),(11,.int .i64 (i:Int))] ⟨[.row 1 [chkF m c] 7,.row 1 [x.F] 8,.row 0 (ints L) 1],0,[]⟩)=some (.ok .ret [(4,.bool false)] ⟨[],0,[]⟩):=by
 unfold Fv kZ rJ rI rH;have hlt:decide ((i:Int)<(L.length:Int))=true:=by simp[h]
 have tt:=fun K=>O0 (K:=K) (a:=L[i]) (n:=c.regs.length) ht
 rw[hp]at tt;unfold chkF Ins.F;simp -implicitDefEqProofs only[hlt,A8 h,tt,h,zqa,XP,seval]
theorem WH:∃fr',evP ⟨env,T,A1⟩ (.code Fv [(2,.ptr 0 0 0),(3,.ptr 1 0 0),(9,.msl 2 0 L.length 1),(10,.int .i64 (L.length:Int)),(11,.int .i64 (L.length:Int))] ⟨[.row 1 [chkF m c] 7,.row 1 [x.F] 8,.row 0 (ints L) 1],0,[]⟩)=some (.ok (.exit 0) fr' ⟨[.row 1 [chkF m c] 7,.row 1 [x.F] 8,.row 0 (ints L) 1],0,[]⟩)/\(lookP fr' 2=.ptr 0 0 0/\lookP fr' 3=.ptr 1 0 0):=by
 unfold Fv kZ;have hlt:decide ((L.length:Int)<(L.length:Int))=false:=by simp
 simp -implicitDefEqProofs only[hlt,XP,seval];exact⟨_,rfl,rfl,rfl⟩
theorem iP(hk:x.ok):(readsD x).length<=bigN:=by
 unfold readsD
 have:x.args.length<=bigN:=by unfold Ins.ok at hk;simp only[bigN]at hk|-;omega
 repeat' split
 all_goals first|exact this|(simp[bigN])
theorem Aq(hword_Wrap:T 49=some F2)(hir_checker_global:T 58=some D9)(hir_there:T 46=some D4)(hContInts:T 57=some m4)(hir_Writes:T 56=some Z7)(hir_Reads:T 55=some Ao){m:Modl}{c:Cod}{x:Ins}(hk:x.ok):AM.Comes ⟨env,T,A1⟩ 44 [chkF m c,x.F] [.bool (C8 m c x)]:=by
 refine⟨[.bool (C8 m c x)],⟨[],0,[]⟩,?_,back_of rfl zqb rfl rfl rfl⟩;rw[A3 (c:=MZ) (nt:=114) (rs:=[.tmp 4]) rfl (by simp)];unfold MZ;unfold K0;have hr:=fun K=>oC (K:=K) hir_Reads hk
 have hlen:=iP hk;have k17:∀fr:PF,lookP fr 2=.ptr 0 0 0->lookP fr 3=.ptr 1 0 0->evP ⟨env,T,A1⟩ (.code Zj fr ⟨[.row 1 [chkF m c] 7,.row 1 [x.F] 8],0,[]⟩)=some (.ok .ret [(4,.bool (bR c x&&(!r8 x&&iO m c x)))] ⟨[],0,[]⟩):=fun fr a b=>HF a b hword_Wrap hir_checker_global hir_there hContInts hir_Writes
 have lp:=Sj (P:=⟨env,T,A1⟩) (c:=Fv) (p:=fun r=>thereD r c.regs.length) (l:=readsD x) (S:=fun i=>[(2,.ptr 0 0 0),(3,.ptr 1 0 0),(9,.msl 2 0 (readsD x).length 1),(10,.int .i64 ((readsD x).length:Int)),(11,.int .i64 (i:Int))]) (K:=⟨[.row 1 [chkF m c] 7,.row 1 [x.F] 8,.row 0 (ints (readsD x)) 1],0,[]⟩)
  (Q:=fun fr'=>lookP fr' 2=.ptr 0 0 0/\lookP fr' 3=.ptr 1 0 0) (R:=fun fr' K'=>fr'=[(4,.bool false)]/\K'=⟨[],0,[]⟩) (fun i h hp=>WE hir_there h hlen hp) (fun i h hp=>⟨_,_,WG hir_there h hp,rfl,rfl⟩) WH
 unfold rP zM C8;rcases lp with⟨ha,fr',h1,h2,h3⟩|⟨ha,fr',K',h1,rfl,rfl⟩
 . have h1:evP ⟨env,T,A1⟩ (.code (.loop Fv) [(2,.ptr 0 0 0),(3,.ptr 1 0 0),(9,.msl 2 0 (readsD x).length 1),(10,.int .i64 ((readsD x).length:Int)),(11,.int .i64 0)] _)=_:=h1
   rw[ha];simp only[Ins.F,chkF]at hr h1 k17|-;simp -implicitDefEqProofs only[hr,h1,h2,h3,k17,zqa,XP,seval]
 . have h1:evP ⟨env,T,A1⟩ (.code (.loop Fv) [(2,.ptr 0 0 0),(3,.ptr 1 0 0),(9,.msl 2 0 (readsD x).length 1),(10,.int .i64 ((readsD x).length:Int)),(11,.int .i64 0)] _)=_:=h1
   rw[ha,zqz];simp only[Ins.F,chkF]at hr h1|-;simp -implicitDefEqProofs only[hr,h1,zqa,XP,seval]
def J0:=W3 (fun p:(Modl)×(Cod)×(Ins)=>[chkF p.1 p.2.1,p.2.2.F]) (fun p=>[.bool (C8 p.1 p.2.1 p.2.2)]) (fun p=>p.2.2.ok)
theorem Gz(hir_checker_places:T 44=some J0){m:Modl}{c:Cod}{x:Ins}{K:PK}(hk:x.ok):evP ⟨env,T,A1⟩ (.call 44 [chkF m c,x.F] K)=some (.val (openTs K.os.length [.bool (C8 m c x)]).1 ⟨K.os++(openTs K.os.length [.bool (C8 m c x)]).2,K.ext,K.tch⟩):=B3 hir_checker_places (by simp -implicitDefEqProofs only[VV,XP,seval]) (B5 (a:=fun p:(Modl)×(Cod)×(Ins)=>[chkF p.1 p.2.1,p.2.2.F]) (r:=fun p=>[.bool (C8 p.1 p.2.1 p.2.2)]) (fun x y e=>by simp only[VJ]at e;simp only[e]) (m,c,x) hk) (by simp -implicitDefEqProofs only[VN,XP,seval])
theorem Dt(hword_Wrap:T 49=some F2)(hir_checker_global:T 58=some D9)(hir_there:T 46=some D4)(hContInts:T 57=some m4)(hir_Writes:T 56=some Z7)(hir_Reads:T 55=some Ao)(hP:PEok ⟨env,T,A1⟩):TC env 44 J0:=B8 hP fun p h=>Aq hword_Wrap hir_checker_global hir_there hContInts hir_Writes hir_Reads h
end
section
variable {m:Modl}{c:Cod}{x:Ins}{fr:PF}{i:Nat}
theorem Jj(h:C8 m c x=true){r:Int}(hr:r∈readsD x):thereD r c.regs.length=true:=by
 unfold C8 at h;rw[zkc]at h;exact List.all_eq_true.1 h.1 r hr
theorem Ls(h:C8 m c x=true)(e:x.op=1\/x.op=2\/x.op=3\/x.op=4\/x.op=5\/x.op=7\/x.op=10):thereD x.dst c.regs.length=true:=by
 unfold C8 at h;simp only[zkc]at h;obtain⟨_,h1,h2,_⟩:=h;have hd:¬x.dst<0:=fun hd=>by
  have:r8 x=true:=by
   unfold r8 Lr;rcases e with e|e|e|e|e|e|e<;>simp[e,hd]
  rw[this]at h2;cases h2
 have hw:writesD x=x.dst:=by
  unfold writesD;rcases e with e|e|e|e|e|e|e<;>simp[e]
 unfold bR at h1;rw[hw]at h1;have h9:¬x.op=9:=by omega
 have:¬x.dst=-1:=by omega
 cases ht:thereD x.dst c.regs.length with
 |true=>rfl
 |false=>rw[ht]at h1;simp[this,h9]at h1
theorem sF(h:C8 m c x=true):iO m c x=true:=by
 unfold C8 at h;simp only[zkc]at h;exact h.2.2.2
theorem Zt(h:C8 m c x=true)(e:x.op=5\/x.op=6\/x.op=7\/x.op=8):thereD x.n m.gs.length=true:=by
 have h:=sF h;unfold iO at h;rcases e with e|e|e|e<;>simp[e,N2]at h<;>exact h.1
theorem sG(h:C8 m c x=true)(e:x.op=9):thereD x.n m.fs.length=true/\(codI m.fs x.n).ps<=(codI m.fs x.n).regs.length:=by
 have h:=sF h;unfold iO at h;simpa[e]using h
theorem wS(h:C8 m c x=true)(e:x.op=9)(hd:¬x.dst<0):thereD x.dst c.regs.length=true:=by
 unfold C8 at h;simp only[zkc]at h;obtain⟨_,h1,h2,_⟩:=h;have hw:writesD x=x.dst:=by
  unfold writesD;simp[e];omega
 unfold bR at h1;rw[hw]at h1
 have:¬x.dst=-1:=by omega
 have h0:0<=x.dst:=by omega
 cases ht:thereD x.dst c.regs.length with
 |true=>rfl
 |false=>rw[ht]at h1;simp[this,h0]at h1
def isD(c:Cod)(r t:Int):Bool:=decide (Ah c.regs r=t)
def iQ(l:List Glo)(i:Int):Glo:=l.getD i.toNat ⟨[],0,0,0⟩
theorem sH{l:List Glo}{k:Nat}(h:k<l.length):(l.map Glo.F)[k]?=some (iQ l k).F:=by
 rw[A6 (F:=Glo.F) h];unfold iQ;simp[h]
def sJ(x:Ins):Int:=if contS (32::(x.s++[32])) r6 then 1 else x.ty
def y7(m:Modl)(c:Cod)(x:Ins):Bool:=(x.args.zip (codI m.fs x.n).regs).all (fun p=>isD c p.1 p.2)&&(decide (x.dst<0)||(!decide ((codI m.fs x.n).ty=0)&&isD c x.dst (codI m.fs x.n).ty))
def Q2(m:Modl)(c:Cod)(x:Ins):Bool:=
 if x.op=2 then isD c x.a (Ah c.regs x.dst)else if x.op=3 then isD c x.a x.ty&&(isD c x.b x.ty&&isD c x.dst (sJ x))else if x.op=4 then isD c x.dst (Ga x.ty)
 else if x.op=5 then isD c x.a 2&&isD c x.dst (Ga (iQ m.gs x.n).ty)else if x.op=6 then isD c x.a 2&&isD c x.b (Ga (iQ m.gs x.n).ty)else if x.op=7 then isD c x.dst (iQ m.gs x.n).ty else if x.op=8 then isD c x.a (iQ m.gs x.n).ty
 else if x.op=9 then y7 m c x else if x.op=10 then isD c x.dst 2 else if x.op=11 then isD c x.a 2 else true
def Sk(m:Modl)(x:Ins):Prop:=x.op=9->(x.args.length:Int)=(codI m.fs x.n).ps
section
variable {F:Cod}{A:List Int}
theorem WI(hN:T 59=none)(h:i<A.length)(hF:i<F.regs.length)(hs:A.length<=bigN)(hr:thereD A[i] c.regs.length=true)(hp:isD c A[i] F.regs[i]=true):
 evP ⟨env,T,A1⟩ (.code Fw [(2,.fn (.func 59) [] [.ptr 0 0 0]),(4,.ptr 2 0 0),(7,.ptr 3 0 0),(18,fslN (ints A)),(19,.int .i64 (A.length:Int)),(20,.int .i64 (i:Int))] ⟨[.row 1 [chkF m c] 7,.row 1 [x.F] 8,.row 1 [x.F] 8,.row 1 [F.F] 5],2,[]⟩)=some (.ok .normal [(2,.fn (.func 59) [] [.ptr 0 0 0]),(4,.ptr 2 0 0),(7,.ptr 3 0 0),(18,fslN (ints A)),(19,.int .i64 (A.length:Int)),(20,.int .i64 ((i+1:Nat):Int))] ⟨[.row 1 [chkF m c] 7,.row 1 [x.F] 8,.row 1 [x.F] 8,.row 1 [F.F] 5],2,[]⟩):=by
 unfold Fw;have hlt:decide ((i:Int)<(A.length:Int))=true:=by simp[h]
 have hw:=B2 (i:=i) (by simp only[bigN]at hs;omega);have ic:=fun t K hK=>Pj (m:=m) (t:=t) (id:=0) (K:=K) hN hr hK
 have hp:decide (Ah c.regs A[i]=F.regs[i])=true:=hp;simp only[chkF,Ins.F,Cod.F]at ic|-;simp -implicitDefEqProofs only[hlt,A8 h,A8 hF,hw,ic,hp,XP,seval]
theorem WJ(hN:T 59=none)(h:i<A.length)(hF:i<F.regs.length)(hr:thereD A[i] c.regs.length=true)(hp:isD c A[i] F.regs[i]=false):
 ∃K',evP ⟨env,T,A1⟩ (.code Fw [(2,.fn (.func 59) [] [.ptr 0 0 0]),(4,.ptr 2 0 0),(7,.ptr 3 0 0),(18,fslN (ints A)),(19,.int .i64 (A.length:Int)),(20,.int .i64 (i:Int))] ⟨[.row 1 [chkF m c] 7,.row 1 [x.F] 8,.row 1 [x.F] 8,.row 1 [F.F] 5],2,[]⟩)=some (.ok .ret [(6,.bool false)] K')/\K'=⟨[.row 1 [chkF m c] 7,.row 1 [x.F] 8],2,[]⟩:=by
 unfold Fw;have hlt:decide ((i:Int)<(A.length:Int))=true:=by simp[h]
 have ic:=fun t K hK=>Pj (m:=m) (t:=t) (id:=0) (K:=K) hN hr hK
 have hp:decide (Ah c.regs A[i]=F.regs[i])=false:=hp;simp only[chkF,Ins.F,Cod.F]at ic|-;simp -implicitDefEqProofs only[hlt,A8 h,A8 hF,ic,hp,XP,seval];exact⟨_,rfl,rfl⟩
theorem WK:∃fr',evP ⟨env,T,A1⟩ (.code Fw [(2,.fn (.func 59) [] [.ptr 0 0 0]),(4,.ptr 2 0 0),(7,.ptr 3 0 0),(18,fslN (ints A)),(19,.int .i64 (A.length:Int)),(20,.int .i64 (A.length:Int))] ⟨[.row 1 [chkF m c] 7,.row 1 [x.F] 8,.row 1 [x.F] 8,.row 1 [F.F] 5],2,[]⟩)=some (.ok (.exit 0) fr' ⟨[.row 1 [chkF m c] 7,.row 1 [x.F] 8,.row 1 [x.F] 8,.row 1 [F.F] 5],2,[]⟩)/\(lookP fr' 2=.fn (.func 59) [] [.ptr 0 0 0]/\lookP fr' 4=.ptr 2 0 0/\lookP fr' 7=.ptr 3 0 0):=by
 unfold Fw;have hlt:decide ((A.length:Int)<(A.length:Int))=false:=by simp
 simp -implicitDefEqProofs only[hlt,XP,seval];exact⟨_,rfl,rfl,rfl,rfl⟩
end
theorem oD(hN:T 59=none)(hk:x.ok)(hpl:C8 m c x=true)(e9:x.op=9)(ha:Sk m x):
 evP ⟨env,T,A1⟩ (.body 61 [chkF m c,x.F,.fn (.func 59) [] [.ptr 0 0 0]] ⟨[.row 1 [chkF m c] 7,.row 1 [x.F] 8],2,[]⟩)=some (.val [.bool (y7 m c x)] ⟨[.row 1 [chkF m c] 7,.row 1 [x.F] 8],2,[]⟩):=by
 obtain⟨hf,hps⟩:=sG hpl e9;have ha:=ha e9;obtain⟨k,hkn,hkl⟩:=G6 hf;have hi:=Ji (show k<m.fs.length by omega);rw[<-hkn]at hi;have hlen:x.args.length<=bigN:=by unfold Ins.ok at hk;simp only[bigN]at hk|-;omega
 have hz:(x.args.zip (codI m.fs x.n).regs).length=x.args.length:=by rw[zqm];omega
 have rd:∀i (h:i<x.args.length),thereD x.args[i] c.regs.length=true:=fun i h=>Jj hpl (by
  have:readsD x=x.args:=by simp[readsD,e9]
  rw[this];exact zqc h)
 have lp:=Sj (P:=⟨env,T,A1⟩) (c:=Fw) (p:=fun p=>isD c p.1 p.2) (l:=x.args.zip (codI m.fs x.n).regs) (S:=fun i=>[(2,.fn (.func 59) [] [.ptr 0 0 0]),(4,.ptr 2 0 0),(7,.ptr 3 0 0),(18,fslN (ints x.args)),(19,.int .i64 (x.args.length:Int)),(20,.int .i64 (i:Int))]) (K:=⟨[.row 1 [chkF m c] 7,.row 1 [x.F] 8,.row 1 [x.F] 8,.row 1 [(codI m.fs x.n).F] 5],2,[]⟩)
  (Q:=fun fr'=>lookP fr' 2=.fn (.func 59) [] [.ptr 0 0 0]/\lookP fr' 4=.ptr 2 0 0/\lookP fr' 7=.ptr 3 0 0) (R:=fun fr' K'=>fr'=[(6,.bool false)]/\K'=⟨[.row 1 [chkF m c] 7,.row 1 [x.F] 8],2,[]⟩)
  (fun i h hp=>WI (F:=codI m.fs x.n) (A:=x.args) hN (by omega) (by rw[zqm]at h;omega) hlen (rd i (by omega)) (by simpa using hp)) (fun i h hp=>by
    obtain⟨K',q1,q2⟩:=WJ (m:=m) (x:=x) (F:=codI m.fs x.n) (A:=x.args) hN (show i<x.args.length by omega) (by rw[zqm]at h;omega) (rd i (by omega)) (by simpa using hp);exact⟨_,K',q1,rfl,q2⟩) (by rw[hz];exact WK)
 rw [A3 (c:=NL) (nt:=51) (rs:=[.tmp 6]) rfl (by simp)];unfold NL;have fin:y7 m c x=((x.args.zip (codI m.fs x.n).regs).all (fun p=>isD c p.1 p.2)&&(decide (x.dst<0)||(!decide ((codI m.fs x.n).ty=0)&&isD c x.dst (codI m.fs x.n).ty))):=rfl;have hix:∀te:TI,te.size=5->Hs te (fslN (m.fs.map Cod.F)) (.int .i64 x.n)=some (.fptr (codI m.fs x.n).F 0):=fun te h=>by
  rw[hkn]at hi|-;exact ix_fslN hi (by rw[h];rfl)
 have hix:=hix _ ty41_z;rcases lp with⟨hall,fr',h1,h2,h3,h4⟩|⟨hall,fr',K',h1,rfl,rfl⟩
 . have h1:evP ⟨env,T,A1⟩ (.code (.loop Fw) [(2,.fn (.func 59) [] [.ptr 0 0 0]),(4,.ptr 2 0 0),(7,.ptr 3 0 0),(18,fslN (ints x.args)),(19,.int .i64 (x.args.length:Int)),(20,.int .i64 0)] _)=_:=h1
   rw[hall,Bool.true_and]at fin;simp only[chkF,Ins.F,Cod.F]at h1 hix|-;by_cases hd:x.dst<0
   . have fin:y7 m c x=true:=by rw[fin];simp[hd]
     simp -implicitDefEqProofs only[hix,h1,h2,h3,h4,fin,eq_true hd,zqa,XP,seval]
   . by_cases hv:(codI m.fs x.n).ty=0
     . have fin:y7 m c x=false:=by rw[fin];simp[hd,hv]
       simp -implicitDefEqProofs only[hix,h1,h2,h3,h4,fin,hd,eq_true hv,zqa,XP,seval]
     . have fin:y7 m c x=isD c x.dst (codI m.fs x.n).ty:=by rw[fin];simp[hd,hv]
       have ic:=fun t K hK=>Pj (m:=m) (r:=x.dst) (t:=t) (id:=0) (K:=K) hN (wS hpl e9 hd) hK
       unfold isD at fin;simp only[chkF]at ic;simp -implicitDefEqProofs only[hix,h1,h2,h3,h4,fin,hd,hv,ic,zqa,XP,seval]
 . have h1:evP ⟨env,T,A1⟩ (.code (.loop Fw) [(2,.fn (.func 59) [] [.ptr 0 0 0]),(4,.ptr 2 0 0),(7,.ptr 3 0 0),(18,fslN (ints x.args)),(19,.int .i64 (x.args.length:Int)),(20,.int .i64 0)] _)=_:=h1
   rw[hall,zqz]at fin;simp only[chkF,Ins.F,Cod.F]at h1 hix|-;simp -implicitDefEqProofs only[hix,h1,fin,zqa,XP,seval]
end
section
variable {m:Modl}{c:Cod}{x:Ins}{fr:PF}{i:Nat}{tch:List Nat}
theorem oE(hN:T 59=none)(hC:T 61=none)(hk:x.ok)(hpl:C8 m c x=true)(e9:x.op=9)(ha:Sk m x):
 evP ⟨env,T,A1⟩ (.call 61 [chkF m c,x.F,.fn (.func 59) [] [.ptr 0 0 0]] ⟨[.row 1 [chkF m c] 7,.row 1 [x.F] 8],0,tch⟩)=some (.val [.bool (y7 m c x)] ⟨[.row 1 [chkF m c] 7,.row 1 [x.F] 8],0,tch⟩):=
 (Gc hC rfl).trans ((congrArg _ (oD hN hk hpl e9 ha)).trans rfl)
theorem Bt(nir_checker_types_1:T 59=none)(nir_checker_call:T 61=none)(hstrings_Contains:T 54=some R0)(hir_wide:T 60=some Do){m:Modl}{c:Cod}{x:Ins}(hk:x.ok/\x.s.length<=bigN/\C8 m c x=true/\Sk m x):AM.Comes ⟨env,T,A1⟩ 45 [chkF m c,x.F] [.bool (Q2 m c x)]:=by
 refine⟨[.bool (Q2 m c x)],⟨[],0,[]⟩,?_,back_of rfl zqb rfl rfl rfl⟩;rw[A3 (c:=NA) (nt:=150) (rs:=[.tmp 4]) rfl (by simp)];unfold NA;unfold K0;obtain⟨hx,hs,hpl,hargs⟩:=hk;have isr:=fun(r t:Int)(K:PK)(hr:thereD r c.regs.length=true) hK=>Pj (m:=m) (c:=c) (r:=r) (t:=t) (id:=0) (K:=K) nir_checker_types_1 hr hK
 have tw:=fun t K=>sC (K:=K) (t:=t) hir_wide
 have cc:=fun e9 tch=>oE (tch:=tch) nir_checker_types_1 nir_checker_call hx hpl e9 hargs
 have gix:∀k:Nat,x.n=k->k<m.gs.length->Hs Cg (fslN (m.gs.map Glo.F)) (.int .i64 x.n)=some (.fptr (iQ m.gs x.n).F 0):=fun k hk hl=>by
  rw[hk];exact ix_fslN (sH hl) rfl
 have rix:∀k:Nat,x.dst=k->k<c.regs.length->Hs ty3 (fslN (ints c.regs)) (.int .i64 x.dst)=some (.fptr (.int .i64 (Ah c.regs x.dst)) 0):=fun k hk hl=>by
  rw[hk];exact ix_fslN (Jh hl) rfl
 unfold rU rT rS rR rQ AB AA zZ zY zX zW zV zU Q2;simp only[chkF,Ins.F]at isr cc|-;by_cases e2:x.op=2
 . have ia:=fun t K hK=>isr x.a t K (Jj hpl (by simp[readsD,e2])) hK
   obtain⟨k,hk,hl⟩:=G6 (Ls hpl (by simp[e2]));have hix:=rix k hk (by omega);unfold isD;simp -implicitDefEqProofs only[eq_true e2,ia,hix,XP,seval]
 by_cases e3:x.op=3
 . have ia:=fun t K hK=>isr x.a t K (Jj hpl (by simp[readsD,e3])) hK
   have ib:=fun t K hK=>isr x.b t K (Jj hpl (by simp[readsD,e3])) hK
   have id:=fun t K hK=>isr x.dst t K (Ls hpl (by simp[e3])) hK
   have d1:∀K:PK,N4 env .add 9 (.str [32]) (.str x.s) K=.val (.str (32::x.s)) K:=fun K=>Ph (by simp only[bigN]at hs;simp;omega)
   have d2:∀K:PK,N4 env .add 9 (.str (32::x.s)) (.str [32]) K=.val (.str (32::(x.s++[32]))) K:=fun K=>Ph (by simp only[bigN]at hs;simp;omega)
   have cn:=fun K=>Lo (K:=K) (s:=r6) (p:=32::(x.s++[32])) hstrings_Contains (by unfold Ln;rfl)
   unfold isD sJ zT zS;unfold r6 at cn|-;by_cases qa:Ah c.regs x.a=x.ty
   . by_cases qb:Ah c.regs x.b=x.ty
     . cases hcc:contS (32::(x.s++[32])) [32,61,61,32,33,61,32,60,32,60,61,32,62,32,62,61,32]with
       |true=>simp -implicitDefEqProofs only[e2,eq_true e3,ia,ib,id,d1,d2,cn,hcc,eq_true qa,eq_true qb,XP,seval]
       |false=>simp -implicitDefEqProofs only[e2,eq_true e3,ia,ib,id,d1,d2,cn,hcc,eq_true qa,eq_true qb,XP,seval]
     . cases hcc:contS (32::(x.s++[32])) [32,61,61,32,33,61,32,60,32,60,61,32,62,32,62,61,32]with
       |true=>simp -implicitDefEqProofs only[e2,eq_true e3,ia,ib,id,d1,d2,cn,hcc,eq_true qa,eq_false qb,zqz,XP,seval]
       |false=>simp -implicitDefEqProofs only[e2,eq_true e3,ia,ib,id,d1,d2,cn,hcc,eq_true qa,eq_false qb,zqz,XP,seval]
   . cases hcc:contS (32::(x.s++[32])) [32,61,61,32,33,61,32,60,32,60,61,32,62,32,62,61,32]with
     |true=>simp -implicitDefEqProofs only[e2,eq_true e3,ia,ib,id,d1,d2,cn,hcc,eq_false qa,zqz,XP,seval]
     |false=>simp -implicitDefEqProofs only[e2,eq_true e3,ia,ib,id,d1,d2,cn,hcc,eq_false qa,zqz,XP,seval]
 by_cases e4:x.op=4
 . have id:=fun t K hK=>isr x.dst t K (Ls hpl (by simp[e4])) hK
   unfold isD;simp -implicitDefEqProofs only[e2,e3,eq_true e4,id,tw,XP,seval]
 by_cases e5:x.op=5
 . have ia:=fun t K hK=>isr x.a t K (Jj hpl (by simp[readsD,e5])) hK
   have id:=fun t K hK=>isr x.dst t K (Ls hpl (by simp[e5])) hK
   obtain⟨k,hk,hl⟩:=G6 (Zt hpl (by simp[e5]));have hix:=gix k hk (by omega);simp only[Glo.F]at hix;unfold isD;by_cases qa:Ah c.regs x.a=2
   . simp -implicitDefEqProofs only[e2,e3,e4,eq_true e5,ia,id,hix,tw,eq_true qa,XP,seval]
   . simp -implicitDefEqProofs only[e2,e3,e4,eq_true e5,ia,id,hix,tw,eq_false qa,zqz,XP,seval]
 by_cases e6:x.op=6
 . have ia:=fun t K hK=>isr x.a t K (Jj hpl (by simp[readsD,e6])) hK
   have ib:=fun t K hK=>isr x.b t K (Jj hpl (by simp[readsD,e6])) hK
   obtain⟨k,hk,hl⟩:=G6 (Zt hpl (by simp[e6]));have hix:=gix k hk (by omega);simp only[Glo.F]at hix;unfold isD;by_cases qa:Ah c.regs x.a=2
   . simp -implicitDefEqProofs only[e2,e3,e4,e5,eq_true e6,ia,ib,hix,tw,eq_true qa,XP,seval]
   . simp -implicitDefEqProofs only[e2,e3,e4,e5,eq_true e6,ia,ib,hix,tw,eq_false qa,zqz,XP,seval]
 by_cases e7:x.op=7
 . have id:=fun t K hK=>isr x.dst t K (Ls hpl (by simp[e7])) hK
   obtain⟨k,hk,hl⟩:=G6 (Zt hpl (by simp[e7]));have hix:=gix k hk (by omega);simp only[Glo.F]at hix;unfold isD;simp -implicitDefEqProofs only[e2,e3,e4,e5,e6,eq_true e7,id,hix,XP,seval]
 by_cases e8:x.op=8
 . have ia:=fun t K hK=>isr x.a t K (Jj hpl (by simp[readsD,e8])) hK
   obtain⟨k,hk,hl⟩:=G6 (Zt hpl (by simp[e8]));have hix:=gix k hk (by omega);simp only[Glo.F]at hix;unfold isD;simp -implicitDefEqProofs only[e2,e3,e4,e5,e6,e7,eq_true e8,ia,hix,XP,seval]
 by_cases e9:x.op=9
 . have cc:=cc e9
   simp -implicitDefEqProofs only[e2,e3,e4,e5,e6,e7,e8,eq_true e9,cc,XP,seval]
 by_cases e10:x.op=10
 . have id:=fun t K hK=>isr x.dst t K (Ls hpl (by simp[e10])) hK
   unfold isD;simp -implicitDefEqProofs only[e2,e3,e4,e5,e6,e7,e8,e9,eq_true e10,id,XP,seval]
 by_cases e11:x.op=11
 . have ia:=fun t K hK=>isr x.a t K (Jj hpl (by simp[readsD,e11])) hK
   unfold isD;simp -implicitDefEqProofs only[e2,e3,e4,e5,e6,e7,e8,e9,e10,eq_true e11,ia,XP,seval]
 . simp -implicitDefEqProofs only[e2,e3,e4,e5,e6,e7,e8,e9,e10,e11,XP,seval]
def K7:=W3 (fun p:(Modl)×(Cod)×(Ins)=>[chkF p.1 p.2.1,p.2.2.F]) (fun p=>[.bool (Q2 p.1 p.2.1 p.2.2)]) (fun p=>p.2.2.ok/\p.2.2.s.length<=bigN/\C8 p.1 p.2.1 p.2.2=true/\Sk p.1 p.2.2)
theorem y8(hir_checker_types:T 45=some K7){m:Modl}{c:Cod}{x:Ins}{K:PK}(hk:x.ok/\x.s.length<=bigN/\C8 m c x=true/\Sk m x):evP ⟨env,T,A1⟩ (.call 45 [chkF m c,x.F] K)=some (.val (openTs K.os.length [.bool (Q2 m c x)]).1 ⟨K.os++(openTs K.os.length [.bool (Q2 m c x)]).2,K.ext,K.tch⟩):=B3 hir_checker_types (by simp -implicitDefEqProofs only[VV,XP,seval]) (B5 (a:=fun p:(Modl)×(Cod)×(Ins)=>[chkF p.1 p.2.1,p.2.2.F]) (r:=fun p=>[.bool (Q2 p.1 p.2.1 p.2.2)]) (fun x y e=>by simp only[VJ]at e;simp only[e]) (m,c,x) hk) (by simp -implicitDefEqProofs only[VN,XP,seval])
theorem Ff(nir_checker_types_1:T 59=none)(nir_checker_call:T 61=none)(hstrings_Contains:T 54=some R0)(hir_wide:T 60=some Do)(hP:PEok ⟨env,T,A1⟩):TC env 45 K7:=B8 hP fun p h=>Bt nir_checker_types_1 nir_checker_call hstrings_Contains hir_wide h
end
section
variable {m:Modl}{c:Cod}{x:Ins}{fr:PF}{i:Nat}{tch:List Nat}
def H9(m:Modl)(c:Cod)(x:Ins):Int:=if r7 x=true then(if C8 m c x=true then(if x.op=9 then(if(x.args.length:Int)=(codI m.fs x.n).ps then(if Q2 m c x=true then 0 else 6)else 7)else(if Q2 m c x=true then 0 else 6))else 11)else 2
theorem Bu(hir_form:T 43=some Dr)(hir_checker_places:T 44=some J0)(hir_checker_types:T 45=some K7){m:Modl}{c:Cod}{x:Ins}(hk:x.ok/\x.s.length<=bigN):AM.Comes ⟨env,T,A1⟩ 32 [chkF m c,x.F] [.int .i64 (H9 m c x)]:=by
 refine⟨[.int .i64 (H9 m c x)],⟨[],0,[]⟩,?_,back_of rfl zqb rfl rfl rfl⟩;rw[A3 (c:=MR) (nt:=37) (rs:=[.tmp 4]) rfl (by simp)];unfold MR;unfold K0;obtain⟨hx,hs⟩:=hk;have tf:=fun K=>sE (K:=K) hir_form hs
 have tp:=fun K=>Gz (K:=K) (m:=m) (c:=c) hir_checker_places hx
 unfold H9;cases hf:r7 x with
 | false =>
  rw[hf]at tf;simp only[Ins.F,chkF]at tf|-;simp -implicitDefEqProofs only[tf,XP,seval]
 | true =>
  rw[hf]at tf;cases hp:C8 m c x with
  | false =>
   rw[hp]at tp;simp only[Ins.F,chkF]at tf tp|-;simp -implicitDefEqProofs only[tf,tp,XP,seval]
  | true =>
   rw[hp]at tp;by_cases e9:x.op=9
   . obtain ⟨hfn,hps⟩:=sG hp e9
     obtain ⟨k,hkn,hkl⟩:=G6 hfn;have hi:=Ji (show k<m.fs.length by omega);rw[<-hkn]at hi;have hix:Hs o7 (fslN (m.fs.map Cod.F)) (.int .i64 x.n)=some (.fptr (codI m.fs x.n).F 0):=by
      rw[hkn]at hi|-;exact ix_fslN hi rfl
     by_cases hq:(x.args.length:Int)=(codI m.fs x.n).ps
     . have tt:=fun K=>y8 (K:=K) (m:=m) (c:=c) hir_checker_types ⟨hx,hs,hp,fun _=>hq⟩
       cases ht:Q2 m c x with
       |true=>rw[ht]at tt;simp only[Ins.F,chkF,Cod.F]at tf tp tt hix|-;simp -implicitDefEqProofs only[tf,tp,tt,hix,eq_true e9,eq_true hq,zqa,XP,seval]
       |false=>rw[ht]at tt;simp only[Ins.F,chkF,Cod.F]at tf tp tt hix|-;simp -implicitDefEqProofs only[tf,tp,tt,hix,eq_true e9,eq_true hq,zqa,XP,seval]
     . simp only[Ins.F,chkF,Cod.F]at tf tp hix|-;simp -implicitDefEqProofs only[tf,tp,hix,eq_true e9,hq,zqa,XP,seval]
   . have tt:=fun K=>y8 (K:=K) (m:=m) (c:=c) hir_checker_types ⟨hx,hs,hp,fun h=>absurd h e9⟩
     cases ht:Q2 m c x with
     |true=>rw[ht]at tt;simp only[Ins.F,chkF]at tf tp tt|-;simp -implicitDefEqProofs only[tf,tp,tt,e9,XP,seval]
     |false=>rw[ht]at tt;simp only[Ins.F,chkF]at tf tp tt|-;simp -implicitDefEqProofs only[tf,tp,tt,e9,XP,seval]
def C5:=W3 (fun p:(Modl)×(Cod)×(Ins)=>[chkF p.1 p.2.1,p.2.2.F]) (fun p=>[.int .i64 (H9 p.1 p.2.1 p.2.2)]) (fun p=>p.2.2.ok/\p.2.2.s.length<=bigN)
theorem y9(hir_checker_instr:T 32=some C5){m:Modl}{c:Cod}{x:Ins}{K:PK}(hk:x.ok/\x.s.length<=bigN):evP ⟨env,T,A1⟩ (.call 32 [chkF m c,x.F] K)=some (.val (openTs K.os.length [.int .i64 (H9 m c x)]).1 ⟨K.os++(openTs K.os.length [.int .i64 (H9 m c x)]).2,K.ext,K.tch⟩):=B3 hir_checker_instr (by simp -implicitDefEqProofs only[VV,XP,seval]) (B5 (a:=fun p:(Modl)×(Cod)×(Ins)=>[chkF p.1 p.2.1,p.2.2.F]) (r:=fun p=>[.int .i64 (H9 p.1 p.2.1 p.2.2)]) (fun x y e=>by simp only[VJ]at e;simp only[e]) (m,c,x) hk) (by simp -implicitDefEqProofs only[VN,XP,seval])
theorem Fg(hir_form:T 43=some Dr)(hir_checker_places:T 44=some J0)(hir_checker_types:T 45=some K7)(hP:PEok ⟨env,T,A1⟩):TC env 32 C5:=B8 hP fun p h=>Bu hir_form hir_checker_places hir_checker_types h
def Jk(c:Cod)(e:Endd):Int:=
 if e.kind=1 then(if thereD e.to c.blocks.length=true then 0 else 11)
 else if e.kind=2 then(if thereD e.to c.blocks.length=true then(if thereD e.els c.blocks.length=true then(if thereD e.a c.regs.length=true then(if Ah c.regs e.a=1 then 0 else 6)else 11)else 11)else 11)
 else if e.kind=3 then(if e.a<0 then(if c.ty=0 then 0 else 6)else(if thereD e.a c.regs.length=true then(if c.ty=0 then 6 else if Ah c.regs e.a=c.ty then 0 else 6)else 11))else 2
theorem Du(hir_there:T 46=some D4){m:Modl}{c:Cod}{e:Endd}:AM.Comes ⟨env,T,A1⟩ 33 [chkF m c,e.F] [.int .i64 (Jk c e)]:=by
 refine⟨[.int .i64 (Jk c e)],⟨[],0,[]⟩,?_,back_of rfl zqb rfl rfl rfl⟩;rw[A3 (c:=MS) (nt:=100) (rs:=[.tmp 4]) rfl (by simp)];unfold MS;unfold K0;have tt:=fun a n K=>O0 (K:=K) (a:=a) (n:=n) hir_there
 have eb:=lC 4 rfl;have rix:∀k:Nat,e.a=k->k<c.regs.length->Hs ty3 (fslN (ints c.regs)) (.int .i64 e.a)=some (.fptr (.int .i64 (Ah c.regs e.a)) 0):=fun k hk hl=>by
  rw[hk];exact ix_fslN (Jh hl) rfl
 have b1:(true==true)=true:=rfl;have b2:(true==false)=false:=rfl;have b3:(false==true)=false:=rfl;have b4:(false==false)=true:=rfl;unfold Jk;simp only[Endd.F,chkF];by_cases e1:e.kind=1
 . cases h1:thereD e.to c.blocks.length with
   |true=>simp -implicitDefEqProofs only[tt,h1,eq_true e1,zqa,XP,seval]
   |false=>simp -implicitDefEqProofs only[tt,h1,eq_true e1,zqa,XP,seval]
 by_cases e2:e.kind=2
 . cases h1:thereD e.to c.blocks.length with
   |false=>simp -implicitDefEqProofs only[tt,h1,e1,eq_true e2,zqa,XP,seval]
   | true =>
    cases h2:thereD e.els c.blocks.length with
    |false=>simp -implicitDefEqProofs only[tt,h1,h2,e1,eq_true e2,zqa,XP,seval]
    | true =>
     cases h3:thereD e.a c.regs.length with
     |false=>simp -implicitDefEqProofs only[tt,h1,h2,h3,e1,eq_true e2,zqa,XP,seval]
     | true =>
      obtain⟨k,hk,hl⟩:=G6 h3;have hix:=rix k hk (by omega);by_cases hq:Ah c.regs e.a=1
      . simp -implicitDefEqProofs only[tt,h1,h2,h3,hix,eq_true hq,e1,eq_true e2,zqa,XP,seval]
      . simp -implicitDefEqProofs only[tt,h1,h2,h3,hix,hq,e1,eq_true e2,zqa,XP,seval]
 by_cases e3:e.kind=3
 . by_cases ha:e.a<0
   . by_cases hv:c.ty=0
     . simp -implicitDefEqProofs only[tt,eb,b1,b2,b3,b4,eq_true ha,eq_true hv,e1,e2,eq_true e3,zqa,XP,seval]
     . simp -implicitDefEqProofs only[tt,eb,b1,b2,b3,b4,eq_true ha,hv,e1,e2,eq_true e3,zqa,XP,seval]
   . cases h3:thereD e.a c.regs.length with
     |false=>simp -implicitDefEqProofs only[tt,h3,ha,e1,e2,eq_true e3,zqa,XP,seval]
     | true =>
      obtain⟨k,hk,hl⟩:=G6 h3;have hix:=rix k hk (by omega);by_cases hv:c.ty=0
      . simp -implicitDefEqProofs only[tt,h3,eb,b1,b2,b3,b4,ha,eq_true hv,e1,e2,eq_true e3,zqa,XP,seval]
      . by_cases hq:Ah c.regs e.a=c.ty
        . simp -implicitDefEqProofs only[tt,h3,hix,eb,b1,b2,b3,b4,ha,hv,eq_true hq,e1,e2,eq_true e3,zqa,XP,seval]
        . simp -implicitDefEqProofs only[tt,h3,hix,eb,b1,b2,b3,b4,ha,hv,hq,e1,e2,eq_true e3,zqa,XP,seval]
 . simp -implicitDefEqProofs only[e1,e2,e3,zqa,XP,seval]
def I0:=W3 (fun p:(Modl)×(Cod)×(Endd)=>[chkF p.1 p.2.1,p.2.2.F]) (fun p=>[.int .i64 (Jk p.2.1 p.2.2)]) (fun p=>True)
theorem Cd(hir_checker_end:T 33=some I0){m:Modl}{c:Cod}{e:Endd}{K:PK}:evP ⟨env,T,A1⟩ (.call 33 [chkF m c,e.F] K)=some (.val (openTs K.os.length [.int .i64 (Jk c e)]).1 ⟨K.os++(openTs K.os.length [.int .i64 (Jk c e)]).2,K.ext,K.tch⟩):=B3 hir_checker_end (by simp -implicitDefEqProofs only[VV,XP,seval]) (B5 (a:=fun p:(Modl)×(Cod)×(Endd)=>[chkF p.1 p.2.1,p.2.2.F]) (r:=fun p=>[.int .i64 (Jk p.2.1 p.2.2)]) (fun x y e=>by simp only[VJ]at e;simp only[e]) (m,c,e) trivial) (by simp -implicitDefEqProofs only[VN,XP,seval])
theorem Jl(hir_there:T 46=some D4)(hP:PEok ⟨env,T,A1⟩):TC env 33 I0:=B8 hP fun p h=>Du hir_there
def G0:List Int->Int
 |[]=>0
 |e::l=>if e=0 then G0 l else e
theorem err_loop{P:PE}{c:PC}{X:Type}{f:X->Int}{l:List X}{S:Nat->PF}{K:PK}{x:Nat}{Q:PF->Prop}{R:Int->PF->PK->Prop}
 (h1:∀i (h:i<l.length),f l[i]=0->evP P (.code c (S i) K)=some (.ok .normal (S (i+1)) K))
 (h2:∀i (h:i<l.length),¬f l[i]=0->∃fr' K',evP P (.code c (S i) K)=some (.ok .ret fr' K')/\R (f l[i]) fr' K')
 (hx:∃fr',evP P (.code c (S l.length) K)=some (.ok (.exit x) fr' K)/\Q fr'):
 (G0 (l.map f)=0/\∃fr',evP P (.code (.loop c) (S 0) K)=some (.ok (.exit x) fr' K)/\Q fr')\/(¬G0 (l.map f)=0/\∃fr' K',evP P (.code (.loop c) (S 0) K)=some (.ok .ret fr' K')/\R (G0 (l.map f)) fr' K'):=by
 have key:∀(n i:Nat),l.length=i+n->(G0 ((l.drop i).map f)=0/\∃fr',evP P (.code (.loop c) (S i) K)=some (.ok (.exit x) fr' K)/\Q fr')\/(¬G0 ((l.drop i).map f)=0/\∃fr' K',evP P (.code (.loop c) (S i) K)=some (.ok .ret fr' K')/\R (G0 ((l.drop i).map f)) fr' K'):=fun n=>by
  induction n with
  | zero =>
   intro i e;obtain rfl:i=l.length:=by omega
   obtain⟨fr',h,q⟩:=hx;exact .inl ⟨by rw[zqh];rfl,fr',C6 h,q⟩
  | succ n ih =>
   intro i e;have hl:i<l.length:=by omega
   rw[zqi hl,List.map_cons];unfold G0;by_cases hq:f l[i]=0
   . rw[loop_more (h1 i hl hq),if_pos hq]
     exact ih (i+1) (by omega)
   . obtain⟨fr',K',q1,q2⟩:=h2 i hl hq
     rw[if_neg hq];exact .inr ⟨hq,fr',K',u7 q1,q2⟩
 exact key l.length 0 (by omega)
end
def Ins.sok(x:Ins):Prop:=x.ok/\x.s.length<=bigN
def Blk.sok(b:Blk):Prop:=b.ok/\∀x∈b.code,x.sok
def Cod.sok(c:Cod):Prop:=c.ok/\∀b∈c.blocks,b.sok
def Modl.ok(m:Modl):Prop:=(∀c∈m.fs,c.sok)/\m.fs.length*64<=bigN/\m.gs.length*40<=bigN
section
variable {m:Modl}{c:Cod}{x:Ins}{b:Blk}{fr:PF}{i k:Nat}{tch:List Nat}
def Oe(m:Modl)(c:Cod)(b:Blk):Int:=if G0 (b.code.map (H9 m c))=0 then Jk c b.e else G0 (b.code.map (H9 m c))
def R6(m:Modl)(c:Cod):Int:=
 if c.blocks.length<1\/400<c.blocks.length\/4096<c.regs.length then 9 else if c.ps<0\/(c.regs.length:Int)<c.ps then 11
 else if c.ty<0\/2<c.ty\/(c.regs.any fun n=>!F0 n)=true then 6 else G0 (c.blocks.map (Oe m c))
theorem HG(hT:T 32=some C5)(h:k<b.code.length)(hs:b.sok)(hp:H9 m c b.code[k]=0):
 evP ⟨env,T,A1⟩ (.code Fr [(1,.ptr 0 0 0),(5,.ptr 1 0 0),(56,fslN (c.blocks.map Blk.F)),(57,.int .i64 (c.blocks.length:Int)),(58,.int .i64 (i:Int)),(63,fslN (b.code.map Ins.F)),(64,.int .i64 (b.code.length:Int)),(65,.int .i64 (k:Int))] ⟨[.row 1 [chkF m c] 7,.row 1 [b.F] 5],0,[]⟩)=some (.ok .normal [(1,.ptr 0 0 0),(5,.ptr 1 0 0),(56,fslN (c.blocks.map Blk.F)),(57,.int .i64 (c.blocks.length:Int)),(58,.int .i64 (i:Int)),(63,fslN (b.code.map Ins.F)),(64,.int .i64 (b.code.length:Int)),(65,.int .i64 ((k+1:Nat):Int))] ⟨[.row 1 [chkF m c] 7,.row 1 [b.F] 5],0,[]⟩):=by
 unfold Fr;have hlt:decide ((k:Int)<(b.code.length:Int))=true:=by simp[h]
 have hw:=B2 (i:=k) (by have:=hs.1.2;simp only[bigN]at this;omega);have t:=fun K=>y9 (K:=K) (m:=m) (c:=c) (x:=b.code[k]) hT (hs.2 _ (zqc h))
 rw[hp]at t;have hi:=A6 (F:=Ins.F) h;simp only[Ins.F,chkF,Blk.F]at t hi|-;simp -implicitDefEqProofs only[hlt,hi,hw,t,XP,seval]
theorem HH(hT:T 32=some C5)(h:k<b.code.length)(hs:b.sok)(hp:¬H9 m c b.code[k]=0):
 evP ⟨env,T,A1⟩ (.code Fr [(1,.ptr 0 0 0),(5,.ptr 1 0 0),(56,fslN (c.blocks.map Blk.F)),(57,.int .i64 (c.blocks.length:Int)),(58,.int .i64 (i:Int)),(63,fslN (b.code.map Ins.F)),(64,.int .i64 (b.code.length:Int)),(65,.int .i64 (k:Int))] ⟨[.row 1 [chkF m c] 7,.row 1 [b.F] 5],0,[]⟩)=some (.ok .ret [(2,.int .i64 (H9 m c b.code[k]))] ⟨[],0,[]⟩):=by
 unfold Fr;have hlt:decide ((k:Int)<(b.code.length:Int))=true:=by simp[h]
 have t:=fun K=>y9 (K:=K) (m:=m) (c:=c) (x:=b.code[k]) hT (hs.2 _ (zqc h))
 have hi:=A6 (F:=Ins.F) h;simp only[Ins.F,chkF,Blk.F]at t hi|-;simp -implicitDefEqProofs only[hlt,hi,t,hp,XP,seval]
theorem HI:∃fr',evP ⟨env,T,A1⟩ (.code Fr [(1,.ptr 0 0 0),(5,.ptr 1 0 0),(56,fslN (c.blocks.map Blk.F)),(57,.int .i64 (c.blocks.length:Int)),(58,.int .i64 (i:Int)),(63,fslN (b.code.map Ins.F)),(64,.int .i64 (b.code.length:Int)),(65,.int .i64 (b.code.length:Int))] ⟨[.row 1 [chkF m c] 7,.row 1 [b.F] 5],0,[]⟩)=some (.ok (.exit 3) fr' ⟨[.row 1 [chkF m c] 7,.row 1 [b.F] 5],0,[]⟩)/\(lookP fr' 1=.ptr 0 0 0/\lookP fr' 5=.ptr 1 0 0/\lookP fr' 56=fslN (c.blocks.map Blk.F)/\lookP fr' 57=.int .i64 (c.blocks.length:Int)/\lookP fr' 58=.int .i64 (i:Int)):=by
 unfold Fr;have hlt:decide ((b.code.length:Int)<(b.code.length:Int))=false:=by simp
 simp -implicitDefEqProofs only[hlt,XP,seval];exact⟨_,rfl,rfl,rfl,rfl,rfl,rfl⟩
theorem cdi_l(hT:T 32=some C5)(hs:b.sok):
 (G0 (b.code.map (H9 m c))=0/\∃fr',evP ⟨env,T,A1⟩ (.code (.loop Fr) [(1,.ptr 0 0 0),(5,.ptr 1 0 0),(56,fslN (c.blocks.map Blk.F)),(57,.int .i64 (c.blocks.length:Int)),(58,.int .i64 (i:Int)),(63,fslN (b.code.map Ins.F)),(64,.int .i64 (b.code.length:Int)),(65,.int .i64 0)] ⟨[.row 1 [chkF m c] 7,.row 1 [b.F] 5],0,[]⟩)=some (.ok (.exit 3) fr' ⟨[.row 1 [chkF m c] 7,.row 1 [b.F] 5],0,[]⟩)/\(lookP fr' 1=.ptr 0 0 0/\lookP fr' 5=.ptr 1 0 0/\lookP fr' 56=fslN (c.blocks.map Blk.F)/\lookP fr' 57=.int .i64 (c.blocks.length:Int)/\lookP fr' 58=.int .i64 (i:Int)))\/
 (¬G0 (b.code.map (H9 m c))=0/\evP ⟨env,T,A1⟩ (.code (.loop Fr) [(1,.ptr 0 0 0),(5,.ptr 1 0 0),(56,fslN (c.blocks.map Blk.F)),(57,.int .i64 (c.blocks.length:Int)),(58,.int .i64 (i:Int)),(63,fslN (b.code.map Ins.F)),(64,.int .i64 (b.code.length:Int)),(65,.int .i64 0)] ⟨[.row 1 [chkF m c] 7,.row 1 [b.F] 5],0,[]⟩)=some (.ok .ret [(2,.int .i64 (G0 (b.code.map (H9 m c))))] ⟨[],0,[]⟩)):=by
 rcases err_loop (P:=⟨env,T,A1⟩) (c:=Fr) (f:=H9 m c) (l:=b.code) (S:=fun k=>[(1,.ptr 0 0 0),(5,.ptr 1 0 0),(56,fslN (c.blocks.map Blk.F)),(57,.int .i64 (c.blocks.length:Int)),(58,.int .i64 (i:Int)),(63,fslN (b.code.map Ins.F)),(64,.int .i64 (b.code.length:Int)),(65,.int .i64 (k:Int))]) (K:=⟨[.row 1 [chkF m c] 7,.row 1 [b.F] 5],0,[]⟩) (Q:=fun fr'=>lookP fr' 1=.ptr 0 0 0/\lookP fr' 5=.ptr 1 0 0/\lookP fr' 56=fslN (c.blocks.map Blk.F)/\lookP fr' 57=.int .i64 (c.blocks.length:Int)/\lookP fr' 58=.int .i64 (i:Int)) (R:=fun e fr' K'=>fr'=[(2,.int .i64 e)]/\K'=⟨[],0,[]⟩)
  (fun k h hp=>HG hT h hs hp) (fun k h hp=>⟨_,_,HH hT h hs hp,rfl,rfl⟩) HI with h|⟨h,fr',K',q,rfl,rfl⟩
 . exact .inl h
 . exact .inr ⟨h,q⟩
theorem HJ(hT:T 32=some C5)(hE:T 33=some I0)(h:i<c.blocks.length)(hs:c.sok)(hp:Oe m c c.blocks[i]=0):
 evP ⟨env,T,A1⟩ (.code Dj [(1,.ptr 0 0 0),(56,fslN (c.blocks.map Blk.F)),(57,.int .i64 (c.blocks.length:Int)),(58,.int .i64 (i:Int))] ⟨[.row 1 [chkF m c] 7],0,[]⟩)=some (.ok .normal [(1,.ptr 0 0 0),(56,fslN (c.blocks.map Blk.F)),(57,.int .i64 (c.blocks.length:Int)),(58,.int .i64 ((i+1:Nat):Int))] ⟨[.row 1 [chkF m c] 7],0,[]⟩):=by
 have hb:=hs.2 _ (zqc h);have hlt:decide ((i:Int)<(c.blocks.length:Int))=true:=by simp[h]
 have hw:=B2 (i:=i) (by have:=hs.1.2.2;simp only[bigN]at this;omega);have hi:=A6 (F:=Blk.F) h;have t:=fun K=>Cd (K:=K) (m:=m) (c:=c) (e:=c.blocks[i].e) hE
 unfold Oe at hp;rcases cdi_l (m:=m) (c:=c) (i:=i) hT hb with⟨q,fr',h1,h2,h3,h4,h5,h6⟩|⟨q,h1⟩
 . rw[if_pos q]at hp
   rw[hp]at t;unfold Dj;simp only[chkF,Blk.F,Endd.F]at h1 hi t|-;simp -implicitDefEqProofs only[hlt,hi,hw,h1,h2,h3,h4,h5,h6,t,zqa,XP,seval]
 . rw[if_neg q]at hp;exact absurd hp q
theorem HK(hT:T 32=some C5)(hE:T 33=some I0)(h:i<c.blocks.length)(hs:c.sok)(hp:¬Oe m c c.blocks[i]=0):
 evP ⟨env,T,A1⟩ (.code Dj [(1,.ptr 0 0 0),(56,fslN (c.blocks.map Blk.F)),(57,.int .i64 (c.blocks.length:Int)),(58,.int .i64 (i:Int))] ⟨[.row 1 [chkF m c] 7],0,[]⟩)=some (.ok .ret [(2,.int .i64 (Oe m c c.blocks[i]))] ⟨[],0,[]⟩):=by
 have hb:=hs.2 _ (zqc h);have hlt:decide ((i:Int)<(c.blocks.length:Int))=true:=by simp[h]
 have hi:=A6 (F:=Blk.F) h;have t:=fun K=>Cd (K:=K) (m:=m) (c:=c) (e:=c.blocks[i].e) hE
 unfold Oe at hp|-;rcases cdi_l (m:=m) (c:=c) (i:=i) hT hb with⟨q,fr',h1,h2,h3,h4,h5,h6⟩|⟨q,h1⟩
 . rw[if_pos q]at hp|-
   unfold Dj;simp only[chkF,Blk.F,Endd.F]at h1 hi t|-;simp -implicitDefEqProofs only[hlt,hi,h1,h2,h3,h4,h5,h6,t,hp,zqa,XP,seval]
 . rw[if_neg q]
   unfold Dj;simp only[chkF,Blk.F]at h1 hi|-;simp -implicitDefEqProofs only[hlt,hi,h1,zqa,XP,seval]
theorem HL:∃fr',evP ⟨env,T,A1⟩ (.code Dj [(1,.ptr 0 0 0),(56,fslN (c.blocks.map Blk.F)),(57,.int .i64 (c.blocks.length:Int)),(58,.int .i64 (c.blocks.length:Int))] ⟨[.row 1 [chkF m c] 7],0,[]⟩)=some (.ok (.exit 1) fr' ⟨[.row 1 [chkF m c] 7],0,[]⟩)/\True:=by
 unfold Dj;have hlt:decide ((c.blocks.length:Int)<(c.blocks.length:Int))=false:=by simp
 simp -implicitDefEqProofs only[hlt,XP,seval];exact⟨_,rfl⟩
theorem Ch(hir_checker_instr:T 32=some C5)(hir_checker_end:T 33=some I0)(hir_checker_code_1:T 31=some C7)(nIdxFInts:T 42=none)(nContFInts:T 30=none){m:Modl}{c:Cod}(hk:c.sok):AM.Comes ⟨env,T,A1⟩ 19 [chkF m c] [.int .i64 (R6 m c)]:=by
 refine⟨[.int .i64 (R6 m c)],⟨[],0,[]⟩,?_,back_of rfl zqb rfl rfl rfl⟩;rw[A3 (c:=MI) (nt:=84) (rs:=[.tmp 2]) rfl (by simp)];unfold MI;unfold K0;have hl:c.regs.length<=bigN:=by have:=hk.1.1;simp only[bigN]at this|-;omega
 have tc:=fun K=>Si (l:=c.regs) hir_checker_code_1 nIdxFInts nContFInts hl K
 have lp:=err_loop (P:=⟨env,T,A1⟩) (c:=Dj) (f:=Oe m c) (l:=c.blocks) (S:=fun i=>[(1,.ptr 0 0 0),(56,fslN (c.blocks.map Blk.F)),(57,.int .i64 (c.blocks.length:Int)),(58,.int .i64 (i:Int))]) (K:=⟨[.row 1 [chkF m c] 7],0,[]⟩) (Q:=fun fr'=>True) (R:=fun e fr' K'=>fr'=[(2,.int .i64 e)]/\K'=⟨[],0,[]⟩)
  (fun k h hp=>HJ hir_checker_instr hir_checker_end h hk hp) (fun k h hp=>⟨_,_,HK hir_checker_instr hir_checker_end h hk hp,rfl,rfl⟩) HL
 unfold R6;simp only[chkF]at tc lp|-;have q400:decide ((400:Int)<(c.blocks.length:Int))=decide (400<c.blocks.length):=decide_eq_decide.2 (by omega);have q4096:decide ((4096:Int)<(c.regs.length:Int))=decide (4096<c.regs.length):=decide_eq_decide.2 (by omega);have q1':decide ((c.blocks.length:Int)<1)=decide (c.blocks.length<1):=decide_eq_decide.2 (by omega);by_cases q1:c.blocks.length<1
 . simp -implicitDefEqProofs only[eq_true q1,q1',q400,q4096,zqa,XP,seval]
 by_cases q2:400<c.blocks.length
 . simp -implicitDefEqProofs only[eq_false q1,eq_true q2,q1',q400,q4096,zqa,XP,seval]
 by_cases q3:4096<c.regs.length
 . simp -implicitDefEqProofs only[eq_false q1,eq_false q2,eq_true q3,q1',q400,q4096,zqa,XP,seval]
 by_cases q4:c.ps<0
 . simp -implicitDefEqProofs only[eq_false q1,eq_false q2,eq_false q3,eq_true q4,q1',q400,q4096,zqa,XP,seval]
 by_cases q5:(c.regs.length:Int)<c.ps
 . simp -implicitDefEqProofs only[eq_false q1,eq_false q2,eq_false q3,eq_false q4,eq_true q5,q1',q400,q4096,zqa,XP,seval]
 by_cases q6:c.ty<0
 . simp -implicitDefEqProofs only[eq_false q1,eq_false q2,eq_false q3,eq_false q4,eq_false q5,eq_true q6,q1',q400,q4096,zqa,XP,seval]
 by_cases q7:2<c.ty
 . simp -implicitDefEqProofs only[eq_false q1,eq_false q2,eq_false q3,eq_false q4,eq_false q5,eq_false q6,eq_true q7,q1',q400,q4096,zqa,XP,seval]
 cases q8:(c.regs.any fun n=>!F0 n)with
 |true=>simp -implicitDefEqProofs only[eq_false q1,eq_false q2,eq_false q3,eq_false q4,eq_false q5,eq_false q6,eq_false q7,tc,q8,q1',q400,q4096,zqa,XP,seval]
 | false =>
  rcases lp with⟨q,fr',h1,_⟩|⟨q,fr',K',h1,rfl,rfl⟩
  . have h1:evP ⟨env,T,A1⟩ (.code (.loop Dj) [(1,.ptr 0 0 0),(56,fslN (c.blocks.map Blk.F)),(57,.int .i64 (c.blocks.length:Int)),(58,.int .i64 0)] _)=_:=h1
    simp -implicitDefEqProofs only[eq_false q1,eq_false q2,eq_false q3,eq_false q4,eq_false q5,eq_false q6,eq_false q7,tc,q8,q,h1,q1',q400,q4096,zqa,XP,seval]
  . have h1:evP ⟨env,T,A1⟩ (.code (.loop Dj) [(1,.ptr 0 0 0),(56,fslN (c.blocks.map Blk.F)),(57,.int .i64 (c.blocks.length:Int)),(58,.int .i64 0)] _)=_:=h1
    simp -implicitDefEqProofs only[eq_false q1,eq_false q2,eq_false q3,eq_false q4,eq_false q5,eq_false q6,eq_false q7,tc,q8,h1,q1',q400,q4096,zqa,XP,seval]
def G7:=W3 (fun p:(Modl)×(Cod)=>[chkF p.1 p.2]) (fun p=>[.int .i64 (R6 p.1 p.2)]) (fun p=>p.2.sok)
theorem Ar(hir_checker_code:T 19=some G7){m:Modl}{c:Cod}{K:PK}(hk:c.sok):evP ⟨env,T,A1⟩ (.call 19 [chkF m c] K)=some (.val (openTs K.os.length [.int .i64 (R6 m c)]).1 ⟨K.os++(openTs K.os.length [.int .i64 (R6 m c)]).2,K.ext,K.tch⟩):=B3 hir_checker_code (by simp -implicitDefEqProofs only[VV,XP,seval]) (B5 (a:=fun p:(Modl)×(Cod)=>[chkF p.1 p.2]) (r:=fun p=>[.int .i64 (R6 p.1 p.2)]) (fun x y e=>by simp only[VJ]at e;simp only[e]) (m,c) hk) (by simp -implicitDefEqProofs only[VN,XP,seval])
theorem Ha(hir_checker_instr:T 32=some C5)(hir_checker_end:T 33=some I0)(hir_checker_code_1:T 31=some C7)(nIdxFInts:T 42=none)(nContFInts:T 30=none)(hP:PEok ⟨env,T,A1⟩):TC env 19 G7:=B8 hP fun p h=>Ch hir_checker_instr hir_checker_end hir_checker_code_1 nIdxFInts nContFInts h
end
section
variable {m:Modl}{c:Cod}{g:Glo}{i k:Nat}
def Sl(g:Glo):Int:=if F0 g.ty=true then 0 else if g.ty=3 then(if g.size<1 then 6 else 0)else 6
def z6(m:Modl):Int:=idxOf (fun c:Cod=>decide (c.name=E2)) m.fs
def Sm(m:Modl):Int:=if z6 m<0 then 12 else if(codI m.fs (z6 m)).ty=1 then(if(codI m.fs (z6 m)).ps=0 then 0 else 12)else 12
def N3(m:Modl):Int:=if G0 (m.gs.map Sl)=0 then(if G0 (m.fs.map (R6 m))=0 then Sm m else G0 (m.fs.map (R6 m)))else G0 (m.gs.map Sl)
theorem HM(hT:T 18=some N1)(h:i<m.gs.length)(hs:m.gs.length<=bigN)(hp:Sl m.gs[i]=0):
 evP ⟨env,T,A1⟩ (.code Va [(1,.ptr 0 0 0),(10,fslN (m.gs.map Glo.F)),(11,.int .i64 (m.gs.length:Int)),(12,.int .i64 (i:Int))] ⟨[.row 1 [m.F] 2],0,[]⟩)=some (.ok .normal [(1,.ptr 0 0 0),(10,fslN (m.gs.map Glo.F)),(11,.int .i64 (m.gs.length:Int)),(12,.int .i64 ((i+1:Nat):Int))] ⟨[.row 1 [m.F] 2],0,[]⟩):=by
 unfold Va;have hlt:decide ((i:Int)<(m.gs.length:Int))=true:=by simp[h]
 have hw:=B2 (i:=i) (by simp only[bigN]at hs;omega);have t:=fun K=>Gw (K:=K) (n:=m.gs[i].ty) hT
 have hi:=A6 (F:=Glo.F) h;unfold Sl at hp;simp only[Glo.F,Modl.F]at t hi|-;cases q:F0 m.gs[i].ty with
 |true=>rw[q]at t;simp -implicitDefEqProofs only[hlt,hi,hw,t,XP,seval]
 | false =>
  rw[q]at t hp;by_cases q3:m.gs[i].ty=3
  . by_cases q4:m.gs[i].size<1
    . rw[if_neg (by decide),if_pos q3,if_pos q4]at hp;cases hp
    . simp -implicitDefEqProofs only[hlt,hi,hw,t,eq_true q3,eq_false q4,XP,seval]
  . rw[if_neg (by decide),if_neg q3]at hp;cases hp
theorem HN(hT:T 18=some N1)(h:i<m.gs.length)(hp:¬Sl m.gs[i]=0):
 evP ⟨env,T,A1⟩ (.code Va [(1,.ptr 0 0 0),(10,fslN (m.gs.map Glo.F)),(11,.int .i64 (m.gs.length:Int)),(12,.int .i64 (i:Int))] ⟨[.row 1 [m.F] 2],0,[]⟩)=some (.ok .ret [(2,.int .i64 (Sl m.gs[i]))] ⟨[],0,[]⟩):=by
 unfold Va;have hlt:decide ((i:Int)<(m.gs.length:Int))=true:=by simp[h]
 have t:=fun K=>Gw (K:=K) (n:=m.gs[i].ty) hT
 have hi:=A6 (F:=Glo.F) h;unfold Sl at hp|-;simp only[Glo.F,Modl.F]at t hi|-;cases q:F0 m.gs[i].ty with
 |true=>rw[q]at hp;exact absurd rfl hp
 | false =>
  rw[q]at t hp;by_cases q3:m.gs[i].ty=3
  . by_cases q4:m.gs[i].size<1
    . simp -implicitDefEqProofs only[hlt,hi,t,eq_true q3,eq_true q4,XP,seval]
    . rw[if_neg (by decide),if_pos q3,if_neg q4]at hp;exact absurd rfl hp
  . simp -implicitDefEqProofs only[hlt,hi,t,eq_false q3,XP,seval]
theorem HO:∃fr',evP ⟨env,T,A1⟩ (.code Va [(1,.ptr 0 0 0),(10,fslN (m.gs.map Glo.F)),(11,.int .i64 (m.gs.length:Int)),(12,.int .i64 (m.gs.length:Int))] ⟨[.row 1 [m.F] 2],0,[]⟩)=some (.ok (.exit 0) fr' ⟨[.row 1 [m.F] 2],0,[]⟩)/\lookP fr' 1=.ptr 0 0 0:=by
 unfold Va;have hlt:decide ((m.gs.length:Int)<(m.gs.length:Int))=false:=by simp
 simp -implicitDefEqProofs only[hlt,XP,seval];exact⟨_,rfl,rfl⟩
theorem HP(hT:T 19=some G7)(h:i<m.fs.length)(hs:m.ok)(hp:R6 m m.fs[i]=0):
 evP ⟨env,T,A1⟩ (.code Vb [(1,.ptr 0 0 0),(32,fslN (m.fs.map Cod.F)),(33,.int .i64 (m.fs.length:Int)),(34,.int .i64 (i:Int))] ⟨[.row 1 [m.F] 2],0,[]⟩)=some (.ok .normal [(1,.ptr 0 0 0),(32,fslN (m.fs.map Cod.F)),(33,.int .i64 (m.fs.length:Int)),(34,.int .i64 ((i+1:Nat):Int))] ⟨[.row 1 [m.F] 2],0,[]⟩):=by
 unfold Vb;have hlt:decide ((i:Int)<(m.fs.length:Int))=true:=by simp[h]
 have hw:=B2 (i:=i) (by have:=hs.2.1;simp only[bigN]at this;omega);have t:=fun K=>Ar (K:=K) (m:=m) (c:=m.fs[i]) hT (hs.1 _ (zqc h))
 rw[hp]at t;have hi:=A6 (F:=Cod.F) h;simp only[Cod.F,Modl.F,chkF]at t hi|-;simp -implicitDefEqProofs only[hlt,hi,hw,t,XP,seval]
theorem HQ(hT:T 19=some G7)(h:i<m.fs.length)(hs:m.ok)(hp:¬R6 m m.fs[i]=0):
 evP ⟨env,T,A1⟩ (.code Vb [(1,.ptr 0 0 0),(32,fslN (m.fs.map Cod.F)),(33,.int .i64 (m.fs.length:Int)),(34,.int .i64 (i:Int))] ⟨[.row 1 [m.F] 2],0,[]⟩)=some (.ok .ret [(2,.int .i64 (R6 m m.fs[i]))] ⟨[],0,[]⟩):=by
 unfold Vb;have hlt:decide ((i:Int)<(m.fs.length:Int))=true:=by simp[h]
 have t:=fun K=>Ar (K:=K) (m:=m) (c:=m.fs[i]) hT (hs.1 _ (zqc h))
 have hi:=A6 (F:=Cod.F) h;simp only[Cod.F,Modl.F,chkF]at t hi|-;simp -implicitDefEqProofs only[hlt,hi,t,hp,XP,seval]
theorem HR:∃fr',evP ⟨env,T,A1⟩ (.code Vb [(1,.ptr 0 0 0),(32,fslN (m.fs.map Cod.F)),(33,.int .i64 (m.fs.length:Int)),(34,.int .i64 (m.fs.length:Int))] ⟨[.row 1 [m.F] 2],0,[]⟩)=some (.ok (.exit 2) fr' ⟨[.row 1 [m.F] 2],0,[]⟩)/\lookP fr' 1=.ptr 0 0 0:=by
 unfold Vb;have hlt:decide ((m.fs.length:Int)<(m.fs.length:Int))=false:=by simp
 simp -implicitDefEqProofs only[hlt,XP,seval];exact⟨_,rfl,rfl⟩
theorem sK{X:Type}{p:X->Bool}{l:List X}(h:¬idxOf p l<0):∃k:Nat,idxOf p l=k/\∃hk:k<l.length,p l[k]=true:=by
 unfold idxOf at h|-;cases q:l.findIdx? p with
 |none=>rw[q]at h;exact absurd (by decide) h
 | some i =>
  rw[zql]at q;exact⟨i,rfl,q.1,q.2.1⟩
theorem Sn(hir_number:T 18=some N1)(hir_checker_code:T 19=some G7)(hir_mainOf:T 20=some L3){m:Modl}(hk:m.ok):AM.Comes ⟨env,T,A1⟩ 8 [m.F] [.int .i64 (N3 m)]:=by
 refine⟨[.int .i64 (N3 m)],⟨[],0,[]⟩,?_,back_of rfl zqb rfl rfl rfl⟩;rw[A3 (c:=p8) (nt:=68) (rs:=[.tmp 2]) rfl (by simp)];unfold p8;unfold K0;have hgl:m.gs.length<=bigN:=by have:=hk.2.2;simp only[bigN]at this|-;omega
 have hfl:m.fs.length<=bigN:=by have:=hk.2.1;simp only[bigN]at this|-;omega
 have tm:=fun K=>Gx (K:=K) (m:=m) hir_mainOf hfl
 have tm:∀K:PK,evP ⟨env,T,A1⟩ (.call 20 [m.F] K)=some (.val (openTs K.os.length [.int .i64 (z6 m)]).1 ⟨K.os++(openTs K.os.length [.int .i64 (z6 m)]).2,K.ext,K.tch⟩):=tm;have l1:=err_loop (P:=⟨env,T,A1⟩) (c:=Va) (f:=Sl) (l:=m.gs) (S:=fun i=>[(1,.ptr 0 0 0),(10,fslN (m.gs.map Glo.F)),(11,.int .i64 (m.gs.length:Int)),(12,.int .i64 (i:Int))]) (K:=⟨[.row 1 [m.F] 2],0,[]⟩) (Q:=fun fr'=>lookP fr' 1=.ptr 0 0 0) (R:=fun e fr' K'=>fr'=[(2,.int .i64 e)]/\K'=⟨[],0,[]⟩)
  (fun k h hp=>HM hir_number h hgl hp) (fun k h hp=>⟨_,_,HN hir_number h hp,rfl,rfl⟩) HO
 have l2:=err_loop (P:=⟨env,T,A1⟩) (c:=Vb) (f:=R6 m) (l:=m.fs) (S:=fun i=>[(1,.ptr 0 0 0),(32,fslN (m.fs.map Cod.F)),(33,.int .i64 (m.fs.length:Int)),(34,.int .i64 (i:Int))]) (K:=⟨[.row 1 [m.F] 2],0,[]⟩) (Q:=fun fr'=>lookP fr' 1=.ptr 0 0 0) (R:=fun e fr' K'=>fr'=[(2,.int .i64 e)]/\K'=⟨[],0,[]⟩)
  (fun k h hp=>HP hir_checker_code h hk hp) (fun k h hp=>⟨_,_,HQ hir_checker_code h hk hp,rfl,rfl⟩) HR
 unfold N3;simp only[Modl.F]at tm l1 l2|-;rcases l1 with⟨q,fr',h1,h2⟩|⟨q,fr',K',h1,rfl,rfl⟩
 . have h1:evP ⟨env,T,A1⟩ (.code (.loop Va) [(1,.ptr 0 0 0),(10,fslN (m.gs.map Glo.F)),(11,.int .i64 (m.gs.length:Int)),(12,.int .i64 0)] _)=_:=h1
   rw[if_pos q];rcases l2 with⟨q2,fr2,h3,h4⟩|⟨q2,fr2,K2,h3,rfl,rfl⟩
   . have h3:evP ⟨env,T,A1⟩ (.code (.loop Vb) [(1,.ptr 0 0 0),(32,fslN (m.fs.map Cod.F)),(33,.int .i64 (m.fs.length:Int)),(34,.int .i64 0)] _)=_:=h3
     rw[if_pos q2];unfold Sm;by_cases hm:z6 m<0
     . simp -implicitDefEqProofs only[h1,h2,h3,h4,tm,eq_true hm,zqa,XP,seval]
     . obtain ⟨k,hk1,hk2,_⟩:=sK hm
       have hi:=Ji hk2;have hk1:z6 m=k:=hk1;have hix:Hs o7 (fslN (m.fs.map Cod.F)) (.int .i64 (z6 m))=some (.fptr (codI m.fs (z6 m)).F 0):=by
        rw[hk1];exact ix_fslN hi rfl
       simp only[Cod.F]at hix;by_cases h5:(codI m.fs (z6 m)).ty=1
       . by_cases h6:(codI m.fs (z6 m)).ps=0
         . simp -implicitDefEqProofs only[h1,h2,h3,h4,tm,hm,hix,eq_true h5,eq_true h6,zqa,XP,seval]
         . simp -implicitDefEqProofs only[h1,h2,h3,h4,tm,hm,hix,eq_true h5,h6,zqa,XP,seval]
       . simp -implicitDefEqProofs only[h1,h2,h3,h4,tm,hm,hix,h5,zqa,XP,seval]
   . have h3:evP ⟨env,T,A1⟩ (.code (.loop Vb) [(1,.ptr 0 0 0),(32,fslN (m.fs.map Cod.F)),(33,.int .i64 (m.fs.length:Int)),(34,.int .i64 0)] _)=_:=h3
     rw[if_neg q2];simp -implicitDefEqProofs only[h1,h2,h3,zqa,XP,seval]
 . have h1:evP ⟨env,T,A1⟩ (.code (.loop Va) [(1,.ptr 0 0 0),(10,fslN (m.gs.map Glo.F)),(11,.int .i64 (m.gs.length:Int)),(12,.int .i64 0)] _)=_:=h1
   rw[if_neg q];simp -implicitDefEqProofs only[h1,zqa,XP,seval]
def O1:=W3 (fun p:(Modl)=>[p.F]) (fun p=>[.int .i64 (N3 p)]) (fun p=>p.ok)
theorem oF(hir_Check:T 8=some O1){m:Modl}{K:PK}(hk:m.ok):evP ⟨env,T,A1⟩ (.call 8 [m.F] K)=some (.val (openTs K.os.length [.int .i64 (N3 m)]).1 ⟨K.os++(openTs K.os.length [.int .i64 (N3 m)]).2,K.ext,K.tch⟩):=B3 hir_Check (by simp -implicitDefEqProofs only[VV,XP,seval]) (B5 (a:=fun p:(Modl)=>[p.F]) (r:=fun p=>[.int .i64 (N3 p)]) (fun x y e=>by simp only[VJ]at e;simp only[e]) (m) hk) (by simp -implicitDefEqProofs only[VN,XP,seval])
theorem dY(hir_number:T 18=some N1)(hir_checker_code:T 19=some G7)(hir_mainOf:T 20=some L3)(hP:PEok ⟨env,T,A1⟩):TC env 8 O1:=B8 hP fun p h=>Sn hir_number hir_checker_code hir_mainOf h
end
def So{A X ρ:Type}(f:A->X->A⊕ρ):A->List X->A⊕ρ
 |a,[]=>.inl a
 |a,x::l=>match f a x with | .inl a=>So f a l | .inr r=>.inr r
theorem iR{P:PE}{c:PC}{A X ρ:Type}{f:A->X->A⊕ρ}{l:List X}{S:Nat->A->PF}{K:A->PK}{x:Nat}{Q:A->PF->Prop}{R:ρ->PF->PK->Prop}
 (h1:∀i a a' (h:i<l.length),f a l[i]=.inl a'->evP P (.code c (S i a) (K a))=some (.ok .normal (S (i+1) a') (K a')))
 (h2:∀i a r (h:i<l.length),f a l[i]=.inr r->∃fr' K',evP P (.code c (S i a) (K a))=some (.ok .ret fr' K')/\R r fr' K')
 (hx:∀a,∃fr',evP P (.code c (S l.length a) (K a))=some (.ok (.exit x) fr' (K a))/\Q a fr')(a:A):
 (∃a',So f a l=.inl a'/\∃fr',evP P (.code (.loop c) (S 0 a) (K a))=some (.ok (.exit x) fr' (K a'))/\Q a' fr')\/(∃r,So f a l=.inr r/\∃fr' K',evP P (.code (.loop c) (S 0 a) (K a))=some (.ok .ret fr' K')/\R r fr' K'):=by
 have key:∀(n i:Nat)(a:A),l.length=i+n->(∃a',So f a (l.drop i)=.inl a'/\∃fr',evP P (.code (.loop c) (S i a) (K a))=some (.ok (.exit x) fr' (K a'))/\Q a' fr')\/(∃r,So f a (l.drop i)=.inr r/\∃fr' K',evP P (.code (.loop c) (S i a) (K a))=some (.ok .ret fr' K')/\R r fr' K'):=fun n=>by
  induction n with
  | zero =>
   intro i a e;obtain rfl:i=l.length:=by omega
   obtain⟨fr',h,q⟩:=hx a;exact .inl ⟨a,by rw[zqh];rfl,fr',C6 h,q⟩
  | succ n ih =>
   intro i a e;have hl:i<l.length:=by omega
   rw[zqi hl];unfold So;cases hq:f a l[i]with
   |inl a'=>rw[loop_more (h1 i a a' hl hq)];exact ih (i+1) a' (by omega)
   | inr r =>
    obtain⟨fr',K',q1,q2⟩:=h2 i a r hl hq;exact .inr ⟨r,rfl,fr',K',u7 q1,q2⟩
 exact key l.length 0 a (by omega)
theorem Ep{P:PE}{c:PC}{A X:Type}{f:A->X->A}{l:List X}{S:Nat->A->PF}{K:A->PK}{x:Nat}{Q:A->PF->Prop}
 (h1:∀i a (h:i<l.length),evP P (.code c (S i a) (K a))=some (.ok .normal (S (i+1) (f a l[i])) (K (f a l[i]))))
 (hx:∀a,∃fr',evP P (.code c (S l.length a) (K a))=some (.ok (.exit x) fr' (K a))/\Q a fr')(a:A):
 ∃fr',evP P (.code (.loop c) (S 0 a) (K a))=some (.ok (.exit x) fr' (K (l.foldl f a)))/\Q (l.foldl f a) fr':=by
 have key:∀(n i:Nat)(a:A),l.length=i+n->∃fr',evP P (.code (.loop c) (S i a) (K a))=some (.ok (.exit x) fr' (K ((l.drop i).foldl f a)))/\Q ((l.drop i).foldl f a) fr':=fun n=>by
  induction n with
  | zero =>
   intro i a e;obtain rfl:i=l.length:=by omega
   obtain⟨fr',h,q⟩:=hx a;exact⟨fr',by rw[zqh];exact C6 h,by rw[zqh];exact q⟩
  | succ n ih =>
   intro i a e;have hl:i<l.length:=by omega
   rw[zqi hl,List.foldl_cons,loop_more (h1 i a hl)];exact ih (i+1) _ (by omega)
 exact key l.length 0 a (by omega)
section
variable {m:Modl}{c:Cod}{i j k:Nat}{n:Int}
def S2(a:Int)(n:Nat):Int:=IntKind.i64.wrap (a+(n:Int))
def HS(a:Int)(b:Blk):Int:=b.code.foldl (fun a x=>S2 a x.args.length) (S2 a b.code.length)
def EW(a:Int)(c:Cod):Int:=c.blocks.foldl HS (S2 (S2 a c.regs.length) c.blocks.length)
def NY(a:Int)(c:Cod):Int⊕Unit:=if 3000<EW a c then .inr ()else .inl (EW a c)
def j5(m:Modl):Bool:=if 20<m.gs.length then true else if 12<m.fs.length then true else if(m.gs.all fun g=>!decide (1024<g.size))=true then(So NY 0 m.fs).isRight else true
def HU(a:Int)(c:Cod):Int:=c.blocks.foldl (fun a b=>S2 a b.code.length) (S2 (S2 a c.regs.length) c.blocks.length)
def Z8(m:Modl):Bool:=if 1000<m.fs.foldl HU 0 then true else if 12<m.fs.length then true else if j5 m=true then true else !decide (N3 m=0)
theorem HV(h:i<m.gs.length)(hs:m.gs.length<=bigN)(hp:(!decide (1024<m.gs[i].size))=true):evP ⟨env,T,A1⟩ (.code Fq [(1,.ptr 0 0 0),(3,.int .i64 n),(4,.int .i64 (i:Int))] ⟨[.row 1 [m.F] 2],0,[]⟩)=some (.ok .normal [(1,.ptr 0 0 0),(3,.int .i64 n),(4,.int .i64 ((i+1:Nat):Int))] ⟨[.row 1 [m.F] 2],0,[]⟩):=by
 unfold Fq;have hlt:decide ((i:Int)<(m.gs.length:Int))=true:=by simp[h]
 have hw:=B2 (i:=i) (by simp only[bigN]at hs;omega);have hi:=A6 (F:=Glo.F) h;have hp:decide (1024<m.gs[i].size)=false:=by simpa using hp
 simp only[Glo.F,Modl.F]at hi|-;simp -implicitDefEqProofs only[hlt,hi,hw,hp,zqa,XP,seval]
theorem HW(h:i<m.gs.length)(hp:(!decide (1024<m.gs[i].size))=false):evP ⟨env,T,A1⟩ (.code Fq [(1,.ptr 0 0 0),(3,.int .i64 n),(4,.int .i64 (i:Int))] ⟨[.row 1 [m.F] 2],0,[]⟩)=some (.ok .ret [(2,.bool true)] ⟨[],0,[]⟩):=by
 unfold Fq;have hlt:decide ((i:Int)<(m.gs.length:Int))=true:=by simp[h]
 have hi:=A6 (F:=Glo.F) h;have hp:decide (1024<m.gs[i].size)=true:=by simpa using hp
 simp only[Glo.F,Modl.F]at hi|-;simp -implicitDefEqProofs only[hlt,hi,hp,zqa,XP,seval]
theorem HX:∃fr',evP ⟨env,T,A1⟩ (.code Fq [(1,.ptr 0 0 0),(3,.int .i64 n),(4,.int .i64 (m.gs.length:Int))] ⟨[.row 1 [m.F] 2],0,[]⟩)=some (.ok (.exit 0) fr' ⟨[.row 1 [m.F] 2],0,[]⟩)/\(lookP fr' 1=.ptr 0 0 0/\lookP fr' 3=.int .i64 n):=by
 unfold Fq;have hlt:decide ((m.gs.length:Int)<(m.gs.length:Int))=false:=by simp
 simp only[Modl.F];simp -implicitDefEqProofs only[hlt,zqa,XP,seval];exact⟨_,rfl,rfl,rfl⟩
theorem HY(hj:j<c.blocks.length)(hk:k<c.blocks[j].code.length)(hs:c.ok):evP ⟨env,T,A1⟩ (.code Rg [(1,.ptr 0 0 0),(3,.int .i64 n),(5,.int .i64 (i:Int)),(6,.ptr 1 0 0),(7,.int .i64 (j:Int)),(8,.int .i64 (k:Int))] ⟨[.row 1 [m.F] 2,.row 1 [c.F] 5],0,[]⟩)=some (.ok .normal [(1,.ptr 0 0 0),(3,.int .i64 (S2 n c.blocks[j].code[k].args.length)),(5,.int .i64 (i:Int)),(6,.ptr 1 0 0),(7,.int .i64 (j:Int)),(8,.int .i64 ((k+1:Nat):Int))] ⟨[.row 1 [m.F] 2,.row 1 [c.F] 5],0,[]⟩):=by
 unfold Rg S2;have hb:=hs.2.1 _ (zqc hj);have hlt:decide ((k:Int)<(c.blocks[j].code.length:Int))=true:=by simp[hk]
 have hw:=B2 (i:=k) (by have:=hb.2;simp only[bigN]at this;omega);have hi:=A6 (F:=Blk.F) hj;have hi2:=A6 (F:=Ins.F) hk;simp only[Blk.F,Ins.F,Modl.F,Cod.F]at hi hi2|-;simp -implicitDefEqProofs only[hlt,hi,hi2,hw,zqa,XP,seval]
theorem HZ(hj:j<c.blocks.length):∃fr',evP ⟨env,T,A1⟩ (.code Rg [(1,.ptr 0 0 0),(3,.int .i64 n),(5,.int .i64 (i:Int)),(6,.ptr 1 0 0),(7,.int .i64 (j:Int)),(8,.int .i64 (c.blocks[j].code.length:Int))] ⟨[.row 1 [m.F] 2,.row 1 [c.F] 5],0,[]⟩)=some (.ok (.exit 6) fr' ⟨[.row 1 [m.F] 2,.row 1 [c.F] 5],0,[]⟩)/\(lookP fr' 1=.ptr 0 0 0/\lookP fr' 3=.int .i64 n/\lookP fr' 5=.int .i64 (i:Int)/\lookP fr' 6=.ptr 1 0 0/\lookP fr' 7=.int .i64 (j:Int)):=by
 unfold Rg;have hlt:decide ((c.blocks[j].code.length:Int)<(c.blocks[j].code.length:Int))=false:=by simp
 have hi:=A6 (F:=Blk.F) hj;simp only[Blk.F,Modl.F,Cod.F]at hi|-;simp -implicitDefEqProofs only[hlt,hi,zqa,XP,seval];exact⟨_,rfl,rfl,rfl,rfl,rfl,rfl⟩
theorem IA(hj:j<c.blocks.length)(hs:c.ok):evP ⟨env,T,A1⟩ (.code Rh [(1,.ptr 0 0 0),(3,.int .i64 n),(5,.int .i64 (i:Int)),(6,.ptr 1 0 0),(7,.int .i64 (j:Int))] ⟨[.row 1 [m.F] 2,.row 1 [c.F] 5],0,[]⟩)=some (.ok .normal [(1,.ptr 0 0 0),(3,.int .i64 (HS n c.blocks[j])),(5,.int .i64 (i:Int)),(6,.ptr 1 0 0),(7,.int .i64 ((j+1:Nat):Int))] ⟨[.row 1 [m.F] 2,.row 1 [c.F] 5],0,[]⟩):=by
 have hlt:decide ((j:Int)<(c.blocks.length:Int))=true:=by simp[hj]
 have hw:=B2 (i:=j) (by have:=hs.2.2;simp only[bigN]at this;omega);have hi:=A6 (F:=Blk.F) hj;obtain⟨fr',h1,h2,h3,h4,h5,h6⟩:=Ep (P:=⟨env,T,A1⟩) (c:=Rg) (f:=fun a (x:Ins)=>S2 a x.args.length) (l:=c.blocks[j].code) (S:=fun k n=>[(1,.ptr 0 0 0),(3,.int .i64 n),(5,.int .i64 (i:Int)),(6,.ptr 1 0 0),(7,.int .i64 (j:Int)),(8,.int .i64 (k:Int))]) (K:=fun _=>⟨[.row 1 [m.F] 2,.row 1 [c.F] 5],0,[]⟩) (x:=6) (Q:=fun n fr'=>lookP fr' 1=.ptr 0 0 0/\lookP fr' 3=.int .i64 n/\lookP fr' 5=.int .i64 (i:Int)/\lookP fr' 6=.ptr 1 0 0/\lookP fr' 7=.int .i64 (j:Int)) (fun k a h=>HY hj h hs) (fun a=>HZ hj) (S2 n c.blocks[j].code.length);have h1:evP ⟨env,T,A1⟩ (.code (.loop Rg) [(1,.ptr 0 0 0),(3,.int .i64 (S2 n c.blocks[j].code.length)),(5,.int .i64 (i:Int)),(6,.ptr 1 0 0),(7,.int .i64 (j:Int)),(8,.int .i64 0)] ⟨[.row 1 [m.F] 2,.row 1 [c.F] 5],0,[]⟩)=_:=h1;have hn:HS n c.blocks[j]=c.blocks[j].code.foldl (fun a x=>S2 a x.args.length) (S2 n c.blocks[j].code.length):=rfl;rw[<-hn]at h3;unfold Rh;unfold S2 at h1;simp only[Blk.F,Modl.F,Cod.F]at hi h1|-;simp -implicitDefEqProofs only[hlt,hi,h1,h2,h3,h4,h5,h6,hw,zqa,XP,seval]
theorem IB:∃fr',evP ⟨env,T,A1⟩ (.code Rh [(1,.ptr 0 0 0),(3,.int .i64 n),(5,.int .i64 (i:Int)),(6,.ptr 1 0 0),(7,.int .i64 (c.blocks.length:Int))] ⟨[.row 1 [m.F] 2,.row 1 [c.F] 5],0,[]⟩)=some (.ok (.exit 4) fr' ⟨[.row 1 [m.F] 2,.row 1 [c.F] 5],0,[]⟩)/\(lookP fr' 1=.ptr 0 0 0/\lookP fr' 3=.int .i64 n/\lookP fr' 5=.int .i64 (i:Int)):=by
 unfold Rh;have hlt:decide ((c.blocks.length:Int)<(c.blocks.length:Int))=false:=by simp
 simp only[Modl.F,Cod.F];simp -implicitDefEqProofs only[hlt,zqa,XP,seval];exact⟨_,rfl,rfl,rfl,rfl⟩
theorem b6c(h:i<m.fs.length)(hs:m.ok):(3000<EW n m.fs[i]->evP ⟨env,T,A1⟩ (.code Iy [(1,.ptr 0 0 0),(3,.int .i64 n),(5,.int .i64 (i:Int))] ⟨[.row 1 [m.F] 2],0,[]⟩)=some (.ok .ret [(2,.bool true)] ⟨[],0,[]⟩))/\(¬3000<EW n m.fs[i]->evP ⟨env,T,A1⟩ (.code Iy [(1,.ptr 0 0 0),(3,.int .i64 n),(5,.int .i64 (i:Int))] ⟨[.row 1 [m.F] 2],0,[]⟩)=some (.ok .normal [(1,.ptr 0 0 0),(3,.int .i64 (EW n m.fs[i])),(5,.int .i64 ((i+1:Nat):Int))] ⟨[.row 1 [m.F] 2],0,[]⟩)):=by
 have hc:=(hs.1 _ (zqc h)).1;have hlt:decide ((i:Int)<(m.fs.length:Int))=true:=by simp[h]
 have hw:=B2 (i:=i) (by have:=hs.2.1;simp only[bigN]at this;omega);have hi:=A6 (F:=Cod.F) h;generalize m.fs[i]=c at hc hi;obtain⟨fr',h1,h2,h3,h4⟩:=Ep (P:=⟨env,T,A1⟩) (c:=Rh) (f:=HS) (l:=c.blocks) (S:=fun j n=>[(1,.ptr 0 0 0),(3,.int .i64 n),(5,.int .i64 (i:Int)),(6,.ptr 1 0 0),(7,.int .i64 (j:Int))]) (K:=fun _=>⟨[.row 1 [m.F] 2,.row 1 [c.F] 5],0,[]⟩) (x:=4) (Q:=fun n fr'=>lookP fr' 1=.ptr 0 0 0/\lookP fr' 3=.int .i64 n/\lookP fr' 5=.int .i64 (i:Int)) (fun k a h=>IA h hc) (fun a=>IB) (S2 (S2 n c.regs.length) c.blocks.length);have h1:evP ⟨env,T,A1⟩ (.code (.loop Rh) [(1,.ptr 0 0 0),(3,.int .i64 (S2 (S2 n c.regs.length) c.blocks.length)),(5,.int .i64 (i:Int)),(6,.ptr 1 0 0),(7,.int .i64 0)] ⟨[.row 1 [m.F] 2,.row 1 [c.F] 5],0,[]⟩)=_:=h1;have hn:EW n c=c.blocks.foldl HS (S2 (S2 n c.regs.length) c.blocks.length):=rfl;rw[<-hn]at h3;unfold Iy;unfold S2 at h1;simp only[Modl.F,Cod.F]at hi h1|-
 constructor
 . intro hq
   simp -implicitDefEqProofs only[hlt,hi,h1,h2,h3,h4,eq_true hq,zqa,XP,seval]
 . intro hq
   simp -implicitDefEqProofs only[hlt,hi,h1,h2,h3,h4,hw,hq,zqa,XP,seval]
theorem ID:∃fr',evP ⟨env,T,A1⟩ (.code Iy [(1,.ptr 0 0 0),(3,.int .i64 n),(5,.int .i64 (m.fs.length:Int))] ⟨[.row 1 [m.F] 2],0,[]⟩)=some (.ok (.exit 2) fr' ⟨[.row 1 [m.F] 2],0,[]⟩)/\True:=by
 unfold Iy;have hlt:decide ((m.fs.length:Int)<(m.fs.length:Int))=false:=by simp
 simp only[Modl.F];simp -implicitDefEqProofs only[hlt,zqa,XP,seval];exact⟨_,rfl⟩
theorem Of  {m:Modl} (hk:m.ok):AM.Comes ⟨env,T,A1⟩ 12 [m.F] [.bool (j5 m)]:=by
 refine⟨[.bool (j5 m)],⟨[],0,[]⟩,?_,back_of rfl zqb rfl rfl rfl⟩;rw[A3 (c:=MC) (nt:=96) (rs:=[.tmp 2]) rfl (by simp)];unfold MC;unfold K0;have hgl:m.gs.length<=bigN:=by have:=hk.2.2;simp only[bigN]at this|-;omega
 have l1:=Sj (P:=⟨env,T,A1⟩) (c:=Fq) (p:=fun g:Glo=>!decide (1024<g.size)) (l:=m.gs) (S:=fun i=>[(1,.ptr 0 0 0),(3,.int .i64 0),(4,.int .i64 (i:Int))]) (K:=⟨[.row 1 [m.F] 2],0,[]⟩) (x:=0) (Q:=fun fr'=>lookP fr' 1=.ptr 0 0 0/\lookP fr' 3=.int .i64 0) (R:=fun fr' K'=>fr'=[(2,.bool true)]/\K'=⟨[],0,[]⟩)
  (fun i h hp=>HV h hgl hp) (fun i h hp=>⟨_,_,HW h hp,rfl,rfl⟩) HX
 have l2:=iR (P:=⟨env,T,A1⟩) (c:=Iy) (f:=NY) (l:=m.fs) (S:=fun i n=>[(1,.ptr 0 0 0),(3,.int .i64 n),(5,.int .i64 (i:Int))]) (K:=fun _=>⟨[.row 1 [m.F] 2],0,[]⟩) (x:=2) (Q:=fun n fr'=>True) (R:=fun r fr' K'=>fr'=[(2,.bool true)]/\K'=⟨[],0,[]⟩)
  (fun i a a' h hp=>by
    unfold NY at hp;split at hp
    . cases hp
    . rename_i hq
      cases hp;exact(b6c h hk).2 hq) (fun i a r h hp=>by
    unfold NY at hp;split at hp
    . rename_i hq
      exact⟨_,_,(b6c h hk).1 hq,rfl,rfl⟩
    . cases hp) (fun a=>ID) 0
 have q20:decide ((20:Int)<(m.gs.length:Int))=decide (20<m.gs.length):=decide_eq_decide.2 (by omega);have q12:decide ((12:Int)<(m.fs.length:Int))=decide (12<m.fs.length):=decide_eq_decide.2 (by omega);unfold j5;simp only[Modl.F]at l1 l2|-;by_cases h20:20<m.gs.length
 . simp -implicitDefEqProofs only[q20,q12,eq_true h20,zqa,XP,seval]
 by_cases h12:12<m.fs.length
 . simp -implicitDefEqProofs only[q20,q12,h20,eq_true h12,zqa,XP,seval]
 rcases l1 with⟨q,fr',h1,h2,h3⟩|⟨q,fr',K',h1,rfl,rfl⟩
 . have h1:evP ⟨env,T,A1⟩ (.code (.loop Fq) [(1,.ptr 0 0 0),(3,.int .i64 0),(4,.int .i64 0)] _)=_:=h1
   rcases l2 with⟨a',q2,fr2,h4,_⟩|⟨r,q2,fr2,K2,h4,rfl,rfl⟩
   . have h4:evP ⟨env,T,A1⟩ (.code (.loop Iy) [(1,.ptr 0 0 0),(3,.int .i64 0),(5,.int .i64 0)] _)=_:=h4
     simp -implicitDefEqProofs only[q20,q12,h20,h12,h1,h2,h3,h4,q,q2,Sum.isRight_inl,zqa,XP,seval]
   . have h4:evP ⟨env,T,A1⟩ (.code (.loop Iy) [(1,.ptr 0 0 0),(3,.int .i64 0),(5,.int .i64 0)] _)=_:=h4
     simp -implicitDefEqProofs only[q20,q12,h20,h12,h1,h2,h3,h4,q,q2,Sum.isRight_inr,zqa,XP,seval]
 . have h1:evP ⟨env,T,A1⟩ (.code (.loop Fq) [(1,.ptr 0 0 0),(3,.int .i64 0),(4,.int .i64 0)] _)=_:=h1
   simp -implicitDefEqProofs only[q20,q12,h20,h12,h1,q,zqa,XP,seval]
def r9:=W3 (fun p:(Modl)=>[p.F]) (fun p=>[.bool (j5 p)]) (fun p=>p.ok)
theorem iS(hlaw06_Big:T 12=some r9){m:Modl}{K:PK}(hk:m.ok):evP ⟨env,T,A1⟩ (.call 12 [m.F] K)=some (.val (openTs K.os.length [.bool (j5 m)]).1 ⟨K.os++(openTs K.os.length [.bool (j5 m)]).2,K.ext,K.tch⟩):=B3 hlaw06_Big (by simp -implicitDefEqProofs only[VV,XP,seval]) (B5 (a:=fun p:(Modl)=>[p.F]) (r:=fun p=>[.bool (j5 p)]) (fun x y e=>by simp only[VJ]at e;simp only[e]) (m) hk) (by simp -implicitDefEqProofs only[VN,XP,seval])
theorem Zu  (hP:PEok ⟨env,T,A1⟩):TC env 12 r9:=B8 hP fun p h=>Of  h
end
end Go.Proofs.AmEnv
set_option maxRecDepth 100000
namespace Go.AM
def Vl(k:IntKind)(a b:Int):Int:=w6 k (Nat.land (modN a (pow2 k)) (modN b (pow2 k)))
def EX(k:IntKind)(a b:Int):Int:=w6 k (Nat.lor (modN a (pow2 k)) (modN b (pow2 k)))
def oH(k:IntKind)(a b:Int):Int:=w6 k (Nat.xor (modN a (pow2 k)) (modN b (pow2 k)))
theorem IE(fl:EqK)(k:IntKind)(a b:Int):I6 .and fl (.int k a) (.int k b)=some (.int k (Vl k a b)):=by
 show V7 (.int k a) (.int k b) (fun k a b=>m9 k (w6 k (Nat.land (modN a (pow2 k)) (modN b (pow2 k)))))=_;rw[U0,Ay];rfl
theorem WL(fl:EqK)(k:IntKind)(a b:Int):I6 .or fl (.int k a) (.int k b)=some (.int k (EX k a b)):=by
 show V7 (.int k a) (.int k b) (fun k a b=>m9 k (w6 k (Nat.lor (modN a (pow2 k)) (modN b (pow2 k)))))=_;rw[U0,Ay];rfl
theorem IG(fl:EqK)(k:IntKind)(a b:Int):I6 .xor fl (.int k a) (.int k b)=some (.int k (oH k a b)):=by
 show V7 (.int k a) (.int k b) (fun k a b=>m9 k (w6 k (Nat.xor (modN a (pow2 k)) (modN b (pow2 k)))))=_;rw[U0,Ay];rfl
theorem sL(k:IntKind)(n:Nat):(bif Nat.ble n (I5 k)then n else I5 k)=min n (I5 k):=by
 cases h:Nat.ble n (I5 k)with
 |true=>have:=C0 h;simp;omega
 | false =>
  have:¬n<=I5 k:=fun e=>by rw[zkf e]at h;cases h
  simp;omega
theorem IH(fl:EqK)(k j:IntKind)(a:Int)(n:Nat):I6 .shl fl (.int k a) (.int j (n:Int))=some (.int k (k.wrap (a*(2^(min n (I5 k)):Nat)))):=by
 show M6 k (a*Int.ofNat (Nat.pow 2 (bif Nat.ble n (I5 k)then n else I5 k)))=_
 rw[V4,sL];rfl
theorem II(fl:EqK)(k j:IntKind)(a:Int)(n:Nat):I6 .shr fl (.int k a) (.int j (n:Int))=some (.int k (a.fdiv (2^(min n (I5 k)):Nat))):=by
 show m9 k (a.fdiv (Int.ofNat (Nat.pow 2 (bif Nat.ble n (I5 k)then n else I5 k))))=_
 rw[Ay,sL];rfl
theorem dZ(b:Int)(e:Nat)(he:e<=32):Vl .u64 (IntKind.wrap .u64 b) ((2^e-1:Nat):Int)=((b%(2^e:Nat)).toNat:Int):=by
 have hp:(0:Int)<18446744073709551616:=by omega
 have h2:(2:Nat)^e<=2^32:=Nat.pow_le_pow_right (by omega) he;have h3:0<2^e:=Nat.two_pow_pos e;have hdvd:(2^e) ∣ 18446744073709551616:=⟨2^(64-e),by rw[<-Nat.pow_add,show e+(64-e)=64 by omega]⟩
 have hw:IntKind.wrap .u64 b=b%18446744073709551616:=by simp[IntKind.wrap,IntKind.bits,IntKind.signed]
 have m1:(modN (IntKind.wrap .u64 b) (pow2 .u64):Int)=b%18446744073709551616:=by
  rw[Ii _ _ (Aj _),hw];simp[pow2]
 have m2:(modN ((2^e-1:Nat):Int) (pow2 .u64):Int)=((2^e-1:Nat):Int):=by
  rw[Ii _ _ (Aj _)];exact Int.emod_eq_of_lt (by omega) (by simp only[pow2];omega)
 unfold Vl;have m2':modN ((2^e-1:Nat):Int) (pow2 .u64)=2^e-1:=by omega
 rw [m2'];have m3:Nat.land (modN (IntKind.wrap .u64 b) (pow2 .u64)) (2^e-1)=modN (IntKind.wrap .u64 b) (pow2 .u64)%2^e:=Nat.and_two_pow_sub_one_eq_mod _ _;rw[m3];have hlt:modN (IntKind.wrap .u64 b) (pow2 .u64)%2^e<2^e:=Nat.mod_lt _ h3;have hwr:∀m:Nat,m<18446744073709551616->w6 .u64 m=(m:Int):=fun m hm=>by
  unfold w6;cases e:Nat.ble (half .u64) m with
  |false=>rfl
  | true =>
   have:=C0 e
   have hh:half .u64=18446744073709551616:=rfl;omega
 rw [hwr _ (by have:(2:Nat)^32=4294967296:=by decide
               omega)]
 have:((modN (IntKind.wrap .u64 b) (pow2 .u64)%2^e:Nat):Int)=b%((2^e:Nat):Int):=by
  rw[Int.natCast_emod,m1];exact Int.emod_emod_of_dvd b (show((2^e:Nat):Int) ∣ ((18446744073709551616:Nat):Int)from Int.natCast_dvd_natCast.2 hdvd)
 rw[this]
 have:=Int.emod_nonneg b (show((2^e:Nat):Int)≠0 by omega)
 omega
end Go.AM
namespace Go.Proofs.AmEnv
open Go Go.AM
variable {T:Nat->Option (List AV->Option (List AV))}
def W9(k:IntKind)(op:List UInt8)(a b:Int):Int×Int:=
 if b=0 then(0,1)
 else if op=[37]/\b=-1 then(0,0)
 else if op=[37]then(a.tmod b,0)
 else if b=-1 then(if a=0 then(k.wrap (a.tdiv b),0)else if k.wrap (0-a)=a then(0,2)else(k.wrap (a.tdiv b),0))else(k.wrap (a.tdiv b),0)
def j8(k:IntKind)(m:Int)(op:List UInt8)(a b:Int):Int:=
 if op=[43]then k.wrap (a+b)else if op=[45]then k.wrap (a-b)else if op=[42]then k.wrap (a*b)
 else if op=[38]then Vl k a b else if op=[124]then EX k a b else if op=[94]then oH k a b
 else if op=[60,60]then k.wrap (a*(2^(min (b%m).toNat (I5 k)):Nat))else if op=[62,62]then a.fdiv (2^(min (b%m).toNat (I5 k)):Nat)
 else if op=[61,61]then(if a=b then 1 else 0)else if op=[33,61]then(if(!decide (a=b))=true then 1 else 0)
 else if op=[60]then(if a<b then 1 else 0)else if op=[60,61]then(if a<=b then 1 else 0)
 else if op=[62]then(if b<a then 1 else 0)else if op=[62,61]then(if b<=a then 1 else 0)else 0
theorem IJ(b:Int):Vl .u64 (IntKind.wrap .u64 b) (IntKind.wrap .u64 (IntKind.wrap .i64 (32-1)))=((b%32).toNat:Int):=by
 have:IntKind.wrap .u64 (IntKind.wrap .i64 (32-1))=((2^5-1:Nat):Int):=by decide
 rw[this];exact dZ b 5 (by omega)
theorem IK(b:Int):Vl .u64 (IntKind.wrap .u64 b) (IntKind.wrap .u64 (IntKind.wrap .i64 (64-1)))=((b%64).toNat:Int):=by
 have:IntKind.wrap .u64 (IntKind.wrap .i64 (64-1))=((2^6-1:Nat):Int):=by decide
 rw[this];exact dZ b 6 (by omega)
variable {K:PK}{E:Env}
theorem Wx(t:Nat)(k:IntKind)(a:Int){b:Int}(h:¬b=0):N4 E .quo t (.int k a) (.int k b) K=.val (.int k (k.wrap (a.tdiv b))) K:=by
 rw[bp _ _ rfl rfl];show z8 (V7 (.int k a) (.int k b) (fun k a b=>bif intEq b 0 then none else M6 k (a.tdiv b))) K=_
 rw[U0,S6,beq_false_of_ne h];exact congrArg (z8 · K) (V4 k _)
theorem sM(t:Nat)(k:IntKind)(a:Int){b:Int}(h:¬b=0):N4 E .rem t (.int k a) (.int k b) K=.val (.int k (a.tmod b)) K:=by
 rw[bp _ _ rfl rfl];show z8 (V7 (.int k a) (.int k b) (fun k a b=>bif intEq b 0 then none else m9 k (a.tmod b))) K=_
 rw[U0,S6,beq_false_of_ne h];exact congrArg (z8 · K) (Ay k _)
theorem lD(k:IntKind)(a:Int):Hy .neg (.int k a)=some (.int k (k.wrap (0-a))):=V4 k _
theorem J3(t:Nat)(k:IntKind)(a b:Int):N4 E .and t (.int k a) (.int k b) K=.val (.int k (Vl k a b)) K:=by rw[bp _ _ rfl rfl,IE];rfl
theorem V8(t:Nat)(k:IntKind)(a b:Int):N4 E .or t (.int k a) (.int k b) K=.val (.int k (EX k a b)) K:=by rw[bp _ _ rfl rfl,WL];rfl
theorem J4(t:Nat)(k:IntKind)(a b:Int):N4 E .xor t (.int k a) (.int k b) K=.val (.int k (oH k a b)) K:=by rw[bp _ _ rfl rfl,IG];rfl
theorem J5(t:Nat)(k j:IntKind)(a:Int)(n:Nat):N4 E .shl t (.int k a) (.int j (n:Int)) K=.val (.int k (k.wrap (a*(2^(min n (I5 k)):Nat)))) K:=by rw[bp _ _ rfl rfl,IH];rfl
theorem J6(t:Nat)(k j:IntKind)(a:Int)(n:Nat):N4 E .shr t (.int k a) (.int j (n:Int)) K=.val (.int k (a.fdiv (2^(min n (I5 k)):Nat))) K:=by rw[bp _ _ rfl rfl,II];rfl
theorem eA  {b:Bool}:AM.Comes ⟨env,T,A1⟩ 74 [.bool b] [.int .i32 (if b=true then 1 else 0)]:=by
 refine⟨[.int .i32 (if b=true then 1 else 0)],⟨[],0,[]⟩,?_,back_of rfl zqb rfl rfl rfl⟩;rw[A3 (c:=NW) (nt:=4) (rs:=[.tmp 2]) rfl (by simp)];unfold NW;unfold K0;cases b<;>simp -implicitDefEqProofs only[XP,seval]
def Sp:=W3 (fun p:(Bool)=>[.bool p]) (fun p=>[.int .i32 (if p=true then 1 else 0)]) (fun p=>True)
theorem BZ(hone32:T 74=some Sp){b:Bool}{K:PK}:evP ⟨env,T,A1⟩ (.call 74 [.bool b] K)=some (.val (openTs K.os.length [.int .i32 (if b=true then 1 else 0)]).1 ⟨K.os++(openTs K.os.length [.int .i32 (if b=true then 1 else 0)]).2,K.ext,K.tch⟩):=B3 hone32 (by simp -implicitDefEqProofs only[VV,XP,seval]) (B5 (a:=fun p:(Bool)=>[.bool p]) (r:=fun p=>[.int .i32 (if p=true then 1 else 0)]) (fun x y e=>by simp only[VJ]at e;simp only[e]) (b) trivial) (by simp -implicitDefEqProofs only[VN,XP,seval])
theorem sN  (hP:PEok ⟨env,T,A1⟩):TC env 74 Sp:=B8 hP fun p h=>eA
theorem Sq  {op:List UInt8} {a:Int} {b:Int}:AM.Comes ⟨env,T,A1⟩ 68 [.str op,.int .i32 a,.int .i32 b] [.int .i32 (W9 .i32 op a b).1,.int .i64 (W9 .i32 op a b).2]:=by
 refine⟨[.int .i32 (W9 .i32 op a b).1,.int .i64 (W9 .i32 op a b).2],⟨[],0,[]⟩,?_,back_of rfl zqb rfl rfl rfl⟩;rw[A3 (c:=NR) (nt:=40) (rs:=[.tmp 6,.tmp 7]) rfl (by simp)];unfold NR;unfold K0;unfold W9;by_cases h0:b=0
 . simp -implicitDefEqProofs only[eq_true h0,XP,seval]
 by_cases h1:op=[37]
 . by_cases h2:b=-1
   . simp -implicitDefEqProofs only[h0,eq_true h1,eq_true h2,XP,seval]
   . simp -implicitDefEqProofs only[h0,eq_true h1,h2,sM _ _ a h0,XP,seval]
 by_cases h2:b=-1
 . by_cases h3:a=0
   . simp -implicitDefEqProofs only[h0,eq_true h2,h1,eq_true h3,Wx _ _ a h0,XP,seval]
   . by_cases h4:IntKind.wrap .i32 (0-a)=a
     . simp -implicitDefEqProofs only[h0,eq_true h2,h1,h3,lD,eq_true h4,XP,seval]
     . simp -implicitDefEqProofs only[h0,eq_true h2,h1,h3,lD,h4,Wx _ _ a h0,XP,seval]
 . simp -implicitDefEqProofs only[h0,h1,h2,Wx _ _ a h0,XP,seval]
def As:=W3 (fun p:(List UInt8)×(Int)×(Int)=>[.str p.1,.int .i32 p.2.1,.int .i32 p.2.2]) (fun p=>[.int .i32 (W9 .i32 p.1 p.2.1 p.2.2).1,.int .i64 (W9 .i32 p.1 p.2.1 p.2.2).2]) (fun p=>True)
theorem oI(hdivide32:T 68=some As){op:List UInt8}{a:Int}{b:Int}{K:PK}:evP ⟨env,T,A1⟩ (.call 68 [.str op,.int .i32 a,.int .i32 b] K)=some (.val (openTs K.os.length [.int .i32 (W9 .i32 op a b).1,.int .i64 (W9 .i32 op a b).2]).1 ⟨K.os++(openTs K.os.length [.int .i32 (W9 .i32 op a b).1,.int .i64 (W9 .i32 op a b).2]).2,K.ext,K.tch⟩):=B3 hdivide32 (by simp -implicitDefEqProofs only[VV,XP,seval]) (B5 (a:=fun p:(List UInt8)×(Int)×(Int)=>[.str p.1,.int .i32 p.2.1,.int .i32 p.2.2]) (r:=fun p=>[.int .i32 (W9 .i32 p.1 p.2.1 p.2.2).1,.int .i64 (W9 .i32 p.1 p.2.1 p.2.2).2]) (fun x y e=>by simp only[VJ]at e;simp only[e]) (op,a,b) trivial) (by simp -implicitDefEqProofs only[VN,XP,seval])
theorem eB  (hP:PEok ⟨env,T,A1⟩):TC env 68 As:=B8 hP fun p h=>Sq
theorem Zw(hone32:T 74=some Sp){op:List UInt8}{a:Int}{b:Int}:AM.Comes ⟨env,T,A1⟩ 69 [.str op,.int .i32 a,.int .i32 b,.int .i64 32] [.int .i32 (j8 .i32 32 op a b)]:=by
 refine⟨[.int .i32 (j8 .i32 32 op a b)],⟨[],0,[]⟩,?_,back_of rfl zqb rfl rfl rfl⟩;rw[A3 (c:=NS) (nt:=93) (rs:=[.tmp 8]) rfl (by simp)];unfold NS;unfold K0;have to:=fun b K=>BZ (K:=K) (b:=b) hone32
 have lw:=IJ b;unfold j8;by_cases h1:op=[43]
 . simp -implicitDefEqProofs only[lw,B1,to,J3,V8,J4,J5,J6,eq_true h1,XP,Nat.reduceAdd,Nat.reduceSub,Nat.reduceLT,Nat.reduceLeDiff,Nat.reduceEqDiff,Nat.reduceMul,↓reduceIte]
 by_cases h2:op=[45]
 . simp -implicitDefEqProofs only[lw,B1,to,J3,V8,J4,J5,J6,h1,eq_true h2,XP,Nat.reduceAdd,Nat.reduceSub,Nat.reduceLT,Nat.reduceLeDiff,Nat.reduceEqDiff,Nat.reduceMul,↓reduceIte]
 by_cases h3:op=[42]
 . simp -implicitDefEqProofs only[lw,B1,to,J3,V8,J4,J5,J6,h1,h2,eq_true h3,XP,Nat.reduceAdd,Nat.reduceSub,Nat.reduceLT,Nat.reduceLeDiff,Nat.reduceEqDiff,Nat.reduceMul,↓reduceIte]
 by_cases h4:op=[38]
 . simp -implicitDefEqProofs only[lw,B1,to,J3,V8,J4,J5,J6,h1,h2,h3,eq_true h4,XP,Nat.reduceAdd,Nat.reduceSub,Nat.reduceLT,Nat.reduceLeDiff,Nat.reduceEqDiff,Nat.reduceMul,↓reduceIte]
 by_cases h5:op=[124]
 . simp -implicitDefEqProofs only[lw,B1,to,J3,V8,J4,J5,J6,h1,h2,h3,h4,eq_true h5,XP,Nat.reduceAdd,Nat.reduceSub,Nat.reduceLT,Nat.reduceLeDiff,Nat.reduceEqDiff,Nat.reduceMul,↓reduceIte]
 by_cases h6:op=[94]
 . simp -implicitDefEqProofs only[lw,B1,to,J3,V8,J4,J5,J6,h1,h2,h3,h4,h5,eq_true h6,XP,Nat.reduceAdd,Nat.reduceSub,Nat.reduceLT,Nat.reduceLeDiff,Nat.reduceEqDiff,Nat.reduceMul,↓reduceIte]
 by_cases h7:op=[60,60]
 . simp -implicitDefEqProofs only[lw,B1,to,J3,V8,J4,J5,J6,h1,h2,h3,h4,h5,h6,eq_true h7,XP,Nat.reduceAdd,Nat.reduceSub,Nat.reduceLT,Nat.reduceLeDiff,Nat.reduceEqDiff,Nat.reduceMul,↓reduceIte]
 by_cases h8:op=[62,62]
 . simp -implicitDefEqProofs only[lw,B1,to,J3,V8,J4,J5,J6,h1,h2,h3,h4,h5,h6,h7,eq_true h8,XP,Nat.reduceAdd,Nat.reduceSub,Nat.reduceLT,Nat.reduceLeDiff,Nat.reduceEqDiff,Nat.reduceMul,↓reduceIte]
 by_cases h9:op=[61,61]
 . simp -implicitDefEqProofs only[lw,B1,to,J3,V8,J4,J5,J6,h1,h2,h3,h4,h5,h6,h7,h8,eq_true h9,XP,Nat.reduceAdd,Nat.reduceSub,Nat.reduceLT,Nat.reduceLeDiff,Nat.reduceEqDiff,Nat.reduceMul,↓reduceIte]
 by_cases h10:op=[33,61]
 . simp -implicitDefEqProofs only[lw,B1,to,J3,V8,J4,J5,J6,h1,h2,h3,h4,h5,h6,h7,h8,h9,eq_true h10,XP,Nat.reduceAdd,Nat.reduceSub,Nat.reduceLT,Nat.reduceLeDiff,Nat.reduceEqDiff,Nat.reduceMul,↓reduceIte]
 by_cases h11:op=[60]
 . simp -implicitDefEqProofs only[lw,B1,to,J3,V8,J4,J5,J6,h1,h2,h3,h4,h5,h6,h7,h8,h9,h10,eq_true h11,XP,Nat.reduceAdd,Nat.reduceSub,Nat.reduceLT,Nat.reduceLeDiff,Nat.reduceEqDiff,Nat.reduceMul,↓reduceIte]
 by_cases h12:op=[60,61]
 . simp -implicitDefEqProofs only[lw,B1,to,J3,V8,J4,J5,J6,h1,h2,h3,h4,h5,h6,h7,h8,h9,h10,h11,eq_true h12,XP,Nat.reduceAdd,Nat.reduceSub,Nat.reduceLT,Nat.reduceLeDiff,Nat.reduceEqDiff,Nat.reduceMul,↓reduceIte]
 by_cases h13:op=[62]
 . simp -implicitDefEqProofs only[lw,B1,to,J3,V8,J4,J5,J6,h1,h2,h3,h4,h5,h6,h7,h8,h9,h10,h11,h12,eq_true h13,XP,Nat.reduceAdd,Nat.reduceSub,Nat.reduceLT,Nat.reduceLeDiff,Nat.reduceEqDiff,Nat.reduceMul,↓reduceIte]
 by_cases h14:op=[62,61]
 . simp -implicitDefEqProofs only[lw,B1,to,J3,V8,J4,J5,J6,h1,h2,h3,h4,h5,h6,h7,h8,h9,h10,h11,h12,h13,eq_true h14,XP,Nat.reduceAdd,Nat.reduceSub,Nat.reduceLT,Nat.reduceLeDiff,Nat.reduceEqDiff,Nat.reduceMul,↓reduceIte]
 simp -implicitDefEqProofs only[lw,B1,to,J3,V8,J4,J5,J6,h1,h2,h3,h4,h5,h6,h7,h8,h9,h10,h11,h12,h13,h14,XP,Nat.reduceAdd,Nat.reduceSub,Nat.reduceLT,Nat.reduceLeDiff,Nat.reduceEqDiff,Nat.reduceMul,↓reduceIte]
def Jm:=W3 (fun p:(List UInt8)×(Int)×(Int)=>[.str p.1,.int .i32 p.2.1,.int .i32 p.2.2,.int .i64 32]) (fun p=>[.int .i32 (j8 .i32 32 p.1 p.2.1 p.2.2)]) (fun p=>True)
theorem wT(hdoes32:T 69=some Jm){op:List UInt8}{a:Int}{b:Int}{K:PK}:evP ⟨env,T,A1⟩ (.call 69 [.str op,.int .i32 a,.int .i32 b,.int .i64 32] K)=some (.val (openTs K.os.length [.int .i32 (j8 .i32 32 op a b)]).1 ⟨K.os++(openTs K.os.length [.int .i32 (j8 .i32 32 op a b)]).2,K.ext,K.tch⟩):=B3 hdoes32 (by simp -implicitDefEqProofs only[VV,XP,seval]) (B5 (a:=fun p:(List UInt8)×(Int)×(Int)=>[.str p.1,.int .i32 p.2.1,.int .i32 p.2.2,.int .i64 32]) (r:=fun p=>[.int .i32 (j8 .i32 32 p.1 p.2.1 p.2.2)]) (fun x y e=>by simp only[VJ]at e;simp only[e]) (op,a,b) trivial) (by simp -implicitDefEqProofs only[VN,XP,seval])
theorem oJ(hone32:T 74=some Sp)(hP:PEok ⟨env,T,A1⟩):TC env 69 Jm:=B8 hP fun p h=>Zw hone32
theorem eD  {b:Bool}:AM.Comes ⟨env,T,A1⟩ 75 [.bool b] [.int .i64 (if b=true then 1 else 0)]:=by
 refine⟨[.int .i64 (if b=true then 1 else 0)],⟨[],0,[]⟩,?_,back_of rfl zqb rfl rfl rfl⟩;rw[A3 (c:=NX) (nt:=4) (rs:=[.tmp 2]) rfl (by simp)];unfold NX;unfold K0;cases b<;>simp -implicitDefEqProofs only[XP,seval]
def Sr:=W3 (fun p:(Bool)=>[.bool p]) (fun p=>[.int .i64 (if p=true then 1 else 0)]) (fun p=>True)
theorem CA(hone64:T 75=some Sr){b:Bool}{K:PK}:evP ⟨env,T,A1⟩ (.call 75 [.bool b] K)=some (.val (openTs K.os.length [.int .i64 (if b=true then 1 else 0)]).1 ⟨K.os++(openTs K.os.length [.int .i64 (if b=true then 1 else 0)]).2,K.ext,K.tch⟩):=B3 hone64 (by simp -implicitDefEqProofs only[VV,XP,seval]) (B5 (a:=fun p:(Bool)=>[.bool p]) (r:=fun p=>[.int .i64 (if p=true then 1 else 0)]) (fun x y e=>by simp only[VJ]at e;simp only[e]) (b) trivial) (by simp -implicitDefEqProofs only[VN,XP,seval])
theorem sO  (hP:PEok ⟨env,T,A1⟩):TC env 75 Sr:=B8 hP fun p h=>eD
theorem Ss  {op:List UInt8} {a:Int} {b:Int}:AM.Comes ⟨env,T,A1⟩ 70 [.str op,.int .i64 a,.int .i64 b] [.int .i64 (W9 .i64 op a b).1,.int .i64 (W9 .i64 op a b).2]:=by
 refine⟨[.int .i64 (W9 .i64 op a b).1,.int .i64 (W9 .i64 op a b).2],⟨[],0,[]⟩,?_,back_of rfl zqb rfl rfl rfl⟩;rw[A3 (c:=NT) (nt:=40) (rs:=[.tmp 6,.tmp 7]) rfl (by simp)];unfold NT;unfold K0;unfold W9;by_cases h0:b=0
 . simp -implicitDefEqProofs only[eq_true h0,XP,seval]
 by_cases h1:op=[37]
 . by_cases h2:b=-1
   . simp -implicitDefEqProofs only[h0,eq_true h1,eq_true h2,XP,seval]
   . simp -implicitDefEqProofs only[h0,eq_true h1,h2,sM _ _ a h0,XP,seval]
 by_cases h2:b=-1
 . by_cases h3:a=0
   . simp -implicitDefEqProofs only[h0,eq_true h2,h1,eq_true h3,Wx _ _ a h0,XP,seval]
   . by_cases h4:IntKind.wrap .i64 (0-a)=a
     . simp -implicitDefEqProofs only[h0,eq_true h2,h1,h3,lD,eq_true h4,XP,seval]
     . simp -implicitDefEqProofs only[h0,eq_true h2,h1,h3,lD,h4,Wx _ _ a h0,XP,seval]
 . simp -implicitDefEqProofs only[h0,h1,h2,Wx _ _ a h0,XP,seval]
def At:=W3 (fun p:(List UInt8)×(Int)×(Int)=>[.str p.1,.int .i64 p.2.1,.int .i64 p.2.2]) (fun p=>[.int .i64 (W9 .i64 p.1 p.2.1 p.2.2).1,.int .i64 (W9 .i64 p.1 p.2.1 p.2.2).2]) (fun p=>True)
theorem oL(hdivide64:T 70=some At){op:List UInt8}{a:Int}{b:Int}{K:PK}:evP ⟨env,T,A1⟩ (.call 70 [.str op,.int .i64 a,.int .i64 b] K)=some (.val (openTs K.os.length [.int .i64 (W9 .i64 op a b).1,.int .i64 (W9 .i64 op a b).2]).1 ⟨K.os++(openTs K.os.length [.int .i64 (W9 .i64 op a b).1,.int .i64 (W9 .i64 op a b).2]).2,K.ext,K.tch⟩):=B3 hdivide64 (by simp -implicitDefEqProofs only[VV,XP,seval]) (B5 (a:=fun p:(List UInt8)×(Int)×(Int)=>[.str p.1,.int .i64 p.2.1,.int .i64 p.2.2]) (r:=fun p=>[.int .i64 (W9 .i64 p.1 p.2.1 p.2.2).1,.int .i64 (W9 .i64 p.1 p.2.1 p.2.2).2]) (fun x y e=>by simp only[VJ]at e;simp only[e]) (op,a,b) trivial) (by simp -implicitDefEqProofs only[VN,XP,seval])
theorem eE  (hP:PEok ⟨env,T,A1⟩):TC env 70 At:=B8 hP fun p h=>Ss
theorem Zx(hone64:T 75=some Sr){op:List UInt8}{a:Int}{b:Int}:AM.Comes ⟨env,T,A1⟩ 71 [.str op,.int .i64 a,.int .i64 b,.int .i64 64] [.int .i64 (j8 .i64 64 op a b)]:=by
 refine⟨[.int .i64 (j8 .i64 64 op a b)],⟨[],0,[]⟩,?_,back_of rfl zqb rfl rfl rfl⟩;rw[A3 (c:=NU) (nt:=93) (rs:=[.tmp 8]) rfl (by simp)];unfold NU;unfold K0;have to:=fun b K=>CA (K:=K) (b:=b) hone64
 have lw:=IK b;unfold j8;by_cases h1:op=[43]
 . simp -implicitDefEqProofs only[lw,B1,to,J3,V8,J4,J5,J6,eq_true h1,XP,Nat.reduceAdd,Nat.reduceSub,Nat.reduceLT,Nat.reduceLeDiff,Nat.reduceEqDiff,Nat.reduceMul,↓reduceIte]
 by_cases h2:op=[45]
 . simp -implicitDefEqProofs only[lw,B1,to,J3,V8,J4,J5,J6,h1,eq_true h2,XP,Nat.reduceAdd,Nat.reduceSub,Nat.reduceLT,Nat.reduceLeDiff,Nat.reduceEqDiff,Nat.reduceMul,↓reduceIte]
 by_cases h3:op=[42]
 . simp -implicitDefEqProofs only[lw,B1,to,J3,V8,J4,J5,J6,h1,h2,eq_true h3,XP,Nat.reduceAdd,Nat.reduceSub,Nat.reduceLT,Nat.reduceLeDiff,Nat.reduceEqDiff,Nat.reduceMul,↓reduceIte]
 by_cases h4:op=[38]
 . simp -implicitDefEqProofs only[lw,B1,to,J3,V8,J4,J5,J6,h1,h2,h3,eq_true h4,XP,Nat.reduceAdd,Nat.reduceSub,Nat.reduceLT,Nat.reduceLeDiff,Nat.reduceEqDiff,Nat.reduceMul,↓reduceIte]
 by_cases h5:op=[124]
 . simp -implicitDefEqProofs only[lw,B1,to,J3,V8,J4,J5,J6,h1,h2,h3,h4,eq_true h5,XP,Nat.reduceAdd,Nat.reduceSub,Nat.reduceLT,Nat.reduceLeDiff,Nat.reduceEqDiff,Nat.reduceMul,↓reduceIte]
 by_cases h6:op=[94]
 . simp -implicitDefEqProofs only[lw,B1,to,J3,V8,J4,J5,J6,h1,h2,h3,h4,h5,eq_true h6,XP,Nat.reduceAdd,Nat.reduceSub,Nat.reduceLT,Nat.reduceLeDiff,Nat.reduceEqDiff,Nat.reduceMul,↓reduceIte]
 by_cases h7:op=[60,60]
 . simp -implicitDefEqProofs only[lw,B1,to,J3,V8,J4,J5,J6,h1,h2,h3,h4,h5,h6,eq_true h7,XP,Nat.reduceAdd,Nat.reduceSub,Nat.reduceLT,Nat.reduceLeDiff,Nat.reduceEqDiff,Nat.reduceMul,↓reduceIte]
 by_cases h8:op=[62,62]
 . simp -implicitDefEqProofs only[lw,B1,to,J3,V8,J4,J5,J6,h1,h2,h3,h4,h5,h6,h7,eq_true h8,XP,Nat.reduceAdd,Nat.reduceSub,Nat.reduceLT,Nat.reduceLeDiff,Nat.reduceEqDiff,Nat.reduceMul,↓reduceIte]
 by_cases h9:op=[61,61]
 . simp -implicitDefEqProofs only[lw,B1,to,J3,V8,J4,J5,J6,h1,h2,h3,h4,h5,h6,h7,h8,eq_true h9,XP,Nat.reduceAdd,Nat.reduceSub,Nat.reduceLT,Nat.reduceLeDiff,Nat.reduceEqDiff,Nat.reduceMul,↓reduceIte]
 by_cases h10:op=[33,61]
 . simp -implicitDefEqProofs only[lw,B1,to,J3,V8,J4,J5,J6,h1,h2,h3,h4,h5,h6,h7,h8,h9,eq_true h10,XP,Nat.reduceAdd,Nat.reduceSub,Nat.reduceLT,Nat.reduceLeDiff,Nat.reduceEqDiff,Nat.reduceMul,↓reduceIte]
 by_cases h11:op=[60]
 . simp -implicitDefEqProofs only[lw,B1,to,J3,V8,J4,J5,J6,h1,h2,h3,h4,h5,h6,h7,h8,h9,h10,eq_true h11,XP,Nat.reduceAdd,Nat.reduceSub,Nat.reduceLT,Nat.reduceLeDiff,Nat.reduceEqDiff,Nat.reduceMul,↓reduceIte]
 by_cases h12:op=[60,61]
 . simp -implicitDefEqProofs only[lw,B1,to,J3,V8,J4,J5,J6,h1,h2,h3,h4,h5,h6,h7,h8,h9,h10,h11,eq_true h12,XP,Nat.reduceAdd,Nat.reduceSub,Nat.reduceLT,Nat.reduceLeDiff,Nat.reduceEqDiff,Nat.reduceMul,↓reduceIte]
 by_cases h13:op=[62]
 . simp -implicitDefEqProofs only[lw,B1,to,J3,V8,J4,J5,J6,h1,h2,h3,h4,h5,h6,h7,h8,h9,h10,h11,h12,eq_true h13,XP,Nat.reduceAdd,Nat.reduceSub,Nat.reduceLT,Nat.reduceLeDiff,Nat.reduceEqDiff,Nat.reduceMul,↓reduceIte]
 by_cases h14:op=[62,61]
 . simp -implicitDefEqProofs only[lw,B1,to,J3,V8,J4,J5,J6,h1,h2,h3,h4,h5,h6,h7,h8,h9,h10,h11,h12,h13,eq_true h14,XP,Nat.reduceAdd,Nat.reduceSub,Nat.reduceLT,Nat.reduceLeDiff,Nat.reduceEqDiff,Nat.reduceMul,↓reduceIte]
 simp -implicitDefEqProofs only[lw,B1,to,J3,V8,J4,J5,J6,h1,h2,h3,h4,h5,h6,h7,h8,h9,h10,h11,h12,h13,h14,XP,Nat.reduceAdd,Nat.reduceSub,Nat.reduceLT,Nat.reduceLeDiff,Nat.reduceEqDiff,Nat.reduceMul,↓reduceIte]
def Jn:=W3 (fun p:(List UInt8)×(Int)×(Int)=>[.str p.1,.int .i64 p.2.1,.int .i64 p.2.2,.int .i64 64]) (fun p=>[.int .i64 (j8 .i64 64 p.1 p.2.1 p.2.2)]) (fun p=>True)
theorem wU(hdoes64:T 71=some Jn){op:List UInt8}{a:Int}{b:Int}{K:PK}:evP ⟨env,T,A1⟩ (.call 71 [.str op,.int .i64 a,.int .i64 b,.int .i64 64] K)=some (.val (openTs K.os.length [.int .i64 (j8 .i64 64 op a b)]).1 ⟨K.os++(openTs K.os.length [.int .i64 (j8 .i64 64 op a b)]).2,K.ext,K.tch⟩):=B3 hdoes64 (by simp -implicitDefEqProofs only[VV,XP,seval]) (B5 (a:=fun p:(List UInt8)×(Int)×(Int)=>[.str p.1,.int .i64 p.2.1,.int .i64 p.2.2,.int .i64 64]) (r:=fun p=>[.int .i64 (j8 .i64 64 p.1 p.2.1 p.2.2)]) (fun x y e=>by simp only[VJ]at e;simp only[e]) (op,a,b) trivial) (by simp -implicitDefEqProofs only[VN,XP,seval])
theorem oM(hone64:T 75=some Sr)(hP:PEok ⟨env,T,A1⟩):TC env 71 Jn:=B8 hP fun p h=>Zx hone64
def H4(k:IntKind)(m:Int)(op:List UInt8)(a b:Int):Int×Int:=if op=[47]then W9 k op a b else if op=[37]then W9 k op a b else(j8 k m op a b,0)
def X0(t:Int)(op:List UInt8)(a b:Int):Int×Int:=
 if t=1 then(IntKind.wrap .i64 (H4 .i32 32 op (IntKind.wrap .i32 a) (IntKind.wrap .i32 b)).1,(H4 .i32 32 op (IntKind.wrap .i32 a) (IntKind.wrap .i32 b)).2)
 else if t=2 then H4 .i64 64 op a b else(0,0)
theorem eF(hdivide32:T 68=some As)(hdoes32:T 69=some Jm){op:List UInt8}{a:Int}{b:Int}:AM.Comes ⟨env,T,A1⟩ 63 [.str op,.int .i32 a,.int .i32 b,.int .i64 32] [.int .i64 (IntKind.wrap .i64 (H4 .i32 32 op a b).1),.int .i64 (H4 .i32 32 op a b).2]:=by
 refine⟨[.int .i64 (IntKind.wrap .i64 (H4 .i32 32 op a b).1),.int .i64 (H4 .i32 32 op a b).2],⟨[],0,[]⟩,?_,back_of rfl zqb rfl rfl rfl⟩;rw[A3 (c:=NN) (nt:=34) (rs:=[.tmp 8,.tmp 9]) rfl (by simp)];unfold NN;unfold K0;have td:=fun K=>oI (K:=K) (op:=op) (a:=a) (b:=b) hdivide32
 have te:=fun K=>wT (K:=K) (op:=op) (a:=a) (b:=b) hdoes32
 unfold H4;by_cases h1:op=[47]
 . simp -implicitDefEqProofs only[td,te,B1,eq_true h1,XP,seval]
 by_cases h2:op=[37]
 . simp -implicitDefEqProofs only[td,te,B1,h1,eq_true h2,XP,seval]
 simp -implicitDefEqProofs only[td,te,B1,h1,h2,XP,seval]
def Su:=W3 (fun p:(List UInt8)×(Int)×(Int)=>[.str p.1,.int .i32 p.2.1,.int .i32 p.2.2,.int .i64 32]) (fun p=>[.int .i64 (IntKind.wrap .i64 (H4 .i32 32 p.1 p.2.1 p.2.2).1),.int .i64 (H4 .i32 32 p.1 p.2.1 p.2.2).2]) (fun p=>True)
theorem CB(hbin32:T 63=some Su){op:List UInt8}{a:Int}{b:Int}{K:PK}:evP ⟨env,T,A1⟩ (.call 63 [.str op,.int .i32 a,.int .i32 b,.int .i64 32] K)=some (.val (openTs K.os.length [.int .i64 (IntKind.wrap .i64 (H4 .i32 32 op a b).1),.int .i64 (H4 .i32 32 op a b).2]).1 ⟨K.os++(openTs K.os.length [.int .i64 (IntKind.wrap .i64 (H4 .i32 32 op a b).1),.int .i64 (H4 .i32 32 op a b).2]).2,K.ext,K.tch⟩):=B3 hbin32 (by simp -implicitDefEqProofs only[VV,XP,seval]) (B5 (a:=fun p:(List UInt8)×(Int)×(Int)=>[.str p.1,.int .i32 p.2.1,.int .i32 p.2.2,.int .i64 32]) (r:=fun p=>[.int .i64 (IntKind.wrap .i64 (H4 .i32 32 p.1 p.2.1 p.2.2).1),.int .i64 (H4 .i32 32 p.1 p.2.1 p.2.2).2]) (fun x y e=>by simp only[VJ]at e;simp only[e]) (op,a,b) trivial) (by simp -implicitDefEqProofs only[VN,XP,seval])
theorem sP(hdivide32:T 68=some As)(hdoes32:T 69=some Jm)(hP:PEok ⟨env,T,A1⟩):TC env 63 Su:=B8 hP fun p h=>eF hdivide32 hdoes32
theorem eG(hdivide64:T 70=some At)(hdoes64:T 71=some Jn){op:List UInt8}{a:Int}{b:Int}:AM.Comes ⟨env,T,A1⟩ 64 [.str op,.int .i64 a,.int .i64 b,.int .i64 64] [.int .i64 (H4 .i64 64 op a b).1,.int .i64 (H4 .i64 64 op a b).2]:=by
 refine⟨[.int .i64 (H4 .i64 64 op a b).1,.int .i64 (H4 .i64 64 op a b).2],⟨[],0,[]⟩,?_,back_of rfl zqb rfl rfl rfl⟩;rw[A3 (c:=NO) (nt:=32) (rs:=[.tmp 8,.tmp 9]) rfl (by simp)];unfold NO;unfold K0;have td:=fun K=>oL (K:=K) (op:=op) (a:=a) (b:=b) hdivide64
 have te:=fun K=>wU (K:=K) (op:=op) (a:=a) (b:=b) hdoes64
 unfold H4;by_cases h1:op=[47]
 . simp -implicitDefEqProofs only[td,te,B1,eq_true h1,XP,seval]
 by_cases h2:op=[37]
 . simp -implicitDefEqProofs only[td,te,B1,h1,eq_true h2,XP,seval]
 simp -implicitDefEqProofs only[td,te,B1,h1,h2,XP,seval]
def Sv:=W3 (fun p:(List UInt8)×(Int)×(Int)=>[.str p.1,.int .i64 p.2.1,.int .i64 p.2.2,.int .i64 64]) (fun p=>[.int .i64 (H4 .i64 64 p.1 p.2.1 p.2.2).1,.int .i64 (H4 .i64 64 p.1 p.2.1 p.2.2).2]) (fun p=>True)
theorem CC(hbin64:T 64=some Sv){op:List UInt8}{a:Int}{b:Int}{K:PK}:evP ⟨env,T,A1⟩ (.call 64 [.str op,.int .i64 a,.int .i64 b,.int .i64 64] K)=some (.val (openTs K.os.length [.int .i64 (H4 .i64 64 op a b).1,.int .i64 (H4 .i64 64 op a b).2]).1 ⟨K.os++(openTs K.os.length [.int .i64 (H4 .i64 64 op a b).1,.int .i64 (H4 .i64 64 op a b).2]).2,K.ext,K.tch⟩):=B3 hbin64 (by simp -implicitDefEqProofs only[VV,XP,seval]) (B5 (a:=fun p:(List UInt8)×(Int)×(Int)=>[.str p.1,.int .i64 p.2.1,.int .i64 p.2.2,.int .i64 64]) (r:=fun p=>[.int .i64 (H4 .i64 64 p.1 p.2.1 p.2.2).1,.int .i64 (H4 .i64 64 p.1 p.2.1 p.2.2).2]) (fun x y e=>by simp only[VJ]at e;simp only[e]) (op,a,b) trivial) (by simp -implicitDefEqProofs only[VN,XP,seval])
theorem sQ(hdivide64:T 70=some At)(hdoes64:T 71=some Jn)(hP:PEok ⟨env,T,A1⟩):TC env 64 Sv:=B8 hP fun p h=>eG hdivide64 hdoes64
theorem Sw(hbin32:T 63=some Su)(hbin64:T 64=some Sv){t:Int}{op:List UInt8}{a:Int}{b:Int}:AM.Comes ⟨env,T,A1⟩ 48 [.int .i64 t,.str op,.int .i64 a,.int .i64 b] [.int .i64 (X0 t op a b).1,.int .i64 (X0 t op a b).2]:=by
 refine⟨[.int .i64 (X0 t op a b).1,.int .i64 (X0 t op a b).2],⟨[],0,[]⟩,?_,back_of rfl zqb rfl rfl rfl⟩;rw[A3 (c:=ND) (nt:=29) (rs:=[.tmp 8,.tmp 9]) rfl (by simp)];unfold ND;unfold K0;have t1:=fun K=>CB (K:=K) (op:=op) (a:=IntKind.wrap .i32 a) (b:=IntKind.wrap .i32 b) hbin32
 have t2:=fun K=>CC (K:=K) (op:=op) (a:=a) (b:=b) hbin64
 unfold X0;by_cases h1:t=1
 . simp -implicitDefEqProofs only[t1,t2,B1,eq_true h1,XP,seval]
 by_cases h2:t=2
 . simp -implicitDefEqProofs only[t1,t2,B1,h1,eq_true h2,XP,seval]
 simp -implicitDefEqProofs only[t1,t2,B1,h1,h2,XP,seval]
def V2:=W3 (fun p:(Int)×(List UInt8)×(Int)×(Int)=>[.int .i64 p.1,.str p.2.1,.int .i64 p.2.2.1,.int .i64 p.2.2.2]) (fun p=>[.int .i64 (X0 p.1 p.2.1 p.2.2.1 p.2.2.2).1,.int .i64 (X0 p.1 p.2.1 p.2.2.1 p.2.2.2).2]) (fun p=>True)
theorem Wy(hword_Bin:T 48=some V2){t:Int}{op:List UInt8}{a:Int}{b:Int}{K:PK}:evP ⟨env,T,A1⟩ (.call 48 [.int .i64 t,.str op,.int .i64 a,.int .i64 b] K)=some (.val (openTs K.os.length [.int .i64 (X0 t op a b).1,.int .i64 (X0 t op a b).2]).1 ⟨K.os++(openTs K.os.length [.int .i64 (X0 t op a b).1,.int .i64 (X0 t op a b).2]).2,K.ext,K.tch⟩):=B3 hword_Bin (by simp -implicitDefEqProofs only[VV,XP,seval]) (B5 (a:=fun p:(Int)×(List UInt8)×(Int)×(Int)=>[.int .i64 p.1,.str p.2.1,.int .i64 p.2.2.1,.int .i64 p.2.2.2]) (r:=fun p=>[.int .i64 (X0 p.1 p.2.1 p.2.2.1 p.2.2.2).1,.int .i64 (X0 p.1 p.2.1 p.2.2.1 p.2.2.2).2]) (fun x y e=>by simp only[VJ]at e;simp only[e]) (t,op,a,b) trivial) (by simp -implicitDefEqProofs only[VN,XP,seval])
theorem eH(hbin32:T 63=some Su)(hbin64:T 64=some Sv)(hP:PEok ⟨env,T,A1⟩):TC env 48 V2:=B8 hP fun p h=>Sw hbin32 hbin64
section
variable {K:PK}{fr:PF}{x:Operand}{v:AV}
theorem Wz:prim env (.makeInterface 68 x) fr K=.val (.iface 68 (opvP env x fr)) K:=rfl
theorem IL(u:Nat):prim env (.typeAssert x u 68 false) fr K=z8 (Ie 68 (opvP env x fr)) K:=rfl
theorem WM:Ie 68 (.iface 68 v)=some v:=rfl
theorem AE(t:Nat):N4 env .neq 20 (.iface t v) .niliface K=.val (.bool true) K:=by rw[bp _ _ rfl rfl];rfl
theorem AF:N4 env .neq 20 .niliface .niliface K=.val (.bool false) K:=by rw[bp _ _ rfl rfl];rfl
theorem sR:opvP env (.const .nilIface) fr=.niliface:=rfl
end
structure Mst where
 steps:Int
 input:List Int
 data:List (List Int)
 out:List Int
 calls:Int
def mB(m:Modl)(s:Mst)(d o:AV):AV:=.agg [fslN (m.gs.map Glo.F),fslN (m.fs.map Cod.F),fslN (ints s.input),.int .i64 s.steps,d,o,.int .i64 0,.int .i64 0,.int .i64 s.calls]
def D8(st c:Int):AV:=.iface 68 (.agg [.int .i64 st,.int .i64 c])
theorem s4{K:PK}{n:Nat}{l:List XOp}(h1:(K.tch.all fun i=>decide (n<=i))=false)(h2:(l.all fun o=>!o.careful)=false):u4 n l K=false:=by unfold u4;rw[h1,h2];rfl
theorem Er{n:Int}(h1:-9223372036854775808<=n)(h2:n<=9223372036854775807):IntKind.wrap .i64 n=n:=by
 rw[IntKind.wrap_i64];omega
theorem IM{K:PK}{n:Int}{l:List Int}:z8 (aY env (.slice 3) (some (.int .i64 1)) none none (fslN (ints (n::l)))) K=.val (fslN (ints l)) K:=by
 show z8 ((Gg 1 (ints (n::l)) false (some (.int .i64 1)) none none).map fun y=>match y with | .fsl l _=>AV.fsl l l.isEmpty|y=>y) K=_
 show z8 ((A9 (Nat.ble 1 (lenL (ints (n::l)))&&Nat.ble (lenL (ints (n::l))) (lenL (ints (n::l)))&&Nat.ble (lenL (ints (n::l))) (lenL (ints (n::l)))&&true) (some (AV.fsl (takeL (dropL (ints (n::l)) 1) (Nat.sub (lenL (ints (n::l))) 1)) (false&&Nat.beq (lenL (ints (n::l))) (lenL (ints (n::l))))))).map fun y=>match y with | .fsl l _=>AV.fsl l l.isEmpty|y=>y) K=_
 rw[A5,zkf (show 1<=(ints (n::l)).length by simp),zkf (Nat.le_refl _),G3,G2];show OpS.val (.fsl (((ints (n::l)).drop 1).take ((ints (n::l)).length-1)) (((ints (n::l)).drop 1).take ((ints (n::l)).length-1)).isEmpty) K=_
 rw[zqs (by simp)];rfl
section
variable {m:Modl}{s:Mst}{d o:AV}{rest:List PO}{ext:Nat}{tch:List Nat}
theorem l8(hN:T 38=none)(h:1<=s.steps)(hs:s.steps<=20000):evP ⟨env,T,A1⟩ (.call 38 [.ptr 0 0 0] ⟨(.row 1 [mB m s d o] 9::rest),ext,tch⟩)=some (.val [] ⟨.row 1 [mB m {s with steps:=s.steps-1} d o] 9::rest,ext,[0]++tch⟩):=by
 have hq:¬s.steps<1:=by omega
 rw[Gc hN rfl];rw[A3 (c:=ES) (nt:=16) (rs:=[]) rfl (by simp)];unfold ES;unfold mB;have hw:=Er (n:=s.steps-1) (by omega) (by omega);simp -implicitDefEqProofs only[hq,hw,Wz,XP,seval]
theorem lE(hN:T 38=none)(h:¬1<=s.steps):evP ⟨env,T,A1⟩ (.call 38 [.ptr 0 0 0] ⟨(.row 1 [mB m s d o] 9::rest),ext,tch⟩)=some (.pan (D8 3 0) ⟨(.row 1 [mB m s d o] 9::rest),ext,tch⟩):=by
 have hq:s.steps<1:=by omega
 rw[Gc hN rfl];rw[A3 (c:=ES) (nt:=16) (rs:=[]) rfl (by simp)];unfold ES;unfold mB D8;simp -implicitDefEqProofs only[eq_true hq,Wz,XP,seval]
theorem wV(hN:T 37=none){K:PK}:evP ⟨env,T,A1⟩ (.call 37 [.int .i64 0] K)=some (.val [] K):=by
 rw[Gc hN rfl];rw[A3 (c:=ER) (nt:=7) (rs:=[]) rfl (by simp)];unfold ER;simp -implicitDefEqProofs only[Wz,XP,seval]
theorem Pk(hN:T 37=none){K:PK}{t:Int}(h:¬t=0):evP ⟨env,T,A1⟩ (.call 37 [.int .i64 t] K)=some (.pan (D8 2 t) K):=by
 rw[Gc hN rfl];rw[A3 (c:=ER) (nt:=7) (rs:=[]) rfl (by simp)];unfold ER;unfold D8;simp -implicitDefEqProofs only[h,Wz,XP,seval]
theorem CD(hN:T 51=none)(h:s.input=[]):evP ⟨env,T,A1⟩ (.call 51 [.ptr 0 0 0] ⟨(.row 1 [mB m s d o] 9::rest),ext,tch⟩)=some (.val [.int .i64 0] ⟨(.row 1 [mB m s d o] 9::rest),ext,tch⟩):=by
 rw[Gc hN rfl];rw[A3 (c:=ET) (nt:=25) (rs:=[.tmp 2]) rfl (by simp)];unfold ET;unfold mB;have hl0:decide (((ints []).length:Int)=0)=true:=rfl;simp -implicitDefEqProofs only[h,hl0,Wz,XP,seval]
theorem CE(hN:T 51=none){n:Int}{l:List Int}(h:s.input=n::l):evP ⟨env,T,A1⟩ (.call 51 [.ptr 0 0 0] ⟨(.row 1 [mB m s d o] 9::rest),ext,tch⟩)=some (.val [.int .i64 n] ⟨.row 1 [mB m {s with input:=l} d o] 9::rest,ext,[0]++tch⟩):=by
 rw[Gc hN rfl];rw[A3 (c:=ET) (nt:=25) (rs:=[.tmp 2]) rfl (by simp)];unfold ET;unfold mB;have hl0:decide (((ints (n::l)).length:Int)=0)=false:=by simp;omega
 have hi:Hs ty3 (fslN (ints (n::l))) (.int .i64 0)=some (.fptr (.int .i64 n) 0):=ix_fslN (i:=0) rfl rfl;simp -implicitDefEqProofs only[h,hl0,hi,IM,Wz,XP,seval]
end
abbrev at'(l:List Int)(i:Int):Int:=l.getD i.toNat 0
abbrev put'(l:List Int)(i v:Int):List Int:=l.set i.toNat v
theorem L9{r:List Int}{d:Nat}{v:Int}:(ints r).set d (.int .i64 v)=ints (r.set d v):=by
 rw[ints,ints,List.map_set]
def rowO(l:List Int):AV:=ownd 0 1 (ints l)
theorem eI{l:List (List Int)}{i:Nat}{v:List Int}:(l.map rowO).set i (ownd 0 1 (ints v))=(l.set i v).map rowO:=by rw[List.map_set];rfl
theorem Au{l:List (List Int)}{i:Nat}(h:i<l.length):(l.map rowO)[i]?=some (ownd 0 1 (ints l[i])):=by rw[zqj,zqd h];rfl
theorem thereD_iff{a n:Int}:thereD a n=true↔0<=a/\a<n:=by unfold thereD;simp
theorem sS(k sz o:Nat)(es:List AV)(c:AV):putCl (ownd k sz es) o c=c:=rfl
theorem sT{l:List Int}{v:Int}:ints l++[.int .i64 v]=ints (l++[v]):=by simp[ints]
theorem gD{l:List Int}{i:Nat}(h:i<l.length):l.getD i 0=l[i]:=by simp[zqn,h]
theorem EY{l:List (List Int)}{i:Nat}(h:i<l.length):l.getD i []=l[i]:=by simp[zqn,h]
theorem AG{l:List Glo}{i:Nat}{g:Glo}(h:i<l.length):l.getD i g=l[i]:=by simp[zqn,h]
def dA(f:Bool)(i:Nat)(s:Mst):AV:=match f with|true=>.msl i 0 s.data.length 1|false=>.nilsl
def dR(f:Bool)(s:Mst):List PO:=match f with|true=>[.row 0 (s.data.map rowO) 1]|false=>[]
def oA(f n:Bool)(i:Nat)(o:List Int):AV:=match f,n with|false,false=>.nilsl|false,true=>.msl i 0 o.length 1|true,false=>.msl i 0 o.length 1|true,true=>.msl (i+1) 0 o.length 1
def oR(f n:Bool)(o:List Int):List PO:=match f,n with|false,false=>[]|false,true=>[.row 0 (ints o) 1]|true,false=>[.row 0 (ints o) 1]|true,true=>[.dead,.row 0 (ints o) 1]
def nB(f:Bool):Nat:=match f with|true=>1|false=>0
def j9(fd fo n:Bool)(m:Modl)(s:Mst)(r:List Int):List PO:=.row 1 [mB m s (dA fd 2 s) (oA fo n (2+nB fd) s.out)] 9::.row 0 (ints r) 1::(dR fd s++oR fo n s.out)
def gAt(m:Modl)(i:Int):Glo:=m.gs.getD i.toNat ⟨[],0,0,0⟩
def dAt(s:Mst)(i:Int):List Int:=s.data.getD i.toNat []
def doesI(m:Modl)(x:Ins)(r:List Int)(s:Mst):Int×Mst×List Int:=
 if x.op=1 then(0,s,put' r x.dst x.n)
 else if x.op=2 then(0,s,put' r x.dst (at' r x.a))
 else if x.op=3 then(if(X0 x.ty x.s (at' r x.a) (at' r x.b)).2=0 then(0,s,put' r x.dst (X0 x.ty x.s (at' r x.a) (at' r x.b)).1)else((X0 x.ty x.s (at' r x.a) (at' r x.b)).2,s,r))
 else if x.op=4 then(0,s,put' r x.dst (wrapD x.ty (at' r x.a)))
 else if x.op=5 then(if thereD (at' r x.a) (gAt m x.n).size=true then(0,s,put' r x.dst (at' (dAt s x.n) (at' r x.a)))else(3,s,r))
 else if x.op=6 then(if thereD (at' r x.a) (gAt m x.n).size=true then(0,{s with data:=s.data.set x.n.toNat (put' (dAt s x.n) (at' r x.a) (wrapD (gAt m x.n).ty (at' r x.b)))},r)else(3,s,r))
 else if x.op=7 then(0,s,put' r x.dst (at' (dAt s x.n) 0))
 else if x.op=8 then(0,{s with data:=s.data.set x.n.toNat (put' (dAt s x.n) 0 (at' r x.a))},r)
 else if x.op=10 then(0,{s with input:=s.input.tail},put' r x.dst (s.input.headD 0))
 else if x.op=11 then(0,{s with out:=s.out++[at' r x.a]},r)
 else(0,s,r)
structure InsOk(m:Modl)(x:Ins)(r:List Int)(s:Mst):Prop where
 dst:x.op=1\/x.op=2\/x.op=3\/x.op=4\/x.op=5\/x.op=7\/x.op=10->0<=x.dst/\x.dst<r.length
 a:x.op=2\/x.op=3\/x.op=4\/x.op=5\/x.op=6\/x.op=8\/x.op=11->0<=x.a/\x.a<r.length
 b:x.op=3\/x.op=6->0<=x.b/\x.b<r.length
 n:x.op=5\/x.op=6\/x.op=7\/x.op=8->0<=x.n/\x.n<m.gs.length
 d:s.data.length=m.gs.length/\∀(i:Nat) l g,s.data[i]?=some l->m.gs[i]?=some g->(l.length:Int)=max g.size 1
section
variable {m:Modl}{s:Mst}{fd fo:Bool}{r:List Int}{x:Ins}
theorem WN(h:x.op=1)(ho:InsOk m x r s)(hd0:fd=false->s.data=[])(hol:s.out.length<=30000):∃tch,evP ⟨env,T,A1⟩ (.body 40 [.ptr 0 0 0,x.F,.msl 1 0 r.length 1] ⟨j9 fd fo false m s r,2+nB fd+nB fo,[]⟩)=some (.val [] ⟨j9 fd fo false m s (put' r x.dst x.n),2+nB fd+nB fo,tch⟩):=by
 obtain⟨d,hd,hd2⟩:∃d:Nat,x.dst=d/\d<r.length:=by have:=ho.dst (by omega);exact⟨x.dst.toNat,by omega,by omega⟩
 rw [A3 (c:=Ft) (nt:=173) (rs:=[]) rfl (by simp)];unfold Ft;unfold S1 S0 j7 j9 mB Ins.F;cases fd<;>cases fo<;>(
  simp only[dA,dR,oA,oR,nB,put',at',hd];simp -implicitDefEqProofs only[eq_true h,A8 hd2,hd2,L9,zqy,XP,seval];exact⟨_,rfl⟩)
theorem WO(h:x.op=2)(ho:InsOk m x r s)(hd0:fd=false->s.data=[])(hol:s.out.length<=30000):∃tch,evP ⟨env,T,A1⟩ (.body 40 [.ptr 0 0 0,x.F,.msl 1 0 r.length 1] ⟨j9 fd fo false m s r,2+nB fd+nB fo,[]⟩)=some (.val [] ⟨j9 fd fo false m s (put' r x.dst (at' r x.a)),2+nB fd+nB fo,tch⟩):=by
 obtain⟨d,hd,hd2⟩:∃d:Nat,x.dst=d/\d<r.length:=by have:=ho.dst (by omega);exact⟨x.dst.toNat,by omega,by omega⟩
 obtain⟨a,ha,ha2⟩:∃a:Nat,x.a=a/\a<r.length:=by have:=ho.a (by omega);exact⟨x.a.toNat,by omega,by omega⟩
 rw [A3 (c:=Ft) (nt:=173) (rs:=[]) rfl (by simp)];unfold Ft;unfold S1 S0 j7 o6 j9 mB Ins.F;cases fd<;>cases fo<;>(
  simp only[dA,dR,oA,oR,nB,put',at',hd,ha];simp -implicitDefEqProofs only[eq_true h,(show ¬x.op=1 by omega),A8 hd2,hd2,A8 ha2,ha2,gD ha2,L9,zqy,XP,seval];exact⟨_,rfl⟩)
theorem WP(hB:T 48=some V2)(hN:T 37=none)(h:x.op=3)(ho:InsOk m x r s)(hd0:fd=false->s.data=[])(hol:s.out.length<=30000)(hv:(X0 x.ty x.s (at' r x.a) (at' r x.b)).2=0):∃tch,evP ⟨env,T,A1⟩ (.body 40 [.ptr 0 0 0,x.F,.msl 1 0 r.length 1] ⟨j9 fd fo false m s r,2+nB fd+nB fo,[]⟩)=some (.val [] ⟨j9 fd fo false m s (put' r x.dst (X0 x.ty x.s (at' r x.a) (at' r x.b)).1),2+nB fd+nB fo,tch⟩):=by
 obtain⟨d,hd,hd2⟩:∃d:Nat,x.dst=d/\d<r.length:=by have:=ho.dst (by omega);exact⟨x.dst.toNat,by omega,by omega⟩
 obtain⟨a,ha,ha2⟩:∃a:Nat,x.a=a/\a<r.length:=by have:=ho.a (by omega);exact⟨x.a.toNat,by omega,by omega⟩
 obtain⟨b,hb,hb2⟩:∃b:Nat,x.b=b/\b<r.length:=by have:=ho.b (by omega);exact⟨x.b.toNat,by omega,by omega⟩
 have tb:=fun K=>Wy (K:=K) (t:=x.ty) (op:=x.s) (a:=r[a]) (b:=r[b]) hB
 rw [at',at',ha,hb,zqy,zqy,gD ha2,gD hb2]at hv;rw[hv]at tb;rw[A3 (c:=Ft) (nt:=173) (rs:=[]) rfl (by simp)];unfold Ft;unfold S1 S0 j7 o6 y4 j9 mB Ins.F;cases fd<;>cases fo<;>(
  simp only[dA,dR,oA,oR,nB,put',at',hd,ha,hb];simp -implicitDefEqProofs only[eq_true h,(show ¬x.op=1 by omega),(show ¬x.op=2 by omega),A8 hd2,hd2,A8 ha2,ha2,gD ha2,A8 hb2,hb2,gD hb2,L9,tb,wV hN,zqy,XP,seval];exact⟨_,rfl⟩)
theorem IN(hB:T 48=some V2)(hN:T 37=none)(h:x.op=3)(ho:InsOk m x r s)(hd0:fd=false->s.data=[])(hol:s.out.length<=30000)(hv:¬(X0 x.ty x.s (at' r x.a) (at' r x.b)).2=0):∃tch,evP ⟨env,T,A1⟩ (.body 40 [.ptr 0 0 0,x.F,.msl 1 0 r.length 1] ⟨j9 fd fo false m s r,2+nB fd+nB fo,[]⟩)=some (.pan (D8 2 (X0 x.ty x.s (at' r x.a) (at' r x.b)).2) ⟨j9 fd fo false m s r,2+nB fd+nB fo,tch⟩):=by
 obtain⟨d,hd,hd2⟩:∃d:Nat,x.dst=d/\d<r.length:=by have:=ho.dst (by omega);exact⟨x.dst.toNat,by omega,by omega⟩
 obtain⟨a,ha,ha2⟩:∃a:Nat,x.a=a/\a<r.length:=by have:=ho.a (by omega);exact⟨x.a.toNat,by omega,by omega⟩
 obtain⟨b,hb,hb2⟩:∃b:Nat,x.b=b/\b<r.length:=by have:=ho.b (by omega);exact⟨x.b.toNat,by omega,by omega⟩
 have tb:=fun K=>Wy (K:=K) (t:=x.ty) (op:=x.s) (a:=r[a]) (b:=r[b]) hB
 rw [at',at',ha,hb,zqy,zqy,gD ha2,gD hb2]at hv;rw[A3 (c:=Ft) (nt:=173) (rs:=[]) rfl (by simp)];unfold Ft;unfold S1 S0 j7 o6 y4 j9 mB Ins.F;cases fd<;>cases fo<;>(
  simp only[dA,dR,oA,oR,nB,put',at',hd,ha,hb];simp -implicitDefEqProofs only[eq_true h,(show ¬x.op=1 by omega),(show ¬x.op=2 by omega),A8 hd2,hd2,A8 ha2,ha2,gD ha2,A8 hb2,hb2,gD hb2,L9,tb,fun K=>Pk (K:=K) hN hv,zqy,XP,seval];exact⟨_,rfl⟩)
theorem WQ(hW:T 49=some F2)(h:x.op=4)(ho:InsOk m x r s)(hd0:fd=false->s.data=[])(hol:s.out.length<=30000):∃tch,evP ⟨env,T,A1⟩ (.body 40 [.ptr 0 0 0,x.F,.msl 1 0 r.length 1] ⟨j9 fd fo false m s r,2+nB fd+nB fo,[]⟩)=some (.val [] ⟨j9 fd fo false m s (put' r x.dst (wrapD x.ty (at' r x.a))),2+nB fd+nB fo,tch⟩):=by
 obtain⟨d,hd,hd2⟩:∃d:Nat,x.dst=d/\d<r.length:=by have:=ho.dst (by omega);exact⟨x.dst.toNat,by omega,by omega⟩
 obtain⟨a,ha,ha2⟩:∃a:Nat,x.a=a/\a<r.length:=by have:=ho.a (by omega);exact⟨x.a.toNat,by omega,by omega⟩
 have tw:=fun K=>Bs (K:=K) (t:=x.ty) (v:=r[a]) hW
 rw [A3 (c:=Ft) (nt:=173) (rs:=[]) rfl (by simp)];unfold Ft;unfold S1 S0 j7 o6 y4 Cc j9 mB Ins.F;cases fd<;>cases fo<;>(
  simp only[dA,dR,oA,oR,nB,put',at',hd,ha];simp -implicitDefEqProofs only[eq_true h,(show ¬x.op=1 by omega),(show ¬x.op=2 by omega),(show ¬x.op=3 by omega),A8 hd2,hd2,A8 ha2,ha2,gD ha2,L9,tw,zqy,XP,seval];exact⟨_,rfl⟩)
theorem Zy(hE:T 50=none)(a b c:AV)(K:PK):evP ⟨env,T,A1⟩ (.call 50 [a,b,c] K)=vV K (Nr env [.tmp 6] (evP ⟨env,T,A1⟩ (.code AC (enterP 0 [a,b,c]) ⟨K.os,K.os.length,[]⟩))):=by
 rw[Gc hE rfl,A3 (c:=AC) (nt:=29) (rs:=[.tmp 6]) rfl (by simp)]
theorem WR(hE:T 50=none)(hN:T 37=none)(hT:T 46=some D4)(h:x.op=5)(ho:InsOk m x r s)(hd0:fd=false->s.data=[])(hol:s.out.length<=30000)(hv:thereD (at' r x.a) (gAt m x.n).size=true):∃tch,evP ⟨env,T,A1⟩ (.body 40 [.ptr 0 0 0,x.F,.msl 1 0 r.length 1] ⟨j9 fd fo false m s r,2+nB fd+nB fo,[]⟩)=some (.val [] ⟨j9 fd fo false m s (put' r x.dst (at' (dAt s x.n) (at' r x.a))),2+nB fd+nB fo,tch⟩):=by
 obtain⟨d,hd,hd2⟩:∃d:Nat,x.dst=d/\d<r.length:=by have:=ho.dst (by omega);exact⟨x.dst.toNat,by omega,by omega⟩
 obtain⟨a,ha,ha2⟩:∃a:Nat,x.a=a/\a<r.length:=by have:=ho.a (by omega);exact⟨x.a.toNat,by omega,by omega⟩
 obtain⟨n,hn,hn2⟩:∃n:Nat,x.n=n/\n<m.gs.length:=by have:=ho.n (by omega);exact⟨x.n.toNat,by omega,by omega⟩
 have hn3:n<s.data.length:=by have:=ho.d.1;omega
 have hfd:fd=true:=by cases fd with|true=>rfl|false=>have:=hd0 rfl;rw[this]at hn3;simp at hn3
 subst hfd;have hlen:=ho.d.2 n _ _ (zqd hn3) (zqd hn2);have hg:=A6 (F:=Glo.F) hn2;simp only[Glo.F]at hg;rw[at',gAt,ha,hn,zqy,zqy,gD ha2,AG hn2]at hv;obtain⟨e,he,he2⟩:∃e:Nat,r[a]=e/\e<s.data[n].length:=by have:=thereD_iff.1 hv;exact⟨r[a].toNat,by omega,by omega⟩
 have tt:=fun K=>O0 (K:=K) (a:=(e:Int)) (n:=m.gs[n].size) hT
 rw [he]at hv;rw[hv]at tt;rw[A3 (c:=Ft) (nt:=173) (rs:=[]) rfl (by simp)];unfold Ft;unfold S1 S0 j7 o6 y4 Cc Dm j9 mB Ins.F;cases fo<;>(
  simp only[dA,dR,oA,oR,nB,put',at',hd,ha,hn];simp -implicitDefEqProofs only[eq_true h,(show ¬x.op=1 by omega),(show ¬x.op=2 by omega),(show ¬x.op=3 by omega),(show ¬x.op=4 by omega),A8 ha2,ha2,gD ha2,gAt,dAt,AG hn2,EY hn3,hg,Au hn3,hn3,tt,Zy hE,AC,zqa,A8 hd2,hd2,L9,he,A8 he2,he2,gD he2,zqy,XP,seval];exact⟨_,rfl⟩)
theorem IP(hE:T 50=none)(hN:T 37=none)(hT:T 46=some D4)(h:x.op=5)(ho:InsOk m x r s)(hd0:fd=false->s.data=[])(hol:s.out.length<=30000)(hv:¬thereD (at' r x.a) (gAt m x.n).size=true):∃tch,evP ⟨env,T,A1⟩ (.body 40 [.ptr 0 0 0,x.F,.msl 1 0 r.length 1] ⟨j9 fd fo false m s r,2+nB fd+nB fo,[]⟩)=some (.pan (D8 2 3) ⟨j9 fd fo false m s r,2+nB fd+nB fo,tch⟩):=by
 obtain⟨d,hd,hd2⟩:∃d:Nat,x.dst=d/\d<r.length:=by have:=ho.dst (by omega);exact⟨x.dst.toNat,by omega,by omega⟩
 obtain⟨a,ha,ha2⟩:∃a:Nat,x.a=a/\a<r.length:=by have:=ho.a (by omega);exact⟨x.a.toNat,by omega,by omega⟩
 obtain⟨n,hn,hn2⟩:∃n:Nat,x.n=n/\n<m.gs.length:=by have:=ho.n (by omega);exact⟨x.n.toNat,by omega,by omega⟩
 have hn3:n<s.data.length:=by have:=ho.d.1;omega
 have hfd:fd=true:=by cases fd with|true=>rfl|false=>have:=hd0 rfl;rw[this]at hn3;simp at hn3
 subst hfd;have hlen:=ho.d.2 n _ _ (zqd hn3) (zqd hn2);have hg:=A6 (F:=Glo.F) hn2;simp only[Glo.F]at hg;rw[at',gAt,ha,hn,zqy,zqy,gD ha2,AG hn2]at hv;have tt:=fun K=>O0 (K:=K) (a:=r[a]) (n:=m.gs[n].size) hT
 rw [zke.2 hv]at tt;rw[A3 (c:=Ft) (nt:=173) (rs:=[]) rfl (by simp)];unfold Ft;unfold S1 S0 j7 o6 y4 Cc Dm j9 mB Ins.F;cases fo<;>(
  simp only[dA,dR,oA,oR,nB,put',at',hd,ha,hn];simp -implicitDefEqProofs only[eq_true h,(show ¬x.op=1 by omega),(show ¬x.op=2 by omega),(show ¬x.op=3 by omega),(show ¬x.op=4 by omega),A8 ha2,ha2,gD ha2,gAt,dAt,AG hn2,EY hn3,hg,Au hn3,hn3,tt,Zy hE,AC,zqa,A8 hd2,hd2,L9,fun K=>Pk (K:=K) hN (t:=3) (by decide),zqy,XP,seval];exact⟨_,rfl⟩)
theorem WS(hE:T 50=none)(hN:T 37=none)(hT:T 46=some D4)(hW:T 49=some F2)(h:x.op=6)(ho:InsOk m x r s)(hd0:fd=false->s.data=[])(hol:s.out.length<=30000)(hv:thereD (at' r x.a) (gAt m x.n).size=true):∃tch,evP ⟨env,T,A1⟩ (.body 40 [.ptr 0 0 0,x.F,.msl 1 0 r.length 1] ⟨j9 fd fo false m s r,2+nB fd+nB fo,[]⟩)=some (.val [] ⟨j9 fd fo false m {s with data:=s.data.set x.n.toNat (put' (dAt s x.n) (at' r x.a) (wrapD (gAt m x.n).ty (at' r x.b)))} r,2+nB fd+nB fo,tch⟩):=by
 obtain⟨a,ha,ha2⟩:∃a:Nat,x.a=a/\a<r.length:=by have:=ho.a (by omega);exact⟨x.a.toNat,by omega,by omega⟩
 obtain⟨b,hb,hb2⟩:∃b:Nat,x.b=b/\b<r.length:=by have:=ho.b (by omega);exact⟨x.b.toNat,by omega,by omega⟩
 obtain⟨n,hn,hn2⟩:∃n:Nat,x.n=n/\n<m.gs.length:=by have:=ho.n (by omega);exact⟨x.n.toNat,by omega,by omega⟩
 have hn3:n<s.data.length:=by have:=ho.d.1;omega
 have hfd:fd=true:=by cases fd with|true=>rfl|false=>have:=hd0 rfl;rw[this]at hn3;simp at hn3
 subst hfd;have hlen:=ho.d.2 n _ _ (zqd hn3) (zqd hn2);have hg:=A6 (F:=Glo.F) hn2;simp only[Glo.F]at hg;rw[at',gAt,ha,hn,zqy,zqy,gD ha2,AG hn2]at hv;obtain⟨e,he,he2⟩:∃e:Nat,r[a]=e/\e<s.data[n].length:=by have:=thereD_iff.1 hv;exact⟨r[a].toNat,by omega,by omega⟩
 have tt:=fun K=>O0 (K:=K) (a:=(e:Int)) (n:=m.gs[n].size) hT
 rw[he]at hv;rw[hv]at tt;have tw:=fun K=>Bs (K:=K) (t:=m.gs[n].ty) (v:=r[b]) hW
 rw [A3 (c:=Ft) (nt:=173) (rs:=[]) rfl (by simp)];unfold Ft;unfold S1 S0 j7 o6 y4 Cc Dm Jc j9 mB Ins.F;cases fo<;>(
  simp only[dA,dR,oA,oR,nB,put',at',ha,hb,hn];simp -implicitDefEqProofs only[eq_true h,(show ¬x.op=1 by omega),(show ¬x.op=2 by omega),(show ¬x.op=3 by omega),(show ¬x.op=4 by omega),(show ¬x.op=5 by omega),A8 ha2,ha2,gD ha2,gAt,dAt,AG hn2,EY hn3,hg,Au hn3,hn3,tt,Zy hE,AC,zqa,A8 hb2,hb2,gD hb2,tw,eI,sS,L9,he,A8 he2,he2,gD he2,zqt,zqy,XP,seval];exact⟨_,rfl⟩)
theorem IQ(hE:T 50=none)(hN:T 37=none)(hT:T 46=some D4)(hW:T 49=some F2)(h:x.op=6)(ho:InsOk m x r s)(hd0:fd=false->s.data=[])(hol:s.out.length<=30000)(hv:¬thereD (at' r x.a) (gAt m x.n).size=true):∃tch,evP ⟨env,T,A1⟩ (.body 40 [.ptr 0 0 0,x.F,.msl 1 0 r.length 1] ⟨j9 fd fo false m s r,2+nB fd+nB fo,[]⟩)=some (.pan (D8 2 3) ⟨j9 fd fo false m s r,2+nB fd+nB fo,tch⟩):=by
 obtain⟨a,ha,ha2⟩:∃a:Nat,x.a=a/\a<r.length:=by have:=ho.a (by omega);exact⟨x.a.toNat,by omega,by omega⟩
 obtain⟨b,hb,hb2⟩:∃b:Nat,x.b=b/\b<r.length:=by have:=ho.b (by omega);exact⟨x.b.toNat,by omega,by omega⟩
 obtain⟨n,hn,hn2⟩:∃n:Nat,x.n=n/\n<m.gs.length:=by have:=ho.n (by omega);exact⟨x.n.toNat,by omega,by omega⟩
 have hn3:n<s.data.length:=by have:=ho.d.1;omega
 have hfd:fd=true:=by cases fd with|true=>rfl|false=>have:=hd0 rfl;rw[this]at hn3;simp at hn3
 subst hfd;have hlen:=ho.d.2 n _ _ (zqd hn3) (zqd hn2);have hg:=A6 (F:=Glo.F) hn2;simp only[Glo.F]at hg;rw[at',gAt,ha,hn,zqy,zqy,gD ha2,AG hn2]at hv;have tt:=fun K=>O0 (K:=K) (a:=r[a]) (n:=m.gs[n].size) hT
 rw[zke.2 hv]at tt;have tw:=fun K=>Bs (K:=K) (t:=m.gs[n].ty) (v:=r[b]) hW
 rw [A3 (c:=Ft) (nt:=173) (rs:=[]) rfl (by simp)];unfold Ft;unfold S1 S0 j7 o6 y4 Cc Dm Jc j9 mB Ins.F;cases fo<;>(
  simp only[dA,dR,oA,oR,nB,put',at',ha,hb,hn];simp -implicitDefEqProofs only[eq_true h,(show ¬x.op=1 by omega),(show ¬x.op=2 by omega),(show ¬x.op=3 by omega),(show ¬x.op=4 by omega),(show ¬x.op=5 by omega),A8 ha2,ha2,gD ha2,gAt,dAt,AG hn2,EY hn3,hg,Au hn3,hn3,tt,Zy hE,AC,zqa,A8 hb2,hb2,gD hb2,tw,fun K=>Pk (K:=K) hN (t:=3) (by decide),zqy,XP,seval];exact⟨_,rfl⟩)
theorem WT(h:x.op=7)(ho:InsOk m x r s)(hd0:fd=false->s.data=[])(hol:s.out.length<=30000):∃tch,evP ⟨env,T,A1⟩ (.body 40 [.ptr 0 0 0,x.F,.msl 1 0 r.length 1] ⟨j9 fd fo false m s r,2+nB fd+nB fo,[]⟩)=some (.val [] ⟨j9 fd fo false m s (put' r x.dst (at' (dAt s x.n) 0)),2+nB fd+nB fo,tch⟩):=by
 obtain⟨d,hd,hd2⟩:∃d:Nat,x.dst=d/\d<r.length:=by have:=ho.dst (by omega);exact⟨x.dst.toNat,by omega,by omega⟩
 obtain⟨n,hn,hn2⟩:∃n:Nat,x.n=n/\n<m.gs.length:=by have:=ho.n (by omega);exact⟨x.n.toNat,by omega,by omega⟩
 have hn3:n<s.data.length:=by have:=ho.d.1;omega
 have hfd:fd=true:=by cases fd with|true=>rfl|false=>have:=hd0 rfl;rw[this]at hn3;simp at hn3
 subst hfd;have hlen:=ho.d.2 n _ _ (zqd hn3) (zqd hn2);have h0:0<s.data[n].length:=by omega
 have z1:∀i,Hs ty3 (.msl i 0 s.data[n].length 1) (.int .i64 0)=some (.ptr i 0 0):=fun i=>by have:=ix_msl (te:=ty3) (k:=.i64) (id:=i) (off:=0) (i:=0) (n:=s.data[n].length) (sz:=1) h0 rfl;simpa using this
 rw [A3 (c:=Ft) (nt:=173) (rs:=[]) rfl (by simp)];unfold Ft;unfold S1 S0 j7 o6 y4 Cc Dm Jc Rq j9 mB Ins.F;cases fo<;>(
  simp only[dA,dR,oA,oR,nB,put',at',hd,hn];simp -implicitDefEqProofs only[eq_true h,(show ¬x.op=1 by omega),(show ¬x.op=2 by omega),(show ¬x.op=3 by omega),(show ¬x.op=4 by omega),(show ¬x.op=5 by omega),(show ¬x.op=6 by omega),A8 hd2,hd2,L9,gD h0,dAt,EY hn3,Au hn3,hn3,zqa,A8 h0,h0,Int.toNat_zero,z1,zqy,XP,seval];exact⟨_,rfl⟩)
theorem WU(h:x.op=8)(ho:InsOk m x r s)(hd0:fd=false->s.data=[])(hol:s.out.length<=30000):∃tch,evP ⟨env,T,A1⟩ (.body 40 [.ptr 0 0 0,x.F,.msl 1 0 r.length 1] ⟨j9 fd fo false m s r,2+nB fd+nB fo,[]⟩)=some (.val [] ⟨j9 fd fo false m {s with data:=s.data.set x.n.toNat (put' (dAt s x.n) 0 (at' r x.a))} r,2+nB fd+nB fo,tch⟩):=by
 obtain⟨a,ha,ha2⟩:∃a:Nat,x.a=a/\a<r.length:=by have:=ho.a (by omega);exact⟨x.a.toNat,by omega,by omega⟩
 obtain⟨n,hn,hn2⟩:∃n:Nat,x.n=n/\n<m.gs.length:=by have:=ho.n (by omega);exact⟨x.n.toNat,by omega,by omega⟩
 have hn3:n<s.data.length:=by have:=ho.d.1;omega
 have hfd:fd=true:=by cases fd with|true=>rfl|false=>have:=hd0 rfl;rw[this]at hn3;simp at hn3
 subst hfd;have hlen:=ho.d.2 n _ _ (zqd hn3) (zqd hn2);have h0:0<s.data[n].length:=by omega
 have z1:∀i,Hs ty3 (.msl i 0 s.data[n].length 1) (.int .i64 0)=some (.ptr i 0 0):=fun i=>by have:=ix_msl (te:=ty3) (k:=.i64) (id:=i) (off:=0) (i:=0) (n:=s.data[n].length) (sz:=1) h0 rfl;simpa using this
 rw [A3 (c:=Ft) (nt:=173) (rs:=[]) rfl (by simp)];unfold Ft;unfold S1 S0 j7 o6 y4 Cc Dm Jc Rq Ws j9 mB Ins.F;cases fo<;>(
  simp only[dA,dR,oA,oR,nB,put',at',ha,hn];simp -implicitDefEqProofs only[eq_true h,(show ¬x.op=1 by omega),(show ¬x.op=2 by omega),(show ¬x.op=3 by omega),(show ¬x.op=4 by omega),(show ¬x.op=5 by omega),(show ¬x.op=6 by omega),(show ¬x.op=7 by omega),A8 ha2,ha2,gD ha2,L9,eI,sS,zqt,gD h0,dAt,EY hn3,Au hn3,hn3,zqa,A8 h0,h0,Int.toNat_zero,z1,zqy,XP,seval];exact⟨_,rfl⟩)
theorem CF(hX:T 51=none)(h:x.op=10)(ho:InsOk m x r s)(hd0:fd=false->s.data=[])(hol:s.out.length<=30000)(hi:s.input=[]):∃tch,evP ⟨env,T,A1⟩ (.body 40 [.ptr 0 0 0,x.F,.msl 1 0 r.length 1] ⟨j9 fd fo false m s r,2+nB fd+nB fo,[]⟩)=some (.val [] ⟨j9 fd fo false m {s with input:=s.input.tail} (put' r x.dst (s.input.headD 0)),2+nB fd+nB fo,tch⟩):=by
 obtain⟨d,hd,hd2⟩:∃d:Nat,x.dst=d/\d<r.length:=by have:=ho.dst (by omega);exact⟨x.dst.toNat,by omega,by omega⟩
 have nx:=fun d o rest ext tch=>CD (d:=d) (o:=o) (rest:=rest) (ext:=ext) (tch:=tch) (m:=m) hX hi
 unfold mB at nx;simp only[hi]at nx;rw[A3 (c:=Ft) (nt:=173) (rs:=[]) rfl (by simp)];unfold Ft;unfold S1 S0 j7 o6 y4 Cc Dm Jc Rq Ws dN j9 mB Ins.F;cases fd<;>cases fo<;>(
  simp only[dA,dR,oA,oR,nB,put',at',hd];simp -implicitDefEqProofs only[eq_true h,(show ¬x.op=1 by omega),(show ¬x.op=2 by omega),(show ¬x.op=3 by omega),(show ¬x.op=4 by omega),(show ¬x.op=5 by omega),(show ¬x.op=6 by omega),(show ¬x.op=7 by omega),(show ¬x.op=8 by omega),A8 hd2,hd2,L9,s4,zqu,zqv,Nat.reduceBEq,hi,nx,List.tail_cons,List.tail_nil,zqw,List.headD_nil,zqy,XP,seval];exact⟨_,rfl⟩)
theorem IR(hX:T 51=none)(h:x.op=10)(ho:InsOk m x r s)(hd0:fd=false->s.data=[])(hol:s.out.length<=30000){v:Int}{t:List Int}(hi:s.input=v::t):∃tch,evP ⟨env,T,A1⟩ (.body 40 [.ptr 0 0 0,x.F,.msl 1 0 r.length 1] ⟨j9 fd fo false m s r,2+nB fd+nB fo,[]⟩)=some (.val [] ⟨j9 fd fo false m {s with input:=s.input.tail} (put' r x.dst (s.input.headD 0)),2+nB fd+nB fo,tch⟩):=by
 obtain⟨d,hd,hd2⟩:∃d:Nat,x.dst=d/\d<r.length:=by have:=ho.dst (by omega);exact⟨x.dst.toNat,by omega,by omega⟩
 have nx:=fun d o rest ext tch=>CE (d:=d) (o:=o) (rest:=rest) (ext:=ext) (tch:=tch) (m:=m) hX hi
 unfold mB at nx;simp only[hi]at nx;rw[A3 (c:=Ft) (nt:=173) (rs:=[]) rfl (by simp)];unfold Ft;unfold S1 S0 j7 o6 y4 Cc Dm Jc Rq Ws dN j9 mB Ins.F;cases fd<;>cases fo<;>(
  simp only[dA,dR,oA,oR,nB,put',at',hd];simp -implicitDefEqProofs only[eq_true h,(show ¬x.op=1 by omega),(show ¬x.op=2 by omega),(show ¬x.op=3 by omega),(show ¬x.op=4 by omega),(show ¬x.op=5 by omega),(show ¬x.op=6 by omega),(show ¬x.op=7 by omega),(show ¬x.op=8 by omega),A8 hd2,hd2,L9,s4,zqu,zqv,Nat.reduceBEq,hi,nx,List.tail_cons,List.tail_nil,zqw,List.headD_nil,zqy,XP,seval];exact⟨_,rfl⟩)
theorem IS(h:x.op=11)(ho:InsOk m x r s)(hd0:fd=false->s.data=[])(hol:s.out.length<=30000)(hf:fo=true):∃tch,evP ⟨env,T,A1⟩ (.body 40 [.ptr 0 0 0,x.F,.msl 1 0 r.length 1] ⟨j9 fd fo false m s r,2+nB fd+nB fo,[]⟩)=some (.val [] ⟨j9 fd fo true m {s with out:=s.out++[at' r x.a]} r,2+nB fd+nB fo,tch⟩):=by
 obtain⟨a,ha,ha2⟩:∃a:Nat,x.a=a/\a<r.length:=by have:=ho.a (by omega);exact⟨x.a.toNat,by omega,by omega⟩
 have hb:(s.out.length+1)*8<=140737488355328:=by omega
 subst hf;rw[A3 (c:=Ft) (nt:=173) (rs:=[]) rfl (by simp)];unfold Ft;unfold S1 S0 j7 o6 y4 Cc Dm Jc Rq Ws dN rG j9 mB Ins.F;cases fd<;>(
  simp only[dA,dR,oA,oR,nB,put',at',ha];simp -implicitDefEqProofs only[eq_true h,(show ¬x.op=1 by omega),(show ¬x.op=2 by omega),(show ¬x.op=3 by omega),(show ¬x.op=4 by omega),(show ¬x.op=5 by omega),(show ¬x.op=6 by omega),(show ¬x.op=7 by omega),(show ¬x.op=8 by omega),(show ¬x.op=10 by omega),A8 ha2,ha2,gD ha2,zqa,zqx,hb,sT,zqy,XP,seval];exact⟨_,rfl⟩)
theorem CG(h:x.op=11)(ho:InsOk m x r s)(hd0:fd=false->s.data=[])(hol:s.out.length<=30000)(hf:fo=false)(ho0:s.out=[]):∃tch,evP ⟨env,T,A1⟩ (.body 40 [.ptr 0 0 0,x.F,.msl 1 0 r.length 1] ⟨j9 fd fo false m s r,2+nB fd+nB fo,[]⟩)=some (.val [] ⟨j9 fd fo true m {s with out:=s.out++[at' r x.a]} r,2+nB fd+nB fo,tch⟩):=by
 obtain⟨a,ha,ha2⟩:∃a:Nat,x.a=a/\a<r.length:=by have:=ho.a (by omega);exact⟨x.a.toNat,by omega,by omega⟩
 have hb:(s.out.length+1)*8<=140737488355328:=by omega
 subst hf;rw[A3 (c:=Ft) (nt:=173) (rs:=[]) rfl (by simp)];unfold Ft;unfold S1 S0 j7 o6 y4 Cc Dm Jc Rq Ws dN rG j9 mB Ins.F;cases fd<;>(
  simp only[dA,dR,oA,oR,nB,put',at',ha];simp -implicitDefEqProofs only[eq_true h,(show ¬x.op=1 by omega),(show ¬x.op=2 by omega),(show ¬x.op=3 by omega),(show ¬x.op=4 by omega),(show ¬x.op=5 by omega),(show ¬x.op=6 by omega),(show ¬x.op=7 by omega),(show ¬x.op=8 by omega),(show ¬x.op=10 by omega),A8 ha2,ha2,gD ha2,zqa,zqx,hb,ho0,List.map_cons,List.map_nil,zqy,XP,seval];exact⟨_,rfl⟩)
end
end Go.Proofs.AmEnv
set_option maxRecDepth 100000
namespace Go.AM
section
variable {E:Env}{K K1 K' Kf:PK}{ids:List Nat}
theorem Zz{T:Nat->Option (List AV->Option (List AV))}{F:Nat->Option PFn}{f:Nat}{args args':List AV}{v v':AV}(ht:T f=none)(hp:inpOf (F f)=false)(hi:focusIds args K=ids)(ha:renL (posOf ids) args=args')(hk:focusK ids K=Kf)
 (hb:evP ⟨E,T,F⟩ (.body f args' Kf)=some (.pan v K1))(hm:mergeK ids K K1=some K')(hv:F7 (backN ids K.os.length) v=v'):evP ⟨E,T,F⟩ (.call f args K)=some (.pan v' K'):=by
 rw[evP];show(match T f with|some g=>_|none=>_)=_
 rw[ht];dsimp only;show(match inpOf (F f)with|true=>_|false=>_)=_
 rw[hp];dsimp only;rw[hi,ha,hk,hb];show(match mergeK ids K K1 with|some K'=>some (PR.pan (F7 (backN ids K.os.length) v) K')|none=>none)=_
 rw[hm,hv]
theorem Xa{t:Nat}{v:AV}:I4 (.iface t v)=I4 v:=by rw[I4]
theorem Xb{t:Nat}{v:AV}{σ:Nat->Option Nat}:F7 σ (.iface t v)=.iface t (F7 σ v):=by rw[F7]
end
end Go.AM
namespace Go.Proofs.AmEnv
open Go Go.AM
variable {T:Nat->Option (List AV->Option (List AV))}
structure RunT(T:Nat->Option (List AV->Option (List AV))):Prop where
 hB:T 48=some V2
 hW:T 49=some F2
 hN:T 37=none
 hE:T 50=none
 hT:T 46=some D4
 hX:T 51=none
 hS:T 38=none
 hD:T 40=none
 hC:T 39=none
 hL:T 25=none
section
variable {m:Modl}{s:Mst}{fa fd fo n:Bool}{r a:List Int}{x:Ins}
theorem Xc(R:RunT T)(ho:InsOk m x r s)(hop:1<=x.op/\x.op<=11/\x.op≠9)(hd0:fd=false->s.data=[])(hf0:fo=false->s.out=[])(hol:s.out.length<=30000):∃tch,evP ⟨env,T,A1⟩ (.body 40 [.ptr 0 0 0,x.F,.msl 1 0 r.length 1] ⟨j9 fd fo false m s r,2+nB fd+nB fo,[]⟩)=(if(doesI m x r s).1=0 then some (.val [] ⟨j9 fd fo (decide (x.op=11)) m (doesI m x r s).2.1 (doesI m x r s).2.2,2+nB fd+nB fo,tch⟩)else some (.pan (D8 2 (doesI m x r s).1) ⟨j9 fd fo false m s r,2+nB fd+nB fo,tch⟩)):=by
 have hc:x.op=1\/x.op=2\/x.op=3\/x.op=4\/x.op=5\/x.op=6\/x.op=7\/x.op=8\/x.op=10\/x.op=11:=by omega
 rcases hc with h|h|h|h|h|h|h|h|h|h
 . obtain⟨tch,e⟩:=WN (T:=T) h ho hd0 hol;exact⟨tch,by rw[e];simp only[doesI,h,Int.reduceEq,↓reduceIte,decide_true,decide_false]⟩
 . obtain⟨tch,e⟩:=WO (T:=T) h ho hd0 hol;exact⟨tch,by rw[e];simp only[doesI,h,Int.reduceEq,↓reduceIte,decide_true,decide_false]⟩
 . by_cases hv:(X0 x.ty x.s (at' r x.a) (at' r x.b)).2=0
   . obtain⟨tch,e⟩:=WP R.hB R.hN h ho hd0 hol hv;exact⟨tch,by rw[e];simp only[doesI,h,hv,Int.reduceEq,↓reduceIte,decide_true,decide_false,zka]⟩
   . obtain⟨tch,e⟩:=IN R.hB R.hN h ho hd0 hol hv;exact⟨tch,by rw[e];simp only[doesI,h,hv,Int.reduceEq,↓reduceIte,decide_true,decide_false,zka]⟩
 . obtain⟨tch,e⟩:=WQ R.hW h ho hd0 hol;exact⟨tch,by rw[e];simp only[doesI,h,Int.reduceEq,↓reduceIte,decide_true,decide_false]⟩
 . by_cases hv:thereD (at' r x.a) (gAt m x.n).size=true
   . obtain⟨tch,e⟩:=WR R.hE R.hN R.hT h ho hd0 hol hv;exact⟨tch,by rw[e];simp only[doesI,h,hv,Int.reduceEq,↓reduceIte,decide_true,decide_false,zka]⟩
   . obtain⟨tch,e⟩:=IP R.hE R.hN R.hT h ho hd0 hol hv;exact⟨tch,by rw[e];simp only[doesI,h,hv,Int.reduceEq,↓reduceIte,decide_true,decide_false,zka]⟩
 . by_cases hv:thereD (at' r x.a) (gAt m x.n).size=true
   . obtain⟨tch,e⟩:=WS R.hE R.hN R.hT R.hW h ho hd0 hol hv;exact⟨tch,by rw[e];simp only[doesI,h,hv,Int.reduceEq,↓reduceIte,decide_true,decide_false,zka]⟩
   . obtain⟨tch,e⟩:=IQ R.hE R.hN R.hT R.hW h ho hd0 hol hv;exact⟨tch,by rw[e];simp only[doesI,h,hv,Int.reduceEq,↓reduceIte,decide_true,decide_false,zka]⟩
 . obtain⟨tch,e⟩:=WT (T:=T) h ho hd0 hol;exact⟨tch,by rw[e];simp only[doesI,h,Int.reduceEq,↓reduceIte,decide_true,decide_false]⟩
 . obtain⟨tch,e⟩:=WU (T:=T) h ho hd0 hol;exact⟨tch,by rw[e];simp only[doesI,h,Int.reduceEq,↓reduceIte,decide_true,decide_false]⟩
 . cases hi:s.input with
   |nil=>obtain⟨tch,e⟩:=CF R.hX h ho hd0 hol hi;exact⟨tch,by rw[e];simp only[doesI,h,Int.reduceEq,↓reduceIte,decide_true,decide_false]⟩
   |cons v t=>obtain⟨tch,e⟩:=IR R.hX h ho hd0 hol hi;exact⟨tch,by rw[e];simp only[doesI,h,Int.reduceEq,↓reduceIte,decide_true,decide_false]⟩
 . cases hf:fo with
   |true=>obtain⟨tch,e⟩:=IS (T:=T) h ho hd0 hol hf;exact⟨tch,by rw[hf]at e;rw[e];simp only[doesI,h,Int.reduceEq,↓reduceIte,decide_true,decide_false]⟩
   |false=>obtain⟨tch,e⟩:=CG (T:=T) h ho hd0 hol hf (hf0 hf);exact⟨tch,by rw[hf]at e;rw[e];simp only[doesI,h,Int.reduceEq,↓reduceIte,decide_true,decide_false]⟩
def aR(f:Bool)(a:List Int):List PO:=match f with|true=>[.row 0 (ints a) 1]|false=>[]
def E7(fa fd fo n:Bool)(m:Modl)(s:Mst)(a:List Int):List PO:=.row 1 [mB m s (dA fd (1+nB fa) s) (oA fo n (1+nB fa+nB fd) s.out)] 9::(aR fa a++(dR fd s++oR fo n s.out))
end
section
variable {m:Modl}{s:Mst}{fa fd fo n n':Bool}{r a:List Int}{x:Ins}{cs xs:List AV}{cz xz:Nat}
def nE(fa fd fo:Bool):Nat:=1+nB fa+nB fd+nB fo
def dd(f:Bool):List PO:=match f with|true=>[.dead]|false=>[]
def pT(fa fd fo n n':Bool)(m:Modl)(s:Mst)(a:List Int)(j:Nat):List PO:=match n' with
 |false=>E7 fa fd fo n m s a
 |true=>.row 1 [mB m s (dA fd (1+nB fa) s) (.msl j 0 s.out.length 1)] 9::(aR fa a++(dR fd s++(dd fo++dd n)))
def oG(n':Bool)(o:List Int):List PO:=match n' with|false=>[]|true=>[.row 0 (ints o) 1]
def Og(fa fd fo n:Bool)(r:Nat):List Nat:=0::r::((match fd with|true=>[1+nB fa]|false=>[])++(match fo,n with|false,false=>[]|true,false=>[1+nB fa+nB fd]|false,true=>[1+nB fa+nB fd]|true,true=>[2+nB fa+nB fd]))
theorem oN(R:RunT T)(ho:InsOk m x r s)(hop:1<=x.op/\x.op<=11/\x.op≠9)(hd0:fd=false->s.data=[])(hf0:fo=false->n=false->s.out=[])(hol:s.out.length<=30000)(hn:decide (x.op=11)=n')(hv:(doesI m x r s).1=0):
 ∃t1,∀tch,evP ⟨env,T,A1⟩ (.call 40 [.ptr 0 0 0,x.F,.msl (nE fa fd fo+nB n+1) 0 r.length 1] ⟨E7 fa fd fo n m s a++[.row 1 cs cz,.row 0 (ints r) 1,.row 1 xs xz],nE fa fd fo,tch⟩)=some (.val [] ⟨pT fa fd fo n n' m (doesI m x r s).2.1 a (nE fa fd fo+nB n+3)++(.row 1 cs cz::.row 0 (ints (doesI m x r s).2.2) 1::.row 1 xs xz::oG n' (doesI m x r s).2.1.out),nE fa fd fo,t1++tch⟩):=by
 obtain⟨t0,hb⟩:=Xc (T:=T) (fd:=fd) (fo:=fo||n) (m:=m) (s:=s) (r:=r) (x:=x) R ho hop hd0 (by cases fo<;>cases n<;>simp_all) hol;rw[if_pos hv,hn]at hb;refine⟨((t0.filter (· < (Og fa fd fo n (nE fa fd fo+nB n+1)).length)).map fun j=>(Og fa fd fo n (nE fa fd fo+nB n+1)).getD j 0),fun tch=>mH (ids:=Og fa fd fo n (nE fa fd fo+nB n+1)) (args':=[.ptr 0 0 0,x.F,.msl 1 0 r.length 1]) (Kf:=⟨j9 fd (fo||n) false m s r,2+nB fd+nB (fo||n),[]⟩) R.hD rfl ?_ ?_ ?_ hb ?_ ?_⟩<;>cases fa<;>cases fd<;>cases fo<;>cases n<;>cases n'<;>rfl
theorem iT(R:RunT T)(ho:InsOk m x r s)(hop:1<=x.op/\x.op<=11/\x.op≠9)(hd0:fd=false->s.data=[])(hf0:fo=false->n=false->s.out=[])(hol:s.out.length<=30000)(hv:¬(doesI m x r s).1=0):
 ∃t1,∀tch,evP ⟨env,T,A1⟩ (.call 40 [.ptr 0 0 0,x.F,.msl (nE fa fd fo+nB n+1) 0 r.length 1] ⟨E7 fa fd fo n m s a++[.row 1 cs cz,.row 0 (ints r) 1,.row 1 xs xz],nE fa fd fo,tch⟩)=some (.pan (D8 2 (doesI m x r s).1) ⟨E7 fa fd fo n m s a++[.row 1 cs cz,.row 0 (ints r) 1,.row 1 xs xz],nE fa fd fo,t1++tch⟩):=by
 obtain⟨t0,hb⟩:=Xc (T:=T) (fd:=fd) (fo:=fo||n) (m:=m) (s:=s) (r:=r) (x:=x) R ho hop hd0 (by cases fo<;>cases n<;>simp_all) hol;rw[if_neg hv]at hb;refine⟨((t0.filter (· < (Og fa fd fo n (nE fa fd fo+nB n+1)).length)).map fun j=>(Og fa fd fo n (nE fa fd fo+nB n+1)).getD j 0),fun tch=>Zz (ids:=Og fa fd fo n (nE fa fd fo+nB n+1)) (args':=[.ptr 0 0 0,x.F,.msl 1 0 r.length 1]) (Kf:=⟨j9 fd (fo||n) false m s r,2+nB fd+nB (fo||n),[]⟩) R.hD rfl ?_ ?_ ?_ hb ?_ ?_⟩<;>cases fa<;>cases fd<;>cases fo<;>cases n<;>rfl
end
section
variable {m:Modl}{s:Mst}{fa fd fo n:Bool}{r a:List Int}{c:Cod}{l:List Ins}{k:Nat}{at0:Int}{tch:List Nat}
def Pm(c:Cod):PO:=.row 1 [c.F] 5
def msL(fa fd fo n:Bool)(m:Modl)(s:Mst)(a:List Int)(c:Cod)(r:List Int)(tch:List Nat):PK:=⟨E7 fa fd fo n m s a++[Pm c,.row 0 (ints r) 1],nE fa fd fo,tch⟩
def Q3(fa fd fo n:Bool)(r:List Int)(at0:Int):PF:=[(0,.ptr 0 0 0),(7,.ptr (nE fa fd fo+nB n) 0 0),(8,.msl (nE fa fd fo+nB n+1) 0 r.length 1),(9,.int .i64 at0)]
def frI(l:List Ins)(k:Nat):PF:=[(46,fslN (l.map Ins.F)),(47,.int .i64 (l.length:Int)),(48,.int .i64 (k:Int))]
def stp(s:Mst):Mst:={s with steps:=s.steps-1}
theorem IT(R:RunT T)(hk:k<l.length)(hl:l.length<=2000000000000)(h:¬1<=s.steps):
 ∃t1,evP ⟨env,T,A1⟩ (.code W8 (Q3 fa fd fo n r at0++frI l k) (msL fa fd fo n m s a c r tch))=some (.pan (D8 3 0) ⟨E7 fa fd fo n m s a,nE fa fd fo,t1⟩):=by
 have hlt:decide ((k:Int)<(l.length:Int))=true:=by simp[hk]
 have hi:=A6 (F:=Ins.F) hk;have st:=fun d o rest ext tch=>lE (T:=T) (m:=m) (s:=s) (d:=d) (o:=o) (rest:=rest) (ext:=ext) (tch:=tch) R.hS h
 unfold W8 Rm Rl Rk Rj Ri Q3 frI msL E7 Pm;unfold mB at st|-;simp only[Ins.F,Cod.F,D8]at hi st|-;cases fa<;>cases fd<;>cases fo<;>cases n<;>(
  simp only[dA,dR,oA,oR,aR,nB,nE];simp -implicitDefEqProofs only[hlt,hi,st,XP,seval];exact⟨_,rfl⟩)
theorem IU{n':Bool}(R:RunT T)(hk:k<l.length)(hl:l.length<=2000000000000)(h:1<=s.steps)(hs:s.steps<=20000)(hop:1<=l[k].op/\l[k].op<=11/\l[k].op≠9)(ho:InsOk m l[k] r (stp s))(hd0:fd=false->s.data=[])(hf0:fo=false->n=false->s.out=[])(hol:s.out.length<=30000)(hn:decide (l[k].op=11)=n')(hv:(doesI m l[k] r (stp s)).1=0):
 ∃t1,evP ⟨env,T,A1⟩ (.code W8 (Q3 fa fd fo n r at0++frI l k) (msL fa fd fo n m s a c r tch))=some (.ok .normal (Q3 fa fd fo (n||n') r at0++frI l (k+1)) (msL fa fd fo (n||n') m (doesI m l[k] r (stp s)).2.1 a c (doesI m l[k] r (stp s)).2.2 t1)):=by
 have hlt:decide ((k:Int)<(l.length:Int))=true:=by simp[hk]
 have hi:=A6 (F:=Ins.F) hk;have hw:=B2 (i:=k) (by omega);have st:=fun d o rest ext tch=>l8 (T:=T) (m:=m) (s:=s) (d:=d) (o:=o) (rest:=rest) (ext:=ext) (tch:=tch) R.hS h hs
 have h9:(l[k].op=9)=False:=eq_false hop.2.2;have dc:=fun cs cz xs xz=>oN (T:=T) (m:=m) (s:=stp s) (fa:=fa) (fd:=fd) (fo:=fo) (n:=n) (n':=n') (r:=r) (a:=a) (x:=l[k]) (cs:=cs) (cz:=cz) (xs:=xs) (xz:=xz) R ho hop hd0 hf0 hol hn hv
 have hd:=(dc [c.F] 5 [l[k].F] 8).choose_spec;generalize (dc [c.F] 5 [l[k].F] 8).choose=t1 at hd;clear dc;generalize doesI m l[k] r (stp s)=y at hd|-;unfold W8 Rm Rl Rk Rj Ri Q3 frI msL E7 Pm;unfold E7 at hd;unfold mB at st hd|-;simp only[Ins.F,Cod.F,stp]at hi st hd|-;cases fa<;>cases fd<;>cases fo<;>cases n<;>cases n'<;>(
  simp only[dA,dR,oA,oR,aR,nB,nE,pT,oG,dd,E7,mB,Nat.reduceAdd,zqe,zqf,zqg,zkd,zkb]at hd|-;simp -implicitDefEqProofs only[hlt,hi,st,hd,h9,hw,XP,seval];exact⟨_,rfl⟩)
theorem CH(R:RunT T)(hk:k<l.length)(hl:l.length<=2000000000000)(h:1<=s.steps)(hs:s.steps<=20000)(hop:1<=l[k].op/\l[k].op<=11/\l[k].op≠9)(ho:InsOk m l[k] r (stp s))(hd0:fd=false->s.data=[])(hf0:fo=false->n=false->s.out=[])(hol:s.out.length<=30000)(hv:¬(doesI m l[k] r (stp s)).1=0):
 ∃t1,evP ⟨env,T,A1⟩ (.code W8 (Q3 fa fd fo n r at0++frI l k) (msL fa fd fo n m s a c r tch))=some (.pan (D8 2 (doesI m l[k] r (stp s)).1) ⟨E7 fa fd fo n m (stp s) a,nE fa fd fo,t1⟩):=by
 have hlt:decide ((k:Int)<(l.length:Int))=true:=by simp[hk]
 have hi:=A6 (F:=Ins.F) hk;have hw:=B2 (i:=k) (by omega);have st:=fun d o rest ext tch=>l8 (T:=T) (m:=m) (s:=s) (d:=d) (o:=o) (rest:=rest) (ext:=ext) (tch:=tch) R.hS h hs
 have h9:(l[k].op=9)=False:=eq_false hop.2.2;have dc:=fun cs cz xs xz=>iT (T:=T) (m:=m) (s:=stp s) (fa:=fa) (fd:=fd) (fo:=fo) (n:=n) (r:=r) (a:=a) (x:=l[k]) (cs:=cs) (cz:=cz) (xs:=xs) (xz:=xz) R ho hop hd0 hf0 hol hv
 have hd:=(dc [c.F] 5 [l[k].F] 8).choose_spec;generalize (dc [c.F] 5 [l[k].F] 8).choose=t1 at hd;clear dc;generalize doesI m l[k] r (stp s)=y at hd|-;unfold D8 at hd|-;unfold W8 Rm Rl Rk Rj Ri Q3 frI msL E7 Pm;unfold E7 at hd;unfold mB at st hd|-;simp only[Ins.F,Cod.F,stp]at hi st hd|-;cases fa<;>cases fd<;>cases fo<;>cases n<;>(
  simp only[dA,dR,oA,oR,aR,nB,nE,pT,oG,dd,E7,mB,Nat.reduceAdd,zqe,zqf,zqg,zkd,zkb]at hd|-;simp -implicitDefEqProofs only[hlt,hi,st,hd,h9,hw,XP,seval];exact⟨_,rfl⟩)
end
section
variable {m:Modl}{s:Mst}{fd fo:Bool}{r:List Int}{x:Ins}{k:Nat}{n':Bool}
def argsI(x:Ins)(r:List Int):List Int:=x.args.map (at' r)
def l9(f:Bool)(j:Nat)(a:List Int):AV:=match f with|true=>.msl j 0 a.length 1|false=>.nilsl
def oO(fd fo:Bool)(r:List Int)(y:AV):PF:=[(0,.ptr 0 0 0),(2,.msl 1 0 r.length 1),(4,.ptr (nE true fd fo) 0 0),(6,y)]
def oP(x:Ins)(k:Nat):PF:=[(11,fslN (ints x.args)),(12,.int .i64 (x.args.length:Int)),(13,.int .i64 (k:Int))]
def lF(fd fo f:Bool)(m:Modl)(s:Mst)(r:List Int)(x:Ins)(a:List Int):PK:=⟨E7 true fd fo false m s r++(.row 1 [x.F] 8::aR f a),nE true fd fo,[]⟩
theorem IV(hk:0<x.args.length)(hx:∀y∈x.args,0<=y/\y<r.length):
 evP ⟨env,T,A1⟩ (.code Jb (oO fd fo r .nilsl++oP x 0) (lF fd fo false m s r x []))=some (.ok .normal (oO fd fo r (.msl (nE true fd fo+1) 0 1 1)++oP x 1) (lF fd fo true m s r x ((argsI x r).take 1))):=by
 obtain⟨j,hj,hj2⟩:∃j:Nat,x.args[0]=j/\j<r.length:=by have:=hx _ (zqc hk);exact⟨x.args[0].toNat,by omega,by omega⟩
 have ht:ints ((argsI x r).take 1)=[.int .i64 r[j]]:=by
  unfold argsI;cases h:x.args with
  |nil=>rw[h]at hk;cases hk
  |cons y l=>simp only[h,List.getElem_cons_zero]at hj;subst hj;simp[ints,hj2]
 have hi:Hs ty3 (fslN (ints x.args)) (.int .i64 0)=some (.fptr (.int .i64 x.args[0]) 0):=ix_fslN (i:=0) (A8 hk) rfl;have hlt:decide ((0:Int)<(x.args.length:Int))=true:=by simp[hk]
 unfold Jb kS kR oO oP lF E7;unfold mB;simp only[Ins.F];cases fd<;>cases fo<;>(
  simp only[dA,dR,oA,oR,aR,nB,nE];simp -implicitDefEqProofs only[hlt,hi,hj,hj2,A8 hj2,ht,show((0:Nat):Int)=0 from rfl,show IntKind.i64.wrap (0+1)=((1:Nat):Int)from rfl,XP,Nat.reduceAdd,Nat.reduceSub,Nat.reduceLT,Nat.reduceLeDiff,Nat.reduceEqDiff,Nat.reduceMul,↓reduceIte])
theorem IW(hk:k<x.args.length)(h0:0<k)(hx:∀y∈x.args,0<=y/\y<r.length)(hl:x.args.length<=100000):
 evP ⟨env,T,A1⟩ (.code Jb (oO fd fo r (.msl (nE true fd fo+1) 0 k 1)++oP x k) (lF fd fo true m s r x ((argsI x r).take k)))=some (.ok .normal (oO fd fo r (.msl (nE true fd fo+1) 0 (k+1) 1)++oP x (k+1)) (lF fd fo true m s r x ((argsI x r).take (k+1)))):=by
 obtain⟨j,hj,hj2⟩:∃j:Nat,x.args[k]=j/\j<r.length:=by have:=hx _ (zqc hk);exact⟨x.args[k].toNat,by omega,by omega⟩
 have hka:k<(argsI x r).length:=by unfold argsI;simpa using hk
 have hg:(argsI x r)[k]=r[j]:=by simp[argsI,hj,hj2]
 have ht:=Lh hka;rw[hg]at ht;have hm:(ints ((argsI x r).take k)).length=k:=by simp;omega
 have hw:=B2 (i:=k) (by omega);have hz:(k+1)*8<=140737488355328:=by omega
 have hi:=A8 hk;have hlt:decide ((k:Int)<(x.args.length:Int))=true:=by simp[hk]
 unfold Jb kS kR oO oP lF E7;unfold mB;simp only[Ins.F];cases fd<;>cases fo<;>(
  simp only[dA,dR,oA,oR,aR,nB,nE];simp -implicitDefEqProofs only[hlt,hi,hj,hj2,A8 hj2,ht,hm,hw,hz,XP,seval])
theorem AH{y:AV}{K:PK}:∃fr',evP ⟨env,T,A1⟩ (.code Jb (oO fd fo r y++oP x x.args.length) K)=some (.ok (.exit 0) fr' K)/\lookP fr' 0=.ptr 0 0 0/\lookP fr' 2=.msl 1 0 r.length 1/\lookP fr' 4=.ptr (nE true fd fo) 0 0/\lookP fr' 6=y:=by
 unfold Jb kS kR oO oP;have hlt:decide ((x.args.length:Int)<(x.args.length:Int))=false:=by simp
 simp -implicitDefEqProofs only[hlt,XP,seval];exact⟨_,rfl,rfl,rfl,rfl,rfl⟩
def neE(l:List Int):Bool:=!l.isEmpty
theorem sU(hx:∀y∈x.args,0<=y/\y<r.length)(hl:x.args.length<=100000):∃fr',evP ⟨env,T,A1⟩ (.code (.loop Jb) (oO fd fo r .nilsl++oP x 0) (lF fd fo false m s r x []))=some (.ok (.exit 0) fr' (lF fd fo (neE (argsI x r)) m s r x (argsI x r)))/\lookP fr' 0=.ptr 0 0 0/\lookP fr' 2=.msl 1 0 r.length 1/\lookP fr' 4=.ptr (nE true fd fo) 0 0/\lookP fr' 6=l9 (neE (argsI x r)) (nE true fd fo+1) (argsI x r):=by
 by_cases h0:x.args.length=0
 . have h1:x.args=[]:=List.length_eq_zero_iff.1 h0
   obtain⟨fr',e,p⟩:=AH (T:=T) (fd:=fd) (fo:=fo) (r:=r) (x:=x) (y:=.nilsl) (K:=lF fd fo false m s r x []);rw[h0]at e;have h2:argsI x r=[]:=by unfold argsI;rw[h1];rfl
   rw[h2];exact⟨fr',C6 e,p⟩
 . have:=U5 (P:=⟨env,T,A1⟩) (c:=Jb) (fun i=>(oO fd fo r (.msl (nE true fd fo+1) 0 (i+1) 1)++oP x (i+1),lF fd fo true m s r x ((argsI x r).take (i+1)))) (x.args.length-1) fun i hi=>IW (by omega) (by omega) hx hl
   obtain ⟨fr',e,p⟩:=AH (T:=T) (fd:=fd) (fo:=fo) (r:=r) (x:=x) (y:=.msl (nE true fd fo+1) 0 x.args.length 1) (K:=lF fd fo true m s r x (argsI x r));have hn:neE (argsI x r)=true:=by
    unfold neE argsI;cases h:x.args with
    |nil=>rw[h]at h0;exact absurd rfl h0
    |cons _ _=>rfl
   have hal:(argsI x r).length=x.args.length:=by simp[argsI]
   rw[hn];refine⟨fr',?_,?_⟩
   . rw[loop_more (IV (by omega) hx),this]
     simp only[show x.args.length-1+1=x.args.length by omega];rw[zqs (by omega)];exact C6 e
   . unfold l9;rw[hal];exact p
end
inductive Rs where
 |ret (v:Int) (s:Mst)
 |stop (st c:Int) (s:Mst)
def Rs.st:Rs->Mst | .ret _ s=>s | .stop _ _ s=>s
def wW(x:Rs)(K:Mst->PK):PR:=match x with | .ret v s=>.val [.int .i64 v] (K s) | .stop st c s=>.pan (D8 st c) (K s)
def sV(T:Nat->Option (List AV->Option (List AV)))(m:Modl)(C:Int->List Int->Mst->Rs)(Pre:Int->List Int->Mst->Prop):Prop:=
 ∀ (fa fd fo:Bool) (f:Int) (a:List Int) (s:Mst),Pre f a s->(fa=false->a=[])->(fd=false->s.data=[])->(fo=false->s.out=[]) ->
   ∃n' t1,(fo=false->n'=false->(C f a s).st.out=[])/\evP ⟨env,T,A1⟩ (.body 25 [.ptr 0 0 0,.int .i64 f,l9 fa 1 a] ⟨E7 fa fd fo false m s a,nE fa fd fo,[]⟩)=some (wW (C f a s) fun s'=>⟨E7 fa fd fo n' m s' a,nE fa fd fo,t1⟩)
section
variable {m:Modl}{s s':Mst}{fa fd fo n':Bool}{r a:List Int}{x:Ins}{xs:List AV}{xz:Nat}{f v:Int}{t0:List Nat}
def oS(fa fd fo:Bool):List Nat:=0::((match fa with|true=>[nE true fd fo+1]|false=>[])++((match fd with|true=>[2]|false=>[])++(match fo with|true=>[2+nB fd]|false=>[])))
theorem sW(R:RunT T)(hb:evP ⟨env,T,A1⟩ (.body 25 [.ptr 0 0 0,.int .i64 f,l9 fa 1 a] ⟨E7 fa fd fo false m s a,nE fa fd fo,[]⟩)=some (.val [.int .i64 v] ⟨E7 fa fd fo n' m s' a,nE fa fd fo,t0⟩)):
 ∃t1,∀tch,evP ⟨env,T,A1⟩ (.call 25 [.ptr 0 0 0,.int .i64 f,l9 fa (nE true fd fo+1) a] ⟨E7 true fd fo false m s r++(.row 1 xs xz::aR fa a),nE true fd fo,tch⟩)=some (.val [.int .i64 v] ⟨pT true fd fo false n' m s' r (nE true fd fo+1+nB fa)++(.row 1 xs xz::(aR fa a++oG n' s'.out)),nE true fd fo,t1++tch⟩):=by
 refine⟨((t0.filter (· < (oS fa fd fo).length)).map fun j=>(oS fa fd fo).getD j 0),fun tch=>mH (ids:=oS fa fd fo) (args':=[.ptr 0 0 0,.int .i64 f,l9 fa 1 a]) (Kf:=⟨E7 fa fd fo false m s a,nE fa fd fo,[]⟩) R.hL rfl ?_ ?_ ?_ hb ?_ ?_⟩<;>cases fa<;>cases fd<;>cases fo<;>cases n'<;>rfl
theorem wX{st c:Int}(R:RunT T)(hb:evP ⟨env,T,A1⟩ (.body 25 [.ptr 0 0 0,.int .i64 f,l9 fa 1 a] ⟨E7 fa fd fo false m s a,nE fa fd fo,[]⟩)=some (.pan (D8 st c) ⟨E7 fa fd fo n' m s' a,nE fa fd fo,t0⟩)):
 ∃t1,∀tch,evP ⟨env,T,A1⟩ (.call 25 [.ptr 0 0 0,.int .i64 f,l9 fa (nE true fd fo+1) a] ⟨E7 true fd fo false m s r++(.row 1 xs xz::aR fa a),nE true fd fo,tch⟩)=some (.pan (D8 st c) ⟨pT true fd fo false n' m s' r (nE true fd fo+1+nB fa)++(.row 1 xs xz::(aR fa a++oG n' s'.out)),nE true fd fo,t1++tch⟩):=by
 refine⟨((t0.filter (· < (oS fa fd fo).length)).map fun j=>(oS fa fd fo).getD j 0),fun tch=>Zz (ids:=oS fa fd fo) (args':=[.ptr 0 0 0,.int .i64 f,l9 fa 1 a]) (Kf:=⟨E7 fa fd fo false m s a,nE fa fd fo,[]⟩) R.hL rfl ?_ ?_ ?_ hb ?_ ?_⟩<;>cases fa<;>cases fd<;>cases fo<;>cases n'<;>rfl
theorem IX(R:RunT T)(hx:∀y∈x.args,0<=y/\y<r.length)(hl:x.args.length<=100000)(hd:0<=x.dst)(hd2:x.dst<r.length)(hb:evP ⟨env,T,A1⟩ (.body 25 [.ptr 0 0 0,.int .i64 x.n,l9 (neE (argsI x r)) 1 (argsI x r)] ⟨E7 (neE (argsI x r)) fd fo false m s (argsI x r),nE (neE (argsI x r)) fd fo,[]⟩)=some (.val [.int .i64 v] ⟨E7 (neE (argsI x r)) fd fo n' m s' (argsI x r),nE (neE (argsI x r)) fd fo,t0⟩)):∃t1,evP ⟨env,T,A1⟩ (.body 39 [.ptr 0 0 0,x.F,.msl 1 0 r.length 1] ⟨E7 true fd fo false m s r,nE true fd fo,[]⟩)=some (.val [] ⟨E7 true fd fo n' m s' (put' r x.dst v),nE true fd fo,t1⟩):=by
 obtain⟨t1,hc⟩:=sW (r:=r) (xs:=[x.F]) (xz:=8) R hb;obtain⟨fr',hl1,h1,h2,h3,h4⟩:=sU (T:=T) (m:=m) (s:=s) (fd:=fd) (fo:=fo) hx hl;obtain⟨d,hd3,hd4⟩:∃d:Nat,x.dst=d/\d<r.length:=⟨x.dst.toNat,by omega,by omega⟩
 have h0:decide ((d:Int)>=0)=true:=by simp
 generalize neE (argsI x r)=fa at hc hl1 h4;generalize argsI x r=a at hc hl1 h4;rw[A3 (c:=zL) (nt:=38) (rs:=[]) rfl (by simp)];unfold zL;unfold kY kX kW kV kU kT;unfold oO oP lF E7 at hl1;unfold E7 at hc|-;unfold mB at hc hl1|-;simp only[Ins.F]at hc hl1|-;cases fa<;>cases fd<;>cases fo<;>cases n'<;>(
  simp only[dA,dR,oA,oR,aR,nB,nE,pT,oG,dd,E7,mB,l9,Nat.reduceAdd,zqe,zqf,zqg,put',hd3,zqy,show((0:Nat):Int)=0 from rfl]at hc hl1 h1 h2 h3 h4|-;simp -implicitDefEqProofs only[hc,hl1,h1,h2,h3,h4,hd3,h0,A8 hd4,hd4,L9,zqa,show((0:Nat):Int)=0 from rfl,XP,Nat.reduceAdd,Nat.reduceSub,Nat.reduceLT,Nat.reduceLeDiff,Nat.reduceEqDiff,Nat.reduceMul,↓reduceIte];exact⟨_,rfl⟩)
theorem IY(R:RunT T)(hx:∀y∈x.args,0<=y/\y<r.length)(hl:x.args.length<=100000)(hd:¬0<=x.dst)(hb:evP ⟨env,T,A1⟩ (.body 25 [.ptr 0 0 0,.int .i64 x.n,l9 (neE (argsI x r)) 1 (argsI x r)] ⟨E7 (neE (argsI x r)) fd fo false m s (argsI x r),nE (neE (argsI x r)) fd fo,[]⟩)=some (.val [.int .i64 v] ⟨E7 (neE (argsI x r)) fd fo n' m s' (argsI x r),nE (neE (argsI x r)) fd fo,t0⟩)):∃t1,evP ⟨env,T,A1⟩ (.body 39 [.ptr 0 0 0,x.F,.msl 1 0 r.length 1] ⟨E7 true fd fo false m s r,nE true fd fo,[]⟩)=some (.val [] ⟨E7 true fd fo n' m s' r,nE true fd fo,t1⟩):=by
 obtain⟨t1,hc⟩:=sW (r:=r) (xs:=[x.F]) (xz:=8) R hb;obtain⟨fr',hl1,h1,h2,h3,h4⟩:=sU (T:=T) (m:=m) (s:=s) (fd:=fd) (fo:=fo) hx hl;have h0:decide (x.dst>=0)=false:=by simp;omega
 generalize neE (argsI x r)=fa at hc hl1 h4;generalize argsI x r=a at hc hl1 h4;rw[A3 (c:=zL) (nt:=38) (rs:=[]) rfl (by simp)];unfold zL;unfold kY kX kW kV kU kT;unfold oO oP lF E7 at hl1;unfold E7 at hc|-;unfold mB at hc hl1|-;simp only[Ins.F]at hc hl1|-;cases fa<;>cases fd<;>cases fo<;>cases n'<;>(
  simp only[dA,dR,oA,oR,aR,nB,nE,pT,oG,dd,E7,mB,l9,Nat.reduceAdd,zqe,zqf,zqg,show((0:Nat):Int)=0 from rfl]at hc hl1 h1 h2 h3 h4|-;simp -implicitDefEqProofs only[hc,hl1,h1,h2,h3,h4,h0,zqa,show((0:Nat):Int)=0 from rfl,XP,Nat.reduceAdd,Nat.reduceSub,Nat.reduceLT,Nat.reduceLeDiff,Nat.reduceEqDiff,Nat.reduceMul,↓reduceIte];exact⟨_,rfl⟩)
theorem IZ(R:RunT T)(hx:∀y∈x.args,0<=y/\y<r.length)(hl:x.args.length<=100000){st c:Int}(hb:evP ⟨env,T,A1⟩ (.body 25 [.ptr 0 0 0,.int .i64 x.n,l9 (neE (argsI x r)) 1 (argsI x r)] ⟨E7 (neE (argsI x r)) fd fo false m s (argsI x r),nE (neE (argsI x r)) fd fo,[]⟩)=some (.pan (D8 st c) ⟨E7 (neE (argsI x r)) fd fo n' m s' (argsI x r),nE (neE (argsI x r)) fd fo,t0⟩)):∃t1,evP ⟨env,T,A1⟩ (.body 39 [.ptr 0 0 0,x.F,.msl 1 0 r.length 1] ⟨E7 true fd fo false m s r,nE true fd fo,[]⟩)=some (.pan (D8 st c) ⟨E7 true fd fo n' m s' r,nE true fd fo,t1⟩):=by
 obtain ⟨t1,hc⟩:=wX (r:=r) (xs:=[x.F]) (xz:=8) R hb;obtain⟨fr',hl1,h1,h2,h3,h4⟩:=sU (T:=T) (m:=m) (s:=s) (fd:=fd) (fo:=fo) hx hl;unfold D8 at hc|-;generalize neE (argsI x r)=fa at hc hl1 h4;generalize argsI x r=a at hc hl1 h4;rw[A3 (c:=zL) (nt:=38) (rs:=[]) rfl (by simp)];unfold zL;unfold kY kX kW kV kU kT;unfold oO oP lF E7 at hl1;unfold E7 at hc|-;unfold mB at hc hl1|-;simp only[Ins.F]at hc hl1|-;cases fa<;>cases fd<;>cases fo<;>cases n'<;>(
  simp only[dA,dR,oA,oR,aR,nB,nE,pT,oG,dd,E7,mB,l9,Nat.reduceAdd,zqe,zqf,zqg,show((0:Nat):Int)=0 from rfl]at hc hl1 h1 h2 h3 h4|-;simp -implicitDefEqProofs only[hc,hl1,h1,h2,h3,h4,zqa,show((0:Nat):Int)=0 from rfl,XP,Nat.reduceAdd,Nat.reduceSub,Nat.reduceLT,Nat.reduceLeDiff,Nat.reduceEqDiff,Nat.reduceMul,↓reduceIte];exact⟨_,rfl⟩)
end
section
variable {m:Modl}{s s2:Mst}{fa fd fo n n':Bool}{r r2 a:List Int}{c:Cod}{l:List Ins}{k:Nat}{at0:Int}{tch t0:List Nat}{x:Ins}{cs xs:List AV}{cz xz:Nat}
theorem CI(R:RunT T)(hb:evP ⟨env,T,A1⟩ (.body 39 [.ptr 0 0 0,x.F,.msl 1 0 r.length 1] ⟨E7 true fd (fo||n) false m s r,nE true fd (fo||n),[]⟩)=some (.val [] ⟨E7 true fd (fo||n) n' m s2 r2,nE true fd (fo||n),t0⟩)):
 ∃t1,∀tch,evP ⟨env,T,A1⟩ (.call 39 [.ptr 0 0 0,x.F,.msl (nE fa fd fo+nB n+1) 0 r.length 1] ⟨E7 fa fd fo n m s a++[.row 1 cs cz,.row 0 (ints r) 1,.row 1 xs xz],nE fa fd fo,tch⟩)=some (.val [] ⟨pT fa fd fo n n' m s2 a (nE fa fd fo+nB n+3)++(.row 1 cs cz::.row 0 (ints r2) 1::.row 1 xs xz::oG n' s2.out),nE fa fd fo,t1++tch⟩):=by
 refine⟨((t0.filter (· < (Og fa fd fo n (nE fa fd fo+nB n+1)).length)).map fun j=>(Og fa fd fo n (nE fa fd fo+nB n+1)).getD j 0),fun tch=>mH (ids:=Og fa fd fo n (nE fa fd fo+nB n+1)) (args':=[.ptr 0 0 0,x.F,.msl 1 0 r.length 1]) (Kf:=⟨E7 true fd (fo||n) false m s r,nE true fd (fo||n),[]⟩) R.hC rfl ?_ ?_ ?_ hb ?_ ?_⟩<;>cases fa<;>cases fd<;>cases fo<;>cases n<;>cases n'<;>rfl
theorem wY{st e:Int}(R:RunT T)(hb:evP ⟨env,T,A1⟩ (.body 39 [.ptr 0 0 0,x.F,.msl 1 0 r.length 1] ⟨E7 true fd (fo||n) false m s r,nE true fd (fo||n),[]⟩)=some (.pan (D8 st e) ⟨E7 true fd (fo||n) n' m s2 r,nE true fd (fo||n),t0⟩)):
 ∃t1,∀tch,evP ⟨env,T,A1⟩ (.call 39 [.ptr 0 0 0,x.F,.msl (nE fa fd fo+nB n+1) 0 r.length 1] ⟨E7 fa fd fo n m s a++[.row 1 cs cz,.row 0 (ints r) 1,.row 1 xs xz],nE fa fd fo,tch⟩)=some (.pan (D8 st e) ⟨pT fa fd fo n n' m s2 a (nE fa fd fo+nB n+3)++(.row 1 cs cz::.row 0 (ints r) 1::.row 1 xs xz::oG n' s2.out),nE fa fd fo,t1++tch⟩):=by
 refine⟨((t0.filter (· < (Og fa fd fo n (nE fa fd fo+nB n+1)).length)).map fun j=>(Og fa fd fo n (nE fa fd fo+nB n+1)).getD j 0),fun tch=>Zz (ids:=Og fa fd fo n (nE fa fd fo+nB n+1)) (args':=[.ptr 0 0 0,x.F,.msl 1 0 r.length 1]) (Kf:=⟨E7 true fd (fo||n) false m s r,nE true fd (fo||n),[]⟩) R.hC rfl ?_ ?_ ?_ hb ?_ ?_⟩<;>cases fa<;>cases fd<;>cases fo<;>cases n<;>cases n'<;>rfl
theorem wZ(R:RunT T)(hk:k<l.length)(hl:l.length<=2000000000000)(h:1<=s.steps)(hs:s.steps<=20000)(hop:l[k].op=9)(hb:evP ⟨env,T,A1⟩ (.body 39 [.ptr 0 0 0,l[k].F,.msl 1 0 r.length 1] ⟨E7 true fd (fo||n) false m (stp s) r,nE true fd (fo||n),[]⟩)=some (.val [] ⟨E7 true fd (fo||n) n' m s2 r2,nE true fd (fo||n),t0⟩)):
 ∃t1,evP ⟨env,T,A1⟩ (.code W8 (Q3 fa fd fo n r at0++frI l k) (msL fa fd fo n m s a c r tch))=some (.ok .normal (Q3 fa fd fo (n||n') r at0++frI l (k+1)) (msL fa fd fo (n||n') m s2 a c r2 t1)):=by
 have hlt:decide ((k:Int)<(l.length:Int))=true:=by simp[hk]
 have hi:=A6 (F:=Ins.F) hk;have hw:=B2 (i:=k) (by omega);have st:=fun d o rest ext tch=>l8 (T:=T) (m:=m) (s:=s) (d:=d) (o:=o) (rest:=rest) (ext:=ext) (tch:=tch) R.hS h hs
 have h9:(l[k].op=9)=True:=eq_true hop;obtain⟨t1,hd⟩:=CI (fa:=fa) (a:=a) (cs:=[c.F]) (cz:=5) (xs:=[l[k].F]) (xz:=8) R hb;clear hb;unfold W8 Rm Rl Rk Rj Ri Q3 frI msL E7 Pm;unfold E7 at hd;unfold mB at st hd|-;simp only[Ins.F,Cod.F,stp]at hi st hd|-;cases fa<;>cases fd<;>cases fo<;>cases n<;>cases n'<;>(
  simp only[dA,dR,oA,oR,aR,nB,nE,pT,oG,dd,E7,mB,Nat.reduceAdd,zqe,zqf,zqg,zkd,zkb]at hd|-;simp -implicitDefEqProofs only[hlt,hi,st,hd,h9,hw,XP,seval];exact⟨_,rfl⟩)
theorem sX{z e:Int}(R:RunT T)(hk:k<l.length)(hl:l.length<=2000000000000)(h:1<=s.steps)(hs:s.steps<=20000)(hop:l[k].op=9)(hb:evP ⟨env,T,A1⟩ (.body 39 [.ptr 0 0 0,l[k].F,.msl 1 0 r.length 1] ⟨E7 true fd (fo||n) false m (stp s) r,nE true fd (fo||n),[]⟩)=some (.pan (D8 z e) ⟨E7 true fd (fo||n) n' m s2 r,nE true fd (fo||n),t0⟩)):
 ∃t1,evP ⟨env,T,A1⟩ (.code W8 (Q3 fa fd fo n r at0++frI l k) (msL fa fd fo n m s a c r tch))=some (.pan (D8 z e) ⟨E7 fa fd fo (n||n') m s2 a,nE fa fd fo,t1⟩):=by
 have hlt:decide ((k:Int)<(l.length:Int))=true:=by simp[hk]
 have hi:=A6 (F:=Ins.F) hk;have st:=fun d o rest ext tch=>l8 (T:=T) (m:=m) (s:=s) (d:=d) (o:=o) (rest:=rest) (ext:=ext) (tch:=tch) R.hS h hs
 have h9:(l[k].op=9)=True:=eq_true hop;obtain⟨t1,hd⟩:=wY (fa:=fa) (a:=a) (cs:=[c.F]) (cz:=5) (xs:=[l[k].F]) (xz:=8) R hb;clear hb;unfold D8 at hd|-;unfold W8 Rm Rl Rk Rj Ri Q3 frI msL E7 Pm;unfold E7 at hd;unfold mB at st hd|-;simp only[Ins.F,Cod.F,stp]at hi st hd|-;cases fa<;>cases fd<;>cases fo<;>cases n<;>cases n'<;>(
  simp only[dA,dR,oA,oR,aR,nB,nE,pT,oG,dd,E7,mB,Nat.reduceAdd,zqe,zqf,zqg,zkd,zkb]at hd|-;simp -implicitDefEqProofs only[hlt,hi,st,hd,h9,XP,seval];exact⟨_,rfl⟩)
theorem WV:evP ⟨env,T,A1⟩ (.code W8 (Q3 fa fd fo n r at0++frI l l.length) (msL fa fd fo n m s a c r2 tch))=some (.ok (.exit 2) ((49,.bool false)::(Q3 fa fd fo n r at0++frI l l.length)) (msL fa fd fo n m s a c r2 tch)):=by
 have hlt:decide ((l.length:Int)<(l.length:Int))=false:=by simp
 unfold W8 Rm Rl Rk Rj Ri Q3 frI;simp -implicitDefEqProofs only[hlt,XP,seval]
end
section
variable {m:Modl}{s:Mst}{fa fd fo n:Bool}{r a:List Int}{c:Cod}{i:Nat}{tch:List Nat}
theorem JA(R:RunT T)(hi:i<c.blocks.length)(h:¬1<=s.steps):∃t1,evP ⟨env,T,A1⟩ (.code O3 (Q3 fa fd fo n r (i:Int)) (msL fa fd fo n m s a c r tch))=some (.pan (D8 3 0) ⟨E7 fa fd fo n m s a++[Pm c,.row 0 (ints r) 1],nE fa fd fo,t1⟩):=by
 have st:=fun d o rest ext tch=>lE (T:=T) (m:=m) (s:=s) (d:=d) (o:=o) (rest:=rest) (ext:=ext) (tch:=tch) R.hS h
 unfold O3 Gv Gu Gt Rp Ro Rn Q3 msL E7 Pm;unfold mB at st|-;simp only[Cod.F,D8]at st|-;cases fa<;>cases fd<;>cases fo<;>cases n<;>(
  simp only[dA,dR,oA,oR,aR,nB,nE];simp -implicitDefEqProofs only[st,XP,seval];exact⟨_,rfl⟩)
theorem JB(R:RunT T)(hi:i<c.blocks.length)(h:1<=s.steps)(hs:s.steps<=20000)(hk:c.blocks[i].e.kind=3)(ha:c.blocks[i].e.a<0)(h1:0<=s.calls)(h2:s.calls<=40):∃t1,evP ⟨env,T,A1⟩ (.code O3 (Q3 fa fd fo n r (i:Int)) (msL fa fd fo n m s a c r tch))=some (.ok .ret [(6,.int .i64 0)] ⟨E7 fa fd fo n m {stp s with calls:=s.calls-1} a,nE fa fd fo,t1⟩):=by
 have st:=fun d o rest ext tch=>l8 (T:=T) (m:=m) (s:=s) (d:=d) (o:=o) (rest:=rest) (ext:=ext) (tch:=tch) R.hS h hs
 have hb:=A6 (F:=Blk.F) hi;have hc:=Er (n:=s.calls-1) (by omega) (by omega);unfold O3 Gv Gu Gt Rp Ro Rn Q3 msL E7 Pm;unfold mB at st|-;simp only[Cod.F,Blk.F,stp]at hb st|-;cases fa<;>cases fd<;>cases fo<;>cases n<;>(
  simp only[dA,dR,oA,oR,aR,nB,nE,E7,mB,Nat.reduceAdd,zqe,zqf,zqg];simp -implicitDefEqProofs only[st,hb,hc,eq_true hk,eq_true ha,XP,seval];exact⟨_,rfl⟩)
theorem JC(R:RunT T)(hi:i<c.blocks.length)(h:1<=s.steps)(hs:s.steps<=20000)(hk:c.blocks[i].e.kind=3)(ha:0<=c.blocks[i].e.a/\c.blocks[i].e.a<r.length)(h1:0<=s.calls)(h2:s.calls<=40):∃t1,evP ⟨env,T,A1⟩ (.code O3 (Q3 fa fd fo n r (i:Int)) (msL fa fd fo n m s a c r tch))=some (.ok .ret [(6,.int .i64 (at' r c.blocks[i].e.a))] ⟨E7 fa fd fo n m {stp s with calls:=s.calls-1} a,nE fa fd fo,t1⟩):=by
 have st:=fun d o rest ext tch=>l8 (T:=T) (m:=m) (s:=s) (d:=d) (o:=o) (rest:=rest) (ext:=ext) (tch:=tch) R.hS h hs
 have hb:=A6 (F:=Blk.F) hi;have hc:=Er (n:=s.calls-1) (by omega) (by omega);obtain⟨d,hd,hd2⟩:∃d:Nat,c.blocks[i].e.a=d/\d<r.length:=⟨c.blocks[i].e.a.toNat,by omega,by omega⟩
 have ha2:((d:Int)<0)=False:=eq_false (by omega);simp only[at',hd,zqy,gD hd2];unfold O3 Gv Gu Gt Rp Ro Rn Q3 msL E7 Pm;unfold mB at st|-;simp only[Cod.F,Blk.F,stp]at hb st|-;cases fa<;>cases fd<;>cases fo<;>cases n<;>(
  simp only[dA,dR,oA,oR,aR,nB,nE,E7,mB,Nat.reduceAdd,zqe,zqf,zqg];simp -implicitDefEqProofs only[st,hb,hc,eq_true hk,hd,ha2,A8 hd2,hd2,XP,seval];exact⟨_,rfl⟩)
theorem JD(R:RunT T)(hi:i<c.blocks.length)(h:1<=s.steps)(hs:s.steps<=20000)(hk:c.blocks[i].e.kind=2)(ha:0<=c.blocks[i].e.a/\c.blocks[i].e.a<r.length)(hv:at' r c.blocks[i].e.a=0):∃t1,evP ⟨env,T,A1⟩ (.code O3 (Q3 fa fd fo n r (i:Int)) (msL fa fd fo n m s a c r tch))=some (.ok .normal (Q3 fa fd fo n r c.blocks[i].e.els) (msL fa fd fo n m (stp s) a c r t1)):=by
 have st:=fun d o rest ext tch=>l8 (T:=T) (m:=m) (s:=s) (d:=d) (o:=o) (rest:=rest) (ext:=ext) (tch:=tch) R.hS h hs
 have hb:=A6 (F:=Blk.F) hi;obtain⟨d,hd,hd2⟩:∃d:Nat,c.blocks[i].e.a=d/\d<r.length:=⟨c.blocks[i].e.a.toNat,by omega,by omega⟩
 simp only[at',hd,zqy,gD hd2]at hv;unfold O3 Gv Gu Gt Rp Ro Rn Q3 msL E7 Pm;unfold mB at st|-;simp only[Cod.F,Blk.F,stp]at hb st|-;cases fa<;>cases fd<;>cases fo<;>cases n<;>(
  simp only[dA,dR,oA,oR,aR,nB,nE,E7,mB,Nat.reduceAdd,zqe,zqf,zqg];simp -implicitDefEqProofs only[st,hb,eq_true hk,(show ¬c.blocks[i].e.kind=3 by omega),hd,A8 hd2,hd2,hv,XP,seval];exact⟨_,rfl⟩)
theorem JE(R:RunT T)(hi:i<c.blocks.length)(h:1<=s.steps)(hs:s.steps<=20000)(hk:c.blocks[i].e.kind=2)(ha:0<=c.blocks[i].e.a/\c.blocks[i].e.a<r.length)(hv:¬at' r c.blocks[i].e.a=0):∃t1,evP ⟨env,T,A1⟩ (.code O3 (Q3 fa fd fo n r (i:Int)) (msL fa fd fo n m s a c r tch))=some (.ok .normal (Q3 fa fd fo n r c.blocks[i].e.to) (msL fa fd fo n m (stp s) a c r t1)):=by
 have st:=fun d o rest ext tch=>l8 (T:=T) (m:=m) (s:=s) (d:=d) (o:=o) (rest:=rest) (ext:=ext) (tch:=tch) R.hS h hs
 have hb:=A6 (F:=Blk.F) hi;obtain⟨d,hd,hd2⟩:∃d:Nat,c.blocks[i].e.a=d/\d<r.length:=⟨c.blocks[i].e.a.toNat,by omega,by omega⟩
 simp only[at',hd,zqy,gD hd2]at hv;unfold O3 Gv Gu Gt Rp Ro Rn Q3 msL E7 Pm;unfold mB at st|-;simp only[Cod.F,Blk.F,stp]at hb st|-;cases fa<;>cases fd<;>cases fo<;>cases n<;>(
  simp only[dA,dR,oA,oR,aR,nB,nE,E7,mB,Nat.reduceAdd,zqe,zqf,zqg];simp -implicitDefEqProofs only[st,hb,eq_true hk,(show ¬c.blocks[i].e.kind=3 by omega),hd,A8 hd2,hd2,hv,XP,seval];exact⟨_,rfl⟩)
theorem JF(R:RunT T)(hi:i<c.blocks.length)(h:1<=s.steps)(hs:s.steps<=20000)(hk:c.blocks[i].e.kind=1):∃t1,evP ⟨env,T,A1⟩ (.code O3 (Q3 fa fd fo n r (i:Int)) (msL fa fd fo n m s a c r tch))=some (.ok .normal (Q3 fa fd fo n r c.blocks[i].e.to) (msL fa fd fo n m (stp s) a c r t1)):=by
 have st:=fun d o rest ext tch=>l8 (T:=T) (m:=m) (s:=s) (d:=d) (o:=o) (rest:=rest) (ext:=ext) (tch:=tch) R.hS h hs
 have hb:=A6 (F:=Blk.F) hi;unfold O3 Gv Gu Gt Rp Ro Rn Q3 msL E7 Pm;unfold mB at st|-;simp only[Cod.F,Blk.F,stp]at hb st|-;cases fa<;>cases fd<;>cases fo<;>cases n<;>(
  simp only[dA,dR,oA,oR,aR,nB,nE,E7,mB,Nat.reduceAdd,zqe,zqf,zqg];simp -implicitDefEqProofs only[st,hb,(show ¬c.blocks[i].e.kind=3 by omega),(show ¬c.blocks[i].e.kind=2 by omega),XP,seval];exact⟨_,rfl⟩)
end
inductive I2 where
 |go (r:List Int) (s:Mst)
 |stop (st c:Int) (s:Mst)
def insF(m:Modl)(C:Int->List Int->Mst->Rs):List Ins->List Int->Mst->I2
 |[],r,s=>.go r s
 | x :: l,r,s=>if s.steps<1 then .stop 3 0 s else if x.op=9 then(match C x.n (argsI x r) (stp s)with
     | .ret v s2=>insF m C l (if 0<=x.dst then put' r x.dst v else r) s2
     | .stop st c s2=>.stop st c s2)
  else if(doesI m x r (stp s)).1=0 then insF m C l (doesI m x r (stp s)).2.2 (doesI m x r (stp s)).2.1 else .stop 2 (doesI m x r (stp s)).1 (stp s)
def blkAt(c:Cod)(i:Int):Blk:=c.blocks.getD i.toNat ⟨[],⟨0,0,0,0⟩⟩
def J7(m:Modl)(C:Int->List Int->Mst->Rs)(c:Cod):Nat->Int->List Int->Mst->Rs
 |0,_,_,s=>.stop 3 0 s
 | n+1,i,r,s=>match insF m C (blkAt c i).code r s with
  | .stop st e s=>.stop st e s
  | .go r s=>if s.steps<1 then .stop 3 0 s
   else if(blkAt c i).e.kind=3 then .ret (if(blkAt c i).e.a<0 then 0 else at' r (blkAt c i).e.a) {stp s with calls:=s.calls-1}
   else J7 m C c n (if(blkAt c i).e.kind=2/\at' r (blkAt c i).e.a=0 then(blkAt c i).e.els else(blkAt c i).e.to) r (stp s)
def Dv(m:Modl)(f:Int):Cod:=m.fs.getD f.toNat ⟨[],0,0,[],[]⟩
def initR(n:Nat)(a:List Int):List Int:=a.take n++List.replicate (n-a.length) 0
def I3(m:Modl):Nat->Int->List Int->Mst->Rs
 |0,_,_,s=>.stop 2 4 s
 | d+1,f,a,s=>if 32<=s.calls then .stop 2 4 s
  else J7 m (I3 m d) (Dv m f) (s.steps.toNat+1) 0 (initR (Dv m f).regs.length a) {s with calls:=s.calls+1}
def j6(m:Modl)(d:List (List Int)):Prop:=d.length=m.gs.length/\∀(i:Nat) l g,d[i]?=some l->m.gs[i]?=some g->(l.length:Int)=max g.size 1
structure Sok(m:Modl)(s:Mst):Prop where
 d:j6 m s.data
 st:s.steps<=20000
 ou:s.out.length+s.steps.toNat<=30000
 ca:0<=s.calls/\s.calls<=33
structure InsR(m:Modl)(nr:Nat)(x:Ins):Prop where
 op:1<=x.op/\x.op<=11
 dst:x.op=1\/x.op=2\/x.op=3\/x.op=4\/x.op=5\/x.op=7\/x.op=10->0<=x.dst/\x.dst<nr
 a:x.op=2\/x.op=3\/x.op=4\/x.op=5\/x.op=6\/x.op=8\/x.op=11->0<=x.a/\x.a<nr
 b:x.op=3\/x.op=6->0<=x.b/\x.b<nr
 n:x.op=5\/x.op=6\/x.op=7\/x.op=8->0<=x.n/\x.n<m.gs.length
 c:x.op=9->(0<=x.n/\x.n<m.fs.length)/\(∀y∈x.args,0<=y/\y<nr)/\x.args.length<=100000/\x.dst<nr
structure EndR(nb nr:Nat)(e:Endd):Prop where
 k:1<=e.kind/\e.kind<=3
 a3:e.kind=3->e.a<nr
 a2:e.kind=2->0<=e.a/\e.a<nr
 to:e.kind≠3->0<=e.to/\e.to<nb
 els:e.kind=2->0<=e.els/\e.els<nb
structure CodR(m:Modl)(c:Cod):Prop where
 nb:1<=c.blocks.length
 b:∀b∈c.blocks,b.code.length<=2000000000000/\(∀x∈b.code,InsR m c.regs.length x)/\EndR c.blocks.length c.regs.length b.e
 nr:c.regs.length<=100000
structure ModR'(m:Modl):Prop where
 f:∀c∈m.fs,CodR m c
theorem Sok.stp{m:Modl}{s:Mst}(h:Sok m s)(h1:1<=s.steps):Sok m (stp s)/\(stp s).out.length+(stp s).steps.toNat+1<=30000:=by
 have:=h.ou;have:=h.st
 refine⟨⟨h.d,?_,?_,h.ca⟩,?_⟩<;>simp only[AmEnv.stp]<;>omega
theorem InsR.ok{m:Modl}{s:Mst}{x:Ins}{r:List Int}(h:InsR m r.length x)(hs:j6 m s.data):InsOk m x r s:=⟨h.dst,h.a,h.b,h.n,hs⟩
theorem put_len(l:List Int)(i v:Int):(put' l i v).length=l.length:=by simp[put']
theorem j6.set{m:Modl}{d:List (List Int)}(h:j6 m d)(i:Nat)(j v:Int):j6 m (d.set i (put' (d.getD i []) j v)):=by
 refine⟨by simp[h.1],fun k l g hk hg=>?_⟩;rw[List.getElem?_set]at hk;split at hk
 . rename_i e;subst e
   split at hk
   . rename_i hl
     cases hk;rw[put_len];exact h.2 i _ g (by simp[hl]) hg
   . cases hk
 . exact h.2 k l g hk hg
theorem oT{m:Modl}{s:Mst}{x:Ins}{r:List Int}(hd:j6 m s.data):j6 m (doesI m x r s).2.1.data/\(doesI m x r s).2.1.steps=s.steps/\(doesI m x r s).2.1.calls=s.calls/\(doesI m x r s).2.1.out.length<=s.out.length+1/\(doesI m x r s).2.2.length=r.length/\(x.op≠11->(doesI m x r s).2.1.out=s.out):=by
 unfold doesI
 repeat' split
 all_goals first
  |exact⟨hd,rfl,rfl,Nat.le_succ _,by first|rfl|exact put_len _ _ _,fun _=>rfl⟩
  |exact⟨hd.set _ _ _,rfl,rfl,Nat.le_succ _,rfl,fun _=>rfl⟩
  |exact⟨hd,rfl,rfl,by simp,rfl,fun h=>absurd (by assumption) h⟩
end Go.Proofs.AmEnv
