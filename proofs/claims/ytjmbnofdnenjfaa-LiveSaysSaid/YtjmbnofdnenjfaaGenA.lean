/- What this program's functions do, at any data. Conditions: none. -/
import Derived.Test.YtjmbnofdnenjfaaEnv
set_option linter.unusedVariables false
set_option linter.unusedSimpArgs false
set_option linter.unusedSectionVars false
set_option linter.defProp false
set_option maxRecDepth 100000
set_option maxHeartbeats 4000000
open List renaming length_map→zqa,nodup_nil→zqb,getElem_mem→zqc,cons_append→zqd,nil_append→zqe,range→zqf,drop_length→zqg,drop_eq_getElem_cons→zqh,length_set→zqi,length_replicate→zqj,mem_cons→zqk,getElem?_eq_getElem→zql,map_set→zqm,not_mem_nil→zqn,getD_eq_getElem?_getD→zqo,mem_singleton→zqp,foldl_cons→zqq,replicate→zqr,mem_append→zqs,getElem?_set_ne→zqt,take_zero→zqu,findIdx?_eq_some_iff_getElem→zqv,length_zip→zqw,take_of_length_le→zqx,getElem?_map→zqy,take_succ_eq_append_getElem→zqz,map_append→zka,findIdx?_eq_none_iff→zkb,all_eq_true→zkc,mem_filter→zkd,count_cons→zke
open Bool renaming false_and→zkf,and_eq_true→zkg
open Nat renaming le_refl→zkh
open Int renaming eq_ofNat_of_zero_le→zki
noncomputable section
namespace Go.Proofs.AmEnv
open Go Go.AM
variable {T:Nat->Option (List AV->Option (List AV))}
abbrev ints(l:List Int):List AV:=l.map (AV.int .i64)
theorem yI(l:List Int):Qk (ints l)=true:=by
 induction l with
 |nil=>rfl
 |cons x l ih=>exact ih
theorem G5{l:List Int}{i:Nat}(h:i<l.length):(ints l)[i]?=some (.int .i64 l[i]):=by
 unfold ints;rw[zqy,zql h];rfl
theorem Yv{l:List Int}{i:Nat}(h:i<l.length):ints (l.take i)++[.int .i64 l[i]]=ints (l.take (i+1)):=by
 unfold ints;rw[zqz h,zka];rfl
section
variable {l:List Int}{f:Bool}{i:Nat}{x:Int}{es:List AV}
theorem WL(hl:0<l.length):
 evP ⟨A0,T,A2⟩ (.code Ln [(0,.fsl (ints l) f),(3,.nilsl),(4,.int .i64 0)] ⟨[],0,[]⟩)=some (.ok .normal [(0,.fsl (ints l) f),(3,.msl 0 0 1 1),(4,.int .i64 ((1:Nat):Int))] ⟨[.row 0 (ints (l.take 1)) 1],0,[]⟩):=by
 unfold Ln;have hlt:decide ((0:Int)<((ints l).length:Int))=true:=by simp[hl]
 have hi:=G5 hl;have hw:=A8 (i:=0) (by omega);have hx:Qp Yu (.fsl (ints l) f) (.int .i64 0)=some (.fptr (.int .i64 l[0]) 0):=ix_fsl (i:=0) hi rfl;have ht:=Yv hl;rw[zqu]at ht;have ht:[AV.int .i64 l[0]]=ints (l.take 1):=ht;simp -implicitDefEqProofs only[hlt,hx,<-ht,show IntKind.i64.wrap (0+1)=((1:Nat):Int)from rfl,XP,Nat.reduceAdd,Nat.reduceSub,Nat.reduceLT,Nat.reduceLeDiff,Nat.reduceEqDiff,Nat.reduceMul,↓reduceIte]
theorem WM(hl:i<l.length)(hs:l.length*8<=140737488355328):
 evP ⟨A0,T,A2⟩ (.code Ln [(0,.fsl (ints l) f),(3,.msl 0 0 i 1),(4,.int .i64 i)] ⟨[.row 0 (ints (l.take i)) 1],0,[]⟩)=some (.ok .normal [(0,.fsl (ints l) f),(3,.msl 0 0 (i+1) 1),(4,.int .i64 ((i+1:Nat):Int))] ⟨[.row 0 (ints (l.take (i+1))) 1],0,[]⟩):=by
 unfold Ln;have hlt:decide ((i:Int)<((ints l).length:Int))=true:=by simp[hl]
 have hi:=G5 hl;have hm:(ints (l.take i)).length=i:=by simp;omega
 have hw:=A8 (i:=i) (by omega);have hz:(i+1)*8<=140737488355328:=by omega
 simp -implicitDefEqProofs only[hlt,hi,hm,hw,hz,Yv hl,XP,seval]
theorem HF{y:AV}{K:PK}:∃fr',evP ⟨A0,T,A2⟩ (.code Ln [(0,.fsl (ints l) f),(3,y),(4,.int .i64 l.length)] K)=some (.ok (.exit 0) fr' K)/\lookP fr' 3=y:=by
 unfold Ln;have hlt:decide ((l.length:Int)<((ints l).length:Int))=false:=by simp
 simp -implicitDefEqProofs only[hlt,XP,seval];exact⟨_,rfl,rfl⟩
theorem HG(hs:l.length*8<=140737488355328):∀(n i:Nat),l.length=i+n->0<i->∃fr',evP ⟨A0,T,A2⟩ (.code (.loop Ln) [(0,.fsl (ints l) f),(3,.msl 0 0 i 1),(4,.int .i64 i)] ⟨[.row 0 (ints (l.take i)) 1],0,[]⟩)=some (.ok (.exit 0) fr' ⟨[.row 0 (ints l) 1],0,[]⟩)/\lookP fr' 3=.msl 0 0 l.length 1
 | 0,i,e,h0=>by
  obtain rfl:i=l.length:=by omega
  rw[List.take_length];obtain⟨fr',h1,h2⟩:=HF (T:=T) (l:=l) (f:=f) (y:=.msl 0 0 l.length 1) (K:=⟨[.row 0 (ints l) 1],0,[]⟩);exact⟨fr',B3 h1,h2⟩
 | n+1,i,e,h0=>by
  rw[loop_more (WM (by omega) hs)];exact HG hs n (i+1) (by omega) (by omega)
theorem Tz(hs:l.length*8<=140737488355328):AM.Comes ⟨A0,T,A2⟩ 18 [.fsl (ints l) f] [ownd 0 1 (ints l)]:=by
 cases l with
 | nil =>
  obtain⟨fr',h1,h2⟩:=HF (T:=T) (l:=[]) (f:=f) (y:=.nilsl) (K:=⟨[],0,[]⟩);have hl:=B3 h1;refine⟨[.nilsl],⟨[],0,[]⟩,?_,⟨by decide,rfl,rfl⟩⟩;rw[A6 (c:=GJ) (nt:=19) (rs:=[.tmp 2]) rfl (by simp)];unfold GJ K0;have hl:evP ⟨A0,T,A2⟩ (.code (.loop Ln) [(0,.fsl (ints []) f),(3,.nilsl),(4,.int .i64 0)] ⟨[],0,[]⟩)=_:=hl;simp -implicitDefEqProofs only[hl,h2,XP,seval]
 | cons x r =>
  obtain⟨fr',h1,h2⟩:=HG (T:=T) (f:=f) hs r.length 1 (by simp;omega) (by decide);have hl:=(loop_more (WL (T:=T) (f:=f) (l:=x::r) (by simp))).trans h1;refine⟨[.msl 0 0 (x::r).length 1],⟨[.row 0 (ints (x::r)) 1],0,[]⟩,?_,?_⟩
  . rw[A6 (c:=GJ) (nt:=19) (rs:=[.tmp 2]) rfl (by simp)]
    unfold GJ K0;simp -implicitDefEqProofs only[hl,h2,XP,seval]
  . refine C1 (vs':=[.msl 0 0 (x::r).length 1]) (os':=[.row 0 (ints (x::r)) 1]) ?_ ?_ (us:=[.msl 0 0 (ints (x::r)).length 1]) (ps:=[.row 0 (ints (x::r)) 1]) ?_ ?_ ?_
    all_goals simp -implicitDefEqProofs only[zqa,XP,seval]
end
theorem ints_inj{l m:List Int}(h:ints l=ints m):l=m:=by
 induction l generalizing m with
 | nil=>cases m with
  |nil=>rfl
  |cons=>cases h
 | cons x l ih=>cases m with
  |nil=>cases h
  |cons y m=>injection h with h1 h2;injection h1 with _ h1;rw[h1,ih h2]
section
variable {l m:List Int}{f g:Bool}{i:Nat}
theorem WN(hl:i<l.length)(hm:i<m.length)(he:l[i]=m[i])(hs:l.length<=140737488355328):
 evP ⟨A0,T,A2⟩ (.code Fm [(0,.fsl (ints l) f),(1,.fsl (ints m) g),(5,.int .i64 i)] ⟨[],0,[]⟩)=some (.ok .normal [(0,.fsl (ints l) f),(1,.fsl (ints m) g),(5,.int .i64 ((i+1:Nat):Int))] ⟨[],0,[]⟩):=by
 unfold Fm;have hlt:decide ((i:Int)<((ints l).length:Int))=true:=by simp[hl]
 have h1:=G5 hl;have h2:=G5 hm;have hw:=A8 (i:=i) (by omega);simp -implicitDefEqProofs only[hlt,h1,h2,hw,he,u_not,XP,seval]
theorem WO(hl:i<l.length)(hm:i<m.length)(he:¬l[i]=m[i]):
 ∃fr',evP ⟨A0,T,A2⟩ (.code Fm [(0,.fsl (ints l) f),(1,.fsl (ints m) g),(5,.int .i64 i)] ⟨[],0,[]⟩)=some (.ok .ret fr' ⟨[],0,[]⟩)/\lookP fr' 4=.bool false:=by
 unfold Fm;have hlt:decide ((i:Int)<((ints l).length:Int))=true:=by simp[hl]
 have h1:=G5 hl;have h2:=G5 hm;have hd:decide (l[i]=m[i])=false:=by simp[he]
 simp -implicitDefEqProofs only[hlt,h1,h2,hd,u_not,XP,seval];exact⟨_,rfl,rfl⟩
theorem WP(hm:l.length=m.length):∃fr',evP ⟨A0,T,A2⟩ (.code Fm [(0,.fsl (ints l) f),(1,.fsl (ints m) g),(5,.int .i64 l.length)] ⟨[],0,[]⟩)=some (.ok (.exit 0) fr' ⟨[],0,[]⟩):=by
 unfold Fm;have hlt:decide ((l.length:Int)<((ints l).length:Int))=false:=by simp
 simp -implicitDefEqProofs only[hlt,XP,seval];exact⟨_,rfl⟩
theorem si_l(hs:l.length<=140737488355328)(hm:l.length=m.length):∀(n i:Nat),l.length=i+n ->
 (l.drop i=m.drop i/\∃fr',evP ⟨A0,T,A2⟩ (.code (.loop Fm) [(0,.fsl (ints l) f),(1,.fsl (ints m) g),(5,.int .i64 i)] ⟨[],0,[]⟩)=some (.ok (.exit 0) fr' ⟨[],0,[]⟩))\/
 (l.drop i≠m.drop i/\∃fr',evP ⟨A0,T,A2⟩ (.code (.loop Fm) [(0,.fsl (ints l) f),(1,.fsl (ints m) g),(5,.int .i64 i)] ⟨[],0,[]⟩)=some (.ok .ret fr' ⟨[],0,[]⟩)/\lookP fr' 4=.bool false)
 | 0,i,e=>by
  obtain rfl:i=l.length:=by omega
  obtain⟨fr',h⟩:=WP (T:=T) (f:=f) (g:=g) hm;exact .inl ⟨by rw[zqg,hm,zqg],fr',B3 h⟩
 | n + 1,i,e=>by
  have hl:i<l.length:=by omega
  have hl':i<m.length:=by omega
  rw[zqh hl,zqh hl'];by_cases he:l[i]=m[i]
  . rw[loop_more (WN hl hl' he hs)]
    rcases si_l hs hm n (i+1) (by omega)with⟨h1,h2⟩|⟨h1,h2⟩
    . exact .inl ⟨by rw[he,h1],h2⟩
    . exact .inr ⟨fun h=>h1 (List.cons.inj h).2,h2⟩
  . obtain⟨fr',h1,h2⟩:=WO (T:=T) (f:=f) (g:=g) hl hl' he
    exact .inr ⟨fun h=>he (List.cons.inj h).1,fr',L6 h1,h2⟩
theorem Ua(hs:l.length<=140737488355328):AM.Comes ⟨A0,T,A2⟩ 33 [.fsl (ints l) f,.fsl (ints m) g] [.bool (decide (l=m))]:=by
 refine⟨[.bool (decide (l=m))],⟨[],0,[]⟩,?_,C1 rfl zqb rfl rfl rfl⟩;rw[A6 (c:=NP) (nt:=27) (rs:=[.tmp 4]) rfl (by simp)];unfold NP K0;by_cases hm:l.length=m.length
 . have hn:(!decide (((ints l).length:Int)=((ints m).length:Int)))=false:=by simp[hm]
   rcases si_l (T:=T) (f:=f) (g:=g) hs hm l.length 0 (by omega)with⟨h1,fr',h2⟩|⟨h1,fr',h2,h3⟩
   . have h1:decide (l=m)=true:=by simpa using h1
     have h2:evP ⟨A0,T,A2⟩ (.code (.loop Fm) [(0,.fsl (ints l) f),(1,.fsl (ints m) g),(5,.int .i64 0)] ⟨[],0,[]⟩)=_:=h2;simp -implicitDefEqProofs only[hn,h1,h2,XP,seval]
   . have h1:decide (l=m)=false:=by simpa using h1
     have h2:evP ⟨A0,T,A2⟩ (.code (.loop Fm) [(0,.fsl (ints l) f),(1,.fsl (ints m) g),(5,.int .i64 0)] ⟨[],0,[]⟩)=_:=h2;simp -implicitDefEqProofs only[hn,h1,h2,h3,XP,seval]
 . have hn:(!decide (((ints l).length:Int)=((ints m).length:Int)))=true:=by simp[hm];omega
   have h1:decide (l=m)=false:=by simp;intro h;exact hm (by rw[h])
   simp -implicitDefEqProofs only[hn,h1,XP,seval]
end
structure Ins where
 op:Int
 ty:Int
 dst:Int
 a:Int
 b:Int
 n:Int
 s:List UInt8
 args:List Int
deriving DecidableEq
abbrev bigN:Nat:=140737488355328
def Ins.cs(x:Ins)(v:AV):List AV:=[.int .i64 x.op,.int .i64 x.ty,.int .i64 x.dst,.int .i64 x.a,.int .i64 x.b,.int .i64 x.n,.str x.s,v]
def Ins.F(x:Ins):AV:=.agg [.int .i64 x.op,.int .i64 x.ty,.int .i64 x.dst,.int .i64 x.a,.int .i64 x.b,.int .i64 x.n,.str x.s,fslN (ints x.args)]
def Ins.O(x:Ins):AV:=.agg [.int .i64 x.op,.int .i64 x.ty,.int .i64 x.dst,.int .i64 x.a,.int .i64 x.b,.int .i64 x.n,.str x.s,ownd 0 1 (ints x.args)]
def Ins.ok(x:Ins):Prop:=x.args.length*8<=bigN
theorem fslN_inj{l m:List AV}(h:fslN l=fslN m):l=m:=by unfold fslN at h;injection h
theorem Ins.F_inj{x y:Ins}(h:x.F=y.F):x=y:=by
 cases x;cases y;simp only[Ins.F,AV.agg.injEq,List.cons.injEq,AV.int.injEq,AV.str.injEq,true_and,and_true]at h;obtain⟨rfl,rfl,rfl,rfl,rfl,rfl,rfl,h⟩:=h;rw[ints_inj (fslN_inj h)]
def G2:=g0 (fun l:List Int=>[fslN (ints l)]) (fun l=>[ownd 0 1 (ints l)]) (fun l=>l.length*8<=bigN)
theorem u6{l:List Int}(h:l.length*8<=bigN):G2 [fslN (ints l)]=some [ownd 0 1 (ints l)]:=C2 (a:=fun l:List Int=>[fslN (ints l)]) (fun x y e=>by injection e with e _;rw[ints_inj (fslN_inj e)]) l h
def Ca:=g0 (fun p:List Int×List Int=>[fslN (ints p.1),fslN (ints p.2)]) (fun p=>[.bool (decide (p.1=p.2))]) (fun p=>p.1.length*8<=bigN)
theorem Lr{l m:List Int}(h:l.length*8<=bigN):Ca [fslN (ints l),fslN (ints m)]=some [.bool (decide (l=m))]:=C2 (a:=fun p:List Int×List Int=>[fslN (ints p.1),fslN (ints p.2)]) (r:=fun p=>[.bool (decide (p.1=p.2))]) (fun x y e=>by
 injection e with e1 e;injection e with e2 _
 rw[ints_inj (fslN_inj e1),ints_inj (fslN_inj e2)]) (l,m) h
theorem frzL_ints(l:List Int):frzL (ints l)=some (ints l):=m9 (f:=AV.int .i64) (g:=AV.int .i64) (fun _=>rfl) l
section
variable {T:Nat->Option (List AV->Option (List AV))}
theorem noFL_ints(l:List Int):noFL (ints l)=true:=by
 induction l with
 |nil=>rfl
 |cons x l ih=>exact ih
theorem Qw(hT:T 18=some G2){x:Ins}(h:x.ok):AM.Comes ⟨A0,T,A2⟩ 53 [x.F] [x.O]:=by
 refine⟨[.agg (x.cs (.msl 1 0 (ints x.args).length 1))],⟨[.row 1 [.agg (x.cs (.msl 1 0 (ints x.args).length 1))] 8,.row 0 (ints x.args) 1],0,[]⟩,?_,?_⟩
 . rw[A6 (c:=OF) (nt:=8) (rs:=[.cell 2 50]) rfl (by simp)]
   unfold OF K0;have ht:∀{K:PK},evP ⟨A0,T,A2⟩ (.call 18 [fslN (ints x.args)] K)=some (.val (openTs K.os.length [ownd 0 1 (ints x.args)]).1 ⟨K.os++(openTs K.os.length [ownd 0 1 (ints x.args)]).2,K.ext,K.tch⟩):=B8 hT (by show J7 (dK (frzL (ints x.args))) (some [])=_;rw[frzL_ints];rfl) (u6 h) (by rfl);simp -implicitDefEqProofs only[Ins.F,Ins.cs,ht,XP,seval]
 . refine C1 (vs':=[.agg (x.cs (.msl 1 0 (ints x.args).length 1))]) (os':=[.row 1 [.agg (x.cs (.msl 1 0 (ints x.args).length 1))] 8,.row 0 (ints x.args) 1]) ?_ ?_ (us:=[.agg (x.cs (.msl 0 0 (ints x.args).length 1))]) (ps:=[.row 0 (ints x.args) 1]) ?_ ?_ ?_
   all_goals simp -implicitDefEqProofs only[Ins.cs,Ins.O,XP,seval]
theorem Qx(hT:T 33=some Ca){x y:Ins}(h:x.ok):AM.Comes ⟨A0,T,A2⟩ 57 [x.F,y.F] [.bool (decide (x=y))]:=by
 refine⟨[.bool (decide (x=y))],⟨[],0,[]⟩,?_,C1 rfl zqb rfl rfl rfl⟩;rw[A6 (c:=OH) (nt:=59) (rs:=[.tmp 4]) rfl (by simp)];unfold OH K0;have ht:∀{K:PK},evP ⟨A0,T,A2⟩ (.call 33 [fslN (ints x.args),fslN (ints y.args)] K)=some (.val [.bool (decide (x.args=y.args))] ⟨K.os++[],K.ext,K.tch⟩):=B8 hT (by show J7 (dK (frzL (ints x.args))) (J7 (dK (frzL (ints y.args))) (some []))=_;rw[frzL_ints,frzL_ints];rfl) (Lr h) (by rfl);have no:∀{p:Prop} [Decidable p],¬p->decide p=false:=fun h=>by simp[h]
 have yes:∀{p:Prop} [Decidable p],p->decide p=true:=fun h=>by simp[h]
 have ext:x=y↔x.op=y.op/\x.ty=y.ty/\x.dst=y.dst/\x.a=y.a/\x.b=y.b/\x.n=y.n/\x.s=y.s/\x.args=y.args:=by
  cases x;cases y;simp
 by_cases h1:x.op=y.op
 . by_cases h2:x.ty=y.ty
   . by_cases h3:x.dst=y.dst
     . by_cases h4:x.a=y.a
       . by_cases h5:x.b=y.b
         . by_cases h6:x.n=y.n
           . by_cases h7:x.s=y.s
             . have e:decide (x=y)=decide (x.args=y.args):=by simp[ext,h1,h2,h3,h4,h5,h6,h7]
               simp -implicitDefEqProofs only[Ins.F,ht,e,yes h1,yes h2,yes h3,yes h4,yes h5,yes h6,yes h7,XP,seval]
             . have e:decide (x=y)=false:=no fun e=>h7 (ext.1 e).2.2.2.2.2.2.1
               simp -implicitDefEqProofs only[Ins.F,e,yes h1,yes h2,yes h3,yes h4,yes h5,yes h6,no h7,XP,seval]
           . have e:decide (x=y)=false:=no fun e=>h6 (ext.1 e).2.2.2.2.2.1
             simp -implicitDefEqProofs only[Ins.F,e,yes h1,yes h2,yes h3,yes h4,yes h5,no h6,XP,seval]
         . have e:decide (x=y)=false:=no fun e=>h5 (ext.1 e).2.2.2.2.1
           simp -implicitDefEqProofs only[Ins.F,e,yes h1,yes h2,yes h3,yes h4,no h5,XP,seval]
       . have e:decide (x=y)=false:=no fun e=>h4 (ext.1 e).2.2.2.1
         simp -implicitDefEqProofs only[Ins.F,e,yes h1,yes h2,yes h3,no h4,XP,seval]
     . have e:decide (x=y)=false:=no fun e=>h3 (ext.1 e).2.2.1
       simp -implicitDefEqProofs only[Ins.F,e,yes h1,yes h2,no h3,XP,seval]
   . have e:decide (x=y)=false:=no fun e=>h2 (ext.1 e).2.1
     simp -implicitDefEqProofs only[Ins.F,e,yes h1,no h2,XP,seval]
 . have e:decide (x=y)=false:=no fun e=>h1 (ext.1 e).1
   simp -implicitDefEqProofs only[Ins.F,e,no h1,XP,seval]
end
def j7:=g0 (fun x:Ins=>[x.F]) (fun x=>[x.O]) Ins.ok
theorem Xe{x:Ins}(h:x.ok):j7 [x.F]=some [x.O]:=C2 (a:=fun x:Ins=>[x.F]) (fun x y e=>by injection e with e _;rw[Ins.F_inj e]) x h
def j8:=g0 (fun p:Ins×Ins=>[p.1.F,p.2.F]) (fun p=>[.bool (decide (p.1=p.2))]) (fun p=>p.1.ok)
theorem Xf{x y:Ins}(h:x.ok):j8 [x.F,y.F]=some [.bool (decide (x=y))]:=C2 (a:=fun p:Ins×Ins=>[p.1.F,p.2.F]) (r:=fun p=>[.bool (decide (p.1=p.2))]) (fun x y e=>by
 injection e with e1 e;injection e with e2 _
 rw[Ins.F_inj e1,Ins.F_inj e2]) (x,y) h
theorem Ins.viewF{os:List PO}(x:Ins):viewA os x.F=some x.F:=by
 unfold Ins.F;simp -implicitDefEqProofs only[frzL_ints,XP,seval]
theorem Ins.frzF(x:Ins):frzC x.F=some x.F:=by
 unfold Ins.F;simp -implicitDefEqProofs only[frzL_ints,XP,seval]
theorem Ins.frzO(x:Ins):frzC x.O=some x.F:=by
 unfold Ins.F Ins.O;simp -implicitDefEqProofs only[frzL_ints,XP,seval]
theorem B5{X:Type}{F:X->AV}{l:List X}{i:Nat}(h:i<l.length):(l.map F)[i]?=some (F l[i]):=by rw[zqy,zql h];rfl
theorem Ls{X:Type}{F:X->AV}{l:List X}{i:Nat}(h:i<l.length):(l.take i).map F++[F l[i]]=(l.take (i+1)).map F:=by rw[zqz h,zka];rfl
section
variable {l:List Ins}{f:Bool}{i:Nat}
theorem Ub(hT:T 53=some j7){x:Ins}(h:x.ok){K:PK}:evP ⟨A0,T,A2⟩ (.call 53 [x.F] K)=some (.val (openTs K.os.length [x.O]).1 ⟨K.os++(openTs K.os.length [x.O]).2,K.ext,K.tch⟩):=B8 hT (by show J7 (viewA _ x.F) (some [])=_;rw[Ins.viewF];rfl) (Xe h) (by
 unfold Ins.O Ins.F;simp -implicitDefEqProofs only[noFL_ints,XP,seval])
theorem HH(hT:T 53=some j7)(hl:i<l.length)(hk:l[i].ok)(hs:l.length*88<=bigN):
 evP ⟨A0,T,A2⟩ (.code Qd [(0,fslN (l.map Ins.F)),(3,.msl 0 0 i 8),(4,.int .i64 i)] ⟨[.row 0 ((l.take i).map Ins.O) 8],0,[]⟩)=some (.ok .normal [(0,fslN (l.map Ins.F)),(3,.msl 0 0 (i+1) 8),(4,.int .i64 ((i+1:Nat):Int))] ⟨[.row 0 ((l.take (i+1)).map Ins.O) 8],0,[]⟩):=by
 unfold Qd;have hlt:decide ((i:Int)<((l.map Ins.F).length:Int))=true:=by simp[hl]
 have hi:=B5 (F:=Ins.F) hl;have hm:((l.take i).map Ins.O).length=i:=by simp;omega
 have hw:=A8 (i:=i) (by simp only[bigN]at hs;omega);have hz:(i+1)*88<=140737488355328:=by simp only[bigN]at hs;omega
 have ht:=fun K=>Ub (K:=K) hT hk
 have hx:=Ls (F:=Ins.O) hl;simp only[Ins.F]at ht hi;simp only[Ins.O]at hx;simp -implicitDefEqProofs only[hlt,hi,hm,hw,hz,Ins.O,ht,hx,XP,seval]
theorem HI(hT:T 53=some j7)(hl:0<l.length)(hk:l[0].ok)(hs:l.length*88<=bigN):
 evP ⟨A0,T,A2⟩ (.code Qd [(0,fslN (l.map Ins.F)),(3,.nilsl),(4,.int .i64 0)] ⟨[],0,[]⟩)=some (.ok .normal [(0,fslN (l.map Ins.F)),(3,.msl 0 0 1 8),(4,.int .i64 ((1:Nat):Int))] ⟨[.row 0 ((l.take 1).map Ins.O) 8],0,[]⟩):=by
 unfold Qd;have hlt:decide ((0:Int)<((l.map Ins.F).length:Int))=true:=by simp[hl]
 have hi:=B5 (F:=Ins.F) hl;have hi:=ix_fslN (te:=u5) (k:=.i64) (i:=0) hi rfl;have hi:Qp u5 (fslN (l.map Ins.F)) (.int .i64 0)=some (.fptr (Ins.F l[0]) 0):=hi;have ht:=fun K=>Ub (K:=K) hT hk
 have hx:=Ls (F:=Ins.O) hl;rw[zqu]at hx;have hx:[Ins.O l[0]]=(l.take 1).map Ins.O:=hx;simp only[Ins.F]at ht hi;rw[<-hx];simp -implicitDefEqProofs only[hlt,hi,Ins.O,ht,show IntKind.i64.wrap (0+1)=((1:Nat):Int)from rfl,XP,Nat.reduceAdd,Nat.reduceSub,Nat.reduceLT,Nat.reduceLeDiff,Nat.reduceEqDiff,Nat.reduceMul,↓reduceIte]
theorem HJ{y:AV}{K:PK}:∃fr',evP ⟨A0,T,A2⟩ (.code Qd [(0,fslN (l.map Ins.F)),(3,y),(4,.int .i64 l.length)] K)=some (.ok (.exit 0) fr' K)/\lookP fr' 3=y:=by
 unfold Qd;have hlt:decide ((l.length:Int)<((l.map Ins.F).length:Int))=false:=by simp
 simp -implicitDefEqProofs only[hlt,XP,seval];exact⟨_,rfl,rfl⟩
theorem Np(hT:T 53=some j7)(hk:∀x∈l,x.ok)(hs:l.length*88<=bigN):AM.Comes ⟨A0,T,A2⟩ 38 [fslN (l.map Ins.F)] [ownd 0 8 (l.map Ins.O)]:=by
 obtain⟨fr',y,os,h1,h2,h3⟩:=aD (P:=⟨A0,T,A2⟩) (c:=Qd) (A:=fslN (l.map Ins.F)) (O:=Ins.O) (sz:=8) (l:=l) (fun h=>HI hT h (hk _ (zqc h)) hs) (fun i h=>HH hT h (hk _ (zqc h)) hs) (fun y K=>HJ);refine⟨[y],⟨os,0,[]⟩,?_,D6 h3⟩;rw[A6 (c:=NU) (nt:=20) (rs:=[.tmp 2]) rfl (by simp)];unfold NU K0;rcases h3 with⟨_,rfl,rfl⟩|⟨rfl,rfl⟩
 . simp -implicitDefEqProofs only[h1,h2,XP,seval]
 . simp -implicitDefEqProofs only[h1,h2,XP,seval]
end
theorem map_inj{X:Type}{F:X->AV}(hF:∀x y,F x=F y->x=y):∀{l m:List X},l.map F=m.map F->l=m
 |[],[],_=>rfl
 |[],_::_,h=>by cases h
 |_::_,[],h=>by cases h
 | x::l,y::m,h=>by
  injection h with h1 h2
  rw[hF _ _ h1,map_inj hF h2]
def Y6:=g0 (fun l:List Ins=>[fslN (l.map Ins.F)]) (fun l=>[ownd 0 8 (l.map Ins.O)]) (fun l=>(∀x∈l,x.ok)/\l.length*88<=bigN)
theorem Uc{l:List Ins}(h1:∀x∈l,x.ok)(h2:l.length*88<=bigN):Y6 [fslN (l.map Ins.F)]=some [ownd 0 8 (l.map Ins.O)]:=C2 (a:=fun l:List Ins=>[fslN (l.map Ins.F)]) (fun x y e=>by injection e with e _;rw[map_inj (fun _ _=>Ins.F_inj) (fslN_inj e)]) l ⟨h1,h2⟩
def Y7:=g0 (fun p:List Ins×List Ins=>[fslN (p.1.map Ins.F),fslN (p.2.map Ins.F)]) (fun p=>[.bool (decide (p.1=p.2))]) (fun p=>(∀x∈p.1,x.ok)/\p.1.length*88<=bigN)
theorem Ud{l m:List Ins}(h1:∀x∈l,x.ok)(h2:l.length*88<=bigN):Y7 [fslN (l.map Ins.F),fslN (m.map Ins.F)]=some [.bool (decide (l=m))]:=C2 (a:=fun p:List Ins×List Ins=>[fslN (p.1.map Ins.F),fslN (p.2.map Ins.F)]) (r:=fun p=>[.bool (decide (p.1=p.2))]) (fun x y e=>by
 injection e with e1 e;injection e with e2 _
 rw[map_inj (fun _ _=>Ins.F_inj) (fslN_inj e1),map_inj (fun _ _=>Ins.F_inj) (fslN_inj e2)]) (l,m) ⟨h1,h2⟩
theorem Ue(hT:T 57=some j8){x y:Ins}(h:x.ok){K:PK}:evP ⟨A0,T,A2⟩ (.call 57 [x.F,y.F] K)=some (.val [.bool (decide (x=y))] ⟨K.os++[],K.ext,K.tch⟩):=B8 hT (by show J7 (viewA _ x.F) (J7 (viewA _ y.F) (some []))=_;rw[Ins.viewF,Ins.viewF];rfl) (Xf h) (by
 unfold Ins.F;simp -implicitDefEqProofs only[XP,seval])
section
variable {l m:List Ins}{i:Nat}
theorem HK(hT:T 57=some j8)(hl:i<l.length)(hm:i<m.length)(hk:l[i].ok)(hs:l.length*88<=bigN)(he:l[i]=m[i]):
 evP ⟨A0,T,A2⟩ (.code Qe [(0,fslN (l.map Ins.F)),(1,fslN (m.map Ins.F)),(5,.int .i64 i)] ⟨[],0,[]⟩)=some (.ok .normal [(0,fslN (l.map Ins.F)),(1,fslN (m.map Ins.F)),(5,.int .i64 ((i+1:Nat):Int))] ⟨[],0,[]⟩):=by
 unfold Qe;have hlt:decide ((i:Int)<((l.map Ins.F).length:Int))=true:=by simp[hl]
 have h1:=B5 (F:=Ins.F) hl;have h2:=B5 (F:=Ins.F) hm;have hw:=A8 (i:=i) (by simp only[bigN]at hs;omega);have ht:=fun K=>Ue (K:=K) hT (y:=m[i]) hk
 rw[F4 he]at ht;simp only[Ins.F]at ht h1 h2;simp -implicitDefEqProofs only[hlt,h1,h2,hw,ht,u_not,XP,seval]
theorem HL(hT:T 57=some j8)(hl:i<l.length)(hm:i<m.length)(hk:l[i].ok)(he:¬l[i]=m[i]):
 ∃fr',evP ⟨A0,T,A2⟩ (.code Qe [(0,fslN (l.map Ins.F)),(1,fslN (m.map Ins.F)),(5,.int .i64 i)] ⟨[],0,[]⟩)=some (.ok .ret fr' ⟨[],0,[]⟩)/\lookP fr' 4=.bool false:=by
 unfold Qe;have hlt:decide ((i:Int)<((l.map Ins.F).length:Int))=true:=by simp[hl]
 have h1:=B5 (F:=Ins.F) hl;have h2:=B5 (F:=Ins.F) hm;have ht:=fun K=>Ue (K:=K) hT (y:=m[i]) hk
 rw[L7 he]at ht;simp only[Ins.F]at ht h1 h2;simp -implicitDefEqProofs only[hlt,h1,h2,ht,u_not,XP,seval];exact⟨_,rfl,rfl⟩
theorem HM:∃fr',evP ⟨A0,T,A2⟩ (.code Qe [(0,fslN (l.map Ins.F)),(1,fslN (m.map Ins.F)),(5,.int .i64 l.length)] ⟨[],0,[]⟩)=some (.ok (.exit 0) fr' ⟨[],0,[]⟩):=by
 unfold Qe;have hlt:decide ((l.length:Int)<((l.map Ins.F).length:Int))=false:=by simp
 simp -implicitDefEqProofs only[hlt,XP,seval];exact⟨_,rfl⟩
theorem Nq(hT:T 57=some j8)(hk:∀x∈l,x.ok)(hs:l.length*88<=bigN):AM.Comes ⟨A0,T,A2⟩ 46 [fslN (l.map Ins.F),fslN (m.map Ins.F)] [.bool (decide (l=m))]:=by
 refine⟨[.bool (decide (l=m))],⟨[],0,[]⟩,?_,C1 rfl zqb rfl rfl rfl⟩;rw[A6 (c:=NY) (nt:=27) (rs:=[.tmp 4]) rfl (by simp)];unfold NY K0;by_cases hm:l.length=m.length
 . have hn:(!decide (((l.map Ins.F).length:Int)=((m.map Ins.F).length:Int)))=false:=by simp[hm]
   rcases same_loop (P:=⟨A0,T,A2⟩) (c:=Qe) (A:=fslN (l.map Ins.F)) (B:=fslN (m.map Ins.F)) hm (fun i h h' e=>HK hT h h' (hk _ (zqc h)) hs e) (fun i h h' e=>HL hT h h' (hk _ (zqc h)) e) HM with⟨h1,fr',h2⟩|⟨h1,fr',h2,h3⟩
   . simp -implicitDefEqProofs only[hn,F4 h1,h2,XP,seval]
   . simp -implicitDefEqProofs only[hn,L7 h1,h2,h3,XP,seval]
 . have hn:(!decide (((l.map Ins.F).length:Int)=((m.map Ins.F).length:Int)))=true:=by simp;omega
   have h1:¬l=m:=fun h=>hm (by rw[h])
   simp -implicitDefEqProofs only[hn,L7 h1,XP,seval]
end
structure Endd where
 kind:Int
 a:Int
 to:Int
 els:Int
deriving DecidableEq
structure Blk where
 code:List Ins
 e:Endd
deriving DecidableEq
def Endd.F(e:Endd):AV:=.agg [.int .i64 e.kind,.int .i64 e.a,.int .i64 e.to,.int .i64 e.els]
def Blk.F(x:Blk):AV:=.agg [fslN (x.code.map Ins.F),.int .i64 x.e.kind,.int .i64 x.e.a,.int .i64 x.e.to,.int .i64 x.e.els]
def Blk.O(x:Blk):AV:=.agg [ownd 0 8 (x.code.map Ins.O),.int .i64 x.e.kind,.int .i64 x.e.a,.int .i64 x.e.to,.int .i64 x.e.els]
def Blk.ok(x:Blk):Prop:=(∀y∈x.code,y.ok)/\x.code.length*88<=bigN
theorem Blk.F_inj{x y:Blk}(h:x.F=y.F):x=y:=by
 obtain⟨c,e⟩:=x;obtain⟨c',e'⟩:=y;cases e;cases e';simp only[Blk.F,AV.agg.injEq,List.cons.injEq,AV.int.injEq,true_and,and_true]at h;obtain⟨h,rfl,rfl,rfl,rfl⟩:=h;rw[map_inj (fun _ _=>Ins.F_inj) (fslN_inj h)]
theorem frzL_insF(l:List Ins):frzL (l.map Ins.F)=some (l.map Ins.F):=m9 Ins.frzF l
theorem qC(l:List Ins):frzL (l.map Ins.O)=some (l.map Ins.F):=m9 Ins.frzO l
theorem Uf{X:Type}{O:X->AV}(h:∀x,noF (O x)=true):∀l:List X,noFL (l.map O)=true
 |[]=>rfl
 |x::l=>by show(noF (O x)&&noFL (l.map O))=true;rw[h,Uf h l];rfl
theorem Ins.noF(x:Ins):noF x.O=true:=by
 unfold Ins.O;simp -implicitDefEqProofs only[noFL_ints,XP,seval]
theorem noFL_insO(l:List Ins):noFL (l.map Ins.O)=true:=Uf Ins.noF l
theorem Blk.viewF{os:List PO}(x:Blk):viewA os x.F=some x.F:=by
 unfold Blk.F;simp -implicitDefEqProofs only[frzL_insF,XP,seval]
theorem Blk.frzF(x:Blk):frzC x.F=some x.F:=by
 unfold Blk.F;simp -implicitDefEqProofs only[frzL_insF,XP,seval]
theorem Blk.frzO(x:Blk):frzC x.O=some x.F:=by
 unfold Blk.F Blk.O;simp -implicitDefEqProofs only[qC,XP,seval]
theorem Blk.noF(x:Blk):noF x.O=true:=by
 unfold Blk.O;simp -implicitDefEqProofs only[noFL_insO,XP,seval]
theorem Qg(hT:T 38=some Y6){l:List Ins}(h1:∀x∈l,x.ok)(h2:l.length*88<=bigN){K:PK}:evP ⟨A0,T,A2⟩ (.call 38 [fslN (l.map Ins.F)] K)=some (.val (openTs K.os.length [ownd 0 8 (l.map Ins.O)]).1 ⟨K.os++(openTs K.os.length [ownd 0 8 (l.map Ins.O)]).2,K.ext,K.tch⟩):=B8 hT (by show J7 (dK (frzL (l.map Ins.F))) (some [])=_;rw[frzL_insF];rfl) (Uc h1 h2) (by simp -implicitDefEqProofs only[noFL_insO,XP,seval])
section
variable {l:List Blk}{i:Nat}
theorem HN(hT:T 38=some Y6)(hl:i<l.length)(hk:l[i].ok)(hs:l.length*56<=bigN):
 evP ⟨A0,T,A2⟩ (.code Py [(0,fslN (l.map Blk.F)),(3,.msl 0 0 i 5),(4,.int .i64 i)] ⟨[.row 0 ((l.take i).map Blk.O) 5],0,[]⟩)=some (.ok .normal [(0,fslN (l.map Blk.F)),(3,.msl 0 0 (i+1) 5),(4,.int .i64 ((i+1:Nat):Int))] ⟨[.row 0 ((l.take (i+1)).map Blk.O) 5],0,[]⟩):=by
 unfold Py;have hlt:decide ((i:Int)<((l.map Blk.F).length:Int))=true:=by simp[hl]
 have hi:=B5 (F:=Blk.F) hl;have hm:((l.take i).map Blk.O).length=i:=by simp;omega
 have hw:=A8 (i:=i) (by simp only[bigN]at hs;omega);have hz:(i+1)*56<=140737488355328:=by simp only[bigN]at hs;omega
 have ht:=fun K=>Qg (K:=K) hT hk.1 hk.2
 have hx:=Ls (F:=Blk.O) hl;simp only[Blk.F]at hi;simp only[Blk.O]at hx;simp -implicitDefEqProofs only[hlt,hi,hm,hw,hz,Blk.O,ht,hx,XP,seval]
theorem HO(hT:T 38=some Y6)(hl:0<l.length)(hk:l[0].ok)(hs:l.length*56<=bigN):
 evP ⟨A0,T,A2⟩ (.code Py [(0,fslN (l.map Blk.F)),(3,.nilsl),(4,.int .i64 0)] ⟨[],0,[]⟩)=some (.ok .normal [(0,fslN (l.map Blk.F)),(3,.msl 0 0 1 5),(4,.int .i64 ((1:Nat):Int))] ⟨[.row 0 ((l.take 1).map Blk.O) 5],0,[]⟩):=by
 unfold Py;have hlt:decide ((0:Int)<((l.map Blk.F).length:Int))=true:=by simp[hl]
 have hi:=B5 (F:=Blk.F) hl;have hi:=ix_fslN (te:=Ed) (k:=.i64) (i:=0) hi rfl;have hi:Qp Ed (fslN (l.map Blk.F)) (.int .i64 0)=some (.fptr (Blk.F l[0]) 0):=hi;have ht:=fun K=>Qg (K:=K) hT hk.1 hk.2
 have hx:=Ls (F:=Blk.O) hl;rw[zqu]at hx;have hx:[Blk.O l[0]]=(l.take 1).map Blk.O:=hx;simp only[Blk.F]at hi;rw[<-hx];simp -implicitDefEqProofs only[hlt,hi,Blk.O,ht,show IntKind.i64.wrap (0+1)=((1:Nat):Int)from rfl,XP,Nat.reduceAdd,Nat.reduceSub,Nat.reduceLT,Nat.reduceLeDiff,Nat.reduceEqDiff,Nat.reduceMul,↓reduceIte]
theorem HP{y:AV}{K:PK}:∃fr',evP ⟨A0,T,A2⟩ (.code Py [(0,fslN (l.map Blk.F)),(3,y),(4,.int .i64 l.length)] K)=some (.ok (.exit 0) fr' K)/\lookP fr' 3=y:=by
 unfold Py;have hlt:decide ((l.length:Int)<((l.map Blk.F).length:Int))=false:=by simp
 simp -implicitDefEqProofs only[hlt,XP,seval];exact⟨_,rfl,rfl⟩
theorem Nr(hT:T 38=some Y6)(hk:∀x∈l,x.ok)(hs:l.length*56<=bigN):AM.Comes ⟨A0,T,A2⟩ 19 [fslN (l.map Blk.F)] [ownd 0 5 (l.map Blk.O)]:=by
 obtain⟨fr',y,os,h1,h2,h3⟩:=aD (P:=⟨A0,T,A2⟩) (c:=Py) (A:=fslN (l.map Blk.F)) (O:=Blk.O) (sz:=5) (l:=l) (fun h=>HO hT h (hk _ (zqc h)) hs) (fun i h=>HN hT h (hk _ (zqc h)) hs) (fun y K=>HP);refine⟨[y],⟨os,0,[]⟩,?_,D6 h3⟩;rw[A6 (c:=NG) (nt:=27) (rs:=[.tmp 2]) rfl (by simp)];unfold NG K0;rcases h3 with⟨_,rfl,rfl⟩|⟨rfl,rfl⟩
 . simp -implicitDefEqProofs only[h1,h2,XP,seval]
 . simp -implicitDefEqProofs only[h1,h2,XP,seval]
theorem bO{e e':Endd}{K:PK}:a8 A0 .eql 43 (.agg [.int .i64 e.kind,.int .i64 e.a,.int .i64 e.to,.int .i64 e.els]) (.agg [.int .i64 e'.kind,.int .i64 e'.a,.int .i64 e'.to,.int .i64 e'.els]) K=.val (.bool (decide (e=e'))) K:=by
 have h:∀a b:Int,xL (.int .i64 a) (.int .i64 b)=some (decide (a=b)):=fun a b=>by
  show some (intEq a b)=_
  rw[x7];by_cases e:a=b<;>simp[e]
 rw[bp _ _ rfl rfl];show Hn (A7 (R0 (xL (.int .i64 e.kind) (.int .i64 e'.kind)) none (R0 (xL (.int .i64 e.a) (.int .i64 e'.a)) none (R0 (xL (.int .i64 e.to) (.int .i64 e'.to)) none (R0 (xL (.int .i64 e.els) (.int .i64 e'.els)) none (some true) (some false)) (some false)) (some false)) (some false)) F8) K=_
 simp only[h];obtain⟨a,b,c,d⟩:=e;obtain⟨a',b',c',d'⟩:=e';simp only[Endd.mk.injEq];by_cases h1:a=a'
 . by_cases h2:b=b'
   . by_cases h3:c=c'
     . by_cases h4:d=d'
       . rw[F4 h1,F4 h2,F4 h3,F4 h4,F4 (p:=a=a'/\b=b'/\c=c'/\d=d') ⟨h1,h2,h3,h4⟩];rfl
       . rw[F4 h1,F4 h2,F4 h3,L7 h4,L7 (p:=a=a'/\b=b'/\c=c'/\d=d') (fun h=>h4 h.2.2.2)];rfl
     . rw[F4 h1,F4 h2,L7 h3,L7 (p:=a=a'/\b=b'/\c=c'/\d=d') (fun h=>h3 h.2.2.1)];rfl
   . rw[F4 h1,L7 h2,L7 (p:=a=a'/\b=b'/\c=c'/\d=d') (fun h=>h2 h.2.1)];rfl
 . rw[L7 h1,L7 (p:=a=a'/\b=b'/\c=c'/\d=d') (fun h=>h1 h.1)];rfl
end
def Bf:=g0 (fun l:List Blk=>[fslN (l.map Blk.F)]) (fun l=>[ownd 0 5 (l.map Blk.O)]) (fun l=>(∀x∈l,x.ok)/\l.length*56<=bigN)
theorem Ug{l:List Blk}(h1:∀x∈l,x.ok)(h2:l.length*56<=bigN):Bf [fslN (l.map Blk.F)]=some [ownd 0 5 (l.map Blk.O)]:=C2 (a:=fun l:List Blk=>[fslN (l.map Blk.F)]) (fun x y e=>by injection e with e _;rw[map_inj (fun _ _=>Blk.F_inj) (fslN_inj e)]) l ⟨h1,h2⟩
def Bg:=g0 (fun p:List Blk×List Blk=>[fslN (p.1.map Blk.F),fslN (p.2.map Blk.F)]) (fun p=>[.bool (decide (p.1=p.2))]) (fun p=>(∀x∈p.1,x.ok)/\p.1.length*56<=bigN)
theorem Uh{l m:List Blk}(h1:∀x∈l,x.ok)(h2:l.length*56<=bigN):Bg [fslN (l.map Blk.F),fslN (m.map Blk.F)]=some [.bool (decide (l=m))]:=C2 (a:=fun p:List Blk×List Blk=>[fslN (p.1.map Blk.F),fslN (p.2.map Blk.F)]) (r:=fun p=>[.bool (decide (p.1=p.2))]) (fun x y e=>by
 injection e with e1 e;injection e with e2 _
 rw[map_inj (fun _ _=>Blk.F_inj) (fslN_inj e1),map_inj (fun _ _=>Blk.F_inj) (fslN_inj e2)]) (l,m) ⟨h1,h2⟩
theorem Qh(hT:T 46=some Y7){l m:List Ins}(h1:∀x∈l,x.ok)(h2:l.length*88<=bigN){K:PK}:evP ⟨A0,T,A2⟩ (.call 46 [fslN (l.map Ins.F),fslN (m.map Ins.F)] K)=some (.val [.bool (decide (l=m))] ⟨K.os++[],K.ext,K.tch⟩):=B8 hT (by show J7 (dK (frzL (l.map Ins.F))) (J7 (dK (frzL (m.map Ins.F))) (some []))=_;rw[frzL_insF,frzL_insF];rfl) (Ud h1 h2) (by simp -implicitDefEqProofs only[XP,seval])
section
variable {l m:List Blk}{i:Nat}
theorem HQ(hT:T 46=some Y7)(hl:i<l.length)(hm:i<m.length)(hk:l[i].ok)(hs:l.length*56<=bigN)(he:l[i]=m[i]):
 evP ⟨A0,T,A2⟩ (.code Qc [(0,fslN (l.map Blk.F)),(1,fslN (m.map Blk.F)),(5,.int .i64 i)] ⟨[],0,[]⟩)=some (.ok .normal [(0,fslN (l.map Blk.F)),(1,fslN (m.map Blk.F)),(5,.int .i64 ((i+1:Nat):Int))] ⟨[],0,[]⟩):=by
 unfold Qc;have hlt:decide ((i:Int)<((l.map Blk.F).length:Int))=true:=by simp[hl]
 have h1:=B5 (F:=Blk.F) hl;have h2:=B5 (F:=Blk.F) hm;have hw:=A8 (i:=i) (by simp only[bigN]at hs;omega);have ht:=fun K=>Qh (K:=K) hT (m:=m[i].code) hk.1 hk.2
 have e1:l[i].e=m[i].e:=by rw[he]
 have e2:l[i].code=m[i].code:=by rw[he]
 rw[F4 e2]at ht;simp only[Blk.F]at h1 h2;simp -implicitDefEqProofs only[hlt,h1,h2,hw,ht,u_not,bO,F4 e1,XP,seval]
theorem HR(hT:T 46=some Y7)(hl:i<l.length)(hm:i<m.length)(hk:l[i].ok)(he:¬l[i]=m[i]):
 ∃fr',evP ⟨A0,T,A2⟩ (.code Qc [(0,fslN (l.map Blk.F)),(1,fslN (m.map Blk.F)),(5,.int .i64 i)] ⟨[],0,[]⟩)=some (.ok .ret fr' ⟨[],0,[]⟩)/\lookP fr' 4=.bool false:=by
 unfold Qc;have hlt:decide ((i:Int)<((l.map Blk.F).length:Int))=true:=by simp[hl]
 have h1:=B5 (F:=Blk.F) hl;have h2:=B5 (F:=Blk.F) hm;have ht:=fun K=>Qh (K:=K) hT (m:=m[i].code) hk.1 hk.2
 simp only[Blk.F]at h1 h2;by_cases e1:l[i].e=m[i].e
 . have e2:¬l[i].code=m[i].code:=fun h=>he (by cases h3:l[i];cases h4:m[i];rw[h3,h4]at e1 h;cases e1;cases h;rfl)
   rw[L7 e2]at ht;simp -implicitDefEqProofs only[hlt,h1,h2,ht,u_not,bO,F4 e1,XP,seval];exact⟨_,rfl,rfl⟩
 . simp -implicitDefEqProofs only[hlt,h1,h2,u_not,bO,L7 e1,XP,seval]
   exact⟨_,rfl,rfl⟩
theorem HS:∃fr',evP ⟨A0,T,A2⟩ (.code Qc [(0,fslN (l.map Blk.F)),(1,fslN (m.map Blk.F)),(5,.int .i64 l.length)] ⟨[],0,[]⟩)=some (.ok (.exit 0) fr' ⟨[],0,[]⟩):=by
 unfold Qc;have hlt:decide ((l.length:Int)<((l.map Blk.F).length:Int))=false:=by simp
 simp -implicitDefEqProofs only[hlt,XP,seval];exact⟨_,rfl⟩
theorem Ns(hT:T 46=some Y7)(hk:∀x∈l,x.ok)(hs:l.length*56<=bigN):AM.Comes ⟨A0,T,A2⟩ 34 [fslN (l.map Blk.F),fslN (m.map Blk.F)] [.bool (decide (l=m))]:=by
 refine⟨[.bool (decide (l=m))],⟨[],0,[]⟩,?_,C1 rfl zqb rfl rfl rfl⟩;rw[A6 (c:=NQ) (nt:=42) (rs:=[.tmp 4]) rfl (by simp)];unfold NQ K0;by_cases hm:l.length=m.length
 . have hn:(!decide (((l.map Blk.F).length:Int)=((m.map Blk.F).length:Int)))=false:=by simp[hm]
   rcases same_loop (P:=⟨A0,T,A2⟩) (c:=Qc) (A:=fslN (l.map Blk.F)) (B:=fslN (m.map Blk.F)) hm (fun i h h' e=>HQ hT h h' (hk _ (zqc h)) hs e) (fun i h h' e=>HR hT h h' (hk _ (zqc h)) e) HS with⟨h1,fr',h2⟩|⟨h1,fr',h2,h3⟩
   . simp -implicitDefEqProofs only[hn,F4 h1,h2,XP,seval]
   . simp -implicitDefEqProofs only[hn,L7 h1,h2,h3,XP,seval]
 . have hn:(!decide (((l.map Blk.F).length:Int)=((m.map Blk.F).length:Int)))=true:=by simp;omega
   have h1:¬l=m:=fun h=>hm (by rw[h])
   simp -implicitDefEqProofs only[hn,L7 h1,XP,seval]
end
structure Cod where
 name:List UInt8
 ty:Int
 ps:Int
 regs:List Int
 blocks:List Blk
deriving DecidableEq
def Cod.F(x:Cod):AV:=.agg [.str x.name,.int .i64 x.ty,.int .i64 x.ps,fslN (ints x.regs),fslN (x.blocks.map Blk.F)]
def Cod.O(x:Cod):AV:=.agg [.str x.name,.int .i64 x.ty,.int .i64 x.ps,ownd 0 1 (ints x.regs),ownd 0 5 (x.blocks.map Blk.O)]
def Cod.cs(x:Cod)(u v:AV):List AV:=[.str x.name,.int .i64 x.ty,.int .i64 x.ps,u,v]
def Cod.ok(x:Cod):Prop:=x.regs.length*8<=bigN/\(∀y∈x.blocks,y.ok)/\x.blocks.length*56<=bigN
theorem Cod.F_inj{x y:Cod}(h:x.F=y.F):x=y:=by
 cases x;cases y;simp only[Cod.F,AV.agg.injEq,List.cons.injEq,AV.int.injEq,AV.str.injEq,true_and,and_true]at h;obtain⟨rfl,rfl,rfl,h1,h2⟩:=h;rw[ints_inj (fslN_inj h1),map_inj (fun _ _=>Blk.F_inj) (fslN_inj h2)]
theorem frzL_blkF(l:List Blk):frzL (l.map Blk.F)=some (l.map Blk.F):=m9 Blk.frzF l
theorem qE(l:List Blk):frzL (l.map Blk.O)=some (l.map Blk.F):=m9 Blk.frzO l
theorem noFL_blkO(l:List Blk):noFL (l.map Blk.O)=true:=Uf Blk.noF l
theorem Cod.viewF{os:List PO}(x:Cod):viewA os x.F=some x.F:=by
 unfold Cod.F;simp -implicitDefEqProofs only[frzL_blkF,frzL_ints,XP,seval]
theorem Cod.frzF(x:Cod):frzC x.F=some x.F:=by
 unfold Cod.F;simp -implicitDefEqProofs only[frzL_blkF,frzL_ints,XP,seval]
theorem Cod.noF(x:Cod):noF x.O=true:=by
 unfold Cod.O;simp -implicitDefEqProofs only[noFL_blkO,noFL_ints,XP,seval]
theorem Yx(hT:T 18=some G2){l:List Int}(h:l.length*8<=bigN){K:PK}:evP ⟨A0,T,A2⟩ (.call 18 [fslN (ints l)] K)=some (.val (openTs K.os.length [ownd 0 1 (ints l)]).1 ⟨K.os++(openTs K.os.length [ownd 0 1 (ints l)]).2,K.ext,K.tch⟩):=B8 hT (by show J7 (dK (frzL (ints l))) (some [])=_;rw[frzL_ints];rfl) (u6 h) (by rfl)
theorem fO(hT:T 19=some Bf){l:List Blk}(h1:∀x∈l,x.ok)(h2:l.length*56<=bigN){K:PK}:evP ⟨A0,T,A2⟩ (.call 19 [fslN (l.map Blk.F)] K)=some (.val (openTs K.os.length [ownd 0 5 (l.map Blk.O)]).1 ⟨K.os++(openTs K.os.length [ownd 0 5 (l.map Blk.O)]).2,K.ext,K.tch⟩):=B8 hT (by show J7 (dK (frzL (l.map Blk.F))) (some [])=_;rw[frzL_blkF];rfl) (Ug h1 h2) (by simp -implicitDefEqProofs only[noFL_blkO,XP,seval])
theorem qF(hT:T 33=some Ca){l m:List Int}(h:l.length*8<=bigN){K:PK}:evP ⟨A0,T,A2⟩ (.call 33 [fslN (ints l),fslN (ints m)] K)=some (.val [.bool (decide (l=m))] ⟨K.os++[],K.ext,K.tch⟩):=B8 hT (by show J7 (dK (frzL (ints l))) (J7 (dK (frzL (ints m))) (some []))=_;rw[frzL_ints,frzL_ints];rfl) (Lr h) (by rfl)
theorem fP(hT:T 34=some Bg){l m:List Blk}(h1:∀x∈l,x.ok)(h2:l.length*56<=bigN){K:PK}:evP ⟨A0,T,A2⟩ (.call 34 [fslN (l.map Blk.F),fslN (m.map Blk.F)] K)=some (.val [.bool (decide (l=m))] ⟨K.os++[],K.ext,K.tch⟩):=B8 hT (by show J7 (dK (frzL (l.map Blk.F))) (J7 (dK (frzL (m.map Blk.F))) (some []))=_;rw[frzL_blkF,frzL_blkF];rfl) (Uh h1 h2) (by simp -implicitDefEqProofs only[XP,seval])
theorem Ui(h21:T 18=some G2)(h22:T 19=some Bf){x:Cod}(h:x.ok):AM.Comes ⟨A0,T,A2⟩ 6 [x.F] [x.O]:=by
 refine⟨[.agg (x.cs (.msl 1 0 (ints x.regs).length 1) (.msl 2 0 (x.blocks.map Blk.O).length 5))],⟨[.row 1 [.agg (x.cs (.msl 1 0 (ints x.regs).length 1) (.msl 2 0 (x.blocks.map Blk.O).length 5))] 5,.row 0 (ints x.regs) 1,.row 0 (x.blocks.map Blk.O) 5],0,[]⟩,?_,?_⟩
 . rw[A6 (c:=p6) (nt:=12) (rs:=[.cell 2 31]) rfl (by simp)]
   unfold p6 K0;have ht1:=fun K=>Yx (K:=K) h21 h.1
   have ht2:=fun K=>fO (K:=K) h22 h.2.1 h.2.2
   simp -implicitDefEqProofs only[Cod.F,Cod.cs,ht1,ht2,XP,seval]
 . refine C1 (vs':=[.agg (x.cs (.msl 1 0 (ints x.regs).length 1) (.msl 2 0 (x.blocks.map Blk.O).length 5))]) (os':=[.row 1 [.agg (x.cs (.msl 1 0 (ints x.regs).length 1) (.msl 2 0 (x.blocks.map Blk.O).length 5))] 5,.row 0 (ints x.regs) 1,.row 0 (x.blocks.map Blk.O) 5]) ?_ ?_ (us:=[.agg (x.cs (.msl 0 0 (ints x.regs).length 1) (.msl 1 0 (x.blocks.map Blk.O).length 5))]) (ps:=[.row 0 (ints x.regs) 1,.row 0 (x.blocks.map Blk.O) 5]) ?_ ?_ ?_
   all_goals simp -implicitDefEqProofs only[Cod.cs,Cod.O,XP,seval]
theorem Uj(h12:T 33=some Ca)(h28:T 34=some Bg){x y:Cod}(h:x.ok):AM.Comes ⟨A0,T,A2⟩ 13 [x.F,y.F] [.bool (decide (x=y))]:=by
 refine⟨[.bool (decide (x=y))],⟨[],0,[]⟩,?_,C1 rfl zqb rfl rfl rfl⟩;rw[A6 (c:=NB) (nt:=38) (rs:=[.tmp 4]) rfl (by simp)];unfold NB K0;have ht:=fun K=>qF (K:=K) h12 (m:=y.regs) h.1
 have ht2:=fun K=>fP (K:=K) h28 (m:=y.blocks) h.2.1 h.2.2
 have ext:x=y↔x.name=y.name/\x.ty=y.ty/\x.ps=y.ps/\x.regs=y.regs/\x.blocks=y.blocks:=by
  cases x;cases y;simp
 by_cases h1:x.name=y.name
 . by_cases h2:x.ty=y.ty
   . by_cases h3:x.ps=y.ps
     . by_cases h4:x.regs=y.regs
       . have e:decide (x=y)=decide (x.blocks=y.blocks):=by simp[ext,h1,h2,h3,h4]
         rw[F4 h4]at ht;simp -implicitDefEqProofs only[Cod.F,ht,ht2,e,F4 h1,F4 h2,F4 h3,XP,seval]
       . have e:decide (x=y)=false:=L7 fun e=>h4 (ext.1 e).2.2.2.1
         rw[L7 h4]at ht;simp -implicitDefEqProofs only[Cod.F,ht,e,F4 h1,F4 h2,F4 h3,XP,seval]
     . have e:decide (x=y)=false:=L7 fun e=>h3 (ext.1 e).2.2.1
       simp -implicitDefEqProofs only[Cod.F,e,F4 h1,F4 h2,L7 h3,XP,seval]
   . have e:decide (x=y)=false:=L7 fun e=>h2 (ext.1 e).2.1
     simp -implicitDefEqProofs only[Cod.F,e,F4 h1,L7 h2,XP,seval]
 . have e:decide (x=y)=false:=L7 fun e=>h1 (ext.1 e).1
   simp -implicitDefEqProofs only[Cod.F,e,L7 h1,XP,seval]
section
variable {l:List Int}
theorem mS{t:Nat}{K:PK}(h:N8 A0 t=.slc):a8 A0 .eql t .nilsl .nilsl K=.val (.bool true) K:=by rw[bp _ _ rfl rfl,h];rfl
theorem mT{t:Nat}{K:PK}(h:N8 A0 t=.slc):a8 A0 .eql t (.fsl [] false) .nilsl K=.val (.bool false) K:=by rw[bp _ _ rfl rfl,h];rfl
theorem fQ{t:Nat}{K:PK}{e:AV}{es:List AV}(h:N8 A0 t=.slc):a8 A0 .eql t (fslN (e::es)) .nilsl K=.val (.bool false) K:=by rw[bp _ _ rfl rfl,h];rfl
theorem uD(n:Nat):L8 n []=true:=rfl
theorem qG:AM.Comes ⟨A0,T,A2⟩ 55 [.nilsl] [ownd 0 1 (ints [])]:=by
 refine⟨[.nilsl],⟨[],0,[]⟩,?_,D6 (.inl ⟨rfl,rfl,rfl⟩)⟩;rw[A6 (c:=BC) (nt:=8) (rs:=[.tmp 2]) rfl (by simp)];unfold BC K0;simp -implicitDefEqProofs only[mS (t:=28) rfl,XP,seval]
theorem qH:AM.Comes ⟨A0,T,A2⟩ 55 [.fsl [] false] [ownd 0 1 (ints [])]:=by
 refine⟨[.msl 0 0 0 1],⟨[.row 0 [] 1],0,[]⟩,?_,D6 (.inr ⟨rfl,rfl⟩)⟩;rw[A6 (c:=BC) (nt:=8) (rs:=[.tmp 2]) rfl (by simp)];unfold BC K0;simp -implicitDefEqProofs only[mT (t:=28) rfl,uD,XP,seval]
theorem mU:∀l:List Int,L8 1 (ints l)=true
 |[]=>rfl
 |x::l=>mU l
theorem kJ{x:Int}{l:List Int}(hs:(x::l).length*8<=bigN):AM.Comes ⟨A0,T,A2⟩ 55 [fslN (ints (x::l))] [ownd 0 1 (ints (x::l))]:=by
 refine⟨[.msl 0 0 (ints (x::l)).length 1],⟨[.row 0 (ints (x::l)) 1],0,[]⟩,?_,D6 (.inr ⟨rfl,rfl⟩)⟩;rw[A6 (c:=BC) (nt:=8) (rs:=[.tmp 2]) rfl (by simp)];unfold BC K0;have h1:∀K:PK,a8 A0 .eql 28 (fslN (ints (x::l))) .nilsl K=.val (.bool false) K:=fun K=>fQ (t:=28) rfl
 have h2:=mU (x::l);have h3:(ints (x::l)).isEmpty=false:=rfl;have h4:(ints (x::l)).length*8<=140737488355328:=by simpa[bigN]using hs
 generalize ints (x::l)=es at h1 h2 h3 h4;simp -implicitDefEqProofs only[h1,h2,h3,h4,XP,seval]
theorem uE{P:PE}(hP:PEok P)(he:P=⟨A0,T,A2⟩):TC P.E 55 G2:=by
 subst he;refine xA hP (fun a args rs hg a' ha=>?_) (by unfold G2 g0;rw[dif_neg];rintro⟨x,_,h⟩;cases h);obtain⟨l,h1,h2,rfl⟩:=dL hg;injection h2 with h2 h3
 subst h2 h3;cases l with
 | nil =>
  rcases zqk.1 ha with rfl|ha
  . exact qG
  . obtain rfl:=zqp.1 ha;exact qH
 | cons x l =>
  obtain rfl:=zqp.1 (show a'∈[fslN (ints (x::l))]from ha);exact kJ h1
end
structure Glo where
 name:List UInt8
 ty:Int
 size:Int
 at_:Int
deriving DecidableEq
structure Modl where
 gs:List Glo
 fs:List Cod
deriving DecidableEq
def Glo.F(g:Glo):AV:=.agg [.str g.name,.int .i64 g.ty,.int .i64 g.size,.int .i64 g.at_]
def Modl.F(m:Modl):AV:=.agg [fslN (m.gs.map Glo.F),fslN (m.fs.map Cod.F)]
abbrev bools(l:List Bool):List AV:=l.map AV.bool
def chkF(m:Modl)(c:Cod):AV:=.agg [fslN (m.gs.map Glo.F),fslN (m.fs.map Cod.F),.str c.name,.int .i64 c.ty,.int .i64 c.ps,fslN (ints c.regs),fslN (c.blocks.map Blk.F)]
theorem Glo.F_inj{x y:Glo}(h:x.F=y.F):x=y:=by
 cases x;cases y;simp only[Glo.F,AV.agg.injEq,List.cons.injEq,AV.int.injEq,AV.str.injEq,true_and,and_true]at h;obtain⟨rfl,rfl,rfl,rfl⟩:=h;rfl
theorem Endd.F_inj{x y:Endd}(h:x.F=y.F):x=y:=by
 cases x;cases y;simp only[Endd.F,AV.agg.injEq,List.cons.injEq,AV.int.injEq,true_and,and_true]at h;obtain⟨rfl,rfl,rfl,rfl⟩:=h;rfl
theorem Modl.F_inj{x y:Modl}(h:x.F=y.F):x=y:=by
 cases x;cases y;simp only[Modl.F,AV.agg.injEq,List.cons.injEq,and_true]at h;rw[map_inj (fun _ _=>Glo.F_inj) (fslN_inj h.1),map_inj (fun _ _=>Cod.F_inj) (fslN_inj h.2)]
theorem fslN_iff{l m:List AV}:fslN l=fslN m↔l=m:=⟨fslN_inj,fun h=>h▸rfl⟩
theorem ints_iff{l m:List Int}:l.map (AV.int .i64)=m.map (AV.int .i64)↔l=m:=⟨ints_inj,fun h=>h▸rfl⟩
theorem bools_iff{l m:List Bool}:l.map AV.bool=m.map AV.bool↔l=m:=⟨fun h=>map_inj (fun _ _ h=>by injection h) h,fun h=>h▸rfl⟩
theorem Ins.F_iff{x y:Ins}:x.F=y.F↔x=y:=⟨Ins.F_inj,fun h=>h▸rfl⟩
theorem Blk.F_iff{x y:Blk}:x.F=y.F↔x=y:=⟨Blk.F_inj,fun h=>h▸rfl⟩
theorem Cod.F_iff{x y:Cod}:x.F=y.F↔x=y:=⟨Cod.F_inj,fun h=>h▸rfl⟩
theorem Endd.F_iff{x y:Endd}:x.F=y.F↔x=y:=⟨Endd.F_inj,fun h=>h▸rfl⟩
theorem Modl.F_iff{x y:Modl}:x.F=y.F↔x=y:=⟨Modl.F_inj,fun h=>h▸rfl⟩
theorem Glo.frzF(x:Glo):frzC x.F=some x.F:=by unfold Glo.F;simp -implicitDefEqProofs only[XP,seval]
theorem frzL_gloF(l:List Glo):frzL (l.map Glo.F)=some (l.map Glo.F):=m9 Glo.frzF l
theorem frzL_codF(l:List Cod):frzL (l.map Cod.F)=some (l.map Cod.F):=m9 Cod.frzF l
theorem frzL_bools(l:List Bool):frzL (l.map AV.bool)=some (l.map AV.bool):=m9 (f:=AV.bool) (g:=AV.bool) (fun _=>rfl) l
theorem Endd.viewF{os:List PO}(x:Endd):viewA os x.F=some x.F:=by unfold Endd.F;simp -implicitDefEqProofs only[XP,seval]
theorem Modl.viewF{os:List PO}(x:Modl):viewA os x.F=some x.F:=by unfold Modl.F;simp -implicitDefEqProofs only[frzL_gloF,frzL_codF,XP,seval]
theorem chk_viewF{os:List PO}(m:Modl)(c:Cod):viewA os (chkF m c)=some (chkF m c):=by unfold chkF;simp -implicitDefEqProofs only[frzL_gloF,frzL_codF,frzL_ints,frzL_blkF,XP,seval]
theorem chk_iff{m m':Modl}{c c':Cod}:chkF m c=chkF m' c'↔m=m'/\c=c':=by
 constructor
 . intro h
   simp only[chkF,AV.agg.injEq,List.cons.injEq,AV.int.injEq,AV.str.injEq,and_true]at h;obtain⟨h1,h2,h3,⟨_,h4⟩,⟨_,h5⟩,h6,h7⟩:=h;exact⟨Modl.F_inj (by simp only[Modl.F];rw[h1,h2]),Cod.F_inj (by simp only[Cod.F];rw[h3,h4,h5,h6,h7])⟩
 . rintro⟨rfl,rfl⟩;rfl
theorem noFL_bools(l:List Bool):noFL (bools l)=true:=by
 induction l with
 |nil=>rfl
 |cons x l ih=>exact ih
theorem Cod.okO(c:Cod):(c.O.cells.all fun c=>(ownOf c).isSome||clo c)=true:=rfl
def G6(n:Int):Bool:=decide (n=1)||decide (n=2)
def thereD(a n:Int):Bool:=decide (0<=a)&&decide (a<n)
def Jd(t:Int):Int:=if t=2 then 2 else 1
def Qi(t v:Int):Int:=if t=3 then IntKind.wrap .i64 (IntKind.wrap .i8 v)else if t=1 then IntKind.wrap .i64 (IntKind.wrap .i32 v)else if t=2 then v else 0
def D2:List UInt8:=[109,97,105,110]
def VJ:=z0z @Int.ofNat_inj<|z0z @List.cons.injEq.{0}<|z0z @AV.int.injEq<|z0z @AV.str.injEq<|z0z @AV.bool.injEq<|z0z @AV.agg.injEq<|z0z @true_and<|z0z @and_true<|z0z @fslN_iff<|z0z @chk_iff<|z0z @Ins.F_iff<|z0z @Blk.F_iff<|z0z @Cod.F_iff<|z0z @Modl.F_iff<|z0z @Endd.F_iff<|z0z @ints_iff<|@bools_iff
def VV:=z0z @chk_viewF<|z0z @Ins.viewF<|z0z @Blk.viewF<|z0z @Cod.viewF<|z0z @Modl.viewF<|z0z @Endd.viewF<|z0z @frzL_ints<|z0z @frzL_insF<|z0z @frzL_blkF<|z0z @frzL_codF<|z0z @frzL_gloF<|@frzL_bools
def VN:=z0z @Cod.okO<|z0z @noFL_ints<|z0z @noFL_insO<|z0z @noFL_blkO<|z0z @noFL_bools<|z0z @Ins.noF<|z0z @Blk.noF<|@Cod.noF
theorem Qy  {n:Int}:AM.Comes ⟨A0,T,A2⟩ 35 [.int .i64 n] [.bool (G6 n)]:=by
 refine⟨[.bool (G6 n)],⟨[],0,[]⟩,?_,C1 rfl zqb rfl rfl rfl⟩;rw[A6 (c:=NR) (nt:=9) (rs:=[.tmp 2]) rfl (by simp)];unfold NR;unfold K0;unfold G6;by_cases h1:n=1
 . by_cases h2:n=2
   . simp -implicitDefEqProofs only[eq_true h1,eq_true h2,XP,seval]
   . simp -implicitDefEqProofs only[eq_true h1,h2,XP,seval]
 . by_cases h2:n=2
   . simp -implicitDefEqProofs only[h1,eq_true h2,XP,seval]
   . simp -implicitDefEqProofs only[h1,h2,XP,seval]
def Q3:=g0 (fun p:(Int)=>[.int .i64 p]) (fun p=>[.bool (G6 p)]) (fun p=>True)
theorem Jt(hir_number:T 35=some Q3){n:Int}{K:PK}:evP ⟨A0,T,A2⟩ (.call 35 [.int .i64 n] K)=some (.val (openTs K.os.length [.bool (G6 n)]).1 ⟨K.os++(openTs K.os.length [.bool (G6 n)]).2,K.ext,K.tch⟩):=B8 hir_number (by simp -implicitDefEqProofs only[VV,XP,seval]) (C2 (a:=fun p:(Int)=>[.int .i64 p]) (r:=fun p=>[.bool (G6 p)]) (fun x y e=>by simp only[VJ]at e;simp only[e]) (n) trivial) (by simp -implicitDefEqProofs only[VN,XP,seval])
theorem bP  (hP:PEok ⟨A0,T,A2⟩):TC A0 35 Q3:=C8 hP fun p h=>Qy
theorem Uk  {a:Int} {n:Int}:AM.Comes ⟨A0,T,A2⟩ 62 [.int .i64 a,.int .i64 n] [.bool (thereD a n)]:=by
 refine⟨[.bool (thereD a n)],⟨[],0,[]⟩,?_,C1 rfl zqb rfl rfl rfl⟩;rw[A6 (c:=ON) (nt:=12) (rs:=[.tmp 4]) rfl (by simp)];unfold ON;unfold K0;unfold thereD;by_cases h1:0<=a
 . by_cases h2:a<n
   . simp -implicitDefEqProofs only[eq_true h1,eq_true h2,XP,seval]
   . simp -implicitDefEqProofs only[eq_true h1,h2,XP,seval]
 . by_cases h2:a<n
   . simp -implicitDefEqProofs only[h1,eq_true h2,XP,seval]
   . simp -implicitDefEqProofs only[h1,h2,XP,seval]
def J0:=g0 (fun p:(Int)×(Int)=>[.int .i64 p.1,.int .i64 p.2]) (fun p=>[.bool (thereD p.1 p.2)]) (fun p=>True)
theorem v8(hir_there:T 62=some J0){a:Int}{n:Int}{K:PK}:evP ⟨A0,T,A2⟩ (.call 62 [.int .i64 a,.int .i64 n] K)=some (.val (openTs K.os.length [.bool (thereD a n)]).1 ⟨K.os++(openTs K.os.length [.bool (thereD a n)]).2,K.ext,K.tch⟩):=B8 hir_there (by simp -implicitDefEqProofs only[VV,XP,seval]) (C2 (a:=fun p:(Int)×(Int)=>[.int .i64 p.1,.int .i64 p.2]) (r:=fun p=>[.bool (thereD p.1 p.2)]) (fun x y e=>by simp only[VJ]at e;simp only[e]) (a,n) trivial) (by simp -implicitDefEqProofs only[VN,XP,seval])
theorem fR  (hP:PEok ⟨A0,T,A2⟩):TC A0 62 J0:=C8 hP fun p h=>Uk
theorem Xg  {t:Int}:AM.Comes ⟨A0,T,A2⟩ 70 [.int .i64 t] [.int .i64 (Jd t)]:=by
 refine⟨[.int .i64 (Jd t)],⟨[],0,[]⟩,?_,C1 rfl zqb rfl rfl rfl⟩;rw[A6 (c:=OT) (nt:=5) (rs:=[.tmp 2]) rfl (by simp)];unfold OT;unfold K0;unfold Jd;by_cases h1:t=2
 . simp -implicitDefEqProofs only[eq_true h1,XP,seval]
 . simp -implicitDefEqProofs only[h1,XP,seval]
def Fq:=g0 (fun p:(Int)=>[.int .i64 p]) (fun p=>[.int .i64 (Jd p)]) (fun p=>True)
theorem uF(hir_wide:T 70=some Fq){t:Int}{K:PK}:evP ⟨A0,T,A2⟩ (.call 70 [.int .i64 t] K)=some (.val (openTs K.os.length [.int .i64 (Jd t)]).1 ⟨K.os++(openTs K.os.length [.int .i64 (Jd t)]).2,K.ext,K.tch⟩):=B8 hir_wide (by simp -implicitDefEqProofs only[VV,XP,seval]) (C2 (a:=fun p:(Int)=>[.int .i64 p]) (r:=fun p=>[.int .i64 (Jd p)]) (fun x y e=>by simp only[VJ]at e;simp only[e]) (t) trivial) (by simp -implicitDefEqProofs only[VN,XP,seval])
theorem kK  (hP:PEok ⟨A0,T,A2⟩):TC A0 70 Fq:=C8 hP fun p h=>Xg
theorem Lt(k j:IntKind)(n:Int):S4 (.int k) (.int j n)=some (.int k (k.wrap n)):=Hl k n
theorem Qz  {t:Int} {v:Int}:AM.Comes ⟨A0,T,A2⟩ 67 [.int .i64 t,.int .i64 v] [.int .i64 (Qi t v)]:=by
 refine⟨[.int .i64 (Qi t v)],⟨[],0,[]⟩,?_,C1 rfl zqb rfl rfl rfl⟩;rw[A6 (c:=OQ) (nt:=19) (rs:=[.tmp 4]) rfl (by simp)];unfold OQ;unfold K0;unfold Qi;by_cases h1:t=3
 . simp -implicitDefEqProofs only[Lt,eq_true h1,XP,seval]
 by_cases h2:t=1
 . simp -implicitDefEqProofs only[Lt,h1,eq_true h2,XP,seval]
 by_cases h3:t=2
 . simp -implicitDefEqProofs only[Lt,h1,h2,eq_true h3,XP,seval]
 simp -implicitDefEqProofs only[Lt,h1,h2,h3,XP,seval]
def U0:=g0 (fun p:(Int)×(Int)=>[.int .i64 p.1,.int .i64 p.2]) (fun p=>[.int .i64 (Qi p.1 p.2)]) (fun p=>True)
theorem kL(hword_Wrap:T 67=some U0){t:Int}{v:Int}{K:PK}:evP ⟨A0,T,A2⟩ (.call 67 [.int .i64 t,.int .i64 v] K)=some (.val (openTs K.os.length [.int .i64 (Qi t v)]).1 ⟨K.os++(openTs K.os.length [.int .i64 (Qi t v)]).2,K.ext,K.tch⟩):=B8 hword_Wrap (by simp -implicitDefEqProofs only[VV,XP,seval]) (C2 (a:=fun p:(Int)×(Int)=>[.int .i64 p.1,.int .i64 p.2]) (r:=fun p=>[.int .i64 (Qi p.1 p.2)]) (fun x y e=>by simp only[VJ]at e;simp only[e]) (t,v) trivial) (by simp -implicitDefEqProofs only[VN,XP,seval])
theorem bQ  (hP:PEok ⟨A0,T,A2⟩):TC A0 67 U0:=C8 hP fun p h=>Qz
theorem Cb(hir_number:T 35=some Q3){n:Int}:AM.Comes ⟨A0,T,A2⟩ 48 [.int .i64 n] [.bool (!G6 n)]:=by
 refine⟨[.bool (!G6 n)],⟨[],0,[]⟩,?_,C1 rfl zqb rfl rfl rfl⟩;rw[A6 (c:=OA) (nt:=6) (rs:=[.tmp 2]) rfl (by simp)];unfold OA;unfold K0;simp -implicitDefEqProofs only[Jt hir_number,XP,seval]
def E6:=g0 (fun p:(Int)=>[.int .i64 p]) (fun p=>[.bool (!G6 p)]) (fun p=>True)
theorem z6(hir_checker_code_1:T 48=some E6){n:Int}{K:PK}:evP ⟨A0,T,A2⟩ (.call 48 [.int .i64 n] K)=some (.val (openTs K.os.length [.bool (!G6 n)]).1 ⟨K.os++(openTs K.os.length [.bool (!G6 n)]).2,K.ext,K.tch⟩):=B8 hir_checker_code_1 (by simp -implicitDefEqProofs only[VV,XP,seval]) (C2 (a:=fun p:(Int)=>[.int .i64 p]) (r:=fun p=>[.bool (!G6 p)]) (fun x y e=>by simp only[VJ]at e;simp only[e]) (n) trivial) (by simp -implicitDefEqProofs only[VN,XP,seval])
theorem Fr(hir_number:T 35=some Q3)(hP:PEok ⟨A0,T,A2⟩):TC A0 48 E6:=C8 hP fun p h=>Cb hir_number
theorem Lu  {c:Cod}:AM.Comes ⟨A0,T,A2⟩ 52 [c.F] [.bool (decide (c.name=D2))]:=by
 refine⟨[.bool (decide (c.name=D2))],⟨[],0,[]⟩,?_,C1 rfl zqb rfl rfl rfl⟩;rw[A6 (c:=OE) (nt:=6) (rs:=[.tmp 2]) rfl (by simp)];unfold OE;unfold K0;unfold Cod.F D2;simp -implicitDefEqProofs only[XP,seval]
def M4:=g0 (fun p:(Cod)=>[p.F]) (fun p=>[.bool (decide (p.name=D2))]) (fun p=>True)
theorem Lv(hir_mainOf_1:T 52=some M4){c:Cod}{K:PK}:evP ⟨A0,T,A2⟩ (.call 52 [c.F] K)=some (.val (openTs K.os.length [.bool (decide (c.name=D2))]).1 ⟨K.os++(openTs K.os.length [.bool (decide (c.name=D2))]).2,K.ext,K.tch⟩):=B8 hir_mainOf_1 (by simp -implicitDefEqProofs only[VV,XP,seval]) (C2 (a:=fun p:(Cod)=>[p.F]) (r:=fun p=>[.bool (decide (p.name=D2))]) (fun x y e=>by simp only[VJ]at e;simp only[e]) (c) trivial) (by simp -implicitDefEqProofs only[VN,XP,seval])
theorem Ul  (hP:PEok ⟨A0,T,A2⟩):TC A0 52 M4:=C8 hP fun p h=>Lu
def writesD(x:Ins):Int:=if x.op=1 then x.dst else if x.op=2 then x.dst else if x.op=3 then x.dst else if x.op=4 then x.dst else if x.op=5 then x.dst else if x.op=7 then x.dst else if x.op=10 then x.dst else if x.op=9 then(if -1<=x.dst then x.dst else -1)else -1
def readsD(x:Ins):List Int:=if x.op=2 then [x.a]else if x.op=4 then [x.a]else if x.op=5 then [x.a]else if x.op=8 then [x.a]else if x.op=11 then [x.a]else if x.op=3 then [x.a,x.b]else if x.op=6 then [x.a,x.b]else if x.op=9 then x.args else []
theorem u7(a b:Int)(K:PK):Kn (I8 A0 .max [3,3] [.int .i64 a,.int .i64 b] K)=.val (.int .i64 (if b<=a then a else b)) K:=by
 show Kn ((Nb [.int .i64 b] (.int .i64 a)).map (·,K))=_
 show Kn ((some (AV.int .i64 (bif intLe b a then a else b))).map (·,K))=_
 rw[S6];by_cases hb:b<=a
 . rw[if_pos hb,decide_eq_true hb];rfl
 . rw[if_neg hb,decide_eq_false hb];rfl
theorem Ra  {x:Ins}:AM.Comes ⟨A0,T,A2⟩ 30 [x.F] [.int .i64 (writesD x)]:=by
 refine⟨[.int .i64 (writesD x)],⟨[],0,[]⟩,?_,C1 rfl zqb rfl rfl rfl⟩;rw[A6 (c:=NM) (nt:=20) (rs:=[.tmp 2]) rfl (by simp)];unfold NM;unfold K0;unfold Ins.F writesD;by_cases e1:x.op=1
 . simp -implicitDefEqProofs only[u7,eq_true e1,XP,seval]
 by_cases e2:x.op=2
 . simp -implicitDefEqProofs only[u7,e1,eq_true e2,XP,seval]
 by_cases e3:x.op=3
 . simp -implicitDefEqProofs only[u7,e1,e2,eq_true e3,XP,seval]
 by_cases e4:x.op=4
 . simp -implicitDefEqProofs only[u7,e1,e2,e3,eq_true e4,XP,seval]
 by_cases e5:x.op=5
 . simp -implicitDefEqProofs only[u7,e1,e2,e3,e4,eq_true e5,XP,seval]
 by_cases e7:x.op=7
 . simp -implicitDefEqProofs only[u7,e1,e2,e3,e4,e5,eq_true e7,XP,seval]
 by_cases e10:x.op=10
 . simp -implicitDefEqProofs only[u7,e1,e2,e3,e4,e5,e7,eq_true e10,XP,seval]
 by_cases e9:x.op=9
 . simp -implicitDefEqProofs only[u7,e1,e2,e3,e4,e5,e7,e10,eq_true e9,XP,seval]
 simp -implicitDefEqProofs only[u7,e1,e2,e3,e4,e5,e7,e10,e9,XP,seval]
def B9:=g0 (fun p:(Ins)=>[p.F]) (fun p=>[.int .i64 (writesD p)]) (fun p=>True)
theorem j9(hir_Writes:T 30=some B9){x:Ins}{K:PK}:evP ⟨A0,T,A2⟩ (.call 30 [x.F] K)=some (.val (openTs K.os.length [.int .i64 (writesD x)]).1 ⟨K.os++(openTs K.os.length [.int .i64 (writesD x)]).2,K.ext,K.tch⟩):=B8 hir_Writes (by simp -implicitDefEqProofs only[VV,XP,seval]) (C2 (a:=fun p:(Ins)=>[p.F]) (r:=fun p=>[.int .i64 (writesD p)]) (fun x y e=>by simp only[VJ]at e;simp only[e]) (x) trivial) (by simp -implicitDefEqProofs only[VN,XP,seval])
theorem bR  (hP:PEok ⟨A0,T,A2⟩):TC A0 30 B9:=C8 hP fun p h=>Ra
theorem Um(hCloneInts:T 55=some G2){x:Ins}(hk:x.ok):AM.Comes ⟨A0,T,A2⟩ 42 [x.F] [ownd 0 1 (ints (readsD x))]:=by
 have one:∀(a:Int)(L:List Int),L=[a]->evP ⟨A0,T,A2⟩ (.body 42 [x.F] K0)=some (.val [.msl 0 0 1 1] ⟨[.row 0 [.int .i64 a] 1],0,[]⟩)->AM.Comes ⟨A0,T,A2⟩ 42 [x.F] [ownd 0 1 (ints L)]:=fun a L e h=>by
  subst e;exact⟨_,_,h,D6 (.inr ⟨rfl,rfl⟩)⟩
 have two:∀(a b:Int)(L:List Int),L=[a,b]->evP ⟨A0,T,A2⟩ (.body 42 [x.F] K0)=some (.val [.msl 0 0 2 1] ⟨[.row 0 [.int .i64 a,.int .i64 b] 1],0,[]⟩)->AM.Comes ⟨A0,T,A2⟩ 42 [x.F] [ownd 0 1 (ints L)]:=fun a b L e h=>by
  subst e;exact⟨_,_,h,D6 (.inr ⟨rfl,rfl⟩)⟩
 by_cases e2:x.op=2
 . refine one x.a _ (by simp[readsD,e2]) ?_
   rw[A6 (c:=Ys) (nt:=27) (rs:=[.tmp 2]) rfl (by simp)];unfold Ys;unfold K0 Ins.F;simp -implicitDefEqProofs only[eq_true e2,XP,seval]
 by_cases e4:x.op=4
 . refine one x.a _ (by simp[readsD,e4]) ?_
   rw[A6 (c:=Ys) (nt:=27) (rs:=[.tmp 2]) rfl (by simp)];unfold Ys;unfold K0 Ins.F;simp -implicitDefEqProofs only[e2,eq_true e4,XP,seval]
 by_cases e5:x.op=5
 . refine one x.a _ (by simp[readsD,e5]) ?_
   rw[A6 (c:=Ys) (nt:=27) (rs:=[.tmp 2]) rfl (by simp)];unfold Ys;unfold K0 Ins.F;simp -implicitDefEqProofs only[e2,e4,eq_true e5,XP,seval]
 by_cases e8:x.op=8
 . refine one x.a _ (by simp[readsD,e8]) ?_
   rw[A6 (c:=Ys) (nt:=27) (rs:=[.tmp 2]) rfl (by simp)];unfold Ys;unfold K0 Ins.F;simp -implicitDefEqProofs only[e2,e4,e5,eq_true e8,XP,seval]
 by_cases e11:x.op=11
 . refine one x.a _ (by simp[readsD,e11]) ?_
   rw[A6 (c:=Ys) (nt:=27) (rs:=[.tmp 2]) rfl (by simp)];unfold Ys;unfold K0 Ins.F;simp -implicitDefEqProofs only[e2,e4,e5,e8,eq_true e11,XP,seval]
 by_cases e3:x.op=3
 . refine two x.a x.b _ (by simp[readsD,e3]) ?_
   rw[A6 (c:=Ys) (nt:=27) (rs:=[.tmp 2]) rfl (by simp)];unfold Ys;unfold K0 Ins.F;simp -implicitDefEqProofs only[e2,e4,e5,e8,e11,eq_true e3,XP,seval]
 by_cases e6:x.op=6
 . refine two x.a x.b _ (by simp[readsD,e6]) ?_
   rw[A6 (c:=Ys) (nt:=27) (rs:=[.tmp 2]) rfl (by simp)];unfold Ys;unfold K0 Ins.F;simp -implicitDefEqProofs only[e2,e4,e5,e8,e11,e3,eq_true e6,XP,seval]
 by_cases e9:x.op=9
 . rw[show readsD x=x.args by simp[readsD,e9]]
   refine⟨[.msl 0 0 x.args.length 1],⟨[.row 0 (ints x.args) 1],0,[]⟩,?_,D6 (.inr ⟨by rw[zqa],rfl⟩)⟩;rw[A6 (c:=Ys) (nt:=27) (rs:=[.tmp 2]) rfl (by simp)];unfold Ys;unfold K0 Ins.F;have t:∀{K:PK},evP ⟨A0,T,A2⟩ (.call 55 [fslN (ints x.args)] K)=some (.val (openTs K.os.length [ownd 0 1 (ints x.args)]).1 ⟨K.os++(openTs K.os.length [ownd 0 1 (ints x.args)]).2,K.ext,K.tch⟩):=B8 hCloneInts (by simp -implicitDefEqProofs only[frzL_ints,XP,seval]) (u6 hk) rfl;simp -implicitDefEqProofs only[e2,e4,e5,e8,e11,e3,e6,eq_true e9,t,zqa,XP,seval]
 . rw[show readsD x=[] by simp[readsD,e2,e4,e5,e8,e11,e3,e6,e9]]
   refine⟨[.nilsl],⟨[],0,[]⟩,?_,D6 (.inl ⟨rfl,rfl,rfl⟩)⟩;rw[A6 (c:=Ys) (nt:=27) (rs:=[.tmp 2]) rfl (by simp)];unfold Ys;unfold K0 Ins.F;simp -implicitDefEqProofs only[e2,e4,e5,e8,e11,e3,e6,e9,XP,seval]
def D3:=g0 (fun p:(Ins)=>[p.F]) (fun p=>[ownd 0 1 (ints (readsD p))]) (fun p=>p.ok)
theorem Hb(hir_Reads:T 42=some D3){x:Ins}{K:PK}(hk:x.ok):evP ⟨A0,T,A2⟩ (.call 42 [x.F] K)=some (.val (openTs K.os.length [ownd 0 1 (ints (readsD x))]).1 ⟨K.os++(openTs K.os.length [ownd 0 1 (ints (readsD x))]).2,K.ext,K.tch⟩):=B8 hir_Reads (by simp -implicitDefEqProofs only[VV,XP,seval]) (C2 (a:=fun p:(Ins)=>[p.F]) (r:=fun p=>[ownd 0 1 (ints (readsD p))]) (fun x y e=>by simp only[VJ]at e;simp only[e]) (x) hk) (by simp -implicitDefEqProofs only[VN,XP,seval])
theorem fS(hCloneInts:T 55=some G2)(hP:PEok ⟨A0,T,A2⟩):TC A0 42 D3:=C8 hP fun p h=>Um hCloneInts h
def idxOf{X:Type}(p:X->Bool)(l:List X):Int:=match l.findIdx? p with|some i=>(i:Int)|none=>-1
theorem idx_loop{P:PE}{c:PC}{X:Type}{p:X->Bool}{l:List X}{S:Nat->PF}{K:PK}
 (h1:∀i (h:i<l.length),p l[i]=false->evP P (.code c (S i) K)=some (.ok .normal (S (i+1)) K))
 (h2:∀i (h:i<l.length),p l[i]=true->∃fr',evP P (.code c (S i) K)=some (.ok .ret fr' K)/\lookP fr' 4=.int .i64 (i:Int))
 (hx:∃fr',evP P (.code c (S l.length) K)=some (.ok (.exit 0) fr' K)):
 (∃i:Nat,idxOf p l=i/\∃fr',evP P (.code (.loop c) (S 0) K)=some (.ok .ret fr' K)/\lookP fr' 4=.int .i64 (i:Int))\/(idxOf p l=-1/\∃fr',evP P (.code (.loop c) (S 0) K)=some (.ok (.exit 0) fr' K)):=by
 have key:∀(n i:Nat),l.length=i+n->(∀j (hj:j<l.length),j<i->p l[j]=false)->(∃k:Nat,idxOf p l=k/\∃fr',evP P (.code (.loop c) (S i) K)=some (.ok .ret fr' K)/\lookP fr' 4=.int .i64 (k:Int))\/(idxOf p l=-1/\∃fr',evP P (.code (.loop c) (S i) K)=some (.ok (.exit 0) fr' K)):=fun n=>by
  induction n with
  | zero =>
   intro i e hp;obtain rfl:i=l.length:=by omega
   obtain⟨fr',h⟩:=hx;refine .inr ⟨?_,fr',B3 h⟩;unfold idxOf
   have:l.findIdx? p=none:=by
    rw[zkb];intro x hm;obtain⟨j,hj,rfl⟩:=List.getElem_of_mem hm;exact hp j hj hj
   rw[this]
  | succ n ih =>
   intro i e hp;have hl:i<l.length:=by omega
   cases hq:p l[i]with
   | false =>
    rw[loop_more (h1 i hl hq)];refine ih (i+1) (by omega) fun j hj hji=>?_
    by_cases he:j=i
    . subst he;exact hq
    . exact hp j hj (by omega)
   | true =>
    obtain⟨fr',q1,q2⟩:=h2 i hl hq;refine .inl ⟨i,?_,fr',L6 q1,q2⟩;unfold idxOf
    have:l.findIdx? p=some i:=by
     rw[zqv];exact⟨hl,hq,fun j hj=>by simpa using hp j (by omega) hj⟩
    rw[this]
 exact key l.length 0 (by omega) fun j hj h=>absurd h (by omega)
theorem mV{X:Type}{p:X->Bool}{l:List X}:decide (0<=idxOf p l)=l.any p:=by
 unfold idxOf;cases h:l.findIdx? p with
 | none =>
  rw[zkb]at h
  have:l.any p=false:=by rw[List.any_eq_false];intro x hx;simp[h x hx]
  rw[this];rfl
 | some i =>
  rw[zqv]at h;obtain⟨h1,h2,_⟩:=h
  have:l.any p=true:=List.any_eq_true.2 ⟨_,zqc h1,h2⟩
  rw[this];simp
section
variable {l:List Int}{i:Nat}{v:Int}
theorem HU(h:i<l.length)(hs:l.length<=bigN)(hp:decide (v=l[i])=false):evP ⟨A0,T,A2⟩ (.code Jc [(0,fslN (ints l)),(1,.int .i64 v),(7,.int .i64 (l.length:Int)),(8,.int .i64 (i:Int))] ⟨[],0,[]⟩)=some (.ok .normal [(0,fslN (ints l)),(1,.int .i64 v),(7,.int .i64 (l.length:Int)),(8,.int .i64 ((i+1:Nat):Int))] ⟨[],0,[]⟩):=by
 unfold Jc;have hlt:decide ((i:Int)<(l.length:Int))=true:=by simp[h]
 have hw:=A8 (i:=i) (by simp only[bigN]at hs;omega);simp -implicitDefEqProofs only[hlt,G5 h,hw,hp,XP,seval]
theorem HV(h:i<l.length)(hp:decide (v=l[i])=true):∃fr',evP ⟨A0,T,A2⟩ (.code Jc [(0,fslN (ints l)),(1,.int .i64 v),(7,.int .i64 (l.length:Int)),(8,.int .i64 (i:Int))] ⟨[],0,[]⟩)=some (.ok .ret fr' ⟨[],0,[]⟩)/\lookP fr' 4=.int .i64 (i:Int):=by
 unfold Jc;have hlt:decide ((i:Int)<(l.length:Int))=true:=by simp[h]
 simp -implicitDefEqProofs only[hlt,G5 h,hp,XP,seval];exact⟨_,rfl,rfl⟩
theorem HW:∃fr',evP ⟨A0,T,A2⟩ (.code Jc [(0,fslN (ints l)),(1,.int .i64 v),(7,.int .i64 (l.length:Int)),(8,.int .i64 (l.length:Int))] ⟨[],0,[]⟩)=some (.ok (.exit 0) fr' ⟨[],0,[]⟩):=by
 unfold Jc;have hlt:decide ((l.length:Int)<(l.length:Int))=false:=by simp
 simp -implicitDefEqProofs only[hlt,XP,seval];exact⟨_,rfl⟩
theorem Xh  {l:List Int} {v:Int} (hk:l.length<=bigN):AM.Comes ⟨A0,T,A2⟩ 73 [fslN (ints l),.int .i64 v] [.int .i64 (idxOf (fun n=>decide (v=n)) l)]:=by
 refine⟨[.int .i64 (idxOf (fun n=>decide (v=n)) l)],⟨[],0,[]⟩,?_,C1 rfl zqb rfl rfl rfl⟩;rw[A6 (c:=OV) (nt:=19) (rs:=[.tmp 4]) rfl (by simp)];unfold OV;unfold K0;rcases idx_loop (P:=⟨A0,T,A2⟩) (c:=Jc) (p:=fun n=>decide (v=n)) (l:=l) (S:=fun i=>[(0,fslN (ints l)),(1,.int .i64 v),(7,.int .i64 (l.length:Int)),(8,.int .i64 (i:Int))]) (K:=⟨[],0,[]⟩) (fun i h hp=>HU h hk hp) (fun i h hp=>HV h hp) HW with⟨i,e,fr',h1,h2⟩|⟨e,fr',h1⟩
 . have h1:evP ⟨A0,T,A2⟩ (.code (.loop Jc) [(0,fslN (ints l)),(1,.int .i64 v),(7,.int .i64 (l.length:Int)),(8,.int .i64 0)] ⟨[],0,[]⟩)=_:=h1
   simp -implicitDefEqProofs only[h1,h2,e,zqa,XP,seval]
 . have h1:evP ⟨A0,T,A2⟩ (.code (.loop Jc) [(0,fslN (ints l)),(1,.int .i64 v),(7,.int .i64 (l.length:Int)),(8,.int .i64 0)] ⟨[],0,[]⟩)=_:=h1
   simp -implicitDefEqProofs only[h1,e,zqa,XP,seval]
def Fs:=g0 (fun p:(List Int)×(Int)=>[fslN (ints p.1),.int .i64 p.2]) (fun p=>[.int .i64 (idxOf (fun n=>decide (p.2=n)) p.1)]) (fun p=>p.1.length<=bigN)
theorem uG(hIdxInts:T 73=some Fs){l:List Int}{v:Int}{K:PK}(hk:l.length<=bigN):evP ⟨A0,T,A2⟩ (.call 73 [fslN (ints l),.int .i64 v] K)=some (.val (openTs K.os.length [.int .i64 (idxOf (fun n=>decide (v=n)) l)]).1 ⟨K.os++(openTs K.os.length [.int .i64 (idxOf (fun n=>decide (v=n)) l)]).2,K.ext,K.tch⟩):=B8 hIdxInts (by simp -implicitDefEqProofs only[VV,XP,seval]) (C2 (a:=fun p:(List Int)×(Int)=>[fslN (ints p.1),.int .i64 p.2]) (r:=fun p=>[.int .i64 (idxOf (fun n=>decide (p.2=n)) p.1)]) (fun x y e=>by simp only[VJ]at e;simp only[e]) (l,v) hk) (by simp -implicitDefEqProofs only[VN,XP,seval])
theorem kM  (hP:PEok ⟨A0,T,A2⟩):TC A0 73 Fs:=C8 hP fun p h=>Xh  h
theorem Un(hIdxInts:T 73=some Fs){l:List Int}{v:Int}(hk:l.length<=bigN):AM.Comes ⟨A0,T,A2⟩ 66 [fslN (ints l),.int .i64 v] [.bool (l.any fun n=>decide (v=n))]:=by
 refine⟨[.bool (l.any fun n=>decide (v=n))],⟨[],0,[]⟩,?_,C1 rfl zqb rfl rfl rfl⟩;rw[A6 (c:=OP) (nt:=9) (rs:=[.tmp 4]) rfl (by simp)];unfold OP;unfold K0;rw[<-mV];have t:=fun K=>uG (K:=K) (v:=v) hIdxInts hk
 simp -implicitDefEqProofs only[t,XP,seval]
def w4:=g0 (fun p:(List Int)×(Int)=>[fslN (ints p.1),.int .i64 p.2]) (fun p=>[.bool (p.1.any fun n=>decide (p.2=n))]) (fun p=>p.1.length<=bigN)
theorem fT(hIdxInts:T 73=some Fs)(hP:PEok ⟨A0,T,A2⟩):TC A0 66 w4:=C8 hP fun p h=>Un hIdxInts h
end
section
variable {l:List Int}{i:Nat}
theorem HX(hN:T 48=some E6)(h:i<l.length)(hs:l.length<=bigN)(hp:(!G6 l[i])=false):evP ⟨A0,T,A2⟩ (.code Iz [(0,fslN (ints l)),(1,.fn (.func 48) [] []),(7,.int .i64 (l.length:Int)),(8,.int .i64 (i:Int))] ⟨[],0,[]⟩)=some (.ok .normal [(0,fslN (ints l)),(1,.fn (.func 48) [] []),(7,.int .i64 (l.length:Int)),(8,.int .i64 ((i+1:Nat):Int))] ⟨[],0,[]⟩):=by
 unfold Iz;have hlt:decide ((i:Int)<(l.length:Int))=true:=by simp[h]
 have hw:=A8 (i:=i) (by simp only[bigN]at hs;omega);simp -implicitDefEqProofs only[hlt,G5 h,hw,z6 hN,hp,XP,seval]
theorem HY(hN:T 48=some E6)(h:i<l.length)(hp:(!G6 l[i])=true):∃fr',evP ⟨A0,T,A2⟩ (.code Iz [(0,fslN (ints l)),(1,.fn (.func 48) [] []),(7,.int .i64 (l.length:Int)),(8,.int .i64 (i:Int))] ⟨[],0,[]⟩)=some (.ok .ret fr' ⟨[],0,[]⟩)/\lookP fr' 4=.int .i64 (i:Int):=by
 unfold Iz;have hlt:decide ((i:Int)<(l.length:Int))=true:=by simp[h]
 simp -implicitDefEqProofs only[hlt,G5 h,z6 hN,hp,XP,seval];exact⟨_,rfl,rfl⟩
theorem HZ:∃fr',evP ⟨A0,T,A2⟩ (.code Iz [(0,fslN (ints l)),(1,.fn (.func 48) [] []),(7,.int .i64 (l.length:Int)),(8,.int .i64 (l.length:Int))] ⟨[],0,[]⟩)=some (.ok (.exit 0) fr' ⟨[],0,[]⟩):=by
 unfold Iz;have hlt:decide ((l.length:Int)<(l.length:Int))=false:=by simp
 simp -implicitDefEqProofs only[hlt,XP,seval];exact⟨_,rfl⟩
theorem Xi(hN:T 48=some E6)(hI:T 58=none)(hs:l.length<=bigN)(K:PK):evP ⟨A0,T,A2⟩ (.call 58 [fslN (ints l),.fn (.func 48) [] []] K)=some (.val [.int .i64 (idxOf (fun n=>!G6 n) l)] K):=by
 refine mC (tch:=[]) hI rfl rfl rfl ?_ rfl;rw[A6 (c:=OI) (nt:=19) (rs:=[.tmp 4]) rfl (by simp)];unfold OI;rcases idx_loop (P:=⟨A0,T,A2⟩) (c:=Iz) (p:=fun n=>!G6 n) (l:=l) (S:=fun i=>[(0,fslN (ints l)),(1,.fn (.func 48) [] []),(7,.int .i64 (l.length:Int)),(8,.int .i64 (i:Int))]) (K:=⟨[],0,[]⟩) (fun i h hp=>HX hN h hs hp) (fun i h hp=>HY hN h hp) HZ with⟨i,e,fr',h1,h2⟩|⟨e,fr',h1⟩
 . have h1:evP ⟨A0,T,A2⟩ (.code (.loop Iz) [(0,fslN (ints l)),(1,.fn (.func 48) [] []),(7,.int .i64 (l.length:Int)),(8,.int .i64 0)] ⟨[],0,[]⟩)=_:=h1
   simp -implicitDefEqProofs only[h1,h2,e,zqa,XP,seval]
 . have h1:evP ⟨A0,T,A2⟩ (.code (.loop Iz) [(0,fslN (ints l)),(1,.fn (.func 48) [] []),(7,.int .i64 (l.length:Int)),(8,.int .i64 0)] ⟨[],0,[]⟩)=_:=h1
   simp -implicitDefEqProofs only[h1,e,zqa,XP,seval]
theorem Uo(hN:T 48=some E6)(hI:T 58=none)(hC:T 47=none)(hs:l.length<=bigN)(K:PK):evP ⟨A0,T,A2⟩ (.call 47 [fslN (ints l),.fn (.func 48) [] []] K)=some (.val [.bool (l.any fun n=>!G6 n)] K):=by
 refine mC (tch:=[]) hC rfl rfl rfl ?_ rfl;rw[<-mV];have t:=fun K=>Xi hN hI hs K
 rw[A6 (c:=NZ) (nt:=9) (rs:=[.tmp 4]) rfl (by simp)];unfold NZ;simp -implicitDefEqProofs only[t,XP,seval]
end
section
variable {l:List Cod}{i:Nat}
theorem IA(hN:T 52=some M4)(h:i<l.length)(hs:l.length<=bigN)(hp:decide (l[i].name=D2)=false):evP ⟨A0,T,A2⟩ (.code Iw [(0,fslN (l.map Cod.F)),(1,.fn (.func 52) [] []),(7,.int .i64 (l.length:Int)),(8,.int .i64 (i:Int))] ⟨[],0,[]⟩)=some (.ok .normal [(0,fslN (l.map Cod.F)),(1,.fn (.func 52) [] []),(7,.int .i64 (l.length:Int)),(8,.int .i64 ((i+1:Nat):Int))] ⟨[],0,[]⟩):=by
 unfold Iw;have hlt:decide ((i:Int)<(l.length:Int))=true:=by simp[h]
 have hw:=A8 (i:=i) (by simp only[bigN]at hs;omega);have hi:=B5 (F:=Cod.F) h;have t:=fun K=>Lv (K:=K) (c:=l[i]) hN
 simp only[Cod.F]at hi t;simp -implicitDefEqProofs only[hlt,hi,hw,t,hp,XP,seval]
theorem IB(hN:T 52=some M4)(h:i<l.length)(hp:decide (l[i].name=D2)=true):∃fr',evP ⟨A0,T,A2⟩ (.code Iw [(0,fslN (l.map Cod.F)),(1,.fn (.func 52) [] []),(7,.int .i64 (l.length:Int)),(8,.int .i64 (i:Int))] ⟨[],0,[]⟩)=some (.ok .ret fr' ⟨[],0,[]⟩)/\lookP fr' 4=.int .i64 (i:Int):=by
 unfold Iw;have hlt:decide ((i:Int)<(l.length:Int))=true:=by simp[h]
 have hi:=B5 (F:=Cod.F) h;have t:=fun K=>Lv (K:=K) (c:=l[i]) hN
 simp only[Cod.F]at hi t;simp -implicitDefEqProofs only[hlt,hi,t,hp,XP,seval];exact⟨_,rfl,rfl⟩
theorem ID:∃fr',evP ⟨A0,T,A2⟩ (.code Iw [(0,fslN (l.map Cod.F)),(1,.fn (.func 52) [] []),(7,.int .i64 (l.length:Int)),(8,.int .i64 (l.length:Int))] ⟨[],0,[]⟩)=some (.ok (.exit 0) fr' ⟨[],0,[]⟩):=by
 unfold Iw;have hlt:decide ((l.length:Int)<(l.length:Int))=false:=by simp
 simp -implicitDefEqProofs only[hlt,XP,seval];exact⟨_,rfl⟩
theorem Xj(hN:T 52=some M4)(hI:T 51=none)(hs:l.length<=bigN)(K:PK):evP ⟨A0,T,A2⟩ (.call 51 [fslN (l.map Cod.F),.fn (.func 52) [] []] K)=some (.val [.int .i64 (idxOf (fun c:Cod=>decide (c.name=D2)) l)] K):=by
 refine mC (tch:=[]) hI rfl rfl rfl ?_ rfl;rw[A6 (c:=OD) (nt:=19) (rs:=[.tmp 4]) rfl (by simp)];unfold OD;rcases idx_loop (P:=⟨A0,T,A2⟩) (c:=Iw) (p:=fun c:Cod=>decide (c.name=D2)) (l:=l) (S:=fun i=>[(0,fslN (l.map Cod.F)),(1,.fn (.func 52) [] []),(7,.int .i64 (l.length:Int)),(8,.int .i64 (i:Int))]) (K:=⟨[],0,[]⟩) (fun i h hp=>IA hN h hs hp) (fun i h hp=>IB hN h hp) ID with⟨i,e,fr',h1,h2⟩|⟨e,fr',h1⟩
 . have h1:evP ⟨A0,T,A2⟩ (.code (.loop Iw) [(0,fslN (l.map Cod.F)),(1,.fn (.func 52) [] []),(7,.int .i64 (l.length:Int)),(8,.int .i64 0)] ⟨[],0,[]⟩)=_:=h1
   simp -implicitDefEqProofs only[h1,h2,e,zqa,XP,seval]
 . have h1:evP ⟨A0,T,A2⟩ (.code (.loop Iw) [(0,fslN (l.map Cod.F)),(1,.fn (.func 52) [] []),(7,.int .i64 (l.length:Int)),(8,.int .i64 0)] ⟨[],0,[]⟩)=_:=h1
   simp -implicitDefEqProofs only[h1,e,zqa,XP,seval]
theorem Rb(hir_mainOf_1:T 52=some M4)(nIdxCodes:T 51=none){m:Modl}(hk:m.fs.length<=bigN):AM.Comes ⟨A0,T,A2⟩ 37 [m.F] [.int .i64 (idxOf (fun c:Cod=>decide (c.name=D2)) m.fs)]:=by
 refine⟨[.int .i64 (idxOf (fun c:Cod=>decide (c.name=D2)) m.fs)],⟨[],0,[]⟩,?_,C1 rfl zqb rfl rfl rfl⟩;rw[A6 (c:=NT) (nt:=6) (rs:=[.tmp 2]) rfl (by simp)];unfold NT;unfold K0;unfold Modl.F;have t:=fun K=>Xj hir_mainOf_1 nIdxCodes hk K
 simp -implicitDefEqProofs only[t,XP,seval]
def z7:=g0 (fun p:(Modl)=>[p.F]) (fun p=>[.int .i64 (idxOf (fun c:Cod=>decide (c.name=D2)) p.fs)]) (fun p=>p.fs.length<=bigN)
theorem kN(hir_mainOf:T 37=some z7){m:Modl}{K:PK}(hk:m.fs.length<=bigN):evP ⟨A0,T,A2⟩ (.call 37 [m.F] K)=some (.val (openTs K.os.length [.int .i64 (idxOf (fun c:Cod=>decide (c.name=D2)) m.fs)]).1 ⟨K.os++(openTs K.os.length [.int .i64 (idxOf (fun c:Cod=>decide (c.name=D2)) m.fs)]).2,K.ext,K.tch⟩):=B8 hir_mainOf (by simp -implicitDefEqProofs only[VV,XP,seval]) (C2 (a:=fun p:(Modl)=>[p.F]) (r:=fun p=>[.int .i64 (idxOf (fun c:Cod=>decide (c.name=D2)) p.fs)]) (fun x y e=>by simp only[VJ]at e;simp only[e]) (m) hk) (by simp -implicitDefEqProofs only[VN,XP,seval])
theorem bS(hir_mainOf_1:T 52=some M4)(nIdxCodes:T 51=none)(hP:PEok ⟨A0,T,A2⟩):TC A0 37 z7:=C8 hP fun p h=>Rb hir_mainOf_1 nIdxCodes h
end
def Nt(p s:List UInt8):Bool:=Nat.ble (o8 s) 4000000000||oneB p
def U7(args:List AV):Option (List AV):=match args with|[.str s,.str p]=>if Nt p s=true then some [.bool (contS p s)]else none|_=>none
theorem bT{s p:List UInt8}(h:Nt p s=true):U7 [.str s,.str p]=some [.bool (contS p s)]:=if_pos h
theorem Nu(hT:T 65=some U7){s p:List UInt8}{K:PK}(h:Nt p s=true):evP ⟨A0,T,A2⟩ (.call 65 [.str s,.str p] K)=some (.val [.bool (contS p s)] ⟨K.os++[],K.ext,K.tch⟩):=B8 hT rfl (bT h) rfl
theorem Rx{t:Nat}{a b:List UInt8}{K:PK}(h:a.length+b.length<=4611686018427387904):a8 A0 .add t (.str a) (.str b) K=.val (.str (a++b)) K:=by
 rw[bp _ _ rfl rfl];show Hn (bif Nat.ble (Nat.add (o8 a) (o8 b)) 4611686018427387904 then some (AV.str (a++b))else none) K=_
 rw[u3,u3,show Nat.ble (Nat.add a.length b.length) 4611686018427387904=true from Nat.ble_eq_true_of_le h];rfl
def Up:List UInt8:=[32,43,32,45,32,42,32,47,32,37,32,38,32,124,32,94,32,60,60,32,62,62,32,61,61,32,33,61,32,60,32,60,61,32,62,32,62,61,32]
def Uq:List UInt8:=[32,61,61,32,33,61,32,60,32,60,61,32,62,32,62,61,32]
def Lw(x:Ins):Bool:=if x.op=3 then !decide (x.s=[])&&(!contS [32] x.s&&contS (32::(x.s++[32])) Up)else if x.op=4 then decide (1<=x.ty)&&decide (x.ty<=3)else decide (1<=x.op)&&decide (x.op<=11)
theorem Xk(hstrings_Contains:T 65=some U7){x:Ins}(hk:x.s.length<=bigN):AM.Comes ⟨A0,T,A2⟩ 59 [x.F] [.bool (Lw x)]:=by
 refine⟨[.bool (Lw x)],⟨[],0,[]⟩,?_,C1 rfl zqb rfl rfl rfl⟩;rw[A6 (c:=OJ) (nt:=41) (rs:=[.tmp 2]) rfl (by simp)];unfold OJ;unfold K0;have d1:∀K:PK,a8 A0 .add 9 (.str [32]) (.str x.s) K=.val (.str (32::x.s)) K:=fun K=>Rx (by simp only[bigN]at hk;simp;omega)
 have d2:∀K:PK,a8 A0 .add 9 (.str (32::x.s)) (.str [32]) K=.val (.str (32::(x.s++[32]))) K:=fun K=>Rx (by simp only[bigN]at hk;simp;omega)
 have c1:=fun K=>Nu (K:=K) (s:=x.s) (p:=[32]) hstrings_Contains (by unfold Nt;rw[show oneB [32]=true from rfl,Bool.or_true])
 have c2:=fun K=>Nu (K:=K) (s:=Up) (p:=32::(x.s++[32])) hstrings_Contains (by unfold Nt;rfl)
 unfold Ins.F Lw;unfold Up at c2|-;by_cases e3:x.op=3
 . by_cases q1:x.s=[]
   . simp -implicitDefEqProofs only[eq_true e3,eq_true q1,zkf,XP,seval]
   cases q2:contS [32] x.s with
   |true=>simp -implicitDefEqProofs only[eq_true e3,eq_false q1,c1,q2,zkf,Bool.and_false,XP,seval]
   |false=>simp -implicitDefEqProofs only[eq_true e3,eq_false q1,c1,q2,d1,d2,c2,XP,seval]
 by_cases e4:x.op=4
 . by_cases q1:1<=x.ty
   . simp -implicitDefEqProofs only[e3,eq_true e4,eq_true q1,XP,seval]
   . simp -implicitDefEqProofs only[e3,eq_true e4,eq_false q1,zkf,XP,seval]
 . by_cases q1:1<=x.op
   . simp -implicitDefEqProofs only[e3,e4,eq_true q1,XP,seval]
   . simp -implicitDefEqProofs only[e3,e4,eq_false q1,zkf,XP,seval]
def Ft:=g0 (fun p:(Ins)=>[p.F]) (fun p=>[.bool (Lw p)]) (fun p=>p.s.length<=bigN)
theorem uH(hir_form:T 59=some Ft){x:Ins}{K:PK}(hk:x.s.length<=bigN):evP ⟨A0,T,A2⟩ (.call 59 [x.F] K)=some (.val (openTs K.os.length [.bool (Lw x)]).1 ⟨K.os++(openTs K.os.length [.bool (Lw x)]).2,K.ext,K.tch⟩):=B8 hir_form (by simp -implicitDefEqProofs only[VV,XP,seval]) (C2 (a:=fun p:(Ins)=>[p.F]) (r:=fun p=>[.bool (Lw p)]) (fun x y e=>by simp only[VJ]at e;simp only[e]) (x) hk) (by simp -implicitDefEqProofs only[VN,XP,seval])
theorem kO(hstrings_Contains:T 65=some U7)(hP:PEok ⟨A0,T,A2⟩):TC A0 59 Ft:=C8 hP fun p h=>Xk hstrings_Contains h
def X0(m:Modl)(at_:Int)(arr:Bool):Bool:=thereD at_ m.gs.length&&(match m.gs[at_.toNat]? with|some g=>decide (0<g.size)==arr|none=>false)
theorem Ry(t:Nat)(h:N8 A0 t=N8 A0 4)(a b:Bool)(K:PK):a8 A0 .eql t (.bool a) (.bool b) K=.val (.bool (a==b)) K:=by
 rw[bp _ _ rfl rfl,h];cases a<;>cases b<;>rfl
theorem H9{a n:Int}(h:thereD a n=true):∃k:Nat,a=k/\(k:Int)<n:=by
 unfold thereD at h;rw[zkg]at h;have h0:=of_decide_eq_true h.1;have h1:=of_decide_eq_true h.2;obtain⟨k,rfl⟩:=zki h0;exact⟨k,rfl,h1⟩
theorem Cc(hir_there:T 62=some J0){m:Modl}{c:Cod}{a:Int}{arr:Bool}:AM.Comes ⟨A0,T,A2⟩ 68 [chkF m c,.int .i64 a,.bool arr] [.bool (X0 m a arr)]:=by
 refine⟨[.bool (X0 m a arr)],⟨[],0,[]⟩,?_,C1 rfl zqb rfl rfl rfl⟩;rw[A6 (c:=OR) (nt:=25) (rs:=[.tmp 6]) rfl (by simp)];unfold OR;unfold K0;have t:=fun K=>v8 (K:=K) (a:=a) (n:=m.gs.length) hir_there
 have eb:=Ry 4 rfl;unfold chkF X0;cases ht:thereD a m.gs.length with
 |false=>rw[ht]at t;simp -implicitDefEqProofs only[t,zqa,zkf,XP,seval]
 | true =>
  obtain⟨k,rfl,hk⟩:=H9 ht;have hk:k<m.gs.length:=by omega
  rw[ht]at t;have hi:=B5 (F:=Glo.F) hk;simp only[Glo.F]at hi;rw[show((k:Int)).toNat=k from rfl,zql hk];simp -implicitDefEqProofs only[t,zqa,hi,eb,XP,seval]
def F5:=g0 (fun p:(Modl)×(Cod)×(Int)×(Bool)=>[chkF p.1 p.2.1,.int .i64 p.2.2.1,.bool p.2.2.2]) (fun p=>[.bool (X0 p.1 p.2.2.1 p.2.2.2)]) (fun p=>True)
theorem Ju(hir_checker_global:T 68=some F5){m:Modl}{c:Cod}{a:Int}{arr:Bool}{K:PK}:evP ⟨A0,T,A2⟩ (.call 68 [chkF m c,.int .i64 a,.bool arr] K)=some (.val (openTs K.os.length [.bool (X0 m a arr)]).1 ⟨K.os++(openTs K.os.length [.bool (X0 m a arr)]).2,K.ext,K.tch⟩):=B8 hir_checker_global (by simp -implicitDefEqProofs only[VV,XP,seval]) (C2 (a:=fun p:(Modl)×(Cod)×(Int)×(Bool)=>[chkF p.1 p.2.1,.int .i64 p.2.2.1,.bool p.2.2.2]) (r:=fun p=>[.bool (X0 p.1 p.2.2.1 p.2.2.2)]) (fun x y e=>by simp only[VJ]at e;simp only[e]) (m,c,a,arr) trivial) (by simp -implicitDefEqProofs only[VN,XP,seval])
theorem Fu(hir_there:T 62=some J0)(hP:PEok ⟨A0,T,A2⟩):TC A0 68 F5:=C8 hP fun p h=>Cc hir_there
def x5(l:List Int)(r:Int):Int:=l.getD r.toNat 0
theorem Lx{l:List Int}{k:Nat}(h:k<l.length):(ints l)[k]?=some (.int .i64 (x5 l k)):=by
 rw[G5 h];unfold x5;simp[h]
theorem Rz{m:Modl}{c:Cod}{r t:Int}{id:Nat}{K:PK}(hN:T 69=none)(hr:thereD r c.regs.length=true)(hK:K.os[id]?=some (.row 1 [chkF m c] 7)):
 evP ⟨A0,T,A2⟩ (.call 69 [.int .i64 r,.int .i64 t,.ptr id 0 0] K)=some (.val [.bool (decide (x5 c.regs r=t))] K):=by
 obtain⟨k,rfl,hk⟩:=H9 hr;have hi:=Lx (show k<c.regs.length by omega);rw[Am hN rfl];rw[A6 (c:=OS) (nt:=14) (rs:=[.tmp 5]) rfl (by simp)];unfold OS;unfold chkF at hK;simp -implicitDefEqProofs only[hK,hi,XP,seval]
theorem Ur{P:PE}{c:PC}{X:Type}{p:X->Bool}{l:List X}{S:Nat->PF}{K:PK}{x:Nat}{Q:PF->Prop}{R:PF->PK->Prop}
 (h1:∀i (h:i<l.length),p l[i]=true->evP P (.code c (S i) K)=some (.ok .normal (S (i+1)) K))
 (h2:∀i (h:i<l.length),p l[i]=false->∃fr' K',evP P (.code c (S i) K)=some (.ok .ret fr' K')/\R fr' K')
 (hx:∃fr',evP P (.code c (S l.length) K)=some (.ok (.exit x) fr' K)/\Q fr'):
 (l.all p=true/\∃fr',evP P (.code (.loop c) (S 0) K)=some (.ok (.exit x) fr' K)/\Q fr')\/(l.all p=false/\∃fr' K',evP P (.code (.loop c) (S 0) K)=some (.ok .ret fr' K')/\R fr' K'):=by
 have key:∀(n i:Nat),l.length=i+n->((l.drop i).all p=true/\∃fr',evP P (.code (.loop c) (S i) K)=some (.ok (.exit x) fr' K)/\Q fr')\/((l.drop i).all p=false/\∃fr' K',evP P (.code (.loop c) (S i) K)=some (.ok .ret fr' K')/\R fr' K'):=fun n=>by
  induction n with
  | zero =>
   intro i e;obtain rfl:i=l.length:=by omega
   obtain⟨fr',h,q⟩:=hx;exact .inl ⟨by rw[zqg];rfl,fr',B3 h,q⟩
  | succ n ih =>
   intro i e;have hl:i<l.length:=by omega
   rw[zqh hl,List.all_cons];cases hq:p l[i]with
   | true =>
    rw[loop_more (h1 i hl hq),Bool.true_and];exact ih (i+1) (by omega)
   | false =>
    obtain⟨fr',K',q1,q2⟩:=h2 i hl hq;exact .inr ⟨rfl,fr',K',L6 q1,q2⟩
 exact key l.length 0 (by omega)
section
variable {m:Modl}{c:Cod}{x:Ins}{fr:PF}{i:Nat}{tch:List Nat}
def Rc:List Int:=[1,2,3,4,5,7,10]
def jD(c:Cod)(x:Ins):Bool:=!((!decide (x.op=9)||decide (0<=writesD x))&&(!decide (writesD x=-1) && !thereD (writesD x) c.regs.length))
def codI(l:List Cod)(i:Int):Cod:=l.getD i.toNat ⟨[],0,0,[],[]⟩
def rM(m:Modl)(c:Cod)(x:Ins):Bool:=
 if x.op=1 then decide (Qi (x5 c.regs x.dst) x.n=x.n)else if x.op=5 then X0 m x.n true else if x.op=6 then X0 m x.n true else if x.op=7 then X0 m x.n false else if x.op=8 then X0 m x.n false
 else if x.op=9 then thereD x.n m.fs.length&&decide ((codI m.fs x.n).ps<=(codI m.fs x.n).regs.length)else true
def Fv(x:Ins):Bool:=(Rc.any fun n=>decide (x.op=n))&&decide (x.dst<0)
def G0(m:Modl)(c:Cod)(x:Ins):Bool:=(readsD x).all (fun r=>thereD r c.regs.length)&&(jD c x&&(!Fv x&&rM m c x))
theorem Ly{l:List Cod}{k:Nat}(h:k<l.length):(l.map Cod.F)[k]?=some (codI l k).F:=by
 rw[B5 (F:=Cod.F) h];unfold codI;simp[h]
theorem BT{w:PO}(h2:lookP fr 2=.ptr 0 0 0)(h3:lookP fr 3=.ptr 1 0 0)(hw:T 67=some U0)(hg:T 68=some F5)(ht:T 62=some J0)(h1:x.op=1->thereD x.dst c.regs.length=true):
 evP ⟨A0,T,A2⟩ (.code Tx fr ⟨[.row 1 [chkF m c] 7,.row 1 [x.F] 8,w],0,tch⟩)=some (.ok .ret [(4,.bool (rM m c x))] ⟨[],0,[]⟩):=by
 have tw:=fun t v K=>kL (K:=K) (t:=t) (v:=v) hw
 have tg:=fun a b K=>Ju (K:=K) (m:=m) (c:=c) (a:=a) (arr:=b) hg
 have tt:=fun a n K=>v8 (K:=K) (a:=a) (n:=n) ht
 unfold Tx tT tS tR tQ tP BI BH rM;unfold Ins.F;unfold chkF at tg|-;by_cases e1:x.op=1
 . obtain⟨k,hk,hlt⟩:=H9 (h1 e1)
   have hi:=Lx (show k<c.regs.length by omega);rw[hk];simp -implicitDefEqProofs only[h2,h3,eq_true e1,tw,hi,XP,seval]
 by_cases e5:x.op=5
 . simp -implicitDefEqProofs only[h2,h3,e1,eq_true e5,tg,XP,seval]
 by_cases e6:x.op=6
 . simp -implicitDefEqProofs only[h2,h3,e1,e5,eq_true e6,tg,XP,seval]
 by_cases e7:x.op=7
 . simp -implicitDefEqProofs only[h2,h3,e1,e5,e6,eq_true e7,tg,XP,seval]
 by_cases e8:x.op=8
 . simp -implicitDefEqProofs only[h2,h3,e1,e5,e6,e7,eq_true e8,tg,XP,seval]
 by_cases e9:x.op=9
 . cases ht:thereD x.n m.fs.length with
   |false=>simp -implicitDefEqProofs only[h2,h3,e1,e5,e6,e7,e8,eq_true e9,tt,ht,zqa,zkf,XP,seval]
   | true =>
    obtain⟨k,hk,hlt⟩:=H9 ht;have hi:=Ly (show k<m.fs.length by omega);simp only[Cod.F]at hi;rw[hk]at ht|-;simp -implicitDefEqProofs only[h2,h3,e1,e5,e6,e7,e8,eq_true e9,tt,ht,zqa,hi,XP,seval]
 . simp -implicitDefEqProofs only[h2,h3,e1,e5,e6,e7,e8,e9,XP,seval]
end
section
variable {m:Modl}{c:Cod}{x:Ins}{fr:PF}{i:Nat}{L:List Int}
theorem IE(h2:lookP fr 2=.ptr 0 0 0)(h3:lookP fr 3=.ptr 1 0 0)(hw:T 67=some U0)(hg:T 68=some F5)(ht:T 62=some J0)(hc:T 66=some w4)(h1:x.op=1->¬x.dst<0->thereD x.dst c.regs.length=true):
 evP ⟨A0,T,A2⟩ (.code bL fr ⟨[.row 1 [chkF m c] 7,.row 1 [x.F] 8],0,[]⟩)=some (.ok .ret [(4,.bool (!Fv x&&rM m c x))] ⟨[],0,[]⟩):=by
 have tc:∀K:PK,K.os[2]?=some (.row 0 (ints Rc) 1)->evP ⟨A0,T,A2⟩ (.call 66 [.msl 2 0 7 1,.int .i64 x.op] K)=some (.val [.bool (Rc.any fun n=>decide (x.op=n))] ⟨K.os++[],K.ext,K.tch⟩):=fun K hK=>B8 hc (by
  simp only[Rc,ints,List.map]at hK;simp -implicitDefEqProofs only[hK,Rc,XP,seval];rfl) (C2 (a:=fun p:List Int×Int=>[fslN (ints p.1),.int .i64 p.2]) (r:=fun p=>[.bool (p.1.any fun n=>decide (p.2=n))]) (fun x y e=>by simp only[List.cons.injEq,fslN_iff,ints_iff,AV.int.injEq,true_and,and_true]at e;simp only[e]) (Rc,x.op) (by show Rc.length<=bigN;decide)) rfl
 unfold bL BG Fv;cases ha:(Rc.any fun n=>decide (x.op=n))with
 | false =>
  rw[zkf];rw[ha]at tc;have sw:∀(fr:PF)(tch:List Nat),lookP fr 2=.ptr 0 0 0->lookP fr 3=.ptr 1 0 0->evP ⟨A0,T,A2⟩ (.code Tx fr ⟨[.row 1 [chkF m c] 7,.row 1 [x.F] 8,.row 0 [.int .i64 1,.int .i64 2,.int .i64 3,.int .i64 4,.int .i64 5,.int .i64 7,.int .i64 10] 1],0,tch⟩)=some (.ok .ret [(4,.bool (rM m c x))] ⟨[],0,[]⟩):=fun fr tch a b=>BT a b hw hg ht fun e=>absurd ha (by simp[Rc,e])
  simp only[Ins.F]at sw|-;simp only[Rc,ints,List.map]at tc;simp -implicitDefEqProofs only[h2,h3,tc,sw,XP,seval]
 | true =>
  rw[ha]at tc;simp only[Rc,ints,List.map]at tc;by_cases hd:x.dst<0
  . simp only[Ins.F]
    simp -implicitDefEqProofs only[h2,h3,tc,eq_true hd,zkf,XP,seval]
  . have sw:∀(fr:PF)(tch:List Nat),lookP fr 2=.ptr 0 0 0->lookP fr 3=.ptr 1 0 0->evP ⟨A0,T,A2⟩ (.code Tx fr ⟨[.row 1 [chkF m c] 7,.row 1 [x.F] 8,.row 0 [.int .i64 1,.int .i64 2,.int .i64 3,.int .i64 4,.int .i64 5,.int .i64 7,.int .i64 10] 1],0,tch⟩)=some (.ok .ret [(4,.bool (rM m c x))] ⟨[],0,[]⟩):=fun fr tch a b=>BT a b hw hg ht fun e=>h1 e hd
    simp only[Ins.F]at sw|-;simp -implicitDefEqProofs only[h2,h3,tc,hd,sw,XP,seval]
theorem IG(h:jD c x=true)(e:x.op=1)(hd:¬x.dst<0):thereD x.dst c.regs.length=true:=by
 unfold jD writesD at h;rw[if_pos e]at h
 have:¬x.dst=-1:=by omega
 have h9:¬x.op=9:=by omega
 cases ht:thereD x.dst c.regs.length with
 |true=>rfl
 |false=>rw[ht]at h;simp[this,h9]at h
theorem IH(h2:lookP fr 2=.ptr 0 0 0)(h3:lookP fr 3=.ptr 1 0 0)(hw:T 67=some U0)(hg:T 68=some F5)(ht:T 62=some J0)(hc:T 66=some w4)(hwr:T 30=some B9):
 evP ⟨A0,T,A2⟩ (.code bM fr ⟨[.row 1 [chkF m c] 7,.row 1 [x.F] 8],0,[]⟩)=some (.ok .ret [(4,.bool (jD c x&&(!Fv x&&rM m c x)))] ⟨[],0,[]⟩):=by
 have tw:=fun K=>j9 (K:=K) (x:=x) hwr
 have tt:=fun K=>v8 (K:=K) (a:=writesD x) (n:=c.regs.length) ht
 have k16:jD c x=true->∀fr:PF,lookP fr 2=.ptr 0 0 0->lookP fr 3=.ptr 1 0 0->evP ⟨A0,T,A2⟩ (.code bL fr ⟨[.row 1 [chkF m c] 7,.row 1 [x.F] 8],0,[]⟩)=some (.ok .ret [(4,.bool (!Fv x&&rM m c x))] ⟨[],0,[]⟩):=fun h fr a b=>IE a b hw hg ht hc (IG h)
 unfold bM BF BE;have fin:jD c x=!((!decide (x.op=9)||decide (0<=writesD x))&&(!decide (writesD x=-1) && !thereD (writesD x) c.regs.length)):=rfl;simp only[Ins.F]at tw k16|-;simp only[chkF]at k16|-;by_cases e9:x.op=9
 . by_cases w0:0<=writesD x
   . have w1:¬writesD x=-1:=by omega
     cases q:thereD (writesD x) c.regs.length with
     | true =>
      have ok:jD c x=true:=by rw[fin,q];simp
      have k16:=k16 ok;rw[q]at tt;simp -implicitDefEqProofs only[h2,h3,tw,tt,eq_true e9,eq_true w0,eq_false w1,zqa,ok,k16,XP,seval]
     | false =>
      have ok:jD c x=false:=by rw[fin,q];simp[w0,w1]
      rw[q]at tt;simp -implicitDefEqProofs only[h2,h3,tw,tt,eq_true e9,eq_true w0,eq_false w1,zqa,ok,zkf,XP,seval]
   . have ok:jD c x=true:=by rw[fin];simp[e9,w0]
     have k16:=k16 ok;simp -implicitDefEqProofs only[h2,h3,tw,eq_true e9,eq_false w0,ok,k16,XP,seval]
 . by_cases w1:writesD x=-1
   . have ok:jD c x=true:=by rw[fin];simp[w1]
     have k16:=k16 ok;simp -implicitDefEqProofs only[h2,h3,tw,e9,eq_true w1,ok,k16,XP,seval]
   . cases q:thereD (writesD x) c.regs.length with
     | true =>
      have ok:jD c x=true:=by rw[fin,q];simp
      have k16:=k16 ok;rw[q]at tt;simp -implicitDefEqProofs only[h2,h3,tw,tt,e9,eq_false w1,zqa,ok,k16,XP,seval]
     | false =>
      have ok:jD c x=false:=by rw[fin,q];simp[e9,w1]
      rw[q]at tt;simp -implicitDefEqProofs only[h2,h3,tw,tt,e9,eq_false w1,zqa,ok,zkf,XP,seval]
theorem WQ(ht:T 62=some J0)(h:i<L.length)(hs:L.length<=bigN)(hp:thereD L[i] c.regs.length=true):evP ⟨A0,T,A2⟩ (.code Ja [(2,.ptr 0 0 0),(3,.ptr 1 0 0),(9,.msl 2 0 L.length 1),(10,.int .i64 (L.length:Int)),(11,.int .i64 (i:Int))] ⟨[.row 1 [chkF m c] 7,.row 1 [x.F] 8,.row 0 (ints L) 1],0,[]⟩)=some (.ok .normal [(2,.ptr 0 0 0),(3,.ptr 1 0 0),(9,.msl 2 0 L.length 1),(10,.int .i64 (L.length:Int)),(11,.int .i64 ((i+1:Nat):Int))] ⟨[.row 1 [chkF m c] 7,.row 1 [x.F] 8,.row 0 (ints L) 1],0,[]⟩):=by
 unfold Ja mR tO tN tM;have hlt:decide ((i:Int)<(L.length:Int))=true:=by simp[h]
 have hw:=A8 (i:=i) (by simp only[bigN]at hs;omega);have tt:=fun K=>v8 (K:=K) (a:=L[i]) (n:=c.regs.length) ht
 rw[hp]at tt;unfold chkF Ins.F;simp -implicitDefEqProofs only[hlt,G5 h,hw,tt,h,zqa,XP,seval]
theorem WR(ht:T 62=some J0)(h:i<L.length)(hp:thereD L[i] c.regs.length=false):evP ⟨A0,T,A2⟩ (.code Ja [(2,.ptr 0 0 0),(3,.ptr 1 0 0),(9,.msl 2 0 L.length 1),(10,.int .i64 (L.length:Int)),(11,.int .i64 (i:Int))] ⟨[.row 1 [chkF m c] 7,.row 1 [x.F] 8,.row 0 (ints L) 1],0,[]⟩)=some (.ok .ret [(4,.bool false)] ⟨[],0,[]⟩):=by
 unfold Ja mR tO tN tM;have hlt:decide ((i:Int)<(L.length:Int))=true:=by simp[h]
 have tt:=fun K=>v8 (K:=K) (a:=L[i]) (n:=c.regs.length) ht
 rw[hp]at tt;unfold chkF Ins.F;simp -implicitDefEqProofs only[hlt,G5 h,tt,h,zqa,XP,seval]
theorem WS:∃fr',evP ⟨A0,T,A2⟩ (.code Ja [(2,.ptr 0 0 0),(3,.ptr 1 0 0),(9,.msl 2 0 L.length 1),(10,.int .i64 (L.length:Int)),(11,.int .i64 (L.length:Int))] ⟨[.row 1 [chkF m c] 7,.row 1 [x.F] 8,.row 0 (ints L) 1],0,[]⟩)=some (.ok (.exit 0) fr' ⟨[.row 1 [chkF m c] 7,.row 1 [x.F] 8,.row 0 (ints L) 1],0,[]⟩)/\(lookP fr' 2=.ptr 0 0 0/\lookP fr' 3=.ptr 1 0 0):=by
 unfold Ja mR;have hlt:decide ((L.length:Int)<(L.length:Int))=false:=by simp
 simp -implicitDefEqProofs only[hlt,XP,seval];exact⟨_,rfl,rfl,rfl⟩
theorem Us(hk:x.ok):(readsD x).length<=bigN:=by
 unfold readsD
 have:x.args.length<=bigN:=by unfold Ins.ok at hk;simp only[bigN]at hk|-;omega
 repeat' split
 all_goals first|exact this|(simp[bigN])
theorem Cd(hword_Wrap:T 67=some U0)(hir_checker_global:T 68=some F5)(hir_there:T 62=some J0)(hContInts:T 66=some w4)(hir_Writes:T 30=some B9)(hir_Reads:T 42=some D3){m:Modl}{c:Cod}{x:Ins}(hk:x.ok):AM.Comes ⟨A0,T,A2⟩ 60 [chkF m c,x.F] [.bool (G0 m c x)]:=by
 refine⟨[.bool (G0 m c x)],⟨[],0,[]⟩,?_,C1 rfl zqb rfl rfl rfl⟩;rw[A6 (c:=OL) (nt:=114) (rs:=[.tmp 4]) rfl (by simp)];unfold OL;unfold K0;have hr:=fun K=>Hb (K:=K) hir_Reads hk
 have hlen:=Us hk;have k17:∀fr:PF,lookP fr 2=.ptr 0 0 0->lookP fr 3=.ptr 1 0 0->evP ⟨A0,T,A2⟩ (.code bM fr ⟨[.row 1 [chkF m c] 7,.row 1 [x.F] 8],0,[]⟩)=some (.ok .ret [(4,.bool (jD c x&&(!Fv x&&rM m c x)))] ⟨[],0,[]⟩):=fun fr a b=>IH a b hword_Wrap hir_checker_global hir_there hContInts hir_Writes
 have lp:=Ur (P:=⟨A0,T,A2⟩) (c:=Ja) (p:=fun r=>thereD r c.regs.length) (l:=readsD x) (S:=fun i=>[(2,.ptr 0 0 0),(3,.ptr 1 0 0),(9,.msl 2 0 (readsD x).length 1),(10,.int .i64 ((readsD x).length:Int)),(11,.int .i64 (i:Int))]) (K:=⟨[.row 1 [chkF m c] 7,.row 1 [x.F] 8,.row 0 (ints (readsD x)) 1],0,[]⟩)
  (Q:=fun fr'=>lookP fr' 2=.ptr 0 0 0/\lookP fr' 3=.ptr 1 0 0) (R:=fun fr' K'=>fr'=[(4,.bool false)]/\K'=⟨[],0,[]⟩) (fun i h hp=>WQ hir_there h hlen hp) (fun i h hp=>⟨_,_,WR hir_there h hp,rfl,rfl⟩) WS
 unfold tU BD G0;rcases lp with⟨ha,fr',h1,h2,h3⟩|⟨ha,fr',K',h1,rfl,rfl⟩
 . have h1:evP ⟨A0,T,A2⟩ (.code (.loop Ja) [(2,.ptr 0 0 0),(3,.ptr 1 0 0),(9,.msl 2 0 (readsD x).length 1),(10,.int .i64 ((readsD x).length:Int)),(11,.int .i64 0)] _)=_:=h1
   rw[ha];simp only[Ins.F,chkF]at hr h1 k17|-;simp -implicitDefEqProofs only[hr,h1,h2,h3,k17,zqa,XP,seval]
 . have h1:evP ⟨A0,T,A2⟩ (.code (.loop Ja) [(2,.ptr 0 0 0),(3,.ptr 1 0 0),(9,.msl 2 0 (readsD x).length 1),(10,.int .i64 ((readsD x).length:Int)),(11,.int .i64 0)] _)=_:=h1
   rw[ha,zkf];simp only[Ins.F,chkF]at hr h1|-;simp -implicitDefEqProofs only[hr,h1,zqa,XP,seval]
def K9:=g0 (fun p:(Modl)×(Cod)×(Ins)=>[chkF p.1 p.2.1,p.2.2.F]) (fun p=>[.bool (G0 p.1 p.2.1 p.2.2)]) (fun p=>p.2.2.ok)
theorem Jv(hir_checker_places:T 60=some K9){m:Modl}{c:Cod}{x:Ins}{K:PK}(hk:x.ok):evP ⟨A0,T,A2⟩ (.call 60 [chkF m c,x.F] K)=some (.val (openTs K.os.length [.bool (G0 m c x)]).1 ⟨K.os++(openTs K.os.length [.bool (G0 m c x)]).2,K.ext,K.tch⟩):=B8 hir_checker_places (by simp -implicitDefEqProofs only[VV,XP,seval]) (C2 (a:=fun p:(Modl)×(Cod)×(Ins)=>[chkF p.1 p.2.1,p.2.2.F]) (r:=fun p=>[.bool (G0 p.1 p.2.1 p.2.2)]) (fun x y e=>by simp only[VJ]at e;simp only[e]) (m,c,x) hk) (by simp -implicitDefEqProofs only[VN,XP,seval])
theorem Fw(hword_Wrap:T 67=some U0)(hir_checker_global:T 68=some F5)(hir_there:T 62=some J0)(hContInts:T 66=some w4)(hir_Writes:T 30=some B9)(hir_Reads:T 42=some D3)(hP:PEok ⟨A0,T,A2⟩):TC A0 60 K9:=C8 hP fun p h=>Cd hword_Wrap hir_checker_global hir_there hContInts hir_Writes hir_Reads h
end
section
variable {m:Modl}{c:Cod}{x:Ins}{fr:PF}{i:Nat}
theorem Lz(h:G0 m c x=true){r:Int}(hr:r∈readsD x):thereD r c.regs.length=true:=by
 unfold G0 at h;rw[zkg]at h;exact zkc.1 h.1 r hr
theorem Nv(h:G0 m c x=true)(e:x.op=1\/x.op=2\/x.op=3\/x.op=4\/x.op=5\/x.op=7\/x.op=10):thereD x.dst c.regs.length=true:=by
 unfold G0 at h;simp only[zkg]at h;obtain⟨_,h1,h2,_⟩:=h;have hd:¬x.dst<0:=fun hd=>by
  have:Fv x=true:=by
   unfold Fv Rc;rcases e with e|e|e|e|e|e|e<;>simp[e,hd]
  rw[this]at h2;cases h2
 have hw:writesD x=x.dst:=by
  unfold writesD;rcases e with e|e|e|e|e|e|e<;>simp[e]
 unfold jD at h1;rw[hw]at h1;have h9:¬x.op=9:=by omega
 have:¬x.dst=-1:=by omega
 cases ht:thereD x.dst c.regs.length with
 |true=>rfl
 |false=>rw[ht]at h1;simp[this,h9]at h1
theorem uI(h:G0 m c x=true):rM m c x=true:=by
 unfold G0 at h;simp only[zkg]at h;exact h.2.2.2
theorem bU(h:G0 m c x=true)(e:x.op=5\/x.op=6\/x.op=7\/x.op=8):thereD x.n m.gs.length=true:=by
 have h:=uI h;unfold rM at h;rcases e with e|e|e|e<;>simp[e,X0]at h<;>exact h.1
theorem uJ(h:G0 m c x=true)(e:x.op=9):thereD x.n m.fs.length=true/\(codI m.fs x.n).ps<=(codI m.fs x.n).regs.length:=by
 have h:=uI h;unfold rM at h;simpa[e]using h
theorem yJ(h:G0 m c x=true)(e:x.op=9)(hd:¬x.dst<0):thereD x.dst c.regs.length=true:=by
 unfold G0 at h;simp only[zkg]at h;obtain⟨_,h1,h2,_⟩:=h;have hw:writesD x=x.dst:=by
  unfold writesD;simp[e];omega
 unfold jD at h1;rw[hw]at h1
 have:¬x.dst=-1:=by omega
 have h0:0<=x.dst:=by omega
 cases ht:thereD x.dst c.regs.length with
 |true=>rfl
 |false=>rw[ht]at h1;simp[this,h0]at h1
def isD(c:Cod)(r t:Int):Bool:=decide (x5 c.regs r=t)
def kP(l:List Glo)(i:Int):Glo:=l.getD i.toNat ⟨[],0,0,0⟩
theorem uK{l:List Glo}{k:Nat}(h:k<l.length):(l.map Glo.F)[k]?=some (kP l k).F:=by
 rw[B5 (F:=Glo.F) h];unfold kP;simp[h]
def II(x:Ins):Int:=if contS (32::(x.s++[32])) Uq then 1 else x.ty
def Dy(m:Modl)(c:Cod)(x:Ins):Bool:=(x.args.zip (codI m.fs x.n).regs).all (fun p=>isD c p.1 p.2)&&(decide (x.dst<0)||(!decide ((codI m.fs x.n).ty=0)&&isD c x.dst (codI m.fs x.n).ty))
def z8(m:Modl)(c:Cod)(x:Ins):Bool:=
 if x.op=2 then isD c x.a (x5 c.regs x.dst)else if x.op=3 then isD c x.a x.ty&&(isD c x.b x.ty&&isD c x.dst (II x))else if x.op=4 then isD c x.dst (Jd x.ty)
 else if x.op=5 then isD c x.a 2&&isD c x.dst (Jd (kP m.gs x.n).ty)else if x.op=6 then isD c x.a 2&&isD c x.b (Jd (kP m.gs x.n).ty)else if x.op=7 then isD c x.dst (kP m.gs x.n).ty else if x.op=8 then isD c x.a (kP m.gs x.n).ty
 else if x.op=9 then Dy m c x else if x.op=10 then isD c x.dst 2 else if x.op=11 then isD c x.a 2 else true
def Ut(m:Modl)(x:Ins):Prop:=x.op=9->(x.args.length:Int)=(codI m.fs x.n).ps
section
variable {F:Cod}{A:List Int}
theorem WT(hN:T 69=none)(h:i<A.length)(hF:i<F.regs.length)(hs:A.length<=bigN)(hr:thereD A[i] c.regs.length=true)(hp:isD c A[i] F.regs[i]=true):
 evP ⟨A0,T,A2⟩ (.code Jb [(2,.fn (.func 69) [] [.ptr 0 0 0]),(4,.ptr 2 0 0),(7,.ptr 3 0 0),(18,fslN (ints A)),(19,.int .i64 (A.length:Int)),(20,.int .i64 (i:Int))] ⟨[.row 1 [chkF m c] 7,.row 1 [x.F] 8,.row 1 [x.F] 8,.row 1 [F.F] 5],2,[]⟩)=some (.ok .normal [(2,.fn (.func 69) [] [.ptr 0 0 0]),(4,.ptr 2 0 0),(7,.ptr 3 0 0),(18,fslN (ints A)),(19,.int .i64 (A.length:Int)),(20,.int .i64 ((i+1:Nat):Int))] ⟨[.row 1 [chkF m c] 7,.row 1 [x.F] 8,.row 1 [x.F] 8,.row 1 [F.F] 5],2,[]⟩):=by
 unfold Jb;have hlt:decide ((i:Int)<(A.length:Int))=true:=by simp[h]
 have hw:=A8 (i:=i) (by simp only[bigN]at hs;omega);have ic:=fun t K hK=>Rz (m:=m) (t:=t) (id:=0) (K:=K) hN hr hK
 have hp:decide (x5 c.regs A[i]=F.regs[i])=true:=hp;simp only[chkF,Ins.F,Cod.F]at ic|-;simp -implicitDefEqProofs only[hlt,G5 h,G5 hF,hw,ic,hp,XP,seval]
theorem WU(hN:T 69=none)(h:i<A.length)(hF:i<F.regs.length)(hr:thereD A[i] c.regs.length=true)(hp:isD c A[i] F.regs[i]=false):
 ∃K',evP ⟨A0,T,A2⟩ (.code Jb [(2,.fn (.func 69) [] [.ptr 0 0 0]),(4,.ptr 2 0 0),(7,.ptr 3 0 0),(18,fslN (ints A)),(19,.int .i64 (A.length:Int)),(20,.int .i64 (i:Int))] ⟨[.row 1 [chkF m c] 7,.row 1 [x.F] 8,.row 1 [x.F] 8,.row 1 [F.F] 5],2,[]⟩)=some (.ok .ret [(6,.bool false)] K')/\K'=⟨[.row 1 [chkF m c] 7,.row 1 [x.F] 8],2,[]⟩:=by
 unfold Jb;have hlt:decide ((i:Int)<(A.length:Int))=true:=by simp[h]
 have ic:=fun t K hK=>Rz (m:=m) (t:=t) (id:=0) (K:=K) hN hr hK
 have hp:decide (x5 c.regs A[i]=F.regs[i])=false:=hp;simp only[chkF,Ins.F,Cod.F]at ic|-;simp -implicitDefEqProofs only[hlt,G5 h,G5 hF,ic,hp,XP,seval];exact⟨_,rfl,rfl⟩
theorem WV:∃fr',evP ⟨A0,T,A2⟩ (.code Jb [(2,.fn (.func 69) [] [.ptr 0 0 0]),(4,.ptr 2 0 0),(7,.ptr 3 0 0),(18,fslN (ints A)),(19,.int .i64 (A.length:Int)),(20,.int .i64 (A.length:Int))] ⟨[.row 1 [chkF m c] 7,.row 1 [x.F] 8,.row 1 [x.F] 8,.row 1 [F.F] 5],2,[]⟩)=some (.ok (.exit 0) fr' ⟨[.row 1 [chkF m c] 7,.row 1 [x.F] 8,.row 1 [x.F] 8,.row 1 [F.F] 5],2,[]⟩)/\(lookP fr' 2=.fn (.func 69) [] [.ptr 0 0 0]/\lookP fr' 4=.ptr 2 0 0/\lookP fr' 7=.ptr 3 0 0):=by
 unfold Jb;have hlt:decide ((A.length:Int)<(A.length:Int))=false:=by simp
 simp -implicitDefEqProofs only[hlt,XP,seval];exact⟨_,rfl,rfl,rfl,rfl⟩
end
theorem qI(hN:T 69=none)(hk:x.ok)(hpl:G0 m c x=true)(e9:x.op=9)(ha:Ut m x):
 evP ⟨A0,T,A2⟩ (.body 71 [chkF m c,x.F,.fn (.func 69) [] [.ptr 0 0 0]] ⟨[.row 1 [chkF m c] 7,.row 1 [x.F] 8],2,[]⟩)=some (.val [.bool (Dy m c x)] ⟨[.row 1 [chkF m c] 7,.row 1 [x.F] 8],2,[]⟩):=by
 obtain⟨hf,hps⟩:=uJ hpl e9;have ha:=ha e9;obtain⟨k,hkn,hkl⟩:=H9 hf;have hi:=Ly (show k<m.fs.length by omega);rw[<-hkn]at hi;have hlen:x.args.length<=bigN:=by unfold Ins.ok at hk;simp only[bigN]at hk|-;omega
 have hz:(x.args.zip (codI m.fs x.n).regs).length=x.args.length:=by rw[zqw];omega
 have rd:∀i (h:i<x.args.length),thereD x.args[i] c.regs.length=true:=fun i h=>Lz hpl (by
  have:readsD x=x.args:=by simp[readsD,e9]
  rw[this];exact zqc h)
 have lp:=Ur (P:=⟨A0,T,A2⟩) (c:=Jb) (p:=fun p=>isD c p.1 p.2) (l:=x.args.zip (codI m.fs x.n).regs) (S:=fun i=>[(2,.fn (.func 69) [] [.ptr 0 0 0]),(4,.ptr 2 0 0),(7,.ptr 3 0 0),(18,fslN (ints x.args)),(19,.int .i64 (x.args.length:Int)),(20,.int .i64 (i:Int))]) (K:=⟨[.row 1 [chkF m c] 7,.row 1 [x.F] 8,.row 1 [x.F] 8,.row 1 [(codI m.fs x.n).F] 5],2,[]⟩)
  (Q:=fun fr'=>lookP fr' 2=.fn (.func 69) [] [.ptr 0 0 0]/\lookP fr' 4=.ptr 2 0 0/\lookP fr' 7=.ptr 3 0 0) (R:=fun fr' K'=>fr'=[(6,.bool false)]/\K'=⟨[.row 1 [chkF m c] 7,.row 1 [x.F] 8],2,[]⟩)
  (fun i h hp=>WT (F:=codI m.fs x.n) (A:=x.args) hN (by omega) (by rw[zqw]at h;omega) hlen (rd i (by omega)) (by simpa using hp)) (fun i h hp=>by
    obtain⟨K',q1,q2⟩:=WU (m:=m) (x:=x) (F:=codI m.fs x.n) (A:=x.args) hN (show i<x.args.length by omega) (by rw[zqw]at h;omega) (rd i (by omega)) (by simpa using hp);exact⟨_,K',q1,rfl,q2⟩) (by rw[hz];exact WV)
 rw [A6 (c:=OU) (nt:=51) (rs:=[.tmp 6]) rfl (by simp)];unfold OU;have fin:Dy m c x=((x.args.zip (codI m.fs x.n).regs).all (fun p=>isD c p.1 p.2)&&(decide (x.dst<0)||(!decide ((codI m.fs x.n).ty=0)&&isD c x.dst (codI m.fs x.n).ty))):=rfl;have hix:∀te:TI,te.size=5->Qp te (fslN (m.fs.map Cod.F)) (.int .i64 x.n)=some (.fptr (codI m.fs x.n).F 0):=fun te h=>by
  rw[hkn]at hi|-;exact ix_fslN hi (by rw[h];rfl)
 have hix:=hix _ ty31_z;rcases lp with⟨hall,fr',h1,h2,h3,h4⟩|⟨hall,fr',K',h1,rfl,rfl⟩
 . have h1:evP ⟨A0,T,A2⟩ (.code (.loop Jb) [(2,.fn (.func 69) [] [.ptr 0 0 0]),(4,.ptr 2 0 0),(7,.ptr 3 0 0),(18,fslN (ints x.args)),(19,.int .i64 (x.args.length:Int)),(20,.int .i64 0)] _)=_:=h1
   rw[hall,Bool.true_and]at fin;simp only[chkF,Ins.F,Cod.F]at h1 hix|-;by_cases hd:x.dst<0
   . have fin:Dy m c x=true:=by rw[fin];simp[hd]
     simp -implicitDefEqProofs only[hix,h1,h2,h3,h4,fin,eq_true hd,zqa,XP,seval]
   . by_cases hv:(codI m.fs x.n).ty=0
     . have fin:Dy m c x=false:=by rw[fin];simp[hd,hv]
       simp -implicitDefEqProofs only[hix,h1,h2,h3,h4,fin,hd,eq_true hv,zqa,XP,seval]
     . have fin:Dy m c x=isD c x.dst (codI m.fs x.n).ty:=by rw[fin];simp[hd,hv]
       have ic:=fun t K hK=>Rz (m:=m) (r:=x.dst) (t:=t) (id:=0) (K:=K) hN (yJ hpl e9 hd) hK
       unfold isD at fin;simp only[chkF]at ic;simp -implicitDefEqProofs only[hix,h1,h2,h3,h4,fin,hd,hv,ic,zqa,XP,seval]
 . have h1:evP ⟨A0,T,A2⟩ (.code (.loop Jb) [(2,.fn (.func 69) [] [.ptr 0 0 0]),(4,.ptr 2 0 0),(7,.ptr 3 0 0),(18,fslN (ints x.args)),(19,.int .i64 (x.args.length:Int)),(20,.int .i64 0)] _)=_:=h1
   rw[hall,zkf]at fin;simp only[chkF,Ins.F,Cod.F]at h1 hix|-;simp -implicitDefEqProofs only[hix,h1,fin,zqa,XP,seval]
end
section
variable {m:Modl}{c:Cod}{x:Ins}{fr:PF}{i:Nat}{tch:List Nat}
theorem qJ(hN:T 69=none)(hC:T 71=none)(hk:x.ok)(hpl:G0 m c x=true)(e9:x.op=9)(ha:Ut m x):
 evP ⟨A0,T,A2⟩ (.call 71 [chkF m c,x.F,.fn (.func 69) [] [.ptr 0 0 0]] ⟨[.row 1 [chkF m c] 7,.row 1 [x.F] 8],0,tch⟩)=some (.val [.bool (Dy m c x)] ⟨[.row 1 [chkF m c] 7,.row 1 [x.F] 8],0,tch⟩):=
 (Am hC rfl).trans ((congrArg _ (qI hN hk hpl e9 ha)).trans rfl)
theorem Dc(nir_checker_types_1:T 69=none)(nir_checker_call:T 71=none)(hstrings_Contains:T 65=some U7)(hir_wide:T 70=some Fq){m:Modl}{c:Cod}{x:Ins}(hk:x.ok/\x.s.length<=bigN/\G0 m c x=true/\Ut m x):AM.Comes ⟨A0,T,A2⟩ 61 [chkF m c,x.F] [.bool (z8 m c x)]:=by
 refine⟨[.bool (z8 m c x)],⟨[],0,[]⟩,?_,C1 rfl zqb rfl rfl rfl⟩;rw[A6 (c:=OM) (nt:=150) (rs:=[.tmp 4]) rfl (by simp)];unfold OM;unfold K0;obtain⟨hx,hs,hpl,hargs⟩:=hk;have isr:=fun(r t:Int)(K:PK)(hr:thereD r c.regs.length=true) hK=>Rz (m:=m) (c:=c) (r:=r) (t:=t) (id:=0) (K:=K) nir_checker_types_1 hr hK
 have tw:=fun t K=>uF (K:=K) (t:=t) hir_wide
 have cc:=fun e9 tch=>qJ (tch:=tch) nir_checker_types_1 nir_checker_call hx hpl e9 hargs
 have gix:∀k:Nat,x.n=k->k<m.gs.length->Qp Ty (fslN (m.gs.map Glo.F)) (.int .i64 x.n)=some (.fptr (kP m.gs x.n).F 0):=fun k hk hl=>by
  rw[hk];exact ix_fslN (uK hl) rfl
 have rix:∀k:Nat,x.dst=k->k<c.regs.length->Qp Yu (fslN (ints c.regs)) (.int .i64 x.dst)=some (.fptr (.int .i64 (x5 c.regs x.dst)) 0):=fun k hk hl=>by
  rw[hk];exact ix_fslN (Lx hl) rfl
 unfold tZ tY tX tW tV BS BR BQ BP BO BN BM BL z8;simp only[chkF,Ins.F]at isr cc|-;by_cases e2:x.op=2
 . have ia:=fun t K hK=>isr x.a t K (Lz hpl (by simp[readsD,e2])) hK
   obtain⟨k,hk,hl⟩:=H9 (Nv hpl (by simp[e2]));have hix:=rix k hk (by omega);unfold isD;simp -implicitDefEqProofs only[eq_true e2,ia,hix,XP,seval]
 by_cases e3:x.op=3
 . have ia:=fun t K hK=>isr x.a t K (Lz hpl (by simp[readsD,e3])) hK
   have ib:=fun t K hK=>isr x.b t K (Lz hpl (by simp[readsD,e3])) hK
   have id:=fun t K hK=>isr x.dst t K (Nv hpl (by simp[e3])) hK
   have d1:∀K:PK,a8 A0 .add 9 (.str [32]) (.str x.s) K=.val (.str (32::x.s)) K:=fun K=>Rx (by simp only[bigN]at hs;simp;omega)
   have d2:∀K:PK,a8 A0 .add 9 (.str (32::x.s)) (.str [32]) K=.val (.str (32::(x.s++[32]))) K:=fun K=>Rx (by simp only[bigN]at hs;simp;omega)
   have cn:=fun K=>Nu (K:=K) (s:=Uq) (p:=32::(x.s++[32])) hstrings_Contains (by unfold Nt;rfl)
   unfold isD II BK BJ;unfold Uq at cn|-;by_cases qa:x5 c.regs x.a=x.ty
   . by_cases qb:x5 c.regs x.b=x.ty
     . cases hcc:contS (32::(x.s++[32])) [32,61,61,32,33,61,32,60,32,60,61,32,62,32,62,61,32]with
       |true=>simp -implicitDefEqProofs only[e2,eq_true e3,ia,ib,id,d1,d2,cn,hcc,eq_true qa,eq_true qb,XP,seval]
       |false=>simp -implicitDefEqProofs only[e2,eq_true e3,ia,ib,id,d1,d2,cn,hcc,eq_true qa,eq_true qb,XP,seval]
     . cases hcc:contS (32::(x.s++[32])) [32,61,61,32,33,61,32,60,32,60,61,32,62,32,62,61,32]with
       |true=>simp -implicitDefEqProofs only[e2,eq_true e3,ia,ib,id,d1,d2,cn,hcc,eq_true qa,eq_false qb,zkf,XP,seval]
       |false=>simp -implicitDefEqProofs only[e2,eq_true e3,ia,ib,id,d1,d2,cn,hcc,eq_true qa,eq_false qb,zkf,XP,seval]
   . cases hcc:contS (32::(x.s++[32])) [32,61,61,32,33,61,32,60,32,60,61,32,62,32,62,61,32]with
     |true=>simp -implicitDefEqProofs only[e2,eq_true e3,ia,ib,id,d1,d2,cn,hcc,eq_false qa,zkf,XP,seval]
     |false=>simp -implicitDefEqProofs only[e2,eq_true e3,ia,ib,id,d1,d2,cn,hcc,eq_false qa,zkf,XP,seval]
 by_cases e4:x.op=4
 . have id:=fun t K hK=>isr x.dst t K (Nv hpl (by simp[e4])) hK
   unfold isD;simp -implicitDefEqProofs only[e2,e3,eq_true e4,id,tw,XP,seval]
 by_cases e5:x.op=5
 . have ia:=fun t K hK=>isr x.a t K (Lz hpl (by simp[readsD,e5])) hK
   have id:=fun t K hK=>isr x.dst t K (Nv hpl (by simp[e5])) hK
   obtain⟨k,hk,hl⟩:=H9 (bU hpl (by simp[e5]));have hix:=gix k hk (by omega);simp only[Glo.F]at hix;unfold isD;by_cases qa:x5 c.regs x.a=2
   . simp -implicitDefEqProofs only[e2,e3,e4,eq_true e5,ia,id,hix,tw,eq_true qa,XP,seval]
   . simp -implicitDefEqProofs only[e2,e3,e4,eq_true e5,ia,id,hix,tw,eq_false qa,zkf,XP,seval]
 by_cases e6:x.op=6
 . have ia:=fun t K hK=>isr x.a t K (Lz hpl (by simp[readsD,e6])) hK
   have ib:=fun t K hK=>isr x.b t K (Lz hpl (by simp[readsD,e6])) hK
   obtain⟨k,hk,hl⟩:=H9 (bU hpl (by simp[e6]));have hix:=gix k hk (by omega);simp only[Glo.F]at hix;unfold isD;by_cases qa:x5 c.regs x.a=2
   . simp -implicitDefEqProofs only[e2,e3,e4,e5,eq_true e6,ia,ib,hix,tw,eq_true qa,XP,seval]
   . simp -implicitDefEqProofs only[e2,e3,e4,e5,eq_true e6,ia,ib,hix,tw,eq_false qa,zkf,XP,seval]
 by_cases e7:x.op=7
 . have id:=fun t K hK=>isr x.dst t K (Nv hpl (by simp[e7])) hK
   obtain⟨k,hk,hl⟩:=H9 (bU hpl (by simp[e7]));have hix:=gix k hk (by omega);simp only[Glo.F]at hix;unfold isD;simp -implicitDefEqProofs only[e2,e3,e4,e5,e6,eq_true e7,id,hix,XP,seval]
 by_cases e8:x.op=8
 . have ia:=fun t K hK=>isr x.a t K (Lz hpl (by simp[readsD,e8])) hK
   obtain⟨k,hk,hl⟩:=H9 (bU hpl (by simp[e8]));have hix:=gix k hk (by omega);simp only[Glo.F]at hix;unfold isD;simp -implicitDefEqProofs only[e2,e3,e4,e5,e6,e7,eq_true e8,ia,hix,XP,seval]
 by_cases e9:x.op=9
 . have cc:=cc e9
   simp -implicitDefEqProofs only[e2,e3,e4,e5,e6,e7,e8,eq_true e9,cc,XP,seval]
 by_cases e10:x.op=10
 . have id:=fun t K hK=>isr x.dst t K (Nv hpl (by simp[e10])) hK
   unfold isD;simp -implicitDefEqProofs only[e2,e3,e4,e5,e6,e7,e8,e9,eq_true e10,id,XP,seval]
 by_cases e11:x.op=11
 . have ia:=fun t K hK=>isr x.a t K (Lz hpl (by simp[readsD,e11])) hK
   unfold isD;simp -implicitDefEqProofs only[e2,e3,e4,e5,e6,e7,e8,e9,e10,eq_true e11,ia,XP,seval]
 . simp -implicitDefEqProofs only[e2,e3,e4,e5,e6,e7,e8,e9,e10,e11,XP,seval]
def M5:=g0 (fun p:(Modl)×(Cod)×(Ins)=>[chkF p.1 p.2.1,p.2.2.F]) (fun p=>[.bool (z8 p.1 p.2.1 p.2.2)]) (fun p=>p.2.2.ok/\p.2.2.s.length<=bigN/\G0 p.1 p.2.1 p.2.2=true/\Ut p.1 p.2.2)
theorem Bh(hir_checker_types:T 61=some M5){m:Modl}{c:Cod}{x:Ins}{K:PK}(hk:x.ok/\x.s.length<=bigN/\G0 m c x=true/\Ut m x):evP ⟨A0,T,A2⟩ (.call 61 [chkF m c,x.F] K)=some (.val (openTs K.os.length [.bool (z8 m c x)]).1 ⟨K.os++(openTs K.os.length [.bool (z8 m c x)]).2,K.ext,K.tch⟩):=B8 hir_checker_types (by simp -implicitDefEqProofs only[VV,XP,seval]) (C2 (a:=fun p:(Modl)×(Cod)×(Ins)=>[chkF p.1 p.2.1,p.2.2.F]) (r:=fun p=>[.bool (z8 p.1 p.2.1 p.2.2)]) (fun x y e=>by simp only[VJ]at e;simp only[e]) (m,c,x) hk) (by simp -implicitDefEqProofs only[VN,XP,seval])
theorem Ie(nir_checker_types_1:T 69=none)(nir_checker_call:T 71=none)(hstrings_Contains:T 65=some U7)(hir_wide:T 70=some Fq)(hP:PEok ⟨A0,T,A2⟩):TC A0 61 M5:=C8 hP fun p h=>Dc nir_checker_types_1 nir_checker_call hstrings_Contains hir_wide h
end
section
variable {m:Modl}{c:Cod}{x:Ins}{fr:PF}{i:Nat}{tch:List Nat}
def Q4(m:Modl)(c:Cod)(x:Ins):Int:=if Lw x=true then(if G0 m c x=true then(if x.op=9 then(if(x.args.length:Int)=(codI m.fs x.n).ps then(if z8 m c x=true then 0 else 6)else 7)else(if z8 m c x=true then 0 else 6))else 11)else 2
theorem Dd(hir_form:T 59=some Ft)(hir_checker_places:T 60=some K9)(hir_checker_types:T 61=some M5){m:Modl}{c:Cod}{x:Ins}(hk:x.ok/\x.s.length<=bigN):AM.Comes ⟨A0,T,A2⟩ 49 [chkF m c,x.F] [.int .i64 (Q4 m c x)]:=by
 refine⟨[.int .i64 (Q4 m c x)],⟨[],0,[]⟩,?_,C1 rfl zqb rfl rfl rfl⟩;rw[A6 (c:=OB) (nt:=37) (rs:=[.tmp 4]) rfl (by simp)];unfold OB;unfold K0;obtain⟨hx,hs⟩:=hk;have tf:=fun K=>uH (K:=K) hir_form hs
 have tp:=fun K=>Jv (K:=K) (m:=m) (c:=c) hir_checker_places hx
 unfold Q4;cases hf:Lw x with
 | false =>
  rw[hf]at tf;simp only[Ins.F,chkF]at tf|-;simp -implicitDefEqProofs only[tf,XP,seval]
 | true =>
  rw[hf]at tf;cases hp:G0 m c x with
  | false =>
   rw[hp]at tp;simp only[Ins.F,chkF]at tf tp|-;simp -implicitDefEqProofs only[tf,tp,XP,seval]
  | true =>
   rw[hp]at tp;by_cases e9:x.op=9
   . obtain ⟨hfn,hps⟩:=uJ hp e9
     obtain ⟨k,hkn,hkl⟩:=H9 hfn;have hi:=Ly (show k<m.fs.length by omega);rw[<-hkn]at hi;have hix:Qp Fp (fslN (m.fs.map Cod.F)) (.int .i64 x.n)=some (.fptr (codI m.fs x.n).F 0):=by
      rw[hkn]at hi|-;exact ix_fslN hi rfl
     by_cases hq:(x.args.length:Int)=(codI m.fs x.n).ps
     . have tt:=fun K=>Bh (K:=K) (m:=m) (c:=c) hir_checker_types ⟨hx,hs,hp,fun _=>hq⟩
       cases ht:z8 m c x with
       |true=>rw[ht]at tt;simp only[Ins.F,chkF,Cod.F]at tf tp tt hix|-;simp -implicitDefEqProofs only[tf,tp,tt,hix,eq_true e9,eq_true hq,zqa,XP,seval]
       |false=>rw[ht]at tt;simp only[Ins.F,chkF,Cod.F]at tf tp tt hix|-;simp -implicitDefEqProofs only[tf,tp,tt,hix,eq_true e9,eq_true hq,zqa,XP,seval]
     . simp only[Ins.F,chkF,Cod.F]at tf tp hix|-;simp -implicitDefEqProofs only[tf,tp,hix,eq_true e9,hq,zqa,XP,seval]
   . have tt:=fun K=>Bh (K:=K) (m:=m) (c:=c) hir_checker_types ⟨hx,hs,hp,fun h=>absurd h e9⟩
     cases ht:z8 m c x with
     |true=>rw[ht]at tt;simp only[Ins.F,chkF]at tf tp tt|-;simp -implicitDefEqProofs only[tf,tp,tt,e9,XP,seval]
     |false=>rw[ht]at tt;simp only[Ins.F,chkF]at tf tp tt|-;simp -implicitDefEqProofs only[tf,tp,tt,e9,XP,seval]
def E4:=g0 (fun p:(Modl)×(Cod)×(Ins)=>[chkF p.1 p.2.1,p.2.2.F]) (fun p=>[.int .i64 (Q4 p.1 p.2.1 p.2.2)]) (fun p=>p.2.2.ok/\p.2.2.s.length<=bigN)
theorem Bi(hir_checker_instr:T 49=some E4){m:Modl}{c:Cod}{x:Ins}{K:PK}(hk:x.ok/\x.s.length<=bigN):evP ⟨A0,T,A2⟩ (.call 49 [chkF m c,x.F] K)=some (.val (openTs K.os.length [.int .i64 (Q4 m c x)]).1 ⟨K.os++(openTs K.os.length [.int .i64 (Q4 m c x)]).2,K.ext,K.tch⟩):=B8 hir_checker_instr (by simp -implicitDefEqProofs only[VV,XP,seval]) (C2 (a:=fun p:(Modl)×(Cod)×(Ins)=>[chkF p.1 p.2.1,p.2.2.F]) (r:=fun p=>[.int .i64 (Q4 p.1 p.2.1 p.2.2)]) (fun x y e=>by simp only[VJ]at e;simp only[e]) (m,c,x) hk) (by simp -implicitDefEqProofs only[VN,XP,seval])
theorem If(hir_form:T 59=some Ft)(hir_checker_places:T 60=some K9)(hir_checker_types:T 61=some M5)(hP:PEok ⟨A0,T,A2⟩):TC A0 49 E4:=C8 hP fun p h=>Dd hir_form hir_checker_places hir_checker_types h
def Uu(c:Cod)(e:Endd):Int:=
 if e.kind=1 then(if thereD e.to c.blocks.length=true then 0 else 11)
 else if e.kind=2 then(if thereD e.to c.blocks.length=true then(if thereD e.els c.blocks.length=true then(if thereD e.a c.regs.length=true then(if x5 c.regs e.a=1 then 0 else 6)else 11)else 11)else 11)
 else if e.kind=3 then(if e.a<0 then(if c.ty=0 then 0 else 6)else(if thereD e.a c.regs.length=true then(if c.ty=0 then 6 else if x5 c.regs e.a=c.ty then 0 else 6)else 11))else 2
theorem Fx(hir_there:T 62=some J0){m:Modl}{c:Cod}{e:Endd}:AM.Comes ⟨A0,T,A2⟩ 50 [chkF m c,e.F] [.int .i64 (Uu c e)]:=by
 refine⟨[.int .i64 (Uu c e)],⟨[],0,[]⟩,?_,C1 rfl zqb rfl rfl rfl⟩;rw[A6 (c:=OC) (nt:=100) (rs:=[.tmp 4]) rfl (by simp)];unfold OC;unfold K0;have tt:=fun a n K=>v8 (K:=K) (a:=a) (n:=n) hir_there
 have eb:=Ry 4 rfl;have rix:∀k:Nat,e.a=k->k<c.regs.length->Qp Yu (fslN (ints c.regs)) (.int .i64 e.a)=some (.fptr (.int .i64 (x5 c.regs e.a)) 0):=fun k hk hl=>by
  rw[hk];exact ix_fslN (Lx hl) rfl
 have b1:(true==true)=true:=rfl;have b2:(true==false)=false:=rfl;have b3:(false==true)=false:=rfl;have b4:(false==false)=true:=rfl;unfold Uu;simp only[Endd.F,chkF];by_cases e1:e.kind=1
 . cases h1:thereD e.to c.blocks.length with
   |true=>simp -implicitDefEqProofs only[tt,h1,eq_true e1,zqa,XP,seval]
   |false=>simp -implicitDefEqProofs only[tt,h1,eq_true e1,zqa,XP,seval]
 by_cases e2:e.kind=2
 . cases h1:thereD e.to c.blocks.length with
   |false=>simp -implicitDefEqProofs only[tt,h1,e1,eq_true e2,zqa,XP,seval]
   | true =>
    cases h2:thereD e.els c.blocks.length with
    |false=>simp -implicitDefEqProofs only[tt,h1,h2,e1,eq_true e2,zqa,XP,seval]
    | true =>
     cases h3:thereD e.a c.regs.length with
     |false=>simp -implicitDefEqProofs only[tt,h1,h2,h3,e1,eq_true e2,zqa,XP,seval]
     | true =>
      obtain⟨k,hk,hl⟩:=H9 h3;have hix:=rix k hk (by omega);by_cases hq:x5 c.regs e.a=1
      . simp -implicitDefEqProofs only[tt,h1,h2,h3,hix,eq_true hq,e1,eq_true e2,zqa,XP,seval]
      . simp -implicitDefEqProofs only[tt,h1,h2,h3,hix,hq,e1,eq_true e2,zqa,XP,seval]
 by_cases e3:e.kind=3
 . by_cases ha:e.a<0
   . by_cases hv:c.ty=0
     . simp -implicitDefEqProofs only[tt,eb,b1,b2,b3,b4,eq_true ha,eq_true hv,e1,e2,eq_true e3,zqa,XP,seval]
     . simp -implicitDefEqProofs only[tt,eb,b1,b2,b3,b4,eq_true ha,hv,e1,e2,eq_true e3,zqa,XP,seval]
   . cases h3:thereD e.a c.regs.length with
     |false=>simp -implicitDefEqProofs only[tt,h3,ha,e1,e2,eq_true e3,zqa,XP,seval]
     | true =>
      obtain⟨k,hk,hl⟩:=H9 h3;have hix:=rix k hk (by omega);by_cases hv:c.ty=0
      . simp -implicitDefEqProofs only[tt,h3,eb,b1,b2,b3,b4,ha,eq_true hv,e1,e2,eq_true e3,zqa,XP,seval]
      . by_cases hq:x5 c.regs e.a=c.ty
        . simp -implicitDefEqProofs only[tt,h3,hix,eb,b1,b2,b3,b4,ha,hv,eq_true hq,e1,e2,eq_true e3,zqa,XP,seval]
        . simp -implicitDefEqProofs only[tt,h3,hix,eb,b1,b2,b3,b4,ha,hv,hq,e1,e2,eq_true e3,zqa,XP,seval]
 . simp -implicitDefEqProofs only[e1,e2,e3,zqa,XP,seval]
def J2:=g0 (fun p:(Modl)×(Cod)×(Endd)=>[chkF p.1 p.2.1,p.2.2.F]) (fun p=>[.int .i64 (Uu p.2.1 p.2.2)]) (fun p=>True)
theorem Dz(hir_checker_end:T 50=some J2){m:Modl}{c:Cod}{e:Endd}{K:PK}:evP ⟨A0,T,A2⟩ (.call 50 [chkF m c,e.F] K)=some (.val (openTs K.os.length [.int .i64 (Uu c e)]).1 ⟨K.os++(openTs K.os.length [.int .i64 (Uu c e)]).2,K.ext,K.tch⟩):=B8 hir_checker_end (by simp -implicitDefEqProofs only[VV,XP,seval]) (C2 (a:=fun p:(Modl)×(Cod)×(Endd)=>[chkF p.1 p.2.1,p.2.2.F]) (r:=fun p=>[.int .i64 (Uu p.2.1 p.2.2)]) (fun x y e=>by simp only[VJ]at e;simp only[e]) (m,c,e) trivial) (by simp -implicitDefEqProofs only[VN,XP,seval])
theorem Ma(hir_there:T 62=some J0)(hP:PEok ⟨A0,T,A2⟩):TC A0 50 J2:=C8 hP fun p h=>Fx hir_there
def L9:List Int->Int
 |[]=>0
 |e::l=>if e=0 then L9 l else e
theorem err_loop{P:PE}{c:PC}{X:Type}{f:X->Int}{l:List X}{S:Nat->PF}{K:PK}{x:Nat}{Q:PF->Prop}{R:Int->PF->PK->Prop}
 (h1:∀i (h:i<l.length),f l[i]=0->evP P (.code c (S i) K)=some (.ok .normal (S (i+1)) K))
 (h2:∀i (h:i<l.length),¬f l[i]=0->∃fr' K',evP P (.code c (S i) K)=some (.ok .ret fr' K')/\R (f l[i]) fr' K')
 (hx:∃fr',evP P (.code c (S l.length) K)=some (.ok (.exit x) fr' K)/\Q fr'):
 (L9 (l.map f)=0/\∃fr',evP P (.code (.loop c) (S 0) K)=some (.ok (.exit x) fr' K)/\Q fr')\/(¬L9 (l.map f)=0/\∃fr' K',evP P (.code (.loop c) (S 0) K)=some (.ok .ret fr' K')/\R (L9 (l.map f)) fr' K'):=by
 have key:∀(n i:Nat),l.length=i+n->(L9 ((l.drop i).map f)=0/\∃fr',evP P (.code (.loop c) (S i) K)=some (.ok (.exit x) fr' K)/\Q fr')\/(¬L9 ((l.drop i).map f)=0/\∃fr' K',evP P (.code (.loop c) (S i) K)=some (.ok .ret fr' K')/\R (L9 ((l.drop i).map f)) fr' K'):=fun n=>by
  induction n with
  | zero =>
   intro i e;obtain rfl:i=l.length:=by omega
   obtain⟨fr',h,q⟩:=hx;exact .inl ⟨by rw[zqg];rfl,fr',B3 h,q⟩
  | succ n ih =>
   intro i e;have hl:i<l.length:=by omega
   rw[zqh hl,List.map_cons];unfold L9;by_cases hq:f l[i]=0
   . rw[loop_more (h1 i hl hq),if_pos hq]
     exact ih (i+1) (by omega)
   . obtain⟨fr',K',q1,q2⟩:=h2 i hl hq
     rw[if_neg hq];exact .inr ⟨hq,fr',K',L6 q1,q2⟩
 exact key l.length 0 (by omega)
end
def Ins.sok(x:Ins):Prop:=x.ok/\x.s.length<=bigN
def Blk.sok(b:Blk):Prop:=b.ok/\∀x∈b.code,x.sok
def Cod.sok(c:Cod):Prop:=c.ok/\∀b∈c.blocks,b.sok
def Modl.ok(m:Modl):Prop:=(∀c∈m.fs,c.sok)/\m.fs.length*64<=bigN/\m.gs.length*40<=bigN
section
variable {m:Modl}{c:Cod}{x:Ins}{b:Blk}{fr:PF}{i k:Nat}{tch:List Nat}
def Xl(m:Modl)(c:Cod)(b:Blk):Int:=if L9 (b.code.map (Q4 m c))=0 then Uu c b.e else L9 (b.code.map (Q4 m c))
def o5(m:Modl)(c:Cod):Int:=
 if c.blocks.length<1\/400<c.blocks.length\/4096<c.regs.length then 9 else if c.ps<0\/(c.regs.length:Int)<c.ps then 11
 else if c.ty<0\/2<c.ty\/(c.regs.any fun n=>!G6 n)=true then 6 else L9 (c.blocks.map (Xl m c))
theorem IJ(hT:T 49=some E4)(h:k<b.code.length)(hs:b.sok)(hp:Q4 m c b.code[k]=0):
 evP ⟨A0,T,A2⟩ (.code Iv [(1,.ptr 0 0 0),(5,.ptr 1 0 0),(56,fslN (c.blocks.map Blk.F)),(57,.int .i64 (c.blocks.length:Int)),(58,.int .i64 (i:Int)),(63,fslN (b.code.map Ins.F)),(64,.int .i64 (b.code.length:Int)),(65,.int .i64 (k:Int))] ⟨[.row 1 [chkF m c] 7,.row 1 [b.F] 5],0,[]⟩)=some (.ok .normal [(1,.ptr 0 0 0),(5,.ptr 1 0 0),(56,fslN (c.blocks.map Blk.F)),(57,.int .i64 (c.blocks.length:Int)),(58,.int .i64 (i:Int)),(63,fslN (b.code.map Ins.F)),(64,.int .i64 (b.code.length:Int)),(65,.int .i64 ((k+1:Nat):Int))] ⟨[.row 1 [chkF m c] 7,.row 1 [b.F] 5],0,[]⟩):=by
 unfold Iv;have hlt:decide ((k:Int)<(b.code.length:Int))=true:=by simp[h]
 have hw:=A8 (i:=k) (by have:=hs.1.2;simp only[bigN]at this;omega);have t:=fun K=>Bi (K:=K) (m:=m) (c:=c) (x:=b.code[k]) hT (hs.2 _ (zqc h))
 rw[hp]at t;have hi:=B5 (F:=Ins.F) h;simp only[Ins.F,chkF,Blk.F]at t hi|-;simp -implicitDefEqProofs only[hlt,hi,hw,t,XP,seval]
theorem IK(hT:T 49=some E4)(h:k<b.code.length)(hs:b.sok)(hp:¬Q4 m c b.code[k]=0):
 evP ⟨A0,T,A2⟩ (.code Iv [(1,.ptr 0 0 0),(5,.ptr 1 0 0),(56,fslN (c.blocks.map Blk.F)),(57,.int .i64 (c.blocks.length:Int)),(58,.int .i64 (i:Int)),(63,fslN (b.code.map Ins.F)),(64,.int .i64 (b.code.length:Int)),(65,.int .i64 (k:Int))] ⟨[.row 1 [chkF m c] 7,.row 1 [b.F] 5],0,[]⟩)=some (.ok .ret [(2,.int .i64 (Q4 m c b.code[k]))] ⟨[],0,[]⟩):=by
 unfold Iv;have hlt:decide ((k:Int)<(b.code.length:Int))=true:=by simp[h]
 have t:=fun K=>Bi (K:=K) (m:=m) (c:=c) (x:=b.code[k]) hT (hs.2 _ (zqc h))
 have hi:=B5 (F:=Ins.F) h;simp only[Ins.F,chkF,Blk.F]at t hi|-;simp -implicitDefEqProofs only[hlt,hi,t,hp,XP,seval]
theorem IL:∃fr',evP ⟨A0,T,A2⟩ (.code Iv [(1,.ptr 0 0 0),(5,.ptr 1 0 0),(56,fslN (c.blocks.map Blk.F)),(57,.int .i64 (c.blocks.length:Int)),(58,.int .i64 (i:Int)),(63,fslN (b.code.map Ins.F)),(64,.int .i64 (b.code.length:Int)),(65,.int .i64 (b.code.length:Int))] ⟨[.row 1 [chkF m c] 7,.row 1 [b.F] 5],0,[]⟩)=some (.ok (.exit 3) fr' ⟨[.row 1 [chkF m c] 7,.row 1 [b.F] 5],0,[]⟩)/\(lookP fr' 1=.ptr 0 0 0/\lookP fr' 5=.ptr 1 0 0/\lookP fr' 56=fslN (c.blocks.map Blk.F)/\lookP fr' 57=.int .i64 (c.blocks.length:Int)/\lookP fr' 58=.int .i64 (i:Int)):=by
 unfold Iv;have hlt:decide ((b.code.length:Int)<(b.code.length:Int))=false:=by simp
 simp -implicitDefEqProofs only[hlt,XP,seval];exact⟨_,rfl,rfl,rfl,rfl,rfl,rfl⟩
theorem cdi_l(hT:T 49=some E4)(hs:b.sok):
 (L9 (b.code.map (Q4 m c))=0/\∃fr',evP ⟨A0,T,A2⟩ (.code (.loop Iv) [(1,.ptr 0 0 0),(5,.ptr 1 0 0),(56,fslN (c.blocks.map Blk.F)),(57,.int .i64 (c.blocks.length:Int)),(58,.int .i64 (i:Int)),(63,fslN (b.code.map Ins.F)),(64,.int .i64 (b.code.length:Int)),(65,.int .i64 0)] ⟨[.row 1 [chkF m c] 7,.row 1 [b.F] 5],0,[]⟩)=some (.ok (.exit 3) fr' ⟨[.row 1 [chkF m c] 7,.row 1 [b.F] 5],0,[]⟩)/\(lookP fr' 1=.ptr 0 0 0/\lookP fr' 5=.ptr 1 0 0/\lookP fr' 56=fslN (c.blocks.map Blk.F)/\lookP fr' 57=.int .i64 (c.blocks.length:Int)/\lookP fr' 58=.int .i64 (i:Int)))\/
 (¬L9 (b.code.map (Q4 m c))=0/\evP ⟨A0,T,A2⟩ (.code (.loop Iv) [(1,.ptr 0 0 0),(5,.ptr 1 0 0),(56,fslN (c.blocks.map Blk.F)),(57,.int .i64 (c.blocks.length:Int)),(58,.int .i64 (i:Int)),(63,fslN (b.code.map Ins.F)),(64,.int .i64 (b.code.length:Int)),(65,.int .i64 0)] ⟨[.row 1 [chkF m c] 7,.row 1 [b.F] 5],0,[]⟩)=some (.ok .ret [(2,.int .i64 (L9 (b.code.map (Q4 m c))))] ⟨[],0,[]⟩)):=by
 rcases err_loop (P:=⟨A0,T,A2⟩) (c:=Iv) (f:=Q4 m c) (l:=b.code) (S:=fun k=>[(1,.ptr 0 0 0),(5,.ptr 1 0 0),(56,fslN (c.blocks.map Blk.F)),(57,.int .i64 (c.blocks.length:Int)),(58,.int .i64 (i:Int)),(63,fslN (b.code.map Ins.F)),(64,.int .i64 (b.code.length:Int)),(65,.int .i64 (k:Int))]) (K:=⟨[.row 1 [chkF m c] 7,.row 1 [b.F] 5],0,[]⟩) (Q:=fun fr'=>lookP fr' 1=.ptr 0 0 0/\lookP fr' 5=.ptr 1 0 0/\lookP fr' 56=fslN (c.blocks.map Blk.F)/\lookP fr' 57=.int .i64 (c.blocks.length:Int)/\lookP fr' 58=.int .i64 (i:Int)) (R:=fun e fr' K'=>fr'=[(2,.int .i64 e)]/\K'=⟨[],0,[]⟩)
  (fun k h hp=>IJ hT h hs hp) (fun k h hp=>⟨_,_,IK hT h hs hp,rfl,rfl⟩) IL with h|⟨h,fr',K',q,rfl,rfl⟩
 . exact .inl h
 . exact .inr ⟨h,q⟩
theorem IM(hT:T 49=some E4)(hE:T 50=some J2)(h:i<c.blocks.length)(hs:c.sok)(hp:Xl m c c.blocks[i]=0):
 evP ⟨A0,T,A2⟩ (.code Fo [(1,.ptr 0 0 0),(56,fslN (c.blocks.map Blk.F)),(57,.int .i64 (c.blocks.length:Int)),(58,.int .i64 (i:Int))] ⟨[.row 1 [chkF m c] 7],0,[]⟩)=some (.ok .normal [(1,.ptr 0 0 0),(56,fslN (c.blocks.map Blk.F)),(57,.int .i64 (c.blocks.length:Int)),(58,.int .i64 ((i+1:Nat):Int))] ⟨[.row 1 [chkF m c] 7],0,[]⟩):=by
 have hb:=hs.2 _ (zqc h);have hlt:decide ((i:Int)<(c.blocks.length:Int))=true:=by simp[h]
 have hw:=A8 (i:=i) (by have:=hs.1.2.2;simp only[bigN]at this;omega);have hi:=B5 (F:=Blk.F) h;have t:=fun K=>Dz (K:=K) (m:=m) (c:=c) (e:=c.blocks[i].e) hE
 unfold Xl at hp;rcases cdi_l (m:=m) (c:=c) (i:=i) hT hb with⟨q,fr',h1,h2,h3,h4,h5,h6⟩|⟨q,h1⟩
 . rw[if_pos q]at hp
   rw[hp]at t;unfold Fo;simp only[chkF,Blk.F,Endd.F]at h1 hi t|-;simp -implicitDefEqProofs only[hlt,hi,hw,h1,h2,h3,h4,h5,h6,t,zqa,XP,seval]
 . rw[if_neg q]at hp;exact absurd hp q
theorem IN(hT:T 49=some E4)(hE:T 50=some J2)(h:i<c.blocks.length)(hs:c.sok)(hp:¬Xl m c c.blocks[i]=0):
 evP ⟨A0,T,A2⟩ (.code Fo [(1,.ptr 0 0 0),(56,fslN (c.blocks.map Blk.F)),(57,.int .i64 (c.blocks.length:Int)),(58,.int .i64 (i:Int))] ⟨[.row 1 [chkF m c] 7],0,[]⟩)=some (.ok .ret [(2,.int .i64 (Xl m c c.blocks[i]))] ⟨[],0,[]⟩):=by
 have hb:=hs.2 _ (zqc h);have hlt:decide ((i:Int)<(c.blocks.length:Int))=true:=by simp[h]
 have hi:=B5 (F:=Blk.F) h;have t:=fun K=>Dz (K:=K) (m:=m) (c:=c) (e:=c.blocks[i].e) hE
 unfold Xl at hp|-;rcases cdi_l (m:=m) (c:=c) (i:=i) hT hb with⟨q,fr',h1,h2,h3,h4,h5,h6⟩|⟨q,h1⟩
 . rw[if_pos q]at hp|-
   unfold Fo;simp only[chkF,Blk.F,Endd.F]at h1 hi t|-;simp -implicitDefEqProofs only[hlt,hi,h1,h2,h3,h4,h5,h6,t,hp,zqa,XP,seval]
 . rw[if_neg q]
   unfold Fo;simp only[chkF,Blk.F]at h1 hi|-;simp -implicitDefEqProofs only[hlt,hi,h1,zqa,XP,seval]
theorem IP:∃fr',evP ⟨A0,T,A2⟩ (.code Fo [(1,.ptr 0 0 0),(56,fslN (c.blocks.map Blk.F)),(57,.int .i64 (c.blocks.length:Int)),(58,.int .i64 (c.blocks.length:Int))] ⟨[.row 1 [chkF m c] 7],0,[]⟩)=some (.ok (.exit 1) fr' ⟨[.row 1 [chkF m c] 7],0,[]⟩)/\True:=by
 unfold Fo;have hlt:decide ((c.blocks.length:Int)<(c.blocks.length:Int))=false:=by simp
 simp -implicitDefEqProofs only[hlt,XP,seval];exact⟨_,rfl⟩
theorem Ee(hir_checker_instr:T 49=some E4)(hir_checker_end:T 50=some J2)(hir_checker_code_1:T 48=some E6)(nIdxFInts:T 58=none)(nContFInts:T 47=none){m:Modl}{c:Cod}(hk:c.sok):AM.Comes ⟨A0,T,A2⟩ 36 [chkF m c] [.int .i64 (o5 m c)]:=by
 refine⟨[.int .i64 (o5 m c)],⟨[],0,[]⟩,?_,C1 rfl zqb rfl rfl rfl⟩;rw[A6 (c:=NS) (nt:=84) (rs:=[.tmp 2]) rfl (by simp)];unfold NS;unfold K0;have hl:c.regs.length<=bigN:=by have:=hk.1.1;simp only[bigN]at this|-;omega
 have tc:=fun K=>Uo (l:=c.regs) hir_checker_code_1 nIdxFInts nContFInts hl K
 have lp:=err_loop (P:=⟨A0,T,A2⟩) (c:=Fo) (f:=Xl m c) (l:=c.blocks) (S:=fun i=>[(1,.ptr 0 0 0),(56,fslN (c.blocks.map Blk.F)),(57,.int .i64 (c.blocks.length:Int)),(58,.int .i64 (i:Int))]) (K:=⟨[.row 1 [chkF m c] 7],0,[]⟩) (Q:=fun fr'=>True) (R:=fun e fr' K'=>fr'=[(2,.int .i64 e)]/\K'=⟨[],0,[]⟩)
  (fun k h hp=>IM hir_checker_instr hir_checker_end h hk hp) (fun k h hp=>⟨_,_,IN hir_checker_instr hir_checker_end h hk hp,rfl,rfl⟩) IP
 unfold o5;simp only[chkF]at tc lp|-;have q400:decide ((400:Int)<(c.blocks.length:Int))=decide (400<c.blocks.length):=decide_eq_decide.2 (by omega);have q4096:decide ((4096:Int)<(c.regs.length:Int))=decide (4096<c.regs.length):=decide_eq_decide.2 (by omega);have q1':decide ((c.blocks.length:Int)<1)=decide (c.blocks.length<1):=decide_eq_decide.2 (by omega);by_cases q1:c.blocks.length<1
 . simp -implicitDefEqProofs only[eq_true q1,q1',q400,q4096,zqa,XP,seval]
 by_cases q2:400<c.blocks.length
 . simp -implicitDefEqProofs only[eq_false q1,eq_true q2,q1',q400,q4096,zqa,XP,seval]
 by_cases q3:4096<c.regs.length
 . simp -implicitDefEqProofs only[eq_false q1,eq_false q2,eq_true q3,q1',q400,q4096,zqa,XP,seval]
 by_cases q4:c.ps<0
 . simp -implicitDefEqProofs only[eq_false q1,eq_false q2,eq_false q3,eq_true q4,q1',q400,q4096,zqa,XP,seval]
 by_cases q5:(c.regs.length:Int)<c.ps
 . simp -implicitDefEqProofs only[eq_false q1,eq_false q2,eq_false q3,eq_false q4,eq_true q5,q1',q400,q4096,zqa,XP,seval]
 by_cases q6:c.ty<0
 . simp -implicitDefEqProofs only[eq_false q1,eq_false q2,eq_false q3,eq_false q4,eq_false q5,eq_true q6,q1',q400,q4096,zqa,XP,seval]
 by_cases q7:2<c.ty
 . simp -implicitDefEqProofs only[eq_false q1,eq_false q2,eq_false q3,eq_false q4,eq_false q5,eq_false q6,eq_true q7,q1',q400,q4096,zqa,XP,seval]
 cases q8:(c.regs.any fun n=>!G6 n)with
 |true=>simp -implicitDefEqProofs only[eq_false q1,eq_false q2,eq_false q3,eq_false q4,eq_false q5,eq_false q6,eq_false q7,tc,q8,q1',q400,q4096,zqa,XP,seval]
 | false =>
  rcases lp with⟨q,fr',h1,_⟩|⟨q,fr',K',h1,rfl,rfl⟩
  . have h1:evP ⟨A0,T,A2⟩ (.code (.loop Fo) [(1,.ptr 0 0 0),(56,fslN (c.blocks.map Blk.F)),(57,.int .i64 (c.blocks.length:Int)),(58,.int .i64 0)] _)=_:=h1
    simp -implicitDefEqProofs only[eq_false q1,eq_false q2,eq_false q3,eq_false q4,eq_false q5,eq_false q6,eq_false q7,tc,q8,q,h1,q1',q400,q4096,zqa,XP,seval]
  . have h1:evP ⟨A0,T,A2⟩ (.code (.loop Fo) [(1,.ptr 0 0 0),(56,fslN (c.blocks.map Blk.F)),(57,.int .i64 (c.blocks.length:Int)),(58,.int .i64 0)] _)=_:=h1
    simp -implicitDefEqProofs only[eq_false q1,eq_false q2,eq_false q3,eq_false q4,eq_false q5,eq_false q6,eq_false q7,tc,q8,h1,q1',q400,q4096,zqa,XP,seval]
def I0:=g0 (fun p:(Modl)×(Cod)=>[chkF p.1 p.2]) (fun p=>[.int .i64 (o5 p.1 p.2)]) (fun p=>p.2.sok)
theorem Ce(hir_checker_code:T 36=some I0){m:Modl}{c:Cod}{K:PK}(hk:c.sok):evP ⟨A0,T,A2⟩ (.call 36 [chkF m c] K)=some (.val (openTs K.os.length [.int .i64 (o5 m c)]).1 ⟨K.os++(openTs K.os.length [.int .i64 (o5 m c)]).2,K.ext,K.tch⟩):=B8 hir_checker_code (by simp -implicitDefEqProofs only[VV,XP,seval]) (C2 (a:=fun p:(Modl)×(Cod)=>[chkF p.1 p.2]) (r:=fun p=>[.int .i64 (o5 p.1 p.2)]) (fun x y e=>by simp only[VJ]at e;simp only[e]) (m,c) hk) (by simp -implicitDefEqProofs only[VN,XP,seval])
theorem Jw(hir_checker_instr:T 49=some E4)(hir_checker_end:T 50=some J2)(hir_checker_code_1:T 48=some E6)(nIdxFInts:T 58=none)(nContFInts:T 47=none)(hP:PEok ⟨A0,T,A2⟩):TC A0 36 I0:=C8 hP fun p h=>Ee hir_checker_instr hir_checker_end hir_checker_code_1 nIdxFInts nContFInts h
end
section
variable {m:Modl}{c:Cod}{g:Glo}{i k:Nat}
def bV(g:Glo):Int:=if G6 g.ty=true then 0 else if g.ty=3 then(if g.size<1 then 6 else 0)else 6
def Fy(m:Modl):Int:=idxOf (fun c:Cod=>decide (c.name=D2)) m.fs
def BU(m:Modl):Int:=if Fy m<0 then 12 else if(codI m.fs (Fy m)).ty=1 then(if(codI m.fs (Fy m)).ps=0 then 0 else 12)else 12
def Aa(m:Modl):Int:=if L9 (m.gs.map bV)=0 then(if L9 (m.fs.map (o5 m))=0 then BU m else L9 (m.fs.map (o5 m)))else L9 (m.gs.map bV)
theorem IR(hT:T 35=some Q3)(h:i<m.gs.length)(hs:m.gs.length<=bigN)(hp:bV m.gs[i]=0):
 evP ⟨A0,T,A2⟩ (.code It [(1,.ptr 0 0 0),(10,fslN (m.gs.map Glo.F)),(11,.int .i64 (m.gs.length:Int)),(12,.int .i64 (i:Int))] ⟨[.row 1 [m.F] 2],0,[]⟩)=some (.ok .normal [(1,.ptr 0 0 0),(10,fslN (m.gs.map Glo.F)),(11,.int .i64 (m.gs.length:Int)),(12,.int .i64 ((i+1:Nat):Int))] ⟨[.row 1 [m.F] 2],0,[]⟩):=by
 unfold It;have hlt:decide ((i:Int)<(m.gs.length:Int))=true:=by simp[h]
 have hw:=A8 (i:=i) (by simp only[bigN]at hs;omega);have t:=fun K=>Jt (K:=K) (n:=m.gs[i].ty) hT
 have hi:=B5 (F:=Glo.F) h;unfold bV at hp;simp only[Glo.F,Modl.F]at t hi|-;cases q:G6 m.gs[i].ty with
 |true=>rw[q]at t;simp -implicitDefEqProofs only[hlt,hi,hw,t,XP,seval]
 | false =>
  rw[q]at t hp;by_cases q3:m.gs[i].ty=3
  . by_cases q4:m.gs[i].size<1
    . rw[if_neg (by decide),if_pos q3,if_pos q4]at hp;cases hp
    . simp -implicitDefEqProofs only[hlt,hi,hw,t,eq_true q3,eq_false q4,XP,seval]
  . rw[if_neg (by decide),if_neg q3]at hp;cases hp
theorem IS(hT:T 35=some Q3)(h:i<m.gs.length)(hp:¬bV m.gs[i]=0):
 evP ⟨A0,T,A2⟩ (.code It [(1,.ptr 0 0 0),(10,fslN (m.gs.map Glo.F)),(11,.int .i64 (m.gs.length:Int)),(12,.int .i64 (i:Int))] ⟨[.row 1 [m.F] 2],0,[]⟩)=some (.ok .ret [(2,.int .i64 (bV m.gs[i]))] ⟨[],0,[]⟩):=by
 unfold It;have hlt:decide ((i:Int)<(m.gs.length:Int))=true:=by simp[h]
 have t:=fun K=>Jt (K:=K) (n:=m.gs[i].ty) hT
 have hi:=B5 (F:=Glo.F) h;unfold bV at hp|-;simp only[Glo.F,Modl.F]at t hi|-;cases q:G6 m.gs[i].ty with
 |true=>rw[q]at hp;exact absurd rfl hp
 | false =>
  rw[q]at t hp;by_cases q3:m.gs[i].ty=3
  . by_cases q4:m.gs[i].size<1
    . simp -implicitDefEqProofs only[hlt,hi,t,eq_true q3,eq_true q4,XP,seval]
    . rw[if_neg (by decide),if_pos q3,if_neg q4]at hp;exact absurd rfl hp
  . simp -implicitDefEqProofs only[hlt,hi,t,eq_false q3,XP,seval]
theorem IT:∃fr',evP ⟨A0,T,A2⟩ (.code It [(1,.ptr 0 0 0),(10,fslN (m.gs.map Glo.F)),(11,.int .i64 (m.gs.length:Int)),(12,.int .i64 (m.gs.length:Int))] ⟨[.row 1 [m.F] 2],0,[]⟩)=some (.ok (.exit 0) fr' ⟨[.row 1 [m.F] 2],0,[]⟩)/\lookP fr' 1=.ptr 0 0 0:=by
 unfold It;have hlt:decide ((m.gs.length:Int)<(m.gs.length:Int))=false:=by simp
 simp -implicitDefEqProofs only[hlt,XP,seval];exact⟨_,rfl,rfl⟩
theorem IU(hT:T 36=some I0)(h:i<m.fs.length)(hs:m.ok)(hp:o5 m m.fs[i]=0):
 evP ⟨A0,T,A2⟩ (.code Iu [(1,.ptr 0 0 0),(32,fslN (m.fs.map Cod.F)),(33,.int .i64 (m.fs.length:Int)),(34,.int .i64 (i:Int))] ⟨[.row 1 [m.F] 2],0,[]⟩)=some (.ok .normal [(1,.ptr 0 0 0),(32,fslN (m.fs.map Cod.F)),(33,.int .i64 (m.fs.length:Int)),(34,.int .i64 ((i+1:Nat):Int))] ⟨[.row 1 [m.F] 2],0,[]⟩):=by
 unfold Iu;have hlt:decide ((i:Int)<(m.fs.length:Int))=true:=by simp[h]
 have hw:=A8 (i:=i) (by have:=hs.2.1;simp only[bigN]at this;omega);have t:=fun K=>Ce (K:=K) (m:=m) (c:=m.fs[i]) hT (hs.1 _ (zqc h))
 rw[hp]at t;have hi:=B5 (F:=Cod.F) h;simp only[Cod.F,Modl.F,chkF]at t hi|-;simp -implicitDefEqProofs only[hlt,hi,hw,t,XP,seval]
theorem IV(hT:T 36=some I0)(h:i<m.fs.length)(hs:m.ok)(hp:¬o5 m m.fs[i]=0):
 evP ⟨A0,T,A2⟩ (.code Iu [(1,.ptr 0 0 0),(32,fslN (m.fs.map Cod.F)),(33,.int .i64 (m.fs.length:Int)),(34,.int .i64 (i:Int))] ⟨[.row 1 [m.F] 2],0,[]⟩)=some (.ok .ret [(2,.int .i64 (o5 m m.fs[i]))] ⟨[],0,[]⟩):=by
 unfold Iu;have hlt:decide ((i:Int)<(m.fs.length:Int))=true:=by simp[h]
 have t:=fun K=>Ce (K:=K) (m:=m) (c:=m.fs[i]) hT (hs.1 _ (zqc h))
 have hi:=B5 (F:=Cod.F) h;simp only[Cod.F,Modl.F,chkF]at t hi|-;simp -implicitDefEqProofs only[hlt,hi,t,hp,XP,seval]
theorem IW:∃fr',evP ⟨A0,T,A2⟩ (.code Iu [(1,.ptr 0 0 0),(32,fslN (m.fs.map Cod.F)),(33,.int .i64 (m.fs.length:Int)),(34,.int .i64 (m.fs.length:Int))] ⟨[.row 1 [m.F] 2],0,[]⟩)=some (.ok (.exit 2) fr' ⟨[.row 1 [m.F] 2],0,[]⟩)/\lookP fr' 1=.ptr 0 0 0:=by
 unfold Iu;have hlt:decide ((m.fs.length:Int)<(m.fs.length:Int))=false:=by simp
 simp -implicitDefEqProofs only[hlt,XP,seval];exact⟨_,rfl,rfl⟩
theorem uL{X:Type}{p:X->Bool}{l:List X}(h:¬idxOf p l<0):∃k:Nat,idxOf p l=k/\∃hk:k<l.length,p l[k]=true:=by
 unfold idxOf at h|-;cases q:l.findIdx? p with
 |none=>rw[q]at h;exact absurd (by decide) h
 | some i =>
  rw[zqv]at q;exact⟨i,rfl,q.1,q.2.1⟩
theorem Uv(hir_number:T 35=some Q3)(hir_checker_code:T 36=some I0)(hir_mainOf:T 37=some z7){m:Modl}(hk:m.ok):AM.Comes ⟨A0,T,A2⟩ 15 [m.F] [.int .i64 (Aa m)]:=by
 refine⟨[.int .i64 (Aa m)],⟨[],0,[]⟩,?_,C1 rfl zqb rfl rfl rfl⟩;rw[A6 (c:=ND) (nt:=68) (rs:=[.tmp 2]) rfl (by simp)];unfold ND;unfold K0;have hgl:m.gs.length<=bigN:=by have:=hk.2.2;simp only[bigN]at this|-;omega
 have hfl:m.fs.length<=bigN:=by have:=hk.2.1;simp only[bigN]at this|-;omega
 have tm:=fun K=>kN (K:=K) (m:=m) hir_mainOf hfl
 have tm:∀K:PK,evP ⟨A0,T,A2⟩ (.call 37 [m.F] K)=some (.val (openTs K.os.length [.int .i64 (Fy m)]).1 ⟨K.os++(openTs K.os.length [.int .i64 (Fy m)]).2,K.ext,K.tch⟩):=tm;have l1:=err_loop (P:=⟨A0,T,A2⟩) (c:=It) (f:=bV) (l:=m.gs) (S:=fun i=>[(1,.ptr 0 0 0),(10,fslN (m.gs.map Glo.F)),(11,.int .i64 (m.gs.length:Int)),(12,.int .i64 (i:Int))]) (K:=⟨[.row 1 [m.F] 2],0,[]⟩) (Q:=fun fr'=>lookP fr' 1=.ptr 0 0 0) (R:=fun e fr' K'=>fr'=[(2,.int .i64 e)]/\K'=⟨[],0,[]⟩)
  (fun k h hp=>IR hir_number h hgl hp) (fun k h hp=>⟨_,_,IS hir_number h hp,rfl,rfl⟩) IT
 have l2:=err_loop (P:=⟨A0,T,A2⟩) (c:=Iu) (f:=o5 m) (l:=m.fs) (S:=fun i=>[(1,.ptr 0 0 0),(32,fslN (m.fs.map Cod.F)),(33,.int .i64 (m.fs.length:Int)),(34,.int .i64 (i:Int))]) (K:=⟨[.row 1 [m.F] 2],0,[]⟩) (Q:=fun fr'=>lookP fr' 1=.ptr 0 0 0) (R:=fun e fr' K'=>fr'=[(2,.int .i64 e)]/\K'=⟨[],0,[]⟩)
  (fun k h hp=>IU hir_checker_code h hk hp) (fun k h hp=>⟨_,_,IV hir_checker_code h hk hp,rfl,rfl⟩) IW
 unfold Aa;simp only[Modl.F]at tm l1 l2|-;rcases l1 with⟨q,fr',h1,h2⟩|⟨q,fr',K',h1,rfl,rfl⟩
 . have h1:evP ⟨A0,T,A2⟩ (.code (.loop It) [(1,.ptr 0 0 0),(10,fslN (m.gs.map Glo.F)),(11,.int .i64 (m.gs.length:Int)),(12,.int .i64 0)] _)=_:=h1
   rw[if_pos q];rcases l2 with⟨q2,fr2,h3,h4⟩|⟨q2,fr2,K2,h3,rfl,rfl⟩
   . have h3:evP ⟨A0,T,A2⟩ (.code (.loop Iu) [(1,.ptr 0 0 0),(32,fslN (m.fs.map Cod.F)),(33,.int .i64 (m.fs.length:Int)),(34,.int .i64 0)] _)=_:=h3
     rw[if_pos q2];unfold BU;by_cases hm:Fy m<0
     . simp -implicitDefEqProofs only[h1,h2,h3,h4,tm,eq_true hm,zqa,XP,seval]
     . obtain ⟨k,hk1,hk2,_⟩:=uL hm
       have hi:=Ly hk2;have hk1:Fy m=k:=hk1;have hix:Qp Fp (fslN (m.fs.map Cod.F)) (.int .i64 (Fy m))=some (.fptr (codI m.fs (Fy m)).F 0):=by
        rw[hk1];exact ix_fslN hi rfl
       simp only[Cod.F]at hix;by_cases h5:(codI m.fs (Fy m)).ty=1
       . by_cases h6:(codI m.fs (Fy m)).ps=0
         . simp -implicitDefEqProofs only[h1,h2,h3,h4,tm,hm,hix,eq_true h5,eq_true h6,zqa,XP,seval]
         . simp -implicitDefEqProofs only[h1,h2,h3,h4,tm,hm,hix,eq_true h5,h6,zqa,XP,seval]
       . simp -implicitDefEqProofs only[h1,h2,h3,h4,tm,hm,hix,h5,zqa,XP,seval]
   . have h3:evP ⟨A0,T,A2⟩ (.code (.loop Iu) [(1,.ptr 0 0 0),(32,fslN (m.fs.map Cod.F)),(33,.int .i64 (m.fs.length:Int)),(34,.int .i64 0)] _)=_:=h3
     rw[if_neg q2];simp -implicitDefEqProofs only[h1,h2,h3,zqa,XP,seval]
 . have h1:evP ⟨A0,T,A2⟩ (.code (.loop It) [(1,.ptr 0 0 0),(10,fslN (m.gs.map Glo.F)),(11,.int .i64 (m.gs.length:Int)),(12,.int .i64 0)] _)=_:=h1
   rw[if_neg q];simp -implicitDefEqProofs only[h1,zqa,XP,seval]
def Cf:=g0 (fun p:(Modl)=>[p.F]) (fun p=>[.int .i64 (Aa p)]) (fun p=>p.ok)
theorem qK(hir_Check:T 15=some Cf){m:Modl}{K:PK}(hk:m.ok):evP ⟨A0,T,A2⟩ (.call 15 [m.F] K)=some (.val (openTs K.os.length [.int .i64 (Aa m)]).1 ⟨K.os++(openTs K.os.length [.int .i64 (Aa m)]).2,K.ext,K.tch⟩):=B8 hir_Check (by simp -implicitDefEqProofs only[VV,XP,seval]) (C2 (a:=fun p:(Modl)=>[p.F]) (r:=fun p=>[.int .i64 (Aa p)]) (fun x y e=>by simp only[VJ]at e;simp only[e]) (m) hk) (by simp -implicitDefEqProofs only[VN,XP,seval])
theorem fU(hir_number:T 35=some Q3)(hir_checker_code:T 36=some I0)(hir_mainOf:T 37=some z7)(hP:PEok ⟨A0,T,A2⟩):TC A0 15 Cf:=C8 hP fun p h=>Uv hir_number hir_checker_code hir_mainOf h
end
def Uw{A X ρ:Type}(f:A->X->A⊕ρ):A->List X->A⊕ρ
 |a,[]=>.inl a
 |a,x::l=>match f a x with | .inl a=>Uw f a l | .inr r=>.inr r
theorem kQ{P:PE}{c:PC}{A X ρ:Type}{f:A->X->A⊕ρ}{l:List X}{S:Nat->A->PF}{K:A->PK}{x:Nat}{Q:A->PF->Prop}{R:ρ->PF->PK->Prop}
 (h1:∀i a a' (h:i<l.length),f a l[i]=.inl a'->evP P (.code c (S i a) (K a))=some (.ok .normal (S (i+1) a') (K a')))
 (h2:∀i a r (h:i<l.length),f a l[i]=.inr r->∃fr' K',evP P (.code c (S i a) (K a))=some (.ok .ret fr' K')/\R r fr' K')
 (hx:∀a,∃fr',evP P (.code c (S l.length a) (K a))=some (.ok (.exit x) fr' (K a))/\Q a fr')(a:A):
 (∃a',Uw f a l=.inl a'/\∃fr',evP P (.code (.loop c) (S 0 a) (K a))=some (.ok (.exit x) fr' (K a'))/\Q a' fr')\/(∃r,Uw f a l=.inr r/\∃fr' K',evP P (.code (.loop c) (S 0 a) (K a))=some (.ok .ret fr' K')/\R r fr' K'):=by
 have key:∀(n i:Nat)(a:A),l.length=i+n->(∃a',Uw f a (l.drop i)=.inl a'/\∃fr',evP P (.code (.loop c) (S i a) (K a))=some (.ok (.exit x) fr' (K a'))/\Q a' fr')\/(∃r,Uw f a (l.drop i)=.inr r/\∃fr' K',evP P (.code (.loop c) (S i a) (K a))=some (.ok .ret fr' K')/\R r fr' K'):=fun n=>by
  induction n with
  | zero =>
   intro i a e;obtain rfl:i=l.length:=by omega
   obtain⟨fr',h,q⟩:=hx a;exact .inl ⟨a,by rw[zqg];rfl,fr',B3 h,q⟩
  | succ n ih =>
   intro i a e;have hl:i<l.length:=by omega
   rw[zqh hl];unfold Uw;cases hq:f a l[i]with
   |inl a'=>rw[loop_more (h1 i a a' hl hq)];exact ih (i+1) a' (by omega)
   | inr r =>
    obtain⟨fr',K',q1,q2⟩:=h2 i a r hl hq;exact .inr ⟨r,rfl,fr',K',L6 q1,q2⟩
 exact key l.length 0 a (by omega)
theorem Hc{P:PE}{c:PC}{A X:Type}{f:A->X->A}{l:List X}{S:Nat->A->PF}{K:A->PK}{x:Nat}{Q:A->PF->Prop}
 (h1:∀i a (h:i<l.length),evP P (.code c (S i a) (K a))=some (.ok .normal (S (i+1) (f a l[i])) (K (f a l[i]))))
 (hx:∀a,∃fr',evP P (.code c (S l.length a) (K a))=some (.ok (.exit x) fr' (K a))/\Q a fr')(a:A):
 ∃fr',evP P (.code (.loop c) (S 0 a) (K a))=some (.ok (.exit x) fr' (K (l.foldl f a)))/\Q (l.foldl f a) fr':=by
 have key:∀(n i:Nat)(a:A),l.length=i+n->∃fr',evP P (.code (.loop c) (S i a) (K a))=some (.ok (.exit x) fr' (K ((l.drop i).foldl f a)))/\Q ((l.drop i).foldl f a) fr':=fun n=>by
  induction n with
  | zero =>
   intro i a e;obtain rfl:i=l.length:=by omega
   obtain⟨fr',h,q⟩:=hx a;exact⟨fr',by rw[zqg];exact B3 h,by rw[zqg];exact q⟩
  | succ n ih =>
   intro i a e;have hl:i<l.length:=by omega
   rw[zqh hl,zqq,loop_more (h1 i a hl)];exact ih (i+1) _ (by omega)
 exact key l.length 0 a (by omega)
section
variable {m:Modl}{c:Cod}{i j k:Nat}{n:Int}
def R1(a:Int)(n:Nat):Int:=IntKind.i64.wrap (a+(n:Int))
def IX(a:Int)(b:Blk):Int:=b.code.foldl (fun a x=>R1 a x.args.length) (R1 a b.code.length)
def GL(a:Int)(c:Cod):Int:=c.blocks.foldl IX (R1 (R1 a c.regs.length) c.blocks.length)
def OW(a:Int)(c:Cod):Int⊕Unit:=if 3000<GL a c then .inr ()else .inl (GL a c)
def De(m:Modl):Bool:=if 20<m.gs.length then true else if 12<m.fs.length then true else if(m.gs.all fun g=>!decide (1024<g.size))=true then(Uw OW 0 m.fs).isRight else true
def uM(a:Int)(c:Cod):Int:=c.blocks.foldl (fun a b=>R1 a b.code.length) (R1 (R1 a c.regs.length) c.blocks.length)
def Ab(m:Modl):Bool:=if 1000<m.fs.foldl uM 0 then true else if 12<m.fs.length then true else if De m=true then true else !decide (Aa m=0)
theorem IY(h:i<m.gs.length)(hs:m.gs.length<=bigN)(hp:(!decide (1024<m.gs[i].size))=true):evP ⟨A0,T,A2⟩ (.code Is [(1,.ptr 0 0 0),(3,.int .i64 n),(4,.int .i64 (i:Int))] ⟨[.row 1 [m.F] 2],0,[]⟩)=some (.ok .normal [(1,.ptr 0 0 0),(3,.int .i64 n),(4,.int .i64 ((i+1:Nat):Int))] ⟨[.row 1 [m.F] 2],0,[]⟩):=by
 unfold Is;have hlt:decide ((i:Int)<(m.gs.length:Int))=true:=by simp[h]
 have hw:=A8 (i:=i) (by simp only[bigN]at hs;omega);have hi:=B5 (F:=Glo.F) h;have hp:decide (1024<m.gs[i].size)=false:=by simpa using hp
 simp only[Glo.F,Modl.F]at hi|-;simp -implicitDefEqProofs only[hlt,hi,hw,hp,zqa,XP,seval]
theorem IZ(h:i<m.gs.length)(hp:(!decide (1024<m.gs[i].size))=false):evP ⟨A0,T,A2⟩ (.code Is [(1,.ptr 0 0 0),(3,.int .i64 n),(4,.int .i64 (i:Int))] ⟨[.row 1 [m.F] 2],0,[]⟩)=some (.ok .ret [(2,.bool true)] ⟨[],0,[]⟩):=by
 unfold Is;have hlt:decide ((i:Int)<(m.gs.length:Int))=true:=by simp[h]
 have hi:=B5 (F:=Glo.F) h;have hp:decide (1024<m.gs[i].size)=true:=by simpa using hp
 simp only[Glo.F,Modl.F]at hi|-;simp -implicitDefEqProofs only[hlt,hi,hp,zqa,XP,seval]
theorem JA:∃fr',evP ⟨A0,T,A2⟩ (.code Is [(1,.ptr 0 0 0),(3,.int .i64 n),(4,.int .i64 (m.gs.length:Int))] ⟨[.row 1 [m.F] 2],0,[]⟩)=some (.ok (.exit 0) fr' ⟨[.row 1 [m.F] 2],0,[]⟩)/\(lookP fr' 1=.ptr 0 0 0/\lookP fr' 3=.int .i64 n):=by
 unfold Is;have hlt:decide ((m.gs.length:Int)<(m.gs.length:Int))=false:=by simp
 simp only[Modl.F];simp -implicitDefEqProofs only[hlt,zqa,XP,seval];exact⟨_,rfl,rfl,rfl⟩
theorem JB(hj:j<c.blocks.length)(hk:k<c.blocks[j].code.length)(hs:c.ok):evP ⟨A0,T,A2⟩ (.code Tt [(1,.ptr 0 0 0),(3,.int .i64 n),(5,.int .i64 (i:Int)),(6,.ptr 1 0 0),(7,.int .i64 (j:Int)),(8,.int .i64 (k:Int))] ⟨[.row 1 [m.F] 2,.row 1 [c.F] 5],0,[]⟩)=some (.ok .normal [(1,.ptr 0 0 0),(3,.int .i64 (R1 n c.blocks[j].code[k].args.length)),(5,.int .i64 (i:Int)),(6,.ptr 1 0 0),(7,.int .i64 (j:Int)),(8,.int .i64 ((k+1:Nat):Int))] ⟨[.row 1 [m.F] 2,.row 1 [c.F] 5],0,[]⟩):=by
 unfold Tt R1;have hb:=hs.2.1 _ (zqc hj);have hlt:decide ((k:Int)<(c.blocks[j].code.length:Int))=true:=by simp[hk]
 have hw:=A8 (i:=k) (by have:=hb.2;simp only[bigN]at this;omega);have hi:=B5 (F:=Blk.F) hj;have hi2:=B5 (F:=Ins.F) hk;simp only[Blk.F,Ins.F,Modl.F,Cod.F]at hi hi2|-;simp -implicitDefEqProofs only[hlt,hi,hi2,hw,zqa,XP,seval]
theorem JC(hj:j<c.blocks.length):∃fr',evP ⟨A0,T,A2⟩ (.code Tt [(1,.ptr 0 0 0),(3,.int .i64 n),(5,.int .i64 (i:Int)),(6,.ptr 1 0 0),(7,.int .i64 (j:Int)),(8,.int .i64 (c.blocks[j].code.length:Int))] ⟨[.row 1 [m.F] 2,.row 1 [c.F] 5],0,[]⟩)=some (.ok (.exit 6) fr' ⟨[.row 1 [m.F] 2,.row 1 [c.F] 5],0,[]⟩)/\(lookP fr' 1=.ptr 0 0 0/\lookP fr' 3=.int .i64 n/\lookP fr' 5=.int .i64 (i:Int)/\lookP fr' 6=.ptr 1 0 0/\lookP fr' 7=.int .i64 (j:Int)):=by
 unfold Tt;have hlt:decide ((c.blocks[j].code.length:Int)<(c.blocks[j].code.length:Int))=false:=by simp
 have hi:=B5 (F:=Blk.F) hj;simp only[Blk.F,Modl.F,Cod.F]at hi|-;simp -implicitDefEqProofs only[hlt,hi,zqa,XP,seval];exact⟨_,rfl,rfl,rfl,rfl,rfl,rfl⟩
theorem JD(hj:j<c.blocks.length)(hs:c.ok):evP ⟨A0,T,A2⟩ (.code Tu [(1,.ptr 0 0 0),(3,.int .i64 n),(5,.int .i64 (i:Int)),(6,.ptr 1 0 0),(7,.int .i64 (j:Int))] ⟨[.row 1 [m.F] 2,.row 1 [c.F] 5],0,[]⟩)=some (.ok .normal [(1,.ptr 0 0 0),(3,.int .i64 (IX n c.blocks[j])),(5,.int .i64 (i:Int)),(6,.ptr 1 0 0),(7,.int .i64 ((j+1:Nat):Int))] ⟨[.row 1 [m.F] 2,.row 1 [c.F] 5],0,[]⟩):=by
 have hlt:decide ((j:Int)<(c.blocks.length:Int))=true:=by simp[hj]
 have hw:=A8 (i:=j) (by have:=hs.2.2;simp only[bigN]at this;omega);have hi:=B5 (F:=Blk.F) hj;obtain⟨fr',h1,h2,h3,h4,h5,h6⟩:=Hc (P:=⟨A0,T,A2⟩) (c:=Tt) (f:=fun a (x:Ins)=>R1 a x.args.length) (l:=c.blocks[j].code) (S:=fun k n=>[(1,.ptr 0 0 0),(3,.int .i64 n),(5,.int .i64 (i:Int)),(6,.ptr 1 0 0),(7,.int .i64 (j:Int)),(8,.int .i64 (k:Int))]) (K:=fun _=>⟨[.row 1 [m.F] 2,.row 1 [c.F] 5],0,[]⟩) (x:=6) (Q:=fun n fr'=>lookP fr' 1=.ptr 0 0 0/\lookP fr' 3=.int .i64 n/\lookP fr' 5=.int .i64 (i:Int)/\lookP fr' 6=.ptr 1 0 0/\lookP fr' 7=.int .i64 (j:Int)) (fun k a h=>JB hj h hs) (fun a=>JC hj) (R1 n c.blocks[j].code.length);have h1:evP ⟨A0,T,A2⟩ (.code (.loop Tt) [(1,.ptr 0 0 0),(3,.int .i64 (R1 n c.blocks[j].code.length)),(5,.int .i64 (i:Int)),(6,.ptr 1 0 0),(7,.int .i64 (j:Int)),(8,.int .i64 0)] ⟨[.row 1 [m.F] 2,.row 1 [c.F] 5],0,[]⟩)=_:=h1;have hn:IX n c.blocks[j]=c.blocks[j].code.foldl (fun a x=>R1 a x.args.length) (R1 n c.blocks[j].code.length):=rfl;rw[<-hn]at h3;unfold Tu;unfold R1 at h1;simp only[Blk.F,Modl.F,Cod.F]at hi h1|-;simp -implicitDefEqProofs only[hlt,hi,h1,h2,h3,h4,h5,h6,hw,zqa,XP,seval]
theorem JE:∃fr',evP ⟨A0,T,A2⟩ (.code Tu [(1,.ptr 0 0 0),(3,.int .i64 n),(5,.int .i64 (i:Int)),(6,.ptr 1 0 0),(7,.int .i64 (c.blocks.length:Int))] ⟨[.row 1 [m.F] 2,.row 1 [c.F] 5],0,[]⟩)=some (.ok (.exit 4) fr' ⟨[.row 1 [m.F] 2,.row 1 [c.F] 5],0,[]⟩)/\(lookP fr' 1=.ptr 0 0 0/\lookP fr' 3=.int .i64 n/\lookP fr' 5=.int .i64 (i:Int)):=by
 unfold Tu;have hlt:decide ((c.blocks.length:Int)<(c.blocks.length:Int))=false:=by simp
 simp only[Modl.F,Cod.F];simp -implicitDefEqProofs only[hlt,zqa,XP,seval];exact⟨_,rfl,rfl,rfl,rfl⟩
theorem b6c(h:i<m.fs.length)(hs:m.ok):(3000<GL n m.fs[i]->evP ⟨A0,T,A2⟩ (.code Lm [(1,.ptr 0 0 0),(3,.int .i64 n),(5,.int .i64 (i:Int))] ⟨[.row 1 [m.F] 2],0,[]⟩)=some (.ok .ret [(2,.bool true)] ⟨[],0,[]⟩))/\(¬3000<GL n m.fs[i]->evP ⟨A0,T,A2⟩ (.code Lm [(1,.ptr 0 0 0),(3,.int .i64 n),(5,.int .i64 (i:Int))] ⟨[.row 1 [m.F] 2],0,[]⟩)=some (.ok .normal [(1,.ptr 0 0 0),(3,.int .i64 (GL n m.fs[i])),(5,.int .i64 ((i+1:Nat):Int))] ⟨[.row 1 [m.F] 2],0,[]⟩)):=by
 have hc:=(hs.1 _ (zqc h)).1;have hlt:decide ((i:Int)<(m.fs.length:Int))=true:=by simp[h]
 have hw:=A8 (i:=i) (by have:=hs.2.1;simp only[bigN]at this;omega);have hi:=B5 (F:=Cod.F) h;generalize m.fs[i]=c at hc hi;obtain⟨fr',h1,h2,h3,h4⟩:=Hc (P:=⟨A0,T,A2⟩) (c:=Tu) (f:=IX) (l:=c.blocks) (S:=fun j n=>[(1,.ptr 0 0 0),(3,.int .i64 n),(5,.int .i64 (i:Int)),(6,.ptr 1 0 0),(7,.int .i64 (j:Int))]) (K:=fun _=>⟨[.row 1 [m.F] 2,.row 1 [c.F] 5],0,[]⟩) (x:=4) (Q:=fun n fr'=>lookP fr' 1=.ptr 0 0 0/\lookP fr' 3=.int .i64 n/\lookP fr' 5=.int .i64 (i:Int)) (fun k a h=>JD h hc) (fun a=>JE) (R1 (R1 n c.regs.length) c.blocks.length);have h1:evP ⟨A0,T,A2⟩ (.code (.loop Tu) [(1,.ptr 0 0 0),(3,.int .i64 (R1 (R1 n c.regs.length) c.blocks.length)),(5,.int .i64 (i:Int)),(6,.ptr 1 0 0),(7,.int .i64 0)] ⟨[.row 1 [m.F] 2,.row 1 [c.F] 5],0,[]⟩)=_:=h1;have hn:GL n c=c.blocks.foldl IX (R1 (R1 n c.regs.length) c.blocks.length):=rfl;rw[<-hn]at h3;unfold Lm;unfold R1 at h1;simp only[Modl.F,Cod.F]at hi h1|-
 constructor
 . intro hq
   simp -implicitDefEqProofs only[hlt,hi,h1,h2,h3,h4,eq_true hq,zqa,XP,seval]
 . intro hq
   simp -implicitDefEqProofs only[hlt,hi,h1,h2,h3,h4,hw,hq,zqa,XP,seval]
theorem JF:∃fr',evP ⟨A0,T,A2⟩ (.code Lm [(1,.ptr 0 0 0),(3,.int .i64 n),(5,.int .i64 (m.fs.length:Int))] ⟨[.row 1 [m.F] 2],0,[]⟩)=some (.ok (.exit 2) fr' ⟨[.row 1 [m.F] 2],0,[]⟩)/\True:=by
 unfold Lm;have hlt:decide ((m.fs.length:Int)<(m.fs.length:Int))=false:=by simp
 simp only[Modl.F];simp -implicitDefEqProofs only[hlt,zqa,XP,seval];exact⟨_,rfl⟩
theorem Rd  {m:Modl} (hk:m.ok):AM.Comes ⟨A0,T,A2⟩ 14 [m.F] [.bool (De m)]:=by
 refine⟨[.bool (De m)],⟨[],0,[]⟩,?_,C1 rfl zqb rfl rfl rfl⟩;rw[A6 (c:=NC) (nt:=96) (rs:=[.tmp 2]) rfl (by simp)];unfold NC;unfold K0;have hgl:m.gs.length<=bigN:=by have:=hk.2.2;simp only[bigN]at this|-;omega
 have l1:=Ur (P:=⟨A0,T,A2⟩) (c:=Is) (p:=fun g:Glo=>!decide (1024<g.size)) (l:=m.gs) (S:=fun i=>[(1,.ptr 0 0 0),(3,.int .i64 0),(4,.int .i64 (i:Int))]) (K:=⟨[.row 1 [m.F] 2],0,[]⟩) (x:=0) (Q:=fun fr'=>lookP fr' 1=.ptr 0 0 0/\lookP fr' 3=.int .i64 0) (R:=fun fr' K'=>fr'=[(2,.bool true)]/\K'=⟨[],0,[]⟩)
  (fun i h hp=>IY h hgl hp) (fun i h hp=>⟨_,_,IZ h hp,rfl,rfl⟩) JA
 have l2:=kQ (P:=⟨A0,T,A2⟩) (c:=Lm) (f:=OW) (l:=m.fs) (S:=fun i n=>[(1,.ptr 0 0 0),(3,.int .i64 n),(5,.int .i64 (i:Int))]) (K:=fun _=>⟨[.row 1 [m.F] 2],0,[]⟩) (x:=2) (Q:=fun n fr'=>True) (R:=fun r fr' K'=>fr'=[(2,.bool true)]/\K'=⟨[],0,[]⟩)
  (fun i a a' h hp=>by
    unfold OW at hp;split at hp
    . cases hp
    . rename_i hq
      cases hp;exact(b6c h hk).2 hq) (fun i a r h hp=>by
    unfold OW at hp;split at hp
    . rename_i hq
      exact⟨_,_,(b6c h hk).1 hq,rfl,rfl⟩
    . cases hp) (fun a=>JF) 0
 have q20:decide ((20:Int)<(m.gs.length:Int))=decide (20<m.gs.length):=decide_eq_decide.2 (by omega);have q12:decide ((12:Int)<(m.fs.length:Int))=decide (12<m.fs.length):=decide_eq_decide.2 (by omega);unfold De;simp only[Modl.F]at l1 l2|-;by_cases h20:20<m.gs.length
 . simp -implicitDefEqProofs only[q20,q12,eq_true h20,zqa,XP,seval]
 by_cases h12:12<m.fs.length
 . simp -implicitDefEqProofs only[q20,q12,h20,eq_true h12,zqa,XP,seval]
 rcases l1 with⟨q,fr',h1,h2,h3⟩|⟨q,fr',K',h1,rfl,rfl⟩
 . have h1:evP ⟨A0,T,A2⟩ (.code (.loop Is) [(1,.ptr 0 0 0),(3,.int .i64 0),(4,.int .i64 0)] _)=_:=h1
   rcases l2 with⟨a',q2,fr2,h4,_⟩|⟨r,q2,fr2,K2,h4,rfl,rfl⟩
   . have h4:evP ⟨A0,T,A2⟩ (.code (.loop Lm) [(1,.ptr 0 0 0),(3,.int .i64 0),(5,.int .i64 0)] _)=_:=h4
     simp -implicitDefEqProofs only[q20,q12,h20,h12,h1,h2,h3,h4,q,q2,Sum.isRight_inl,zqa,XP,seval]
   . have h4:evP ⟨A0,T,A2⟩ (.code (.loop Lm) [(1,.ptr 0 0 0),(3,.int .i64 0),(5,.int .i64 0)] _)=_:=h4
     simp -implicitDefEqProofs only[q20,q12,h20,h12,h1,h2,h3,h4,q,q2,Sum.isRight_inr,zqa,XP,seval]
 . have h1:evP ⟨A0,T,A2⟩ (.code (.loop Is) [(1,.ptr 0 0 0),(3,.int .i64 0),(4,.int .i64 0)] _)=_:=h1
   simp -implicitDefEqProofs only[q20,q12,h20,h12,h1,q,zqa,XP,seval]
def Ac:=g0 (fun p:(Modl)=>[p.F]) (fun p=>[.bool (De p)]) (fun p=>p.ok)
theorem kR(hlaw06_Big:T 14=some Ac){m:Modl}{K:PK}(hk:m.ok):evP ⟨A0,T,A2⟩ (.call 14 [m.F] K)=some (.val (openTs K.os.length [.bool (De m)]).1 ⟨K.os++(openTs K.os.length [.bool (De m)]).2,K.ext,K.tch⟩):=B8 hlaw06_Big (by simp -implicitDefEqProofs only[VV,XP,seval]) (C2 (a:=fun p:(Modl)=>[p.F]) (r:=fun p=>[.bool (De p)]) (fun x y e=>by simp only[VJ]at e;simp only[e]) (m) hk) (by simp -implicitDefEqProofs only[VN,XP,seval])
theorem bW  (hP:PEok ⟨A0,T,A2⟩):TC A0 14 Ac:=C8 hP fun p h=>Rd  h
end
section
variable {m:Modl}{c:Cod}{i j k:Nat}{n:Int}
theorem EG(hi:i<m.fs.length)(hj:j<m.fs[i].blocks.length)(hs:m.fs[i].ok):evP ⟨A0,T,A2⟩ (.code kF [(1,.ptr 0 0 0),(3,.int .i64 n),(4,.int .i64 (i:Int)),(5,.int .i64 (j:Int))] ⟨[.row 1 [m.F] 2],0,[]⟩)=some (.ok .normal [(1,.ptr 0 0 0),(3,.int .i64 (R1 n m.fs[i].blocks[j].code.length)),(4,.int .i64 (i:Int)),(5,.int .i64 ((j+1:Nat):Int))] ⟨[.row 1 [m.F] 2],0,[]⟩):=by
 unfold kF R1;have hlt:decide ((j:Int)<(m.fs[i].blocks.length:Int))=true:=by simp[hj]
 have hw:=A8 (i:=j) (by have:=hs.2.2;simp only[bigN]at this;omega);have h1:=B5 (F:=Cod.F) hi;have h2:=B5 (F:=Blk.F) hj;simp only[Blk.F,Modl.F,Cod.F]at h1 h2|-;simp -implicitDefEqProofs only[hlt,h1,h2,hw,zqa,XP,seval]
theorem EH(hi:i<m.fs.length):∃fr',evP ⟨A0,T,A2⟩ (.code kF [(1,.ptr 0 0 0),(3,.int .i64 n),(4,.int .i64 (i:Int)),(5,.int .i64 (m.fs[i].blocks.length:Int))] ⟨[.row 1 [m.F] 2],0,[]⟩)=some (.ok (.exit 2) fr' ⟨[.row 1 [m.F] 2],0,[]⟩)/\(lookP fr' 1=.ptr 0 0 0/\lookP fr' 3=.int .i64 n/\lookP fr' 4=.int .i64 (i:Int)):=by
 unfold kF;have hlt:decide ((m.fs[i].blocks.length:Int)<(m.fs[i].blocks.length:Int))=false:=by simp
 have h1:=B5 (F:=Cod.F) hi;simp only[Modl.F,Cod.F]at h1|-;simp -implicitDefEqProofs only[hlt,h1,zqa,XP,seval];exact⟨_,rfl,rfl,rfl,rfl⟩
theorem EI(hi:i<m.fs.length)(hs:m.ok):evP ⟨A0,T,A2⟩ (.code kG [(1,.ptr 0 0 0),(3,.int .i64 n),(4,.int .i64 (i:Int))] ⟨[.row 1 [m.F] 2],0,[]⟩)=some (.ok .normal [(1,.ptr 0 0 0),(3,.int .i64 (uM n m.fs[i])),(4,.int .i64 ((i+1:Nat):Int))] ⟨[.row 1 [m.F] 2],0,[]⟩):=by
 have hc:=(hs.1 _ (zqc hi)).1;have hlt:decide ((i:Int)<(m.fs.length:Int))=true:=by simp[hi]
 have hw:=A8 (i:=i) (by have:=hs.2.1;simp only[bigN]at this;omega);have hg:=B5 (F:=Cod.F) hi;obtain⟨fr',h1,h2,h3,h4⟩:=Hc (P:=⟨A0,T,A2⟩) (c:=kF) (f:=fun a (b:Blk)=>R1 a b.code.length) (l:=m.fs[i].blocks) (S:=fun j n=>[(1,.ptr 0 0 0),(3,.int .i64 n),(4,.int .i64 (i:Int)),(5,.int .i64 (j:Int))]) (K:=fun _=>⟨[.row 1 [m.F] 2],0,[]⟩) (x:=2) (Q:=fun n fr'=>lookP fr' 1=.ptr 0 0 0/\lookP fr' 3=.int .i64 n/\lookP fr' 4=.int .i64 (i:Int)) (fun k a h=>EG hi h hc) (fun a=>EH hi) (R1 (R1 n m.fs[i].regs.length) m.fs[i].blocks.length);have h1:evP ⟨A0,T,A2⟩ (.code (.loop kF) [(1,.ptr 0 0 0),(3,.int .i64 (R1 (R1 n m.fs[i].regs.length) m.fs[i].blocks.length)),(4,.int .i64 (i:Int)),(5,.int .i64 0)] ⟨[.row 1 [m.F] 2],0,[]⟩)=_:=h1;have hn:uM n m.fs[i]=m.fs[i].blocks.foldl (fun a (b:Blk)=>R1 a b.code.length) (R1 (R1 n m.fs[i].regs.length) m.fs[i].blocks.length):=rfl;rw[<-hn]at h3;unfold kG;unfold R1 at h1;simp only[Modl.F,Cod.F]at hg h1|-;simp -implicitDefEqProofs only[hlt,hg,h1,h2,h3,h4,hw,zqa,XP,seval]
theorem EJ:∃fr',evP ⟨A0,T,A2⟩ (.code kG [(1,.ptr 0 0 0),(3,.int .i64 n),(4,.int .i64 (m.fs.length:Int))] ⟨[.row 1 [m.F] 2],0,[]⟩)=some (.ok (.exit 0) fr' ⟨[.row 1 [m.F] 2],0,[]⟩)/\(lookP fr' 1=.ptr 0 0 0/\lookP fr' 3=.int .i64 n):=by
 unfold kG;have hlt:decide ((m.fs.length:Int)<(m.fs.length:Int))=false:=by simp
 simp only[Modl.F];simp -implicitDefEqProofs only[hlt,zqa,XP,seval];exact⟨_,rfl,rfl,rfl⟩
theorem Re(hlaw06_Big:T 14=some Ac)(hir_Check:T 15=some Cf){m:Modl}(hk:m.ok):AM.Comes ⟨A0,T,A2⟩ 4 [m.F] [.bool (Ab m)]:=by
 refine⟨[.bool (Ab m)],⟨[],0,[]⟩,?_,C1 rfl zqb rfl rfl rfl⟩;rw[A6 (c:=p4) (nt:=71) (rs:=[.tmp 2]) rfl (by simp)];unfold p4;unfold K0;have tb:=fun K=>kR (K:=K) hlaw06_Big hk
 have tc:=fun K=>qK (K:=K) hir_Check hk
 obtain⟨fr',h1,h2,h3⟩:=Hc (P:=⟨A0,T,A2⟩) (c:=kG) (f:=uM) (l:=m.fs) (S:=fun i n=>[(1,.ptr 0 0 0),(3,.int .i64 n),(4,.int .i64 (i:Int))]) (K:=fun _=>⟨[.row 1 [m.F] 2],0,[]⟩) (x:=0) (Q:=fun n fr'=>lookP fr' 1=.ptr 0 0 0/\lookP fr' 3=.int .i64 n) (fun k a h=>EI h hk) (fun a=>EJ) 0;have h1:evP ⟨A0,T,A2⟩ (.code (.loop kG) [(1,.ptr 0 0 0),(3,.int .i64 0),(4,.int .i64 0)] ⟨[.row 1 [m.F] 2],0,[]⟩)=_:=h1;have q12:decide ((12:Int)<(m.fs.length:Int))=decide (12<m.fs.length):=decide_eq_decide.2 (by omega);unfold Ab;simp only[Modl.F]at tb tc h1|-;by_cases h5:1000<m.fs.foldl uM 0
 . simp -implicitDefEqProofs only[h1,h2,h3,q12,eq_true h5,zqa,XP,seval]
 by_cases h12:12<m.fs.length
 . simp -implicitDefEqProofs only[h1,h2,h3,q12,h5,eq_true h12,zqa,XP,seval]
 cases hb:De m with
 |true=>simp -implicitDefEqProofs only[h1,h2,h3,q12,h5,h12,tb,hb,zqa,XP,seval]
 |false=>simp -implicitDefEqProofs only[h1,h2,h3,q12,h5,h12,tb,hb,tc,zqa,XP,seval]
def Df:=g0 (fun p:(Modl)=>[p.F]) (fun p=>[.bool (Ab p)]) (fun p=>p.ok)
theorem kS(hlaw15_Big:T 4=some Df){m:Modl}{K:PK}(hk:m.ok):evP ⟨A0,T,A2⟩ (.call 4 [m.F] K)=some (.val (openTs K.os.length [.bool (Ab m)]).1 ⟨K.os++(openTs K.os.length [.bool (Ab m)]).2,K.ext,K.tch⟩):=B8 hlaw15_Big (by simp -implicitDefEqProofs only[VV,XP,seval]) (C2 (a:=fun p:(Modl)=>[p.F]) (r:=fun p=>[.bool (Ab p)]) (fun x y e=>by simp only[VJ]at e;simp only[e]) (m) hk) (by simp -implicitDefEqProofs only[VN,XP,seval])
theorem bX(hlaw06_Big:T 14=some Ac)(hir_Check:T 15=some Cf)(hP:PEok ⟨A0,T,A2⟩):TC A0 4 Df:=C8 hP fun p h=>Re hlaw06_Big hir_Check h
end
theorem Hd{i:Nat}(h:i<9223372036854775807):IntKind.i64.wrap ((i:Int)-1)=(i:Int)-1:=by
 rw[IntKind.wrap_i64];omega
section
variable {T:Nat->Option (List AV->Option (List AV))}{c:RC}{b:Nat}{K:PK}
theorem JG{l:List Blk}{k m:Nat}{fr fr1:PF}{K1:PK}{f:Bool}(h1:lookP fr 1=.ptr b 0 0)(h3:lookP fr 3=.int .i64 (k:Int))(hk:k<l.length)(hb:rowOf K.os 6 b=some (1,[.fsl (l.map Blk.F) f],1))(hs:l.length*56<=bigN)
 (hr:evP ⟨A0,T,A2⟩ (.round c [.int .i64 (k:Int),Blk.F l[k]] ⟨K.os,K.os.length,[]⟩)=some (.ok .normal fr1 K1)):
 ∃fr',evP ⟨A0,T,A2⟩ (.iter c (m+1+1+1+1+1+1+1+1+1) Tv none fr K)=some (.itr .normal none fr' ⟨K1.os,K.ext,K1.tch++K.tch⟩)/\lookP fr' 1=.ptr b 0 0/\lookP fr' 3=.int .i64 ((k:Int)-1):=by
 unfold Tv;have hg:=B5 (F:=Blk.F) hk;have hge:decide ((0:Int)<=(k:Int))=true:=by simp
 have hw:=Hd (i:=k) (by simp only[bigN]at hs;omega);simp only[Blk.F]at hg hr;simp -implicitDefEqProofs only[Oy,Zx,Ht,Hu,Hv,Hw,Zy,Ox,Cp,Cq,Ia,Hx,Hy,Hz,Oz,Zz,Pa,aC,aB,Cr,aA,h1,h3,hb,hg,hge,hw,hr,wentOn,Ok,XP,seval];exact⟨_,rfl,by simp -implicitDefEqProofs only[h1,XP,seval],by simp -implicitDefEqProofs only[h3,XP,seval]⟩
theorem JH{m:Nat}{fr:PF}(h3:lookP fr 3=.int .i64 (-1)):∃fr',evP ⟨A0,T,A2⟩ (.iter c (m+1+1+1+1+1+1+1+1+1) Tv none fr K)=some (.itr (.exit 0) none fr' K):=by
 unfold Tv;have hge:decide ((0:Int)<=(-1:Int))=false:=rfl;simp -implicitDefEqProofs only[Oy,Zx,Ht,Hu,Hv,Hw,Zy,Ox,Cp,Cq,Ia,Hx,Hy,Hz,Oz,Zz,Pa,aC,aB,Cr,aA,h3,hge,XP,seval];exact⟨_,rfl⟩
theorem BV{l:List Blk}{f:Bool}{Inv:Nat->PK->Prop}(hs:l.length*56<=bigN)(hb:∀i K,i<=l.length->Inv i K->rowOf K.os 6 b=some (1,[.fsl (l.map Blk.F) f],1))
 (hr:∀i (hi:i<l.length) K,Inv (i+1) K->∃fr1 K1,evP ⟨A0,T,A2⟩ (.round c [.int .i64 (i:Int),Blk.F l[i]] ⟨K.os,K.os.length,[]⟩)=some (.ok .normal fr1 K1)/\Inv i ⟨K1.os,K.ext,K1.tch++K.tch⟩):
 ∀(n m:Nat)(fr:PF)(K:PK),n<=l.length->n+30<=m->Inv n K->lookP fr 1=.ptr b 0 0->lookP fr 3=.int .i64 ((n:Int)-1)->∃fr' K',evP ⟨A0,T,A2⟩ (.iter c m (.loop Tv) none fr K)=some (.itr (.exit 0) none fr' K')/\Inv 0 K'
 | 0,m,fr,K,_,hm,hI,h1,h3=>by
  obtain⟨q,rfl⟩:∃q,m=q+1+1+1+1+1+1+1+1+1+1:=⟨m-10,by omega⟩
  obtain⟨fr',h⟩:=JH (c:=c) (K:=K) (T:=T) (m:=q) h3;exact⟨fr',K,by rw[dJ,h];rfl,hI⟩
 | n+1,m,fr,K,hn,hm,hI,h1,h3=>by
  obtain⟨q,rfl⟩:∃q,m=q+1+1+1+1+1+1+1+1+1+1:=⟨m-10,by omega⟩
  obtain⟨fr1,K1,h4,h5⟩:=hr n hn K hI;obtain⟨fr2,h6,h7,h8⟩:=JG (c:=c) (m:=q) h1 (by rw[h3];congr 1;omega) hn (hb _ K (by omega) hI) hs h4;obtain⟨fr',K',h9,h10⟩:=BV hs hb hr n (q+1+1+1+1+1+1+1+1+1) fr2 _ (by omega) (by omega) h5 h7 h8;exact⟨fr',K',by rw[dJ,h6];exact h9,h10⟩
theorem JI{l:List Blk}{f:Bool}{Inv:Nat->PK->Prop}{g:Operand}{ps:List Tmp}{ca cb:PC}{fr:PF}(hs:l.length*56<=bigN)(hl:l.length<=60000)(hg:opvP A0 g fr=.fn (.func 39) [] [.ptr b 0 0])(hb:∀i K,i<=l.length->Inv i K->rowOf K.os 6 b=some (1,[.fsl (l.map Blk.F) f],1))
 (hr:∀i (hi:i<l.length) K,Inv (i+1) K->∃fr1 K1,evP ⟨A0,T,A2⟩ (.round ⟨ps,ca,cb,fr⟩ [.int .i64 (i:Int),Blk.F l[i]] ⟨K.os,K.os.length,[]⟩)=some (.ok .normal fr1 K1)/\Inv i ⟨K1.os,K.ext,K1.tch++K.tch⟩)(hI:Inv l.length ⟨K.os,K.os.length,[]⟩):
 ∃K',evP ⟨A0,T,A2⟩ (.code (.rfn g ps ca cb) fr K)=some (.ok .normal fr ⟨K'.os,K.ext,K'.tch++K.tch⟩)/\Inv 0 K':=by
 obtain⟨fr',K',h9,h10⟩:=BV (c:=⟨ps,ca,cb,fr⟩) hs hb hr l.length (itMax-2) [(3,.int .i64 ((l.length:Int)-1)),(6,.int .i64 ((l.length:Int)-1)),(5,.int .i64 (l.length:Int)),(4,.fsl (l.map Blk.F) f),(0,.any),(1,.ptr b 0 0)] _ (zkh _) (by simp only[itMax];omega) hI (by simp -implicitDefEqProofs only[XP,seval]) (by simp -implicitDefEqProofs only[XP,seval]);refine⟨K',?_,h10⟩;rw[CZ (x:=ZI) (nt:=19) (rs:=[]) (i:=false) hg rfl (by simp)];have hb0:=hb _ _ (zkh _) hI;have hw:=Hd (i:=l.length) (by simp only[bigN]at hs;omega);rw[show itMax=65534+1+1 from rfl];have h9:evP ⟨A0,T,A2⟩ (.iter ⟨ps,ca,cb,fr⟩ 65534 (.loop Tv) none [(3,.int .i64 ((l.length:Int)-1)),(6,.int .i64 ((l.length:Int)-1)),(5,.int .i64 (l.length:Int)),(4,.fsl (l.map Blk.F) f),(0,.any),(1,.ptr b 0 0)] ⟨K.os,K.os.length,[]⟩)=_:=h9;have hb0:rowOf K.os 6 b=some (1,[.fsl (l.map Blk.F) f],1):=hb0;simp -implicitDefEqProofs only[Oy,Zx,Ht,Hu,Hv,Hw,Zy,Ox,Cp,Cq,Ia,Hx,Hy,Hz,Oz,Zz,Pa,aC,aB,Cr,aA,hb0,hw,h9,zqa,xE,rL,XP,seval]
theorem JJ{l:List Ins}{k m:Nat}{fr fr1:PF}{K1:PK}{f:Bool}(h1:lookP fr 1=.ptr b 0 0)(h3:lookP fr 3=.int .i64 (k:Int))(hk:k<l.length)(hb:rowOf K.os 6 b=some (1,[.fsl (l.map Ins.F) f],1))(hs:l.length*88<=bigN)
 (hr:evP ⟨A0,T,A2⟩ (.round c [.int .i64 (k:Int),Ins.F l[k]] ⟨K.os,K.os.length,[]⟩)=some (.ok .normal fr1 K1)):
 ∃fr',evP ⟨A0,T,A2⟩ (.iter c (m+1+1+1+1+1+1+1+1+1) Tw none fr K)=some (.itr .normal none fr' ⟨K1.os,K.ext,K1.tch++K.tch⟩)/\lookP fr' 1=.ptr b 0 0/\lookP fr' 3=.int .i64 ((k:Int)-1):=by
 unfold Tw;have hg:=B5 (F:=Ins.F) hk;have hge:decide ((0:Int)<=(k:Int))=true:=by simp
 have hw:=Hd (i:=k) (by simp only[bigN]at hs;omega);simp only[Ins.F]at hg hr;simp -implicitDefEqProofs only[Oy,Zx,Ht,Hu,Hv,Hw,Zy,Ox,Cp,Cq,Ia,Hx,Hy,Hz,Oz,Zz,Pa,aC,aB,Cr,aA,h1,h3,hb,hg,hge,hw,hr,wentOn,Ok,XP,seval];exact⟨_,rfl,by simp -implicitDefEqProofs only[h1,XP,seval],by simp -implicitDefEqProofs only[h3,XP,seval]⟩
theorem JK{m:Nat}{fr:PF}(h3:lookP fr 3=.int .i64 (-1)):∃fr',evP ⟨A0,T,A2⟩ (.iter c (m+1+1+1+1+1+1+1+1+1) Tw none fr K)=some (.itr (.exit 0) none fr' K):=by
 unfold Tw;have hge:decide ((0:Int)<=(-1:Int))=false:=rfl;simp -implicitDefEqProofs only[Oy,Zx,Ht,Hu,Hv,Hw,Zy,Ox,Cp,Cq,Ia,Hx,Hy,Hz,Oz,Zz,Pa,aC,aB,Cr,aA,h3,hge,XP,seval];exact⟨_,rfl⟩
theorem BW{l:List Ins}{f:Bool}{Inv:Nat->PK->Prop}(hs:l.length*88<=bigN)(hb:∀i K,i<=l.length->Inv i K->rowOf K.os 6 b=some (1,[.fsl (l.map Ins.F) f],1))
 (hr:∀i (hi:i<l.length) K,Inv (i+1) K->∃fr1 K1,evP ⟨A0,T,A2⟩ (.round c [.int .i64 (i:Int),Ins.F l[i]] ⟨K.os,K.os.length,[]⟩)=some (.ok .normal fr1 K1)/\Inv i ⟨K1.os,K.ext,K1.tch++K.tch⟩):
 ∀(n m:Nat)(fr:PF)(K:PK),n<=l.length->n+30<=m->Inv n K->lookP fr 1=.ptr b 0 0->lookP fr 3=.int .i64 ((n:Int)-1)->∃fr' K',evP ⟨A0,T,A2⟩ (.iter c m (.loop Tw) none fr K)=some (.itr (.exit 0) none fr' K')/\Inv 0 K'
 | 0,m,fr,K,_,hm,hI,h1,h3=>by
  obtain⟨q,rfl⟩:∃q,m=q+1+1+1+1+1+1+1+1+1+1:=⟨m-10,by omega⟩
  obtain⟨fr',h⟩:=JK (c:=c) (K:=K) (T:=T) (m:=q) h3;exact⟨fr',K,by rw[dJ,h];rfl,hI⟩
 | n+1,m,fr,K,hn,hm,hI,h1,h3=>by
  obtain⟨q,rfl⟩:∃q,m=q+1+1+1+1+1+1+1+1+1+1:=⟨m-10,by omega⟩
  obtain⟨fr1,K1,h4,h5⟩:=hr n hn K hI;obtain⟨fr2,h6,h7,h8⟩:=JJ (c:=c) (m:=q) h1 (by rw[h3];congr 1;omega) hn (hb _ K (by omega) hI) hs h4;obtain⟨fr',K',h9,h10⟩:=BW hs hb hr n (q+1+1+1+1+1+1+1+1+1) fr2 _ (by omega) (by omega) h5 h7 h8;exact⟨fr',K',by rw[dJ,h6];exact h9,h10⟩
theorem uN{l:List Ins}{f:Bool}{Inv:Nat->PK->Prop}{g:Operand}{ps:List Tmp}{ca cb:PC}{fr:PF}(hs:l.length*88<=bigN)(hl:l.length<=60000)(hg:opvP A0 g fr=.fn (.func 54) [] [.ptr b 0 0])(hb:∀i K,i<=l.length->Inv i K->rowOf K.os 6 b=some (1,[.fsl (l.map Ins.F) f],1))
 (hr:∀i (hi:i<l.length) K,Inv (i+1) K->∃fr1 K1,evP ⟨A0,T,A2⟩ (.round ⟨ps,ca,cb,fr⟩ [.int .i64 (i:Int),Ins.F l[i]] ⟨K.os,K.os.length,[]⟩)=some (.ok .normal fr1 K1)/\Inv i ⟨K1.os,K.ext,K1.tch++K.tch⟩)(hI:Inv l.length ⟨K.os,K.os.length,[]⟩):
 ∃K',evP ⟨A0,T,A2⟩ (.code (.rfn g ps ca cb) fr K)=some (.ok .normal fr ⟨K'.os,K.ext,K'.tch++K.tch⟩)/\Inv 0 K':=by
 obtain⟨fr',K',h9,h10⟩:=BW (c:=⟨ps,ca,cb,fr⟩) hs hb hr l.length (itMax-2) [(3,.int .i64 ((l.length:Int)-1)),(6,.int .i64 ((l.length:Int)-1)),(5,.int .i64 (l.length:Int)),(4,.fsl (l.map Ins.F) f),(0,.any),(1,.ptr b 0 0)] _ (zkh _) (by simp only[itMax];omega) hI (by simp -implicitDefEqProofs only[XP,seval]) (by simp -implicitDefEqProofs only[XP,seval]);refine⟨K',?_,h10⟩;rw[CZ (x:=ZJ) (nt:=19) (rs:=[]) (i:=false) hg rfl (by simp)];have hb0:=hb _ _ (zkh _) hI;have hw:=Hd (i:=l.length) (by simp only[bigN]at hs;omega);rw[show itMax=65534+1+1 from rfl];have h9:evP ⟨A0,T,A2⟩ (.iter ⟨ps,ca,cb,fr⟩ 65534 (.loop Tw) none [(3,.int .i64 ((l.length:Int)-1)),(6,.int .i64 ((l.length:Int)-1)),(5,.int .i64 (l.length:Int)),(4,.fsl (l.map Ins.F) f),(0,.any),(1,.ptr b 0 0)] ⟨K.os,K.os.length,[]⟩)=_:=h9;have hb0:rowOf K.os 6 b=some (1,[.fsl (l.map Ins.F) f],1):=hb0;simp -implicitDefEqProofs only[Oy,Zx,Ht,Hu,Hv,Hw,Zy,Ox,Cp,Cq,Ia,Hx,Hy,Hz,Oz,Zz,Pa,aC,aB,Cr,aA,hb0,hw,h9,zqa,xE,rL,XP,seval]
end
theorem He{l:List Bool}{i:Nat}(h:i<l.length):(bools l)[i]?=some (.bool l[i]):=by simp[bools,h]
section
variable {l:List Bool}
theorem fV:AM.Comes ⟨A0,T,A2⟩ 40 [.nilsl] [ownd 0 1 (bools [])]:=by
 refine⟨[.nilsl],⟨[],0,[]⟩,?_,D6 (.inl ⟨rfl,rfl,rfl⟩)⟩;rw[A6 (c:=BA) (nt:=8) (rs:=[.tmp 2]) rfl (by simp)];unfold BA K0;simp -implicitDefEqProofs only[mS (t:=39) rfl,XP,seval]
theorem fW:AM.Comes ⟨A0,T,A2⟩ 40 [.fsl [] false] [ownd 0 1 (bools [])]:=by
 refine⟨[.msl 0 0 0 1],⟨[.row 0 [] 1],0,[]⟩,?_,D6 (.inr ⟨rfl,rfl⟩)⟩;rw[A6 (c:=BA) (nt:=8) (rs:=[.tmp 2]) rfl (by simp)];unfold BA K0;simp -implicitDefEqProofs only[mT (t:=39) rfl,uD,XP,seval]
theorem fX:∀l:List Bool,L8 1 (bools l)=true
 |[]=>rfl
 |x::l=>fX l
theorem bY{x:Bool}{l:List Bool}(hs:(x::l).length*1<=bigN):AM.Comes ⟨A0,T,A2⟩ 40 [fslN (bools (x::l))] [ownd 0 1 (bools (x::l))]:=by
 refine⟨[.msl 0 0 (bools (x::l)).length 1],⟨[.row 0 (bools (x::l)) 1],0,[]⟩,?_,D6 (.inr ⟨rfl,rfl⟩)⟩;rw[A6 (c:=BA) (nt:=8) (rs:=[.tmp 2]) rfl (by simp)];unfold BA K0;have h1:∀K:PK,a8 A0 .eql 39 (fslN (bools (x::l))) .nilsl K=.val (.bool false) K:=fun K=>fQ (t:=39) rfl
 have h2:=fX (x::l);have h3:(bools (x::l)).isEmpty=false:=rfl;have h4:(bools (x::l)).length*1<=140737488355328:=by simpa[bigN]using hs
 generalize bools (x::l)=es at h1 h2 h3 h4;simp -implicitDefEqProofs only[h1,h2,h3,h4,XP,seval]
def D5:=g0 (fun l:List Bool=>[fslN (bools l)]) (fun l=>[ownd 0 1 (bools l)]) (fun l=>l.length*1<=bigN)
theorem Ad{l:List Bool}(h:l.length*1<=bigN):D5 [fslN (bools l)]=some [ownd 0 1 (bools l)]:=C2 (a:=fun l:List Bool=>[fslN (bools l)]) (fun x y e=>by injection e with e _;rw[bools_iff.1 (fslN_inj e)]) l h
theorem kT{P:PE}(hP:PEok P)(he:P=⟨A0,T,A2⟩):TC P.E 40 D5:=by
 subst he;refine xA hP (fun a args rs hg a' ha=>?_) (by unfold D5 g0;rw[dif_neg];rintro⟨x,_,h⟩;cases h);obtain⟨l,h1,h2,rfl⟩:=dL hg;injection h2 with h2 h3
 subst h2 h3;cases l with
 | nil =>
  rcases zqk.1 ha with rfl|ha
  . exact fV
  . obtain rfl:=zqp.1 ha;exact fW
 | cons x l =>
  obtain rfl:=zqp.1 (show a'∈[fslN (bools (x::l))]from ha);exact bY h1
end
section
variable {l m:List Bool}{f g:Bool}{i:Nat}
theorem JL(hl:i<l.length)(hm:i<m.length)(he:l[i]=m[i])(hs:l.length<=140737488355328):
 evP ⟨A0,T,A2⟩ (.code Fk [(0,.fsl (bools l) f),(1,.fsl (bools m) g),(5,.int .i64 i)] ⟨[],0,[]⟩)=some (.ok .normal [(0,.fsl (bools l) f),(1,.fsl (bools m) g),(5,.int .i64 ((i+1:Nat):Int))] ⟨[],0,[]⟩):=by
 unfold Fk;have hlt:decide ((i:Int)<((bools l).length:Int))=true:=by simp[hl]
 have h1:=He hl;have h2:=He hm;have hw:=A8 (i:=i) (by omega);simp -implicitDefEqProofs only[hlt,h1,h2,hw,he,u_not,Ry,beq_self_eq_true,XP,seval]
theorem JM(hl:i<l.length)(hm:i<m.length)(he:¬l[i]=m[i]):
 ∃fr',evP ⟨A0,T,A2⟩ (.code Fk [(0,.fsl (bools l) f),(1,.fsl (bools m) g),(5,.int .i64 i)] ⟨[],0,[]⟩)=some (.ok .ret fr' ⟨[],0,[]⟩)/\lookP fr' 4=.bool false:=by
 unfold Fk;have hlt:decide ((i:Int)<((bools l).length:Int))=true:=by simp[hl]
 have h1:=He hl;have h2:=He hm;have hd:(l[i]==m[i])=false:=by simp[he]
 simp -implicitDefEqProofs only[hlt,h1,h2,hd,u_not,Ry,beq_self_eq_true,XP,seval];exact⟨_,rfl,rfl⟩
theorem JN(hm:l.length=m.length):∃fr',evP ⟨A0,T,A2⟩ (.code Fk [(0,.fsl (bools l) f),(1,.fsl (bools m) g),(5,.int .i64 l.length)] ⟨[],0,[]⟩)=some (.ok (.exit 0) fr' ⟨[],0,[]⟩):=by
 unfold Fk;have hlt:decide ((l.length:Int)<((bools l).length:Int))=false:=by simp
 simp -implicitDefEqProofs only[hlt,XP,seval];exact⟨_,rfl⟩
theorem sbo_l(hs:l.length<=140737488355328)(hm:l.length=m.length):∀(n i:Nat),l.length=i+n ->
 (l.drop i=m.drop i/\∃fr',evP ⟨A0,T,A2⟩ (.code (.loop Fk) [(0,.fsl (bools l) f),(1,.fsl (bools m) g),(5,.int .i64 i)] ⟨[],0,[]⟩)=some (.ok (.exit 0) fr' ⟨[],0,[]⟩))\/
 (l.drop i≠m.drop i/\∃fr',evP ⟨A0,T,A2⟩ (.code (.loop Fk) [(0,.fsl (bools l) f),(1,.fsl (bools m) g),(5,.int .i64 i)] ⟨[],0,[]⟩)=some (.ok .ret fr' ⟨[],0,[]⟩)/\lookP fr' 4=.bool false)
 | 0,i,e=>by
  obtain rfl:i=l.length:=by omega
  obtain⟨fr',h⟩:=JN (T:=T) (f:=f) (g:=g) hm;exact .inl ⟨by rw[zqg,hm,zqg],fr',B3 h⟩
 | n + 1,i,e=>by
  have hl:i<l.length:=by omega
  have hl':i<m.length:=by omega
  rw[zqh hl,zqh hl'];by_cases he:l[i]=m[i]
  . rw[loop_more (JL hl hl' he hs)]
    rcases sbo_l hs hm n (i+1) (by omega)with⟨h1,h2⟩|⟨h1,h2⟩
    . exact .inl ⟨by rw[he,h1],h2⟩
    . exact .inr ⟨fun h=>h1 (List.cons.inj h).2,h2⟩
  . obtain⟨fr',h1,h2⟩:=JM (T:=T) (f:=f) (g:=g) hl hl' he
    exact .inr ⟨fun h=>he (List.cons.inj h).1,fr',L6 h1,h2⟩
end
theorem Rf  {l:List Bool} {m:List Bool} (hk:l.length<=140737488355328):AM.Comes ⟨A0,T,A2⟩ 17 [fslN (bools l),fslN (bools m)] [.bool (decide (l=m))]:=by
 refine⟨[.bool (decide (l=m))],⟨[],0,[]⟩,?_,C1 rfl zqb rfl rfl rfl⟩;rw[A6 (c:=NF) (nt:=27) (rs:=[.tmp 4]) rfl (by simp)];unfold NF K0 fslN;by_cases hm:l.length=m.length
 . have hn:(!decide (((bools l).length:Int)=((bools m).length:Int)))=false:=by simp[hm]
   rcases sbo_l (T:=T) (f:=(bools l).isEmpty) (g:=(bools m).isEmpty) hk hm l.length 0 (by omega)with⟨h1,fr',h2⟩|⟨h1,fr',h2,h3⟩
   . have h1:decide (l=m)=true:=by simpa using h1
     have h2:evP ⟨A0,T,A2⟩ (.code (.loop Fk) [(0,.fsl (bools l) (bools l).isEmpty),(1,.fsl (bools m) (bools m).isEmpty),(5,.int .i64 0)] ⟨[],0,[]⟩)=_:=h2;simp -implicitDefEqProofs only[hn,h1,h2,XP,seval]
   . have h1:decide (l=m)=false:=by simpa using h1
     have h2:evP ⟨A0,T,A2⟩ (.code (.loop Fk) [(0,.fsl (bools l) (bools l).isEmpty),(1,.fsl (bools m) (bools m).isEmpty),(5,.int .i64 0)] ⟨[],0,[]⟩)=_:=h2;simp -implicitDefEqProofs only[hn,h1,h2,h3,XP,seval]
 . have hn:(!decide (((bools l).length:Int)=((bools m).length:Int)))=true:=by simp[hm];omega
   have h1:decide (l=m)=false:=by simp;intro h;exact hm (by rw[h])
   simp -implicitDefEqProofs only[hn,h1,XP,seval]
def I1:=g0 (fun p:(List Bool)×(List Bool)=>[fslN (bools p.1),fslN (bools p.2)]) (fun p=>[.bool (decide (p.1=p.2))]) (fun p=>p.1.length<=140737488355328)
theorem Ux(hSameBools:T 17=some I1){l:List Bool}{m:List Bool}{K:PK}(hk:l.length<=140737488355328):evP ⟨A0,T,A2⟩ (.call 17 [fslN (bools l),fslN (bools m)] K)=some (.val (openTs K.os.length [.bool (decide (l=m))]).1 ⟨K.os++(openTs K.os.length [.bool (decide (l=m))]).2,K.ext,K.tch⟩):=B8 hSameBools (by simp -implicitDefEqProofs only[VV,XP,seval]) (C2 (a:=fun p:(List Bool)×(List Bool)=>[fslN (bools p.1),fslN (bools p.2)]) (r:=fun p=>[.bool (decide (p.1=p.2))]) (fun x y e=>by simp only[VJ]at e;simp only[e]) (l,m) hk) (by simp -implicitDefEqProofs only[VN,XP,seval])
theorem bZ  (hP:PEok ⟨A0,T,A2⟩):TC A0 17 I1:=C8 hP fun p h=>Rf  h
def uSt(m:List Bool)(i:Nat)(s:List Bool×Bool):List Bool×Bool:=if m.getD i false=true/\s.1.getD i false=false then(s.1.set i true,true)else s
def Ea(m:List Bool):Nat->Nat->List Bool×Bool->List Bool×Bool
 |0,_,s=>s
 |n+1,i,s=>Ea m n (i+1) (uSt m i s)
def unionD(a m:List Bool):List Bool×Bool:=Ea m m.length 0 (a,false)
theorem Sa(m:List Bool)(i:Nat)(s:List Bool×Bool):(uSt m i s).1.length=s.1.length:=by unfold uSt;split<;>simp
theorem Yy(m:List Bool):∀(n i:Nat)(s:List Bool×Bool),(Ea m n i s).1.length=s.1.length
 |0,_,_=>rfl
 |n+1,i,s=>by rw[Ea,Yy,Sa]
theorem unionD_len(a m:List Bool):(unionD a m).1.length=a.length:=Yy m _ _ _
theorem C5{l:List Bool}{i:Nat}(h:i<l.length):(bools l)[i]?=some (.bool (l.getD i false)):=by simp[bools,h]
section
variable {put:List AV->List PO}{id j:Nat}{m:List Bool}{fr:PF}{ext i:Nat}{tch:List Nat}
theorem WW(L:Lens put id 1)(hm:∀x,rowOf (put x) 6 j=some (0,bools m,1)){a:List Bool}{g:Bool}(ha:a.length=m.length)(h0:lookP fr 0=.msl id 0 m.length 1)(h4:lookP fr 4=.bool g)(h7:lookP fr 7=.msl j 0 m.length 1)(h8:lookP fr 8=.int .i64 (m.length:Int))(h9:lookP fr 9=.int .i64 (i:Int))(hi:i<m.length)(hs:m.length<=bigN):
 ∃fr' tch',evP ⟨A0,T,A2⟩ (.code Yr fr ⟨put (bools a),ext,tch⟩)=some (.ok .normal fr' ⟨put (bools (uSt m i (a,g)).1),ext,tch'⟩)/\lookP fr' 0=.msl id 0 m.length 1/\lookP fr' 4=.bool (uSt m i (a,g)).2/\lookP fr' 7=.msl j 0 m.length 1/\lookP fr' 8=.int .i64 (m.length:Int)/\lookP fr' 9=.int .i64 ((i+1:Nat):Int):=by
 unfold Yr uSt;have hlt:decide ((i:Int)<(m.length:Int))=true:=by simp[hi]
 have hw:=A8 (i:=i) (by simp only[bigN]at hs;omega);have h1:=C5 hi;have h2:=C5 (l:=a) (i:=i) (by omega);have hia:i<a.length:=by omega
 have hst:(bools a).set i (.bool true)=bools (a.set i true):=by unfold bools;rw[zqm]
 cases e1:m.getD i false with
 | false =>
  rw[if_neg (fun h=>by cases h.1)];rw[e1]at h1;simp -implicitDefEqProofs only[h0,h4,h7,h8,h9,hlt,hw,h1,h2,hm,L.row,u_not,hi,hia,XP,seval];exact⟨_,_,rfl,by simp -implicitDefEqProofs only[h0,XP,seval],by simp -implicitDefEqProofs only[h4,XP,seval],by simp -implicitDefEqProofs only[h7,XP,seval],by simp -implicitDefEqProofs only[h8,XP,seval],by simp -implicitDefEqProofs only[XP,seval]⟩
 | true =>
  rw[e1]at h1;cases e2:a.getD i false with
  | true =>
   rw[if_neg (fun h=>by cases h.2)];rw[e2]at h2;simp -implicitDefEqProofs only[h0,h4,h7,h8,h9,hlt,hw,h1,h2,hm,L.row,u_not,hi,hia,XP,seval];exact⟨_,_,rfl,by simp -implicitDefEqProofs only[h0,XP,seval],by simp -implicitDefEqProofs only[h4,XP,seval],by simp -implicitDefEqProofs only[h7,XP,seval],by simp -implicitDefEqProofs only[h8,XP,seval],by simp -implicitDefEqProofs only[XP,seval]⟩
  | false =>
   rw[if_pos ⟨rfl,rfl⟩];rw[e2]at h2;simp -implicitDefEqProofs only[h0,h4,h7,h8,h9,hlt,hw,h1,h2,hm,L.row,L.set,L.raw,u_not,hi,hia,hst,XP,seval];exact⟨_,_,rfl,by simp -implicitDefEqProofs only[h0,XP,seval],by simp -implicitDefEqProofs only[XP,seval],by simp -implicitDefEqProofs only[h7,XP,seval],by simp -implicitDefEqProofs only[h8,XP,seval],by simp -implicitDefEqProofs only[XP,seval]⟩
theorem WX{K:PK}(h8:lookP fr 8=.int .i64 (m.length:Int))(h9:lookP fr 9=.int .i64 (m.length:Int)):∃fr',evP ⟨A0,T,A2⟩ (.code Yr fr K)=some (.ok (.exit 0) fr' K)/\lookP fr' 4=lookP fr 4:=by
 unfold Yr;have hlt:decide ((m.length:Int)<(m.length:Int))=false:=by simp
 simp -implicitDefEqProofs only[h8,h9,hlt,XP,seval];exact⟨_,rfl,by simp -implicitDefEqProofs only[XP,seval]⟩
theorem JO(L:Lens put id 1)(hm:∀x,rowOf (put x) 6 j=some (0,bools m,1))(hs:m.length<=bigN):∀(n i:Nat)(a:List Bool)(g:Bool)(fr:PF)(tch:List Nat),m.length=i+n->a.length=m.length->lookP fr 0=.msl id 0 m.length 1->lookP fr 4=.bool g->lookP fr 7=.msl j 0 m.length 1->lookP fr 8=.int .i64 (m.length:Int)->lookP fr 9=.int .i64 (i:Int) ->
 ∃fr' tch',evP ⟨A0,T,A2⟩ (.code (.loop Yr) fr ⟨put (bools a),ext,tch⟩)=some (.ok (.exit 0) fr' ⟨put (bools (Ea m n i (a,g)).1),ext,tch'⟩)/\lookP fr' 4=.bool (Ea m n i (a,g)).2
 | 0,i,a,g,fr,tch,e,ha,h0,h4,h7,h8,h9=>by
  obtain rfl:i=m.length:=by omega
  obtain⟨fr',h,hq⟩:=WX (T:=T) (K:=⟨put (bools a),ext,tch⟩) h8 h9;exact⟨fr',tch,B3 h,hq.trans h4⟩
 | n+1,i,a,g,fr,tch,e,ha,h0,h4,h7,h8,h9=>by
  obtain⟨fr1,tch1,h,k0,k4,k7,k8,k9⟩:=WW (T:=T) (ext:=ext) (tch:=tch) L hm ha h0 h4 h7 h8 h9 (by omega) hs;obtain⟨fr',tch',h',hq⟩:=JO L hm hs n (i+1) (uSt m i (a,g)).1 (uSt m i (a,g)).2 fr1 tch1 (by omega) ((Sa m i (a,g)).trans ha) k0 k4 k7 k8 k9;exact⟨fr',tch',(loop_more h).trans h',hq⟩
theorem Uy(hN:T 22=none)(L:Lens put id 1)(hm:∀x,rowOf (put x) 6 j=some (0,bools m,1))(hs:m.length<=bigN){a:List Bool}(ha:a.length=m.length):
 ∃tch',evP ⟨A0,T,A2⟩ (.call 22 [.msl id 0 m.length 1,.msl j 0 m.length 1] ⟨put (bools a),ext,tch⟩)=some (.val [.bool (unionD a m).2] ⟨put (bools (unionD a m).1),ext,tch'⟩):=by
 obtain⟨fr',tch',h6,h7⟩:=JO (T:=T) (ext:=(put (bools a)).length) L hm hs m.length 0 a false [(9,.int .i64 0),(8,.int .i64 (m.length:Int)),(7,.msl j 0 m.length 1),(4,.bool false),(0,.msl id 0 m.length 1),(1,.msl j 0 m.length 1)] [] (by omega) ha (by simp -implicitDefEqProofs only[XP,Nat.reduceAdd,Nat.reduceSub,Nat.reduceLT,Nat.reduceLeDiff,Nat.reduceEqDiff,Nat.reduceMul,↓reduceIte]) (by simp -implicitDefEqProofs only[XP,Nat.reduceAdd,Nat.reduceSub,Nat.reduceLT,Nat.reduceLeDiff,Nat.reduceEqDiff,Nat.reduceMul,↓reduceIte]) (by simp -implicitDefEqProofs only[XP,Nat.reduceAdd,Nat.reduceSub,Nat.reduceLT,Nat.reduceLeDiff,Nat.reduceEqDiff,Nat.reduceMul,↓reduceIte]) (by simp -implicitDefEqProofs only[XP,Nat.reduceAdd,Nat.reduceSub,Nat.reduceLT,Nat.reduceLeDiff,Nat.reduceEqDiff,Nat.reduceMul,↓reduceIte]) (by simp -implicitDefEqProofs only[XP,Nat.reduceAdd,Nat.reduceSub,Nat.reduceLT,Nat.reduceLeDiff,Nat.reduceEqDiff,Nat.reduceMul,↓reduceIte];rfl);refine⟨tch'++tch,?_⟩;rw[Am hN rfl,A6 (c:=NI) (nt:=27) (rs:=[.tmp 4]) rfl (by simp)];unfold NI;simp -implicitDefEqProofs only[h6,h7,XP,Nat.reduceAdd,Nat.reduceSub,Nat.reduceLT,Nat.reduceLeDiff,Nat.reduceEqDiff,Nat.reduceMul,↓reduceIte];rfl
end
section
variable {c:Cod}{i n:Nat}
abbrev tab(A:List (List Bool)):List AV:=A.map fun r=>ownd 0 1 (bools r)
abbrev noneL(n:Nat):List Bool:=zqr n false
theorem X1(l c:Operand)(fr:PF)(K:PK):prim A0 (.makeSlice 39 l c) fr K=Zg A0 Js (opvP A0 l fr) (opvP A0 c fr) K:=rfl
theorem cC{k k':IntKind}{n:Nat}{K:PK}(h:n*1<=140737488355328):Zg A0 Js (.int k (n:Int)) (.int k' (n:Int)) K=.val (.msl K.os.length 0 n 1) ⟨K.os++[.row 0 (bools (noneL n)) 1],K.ext,K.tch⟩:=by
 have e:bools (noneL n)=zqr n (AV.bool false):=by simp[bools,noneL]
 rw[e];show(match some ty4,some n,some n with|some te,some n,some m=>(if n<=m/\m*te.bytes<=140737488355328/\0<te.size then OpS.val (.msl K.os.length 0 n te.size) (AM.newRow 0 (zqr n te.zero) te.size K)else .bad)|_,_,_=>.bad)=_
 exact if_pos ⟨zkh _,h,by decide⟩
theorem Bj(a b d e:Nat):Jf (.msl a b d e)=false:=rfl
theorem Bk:Jf .nilsl=false:=rfl
theorem Ga(n:Nat):(bools (noneL n)).length=n:=by simp[bools,noneL]
theorem JP(hi:0<c.blocks.length)(hr:c.regs.length*8<=bigN):evP ⟨A0,T,A2⟩ (.code fI [(1,.ptr 0 0 0),(2,.ptr 1 0 0),(3,.ptr 2 0 0),(11,.int .i64 (c.blocks.length:Int)),(12,.int .i64 0)] ⟨[.row 1 [c.F] 5,.row 1 [.nilsl] 1,.row 1 [.nilsl] 1],0,[]⟩)=some (.ok .normal [(1,.ptr 0 0 0),(2,.ptr 1 0 0),(3,.ptr 2 0 0),(11,.int .i64 (c.blocks.length:Int)),(12,.int .i64 1)] ⟨[.row 1 [c.F] 5,.row 1 [.msl 3 0 1 1] 1,.row 1 [.msl 4 0 1 1] 1,.row 0 (tab [noneL c.regs.length]) 1,.row 0 (tab [noneL c.regs.length]) 1],0,[]⟩):=by
 unfold fI;have hlt:decide ((0:Int)<(c.blocks.length:Int))=true:=by simp;omega
 have hw:IntKind.i64.wrap (0+1)=1:=by decide
 have hm:c.regs.length*1<=140737488355328:=by simp only[bigN]at hr;omega
 unfold Cod.F;simp -implicitDefEqProofs only[hlt,hw,zqa,hm,X1,cC,Bj,Bk,Ga,zqj,XP,seval];rfl
theorem JQ{A:List (List Bool)}(hA:A.length=i)(hi:i<c.blocks.length)(hr:c.regs.length*8<=bigN)(hb:c.blocks.length*56<=bigN):evP ⟨A0,T,A2⟩ (.code fI [(1,.ptr 0 0 0),(2,.ptr 1 0 0),(3,.ptr 2 0 0),(11,.int .i64 (c.blocks.length:Int)),(12,.int .i64 ((i:Nat):Int))] ⟨[.row 1 [c.F] 5,.row 1 [.msl 3 0 i 1] 1,.row 1 [.msl 4 0 i 1] 1,.row 0 (tab A) 1,.row 0 (tab A) 1],0,[]⟩)=some (.ok .normal [(1,.ptr 0 0 0),(2,.ptr 1 0 0),(3,.ptr 2 0 0),(11,.int .i64 (c.blocks.length:Int)),(12,.int .i64 ((i+1:Nat):Int))] ⟨[.row 1 [c.F] 5,.row 1 [.msl 3 0 (i+1) 1] 1,.row 1 [.msl 4 0 (i+1) 1] 1,.row 0 (tab (A++[noneL c.regs.length])) 1,.row 0 (tab (A++[noneL c.regs.length])) 1],0,[]⟩):=by
 unfold fI;have hlt:decide ((i:Int)<(c.blocks.length:Int))=true:=by simp;omega
 have hw:=A8 (i:=i) (by simp only[bigN]at hb;omega);have hm:c.regs.length*1<=140737488355328:=by simp only[bigN]at hr;omega
 have hz:(i+1)*24<=140737488355328:=by simp only[bigN]at hb;omega
 have ht:(tab A).take i=tab A:=zqx (by simp[hA]);unfold Cod.F;simp -implicitDefEqProofs only[hlt,hw,zqa,hm,X1,cC,Bj,Bk,Ga,zqj,hA,ht,hz,XP,seval];simp
end
theorem Sb{α:Type}{l:List α}{i:Nat}{v:α}(h:i<l.length):(l.set i v)[i]?=some v:=List.getElem?_set_self h
theorem Gb{α:Type}{l:List α}{i:Nat}{v:α}(h:l[i]?=some v):l.set i v=l:=by
 obtain⟨hi,rfl⟩:=List.getElem?_eq_some_iff.1 h;exact List.set_getElem_self hi
theorem R6:zqf 3=[0,1,2]:=rfl
theorem R7:zqf 4=[0,1,2,3]:=rfl
theorem R8:zqf 5=[0,1,2,3,4]:=rfl
theorem R9:zqf 6=[0,1,2,3,4,5]:=rfl
theorem S0:zqf 7=[0,1,2,3,4,5,6]:=rfl
theorem S1:zqf 8=[0,1,2,3,4,5,6,7]:=rfl
theorem S2:zqf 9=[0,1,2,3,4,5,6,7,8]:=rfl
theorem H2:zqf 10=[0,1,2,3,4,5,6,7,8,9]:=rfl
theorem H3:zqf 11=[0,1,2,3,4,5,6,7,8,9,10]:=rfl
theorem H4:zqf 12=[0,1,2,3,4,5,6,7,8,9,10,11]:=rfl
theorem H5:zqf 13=[0,1,2,3,4,5,6,7,8,9,10,11,12]:=rfl
theorem H6:zqf 14=[0,1,2,3,4,5,6,7,8,9,10,11,12,13]:=rfl
theorem H7:zqf 15=[0,1,2,3,4,5,6,7,8,9,10,11,12,13,14]:=rfl
def tosD(e:Endd):List Int:=if e.kind=1 then [e.to]else if e.kind=2 then [e.to,e.els]else []
theorem Uz  {e:Endd}:AM.Comes ⟨A0,T,A2⟩ 21 [e.F] [ownd 0 1 (ints (tosD e))]:=by
 by_cases e1:e.kind=1
 . rw[show tosD e=[e.to] by simp[tosD,e1]]
   refine⟨[.msl 0 0 1 1],⟨[.row 0 [.int .i64 e.to] 1],0,[]⟩,?_,D6 (.inr ⟨rfl,rfl⟩)⟩;rw[A6 (c:=AX) (nt:=17) (rs:=[.tmp 2]) rfl (by simp)];unfold AX;unfold K0 Endd.F;simp -implicitDefEqProofs only[eq_true e1,XP,seval]
 by_cases e2:e.kind=2
 . rw[show tosD e=[e.to,e.els] by simp[tosD,e2]]
   refine⟨[.msl 0 0 2 1],⟨[.row 0 [.int .i64 e.to,.int .i64 e.els] 1],0,[]⟩,?_,D6 (.inr ⟨rfl,rfl⟩)⟩;rw[A6 (c:=AX) (nt:=17) (rs:=[.tmp 2]) rfl (by simp)];unfold AX;unfold K0 Endd.F;simp -implicitDefEqProofs only[e1,eq_true e2,XP,seval]
 . rw[show tosD e=[] by simp[tosD,e1,e2]]
   refine⟨[.nilsl],⟨[],0,[]⟩,?_,D6 (.inl ⟨rfl,rfl,rfl⟩)⟩;rw[A6 (c:=AX) (nt:=17) (rs:=[.tmp 2]) rfl (by simp)];unfold AX;unfold K0 Endd.F;simp -implicitDefEqProofs only[e1,e2,XP,seval]
def U8:=g0 (fun p:(Endd)=>[p.F]) (fun p=>[ownd 0 1 (ints (tosD p))]) (fun p=>True)
theorem qL(hlive_tos:T 21=some U8){e:Endd}{K:PK}:evP ⟨A0,T,A2⟩ (.call 21 [e.F] K)=some (.val (openTs K.os.length [ownd 0 1 (ints (tosD e))]).1 ⟨K.os++(openTs K.os.length [ownd 0 1 (ints (tosD e))]).2,K.ext,K.tch⟩):=B8 hlive_tos (by simp -implicitDefEqProofs only[VV,XP,seval]) (C2 (a:=fun p:(Endd)=>[p.F]) (r:=fun p=>[ownd 0 1 (ints (tosD p))]) (fun x y e=>by simp only[VJ]at e;simp only[e]) (e) trivial) (by simp -implicitDefEqProofs only[VN,XP,seval])
theorem fY  (hP:PEok ⟨A0,T,A2⟩):TC A0 21 U8:=C8 hP fun p h=>Uz
section
variable {c:Cod}{b:Blk}{A B:List (List Bool)}{i j at_ t n:Nat}{g:Bool}{L:List Int}{tch:List Nat}
theorem M6{A:List (List Bool)}{i:Nat}(h:i<A.length):(tab A)[i]?=some (ownd 0 1 (bools (A.getD i []))):=by simp[tab,h]
theorem c9{A:List (List Bool)}{i:Nat}{x:List Bool}:(tab A).set i (ownd 0 1 (bools x))=tab (A.set i x):=by simp[tab,zqm]
theorem Dg{k sz o:Nat}{es:List AV}{c:AV}:putCl (ownd k sz es) o c=c:=rfl
def Va(c:Cod)(g:Bool)(A B:List (List Bool))(b:Blk)(L:List Int)(at_ t:Nat)(x:List AV):List PO:=[.row 1 [c.F] 5,.row 1 [.msl 4 0 c.blocks.length 1] 1,.row 1 [.msl 5 0 c.blocks.length 1] 1,.row 1 [.bool g] 1,.row 0 (tab A) 1,.row 0 ((tab B).set at_ (ownd 0 1 x)) 1,.row 1 [fslN (c.blocks.map Blk.F)] 1,.row 1 [b.F] 5,.row 0 (ints L) 1,.sub 5 at_ 0,.sub 4 t 0]
theorem yK(hb:at_<B.length):Lens (Va c g A B b L at_ t) 9 1:=by
 have hb':at_<(tab B).length:=by simp[tab,hb]
 refine⟨fun es=>?_,fun es es'=>?_,fun es=>?_⟩
 . unfold Va
   simp -implicitDefEqProofs only[Sb hb',XP,seval]
 . unfold Va
   simp -implicitDefEqProofs only[Sb hb',List.set_set,Dg,XP,seval]
 . rfl
theorem EK(hN:T 22=none)(hj:j<L.length)(hL:L[j]=(t:Int))(ht:t<A.length)(hA:A.length=c.blocks.length)(hB:B.length=c.blocks.length)(hat:at_<B.length)(hlA:(A.getD t []).length=n)(hlB:(B.getD at_ []).length=n)(hs:n<=bigN)(hsL:L.length<=2):
 ∃tch',evP ⟨A0,T,A2⟩ (.code pR [(2,.ptr 1 0 0),(3,.ptr 2 0 0),(4,.ptr 3 0 0),(5,.int .i64 (at_:Int)),(6,.ptr 7 0 0),(37,.msl 8 0 L.length 1),(38,.int .i64 (L.length:Int)),(39,.int .i64 (j:Int))] ⟨[.row 1 [c.F] 5,.row 1 [.msl 4 0 c.blocks.length 1] 1,.row 1 [.msl 5 0 c.blocks.length 1] 1,.row 1 [.bool g] 1,.row 0 (tab A) 1,.row 0 (tab B) 1,.row 1 [fslN (c.blocks.map Blk.F)] 1,.row 1 [b.F] 5,.row 0 (ints L) 1],7,tch⟩)=some (.ok .normal [(2,.ptr 1 0 0),(3,.ptr 2 0 0),(4,.ptr 3 0 0),(5,.int .i64 (at_:Int)),(6,.ptr 7 0 0),(37,.msl 8 0 L.length 1),(38,.int .i64 (L.length:Int)),(39,.int .i64 ((j+1:Nat):Int))] ⟨[.row 1 [c.F] 5,.row 1 [.msl 4 0 c.blocks.length 1] 1,.row 1 [.msl 5 0 c.blocks.length 1] 1,.row 1 [.bool g] 1,.row 0 (tab A) 1,.row 0 (tab (B.set at_ (unionD (B.getD at_ []) (A.getD t [])).1)) 1,.row 1 [fslN (c.blocks.map Blk.F)] 1,.row 1 [b.F] 5,.row 0 (ints L) 1],7,tch'⟩):=by
 unfold pR;have hlt:decide ((j:Int)<(L.length:Int))=true:=by simp[hj]
 have hw:=A8 (i:=j) (by omega);have h1:=G5 hj;rw[hL]at h1;have h2:=M6 ht;have h3:=M6 hat;have e3:(tab B).set at_ (ownd 0 1 (bools (B.getD at_ [])))=tab B:=Gb h3;have htb:t<c.blocks.length:=by omega
 have hab:at_<c.blocks.length:=by omega
 obtain⟨tch',hu⟩:=Uy (T:=T) (ext:=7) (tch:=tch) (m:=A.getD t []) (a:=B.getD at_ []) (j:=10) hN (yK (c:=c) (g:=g) (A:=A) (B:=B) (b:=b) (L:=L) (at_:=at_) (t:=t) hat) (fun x=>by unfold Va;simp -implicitDefEqProofs only[h2,XP,seval]) (by omega) (by omega);unfold Va at hu;rw[e3,c9,hlA]at hu;simp only[Cod.F,Blk.F]at hu|-;simp -implicitDefEqProofs only[hlt,hw,h1,h2,h3,hj,htb,hab,hlA,hlB,hu,zqa,R6,R7,R8,R9,S0,S1,S2,H2,H3,H4,H5,H6,H7,XP,seval];exact⟨_,rfl⟩
end
def Dh(w:List Bool)(r:Int):List Bool:=w.set r.toNat true
def R2(w:List Bool)(x:Ins):List Bool:=(readsD x).foldl Dh (if 0<=writesD x then w.set (writesD x).toNat false else w)
theorem qM(rs:List Int):∀w:List Bool,(rs.foldl Dh w).length=w.length:=by
 induction rs with
 |nil=>intro w;rfl
 |cons r rs ih=>intro w;rw[zqq,ih];simp[Dh]
theorem l5(w:List Bool)(x:Ins):(R2 w x).length=w.length:=by
 unfold R2;rw[qM];split<;>simp
section
variable {put:List AV->List PO}{id bx rid n j r:Nat}{rs:List Int}{fr:PF}{ext:Nat}{tch:List Nat}{w:List Bool}
theorem WY(L:Lens put id 1)(hro:∀x,rootOf (put x) 6 id=id)(hbx:∀x,rowOf (put x) 6 bx=some (1,[.msl id 0 n 1],1))(hrd:∀x,rowOf (put x) 6 rid=some (0,ints rs,1))(hw:w.length=n)(h7:lookP fr 7=.ptr bx 0 0)(h47:lookP fr 47=.msl rid 0 rs.length 1)(h48:lookP fr 48=.int .i64 (rs.length:Int))(h49:lookP fr 49=.int .i64 (j:Int))(hj:j<rs.length)(hr:rs[j]=(r:Int))(hrn:r<n)(hs:rs.length<=bigN):
 ∃fr',evP ⟨A0,T,A2⟩ (.code Fl fr ⟨put (bools w),ext,tch⟩)=some (.ok .normal fr' ⟨put (bools (w.set r true)),ext,id::tch⟩)/\lookP fr' 7=.ptr bx 0 0/\lookP fr' 47=.msl rid 0 rs.length 1/\lookP fr' 48=.int .i64 (rs.length:Int)/\lookP fr' 49=.int .i64 ((j+1:Nat):Int):=by
 unfold Fl;have hlt:decide ((j:Int)<(rs.length:Int))=true:=by simp[hj]
 have hws:=A8 (i:=j) (by simp only[bigN]at hs;omega);have h1:=G5 hj;rw[hr]at h1;have h2:=C5 (l:=w) (i:=r) (by omega);have hst:(bools w).set r (.bool true)=bools (w.set r true):=by unfold bools;rw[zqm]
 simp -implicitDefEqProofs only[h7,h47,h48,h49,hlt,hws,h1,h2,hrn,hj,hbx,hrd,hro,L.row,L.set,L.raw,hst,XP,seval];exact⟨_,rfl,by simp -implicitDefEqProofs only[h7,XP,seval],by simp -implicitDefEqProofs only[h47,XP,seval],by simp -implicitDefEqProofs only[h48,XP,seval],by simp -implicitDefEqProofs only[XP,seval]⟩
theorem WZ{K:PK}(h48:lookP fr 48=.int .i64 (rs.length:Int))(h49:lookP fr 49=.int .i64 (rs.length:Int)):∃fr',evP ⟨A0,T,A2⟩ (.code Fl fr K)=some (.ok (.exit 2) fr' K):=by
 unfold Fl;have hlt:decide ((rs.length:Int)<(rs.length:Int))=false:=by simp
 simp -implicitDefEqProofs only[h48,h49,hlt,XP,seval];exact⟨_,rfl⟩
theorem JR(L:Lens put id 1)(hro:∀x,rootOf (put x) 6 id=id)(hbx:∀x,rowOf (put x) 6 bx=some (1,[.msl id 0 n 1],1))(hrd:∀x,rowOf (put x) 6 rid=some (0,ints rs,1))(hs:rs.length<=bigN)(hrs:∀r∈rs,0<=r/\r<(n:Int)):∀(k j:Nat)(w:List Bool)(fr:PF)(tch:List Nat),rs.length=j+k->w.length=n->lookP fr 7=.ptr bx 0 0->lookP fr 47=.msl rid 0 rs.length 1->lookP fr 48=.int .i64 (rs.length:Int)->lookP fr 49=.int .i64 (j:Int) ->
 ∃fr' tch',evP ⟨A0,T,A2⟩ (.code (.loop Fl) fr ⟨put (bools w),ext,tch⟩)=some (.ok (.exit 2) fr' ⟨put (bools ((rs.drop j).foldl Dh w)),ext,tch'⟩)/\∀y∈tch',y∈tch\/y=id
 | 0,j,w,fr,tch,e,hw,h7,h47,h48,h49=>by
  obtain rfl:j=rs.length:=by omega
  obtain⟨fr',h⟩:=WZ (T:=T) (K:=⟨put (bools w),ext,tch⟩) h48 h49;exact⟨fr',tch,by rw[zqg];exact B3 h,fun y hy=>.inl hy⟩
 | k + 1,j,w,fr,tch,e,hw,h7,h47,h48,h49=>by
  have hj:j<rs.length:=by omega
  obtain⟨h0,h1⟩:=hrs _ (zqc hj);obtain⟨r,hr⟩:=zki h0;obtain⟨fr1,h,k7,k47,k48,k49⟩:=WY (T:=T) (ext:=ext) (tch:=tch) L hro hbx hrd hw h7 h47 h48 h49 hj hr (by omega) hs;obtain⟨fr',tch',h',ht⟩:=JR L hro hbx hrd hs hrs k (j+1) (w.set r true) fr1 (id::tch) (by omega) (by simpa using hw) k7 k47 k48 k49;refine⟨fr',tch',?_,fun y hy=>?_⟩
  . rw[zqh hj,zqq,show Dh w rs[j]=w.set r true by rw[hr];rfl]
    exact(loop_more h).trans h'
  . rcases ht y hy with h|h
    . rcases zqk.1 h with h|h
      . exact .inr h
      . exact .inl h
    . exact .inr h
theorem EL(L:Lens put id 1)(hro:∀x,rootOf (put x) 6 id=id)(hbx:∀x,rowOf (put x) 6 bx=some (1,[.msl id 0 n 1],1))(hrd:∀x,rowOf (put x) 6 rid=some (0,ints rs,1))(hs:rs.length<=bigN)(hrs:∀r∈rs,0<=r/\r<(n:Int))(hw:w.length=n):
 ∃(FR:PF->List Nat->PF)(TC:PF->List Nat->List Nat),∀(fr:PF)(tch:List Nat),lookP fr 7=.ptr bx 0 0->lookP fr 47=.msl rid 0 rs.length 1->lookP fr 48=.int .i64 (rs.length:Int)->lookP fr 49=.int .i64 0 ->
 evP ⟨A0,T,A2⟩ (.code (.loop Fl) fr ⟨put (bools w),ext,tch⟩)=some (.ok (.exit 2) (FR fr tch) ⟨put (bools (rs.foldl Dh w)),ext,TC fr tch⟩)/\∀y∈TC fr tch,y∈tch\/y=id:=by
 have key:∀x:PF×List Nat,∃y:PF×List Nat,lookP x.1 7=.ptr bx 0 0->lookP x.1 47=.msl rid 0 rs.length 1->lookP x.1 48=.int .i64 (rs.length:Int)->lookP x.1 49=.int .i64 0 ->
  evP ⟨A0,T,A2⟩ (.code (.loop Fl) x.1 ⟨put (bools w),ext,x.2⟩)=some (.ok (.exit 2) y.1 ⟨put (bools (rs.foldl Dh w)),ext,y.2⟩)/\∀z∈y.2,z∈x.2\/z=id:=fun x=>by
  by_cases h:lookP x.1 7=.ptr bx 0 0/\lookP x.1 47=.msl rid 0 rs.length 1/\lookP x.1 48=.int .i64 (rs.length:Int)/\lookP x.1 49=.int .i64 0
  . obtain⟨fr',tch',h1,h2⟩:=JR (T:=T) (ext:=ext) L hro hbx hrd hs hrs rs.length 0 w x.1 x.2 (by omega) hw h.1 h.2.1 h.2.2.1 h.2.2.2
    exact⟨(fr',tch'),fun _ _ _ _=>⟨h1,h2⟩⟩
  . exact⟨([],[]),fun a b c d=>absurd ⟨a,b,c,d⟩ h⟩
 exact⟨fun fr tch=>(key (fr,tch)).choose.1,fun fr tch=>(key (fr,tch)).choose.2,fun fr tch=>(key (fr,tch)).choose_spec⟩
end
theorem XA(hN:T 24=none){x:Ins}{v:AV}{K:PK}:evP ⟨A0,T,A2⟩ (.call 24 [x.F,v] K)=some (.val [] ⟨K.os++[.row 1 [x.F] 8],K.ext,K.tch⟩):=by
 rw[Am hN rfl,A6 (c:=NJ) (nt:=4) (rs:=[]) rfl (by simp)];unfold NJ;simp only[Ins.F];simp -implicitDefEqProofs only[XP,seval]
theorem Nw(x:Ins):(readsD x).length<=x.args.length+2:=by
 unfold readsD
 repeat (split;· simp)
 simp
section
variable {c:Cod}{b:Blk}{A B:List (List Bool)}{at_ n k:Nat}{g:Bool}{tch:List Nat}{w:List Bool}{x:Ins}{fr:PF}
def g8(c:Cod)(g:Bool)(A B:List (List Bool))(b:Blk)(at_ n:Nat)(ps:List PO)(w:List AV):List PO:=[.row 1 [c.F] 5,.row 1 [.msl 4 0 c.blocks.length 1] 1,.row 1 [.msl 5 0 c.blocks.length 1] 1,.row 1 [.bool g] 1,.row 0 (tab A) 1,.row 0 (tab B) 1,.row 1 [fslN (c.blocks.map Blk.F)] 1,.row 1 [b.F] 5,.sub 5 at_ 0,.row 1 [b.F] 5,.row 1 [.fn (.func 24) [] []] 1,.row 0 w 1,.row 1 [.msl 11 0 n 1] 1,.row 1 [fslN (b.code.map Ins.F)] 1]++ps
theorem EM{ps:List PO}:Lens (g8 c g A B b at_ n ps) 11 1:=⟨fun es=>rfl,fun es es'=>rfl,fun es=>rfl⟩
theorem XB(hS:T 24=none)(hW:T 30=some B9)(hR:T 42=some D3)(hk:x.ok)(hw:w.length=n)(hs:n<=bigN)(hwr:writesD x<n)(hrd:∀r∈readsD x,0<=r/\r<(n:Int))(h5:lookP fr 5=.ptr 10 0 0)(h7:lookP fr 7=.ptr 12 0 0):
 ∃fr1 tch',evP ⟨A0,T,A2⟩ (.round ⟨[33,34],s8,s5,fr⟩ [.int .i64 (k:Int),x.F] ⟨g8 c g A B b at_ n [] (bools w),14,[]⟩)=some (.ok .normal fr1 ⟨g8 c g A B b at_ n [] (bools (R2 w x)),14,tch'⟩)/\∀y∈tch',9<=y:=by
 rw[Sg rfl];unfold s8 s5;have t1:=fun K=>XA (T:=T) (x:=x) (v:=.msl 11 0 n 1) (K:=K) hS
 have t2:=fun K=>j9 (K:=K) (x:=x) hW
 have t3:=fun K=>Hb (K:=K) (x:=x) hR hk
 have hrl:(readsD x).length<=bigN:=by
  have:=Nw x
  have h2:x.args.length*8<=bigN:=hk;simp only[bigN]at h2|-;omega
 have go:∀w':List Bool,w'.length=n->∃(FR:PF->List Nat->PF)(TC:PF->List Nat->List Nat),∀(fr:PF)(tch:List Nat),lookP fr 7=.ptr 12 0 0->lookP fr 47=.msl 16 0 (readsD x).length 1->lookP fr 48=.int .i64 ((readsD x).length:Int)->lookP fr 49=.int .i64 0 ->
  evP ⟨A0,T,A2⟩ (.code (.loop Fl) fr ⟨g8 c g A B b at_ n [.row 1 [x.F] 8,.row 1 [x.F] 8,.row 0 (ints (readsD x)) 1] (bools w'),14,tch⟩)=some (.ok (.exit 2) (FR fr tch) ⟨g8 c g A B b at_ n [.row 1 [x.F] 8,.row 1 [x.F] 8,.row 0 (ints (readsD x)) 1] (bools ((readsD x).foldl Dh w')),14,TC fr tch⟩)/\∀y∈TC fr tch,y∈tch\/y=11:=fun w' hw'=>EL EM (fun _=>rfl) (fun _=>rfl) (fun _=>rfl) hrl hrd hw'
 by_cases h0:0<=writesD x
 . obtain⟨d,hd⟩:=zki h0
   have hdn:d<n:=by omega
   obtain⟨FR,TC,hl⟩:=go (w.set d false) (by simpa using hw);have es:R2 w x=(readsD x).foldl Dh (w.set d false):=by unfold R2;rw[if_pos h0,hd];rfl
   have hg:=C5 (l:=w) (i:=d) (by omega);have hst:(bools w).set d (.bool false)=bools (w.set d false):=by unfold bools;rw[zqm]
   have hl1:=fun fr tch a b c d=>(hl fr tch a b c d).1
   have hl2:=fun fr tch a b c d=>(hl fr tch a b c d).2
   rw[es];unfold g8 at hl1|-;have hdec:decide (0<=(d:Int))=true:=by simp
   simp only[hd]at t2;simp only[Cod.F,Blk.F,Ins.F,zqd,zqe]at t1 t2 t3 hl1|-;simp -implicitDefEqProofs only[Y2,l8,Kl,h5,h7,t1,t2,t3,hdec,hdn,hg,hst,hl1,R6,R7,R8,R9,S0,S1,S2,H2,H3,H4,H5,H6,H7,zqa,XP,seval];refine⟨_,_,rfl,fun y hy=>?_⟩;have hy:=(zkd.1 hy).1;rcases hl2 _ _ (by simp -implicitDefEqProofs only[h7,XP,seval]) (by simp -implicitDefEqProofs only[XP,seval]) (by simp -implicitDefEqProofs only[XP,seval]) (by simp -implicitDefEqProofs only[XP,seval]) y hy with h|h
   . simp only[zqk,zqn,or_false]at h;omega
   . omega
 . obtain⟨FR,TC,hl⟩:=go w hw
   have es:R2 w x=(readsD x).foldl Dh w:=by unfold R2;rw[if_neg h0]
   have hl1:=fun fr tch a b c d=>(hl fr tch a b c d).1
   have hl2:=fun fr tch a b c d=>(hl fr tch a b c d).2
   rw[es];unfold g8 at hl1|-;have hdec:decide (0<=writesD x)=false:=by simp[h0]
   simp only[Cod.F,Blk.F,Ins.F,zqd,zqe]at t1 t2 t3 hl1|-;simp -implicitDefEqProofs only[Y2,l8,Kl,h5,h7,t1,t2,t3,hdec,hl1,R6,R7,R8,R9,S0,S1,S2,H2,H3,H4,H5,H6,H7,zqa,XP,seval];refine⟨_,_,rfl,fun y hy=>?_⟩;have hy:=(zkd.1 hy).1;rcases hl2 _ _ (by simp -implicitDefEqProofs only[h7,XP,seval]) (by simp -implicitDefEqProofs only[XP,seval]) (by simp -implicitDefEqProofs only[XP,seval]) (by simp -implicitDefEqProofs only[XP,seval]) y hy with h|h
   . simp only[zqk,zqn,or_false]at h;omega
   . omega
end
def uO(l:List Ins):Nat->List Bool->List Bool
 |0,w=>w
 |k+1,w=>uO l k (match l[k]? with|some x=>R2 w x|none=>w)
def endW(b:Blk)(w:List Bool):List Bool:=if b.e.kind≠1/\0<=b.e.a then w.set b.e.a.toNat true else w
def walkD(b:Blk)(w:List Bool):List Bool:=uO b.code b.code.length (endW b w)
theorem mW(l:List Ins):∀(k:Nat)(w:List Bool),(uO l k w).length=w.length
 |0,w=>rfl
 | k+1,w=>by
  rw[uO,mW];cases l[k]? with
  |none=>rfl
  |some x=>exact l5 w x
theorem Ae(b:Blk)(w:List Bool):(endW b w).length=w.length:=by unfold endW;split<;>simp
theorem Nx(b:Blk)(w:List Bool):(walkD b w).length=w.length:=(mW _ _ _).trans (Ae b w)
structure WOk(n:Nat)(b:Blk):Prop where
 sz:b.code.length*88<=bigN
 ln:b.code.length<=60000
 ok:∀x∈b.code,x.ok
 wr:∀x∈b.code,writesD x<n
 rd:∀x∈b.code,∀r∈readsD x,0<=r/\r<(n:Int)
 ea:b.e.kind≠1->b.e.a<n
theorem Vb(hN:T 41=none){l:List Ins}{K:PK}:evP ⟨A0,T,A2⟩ (.call 41 [fslN (l.map Ins.F)] K)=some (.val [.fn (.func 54) [] [.ptr K.os.length 0 0]] ⟨K.os++[.row 1 [fslN (l.map Ins.F)] 1],K.ext,K.tch⟩):=by
 rw[Am hN rfl,A6 (c:=NV) (nt:=4) (rs:=[.tmp 2]) rfl (by simp)];unfold NV;simp -implicitDefEqProofs only[XP,seval]
section
variable {c:Cod}{b:Blk}{A B:List (List Bool)}{at_ n k ex:Nat}{g:Bool}{w:List Bool}{x:Ins}{fr:PF}
theorem XD(hS:T 24=none)(hW:T 30=some B9)(hR:T 42=some D3)(hb:WOk n b)(hs:n<=bigN){w0:List Bool}(hw0:w0.length=n):
 ∃ TC:PF->List Nat->List Nat,∀(fr:PF)(tch:List Nat),lookP fr 5=.ptr 10 0 0->lookP fr 7=.ptr 12 0 0->lookP fr 32=.fn (.func 54) [] [.ptr 13 0 0] ->
   evP ⟨A0,T,A2⟩ (.code (.rfn (.tmp 32) [33,34] s8 s5) fr ⟨g8 c g A B b at_ n [] (bools w0),ex,tch⟩)=some (.ok .normal fr ⟨g8 c g A B b at_ n [] (bools (uO b.code b.code.length w0)),ex,TC fr tch++tch⟩)/\∀y∈TC fr tch,9<=y:=by
 have key:∀x:PF×List Nat,∃y:List Nat,lookP x.1 5=.ptr 10 0 0->lookP x.1 7=.ptr 12 0 0->lookP x.1 32=.fn (.func 54) [] [.ptr 13 0 0] ->
  evP ⟨A0,T,A2⟩ (.code (.rfn (.tmp 32) [33,34] s8 s5) x.1 ⟨g8 c g A B b at_ n [] (bools w0),ex,x.2⟩)=some (.ok .normal x.1 ⟨g8 c g A B b at_ n [] (bools (uO b.code b.code.length w0)),ex,y++x.2⟩)/\∀z∈y,9<=z:=fun x=>by
  by_cases h:lookP x.1 5=.ptr 10 0 0/\lookP x.1 7=.ptr 12 0 0/\lookP x.1 32=.fn (.func 54) [] [.ptr 13 0 0]
  . obtain ⟨K',h1,w',tch',rfl,h3,h4,h5⟩:=uN (T:=T) (l:=b.code) (f:=(b.code.map Ins.F).isEmpty) (fr:=x.1) (g:=.tmp 32) (ps:=[33,34]) (ca:=s8) (cb:=s5) (b:=13) (K:=⟨g8 c g A B b at_ n [] (bools w0),ex,x.2⟩)
     (Inv:=fun i K=>∃w tch,K=⟨g8 c g A B b at_ n [] (bools w),14,tch⟩/\w.length=n/\uO b.code i w=uO b.code b.code.length w0/\∀y∈tch,9<=y) hb.sz hb.ln h.2.2
     (fun i K _ hI=>by obtain⟨w,tch,rfl,_⟩:=hI;rfl)
     (fun i hi K hI=>by
       obtain⟨w,tch,rfl,h3,h4,h5⟩:=hI;have hm:=zqc hi;obtain⟨fr1,tch',h6,h7⟩:=XB (T:=T) (c:=c) (b:=b) (A:=A) (B:=B) (at_:=at_) (n:=n) (k:=i) (g:=g) (w:=w) (x:=b.code[i]) (fr:=x.1) hS hW hR (hb.ok _ hm) h3 hs (hb.wr _ hm) (hb.rd _ hm) h.1 h.2.1;refine⟨fr1,_,h6,R2 w b.code[i],tch'++tch,rfl,(l5 _ _).trans h3,?_,fun y hy=>?_⟩
       . rw[uO,zql hi]at h4;exact h4
       . rcases zqs.1 hy with hy|hy
         . exact h7 y hy
         . exact h5 y hy)
     ⟨w0,[],rfl,hw0,rfl,fun y hy=>by cases hy⟩
    exact⟨tch',fun _ _ _=>⟨by rw[h1,<-h4];rfl,h5⟩⟩
  . exact⟨[],fun a b c=>absurd ⟨a,b,c⟩ h⟩
 exact⟨fun fr tch=>(key (fr,tch)).choose,fun fr tch=>(key (fr,tch)).choose_spec⟩
end
section
variable {c:Cod}{b:Blk}{A B:List (List Bool)}{at_ n k:Nat}{g:Bool}{w:List Bool}{tch:List Nat}
theorem kU(hN:T 23=none)(hNB:T 41=none)(hC:T 40=some D5)(hS:T 24=none)(hW:T 30=some B9)(hR:T 42=some D3)(hb:WOk n b)(hs:n<=bigN)(hB:at_<B.length)(hl:(B.getD at_ []).length=n):
 ∃tch',evP ⟨A0,T,A2⟩ (.call 23 [b.F,.msl 8 0 n 1,.fn (.func 24) [] []] ⟨[.row 1 [c.F] 5,.row 1 [.msl 4 0 c.blocks.length 1] 1,.row 1 [.msl 5 0 c.blocks.length 1] 1,.row 1 [.bool g] 1,.row 0 (tab A) 1,.row 0 (tab B) 1,.row 1 [fslN (c.blocks.map Blk.F)] 1,.row 1 [b.F] 5,.sub 5 at_ 0],7,tch⟩)=some (.val [.msl 11 0 n 1] ⟨g8 c g A B b at_ n [] (bools (walkD b (B.getD at_ []))),7,tch'++tch⟩)/\∀y∈tch',9<=y:=by
 have h3:=M6 hB;have hv:∀os,rowOf os 6 8=some (0,bools (B.getD at_ []),1)->viewAs os [.msl 8 0 n 1]=some [fslN (bools (B.getD at_ []))]:=fun os h=>by
  have e:viewV os (.msl 8 0 n 1)=some (fslN (bools (B.getD at_ []))):=by
   show(match rowOf os 6 8 with|some (k,es,z)=>(if k=0/\1=z/\0+n<=es.length then(match frzL ((es.drop 0).take n)with|some es=>some (fslN es)|none=>none)else none)|none=>none)=_
   rw[h];dsimp only;rw[if_pos ⟨rfl,rfl,by rw[zqa];omega⟩,List.drop_zero,zqx (by rw[zqa];omega),frzL_bools]
  show J7 (viewV os (.msl 8 0 n 1)) (some [])=_
  rw[e];rfl
 have tc:=fun K (h:viewAs K.os [.msl 8 0 n 1]=some [fslN (bools (B.getD at_ []))])=>B8 (E:=A0) (F:=A2) (K:=K) hC h (Ad (by rw[hl];omega)) (by simp -implicitDefEqProofs only[noFL_bools,XP,seval])
 have tb:=fun K=>Vb (K:=K) (l:=b.code) hNB
 obtain⟨TC,hw⟩:=XD (T:=T) (ex:=9) (c:=c) (b:=b) (A:=A) (B:=B) (at_:=at_) (n:=n) (g:=g) (w0:=endW b (B.getD at_ [])) hS hW hR hb hs ((Ae _ _).trans hl);rw[Am hN rfl,A6 (c:=AY) (nt:=58) (rs:=[.tmp 6]) rfl (by simp)];unfold AY walkD;have hw1:=fun fr tch a b c=>(hw fr tch a b c).1
 have hw2:=fun fr tch a b c=>(hw fr tch a b c).2
 by_cases e1:b.e.kind=1
 . rw [show endW b (B.getD at_ [])=B.getD at_ [] by unfold endW;rw[if_neg (fun h=>h.1 e1)]]at hw1|-
   unfold g8 at hw1|-;simp only[Cod.F,Blk.F,zqd,zqe]at hw1|-;simp -implicitDefEqProofs only[h3,tb,tc,hv,eq_true e1,hw1,hl,zqa,R6,R7,R8,R9,S0,S1,S2,H2,H3,H4,H5,H6,H7,XP,seval];exact⟨_,rfl,fun y hy=>by
    rcases zqs.1 hy with h|h
    . exact hw2 _ _ (by simp -implicitDefEqProofs only[XP,seval]) (by simp -implicitDefEqProofs only[XP,seval]) (by simp -implicitDefEqProofs only[XP,seval]) y h
    . simp only[zqk,zqn,or_false]at h;omega⟩
 by_cases e2:0<=b.e.a
 . obtain ⟨d,hd⟩:=zki e2
   have hdn:d<n:=by have:=hb.ea e1;omega
   have hg:=C5 (l:=B.getD at_ []) (i:=d) (by omega);have hst:(bools (B.getD at_ [])).set d (.bool true)=bools ((B.getD at_ []).set d true):=by unfold bools;rw[zqm]
   rw[show endW b (B.getD at_ [])=(B.getD at_ []).set d true by unfold endW;rw[if_pos ⟨e1,e2⟩,hd];rfl]at hw1|-;have hdec:decide (0<=(d:Int))=true:=by simp
   unfold g8 at hw1|-;simp only[Cod.F,Blk.F,zqd,zqe,hd]at hw1|-;simp -implicitDefEqProofs only[h3,tb,tc,hv,e1,hdec,hdn,hg,hst,hw1,hl,zqa,R6,R7,R8,R9,S0,S1,S2,H2,H3,H4,H5,H6,H7,XP,seval];exact⟨_,rfl,fun y hy=>by
    rcases zqs.1 hy with h|h
    . exact hw2 _ _ (by simp -implicitDefEqProofs only[XP,seval]) (by simp -implicitDefEqProofs only[XP,seval]) (by simp -implicitDefEqProofs only[XP,seval]) y h
    . simp only[zqk,zqn,or_false]at h;omega⟩
 . rw [show endW b (B.getD at_ [])=B.getD at_ [] by unfold endW;rw[if_neg (fun h=>e2 h.2)]]at hw1|-
   have hdec:decide (0<=b.e.a)=false:=by simp[e2]
   unfold g8 at hw1|-;simp only[Cod.F,Blk.F,zqd,zqe]at hw1|-;simp -implicitDefEqProofs only[h3,tb,tc,hv,e1,hdec,hw1,hl,zqa,R6,R7,R8,R9,S0,S1,S2,H2,H3,H4,H5,H6,H7,XP,seval];exact⟨_,rfl,fun y hy=>by
    rcases zqs.1 hy with h|h
    . exact hw2 _ _ (by simp -implicitDefEqProofs only[XP,seval]) (by simp -implicitDefEqProofs only[XP,seval]) (by simp -implicitDefEqProofs only[XP,seval]) y h
    . simp only[zqk,zqn,or_false]at h;omega⟩
end
section
variable {c:Cod}{b:Blk}{A B:List (List Bool)}{i j at_ t n:Nat}{g:Bool}{L:List Int}{tch:List Nat}{fr:PF}
def joinB(A:List (List Bool))(at_:Nat)(B:List (List Bool))(t:Int):List (List Bool):=B.set at_ (unionD (B.getD at_ []) (A.getD t.toNat [])).1
theorem EN:∃fr',evP ⟨A0,T,A2⟩ (.code pR [(2,.ptr 1 0 0),(3,.ptr 2 0 0),(4,.ptr 3 0 0),(5,.int .i64 (at_:Int)),(6,.ptr 7 0 0),(37,.msl 8 0 L.length 1),(38,.int .i64 (L.length:Int)),(39,.int .i64 (L.length:Int))] ⟨[.row 1 [c.F] 5,.row 1 [.msl 4 0 c.blocks.length 1] 1,.row 1 [.msl 5 0 c.blocks.length 1] 1,.row 1 [.bool g] 1,.row 0 (tab A) 1,.row 0 (tab B) 1,.row 1 [fslN (c.blocks.map Blk.F)] 1,.row 1 [b.F] 5,.row 0 (ints L) 1],7,tch⟩)=some (.ok (.exit 6) fr' ⟨[.row 1 [c.F] 5,.row 1 [.msl 4 0 c.blocks.length 1] 1,.row 1 [.msl 5 0 c.blocks.length 1] 1,.row 1 [.bool g] 1,.row 0 (tab A) 1,.row 0 (tab B) 1,.row 1 [fslN (c.blocks.map Blk.F)] 1,.row 1 [b.F] 5,.row 0 (ints L) 1],7,tch⟩)/\(lookP fr' 2=.ptr 1 0 0/\lookP fr' 3=.ptr 2 0 0/\lookP fr' 4=.ptr 3 0 0/\lookP fr' 5=.int .i64 (at_:Int)/\lookP fr' 6=.ptr 7 0 0):=by
 unfold pR;have hlt:decide ((L.length:Int)<(L.length:Int))=false:=by simp
 simp -implicitDefEqProofs only[hlt,XP,seval];exact⟨_,rfl,rfl,rfl,rfl,rfl,rfl⟩
def A5(N n:Nat)(A:List (List Bool)):Prop:=A.length=N/\∀r∈A,r.length=n
theorem A5.get{N n:Nat}{A:List (List Bool)}(h:A5 N n A){i:Nat}(hi:i<N):(A.getD i []).length=n:=by
 rw[zqo,zql (by rw[h.1];exact hi)];exact h.2 _ (zqc _)
theorem A5.set{N n:Nat}{A:List (List Bool)}(h:A5 N n A){i:Nat}{r:List Bool}(hr:r.length=n):A5 N n (A.set i r):=⟨by rw[zqi];exact h.1,fun q hq=>by
 rcases List.mem_or_eq_of_mem_set hq with h2|h2
 . exact h.2 q h2
 . rw[h2];exact hr⟩
theorem A5.join{N n:Nat}{A B:List (List Bool)}(h:A5 N n B){at_:Nat}(hat:at_<N){t:Int}:A5 N n (joinB A at_ B t):=h.set ((unionD_len _ _).trans (h.get hat))
theorem uP(hN:T 22=none)(hA:A5 c.blocks.length n A)(hs:n<=bigN)(hat:at_<c.blocks.length)(hL:∀t∈L,0<=t/\t<(c.blocks.length:Int))(hsL:L.length<=2):∀(k j:Nat)(B:List (List Bool))(tch:List Nat),L.length=j+k->A5 c.blocks.length n B ->
 ∃fr' tch',evP ⟨A0,T,A2⟩ (.code (.loop pR) [(2,.ptr 1 0 0),(3,.ptr 2 0 0),(4,.ptr 3 0 0),(5,.int .i64 (at_:Int)),(6,.ptr 7 0 0),(37,.msl 8 0 L.length 1),(38,.int .i64 (L.length:Int)),(39,.int .i64 (j:Int))] ⟨[.row 1 [c.F] 5,.row 1 [.msl 4 0 c.blocks.length 1] 1,.row 1 [.msl 5 0 c.blocks.length 1] 1,.row 1 [.bool g] 1,.row 0 (tab A) 1,.row 0 (tab B) 1,.row 1 [fslN (c.blocks.map Blk.F)] 1,.row 1 [b.F] 5,.row 0 (ints L) 1],7,tch⟩)=some (.ok (.exit 6) fr' ⟨[.row 1 [c.F] 5,.row 1 [.msl 4 0 c.blocks.length 1] 1,.row 1 [.msl 5 0 c.blocks.length 1] 1,.row 1 [.bool g] 1,.row 0 (tab A) 1,.row 0 (tab ((L.drop j).foldl (joinB A at_) B)) 1,.row 1 [fslN (c.blocks.map Blk.F)] 1,.row 1 [b.F] 5,.row 0 (ints L) 1],7,tch'⟩)/\(lookP fr' 2=.ptr 1 0 0/\lookP fr' 3=.ptr 2 0 0/\lookP fr' 4=.ptr 3 0 0/\lookP fr' 5=.int .i64 (at_:Int)/\lookP fr' 6=.ptr 7 0 0)
 | 0,j,B,tch,e,hB=>by
  obtain rfl:j=L.length:=by omega
  obtain⟨fr',h,hq⟩:=EN (T:=T) (c:=c) (b:=b) (A:=A) (B:=B) (at_:=at_) (g:=g) (L:=L) (tch:=tch);exact⟨fr',tch,by rw[zqg];exact B3 h,hq⟩
 | k+1,j,B,tch,e,hB=>by
  have hj:j<L.length:=by omega
  obtain⟨h0,h1⟩:=hL _ (zqc hj);obtain⟨t,ht⟩:=zki h0;have htb:t<c.blocks.length:=by omega
  obtain⟨tch1,h⟩:=EK (T:=T) (c:=c) (b:=b) (A:=A) (B:=B) (at_:=at_) (t:=t) (n:=n) (g:=g) (L:=L) (tch:=tch) hN hj ht (by rw[hA.1];exact htb) hA.1 hB.1 (by rw[hB.1];exact hat) (hA.get htb) (hB.get hat) hs hsL;obtain⟨fr',tch',h',hq⟩:=uP hN hA hs hat hL hsL k (j+1) (joinB A at_ B L[j]) tch1 (by omega) (hB.join hat);refine⟨fr',tch',?_,hq⟩;rw[zqh hj,zqq];have e1:joinB A at_ B L[j]=B.set at_ (unionD (B.getD at_ []) (A.getD t [])).1:=by rw[ht];rfl
  rw[<-e1]at h;exact(loop_more h).trans h'
end
abbrev Jx:=List (List Bool)×List (List Bool)×Bool
def M7(b:Blk)(at_:Nat)(s:Jx):Jx:=
 (s.1.set at_ (unionD (s.1.getD at_ []) (walkD b (((tosD b.e).foldl (joinB s.1 at_) s.2.1).getD at_ []))).1,(tosD b.e).foldl (joinB s.1 at_) s.2.1,(unionD (s.1.getD at_ []) (walkD b (((tosD b.e).foldl (joinB s.1 at_) s.2.1).getD at_ []))).2||s.2.2)
theorem A5.joins{N n:Nat}{A:List (List Bool)}{at_:Nat}(hat:at_<N)(L:List Int):∀{B:List (List Bool)},A5 N n B->A5 N n (L.foldl (joinB A at_) B):=by
 induction L with
 |nil=>intro B h;exact h
 |cons t L ih=>intro B h;exact ih (h.join hat)
theorem Gc(e:Endd):(tosD e).length<=2:=by
 unfold tosD;split
 . simp
 split
 . simp
 simp
section
variable {c:Cod}{b:Blk}{A B:List (List Bool)}{i j at_ t n:Nat}{g:Bool}{tch:List Nat}{fr:PF}
def cD(c:Cod)(g:Bool)(A B:List (List Bool))(b:Blk)(at_ n:Nat)(w:List Bool)(x:List AV):List PO:=[.row 1 [c.F] 5,.row 1 [.msl 4 0 c.blocks.length 1] 1,.row 1 [.msl 5 0 c.blocks.length 1] 1,.row 1 [.bool g] 1,.row 0 ((tab A).set at_ (ownd 0 1 x)) 1,.row 0 (tab B) 1,.row 1 [fslN (c.blocks.map Blk.F)] 1,.row 1 [b.F] 5,.sub 5 at_ 0,.row 1 [b.F] 5,.row 1 [.fn (.func 24) [] []] 1,.row 0 (bools w) 1,.row 1 [.msl 11 0 n 1] 1,.row 1 [fslN (b.code.map Ins.F)] 1,.sub 4 at_ 0]
theorem yL{w:List Bool}(hb:at_<A.length):Lens (cD c g A B b at_ n w) 14 1:=by
 have hb':at_<(tab A).length:=by simp[tab,hb]
 refine⟨fun es=>?_,fun es es'=>?_,fun es=>?_⟩
 . unfold cD
   simp -implicitDefEqProofs only[Sb hb',XP,seval]
 . unfold cD
   simp -implicitDefEqProofs only[Sb hb',List.set_set,Dg,XP,seval]
 . rfl
theorem JS(hU:T 22=none)(hWk:T 23=none)(hNB:T 41=none)(hC:T 40=some D5)(hS:T 24=none)(hW:T 30=some B9)(hR:T 42=some D3)(hTo:T 21=some U8)(hb:WOk n b)(hs:n<=bigN)(hat:at_<c.blocks.length)(hA:A5 c.blocks.length n A)(hB:A5 c.blocks.length n B)(hto:∀t∈tosD b.e,0<=t/\t<(c.blocks.length:Int))(h2:lookP fr 2=.ptr 1 0 0)(h3:lookP fr 3=.ptr 2 0 0)(h4:lookP fr 4=.ptr 3 0 0):
 ∃fr1 tch',evP ⟨A0,T,A2⟩ (.round ⟨[33,34],pT,pS,fr⟩ [.int .i64 (at_:Int),b.F] ⟨[.row 1 [c.F] 5,.row 1 [.msl 4 0 c.blocks.length 1] 1,.row 1 [.msl 5 0 c.blocks.length 1] 1,.row 1 [.bool g] 1,.row 0 (tab A) 1,.row 0 (tab B) 1,.row 1 [fslN (c.blocks.map Blk.F)] 1],7,[]⟩)=some (.ok .normal fr1 ⟨[.row 1 [c.F] 5,.row 1 [.msl 4 0 c.blocks.length 1] 1,.row 1 [.msl 5 0 c.blocks.length 1] 1,.row 1 [.bool (M7 b at_ (A,B,g)).2.2] 1,.row 0 (tab (M7 b at_ (A,B,g)).1) 1,.row 0 (tab (M7 b at_ (A,B,g)).2.1) 1,.row 1 [fslN (c.blocks.map Blk.F)] 1],7,tch'⟩):=by
 rw[Sg rfl];unfold pT pS;have tt:=fun K=>qL (K:=K) (e:=b.e) hTo
 have hB1:A5 c.blocks.length n ((tosD b.e).foldl (joinB A at_) B):=hB.joins hat _;obtain⟨fr1,tch1,hl,k2,k3,k4,k5,k6⟩:=uP (T:=T) (c:=c) (b:=b) (A:=A) (at_:=at_) (n:=n) (g:=g) (L:=tosD b.e) hU hA hs hat hto (Gc _) (tosD b.e).length 0 B [] (by omega) hB;obtain⟨tch2,hw,hw2⟩:=kU (T:=T) (c:=c) (b:=b) (A:=A) (B:=(tosD b.e).foldl (joinB A at_) B) (at_:=at_) (n:=n) (g:=g) (tch:=[]) hWk hNB hC hS hW hR hb hs (by rw[hB1.1];exact hat) (hB1.get hat);have hwl:(walkD b (((tosD b.e).foldl (joinB A at_) B).getD at_ [])).length=n:=(Nx _ _).trans (hB1.get hat);obtain⟨tch3,hu⟩:=Uy (T:=T) (ext:=7) (tch:=tch2++List.filter (fun x=>decide (x<7)) tch1) (m:=walkD b (((tosD b.e).foldl (joinB A at_) B).getD at_ [])) (a:=A.getD at_ []) (j:=11) hU (yL (c:=c) (g:=g) (A:=A) (B:=(tosD b.e).foldl (joinB A at_) B) (b:=b) (at_:=at_) (n:=n) (w:=walkD b (((tosD b.e).foldl (joinB A at_) B).getD at_ [])) (by rw[hA.1];exact hat)) (fun x=>rfl) (by omega) (by rw[hwl];exact hA.get hat);have hall:tch2.all (fun i=>decide (9<=i))=true:=zkc.2 fun y hy=>by simpa using hw2 y hy
 have h5:=M6 (A:=A) (i:=at_) (by rw[hA.1];exact hat);have h6:=M6 (A:=(tosD b.e).foldl (joinB A at_) B) (i:=at_) (by rw[hB1.1];exact hat);rw[hwl]at hu;have e3:(tab A).set at_ (ownd 0 1 (bools (A.getD at_ [])))=tab A:=Gb h5;have hgA:=hA.get hat;have hgB:=hB1.get hat;unfold M7;unfold cD at hu;rw[e3,c9]at hu;unfold g8 at hw;dsimp only;rw[show((0:Nat):Int)=0 from rfl,List.drop_zero]at hl;simp only[Cod.F,Blk.F,Endd.F,zqd,zqe]at tt hl hw hu|-;cases hq:(unionD (A.getD at_ []) (walkD b (((tosD b.e).foldl (joinB A at_) B).getD at_ []))).2 with
 | true =>
  rw[hq]at hu;simp -implicitDefEqProofs only[Y2,l8,Kl,h2,h3,h4,tt,hl,k2,k3,k4,k5,k6,hw,hall,h5,h6,hat,hgA,hgB,hu,R6,R7,R8,R9,S0,S1,S2,H2,H3,H4,H5,H6,H7,zqa,XP,seval];exact⟨_,_,rfl⟩
 | false =>
  rw[hq]at hu;simp -implicitDefEqProofs only[Y2,l8,Kl,h2,h3,h4,tt,hl,k2,k3,k4,k5,k6,hw,hall,h5,h6,hat,hgA,hgB,hu,R6,R7,R8,R9,S0,S1,S2,H2,H3,H4,H5,H6,H7,zqa,XP,seval];exact⟨_,_,rfl⟩
end
def passGo(l:List Blk):Nat->Jx->Jx
 |0,s=>s
 |k+1,s=>passGo l k (match l[k]? with|some b=>M7 b k s|none=>s)
structure LOk(c:Cod):Prop where
 bs:c.blocks.length*56<=bigN
 bl:c.blocks.length<=60000
 rs:c.regs.length*8<=bigN
 b0:0<c.blocks.length
 wk:∀b∈c.blocks,WOk c.regs.length b
 to:∀b∈c.blocks,∀t∈tosD b.e,0<=t/\t<(c.blocks.length:Int)
theorem Y8{N n i:Nat}{b:Blk}{s:Jx}(hi:i<N)(hA:A5 N n s.1)(hB:A5 N n s.2.1):A5 N n (M7 b i s).1/\A5 N n (M7 b i s).2.1:=by
 refine⟨hA.set ((unionD_len _ _).trans (hA.get hi)),hB.joins hi _⟩
theorem d8{N n:Nat}{l:List Blk}:∀(k:Nat){s:Jx},k<=N->A5 N n s.1->A5 N n s.2.1->A5 N n (passGo l k s).1/\A5 N n (passGo l k s).2.1
 |0,s,_,hA,hB=>⟨hA,hB⟩
 | k+1,s,hk,hA,hB=>by
  unfold passGo;cases l[k]? with
  |none=>exact d8 k (by omega) hA hB
  | some b =>
   obtain⟨h1,h2⟩:=Y8 (b:=b) (i:=k) (by omega) hA hB;exact d8 k (by omega) h1 h2
theorem uQ(hN:T 20=none){l:List Blk}{K:PK}:evP ⟨A0,T,A2⟩ (.call 20 [fslN (l.map Blk.F)] K)=some (.val [.fn (.func 39) [] [.ptr K.os.length 0 0]] ⟨K.os++[.row 1 [fslN (l.map Blk.F)] 1],K.ext,K.tch⟩):=by
 rw[Am hN rfl,A6 (c:=NH) (nt:=4) (rs:=[.tmp 2]) rfl (by simp)];unfold NH;simp -implicitDefEqProofs only[XP,seval]
section
variable {c:Cod}{A B:List (List Bool)}{g:Bool}{fr:PF}
def s9(c:Cod)(s:Jx)(ps:List PO):List PO:=[.row 1 [c.F] 5,.row 1 [.msl 4 0 c.blocks.length 1] 1,.row 1 [.msl 5 0 c.blocks.length 1] 1,.row 1 [.bool s.2.2] 1,.row 0 (tab s.1) 1,.row 0 (tab s.2.1) 1]++ps
theorem XE(hU:T 22=none)(hWk:T 23=none)(hNB:T 41=none)(hC:T 40=some D5)(hS:T 24=none)(hW:T 30=some B9)(hR:T 42=some D3)(hTo:T 21=some U8)(hc:LOk c){s:Jx}(hA:A5 c.blocks.length c.regs.length s.1)(hB:A5 c.blocks.length c.regs.length s.2.1):
 ∃ TC:PF->List Nat->List Nat,∀(fr:PF)(tch:List Nat),lookP fr 2=.ptr 1 0 0->lookP fr 3=.ptr 2 0 0->lookP fr 4=.ptr 3 0 0->lookP fr 32=.fn (.func 39) [] [.ptr 6 0 0] ->
   evP ⟨A0,T,A2⟩ (.code (.rfn (.tmp 32) [33,34] pT pS) fr ⟨s9 c s [.row 1 [fslN (c.blocks.map Blk.F)] 1],0,tch⟩)=some (.ok .normal fr ⟨s9 c (passGo c.blocks c.blocks.length s) [.row 1 [fslN (c.blocks.map Blk.F)] 1],0,TC fr tch⟩):=by
 have key:∀x:PF×List Nat,∃y:List Nat,lookP x.1 2=.ptr 1 0 0->lookP x.1 3=.ptr 2 0 0->lookP x.1 4=.ptr 3 0 0->lookP x.1 32=.fn (.func 39) [] [.ptr 6 0 0] ->
  evP ⟨A0,T,A2⟩ (.code (.rfn (.tmp 32) [33,34] pT pS) x.1 ⟨s9 c s [.row 1 [fslN (c.blocks.map Blk.F)] 1],0,x.2⟩)=some (.ok .normal x.1 ⟨s9 c (passGo c.blocks c.blocks.length s) [.row 1 [fslN (c.blocks.map Blk.F)] 1],0,y⟩):=fun x=>by
  by_cases h:lookP x.1 2=.ptr 1 0 0/\lookP x.1 3=.ptr 2 0 0/\lookP x.1 4=.ptr 3 0 0/\lookP x.1 32=.fn (.func 39) [] [.ptr 6 0 0]
  . obtain ⟨K',h1,s',tch',rfl,h3,h4,h5⟩:=JI (T:=T) (l:=c.blocks) (f:=(c.blocks.map Blk.F).isEmpty) (fr:=x.1) (g:=.tmp 32) (ps:=[33,34]) (ca:=pT) (cb:=pS) (b:=6) (K:=⟨s9 c s [.row 1 [fslN (c.blocks.map Blk.F)] 1],0,x.2⟩)
     (Inv:=fun i K=>∃s' tch,K=⟨s9 c s' [.row 1 [fslN (c.blocks.map Blk.F)] 1],7,tch⟩/\A5 c.blocks.length c.regs.length s'.1/\A5 c.blocks.length c.regs.length s'.2.1/\passGo c.blocks i s'=passGo c.blocks c.blocks.length s) hc.bs hc.bl h.2.2.2
     (fun i K _ hI=>by obtain⟨w,tch,rfl,_⟩:=hI;rfl)
     (fun i hi K hI=>by
       obtain⟨s',tch,rfl,h3,h4,h5⟩:=hI;have hm:=zqc hi;have hrs:c.regs.length<=bigN:=by have:=hc.rs;simp only[bigN]at this|-;omega
       obtain⟨fr1,tch',h6⟩:=JS (T:=T) (c:=c) (b:=c.blocks[i]) (A:=s'.1) (B:=s'.2.1) (at_:=i) (n:=c.regs.length) (g:=s'.2.2) (fr:=x.1) hU hWk hNB hC hS hW hR hTo (hc.wk _ hm) hrs hi h3 h4 (hc.to _ hm) h.1 h.2.1 h.2.2.1;obtain⟨q1,q2⟩:=Y8 (b:=c.blocks[i]) hi h3 h4;refine⟨fr1,_,h6,M7 c.blocks[i] i s',tch'++tch,rfl,q1,q2,?_⟩;rw[passGo,zql hi]at h5;exact h5)
     ⟨s,[],rfl,hA,hB,rfl⟩
    exact⟨_,fun _ _ _ _=>by rw[h1];rw[passGo]at h5;rw[<-h5]⟩
  . exact⟨[],fun a b c d=>absurd ⟨a,b,c,d⟩ h⟩
 exact⟨fun fr tch=>(key (fr,tch)).choose,fun fr tch=>(key (fr,tch)).choose_spec⟩
theorem EO(hU:T 22=none)(hWk:T 23=none)(hNB:T 41=none)(hNBB:T 20=none)(hC:T 40=some D5)(hS:T 24=none)(hW:T 30=some B9)(hR:T 42=some D3)(hTo:T 21=some U8)(hc:LOk c)(hA:A5 c.blocks.length c.regs.length A)(hB:A5 c.blocks.length c.regs.length B):
 evP ⟨A0,T,A2⟩ (.code pU [(1,.ptr 0 0 0),(2,.ptr 1 0 0),(3,.ptr 2 0 0),(4,.ptr 3 0 0)] ⟨s9 c (A,B,true) [],0,[]⟩)=some (.ok .normal [(1,.ptr 0 0 0),(2,.ptr 1 0 0),(3,.ptr 2 0 0),(4,.ptr 3 0 0)] ⟨s9 c (passGo c.blocks c.blocks.length (A,B,false)) [],0,[]⟩):=by
 unfold pU;obtain⟨TC,hl⟩:=XE (T:=T) (c:=c) (s:=(A,B,false)) hU hWk hNB hC hS hW hR hTo hc hA hB;have tb:=fun K=>uQ (K:=K) (l:=c.blocks) hNBB
 generalize passGo c.blocks c.blocks.length (A,B,false)=s at hl|-;obtain⟨A',B',g'⟩:=s;unfold s9 at hl|-;simp only[Cod.F,zqd,zqe]at hl|-;simp -implicitDefEqProofs only[tb,hl,R6,R7,R8,R9,S0,S1,S2,H2,H3,H4,H5,H6,H7,zqa,XP,seval]
theorem EP:∃fr',evP ⟨A0,T,A2⟩ (.code pU [(1,.ptr 0 0 0),(2,.ptr 1 0 0),(3,.ptr 2 0 0),(4,.ptr 3 0 0)] ⟨s9 c (A,B,false) [],0,[]⟩)=some (.ok (.exit 2) fr' ⟨s9 c (A,B,false) [],0,[]⟩)/\lookP fr' 2=.ptr 1 0 0/\lookP fr' 3=.ptr 2 0 0:=by
 unfold pU s9;simp only[Cod.F,zqd,zqe];simp -implicitDefEqProofs only[XP,seval];exact⟨_,rfl,rfl,rfl⟩
end
def ctF(l:List Bool):Nat:=l.count false
def fl:List (List Bool)->Nat
 |[]=>0
 |r::l=>ctF r+fl l
theorem cE{l:List Bool}{i:Nat}(hi:i<l.length)(h:l.getD i false=false):ctF (l.set i true)+1=ctF l:=by
 induction l generalizing i with
 |nil=>cases hi
 | cons a l ih =>
  cases i with
  | zero =>
   have h:a=false:=h;subst h;simp[ctF]
  | succ i =>
   have:=ih (i:=i) (by simpa using hi) (by simpa using h)
   unfold ctF at this|-;rw[List.set_cons_succ,zke,zke];omega
theorem uSt_ct{m:List Bool}{i:Nat}{s:List Bool×Bool}(hi:i<s.1.length):(uSt m i s=s)\/((uSt m i s).2=true/\ctF (uSt m i s).1<ctF s.1):=by
 unfold uSt;split
 . rename_i h
   exact .inr ⟨rfl,by have:=cE hi h.2;show ctF (s.1.set i true)<_;omega⟩
 . exact .inl rfl
theorem uniGo_ct(m:List Bool):∀(n i:Nat)(s:List Bool×Bool),i+n<=s.1.length->(Ea m n i s=s)\/((Ea m n i s).2=true/\ctF (Ea m n i s).1<ctF s.1)
 |0,i,s,_=>.inl rfl
 | n + 1,i,s,h=>by
  rw[Ea];have hlen:=Sa m i s;rcases uSt_ct (m:=m) (i:=i) (s:=s) (by omega)with h1|⟨h1,h2⟩
  . rw[h1];exact uniGo_ct m n (i+1) s (by omega)
  . rcases uniGo_ct m n (i+1) (uSt m i s) (by omega)with h3|⟨h3,h4⟩
    . rw[h3];exact .inr ⟨h1,h2⟩
    . exact .inr ⟨h3,by omega⟩
theorem unionD_ct{a m:List Bool}(h:a.length=m.length):(unionD a m=(a,false))\/((unionD a m).2=true/\ctF (unionD a m).1<ctF a):=uniGo_ct m m.length 0 (a,false) (by simp;omega)
theorem EQ{A:List (List Bool)}{i:Nat}{r:List Bool}(hi:i<A.length):fl (A.set i r)+ctF (A.getD i [])=fl A+ctF r:=by
 induction A generalizing i with
 |nil=>cases hi
 | cons a A ih =>
  cases i with
  |zero=>show ctF r+fl A+ctF a=ctF a+fl A+ctF r;omega
  | succ i =>
   have:=ih (i:=i) (by simpa using hi)
   show ctF a+fl (A.set i r)+ctF (A.getD i [])=ctF a+fl A+ctF r
   omega
theorem uR{A:List (List Bool)}{i:Nat}:A.set i (A.getD i [])=A:=by
 induction A generalizing i with
 |nil=>rfl
 | cons a A ih=>cases i with
  |zero=>rfl
  |succ i=>show a::A.set i (A.getD i [])=_;rw[ih]
theorem stepL_ct{N n i:Nat}{b:Blk}{s:Jx}(hi:i<N)(hA:A5 N n s.1)(hB:A5 N n s.2.1):((M7 b i s).1=s.1/\(M7 b i s).2.2=s.2.2)\/((M7 b i s).2.2=true/\fl (M7 b i s).1<fl s.1):=by
 have hB1:A5 N n ((tosD b.e).foldl (joinB s.1 i) s.2.1):=hB.joins hi _;unfold M7;rcases unionD_ct (a:=s.1.getD i []) (m:=walkD b (((tosD b.e).foldl (joinB s.1 i) s.2.1).getD i [])) (by rw[hA.get hi,Nx,hB1.get hi])with h|⟨h1,h2⟩
 . rw[h];exact .inl ⟨uR,rfl⟩
 . refine .inr ⟨by rw[h1];rfl,?_⟩
   have:=EQ (A:=s.1) (i:=i) (r:=(unionD (s.1.getD i []) (walkD b (((tosD b.e).foldl (joinB s.1 i) s.2.1).getD i []))).1) (by rw[hA.1];exact hi)
   show fl (s.1.set i _)<_
   omega
theorem passGo_ct{N n:Nat}{l:List Blk}:∀(k:Nat){s:Jx},k<=N->A5 N n s.1->A5 N n s.2.1->((passGo l k s).1=s.1/\(passGo l k s).2.2=s.2.2)\/((passGo l k s).2.2=true/\fl (passGo l k s).1<fl s.1)
 |0,s,_,hA,hB=>.inl ⟨rfl,rfl⟩
 | k + 1,s,hk,hA,hB=>by
  unfold passGo;cases l[k]? with
  |none=>exact passGo_ct k (by omega) hA hB
  | some b =>
   obtain⟨h1,h2⟩:=Y8 (b:=b) (i:=k) (by omega) hA hB;show((passGo l k (M7 b k s)).1=s.1/\(passGo l k (M7 b k s)).2.2=s.2.2)\/_
   have h3:=passGo_ct (l:=l) k (s:=M7 b k s) (by omega) h1 h2;have h4:=stepL_ct (b:=b) (i:=k) (s:=s) (by omega) hA hB;rcases h3 with⟨a1,a2⟩|⟨a1,a2⟩
   . rcases h4 with⟨b1,b2⟩|⟨b1,b2⟩
     . exact .inl ⟨a1.trans b1,a2.trans b2⟩
     . exact .inr ⟨a2.trans b1,by show fl (passGo l k (M7 b k s)).1<_;rw[a1];exact b2⟩
   . refine .inr ⟨a1,?_⟩
     show fl (passGo l k (M7 b k s)).1<_
     rcases h4 with⟨b1,_⟩|⟨_,b2⟩
     . rw[<-b1];exact a2
     . omega
def M8(l:List Blk):Nat->List (List Bool)×List (List Bool)->Jx
 |0,s=>(s.1,s.2,false)
 |k+1,s=>if(passGo l l.length (s.1,s.2,false)).2.2=true then M8 l k ((passGo l l.length (s.1,s.2,false)).1,(passGo l l.length (s.1,s.2,false)).2.1)else passGo l l.length (s.1,s.2,false)
theorem Vd(l:List Blk):∀(k:Nat)(s:List (List Bool)×List (List Bool)),(M8 l k s).2.2=false
 |0,s=>rfl
 | k+1,s=>by
  rw[M8];split
  . exact Vd l k _
  . rename_i h;simpa using h
theorem Gd{l:List Blk}{n:Nat}:∀(k:Nat){s:List (List Bool)×List (List Bool)},A5 l.length n s.1->A5 l.length n s.2->A5 l.length n (M8 l k s).1/\A5 l.length n (M8 l k s).2.1
 |0,s,hA,hB=>⟨hA,hB⟩
 | k+1,s,hA,hB=>by
  obtain⟨h1,h2⟩:=d8 (l:=l) l.length (s:=(s.1,s.2,false)) (zkh _) hA hB;rw[M8];split
  . exact Gd k h1 h2
  . exact⟨h1,h2⟩
def noneT(N n:Nat):List (List Bool):=zqr N (noneL n)
theorem H1(N n:Nat):A5 N n (noneT N n):=⟨by simp[noneT],fun r hr=>by rw[List.eq_of_mem_replicate hr];simp[noneL]⟩
def liveD(c:Cod):Jx:=M8 c.blocks (fl (noneT c.blocks.length c.regs.length)+1) (noneT c.blocks.length c.regs.length,noneT c.blocks.length c.regs.length)
theorem U1(c:Cod):A5 c.blocks.length c.regs.length (liveD c).1/\A5 c.blocks.length c.regs.length (liveD c).2.1:=Gd _ (H1 _ _) (H1 _ _)
section
variable {c:Cod}{A B:List (List Bool)}{g:Bool}{fr:PF}
theorem uS(hU:T 22=none)(hWk:T 23=none)(hNB:T 41=none)(hNBB:T 20=none)(hC:T 40=some D5)(hS:T 24=none)(hW:T 30=some B9)(hR:T 42=some D3)(hTo:T 21=some U8)(hc:LOk c):∀(k:Nat)(A B:List (List Bool)),fl A<k->A5 c.blocks.length c.regs.length A->A5 c.blocks.length c.regs.length B ->
 ∃fr',evP ⟨A0,T,A2⟩ (.code (.loop pU) [(1,.ptr 0 0 0),(2,.ptr 1 0 0),(3,.ptr 2 0 0),(4,.ptr 3 0 0)] ⟨s9 c (A,B,true) [],0,[]⟩)=some (.ok (.exit 2) fr' ⟨s9 c (M8 c.blocks k (A,B)) [],0,[]⟩)/\lookP fr' 2=.ptr 1 0 0/\lookP fr' 3=.ptr 2 0 0
 |0,A,B,h,_,_=>by omega
 | k+1,A,B,h,hA,hB=>by
  have h1:=EO (T:=T) (c:=c) (A:=A) (B:=B) hU hWk hNB hNBB hC hS hW hR hTo hc hA hB;obtain⟨q1,q2⟩:=d8 (l:=c.blocks) c.blocks.length (s:=(A,B,false)) (zkh _) hA hB;have q3:=passGo_ct (l:=c.blocks) c.blocks.length (s:=(A,B,false)) (zkh _) hA hB;rw[M8];dsimp only;generalize hp:passGo c.blocks c.blocks.length (A,B,false)=s at h1 q1 q2 q3|-;obtain⟨A',B',g'⟩:=s;cases g' with
  | true =>
   rcases q3 with⟨_,q3⟩|⟨_,q3⟩
   . cases q3
   obtain⟨fr',h2,h3⟩:=uS hU hWk hNB hNBB hC hS hW hR hTo hc k A' B' (by have:fl A'<fl A:=q3;omega) q1 q2;exact⟨fr',(loop_more h1).trans h2,h3⟩
  | false =>
   obtain⟨fr',h2,h3⟩:=EP (T:=T) (c:=c) (A:=A') (B:=B');exact⟨fr',(loop_more h1).trans (B3 h2),h3⟩
end
theorem JT{K:PK}{n:Nat}{l:List XOp}(h1:(K.tch.all fun i=>decide (n<=i))=false)(h2:(l.all fun o=>!o.careful)=false):Cn n l K=false:=by unfold Cn;rw[h1,h2];rfl
theorem Cg:∀A:List (List Bool),noFL (tab A)=true
 |[]=>rfl
 | r::A=>by
  show(noF (ownd 0 1 (bools r))&&noFL (tab A))=true
  rw[Cg A];show(noFL (bools r)&&true)=true
  rw[noFL_bools];rfl
theorem Ve(N n:Nat):noneT (N+1) n=noneT N n++[noneL n]:=List.replicate_succ'
section
variable {c:Cod}{i:Nat}
def OX(c:Cod)(N:Nat):PK:=⟨[.row 1 [c.F] 5,.row 1 [.msl 3 0 N 1] 1,.row 1 [.msl 4 0 N 1] 1,.row 0 (tab (noneT N c.regs.length)) 1,.row 0 (tab (noneT N c.regs.length)) 1],0,[]⟩
theorem JU{K:PK}:∃fr',evP ⟨A0,T,A2⟩ (.code fI [(1,.ptr 0 0 0),(2,.ptr 1 0 0),(3,.ptr 2 0 0),(11,.int .i64 (c.blocks.length:Int)),(12,.int .i64 (c.blocks.length:Int))] K)=some (.ok (.exit 0) fr' K)/\lookP fr' 1=.ptr 0 0 0/\lookP fr' 2=.ptr 1 0 0/\lookP fr' 3=.ptr 2 0 0:=by
 unfold fI;have hlt:decide ((c.blocks.length:Int)<(c.blocks.length:Int))=false:=by simp
 simp -implicitDefEqProofs only[hlt,XP,seval];exact⟨_,rfl,rfl,rfl,rfl⟩
theorem BX(hc:LOk c):∀(k i:Nat),c.blocks.length=i+1+k->∃fr',evP ⟨A0,T,A2⟩ (.code (.loop fI) [(1,.ptr 0 0 0),(2,.ptr 1 0 0),(3,.ptr 2 0 0),(11,.int .i64 (c.blocks.length:Int)),(12,.int .i64 ((i+1:Nat):Int))] (OX c (i+1)))=some (.ok (.exit 0) fr' (OX c c.blocks.length))/\lookP fr' 1=.ptr 0 0 0/\lookP fr' 2=.ptr 1 0 0/\lookP fr' 3=.ptr 2 0 0
 | 0,i,e=>by
  obtain⟨fr',h,hq⟩:=JU (T:=T) (c:=c) (K:=OX c c.blocks.length);rw[show i+1=c.blocks.length by omega];exact⟨fr',B3 h,hq⟩
 | k+1,i,e=>by
  have h:=JQ (T:=T) (c:=c) (i:=i+1) (A:=noneT (i+1) c.regs.length) (by simp[noneT]) (by omega) hc.rs hc.bs;rw[<-Ve]at h;obtain⟨fr',h',hq⟩:=BX hc k (i+1) (by omega);exact⟨fr',(loop_more h).trans h',hq⟩
end
theorem Rg(nlive_union:T 22=none)(nlive_walk:T 23=none)(nBackI:T 41=none)(nBackB:T 20=none)(hCloneBools:T 40=some D5)(nlive_Live_1:T 24=none)(hir_Writes:T 30=some B9)(hir_Reads:T 42=some D3)(hlive_tos:T 21=some U8){c:Cod}(hk:LOk c):AM.Comes ⟨A0,T,A2⟩ 7 [c.F] [ownd 0 1 (tab (liveD c).1),ownd 0 1 (tab (liveD c).2.1)]:=by
 obtain⟨N,hN⟩:∃N,c.blocks.length=N+1:=⟨c.blocks.length-1,by have:=hk.b0;omega⟩
 have h0:=JP (T:=T) (c:=c) (by omega) hk.rs;obtain⟨fr1,h1,k1,k2,k3⟩:=BX (T:=T) hk N 0 (by omega);have hL:=(loop_more h0).trans h1;obtain⟨fr2,h2,k4,k5⟩:=uS (T:=T) nlive_union nlive_walk nBackI nBackB hCloneBools nlive_Live_1 hir_Writes hir_Reads hlive_tos hk (fl (noneT c.blocks.length c.regs.length)+1) (noneT c.blocks.length c.regs.length) (noneT c.blocks.length c.regs.length) (by omega) (H1 _ _) (H1 _ _);have hg:=Vd c.blocks (fl (noneT c.blocks.length c.regs.length)+1) (noneT c.blocks.length c.regs.length,noneT c.blocks.length c.regs.length);obtain⟨s1,s2⟩:=U1 c
 change evP _ _=some (.ok (.exit 2) fr2 ⟨s9 c (liveD c) [],0,[]⟩)at h2
 change (liveD c).2.2=false at hg
 generalize liveD c=s at h2 hg s1 s2|-;obtain⟨A,B,g⟩:=s;dsimp only at hg h2 s1 s2|-;subst hg;refine⟨[.msl 2 0 c.blocks.length 1,.msl 3 0 c.blocks.length 1],⟨[.row 1 [.msl 2 0 c.blocks.length 1] 1,.row 1 [.msl 3 0 c.blocks.length 1] 1,.row 0 (tab A) 1,.row 0 (tab B) 1],0,[]⟩,?_,?_⟩
 . rw[A6 (c:=p7) (nt:=67) (rs:=[.cell 2 33,.cell 3 33]) rfl (by simp)]
   unfold p7 K0;unfold OX at hL;unfold s9 at h2;simp only[Cod.F,zqd,zqe]at hL h2|-;simp -implicitDefEqProofs only[hL,k1,k2,k3,h2,k4,k5,JT,List.contains_cons,List.contains_nil,Nat.reduceBEq,R6,R7,R8,R9,S0,S1,S2,H2,H3,H4,H5,H6,H7,zqa,XP,seval]
 . exact C1 (vs':=[.msl 2 0 c.blocks.length 1,.msl 3 0 c.blocks.length 1]) (os':=[.row 1 [.msl 2 0 c.blocks.length 1] 1,.row 1 [.msl 3 0 c.blocks.length 1] 1,.row 0 (tab A) 1,.row 0 (tab B) 1]) (by simp -implicitDefEqProofs only[XP,seval]) (by simp -implicitDefEqProofs only[XP,seval]) (us:=[.msl 0 0 c.blocks.length 1,.msl 1 0 c.blocks.length 1]) (ps:=[.row 0 (tab A) 1,.row 0 (tab B) 1]) (by simp -implicitDefEqProofs only[zqa,s1.1,s2.1,XP,seval]) (by simp -implicitDefEqProofs only[XP,seval]) (by simp -implicitDefEqProofs only[XP,seval])
def N2:=g0 (fun p:(Cod)=>[p.F]) (fun p=>[ownd 0 1 (tab (liveD p).1),ownd 0 1 (tab (liveD p).2.1)]) (fun p=>LOk p)
theorem kV(hlive_Live:T 7=some N2){c:Cod}{K:PK}(hk:LOk c):evP ⟨A0,T,A2⟩ (.call 7 [c.F] K)=some (.val (openTs K.os.length [ownd 0 1 (tab (liveD c).1),ownd 0 1 (tab (liveD c).2.1)]).1 ⟨K.os++(openTs K.os.length [ownd 0 1 (tab (liveD c).1),ownd 0 1 (tab (liveD c).2.1)]).2,K.ext,K.tch⟩):=B8 hlive_Live (by simp -implicitDefEqProofs only[VV,XP,seval]) (C2 (a:=fun p:(Cod)=>[p.F]) (r:=fun p=>[ownd 0 1 (tab (liveD p).1),ownd 0 1 (tab (liveD p).2.1)]) (fun x y e=>by simp only[VJ]at e;simp only[e]) (c) hk) (by simp -implicitDefEqProofs only[VN,Cg,XP,seval])
theorem Mb(hlive_Live:T 7=some N2){c:Cod}{K:PK}{args:List AV}(hv:viewAs K.os args=some [c.F])(hk:LOk c):evP ⟨A0,T,A2⟩ (.call 7 args K)=some (.val (openTs K.os.length [ownd 0 1 (tab (liveD c).1),ownd 0 1 (tab (liveD c).2.1)]).1 ⟨K.os++(openTs K.os.length [ownd 0 1 (tab (liveD c).1),ownd 0 1 (tab (liveD c).2.1)]).2,K.ext,K.tch⟩):=B8 hlive_Live hv (C2 (a:=fun p:(Cod)=>[p.F]) (r:=fun p=>[ownd 0 1 (tab (liveD p).1),ownd 0 1 (tab (liveD p).2.1)]) (fun x y e=>by simp only[VJ]at e;simp only[e]) (c) hk) (by generalize (refsL args).isEmpty=z;simp -implicitDefEqProofs only[VN,Cg,XP,seval])
theorem cF(nlive_union:T 22=none)(nlive_walk:T 23=none)(nBackI:T 41=none)(nBackB:T 20=none)(hCloneBools:T 40=some D5)(nlive_Live_1:T 24=none)(hir_Writes:T 30=some B9)(hir_Reads:T 42=some D3)(hlive_tos:T 21=some U8)(hP:PEok ⟨A0,T,A2⟩):TC A0 7 N2:=C8 hP fun p h=>Rg nlive_union nlive_walk nBackI nBackB hCloneBools nlive_Live_1 hir_Writes hir_Reads hlive_tos h
section
variable {c:Cod}{i:Nat}
theorem JV(hi:0<c.regs.length)(hr:c.regs.length*24<=bigN):evP ⟨A0,T,A2⟩ (.code bJ [(1,.ptr 0 0 0),(3,.ptr 1 0 0),(14,.int .i64 (c.regs.length:Int)),(15,.int .i64 0)] ⟨[.row 1 [c.F] 5,.row 1 [.nilsl] 1],0,[]⟩)=some (.ok .normal [(1,.ptr 0 0 0),(3,.ptr 1 0 0),(14,.int .i64 (c.regs.length:Int)),(15,.int .i64 1)] ⟨[.row 1 [c.F] 5,.row 1 [.msl 2 0 1 1] 1,.row 0 (tab [noneL c.regs.length]) 1],0,[]⟩):=by
 unfold bJ;have hlt:decide ((0:Int)<(c.regs.length:Int))=true:=by simp;omega
 have hw:IntKind.i64.wrap (0+1)=1:=by decide
 have hm:c.regs.length*1<=140737488355328:=by simp only[bigN]at hr;omega
 unfold Cod.F;simp -implicitDefEqProofs only[hlt,hw,zqa,hm,X1,cC,Bj,Bk,Ga,zqj,XP,seval];rfl
theorem JW{A:List (List Bool)}(hA:A.length=i)(hi:i<c.regs.length)(hr:c.regs.length*24<=bigN):evP ⟨A0,T,A2⟩ (.code bJ [(1,.ptr 0 0 0),(3,.ptr 1 0 0),(14,.int .i64 (c.regs.length:Int)),(15,.int .i64 ((i:Nat):Int))] ⟨[.row 1 [c.F] 5,.row 1 [.msl 2 0 i 1] 1,.row 0 (tab A) 1],0,[]⟩)=some (.ok .normal [(1,.ptr 0 0 0),(3,.ptr 1 0 0),(14,.int .i64 (c.regs.length:Int)),(15,.int .i64 ((i+1:Nat):Int))] ⟨[.row 1 [c.F] 5,.row 1 [.msl 2 0 (i+1) 1] 1,.row 0 (tab (A++[noneL c.regs.length])) 1],0,[]⟩):=by
 unfold bJ;have hlt:decide ((i:Int)<(c.regs.length:Int))=true:=by simp;omega
 have hw:=A8 (i:=i) (by simp only[bigN]at hr;omega);have hm:c.regs.length*1<=140737488355328:=by simp only[bigN]at hr;omega
 have hz:(i+1)*24<=140737488355328:=by simp only[bigN]at hr;omega
 have ht:(tab A).take i=tab A:=zqx (by simp[hA]);unfold Cod.F;simp -implicitDefEqProofs only[hlt,hw,zqa,hm,X1,cC,Bj,Bk,Ga,zqj,hA,ht,hz,XP,seval];simp
def ER(c:Cod)(N:Nat):PK:=⟨match N with|0=>[.row 1 [c.F] 5,.row 1 [.nilsl] 1]|N+1=>[.row 1 [c.F] 5,.row 1 [.msl 2 0 (N+1) 1] 1,.row 0 (tab (noneT (N+1) c.regs.length)) 1],0,[]⟩
theorem JX{K:PK}:∃fr',evP ⟨A0,T,A2⟩ (.code bJ [(1,.ptr 0 0 0),(3,.ptr 1 0 0),(14,.int .i64 (c.regs.length:Int)),(15,.int .i64 (c.regs.length:Int))] K)=some (.ok (.exit 0) fr' K)/\lookP fr' 1=.ptr 0 0 0/\lookP fr' 3=.ptr 1 0 0:=by
 unfold bJ;have hlt:decide ((c.regs.length:Int)<(c.regs.length:Int))=false:=by simp
 simp -implicitDefEqProofs only[hlt,XP,seval];exact⟨_,rfl,rfl,rfl⟩
theorem BY(hr:c.regs.length*24<=bigN):∀(k i:Nat),c.regs.length=i+k->∃fr',evP ⟨A0,T,A2⟩ (.code (.loop bJ) [(1,.ptr 0 0 0),(3,.ptr 1 0 0),(14,.int .i64 (c.regs.length:Int)),(15,.int .i64 ((i:Nat):Int))] (ER c i))=some (.ok (.exit 0) fr' (ER c c.regs.length))/\lookP fr' 1=.ptr 0 0 0/\lookP fr' 3=.ptr 1 0 0
 | 0,i,e=>by
  obtain⟨fr',h,hq⟩:=JX (T:=T) (c:=c) (K:=ER c c.regs.length);rw[show i=c.regs.length by omega];exact⟨fr',B3 h,hq⟩
 | k+1,i,e=>by
  obtain⟨fr',h',hq⟩:=BY hr k (i+1) (by omega);cases i with
  | zero =>
   have h:=JV (T:=T) (c:=c) (by omega) hr;exact⟨fr',(loop_more h).trans h',hq⟩
  | succ i =>
   have h:=JW (T:=T) (c:=c) (i:=i+1) (A:=noneT (i+1) c.regs.length) (by simp[noneT]) (by omega) hr;rw[<-Ve]at h;exact⟨fr',(loop_more h).trans h',hq⟩
end
def pairD(a b:Nat)(O:List (List Bool)):List (List Bool):=if a=b then O else(O.set a ((O.getD a []).set b true)).set b (((O.set a ((O.getD a []).set b true)).getD b []).set a true)
def Q5(c:Cod)(A:List (List Bool))(r:Nat):Bool:=decide ((r:Int)<c.ps)||(A.getD 0 []).getD r false
theorem A5.pair{n:Nat}{O:List (List Bool)}(h:A5 n n O){a b:Nat}(ha:a<n)(hb:b<n):A5 n n (pairD a b O):=by
 unfold pairD;split
 . exact h
 . have h1:A5 n n (O.set a ((O.getD a []).set b true)):=h.set (by rw[zqi];exact h.get ha)
   exact h1.set (by rw[zqi];exact h1.get hb)
section
variable {c:Cod}{A B O:List (List Bool)}{a b n:Nat}{tch:List Nat}
theorem Q6{l:List Bool}{i:Nat}{v:Bool}:(bools l).set i (.bool v)=bools (l.set i v):=by unfold bools;rw[zqm]
theorem Ch{l:List Bool}:(bools l).length=l.length:=zqa _
theorem Hf{te:TI}{k:IntKind}{id n sz:Nat}(h:0<n)(hs:sz=te.size):Qp te (.msl id 0 n sz) (.int k 0)=some (.ptr id 0 0):=ix_msl (i:=0) (off:=0) h hs
theorem JY(hP:T 27=none)(hF:T 28=none)(hb:b<a)(ha:a<c.regs.length)(hr:c.regs.length*24<=bigN)(h0:0<c.blocks.length)(hA:A5 c.blocks.length c.regs.length A)(hO:A5 c.regs.length c.regs.length O):
 evP ⟨A0,T,A2⟩ (.code pV [(1,.ptr 0 0 0),(3,.ptr 1 0 0),(4,.ptr 2 0 0),(6,.msl 3 0 c.blocks.length 1),(7,.fn (.func 28) [] [.ptr 0 0 0,.ptr 4 0 0]),(8,.int .i64 (a:Int)),(34,.int .i64 (c.regs.length:Int)),(35,.int .i64 (a:Int)),(38,.int .i64 (a:Int)),(39,.int .i64 (b:Int))] ⟨[.row 1 [c.F] 5,.row 1 [.msl 5 0 c.regs.length 1] 1,.row 1 [.fn (.func 27) [] [.ptr 1 0 0]] 1,.row 0 (tab B) 1,.row 1 [.msl 6 0 c.blocks.length 1] 1,.row 0 (tab O) 1,.row 0 (tab A) 1],0,[]⟩)=some (.ok .normal [(1,.ptr 0 0 0),(3,.ptr 1 0 0),(4,.ptr 2 0 0),(6,.msl 3 0 c.blocks.length 1),(7,.fn (.func 28) [] [.ptr 0 0 0,.ptr 4 0 0]),(8,.int .i64 (a:Int)),(34,.int .i64 (c.regs.length:Int)),(35,.int .i64 (a:Int)),(38,.int .i64 (a:Int)),(39,.int .i64 ((b+1:Nat):Int))] ⟨[.row 1 [c.F] 5,.row 1 [.msl 5 0 c.regs.length 1] 1,.row 1 [.fn (.func 27) [] [.ptr 1 0 0]] 1,.row 0 (tab B) 1,.row 1 [.msl 6 0 c.blocks.length 1] 1,.row 0 (tab (if Q5 c A a&&Q5 c A b then pairD a b O else O)) 1,.row 0 (tab A) 1],0,[]⟩):=by
 unfold pV;have hlt:decide ((b:Int)<(a:Int))=true:=by simp;omega
 have hws:=A8 (i:=b) (by simp only[bigN]at hr;omega);have f1:=fun(args:List AV)(K:PK)(h:args.length<=17)=>(Am (E:=A0) (F:=A2) (f:=28) (args:=args) (K:=K) hF rfl).trans (congrArg _ (A6 (E:=A0) (T:=T) (F:=A2) (args:=args) (c:=AZ) (nt:=17) (rs:=[.tmp 4]) rfl h))
 have f2:=fun(args:List AV)(K:PK)(h:args.length<=20)=>(Am (E:=A0) (F:=A2) (f:=27) (args:=args) (K:=K) hP rfl).trans (congrArg _ (A6 (E:=A0) (T:=T) (F:=A2) (args:=args) (c:=pX) (nt:=20) (rs:=[]) rfl h))
 have hA0:=M6 (A:=A) (i:=0) (by rw[hA.1];exact h0);have hAl:=hA.get h0;have gA:=C5 (l:=A.getD 0 []) (i:=a) (by omega);have gB:=C5 (l:=A.getD 0 []) (i:=b) (by omega);have hbn:b<c.regs.length:=by omega
 have hab:a≠b:=by omega
 have hne:decide ((a:Int)=(b:Int))=false:=by simp;omega
 have hOa:=M6 (A:=O) (i:=a) (by rw[hO.1];exact ha);have hOb:=M6 (A:=O) (i:=b) (by rw[hO.1];exact hbn);have hla:=hO.get ha;have hlb:=hO.get hbn;have hra:=C5 (l:=O.getD a []) (i:=b) (by omega);have hrb:=C5 (l:=O.getD b []) (i:=a) (by omega);have hg2:(O.set a ((O.getD a []).set b true)).getD b []=O.getD b []:=by
  rw[zqo,zqt hab,zqo]
 have hn:(tab (O.set a ((O.getD a []).set b true)))[b]?=some (ownd 0 1 (bools (O.getD b []))):=by
  rw[<-c9,zqt hab];exact hOb
 have epair:pairD a b O=(O.set a ((O.getD a []).set b true)).set b ((O.getD b []).set a true):=by
  unfold pairD;rw[if_neg hab,hg2]
 unfold Q5;by_cases pa:(a:Int)<c.ps
 . have qa:=decide_eq_true pa
   have pb:(b:Int)<c.ps:=by omega
   have qb:=decide_eq_true pb;rw[qa,qb,if_pos (by rfl),epair];simp only[Cod.F];simp -implicitDefEqProofs only[hlt,hws,f1,f2,AZ,pX,qa,qb,hne,hOa,hOb,hn,hra,hrb,hla,hlb,Q6,c9,Dg,Hf,hA0,hAl,gA,gB,ha,hbn,h0,zqa,Ch,zqi,zqj,R6,R7,R8,R9,S0,S1,S2,H2,H3,H4,H5,H6,H7,XP,seval]
 . have qa:=decide_eq_false pa
   rw[qa];cases va:(A.getD 0 []).getD a false with
   | false =>
    rw[va]at gA;rw[if_neg (by simp)];simp only[Cod.F];simp -implicitDefEqProofs only[hlt,hws,f1,f2,AZ,pX,qa,hne,hOa,hOb,hn,hra,hrb,hla,hlb,Q6,c9,Dg,Hf,hA0,hAl,gA,gB,ha,hbn,h0,zqa,Ch,zqi,zqj,R6,R7,R8,R9,S0,S1,S2,H2,H3,H4,H5,H6,H7,XP,seval]
   | true =>
    rw[va]at gA;by_cases pb:(b:Int)<c.ps
    . have qb:=decide_eq_true pb
      rw[qb,if_pos (by rfl),epair];simp only[Cod.F];simp -implicitDefEqProofs only[hlt,hws,f1,f2,AZ,pX,qa,qb,hne,hOa,hOb,hn,hra,hrb,hla,hlb,Q6,c9,Dg,Hf,hA0,hAl,gA,gB,ha,hbn,h0,zqa,Ch,zqi,zqj,R6,R7,R8,R9,S0,S1,S2,H2,H3,H4,H5,H6,H7,XP,seval]
    . have qb:=decide_eq_false pb
      rw[qb];cases vb:(A.getD 0 []).getD b false with
      | false =>
       rw[vb]at gB;rw[if_neg (by simp)];simp only[Cod.F];simp -implicitDefEqProofs only[hlt,hws,f1,f2,AZ,pX,qa,qb,hne,hOa,hOb,hn,hra,hrb,hla,hlb,Q6,c9,Dg,Hf,hA0,hAl,gA,gB,ha,hbn,h0,zqa,Ch,zqi,zqj,R6,R7,R8,R9,S0,S1,S2,H2,H3,H4,H5,H6,H7,XP,seval]
      | true =>
       rw[vb]at gB;rw[if_pos (by rfl),epair];simp only[Cod.F];simp -implicitDefEqProofs only[hlt,hws,f1,f2,AZ,pX,qa,qb,hne,hOa,hOb,hn,hra,hrb,hla,hlb,Q6,c9,Dg,Hf,hA0,hAl,gA,gB,ha,hbn,h0,zqa,Ch,zqi,zqj,R6,R7,R8,R9,S0,S1,S2,H2,H3,H4,H5,H6,H7,XP,seval]
end
def Yz(x:Ins)(w:List Bool)(r:Nat):Bool:=w.getD r false&&decide (0<=writesD x) && !(decide (x.op=2)&&decide (x.a=(r:Int)))
def Mc(x:Ins)(w:List Bool)(r:Nat)(O:List (List Bool)):List (List Bool):=if Yz x w r=true then pairD (writesD x).toNat r O else O
def Vf(x:Ins)(w:List Bool):Nat->Nat->List (List Bool)->List (List Bool)
 |0,_,O=>O
 |k+1,r,O=>Vf x w k (r+1) (Mc x w r O)
def Md(x:Ins)(w:List Bool)(O:List (List Bool)):List (List Bool):=Vf x w w.length 0 O
theorem A5.see{n:Nat}{x:Ins}{w:List Bool}{r:Nat}{O:List (List Bool)}(h:A5 n n O)(hw:writesD x<n)(hr:r<n):A5 n n (Mc x w r O):=by
 unfold Mc;split
 . rename_i hs
   have h0:0<=writesD x:=by
    unfold Yz at hs;simp at hs;exact hs.1.2
   exact h.pair (by omega) hr
 . exact h
theorem A5.sees{n:Nat}{x:Ins}{w:List Bool}(hw:writesD x<n):∀(k r:Nat){O:List (List Bool)},r+k<=n->A5 n n O->A5 n n (Vf x w k r O)
 |0,r,O,_,h=>h
 |k+1,r,O,e,h=>A5.sees hw k (r+1) (by omega) (h.see hw (by omega))
section
variable {b:Blk}{B O:List (List Bool)}{at_ n r:Nat}{w:List Bool}{x:Ins}{tch:List Nat}{fr:PF}
def N3(B O:List (List Bool))(b:Blk)(at_ n:Nat)(ps:List PO)(w:List AV):List PO:=[.row 1 [.msl 3 0 n 1] 1,.row 1 [.fn (.func 27) [] [.ptr 0 0 0]] 1,.row 0 (tab B) 1,.row 0 (tab O) 1,.row 1 [b.F] 5,.sub 2 at_ 0,.row 1 [b.F] 5,.row 1 [.fn (.func 29) [] [.ptr 1 0 0]] 1,.row 0 w 1,.row 1 [.msl 8 0 n 1] 1,.row 1 [fslN (b.code.map Ins.F)] 1]++ps
theorem ES{ps:List PO}:Lens (N3 B O b at_ n ps) 8 1:=⟨fun es=>rfl,fun es es'=>rfl,fun es=>rfl⟩
theorem JZ(h:w.length=n):∃fr',evP ⟨A0,T,A2⟩ (.code Lo [(2,.ptr 1 0 0),(3,.ptr 12 0 0),(5,.int .i64 (writesD x)),(10,.msl 8 0 n 1),(11,.int .i64 (n:Int)),(12,.int .i64 (n:Int))] ⟨N3 B O b at_ n [.row 1 [x.F] 8,.row 1 [x.F] 8] (bools w),12,tch⟩)=some (.ok (.exit 0) fr' ⟨N3 B O b at_ n [.row 1 [x.F] 8,.row 1 [x.F] 8] (bools w),12,tch⟩):=by
 unfold Lo;have hlt:decide ((n:Int)<(n:Int))=false:=by simp
 simp -implicitDefEqProofs only[hlt,XP,seval];exact⟨_,rfl⟩
theorem KA(hP:T 27=none)(hw:w.length=n)(hr:r<n)(hs:n<=bigN)(hwr:writesD x<n)(hO:A5 n n O):
 ∃tch',evP ⟨A0,T,A2⟩ (.code Lo [(2,.ptr 1 0 0),(3,.ptr 12 0 0),(5,.int .i64 (writesD x)),(10,.msl 8 0 n 1),(11,.int .i64 (n:Int)),(12,.int .i64 (r:Int))] ⟨N3 B O b at_ n [.row 1 [x.F] 8,.row 1 [x.F] 8] (bools w),12,tch⟩)=some (.ok .normal [(2,.ptr 1 0 0),(3,.ptr 12 0 0),(5,.int .i64 (writesD x)),(10,.msl 8 0 n 1),(11,.int .i64 (n:Int)),(12,.int .i64 ((r+1:Nat):Int))] ⟨N3 B (Mc x w r O) b at_ n [.row 1 [x.F] 8,.row 1 [x.F] 8] (bools w),12,tch'⟩):=by
 unfold Lo;have hlt:decide ((r:Int)<(n:Int))=true:=by simp[hr]
 have hws:=A8 (i:=r) (by simp only[bigN]at hs;omega);have hrw:=C5 (l:=w) (i:=r) (by omega);have f2:=fun(args:List AV)(K:PK)(h:args.length<=20)=>(Am (E:=A0) (F:=A2) (f:=27) (args:=args) (K:=K) hP rfl).trans (congrArg _ (A6 (E:=A0) (T:=T) (F:=A2) (args:=args) (c:=pX) (nt:=20) (rs:=[]) rfl h))
 unfold Mc Yz;unfold N3;cases hv:w.getD r false with
 | false =>
  rw[hv]at hrw;rw[if_neg (by simp)];simp only[Blk.F,Ins.F,zqd,zqe];simp -implicitDefEqProofs only[hlt,hws,hrw,hr,zqa,R6,R7,R8,R9,S0,S1,S2,H2,H3,H4,H5,H6,H7,XP,seval];exact⟨_,rfl⟩
 | true =>
  rw[hv]at hrw;by_cases h0:0<=writesD x
  . obtain ⟨d,hd⟩:=zki h0
    have hdn:d<n:=by omega
    have hdec:decide (0<=(d:Int))=true:=by simp
    simp only[hd,Int.toNat_natCast];by_cases hg:x.op=2/\x.a=(r:Int)
    . rw[if_neg (by simp[hg.1,hg.2])]
      have e1:=hg.1;have e2:=hg.2;simp only[Blk.F,Ins.F,zqd,zqe];simp -implicitDefEqProofs only[hlt,hws,hrw,hr,hdec,e1,e2,zqa,R6,R7,R8,R9,S0,S1,S2,H2,H3,H4,H5,H6,H7,XP,seval];exact⟨_,rfl⟩
    . have hgo:(true&&decide (0<=(d:Int)) && !(decide (x.op=2)&&decide (x.a=(r:Int))))=true:=by
       by_cases q1:x.op=2
       . have q2:¬x.a=(r:Int):=fun h=>hg ⟨q1,h⟩
         simp[q1,q2]
       . simp[q1]
      rw[hgo,if_pos (by rfl)];by_cases hdr:d=r
      . have hne:decide ((d:Int)=(r:Int))=true:=by simp[hdr]
        rw[show pairD d r O=O by unfold pairD;rw[if_pos hdr]];simp only[Blk.F,Ins.F,zqd,zqe];by_cases q1:x.op=2
        . have q2:¬x.a=(r:Int):=fun h=>hg ⟨q1,h⟩
          simp -implicitDefEqProofs only[hlt,hws,hrw,hr,hdec,f2,pX,hne,q1,eq_false q2,zqa,R6,R7,R8,R9,S0,S1,S2,H2,H3,H4,H5,H6,H7,XP,seval];exact⟨_,rfl⟩
        . simp -implicitDefEqProofs only[hlt,hws,hrw,hr,hdec,f2,pX,hne,eq_false q1,zqa,R6,R7,R8,R9,S0,S1,S2,H2,H3,H4,H5,H6,H7,XP,seval]
          exact⟨_,rfl⟩
      . have hne:decide ((d:Int)=(r:Int))=false:=by simp;omega
        have hOa:=M6 (A:=O) (i:=d) (by rw[hO.1];exact hdn);have hOb:=M6 (A:=O) (i:=r) (by rw[hO.1];exact hr);have hla:=hO.get hdn;have hlb:=hO.get hr;have hra:=C5 (l:=O.getD d []) (i:=r) (by omega);have hrb:=C5 (l:=O.getD r []) (i:=d) (by omega);have hg2:(O.set d ((O.getD d []).set r true)).getD r []=O.getD r []:=by
         rw[zqo,zqt hdr,zqo]
        have hn:(tab (O.set d ((O.getD d []).set r true)))[r]?=some (ownd 0 1 (bools (O.getD r []))):=by
         rw[<-c9,zqt hdr];exact hOb
        rw[show pairD d r O=(O.set d ((O.getD d []).set r true)).set r ((O.getD r []).set d true) by unfold pairD;rw[if_neg hdr,hg2]];simp only[Blk.F,Ins.F,zqd,zqe];by_cases q1:x.op=2
        . have q2:¬x.a=(r:Int):=fun h=>hg ⟨q1,h⟩
          simp -implicitDefEqProofs only[hlt,hws,hrw,hr,hdn,hdec,f2,pX,hne,q1,eq_false q2,hOa,hOb,hn,hra,hrb,hla,hlb,Q6,c9,Dg,zqi,zqa,R6,R7,R8,R9,S0,S1,S2,H2,H3,H4,H5,H6,H7,XP,seval];exact⟨_,rfl⟩
        . simp -implicitDefEqProofs only[hlt,hws,hrw,hr,hdn,hdec,f2,pX,hne,eq_false q1,hOa,hOb,hn,hra,hrb,hla,hlb,Q6,c9,Dg,zqi,zqa,R6,R7,R8,R9,S0,S1,S2,H2,H3,H4,H5,H6,H7,XP,seval]
          exact⟨_,rfl⟩
  . have hdec:decide (0<=writesD x)=false:=by simp[h0]
    rw[if_neg (by simp[h0])];simp only[Blk.F,Ins.F,zqd,zqe];simp -implicitDefEqProofs only[hlt,hws,hrw,hr,hdec,zqa,R6,R7,R8,R9,S0,S1,S2,H2,H3,H4,H5,H6,H7,XP,seval];exact⟨_,rfl⟩
def Y9(B O:List (List Bool))(b:Blk)(at_ n:Nat)(ps:List PO)(w:List AV):List PO:=[.row 1 [.nilsl] 1,.row 1 [.fn (.func 27) [] [.ptr 0 0 0]] 1,.row 0 (tab B) 1,.row 1 [b.F] 5,.sub 2 at_ 0,.row 1 [b.F] 5,.row 1 [.fn (.func 29) [] [.ptr 1 0 0]] 1,.row 0 w 1,.row 1 [.msl 7 0 n 1] 1,.row 1 [fslN (b.code.map Ins.F)] 1]++ps
theorem ET{ps:List PO}:Lens (Y9 B O b at_ n ps) 7 1:=⟨fun es=>rfl,fun es es'=>rfl,fun es=>rfl⟩
end
end Go.Proofs.AmEnv
