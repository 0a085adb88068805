/- What this program's functions do, at any data. Conditions: none. -/
import Derived.Test.YthoghikipmifeaaEnv
set_option linter.unusedVariables false
set_option linter.unusedSimpArgs false
set_option linter.unusedSectionVars false
set_option linter.defProp false
set_option maxRecDepth 100000
set_option maxHeartbeats 4000000
open List renaming length_map→zqa,nodup_nil→zqb,getElem_mem→zqc,getElem?_eq_getElem→zqd,drop_length→zqe,drop_eq_getElem_cons→zqf,mem_singleton→zqg,cons_append→zqh,nil_append→zqi,append_nil→zqj,getElem?_map→zqk,take_zero→zql,mem_cons→zqm,findIdx?_eq_some_iff_getElem→zqn,length_zip→zqo,getD_eq_getElem?_getD→zqp,take_succ_eq_append_getElem→zqq,map_append→zqr,findIdx?_eq_none_iff→zqs,take_of_length_le→zqt,length_set→zqu,contains_cons→zqv,contains_nil→zqw,headD_cons→zqx,length_append→zqy
open Int renaming toNat_natCast→zqz
open Bool renaming false_and→zka,false_eq_true→zkb,and_eq_true→zkc,or_true→zkd,eq_false_iff→zke
open Nat renaming ble_eq_true_of_le→zkf
noncomputable section
namespace Go.Proofs.AmEnv
open Go Go.AM
variable {T:Nat->Option (List AV->Option (List AV))}
abbrev ints(l:List Int):List AV:=l.map (AV.int .i64)
theorem aM(l:List Int):Ay (ints l)=true:=by
 induction l with
 |nil=>rfl
 |cons x l ih=>exact ih
theorem A9{l:List Int}{i:Nat}(h:i<l.length):(ints l)[i]?=some (.int .i64 l[i]):=by
 unfold ints;rw[zqk,zqd h];rfl
theorem Li{l:List Int}{i:Nat}(h:i<l.length):ints (l.take i)++[.int .i64 l[i]]=ints (l.take (i+1)):=by
 unfold ints;rw[zqq h,zqr];rfl
section
variable {l:List Int}{f:Bool}{i:Nat}{x:Int}{es:List AV}
theorem YV(hl:0<l.length):
 evP ⟨A0,T,A1⟩ (.code Ja [(0,.fsl (ints l) f),(3,.nilsl),(4,.int .i64 0)] ⟨[],0,[]⟩)=some (.ok .normal [(0,.fsl (ints l) f),(3,.msl 0 0 1 1),(4,.int .i64 ((1:Nat):Int))] ⟨[.row 0 (ints (l.take 1)) 1],0,[]⟩):=by
 unfold Ja;have hlt:decide ((0:Int)<((ints l).length:Int))=true:=by simp[hl]
 have hi:=A9 hl;have hw:=B3 (i:=0) (by omega);have hx:Kq ty3 (.fsl (ints l) f) (.int .i64 0)=some (.fptr (.int .i64 l[0]) 0):=ix_fsl (i:=0) hi rfl;have ht:=Li hl;rw[zql]at ht;have ht:[AV.int .i64 l[0]]=ints (l.take 1):=ht;simp -implicitDefEqProofs only[hlt,hx,<-ht,show IntKind.i64.wrap (0+1)=((1:Nat):Int)from rfl,XP,Nat.reduceAdd,Nat.reduceSub,Nat.reduceLT,Nat.reduceLeDiff,Nat.reduceEqDiff,Nat.reduceMul,↓reduceIte]
theorem YW(hl:i<l.length)(hs:l.length*8<=140737488355328):
 evP ⟨A0,T,A1⟩ (.code Ja [(0,.fsl (ints l) f),(3,.msl 0 0 i 1),(4,.int .i64 i)] ⟨[.row 0 (ints (l.take i)) 1],0,[]⟩)=some (.ok .normal [(0,.fsl (ints l) f),(3,.msl 0 0 (i+1) 1),(4,.int .i64 ((i+1:Nat):Int))] ⟨[.row 0 (ints (l.take (i+1))) 1],0,[]⟩):=by
 unfold Ja;have hlt:decide ((i:Int)<((ints l).length:Int))=true:=by simp[hl]
 have hi:=A9 hl;have hm:(ints (l.take i)).length=i:=by simp;omega
 have hw:=B3 (i:=i) (by omega);have hz:(i+1)*8<=140737488355328:=by omega
 simp -implicitDefEqProofs only[hlt,hi,hm,hw,hz,Li hl,XP,seval]
theorem HN{y:AV}{K:PK}:∃fr',evP ⟨A0,T,A1⟩ (.code Ja [(0,.fsl (ints l) f),(3,y),(4,.int .i64 l.length)] K)=some (.ok (.exit 0) fr' K)/\lookP fr' 3=y:=by
 unfold Ja;have hlt:decide ((l.length:Int)<((ints l).length:Int))=false:=by simp
 simp -implicitDefEqProofs only[hlt,XP,seval];exact⟨_,rfl,rfl⟩
theorem HO(hs:l.length*8<=140737488355328):∀(n i:Nat),l.length=i+n->0<i->∃fr',evP ⟨A0,T,A1⟩ (.code (.loop Ja) [(0,.fsl (ints l) f),(3,.msl 0 0 i 1),(4,.int .i64 i)] ⟨[.row 0 (ints (l.take i)) 1],0,[]⟩)=some (.ok (.exit 0) fr' ⟨[.row 0 (ints l) 1],0,[]⟩)/\lookP fr' 3=.msl 0 0 l.length 1
 | 0,i,e,h0=>by
  obtain rfl:i=l.length:=by omega
  rw[List.take_length];obtain⟨fr',h1,h2⟩:=HN (T:=T) (l:=l) (f:=f) (y:=.msl 0 0 l.length 1) (K:=⟨[.row 0 (ints l) 1],0,[]⟩);exact⟨fr',C7 h1,h2⟩
 | n+1,i,e,h0=>by
  rw[loop_more (YW (by omega) hs)];exact HO hs n (i+1) (by omega) (by omega)
theorem Se(hs:l.length*8<=140737488355328):AM.Comes ⟨A0,T,A1⟩ 13 [.fsl (ints l) f] [ownd 0 1 (ints l)]:=by
 cases l with
 | nil =>
  obtain⟨fr',h1,h2⟩:=HN (T:=T) (l:=[]) (f:=f) (y:=.nilsl) (K:=⟨[],0,[]⟩);have hl:=C7 h1;refine⟨[.nilsl],⟨[],0,[]⟩,?_,⟨by decide,rfl,rfl⟩⟩;rw[A3 (c:=GD) (nt:=19) (rs:=[.tmp 2]) rfl (by simp)];unfold GD K0;have hl:evP ⟨A0,T,A1⟩ (.code (.loop Ja) [(0,.fsl (ints []) f),(3,.nilsl),(4,.int .i64 0)] ⟨[],0,[]⟩)=_:=hl;simp -implicitDefEqProofs only[hl,h2,XP,seval]
 | cons x r =>
  obtain⟨fr',h1,h2⟩:=HO (T:=T) (f:=f) hs r.length 1 (by simp;omega) (by decide);have hl:=(loop_more (YV (T:=T) (f:=f) (l:=x::r) (by simp))).trans h1;refine⟨[.msl 0 0 (x::r).length 1],⟨[.row 0 (ints (x::r)) 1],0,[]⟩,?_,?_⟩
  . rw[A3 (c:=GD) (nt:=19) (rs:=[.tmp 2]) rfl (by simp)]
    unfold GD K0;simp -implicitDefEqProofs only[hl,h2,XP,seval]
  . refine back_of (vs':=[.msl 0 0 (x::r).length 1]) (os':=[.row 0 (ints (x::r)) 1]) ?_ ?_ (us:=[.msl 0 0 (ints (x::r)).length 1]) (ps:=[.row 0 (ints (x::r)) 1]) ?_ ?_ ?_
    all_goals simp -implicitDefEqProofs only[zqa,XP,seval]
end
theorem ints_inj{l m:List Int}(h:ints l=ints m):l=m:=by
 induction l generalizing m with
 | nil=>cases m with
  |nil=>rfl
  |cons=>cases h
 | cons x l ih=>cases m with
  |nil=>cases h
  |cons y m=>injection h with h1 h2;injection h1 with _ h1;rw[h1,ih h2]
section
variable {l m:List Int}{f g:Bool}{i:Nat}
theorem YX(hl:i<l.length)(hm:i<m.length)(he:l[i]=m[i])(hs:l.length<=140737488355328):
 evP ⟨A0,T,A1⟩ (.code Dp [(0,.fsl (ints l) f),(1,.fsl (ints m) g),(5,.int .i64 i)] ⟨[],0,[]⟩)=some (.ok .normal [(0,.fsl (ints l) f),(1,.fsl (ints m) g),(5,.int .i64 ((i+1:Nat):Int))] ⟨[],0,[]⟩):=by
 unfold Dp;have hlt:decide ((i:Int)<((ints l).length:Int))=true:=by simp[hl]
 have h1:=A9 hl;have h2:=A9 hm;have hw:=B3 (i:=i) (by omega);simp -implicitDefEqProofs only[hlt,h1,h2,hw,he,u_not,XP,seval]
theorem YY(hl:i<l.length)(hm:i<m.length)(he:¬l[i]=m[i]):
 ∃fr',evP ⟨A0,T,A1⟩ (.code Dp [(0,.fsl (ints l) f),(1,.fsl (ints m) g),(5,.int .i64 i)] ⟨[],0,[]⟩)=some (.ok .ret fr' ⟨[],0,[]⟩)/\lookP fr' 4=.bool false:=by
 unfold Dp;have hlt:decide ((i:Int)<((ints l).length:Int))=true:=by simp[hl]
 have h1:=A9 hl;have h2:=A9 hm;have hd:decide (l[i]=m[i])=false:=by simp[he]
 simp -implicitDefEqProofs only[hlt,h1,h2,hd,u_not,XP,seval];exact⟨_,rfl,rfl⟩
theorem YZ(hm:l.length=m.length):∃fr',evP ⟨A0,T,A1⟩ (.code Dp [(0,.fsl (ints l) f),(1,.fsl (ints m) g),(5,.int .i64 l.length)] ⟨[],0,[]⟩)=some (.ok (.exit 0) fr' ⟨[],0,[]⟩):=by
 unfold Dp;have hlt:decide ((l.length:Int)<((ints l).length:Int))=false:=by simp
 simp -implicitDefEqProofs only[hlt,XP,seval];exact⟨_,rfl⟩
theorem si_l(hs:l.length<=140737488355328)(hm:l.length=m.length):∀(n i:Nat),l.length=i+n ->
 (l.drop i=m.drop i/\∃fr',evP ⟨A0,T,A1⟩ (.code (.loop Dp) [(0,.fsl (ints l) f),(1,.fsl (ints m) g),(5,.int .i64 i)] ⟨[],0,[]⟩)=some (.ok (.exit 0) fr' ⟨[],0,[]⟩))\/
 (l.drop i≠m.drop i/\∃fr',evP ⟨A0,T,A1⟩ (.code (.loop Dp) [(0,.fsl (ints l) f),(1,.fsl (ints m) g),(5,.int .i64 i)] ⟨[],0,[]⟩)=some (.ok .ret fr' ⟨[],0,[]⟩)/\lookP fr' 4=.bool false)
 | 0,i,e=>by
  obtain rfl:i=l.length:=by omega
  obtain⟨fr',h⟩:=YZ (T:=T) (f:=f) (g:=g) hm;exact .inl ⟨by rw[zqe,hm,zqe],fr',C7 h⟩
 | n + 1,i,e=>by
  have hl:i<l.length:=by omega
  have hl':i<m.length:=by omega
  rw[zqf hl,zqf hl'];by_cases he:l[i]=m[i]
  . rw[loop_more (YX hl hl' he hs)]
    rcases si_l hs hm n (i+1) (by omega)with⟨h1,h2⟩|⟨h1,h2⟩
    . exact .inl ⟨by rw[he,h1],h2⟩
    . exact .inr ⟨fun h=>h1 (List.cons.inj h).2,h2⟩
  . obtain⟨fr',h1,h2⟩:=YY (T:=T) (f:=f) (g:=g) hl hl' he
    exact .inr ⟨fun h=>he (List.cons.inj h).1,fr',j4 h1,h2⟩
theorem Sf(hs:l.length<=140737488355328):AM.Comes ⟨A0,T,A1⟩ 11 [.fsl (ints l) f,.fsl (ints m) g] [.bool (decide (l=m))]:=by
 refine⟨[.bool (decide (l=m))],⟨[],0,[]⟩,?_,back_of rfl zqb rfl rfl rfl⟩;rw[A3 (c:=GC) (nt:=27) (rs:=[.tmp 4]) rfl (by simp)];unfold GC K0;by_cases hm:l.length=m.length
 . have hn:(!decide (((ints l).length:Int)=((ints m).length:Int)))=false:=by simp[hm]
   rcases si_l (T:=T) (f:=f) (g:=g) hs hm l.length 0 (by omega)with⟨h1,fr',h2⟩|⟨h1,fr',h2,h3⟩
   . have h1:decide (l=m)=true:=by simpa using h1
     have h2:evP ⟨A0,T,A1⟩ (.code (.loop Dp) [(0,.fsl (ints l) f),(1,.fsl (ints m) g),(5,.int .i64 0)] ⟨[],0,[]⟩)=_:=h2;simp -implicitDefEqProofs only[hn,h1,h2,XP,seval]
   . have h1:decide (l=m)=false:=by simpa using h1
     have h2:evP ⟨A0,T,A1⟩ (.code (.loop Dp) [(0,.fsl (ints l) f),(1,.fsl (ints m) g),(5,.int .i64 0)] ⟨[],0,[]⟩)=_:=h2;simp -implicitDefEqProofs only[hn,h1,h2,h3,XP,seval]
 . have hn:(!decide (((ints l).length:Int)=((ints m).length:Int)))=true:=by simp[hm];omega
   have h1:decide (l=m)=false:=by simp;intro h;exact hm (by rw[h])
   simp -implicitDefEqProofs only[hn,h1,XP,seval]
end
structure Ins where
 op:Int
 ty:Int
 dst:Int
 a:Int
 b:Int
 n:Int
 s:List UInt8
 args:List Int
deriving DecidableEq
abbrev bigN:Nat:=140737488355328
def Ins.cs(x:Ins)(v:AV):List AV:=[.int .i64 x.op,.int .i64 x.ty,.int .i64 x.dst,.int .i64 x.a,.int .i64 x.b,.int .i64 x.n,.str x.s,v]
def Ins.F(x:Ins):AV:=.agg [.int .i64 x.op,.int .i64 x.ty,.int .i64 x.dst,.int .i64 x.a,.int .i64 x.b,.int .i64 x.n,.str x.s,fslN (ints x.args)]
def Ins.O(x:Ins):AV:=.agg [.int .i64 x.op,.int .i64 x.ty,.int .i64 x.dst,.int .i64 x.a,.int .i64 x.b,.int .i64 x.n,.str x.s,ownd 0 1 (ints x.args)]
def Ins.ok(x:Ins):Prop:=x.args.length*8<=bigN
theorem fslN_inj{l m:List AV}(h:fslN l=fslN m):l=m:=by unfold fslN at h;injection h
theorem Ins.F_inj{x y:Ins}(h:x.F=y.F):x=y:=by
 cases x;cases y;simp only[Ins.F,AV.agg.injEq,List.cons.injEq,AV.int.injEq,AV.str.injEq,true_and,and_true]at h;obtain⟨rfl,rfl,rfl,rfl,rfl,rfl,rfl,h⟩:=h;rw[ints_inj (fslN_inj h)]
def F3:=S7 (fun l:List Int=>[fslN (ints l)]) (fun l=>[ownd 0 1 (ints l)]) (fun l=>l.length*8<=bigN)
theorem l9{l:List Int}(h:l.length*8<=bigN):F3 [fslN (ints l)]=some [ownd 0 1 (ints l)]:=B9 (a:=fun l:List Int=>[fslN (ints l)]) (fun x y e=>by injection e with e _;rw[ints_inj (fslN_inj e)]) l h
def R2:=S7 (fun p:List Int×List Int=>[fslN (ints p.1),fslN (ints p.2)]) (fun p=>[.bool (decide (p.1=p.2))]) (fun p=>p.1.length*8<=bigN)
theorem Br{l m:List Int}(h:l.length*8<=bigN):R2 [fslN (ints l),fslN (ints m)]=some [.bool (decide (l=m))]:=B9 (a:=fun p:List Int×List Int=>[fslN (ints p.1),fslN (ints p.2)]) (r:=fun p=>[.bool (decide (p.1=p.2))]) (fun x y e=>by
 injection e with e1 e;injection e with e2 _
 rw[ints_inj (fslN_inj e1),ints_inj (fslN_inj e2)]) (l,m) h
theorem frzL_ints(l:List Int):frzL (ints l)=some (ints l):=f7 (f:=AV.int .i64) (g:=AV.int .i64) (fun _=>rfl) l
section
variable {T:Nat->Option (List AV->Option (List AV))}
theorem noFL_ints(l:List Int):noFL (ints l)=true:=by
 induction l with
 |nil=>rfl
 |cons x l ih=>exact ih
theorem Oe(hT:T 13=some F3){x:Ins}(h:x.ok):AM.Comes ⟨A0,T,A1⟩ 91 [x.F] [x.O]:=by
 refine⟨[.agg (x.cs (.msl 1 0 (ints x.args).length 1))],⟨[.row 1 [.agg (x.cs (.msl 1 0 (ints x.args).length 1))] 8,.row 0 (ints x.args) 1],0,[]⟩,?_,?_⟩
 . rw[A3 (c:=QC) (nt:=8) (rs:=[.cell 2 56]) rfl (by simp)]
   unfold QC K0;have ht:∀{K:PK},evP ⟨A0,T,A1⟩ (.call 13 [fslN (ints x.args)] K)=some (.val (openTs K.os.length [ownd 0 1 (ints x.args)]).1 ⟨K.os++(openTs K.os.length [ownd 0 1 (ints x.args)]).2,K.ext,K.tch⟩):=B5 hT (by show consO (Wr (frzL (ints x.args))) (some [])=_;rw[frzL_ints];rfl) (l9 h) (by rfl);simp -implicitDefEqProofs only[Ins.F,Ins.cs,ht,XP,seval]
 . refine back_of (vs':=[.agg (x.cs (.msl 1 0 (ints x.args).length 1))]) (os':=[.row 1 [.agg (x.cs (.msl 1 0 (ints x.args).length 1))] 8,.row 0 (ints x.args) 1]) ?_ ?_ (us:=[.agg (x.cs (.msl 0 0 (ints x.args).length 1))]) (ps:=[.row 0 (ints x.args) 1]) ?_ ?_ ?_
   all_goals simp -implicitDefEqProofs only[Ins.cs,Ins.O,XP,seval]
theorem Of(hT:T 11=some R2){x y:Ins}(h:x.ok):AM.Comes ⟨A0,T,A1⟩ 76 [x.F,y.F] [.bool (decide (x=y))]:=by
 refine⟨[.bool (decide (x=y))],⟨[],0,[]⟩,?_,back_of rfl zqb rfl rfl rfl⟩;rw[A3 (c:=PM) (nt:=59) (rs:=[.tmp 4]) rfl (by simp)];unfold PM K0;have ht:∀{K:PK},evP ⟨A0,T,A1⟩ (.call 11 [fslN (ints x.args),fslN (ints y.args)] K)=some (.val [.bool (decide (x.args=y.args))] ⟨K.os++[],K.ext,K.tch⟩):=B5 hT (by show consO (Wr (frzL (ints x.args))) (consO (Wr (frzL (ints y.args))) (some []))=_;rw[frzL_ints,frzL_ints];rfl) (Br h) (by rfl);have no:∀{p:Prop} [Decidable p],¬p->decide p=false:=fun h=>by simp[h]
 have yes:∀{p:Prop} [Decidable p],p->decide p=true:=fun h=>by simp[h]
 have ext:x=y↔x.op=y.op/\x.ty=y.ty/\x.dst=y.dst/\x.a=y.a/\x.b=y.b/\x.n=y.n/\x.s=y.s/\x.args=y.args:=by
  cases x;cases y;simp
 by_cases h1:x.op=y.op
 . by_cases h2:x.ty=y.ty
   . by_cases h3:x.dst=y.dst
     . by_cases h4:x.a=y.a
       . by_cases h5:x.b=y.b
         . by_cases h6:x.n=y.n
           . by_cases h7:x.s=y.s
             . have e:decide (x=y)=decide (x.args=y.args):=by simp[ext,h1,h2,h3,h4,h5,h6,h7]
               simp -implicitDefEqProofs only[Ins.F,ht,e,yes h1,yes h2,yes h3,yes h4,yes h5,yes h6,yes h7,XP,seval]
             . have e:decide (x=y)=false:=no fun e=>h7 (ext.1 e).2.2.2.2.2.2.1
               simp -implicitDefEqProofs only[Ins.F,e,yes h1,yes h2,yes h3,yes h4,yes h5,yes h6,no h7,XP,seval]
           . have e:decide (x=y)=false:=no fun e=>h6 (ext.1 e).2.2.2.2.2.1
             simp -implicitDefEqProofs only[Ins.F,e,yes h1,yes h2,yes h3,yes h4,yes h5,no h6,XP,seval]
         . have e:decide (x=y)=false:=no fun e=>h5 (ext.1 e).2.2.2.2.1
           simp -implicitDefEqProofs only[Ins.F,e,yes h1,yes h2,yes h3,yes h4,no h5,XP,seval]
       . have e:decide (x=y)=false:=no fun e=>h4 (ext.1 e).2.2.2.1
         simp -implicitDefEqProofs only[Ins.F,e,yes h1,yes h2,yes h3,no h4,XP,seval]
     . have e:decide (x=y)=false:=no fun e=>h3 (ext.1 e).2.2.1
       simp -implicitDefEqProofs only[Ins.F,e,yes h1,yes h2,no h3,XP,seval]
   . have e:decide (x=y)=false:=no fun e=>h2 (ext.1 e).2.1
     simp -implicitDefEqProofs only[Ins.F,e,yes h1,no h2,XP,seval]
 . have e:decide (x=y)=false:=no fun e=>h1 (ext.1 e).1
   simp -implicitDefEqProofs only[Ins.F,e,no h1,XP,seval]
end
def Y9:=S7 (fun x:Ins=>[x.F]) (fun x=>[x.O]) Ins.ok
theorem Vz{x:Ins}(h:x.ok):Y9 [x.F]=some [x.O]:=B9 (a:=fun x:Ins=>[x.F]) (fun x y e=>by injection e with e _;rw[Ins.F_inj e]) x h
def G7:=S7 (fun p:Ins×Ins=>[p.1.F,p.2.F]) (fun p=>[.bool (decide (p.1=p.2))]) (fun p=>p.1.ok)
theorem Gi{x y:Ins}(h:x.ok):G7 [x.F,y.F]=some [.bool (decide (x=y))]:=B9 (a:=fun p:Ins×Ins=>[p.1.F,p.2.F]) (r:=fun p=>[.bool (decide (p.1=p.2))]) (fun x y e=>by
 injection e with e1 e;injection e with e2 _
 rw[Ins.F_inj e1,Ins.F_inj e2]) (x,y) h
theorem Ins.viewF{os:List PO}(x:Ins):viewA os x.F=some x.F:=by
 unfold Ins.F;simp -implicitDefEqProofs only[frzL_ints,XP,seval]
theorem Ins.frzF(x:Ins):frzC x.F=some x.F:=by
 unfold Ins.F;simp -implicitDefEqProofs only[frzL_ints,XP,seval]
theorem Ins.frzO(x:Ins):frzC x.O=some x.F:=by
 unfold Ins.F Ins.O;simp -implicitDefEqProofs only[frzL_ints,XP,seval]
theorem A8{X:Type}{F:X->AV}{l:List X}{i:Nat}(h:i<l.length):(l.map F)[i]?=some (F l[i]):=by rw[zqk,zqd h];rfl
theorem map_take{X:Type}{F:X->AV}{l:List X}{i:Nat}(h:i<l.length):(l.take i).map F++[F l[i]]=(l.take (i+1)).map F:=by rw[zqq h,zqr];rfl
section
variable {l:List Ins}{f:Bool}{i:Nat}
theorem Sg(hT:T 91=some Y9){x:Ins}(h:x.ok){K:PK}:evP ⟨A0,T,A1⟩ (.call 91 [x.F] K)=some (.val (openTs K.os.length [x.O]).1 ⟨K.os++(openTs K.os.length [x.O]).2,K.ext,K.tch⟩):=B5 hT (by show consO (viewA _ x.F) (some [])=_;rw[Ins.viewF];rfl) (Vz h) (by
 unfold Ins.O Ins.F;simp -implicitDefEqProofs only[noFL_ints,XP,seval])
theorem HP(hT:T 91=some Y9)(hl:i<l.length)(hk:l[i].ok)(hs:l.length*88<=bigN):
 evP ⟨A0,T,A1⟩ (.code Np [(0,fslN (l.map Ins.F)),(3,.msl 0 0 i 8),(4,.int .i64 i)] ⟨[.row 0 ((l.take i).map Ins.O) 8],0,[]⟩)=some (.ok .normal [(0,fslN (l.map Ins.F)),(3,.msl 0 0 (i+1) 8),(4,.int .i64 ((i+1:Nat):Int))] ⟨[.row 0 ((l.take (i+1)).map Ins.O) 8],0,[]⟩):=by
 unfold Np;have hlt:decide ((i:Int)<((l.map Ins.F).length:Int))=true:=by simp[hl]
 have hi:=A8 (F:=Ins.F) hl;have hm:((l.take i).map Ins.O).length=i:=by simp;omega
 have hw:=B3 (i:=i) (by simp only[bigN]at hs;omega);have hz:(i+1)*88<=140737488355328:=by simp only[bigN]at hs;omega
 have ht:=fun K=>Sg (K:=K) hT hk
 have hx:=map_take (F:=Ins.O) hl;simp only[Ins.F]at ht hi;simp only[Ins.O]at hx;simp -implicitDefEqProofs only[hlt,hi,hm,hw,hz,Ins.O,ht,hx,XP,seval]
theorem HQ(hT:T 91=some Y9)(hl:0<l.length)(hk:l[0].ok)(hs:l.length*88<=bigN):
 evP ⟨A0,T,A1⟩ (.code Np [(0,fslN (l.map Ins.F)),(3,.nilsl),(4,.int .i64 0)] ⟨[],0,[]⟩)=some (.ok .normal [(0,fslN (l.map Ins.F)),(3,.msl 0 0 1 8),(4,.int .i64 ((1:Nat):Int))] ⟨[.row 0 ((l.take 1).map Ins.O) 8],0,[]⟩):=by
 unfold Np;have hlt:decide ((0:Int)<((l.map Ins.F).length:Int))=true:=by simp[hl]
 have hi:=A8 (F:=Ins.F) hl;have hi:=ix_fslN (te:=v7) (k:=.i64) (i:=0) hi rfl;have hi:Kq v7 (fslN (l.map Ins.F)) (.int .i64 0)=some (.fptr (Ins.F l[0]) 0):=hi;have ht:=fun K=>Sg (K:=K) hT hk
 have hx:=map_take (F:=Ins.O) hl;rw[zql]at hx;have hx:[Ins.O l[0]]=(l.take 1).map Ins.O:=hx;simp only[Ins.F]at ht hi;rw[<-hx];simp -implicitDefEqProofs only[hlt,hi,Ins.O,ht,show IntKind.i64.wrap (0+1)=((1:Nat):Int)from rfl,XP,Nat.reduceAdd,Nat.reduceSub,Nat.reduceLT,Nat.reduceLeDiff,Nat.reduceEqDiff,Nat.reduceMul,↓reduceIte]
theorem HR{y:AV}{K:PK}:∃fr',evP ⟨A0,T,A1⟩ (.code Np [(0,fslN (l.map Ins.F)),(3,y),(4,.int .i64 l.length)] K)=some (.ok (.exit 0) fr' K)/\lookP fr' 3=y:=by
 unfold Np;have hlt:decide ((l.length:Int)<((l.map Ins.F).length:Int))=false:=by simp
 simp -implicitDefEqProofs only[hlt,XP,seval];exact⟨_,rfl,rfl⟩
theorem Lj(hT:T 91=some Y9)(hk:∀x∈l,x.ok)(hs:l.length*88<=bigN):AM.Comes ⟨A0,T,A1⟩ 86 [fslN (l.map Ins.F)] [ownd 0 8 (l.map Ins.O)]:=by
 obtain⟨fr',y,os,h1,h2,h3⟩:=Fl (P:=⟨A0,T,A1⟩) (c:=Np) (A:=fslN (l.map Ins.F)) (O:=Ins.O) (sz:=8) (l:=l) (fun h=>HQ hT h (hk _ (zqc h)) hs) (fun i h=>HP hT h (hk _ (zqc h)) hs) (fun y K=>HR);refine⟨[y],⟨os,0,[]⟩,?_,D2 h3⟩;rw[A3 (c:=PY) (nt:=20) (rs:=[.tmp 2]) rfl (by simp)];unfold PY K0;rcases h3 with⟨_,rfl,rfl⟩|⟨rfl,rfl⟩
 . simp -implicitDefEqProofs only[h1,h2,XP,seval]
 . simp -implicitDefEqProofs only[h1,h2,XP,seval]
end
theorem map_inj{X:Type}{F:X->AV}(hF:∀x y,F x=F y->x=y):∀{l m:List X},l.map F=m.map F->l=m
 |[],[],_=>rfl
 |[],_::_,h=>by cases h
 |_::_,[],h=>by cases h
 | x::l,y::m,h=>by
  injection h with h1 h2
  rw[hF _ _ h1,map_inj hF h2]
def V2:=S7 (fun l:List Ins=>[fslN (l.map Ins.F)]) (fun l=>[ownd 0 8 (l.map Ins.O)]) (fun l=>(∀x∈l,x.ok)/\l.length*88<=bigN)
theorem Sh{l:List Ins}(h1:∀x∈l,x.ok)(h2:l.length*88<=bigN):V2 [fslN (l.map Ins.F)]=some [ownd 0 8 (l.map Ins.O)]:=B9 (a:=fun l:List Ins=>[fslN (l.map Ins.F)]) (fun x y e=>by injection e with e _;rw[map_inj (fun _ _=>Ins.F_inj) (fslN_inj e)]) l ⟨h1,h2⟩
def V3:=S7 (fun p:List Ins×List Ins=>[fslN (p.1.map Ins.F),fslN (p.2.map Ins.F)]) (fun p=>[.bool (decide (p.1=p.2))]) (fun p=>(∀x∈p.1,x.ok)/\p.1.length*88<=bigN)
theorem Si{l m:List Ins}(h1:∀x∈l,x.ok)(h2:l.length*88<=bigN):V3 [fslN (l.map Ins.F),fslN (m.map Ins.F)]=some [.bool (decide (l=m))]:=B9 (a:=fun p:List Ins×List Ins=>[fslN (p.1.map Ins.F),fslN (p.2.map Ins.F)]) (r:=fun p=>[.bool (decide (p.1=p.2))]) (fun x y e=>by
 injection e with e1 e;injection e with e2 _
 rw[map_inj (fun _ _=>Ins.F_inj) (fslN_inj e1),map_inj (fun _ _=>Ins.F_inj) (fslN_inj e2)]) (l,m) ⟨h1,h2⟩
theorem Sj(hT:T 76=some G7){x y:Ins}(h:x.ok){K:PK}:evP ⟨A0,T,A1⟩ (.call 76 [x.F,y.F] K)=some (.val [.bool (decide (x=y))] ⟨K.os++[],K.ext,K.tch⟩):=B5 hT (by show consO (viewA _ x.F) (consO (viewA _ y.F) (some []))=_;rw[Ins.viewF,Ins.viewF];rfl) (Gi h) (by
 unfold Ins.F;simp -implicitDefEqProofs only[XP,seval])
section
variable {l m:List Ins}{i:Nat}
theorem HS(hT:T 76=some G7)(hl:i<l.length)(hm:i<m.length)(hk:l[i].ok)(hs:l.length*88<=bigN)(he:l[i]=m[i]):
 evP ⟨A0,T,A1⟩ (.code Nn [(0,fslN (l.map Ins.F)),(1,fslN (m.map Ins.F)),(5,.int .i64 i)] ⟨[],0,[]⟩)=some (.ok .normal [(0,fslN (l.map Ins.F)),(1,fslN (m.map Ins.F)),(5,.int .i64 ((i+1:Nat):Int))] ⟨[],0,[]⟩):=by
 unfold Nn;have hlt:decide ((i:Int)<((l.map Ins.F).length:Int))=true:=by simp[hl]
 have h1:=A8 (F:=Ins.F) hl;have h2:=A8 (F:=Ins.F) hm;have hw:=B3 (i:=i) (by simp only[bigN]at hs;omega);have ht:=fun K=>Sj (K:=K) hT (y:=m[i]) hk
 rw[B0 he]at ht;simp only[Ins.F]at ht h1 h2;simp -implicitDefEqProofs only[hlt,h1,h2,hw,ht,u_not,XP,seval]
theorem HU(hT:T 76=some G7)(hl:i<l.length)(hm:i<m.length)(hk:l[i].ok)(he:¬l[i]=m[i]):
 ∃fr',evP ⟨A0,T,A1⟩ (.code Nn [(0,fslN (l.map Ins.F)),(1,fslN (m.map Ins.F)),(5,.int .i64 i)] ⟨[],0,[]⟩)=some (.ok .ret fr' ⟨[],0,[]⟩)/\lookP fr' 4=.bool false:=by
 unfold Nn;have hlt:decide ((i:Int)<((l.map Ins.F).length:Int))=true:=by simp[hl]
 have h1:=A8 (F:=Ins.F) hl;have h2:=A8 (F:=Ins.F) hm;have ht:=fun K=>Sj (K:=K) hT (y:=m[i]) hk
 rw[C5 he]at ht;simp only[Ins.F]at ht h1 h2;simp -implicitDefEqProofs only[hlt,h1,h2,ht,u_not,XP,seval];exact⟨_,rfl,rfl⟩
theorem HV:∃fr',evP ⟨A0,T,A1⟩ (.code Nn [(0,fslN (l.map Ins.F)),(1,fslN (m.map Ins.F)),(5,.int .i64 l.length)] ⟨[],0,[]⟩)=some (.ok (.exit 0) fr' ⟨[],0,[]⟩):=by
 unfold Nn;have hlt:decide ((l.length:Int)<((l.map Ins.F).length:Int))=false:=by simp
 simp -implicitDefEqProofs only[hlt,XP,seval];exact⟨_,rfl⟩
theorem Ll(hT:T 76=some G7)(hk:∀x∈l,x.ok)(hs:l.length*88<=bigN):AM.Comes ⟨A0,T,A1⟩ 61 [fslN (l.map Ins.F),fslN (m.map Ins.F)] [.bool (decide (l=m))]:=by
 refine⟨[.bool (decide (l=m))],⟨[],0,[]⟩,?_,back_of rfl zqb rfl rfl rfl⟩;rw[A3 (c:=OU) (nt:=27) (rs:=[.tmp 4]) rfl (by simp)];unfold OU K0;by_cases hm:l.length=m.length
 . have hn:(!decide (((l.map Ins.F).length:Int)=((m.map Ins.F).length:Int)))=false:=by simp[hm]
   rcases same_loop (P:=⟨A0,T,A1⟩) (c:=Nn) (A:=fslN (l.map Ins.F)) (B:=fslN (m.map Ins.F)) hm (fun i h h' e=>HS hT h h' (hk _ (zqc h)) hs e) (fun i h h' e=>HU hT h h' (hk _ (zqc h)) e) HV with⟨h1,fr',h2⟩|⟨h1,fr',h2,h3⟩
   . simp -implicitDefEqProofs only[hn,B0 h1,h2,XP,seval]
   . simp -implicitDefEqProofs only[hn,C5 h1,h2,h3,XP,seval]
 . have hn:(!decide (((l.map Ins.F).length:Int)=((m.map Ins.F).length:Int)))=true:=by simp;omega
   have h1:¬l=m:=fun h=>hm (by rw[h])
   simp -implicitDefEqProofs only[hn,C5 h1,XP,seval]
end
structure Endd where
 kind:Int
 a:Int
 to:Int
 els:Int
deriving DecidableEq
structure Blk where
 code:List Ins
 e:Endd
deriving DecidableEq
def Endd.F(e:Endd):AV:=.agg [.int .i64 e.kind,.int .i64 e.a,.int .i64 e.to,.int .i64 e.els]
def Blk.F(x:Blk):AV:=.agg [fslN (x.code.map Ins.F),.int .i64 x.e.kind,.int .i64 x.e.a,.int .i64 x.e.to,.int .i64 x.e.els]
def Blk.O(x:Blk):AV:=.agg [ownd 0 8 (x.code.map Ins.O),.int .i64 x.e.kind,.int .i64 x.e.a,.int .i64 x.e.to,.int .i64 x.e.els]
def Blk.ok(x:Blk):Prop:=(∀y∈x.code,y.ok)/\x.code.length*88<=bigN
theorem Blk.F_inj{x y:Blk}(h:x.F=y.F):x=y:=by
 obtain⟨c,e⟩:=x;obtain⟨c',e'⟩:=y;cases e;cases e';simp only[Blk.F,AV.agg.injEq,List.cons.injEq,AV.int.injEq,true_and,and_true]at h;obtain⟨h,rfl,rfl,rfl,rfl⟩:=h;rw[map_inj (fun _ _=>Ins.F_inj) (fslN_inj h)]
theorem frzL_insF(l:List Ins):frzL (l.map Ins.F)=some (l.map Ins.F):=f7 Ins.frzF l
theorem pB(l:List Ins):frzL (l.map Ins.O)=some (l.map Ins.F):=f7 Ins.frzO l
theorem Al{X:Type}{O:X->AV}(h:∀x,noF (O x)=true):∀l:List X,noFL (l.map O)=true
 |[]=>rfl
 |x::l=>by show(noF (O x)&&noFL (l.map O))=true;rw[h,Al h l];rfl
theorem Ins.noF(x:Ins):noF x.O=true:=by
 unfold Ins.O;simp -implicitDefEqProofs only[noFL_ints,XP,seval]
theorem noFL_insO(l:List Ins):noFL (l.map Ins.O)=true:=Al Ins.noF l
theorem Blk.viewF{os:List PO}(x:Blk):viewA os x.F=some x.F:=by
 unfold Blk.F;simp -implicitDefEqProofs only[frzL_insF,XP,seval]
theorem Blk.frzF(x:Blk):frzC x.F=some x.F:=by
 unfold Blk.F;simp -implicitDefEqProofs only[frzL_insF,XP,seval]
theorem Blk.frzO(x:Blk):frzC x.O=some x.F:=by
 unfold Blk.F Blk.O;simp -implicitDefEqProofs only[pB,XP,seval]
theorem Blk.noF(x:Blk):noF x.O=true:=by
 unfold Blk.O;simp -implicitDefEqProofs only[noFL_insO,XP,seval]
theorem Nq(hT:T 86=some V2){l:List Ins}(h1:∀x∈l,x.ok)(h2:l.length*88<=bigN){K:PK}:evP ⟨A0,T,A1⟩ (.call 86 [fslN (l.map Ins.F)] K)=some (.val (openTs K.os.length [ownd 0 8 (l.map Ins.O)]).1 ⟨K.os++(openTs K.os.length [ownd 0 8 (l.map Ins.O)]).2,K.ext,K.tch⟩):=B5 hT (by show consO (Wr (frzL (l.map Ins.F))) (some [])=_;rw[frzL_insF];rfl) (Sh h1 h2) (by simp -implicitDefEqProofs only[noFL_insO,XP,seval])
section
variable {l:List Blk}{i:Nat}
theorem HW(hT:T 86=some V2)(hl:i<l.length)(hk:l[i].ok)(hs:l.length*56<=bigN):
 evP ⟨A0,T,A1⟩ (.code No [(0,fslN (l.map Blk.F)),(3,.msl 0 0 i 5),(4,.int .i64 i)] ⟨[.row 0 ((l.take i).map Blk.O) 5],0,[]⟩)=some (.ok .normal [(0,fslN (l.map Blk.F)),(3,.msl 0 0 (i+1) 5),(4,.int .i64 ((i+1:Nat):Int))] ⟨[.row 0 ((l.take (i+1)).map Blk.O) 5],0,[]⟩):=by
 unfold No;have hlt:decide ((i:Int)<((l.map Blk.F).length:Int))=true:=by simp[hl]
 have hi:=A8 (F:=Blk.F) hl;have hm:((l.take i).map Blk.O).length=i:=by simp;omega
 have hw:=B3 (i:=i) (by simp only[bigN]at hs;omega);have hz:(i+1)*56<=140737488355328:=by simp only[bigN]at hs;omega
 have ht:=fun K=>Nq (K:=K) hT hk.1 hk.2
 have hx:=map_take (F:=Blk.O) hl;simp only[Blk.F]at hi;simp only[Blk.O]at hx;simp -implicitDefEqProofs only[hlt,hi,hm,hw,hz,Blk.O,ht,hx,XP,seval]
theorem HX(hT:T 86=some V2)(hl:0<l.length)(hk:l[0].ok)(hs:l.length*56<=bigN):
 evP ⟨A0,T,A1⟩ (.code No [(0,fslN (l.map Blk.F)),(3,.nilsl),(4,.int .i64 0)] ⟨[],0,[]⟩)=some (.ok .normal [(0,fslN (l.map Blk.F)),(3,.msl 0 0 1 5),(4,.int .i64 ((1:Nat):Int))] ⟨[.row 0 ((l.take 1).map Blk.O) 5],0,[]⟩):=by
 unfold No;have hlt:decide ((0:Int)<((l.map Blk.F).length:Int))=true:=by simp[hl]
 have hi:=A8 (F:=Blk.F) hl;have hi:=ix_fslN (te:=Ak) (k:=.i64) (i:=0) hi rfl;have hi:Kq Ak (fslN (l.map Blk.F)) (.int .i64 0)=some (.fptr (Blk.F l[0]) 0):=hi;have ht:=fun K=>Nq (K:=K) hT hk.1 hk.2
 have hx:=map_take (F:=Blk.O) hl;rw[zql]at hx;have hx:[Blk.O l[0]]=(l.take 1).map Blk.O:=hx;simp only[Blk.F]at hi;rw[<-hx];simp -implicitDefEqProofs only[hlt,hi,Blk.O,ht,show IntKind.i64.wrap (0+1)=((1:Nat):Int)from rfl,XP,Nat.reduceAdd,Nat.reduceSub,Nat.reduceLT,Nat.reduceLeDiff,Nat.reduceEqDiff,Nat.reduceMul,↓reduceIte]
theorem HY{y:AV}{K:PK}:∃fr',evP ⟨A0,T,A1⟩ (.code No [(0,fslN (l.map Blk.F)),(3,y),(4,.int .i64 l.length)] K)=some (.ok (.exit 0) fr' K)/\lookP fr' 3=y:=by
 unfold No;have hlt:decide ((l.length:Int)<((l.map Blk.F).length:Int))=false:=by simp
 simp -implicitDefEqProofs only[hlt,XP,seval];exact⟨_,rfl,rfl⟩
theorem Lm(hT:T 86=some V2)(hk:∀x∈l,x.ok)(hs:l.length*56<=bigN):AM.Comes ⟨A0,T,A1⟩ 77 [fslN (l.map Blk.F)] [ownd 0 5 (l.map Blk.O)]:=by
 obtain⟨fr',y,os,h1,h2,h3⟩:=Fl (P:=⟨A0,T,A1⟩) (c:=No) (A:=fslN (l.map Blk.F)) (O:=Blk.O) (sz:=5) (l:=l) (fun h=>HX hT h (hk _ (zqc h)) hs) (fun i h=>HW hT h (hk _ (zqc h)) hs) (fun y K=>HY);refine⟨[y],⟨os,0,[]⟩,?_,D2 h3⟩;rw[A3 (c:=PN) (nt:=27) (rs:=[.tmp 2]) rfl (by simp)];unfold PN K0;rcases h3 with⟨_,rfl,rfl⟩|⟨rfl,rfl⟩
 . simp -implicitDefEqProofs only[h1,h2,XP,seval]
 . simp -implicitDefEqProofs only[h1,h2,XP,seval]
theorem Je{e e':Endd}{K:PK}:M4 A0 .eql 52 (.agg [.int .i64 e.kind,.int .i64 e.a,.int .i64 e.to,.int .i64 e.els]) (.agg [.int .i64 e'.kind,.int .i64 e'.a,.int .i64 e'.to,.int .i64 e'.els]) K=.val (.bool (decide (e=e'))) K:=by
 have h:∀a b:Int,Vk (.int .i64 a) (.int .i64 b)=some (decide (a=b)):=fun a b=>by
  show some (intEq a b)=_
  rw[W5];by_cases e:a=b<;>simp[e]
 rw[bp _ _ rfl rfl];show w3 (A5 (onOB (Vk (.int .i64 e.kind) (.int .i64 e'.kind)) none (onOB (Vk (.int .i64 e.a) (.int .i64 e'.a)) none (onOB (Vk (.int .i64 e.to) (.int .i64 e'.to)) none (onOB (Vk (.int .i64 e.els) (.int .i64 e'.els)) none (some true) (some false)) (some false)) (some false)) (some false)) E5) K=_
 simp only[h];obtain⟨a,b,c,d⟩:=e;obtain⟨a',b',c',d'⟩:=e';simp only[Endd.mk.injEq];by_cases h1:a=a'
 . by_cases h2:b=b'
   . by_cases h3:c=c'
     . by_cases h4:d=d'
       . rw[B0 h1,B0 h2,B0 h3,B0 h4,B0 (p:=a=a'/\b=b'/\c=c'/\d=d') ⟨h1,h2,h3,h4⟩];rfl
       . rw[B0 h1,B0 h2,B0 h3,C5 h4,C5 (p:=a=a'/\b=b'/\c=c'/\d=d') (fun h=>h4 h.2.2.2)];rfl
     . rw[B0 h1,B0 h2,C5 h3,C5 (p:=a=a'/\b=b'/\c=c'/\d=d') (fun h=>h3 h.2.2.1)];rfl
   . rw[B0 h1,C5 h2,C5 (p:=a=a'/\b=b'/\c=c'/\d=d') (fun h=>h2 h.2.1)];rfl
 . rw[C5 h1,C5 (p:=a=a'/\b=b'/\c=c'/\d=d') (fun h=>h1 h.1)];rfl
end
def y4:=S7 (fun l:List Blk=>[fslN (l.map Blk.F)]) (fun l=>[ownd 0 5 (l.map Blk.O)]) (fun l=>(∀x∈l,x.ok)/\l.length*56<=bigN)
theorem Sk{l:List Blk}(h1:∀x∈l,x.ok)(h2:l.length*56<=bigN):y4 [fslN (l.map Blk.F)]=some [ownd 0 5 (l.map Blk.O)]:=B9 (a:=fun l:List Blk=>[fslN (l.map Blk.F)]) (fun x y e=>by injection e with e _;rw[map_inj (fun _ _=>Blk.F_inj) (fslN_inj e)]) l ⟨h1,h2⟩
def y5:=S7 (fun p:List Blk×List Blk=>[fslN (p.1.map Blk.F),fslN (p.2.map Blk.F)]) (fun p=>[.bool (decide (p.1=p.2))]) (fun p=>(∀x∈p.1,x.ok)/\p.1.length*56<=bigN)
theorem Sl{l m:List Blk}(h1:∀x∈l,x.ok)(h2:l.length*56<=bigN):y5 [fslN (l.map Blk.F),fslN (m.map Blk.F)]=some [.bool (decide (l=m))]:=B9 (a:=fun p:List Blk×List Blk=>[fslN (p.1.map Blk.F),fslN (p.2.map Blk.F)]) (r:=fun p=>[.bool (decide (p.1=p.2))]) (fun x y e=>by
 injection e with e1 e;injection e with e2 _
 rw[map_inj (fun _ _=>Blk.F_inj) (fslN_inj e1),map_inj (fun _ _=>Blk.F_inj) (fslN_inj e2)]) (l,m) ⟨h1,h2⟩
theorem Nr(hT:T 61=some V3){l m:List Ins}(h1:∀x∈l,x.ok)(h2:l.length*88<=bigN){K:PK}:evP ⟨A0,T,A1⟩ (.call 61 [fslN (l.map Ins.F),fslN (m.map Ins.F)] K)=some (.val [.bool (decide (l=m))] ⟨K.os++[],K.ext,K.tch⟩):=B5 hT (by show consO (Wr (frzL (l.map Ins.F))) (consO (Wr (frzL (m.map Ins.F))) (some []))=_;rw[frzL_insF,frzL_insF];rfl) (Si h1 h2) (by simp -implicitDefEqProofs only[XP,seval])
section
variable {l m:List Blk}{i:Nat}
theorem HZ(hT:T 61=some V3)(hl:i<l.length)(hm:i<m.length)(hk:l[i].ok)(hs:l.length*56<=bigN)(he:l[i]=m[i]):
 evP ⟨A0,T,A1⟩ (.code Nk [(0,fslN (l.map Blk.F)),(1,fslN (m.map Blk.F)),(5,.int .i64 i)] ⟨[],0,[]⟩)=some (.ok .normal [(0,fslN (l.map Blk.F)),(1,fslN (m.map Blk.F)),(5,.int .i64 ((i+1:Nat):Int))] ⟨[],0,[]⟩):=by
 unfold Nk;have hlt:decide ((i:Int)<((l.map Blk.F).length:Int))=true:=by simp[hl]
 have h1:=A8 (F:=Blk.F) hl;have h2:=A8 (F:=Blk.F) hm;have hw:=B3 (i:=i) (by simp only[bigN]at hs;omega);have ht:=fun K=>Nr (K:=K) hT (m:=m[i].code) hk.1 hk.2
 have e1:l[i].e=m[i].e:=by rw[he]
 have e2:l[i].code=m[i].code:=by rw[he]
 rw[B0 e2]at ht;simp only[Blk.F]at h1 h2;simp -implicitDefEqProofs only[hlt,h1,h2,hw,ht,u_not,Je,B0 e1,XP,seval]
theorem IA(hT:T 61=some V3)(hl:i<l.length)(hm:i<m.length)(hk:l[i].ok)(he:¬l[i]=m[i]):
 ∃fr',evP ⟨A0,T,A1⟩ (.code Nk [(0,fslN (l.map Blk.F)),(1,fslN (m.map Blk.F)),(5,.int .i64 i)] ⟨[],0,[]⟩)=some (.ok .ret fr' ⟨[],0,[]⟩)/\lookP fr' 4=.bool false:=by
 unfold Nk;have hlt:decide ((i:Int)<((l.map Blk.F).length:Int))=true:=by simp[hl]
 have h1:=A8 (F:=Blk.F) hl;have h2:=A8 (F:=Blk.F) hm;have ht:=fun K=>Nr (K:=K) hT (m:=m[i].code) hk.1 hk.2
 simp only[Blk.F]at h1 h2;by_cases e1:l[i].e=m[i].e
 . have e2:¬l[i].code=m[i].code:=fun h=>he (by cases h3:l[i];cases h4:m[i];rw[h3,h4]at e1 h;cases e1;cases h;rfl)
   rw[C5 e2]at ht;simp -implicitDefEqProofs only[hlt,h1,h2,ht,u_not,Je,B0 e1,XP,seval];exact⟨_,rfl,rfl⟩
 . simp -implicitDefEqProofs only[hlt,h1,h2,u_not,Je,C5 e1,XP,seval]
   exact⟨_,rfl,rfl⟩
theorem IB:∃fr',evP ⟨A0,T,A1⟩ (.code Nk [(0,fslN (l.map Blk.F)),(1,fslN (m.map Blk.F)),(5,.int .i64 l.length)] ⟨[],0,[]⟩)=some (.ok (.exit 0) fr' ⟨[],0,[]⟩):=by
 unfold Nk;have hlt:decide ((l.length:Int)<((l.map Blk.F).length:Int))=false:=by simp
 simp -implicitDefEqProofs only[hlt,XP,seval];exact⟨_,rfl⟩
theorem Ln(hT:T 61=some V3)(hk:∀x∈l,x.ok)(hs:l.length*56<=bigN):AM.Comes ⟨A0,T,A1⟩ 47 [fslN (l.map Blk.F),fslN (m.map Blk.F)] [.bool (decide (l=m))]:=by
 refine⟨[.bool (decide (l=m))],⟨[],0,[]⟩,?_,back_of rfl zqb rfl rfl rfl⟩;rw[A3 (c:=OJ) (nt:=42) (rs:=[.tmp 4]) rfl (by simp)];unfold OJ K0;by_cases hm:l.length=m.length
 . have hn:(!decide (((l.map Blk.F).length:Int)=((m.map Blk.F).length:Int)))=false:=by simp[hm]
   rcases same_loop (P:=⟨A0,T,A1⟩) (c:=Nk) (A:=fslN (l.map Blk.F)) (B:=fslN (m.map Blk.F)) hm (fun i h h' e=>HZ hT h h' (hk _ (zqc h)) hs e) (fun i h h' e=>IA hT h h' (hk _ (zqc h)) e) IB with⟨h1,fr',h2⟩|⟨h1,fr',h2,h3⟩
   . simp -implicitDefEqProofs only[hn,B0 h1,h2,XP,seval]
   . simp -implicitDefEqProofs only[hn,C5 h1,h2,h3,XP,seval]
 . have hn:(!decide (((l.map Blk.F).length:Int)=((m.map Blk.F).length:Int)))=true:=by simp;omega
   have h1:¬l=m:=fun h=>hm (by rw[h])
   simp -implicitDefEqProofs only[hn,C5 h1,XP,seval]
end
structure Cod where
 name:List UInt8
 ty:Int
 ps:Int
 regs:List Int
 blocks:List Blk
deriving DecidableEq
def Cod.F(x:Cod):AV:=.agg [.str x.name,.int .i64 x.ty,.int .i64 x.ps,fslN (ints x.regs),fslN (x.blocks.map Blk.F)]
def Cod.O(x:Cod):AV:=.agg [.str x.name,.int .i64 x.ty,.int .i64 x.ps,ownd 0 1 (ints x.regs),ownd 0 5 (x.blocks.map Blk.O)]
def Cod.cs(x:Cod)(u v:AV):List AV:=[.str x.name,.int .i64 x.ty,.int .i64 x.ps,u,v]
def Cod.ok(x:Cod):Prop:=x.regs.length*8<=bigN/\(∀y∈x.blocks,y.ok)/\x.blocks.length*56<=bigN
theorem Cod.F_inj{x y:Cod}(h:x.F=y.F):x=y:=by
 cases x;cases y;simp only[Cod.F,AV.agg.injEq,List.cons.injEq,AV.int.injEq,AV.str.injEq,true_and,and_true]at h;obtain⟨rfl,rfl,rfl,h1,h2⟩:=h;rw[ints_inj (fslN_inj h1),map_inj (fun _ _=>Blk.F_inj) (fslN_inj h2)]
theorem frzL_blkF(l:List Blk):frzL (l.map Blk.F)=some (l.map Blk.F):=f7 Blk.frzF l
theorem Ew(l:List Blk):frzL (l.map Blk.O)=some (l.map Blk.F):=f7 Blk.frzO l
theorem noFL_blkO(l:List Blk):noFL (l.map Blk.O)=true:=Al Blk.noF l
theorem Cod.viewF{os:List PO}(x:Cod):viewA os x.F=some x.F:=by
 unfold Cod.F;simp -implicitDefEqProofs only[frzL_blkF,frzL_ints,XP,seval]
theorem Cod.frzF(x:Cod):frzC x.F=some x.F:=by
 unfold Cod.F;simp -implicitDefEqProofs only[frzL_blkF,frzL_ints,XP,seval]
theorem Cod.frzO(x:Cod):frzC x.O=some x.F:=by
 unfold Cod.F Cod.O;simp -implicitDefEqProofs only[Ew,frzL_ints,XP,seval]
theorem Cod.noF(x:Cod):noF x.O=true:=by
 unfold Cod.O;simp -implicitDefEqProofs only[noFL_blkO,noFL_ints,XP,seval]
theorem pC(hT:T 13=some F3){l:List Int}(h:l.length*8<=bigN){K:PK}:evP ⟨A0,T,A1⟩ (.call 13 [fslN (ints l)] K)=some (.val (openTs K.os.length [ownd 0 1 (ints l)]).1 ⟨K.os++(openTs K.os.length [ownd 0 1 (ints l)]).2,K.ext,K.tch⟩):=B5 hT (by show consO (Wr (frzL (ints l))) (some [])=_;rw[frzL_ints];rfl) (l9 h) (by rfl)
theorem eK(hT:T 77=some y4){l:List Blk}(h1:∀x∈l,x.ok)(h2:l.length*56<=bigN){K:PK}:evP ⟨A0,T,A1⟩ (.call 77 [fslN (l.map Blk.F)] K)=some (.val (openTs K.os.length [ownd 0 5 (l.map Blk.O)]).1 ⟨K.os++(openTs K.os.length [ownd 0 5 (l.map Blk.O)]).2,K.ext,K.tch⟩):=B5 hT (by show consO (Wr (frzL (l.map Blk.F))) (some [])=_;rw[frzL_blkF];rfl) (Sk h1 h2) (by simp -implicitDefEqProofs only[noFL_blkO,XP,seval])
theorem Xs(hT:T 11=some R2){l m:List Int}(h:l.length*8<=bigN){K:PK}:evP ⟨A0,T,A1⟩ (.call 11 [fslN (ints l),fslN (ints m)] K)=some (.val [.bool (decide (l=m))] ⟨K.os++[],K.ext,K.tch⟩):=B5 hT (by show consO (Wr (frzL (ints l))) (consO (Wr (frzL (ints m))) (some []))=_;rw[frzL_ints,frzL_ints];rfl) (Br h) (by rfl)
theorem eL(hT:T 47=some y5){l m:List Blk}(h1:∀x∈l,x.ok)(h2:l.length*56<=bigN){K:PK}:evP ⟨A0,T,A1⟩ (.call 47 [fslN (l.map Blk.F),fslN (m.map Blk.F)] K)=some (.val [.bool (decide (l=m))] ⟨K.os++[],K.ext,K.tch⟩):=B5 hT (by show consO (Wr (frzL (l.map Blk.F))) (consO (Wr (frzL (m.map Blk.F))) (some []))=_;rw[frzL_blkF,frzL_blkF];rfl) (Sl h1 h2) (by simp -implicitDefEqProofs only[XP,seval])
theorem Sm(h21:T 13=some F3)(h22:T 77=some y4){x:Cod}(h:x.ok):AM.Comes ⟨A0,T,A1⟩ 62 [x.F] [x.O]:=by
 refine⟨[.agg (x.cs (.msl 1 0 (ints x.regs).length 1) (.msl 2 0 (x.blocks.map Blk.O).length 5))],⟨[.row 1 [.agg (x.cs (.msl 1 0 (ints x.regs).length 1) (.msl 2 0 (x.blocks.map Blk.O).length 5))] 5,.row 0 (ints x.regs) 1,.row 0 (x.blocks.map Blk.O) 5],0,[]⟩,?_,?_⟩
 . rw[A3 (c:=OV) (nt:=12) (rs:=[.cell 2 49]) rfl (by simp)]
   unfold OV K0;have ht1:=fun K=>pC (K:=K) h21 h.1
   have ht2:=fun K=>eK (K:=K) h22 h.2.1 h.2.2
   simp -implicitDefEqProofs only[Cod.F,Cod.cs,ht1,ht2,XP,seval]
 . refine back_of (vs':=[.agg (x.cs (.msl 1 0 (ints x.regs).length 1) (.msl 2 0 (x.blocks.map Blk.O).length 5))]) (os':=[.row 1 [.agg (x.cs (.msl 1 0 (ints x.regs).length 1) (.msl 2 0 (x.blocks.map Blk.O).length 5))] 5,.row 0 (ints x.regs) 1,.row 0 (x.blocks.map Blk.O) 5]) ?_ ?_ (us:=[.agg (x.cs (.msl 0 0 (ints x.regs).length 1) (.msl 1 0 (x.blocks.map Blk.O).length 5))]) (ps:=[.row 0 (ints x.regs) 1,.row 0 (x.blocks.map Blk.O) 5]) ?_ ?_ ?_
   all_goals simp -implicitDefEqProofs only[Cod.cs,Cod.O,XP,seval]
theorem Sn(h12:T 11=some R2)(h28:T 47=some y5){x y:Cod}(h:x.ok):AM.Comes ⟨A0,T,A1⟩ 30 [x.F,y.F] [.bool (decide (x=y))]:=by
 refine⟨[.bool (decide (x=y))],⟨[],0,[]⟩,?_,back_of rfl zqb rfl rfl rfl⟩;rw[A3 (c:=OA) (nt:=38) (rs:=[.tmp 4]) rfl (by simp)];unfold OA K0;have ht:=fun K=>Xs (K:=K) h12 (m:=y.regs) h.1
 have ht2:=fun K=>eL (K:=K) h28 (m:=y.blocks) h.2.1 h.2.2
 have ext:x=y↔x.name=y.name/\x.ty=y.ty/\x.ps=y.ps/\x.regs=y.regs/\x.blocks=y.blocks:=by
  cases x;cases y;simp
 by_cases h1:x.name=y.name
 . by_cases h2:x.ty=y.ty
   . by_cases h3:x.ps=y.ps
     . by_cases h4:x.regs=y.regs
       . have e:decide (x=y)=decide (x.blocks=y.blocks):=by simp[ext,h1,h2,h3,h4]
         rw[B0 h4]at ht;simp -implicitDefEqProofs only[Cod.F,ht,ht2,e,B0 h1,B0 h2,B0 h3,XP,seval]
       . have e:decide (x=y)=false:=C5 fun e=>h4 (ext.1 e).2.2.2.1
         rw[C5 h4]at ht;simp -implicitDefEqProofs only[Cod.F,ht,e,B0 h1,B0 h2,B0 h3,XP,seval]
     . have e:decide (x=y)=false:=C5 fun e=>h3 (ext.1 e).2.2.1
       simp -implicitDefEqProofs only[Cod.F,e,B0 h1,B0 h2,C5 h3,XP,seval]
   . have e:decide (x=y)=false:=C5 fun e=>h2 (ext.1 e).2.1
     simp -implicitDefEqProofs only[Cod.F,e,B0 h1,C5 h2,XP,seval]
 . have e:decide (x=y)=false:=C5 fun e=>h1 (ext.1 e).1
   simp -implicitDefEqProofs only[Cod.F,e,C5 h1,XP,seval]
section
variable {l:List Int}
theorem aN{t:Nat}{K:PK}(h:L7 A0 t=.slc):M4 A0 .eql t .nilsl .nilsl K=.val (.bool true) K:=by rw[bp _ _ rfl rfl,h];rfl
theorem aO{t:Nat}{K:PK}(h:L7 A0 t=.slc):M4 A0 .eql t (.fsl [] false) .nilsl K=.val (.bool false) K:=by rw[bp _ _ rfl rfl,h];rfl
theorem So{t:Nat}{K:PK}{e:AV}{es:List AV}(h:L7 A0 t=.slc):M4 A0 .eql t (fslN (e::es)) .nilsl K=.val (.bool false) K:=by rw[bp _ _ rfl rfl,h];rfl
theorem jC(n:Nat):F1 n []=true:=rfl
theorem pD:AM.Comes ⟨A0,T,A1⟩ 43 [.nilsl] [ownd 0 1 (ints [])]:=by
 refine⟨[.nilsl],⟨[],0,[]⟩,?_,D2 (.inl ⟨rfl,rfl,rfl⟩)⟩;rw[A3 (c:=AX) (nt:=8) (rs:=[.tmp 2]) rfl (by simp)];unfold AX K0;simp -implicitDefEqProofs only[aN (t:=26) rfl,XP,seval]
theorem pE:AM.Comes ⟨A0,T,A1⟩ 43 [.fsl [] false] [ownd 0 1 (ints [])]:=by
 refine⟨[.msl 0 0 0 1],⟨[.row 0 [] 1],0,[]⟩,?_,D2 (.inr ⟨rfl,rfl⟩)⟩;rw[A3 (c:=AX) (nt:=8) (rs:=[.tmp 2]) rfl (by simp)];unfold AX K0;simp -implicitDefEqProofs only[aO (t:=26) rfl,jC,XP,seval]
theorem lZ:∀l:List Int,F1 1 (ints l)=true
 |[]=>rfl
 |x::l=>lZ l
theorem jD{x:Int}{l:List Int}(hs:(x::l).length*8<=bigN):AM.Comes ⟨A0,T,A1⟩ 43 [fslN (ints (x::l))] [ownd 0 1 (ints (x::l))]:=by
 refine⟨[.msl 0 0 (ints (x::l)).length 1],⟨[.row 0 (ints (x::l)) 1],0,[]⟩,?_,D2 (.inr ⟨rfl,rfl⟩)⟩;rw[A3 (c:=AX) (nt:=8) (rs:=[.tmp 2]) rfl (by simp)];unfold AX K0;have h1:∀K:PK,M4 A0 .eql 26 (fslN (ints (x::l))) .nilsl K=.val (.bool false) K:=fun K=>So (t:=26) rfl
 have h2:=lZ (x::l);have h3:(ints (x::l)).isEmpty=false:=rfl;have h4:(ints (x::l)).length*8<=140737488355328:=by simpa[bigN]using hs
 generalize ints (x::l)=es at h1 h2 h3 h4;simp -implicitDefEqProofs only[h1,h2,h3,h4,XP,seval]
theorem tN{P:PE}(hP:PEok P)(he:P=⟨A0,T,A1⟩):TC P.E 43 F3:=by
 subst he;refine kX hP (fun a args rs hg a' ha=>?_) (by unfold F3 S7;rw[dif_neg];rintro⟨x,_,h⟩;cases h);obtain⟨l,h1,h2,rfl⟩:=Py hg;injection h2 with h2 h3
 subst h2 h3;cases l with
 | nil =>
  rcases zqm.1 ha with rfl|ha
  . exact pD
  . obtain rfl:=zqg.1 ha;exact pE
 | cons x l =>
  obtain rfl:=zqg.1 (show a'∈[fslN (ints (x::l))]from ha);exact jD h1
end
section
theorem jE:AM.Comes ⟨A0,T,A1⟩ 45 [.nilsl] [ownd 0 8 (([]:List Ins).map Ins.F)]:=by
 refine⟨[.nilsl],⟨[],0,[]⟩,?_,D2 (.inl ⟨rfl,rfl,rfl⟩)⟩;rw[A3 (c:=AZ) (nt:=8) (rs:=[.tmp 2]) rfl (by simp)];unfold AZ K0;simp -implicitDefEqProofs only[aN (t:=50) rfl,XP,seval]
theorem jF:AM.Comes ⟨A0,T,A1⟩ 45 [.fsl [] false] [ownd 0 8 (([]:List Ins).map Ins.F)]:=by
 refine⟨[.msl 0 0 0 8],⟨[.row 0 [] 8],0,[]⟩,?_,D2 (.inr ⟨rfl,rfl⟩)⟩;rw[A3 (c:=AZ) (nt:=8) (rs:=[.tmp 2]) rfl (by simp)];unfold AZ K0;simp -implicitDefEqProofs only[aO (t:=50) rfl,jC,XP,seval]
theorem ID:∀l:List Ins,F1 8 (l.map Ins.F)=true
 |[]=>rfl
 |x::l=>ID l
theorem eM{x:Ins}{l:List Ins}(hs:(x::l).length*88<=bigN):AM.Comes ⟨A0,T,A1⟩ 45 [fslN ((x::l).map Ins.F)] [ownd 0 8 ((x::l).map Ins.F)]:=by
 refine⟨[.msl 0 0 ((x::l).map Ins.F).length 8],⟨[.row 0 ((x::l).map Ins.F) 8],0,[]⟩,?_,D2 (.inr ⟨rfl,rfl⟩)⟩;rw[A3 (c:=AZ) (nt:=8) (rs:=[.tmp 2]) rfl (by simp)];unfold AZ K0;have h1:∀K:PK,M4 A0 .eql 50 (fslN ((x::l).map Ins.F)) .nilsl K=.val (.bool false) K:=fun K=>So (t:=50) rfl
 have h2:=ID (x::l);have h3:((x::l).map Ins.F).isEmpty=false:=rfl;have h4:((x::l).map Ins.F).length*88<=140737488355328:=by simpa[bigN]using hs
 generalize (x::l).map Ins.F=es at h1 h2 h3 h4;simp -implicitDefEqProofs only[h1,h2,h3,h4,XP,seval]
def m0:=S7 (fun l:List Ins=>[fslN (l.map Ins.F)]) (fun l=>[ownd 0 8 (l.map Ins.F)]) (fun l=>l.length*88<=bigN)
theorem pF{P:PE}(hP:PEok P)(he:P=⟨A0,T,A1⟩):TC P.E 45 m0:=by
 subst he;refine kX hP (fun a args rs hg a' ha=>?_) (by unfold m0 S7;rw[dif_neg];rintro⟨x,_,h⟩;cases h);obtain⟨l,h1,h2,rfl⟩:=Py hg;injection h2 with h2 h3
 subst h2 h3;cases l with
 | nil =>
  rcases zqm.1 ha with rfl|ha
  . exact jE
  . obtain rfl:=zqg.1 ha;exact jF
 | cons x l =>
  obtain rfl:=zqg.1 (show a'∈[fslN ((x::l).map Ins.F)]from ha);exact eM h1
theorem jG:AM.Comes ⟨A0,T,A1⟩ 44 [.nilsl] [ownd 0 5 (([]:List Blk).map Blk.F)]:=by
 refine⟨[.nilsl],⟨[],0,[]⟩,?_,D2 (.inl ⟨rfl,rfl,rfl⟩)⟩;rw[A3 (c:=AY) (nt:=8) (rs:=[.tmp 2]) rfl (by simp)];unfold AY K0;simp -implicitDefEqProofs only[aN (t:=47) rfl,XP,seval]
theorem jH:AM.Comes ⟨A0,T,A1⟩ 44 [.fsl [] false] [ownd 0 5 (([]:List Blk).map Blk.F)]:=by
 refine⟨[.msl 0 0 0 5],⟨[.row 0 [] 5],0,[]⟩,?_,D2 (.inr ⟨rfl,rfl⟩)⟩;rw[A3 (c:=AY) (nt:=8) (rs:=[.tmp 2]) rfl (by simp)];unfold AY K0;simp -implicitDefEqProofs only[aO (t:=47) rfl,jC,XP,seval]
theorem IE:∀l:List Blk,F1 5 (l.map Blk.F)=true
 |[]=>rfl
 |x::l=>IE l
theorem eN{x:Blk}{l:List Blk}(hs:(x::l).length*56<=bigN):AM.Comes ⟨A0,T,A1⟩ 44 [fslN ((x::l).map Blk.F)] [ownd 0 5 ((x::l).map Blk.F)]:=by
 refine⟨[.msl 0 0 ((x::l).map Blk.F).length 5],⟨[.row 0 ((x::l).map Blk.F) 5],0,[]⟩,?_,D2 (.inr ⟨rfl,rfl⟩)⟩;rw[A3 (c:=AY) (nt:=8) (rs:=[.tmp 2]) rfl (by simp)];unfold AY K0;have h1:∀K:PK,M4 A0 .eql 47 (fslN ((x::l).map Blk.F)) .nilsl K=.val (.bool false) K:=fun K=>So (t:=47) rfl
 have h2:=IE (x::l);have h3:((x::l).map Blk.F).isEmpty=false:=rfl;have h4:((x::l).map Blk.F).length*56<=140737488355328:=by simpa[bigN]using hs
 generalize (x::l).map Blk.F=es at h1 h2 h3 h4;simp -implicitDefEqProofs only[h1,h2,h3,h4,XP,seval]
def Bs:=S7 (fun l:List Blk=>[fslN (l.map Blk.F)]) (fun l=>[ownd 0 5 (l.map Blk.F)]) (fun l=>l.length*56<=bigN)
theorem pG{P:PE}(hP:PEok P)(he:P=⟨A0,T,A1⟩):TC P.E 44 Bs:=by
 subst he;refine kX hP (fun a args rs hg a' ha=>?_) (by unfold Bs S7;rw[dif_neg];rintro⟨x,_,h⟩;cases h);obtain⟨l,h1,h2,rfl⟩:=Py hg;injection h2 with h2 h3
 subst h2 h3;cases l with
 | nil =>
  rcases zqm.1 ha with rfl|ha
  . exact jG
  . obtain rfl:=zqg.1 ha;exact jH
 | cons x l =>
  obtain rfl:=zqg.1 (show a'∈[fslN ((x::l).map Blk.F)]from ha);exact eN h1
end
section
variable {l m:List Int}{i:Nat}
abbrev Vk(l m:List Int)(n i:Nat):PF:=[(0,fslN (ints l)),(1,fslN (ints m)),(12,.int .i64 (n:Int)),(13,.int .i64 (i:Int))]
theorem ZA(hl:i<l.length)(hm:i<m.length)(he:l[i]=m[i])(hs:l.length*8<=bigN):evP ⟨A0,T,A1⟩ (.code Gh (Vk l m l.length i) ⟨[],0,[]⟩)=some (.ok .normal (Vk l m l.length (i+1)) ⟨[],0,[]⟩):=by
 unfold Gh;have hlt:decide ((i:Int)<(l.length:Int))=true:=by simp[hl]
 have h1:=A9 hl;have h2:=A9 hm;have hw:=B3 (i:=i) (by simp only[bigN]at hs;omega);simp -implicitDefEqProofs only[Vk,hlt,h1,h2,hw,B0 he,XP,seval]
theorem ZB(hl:i<l.length)(hm:i<m.length)(he:¬l[i]=m[i]):∃fr',evP ⟨A0,T,A1⟩ (.code Gh (Vk l m l.length i) ⟨[],0,[]⟩)=some (.ok .ret fr' ⟨[],0,[]⟩)/\lookP fr' 4=.bool false:=by
 unfold Gh;have hlt:decide ((i:Int)<(l.length:Int))=true:=by simp[hl]
 have h1:=A9 hl;have h2:=A9 hm;simp -implicitDefEqProofs only[Vk,hlt,h1,h2,C5 he,XP,seval];exact⟨_,rfl,rfl⟩
theorem ZC:∃fr',evP ⟨A0,T,A1⟩ (.code Gh (Vk l m l.length l.length) ⟨[],0,[]⟩)=some (.ok (.exit 0) fr' ⟨[],0,[]⟩):=by
 unfold Gh;have hlt:decide ((l.length:Int)<(l.length:Int))=false:=by simp
 simp -implicitDefEqProofs only[Vk,hlt,XP,seval];exact⟨_,rfl⟩
theorem eO(hs:l.length*8<=bigN):AM.Comes ⟨A0,T,A1⟩ 90 [fslN (ints l),fslN (ints m)] [.bool (decide (l=m))]:=by
 refine⟨[.bool (decide (l=m))],⟨[],0,[]⟩,?_,back_of rfl zqb rfl rfl rfl⟩;rw[A3 (c:=QB) (nt:=26) (rs:=[.tmp 4]) rfl (by simp)];unfold QB K0;have hl0:(ints l).length=l.length:=zqa ..;have hm0:(ints m).length=m.length:=zqa ..;by_cases hm:l.length=m.length
 . have hn:(!decide ((l.length:Int)=(m.length:Int)))=false:=by simp[hm]
   rcases same_loopS (P:=⟨A0,T,A1⟩) (c:=Gh) (S:=Vk l m l.length) hm (fun i h h' e=>ZA h h' e hs) (fun i h h' e=>ZB h h' e) ZC with⟨h1,fr',h2⟩|⟨h1,fr',h2,h3⟩
   . simp only[Vk]at h2
     have h2:evP ⟨A0,T,A1⟩ (.code (.loop Gh) [(0,fslN (ints l)),(1,fslN (ints m)),(12,.int .i64 (l.length:Int)),(13,.int .i64 0)] ⟨[],0,[]⟩)=_:=h2;simp -implicitDefEqProofs only[hn,hl0,hm0,B0 h1,h2,XP,seval]
   . simp only[Vk]at h2
     have h2:evP ⟨A0,T,A1⟩ (.code (.loop Gh) [(0,fslN (ints l)),(1,fslN (ints m)),(12,.int .i64 (l.length:Int)),(13,.int .i64 0)] ⟨[],0,[]⟩)=_:=h2;simp -implicitDefEqProofs only[hn,hl0,hm0,C5 h1,h2,h3,XP,seval]
 . have hn:(!decide ((l.length:Int)=(m.length:Int)))=true:=by simp;omega
   have h1:¬l=m:=fun h=>hm (by rw[h])
   simp -implicitDefEqProofs only[hn,hl0,hm0,C5 h1,XP,seval]
end
section
theorem Og(hT:T 90=some R2){x y:Ins}(h:x.ok):AM.Comes ⟨A0,T,A1⟩ 85 [x.F,y.F] [.bool (decide (x=y))]:=by
 refine⟨[.bool (decide (x=y))],⟨[],0,[]⟩,?_,back_of rfl zqb rfl rfl rfl⟩;rw[A3 (c:=PX) (nt:=61) (rs:=[.tmp 4]) rfl (by simp)];unfold PX K0;have ht:∀{K:PK},evP ⟨A0,T,A1⟩ (.call 90 [fslN (ints x.args),fslN (ints y.args)] K)=some (.val [.bool (decide (x.args=y.args))] ⟨K.os++[],K.ext,K.tch⟩):=B5 hT (by show consO (Wr (frzL (ints x.args))) (consO (Wr (frzL (ints y.args))) (some []))=_;rw[frzL_ints,frzL_ints];rfl) (Br h) (by rfl);have no:∀{p:Prop} [Decidable p],¬p->decide p=false:=fun h=>by simp[h]
 have yes:∀{p:Prop} [Decidable p],p->decide p=true:=fun h=>by simp[h]
 have ext:x=y↔x.op=y.op/\x.ty=y.ty/\x.dst=y.dst/\x.a=y.a/\x.b=y.b/\x.n=y.n/\x.s=y.s/\x.args=y.args:=by
  cases x;cases y;simp
 by_cases hargs:x.args=y.args
 . rw [B0 hargs] at ht
   by_cases hop:x.op=y.op
   . by_cases hty:x.ty=y.ty
     . by_cases hdst:x.dst=y.dst
       . by_cases ha:x.a=y.a
         . by_cases hb:x.b=y.b
           . by_cases hn:x.n=y.n
             . by_cases hs:x.s=y.s
               . have e:decide (x=y)=true:=B0 (ext.2 ⟨hop,hty,hdst,ha,hb,hn,hs,hargs⟩)
                 simp -implicitDefEqProofs only[Ins.F,ht,e,B0 hop,B0 hty,B0 hdst,B0 ha,B0 hb,B0 hn,B0 hs,XP,seval]
               . have e:decide (x=y)=false:=C5 fun e=>hs (ext.1 e).2.2.2.2.2.2.1
                 simp -implicitDefEqProofs only[Ins.F,ht,e,B0 hop,B0 hty,B0 hdst,B0 ha,B0 hb,B0 hn,C5 hs,XP,seval]
             . have e:decide (x=y)=false:=C5 fun e=>hn (ext.1 e).2.2.2.2.2.1
               simp -implicitDefEqProofs only[Ins.F,ht,e,B0 hop,B0 hty,B0 hdst,B0 ha,B0 hb,C5 hn,XP,seval]
           . have e:decide (x=y)=false:=C5 fun e=>hb (ext.1 e).2.2.2.2.1
             simp -implicitDefEqProofs only[Ins.F,ht,e,B0 hop,B0 hty,B0 hdst,B0 ha,C5 hb,XP,seval]
         . have e:decide (x=y)=false:=C5 fun e=>ha (ext.1 e).2.2.2.1
           simp -implicitDefEqProofs only[Ins.F,ht,e,B0 hop,B0 hty,B0 hdst,C5 ha,XP,seval]
       . have e:decide (x=y)=false:=C5 fun e=>hdst (ext.1 e).2.2.1
         simp -implicitDefEqProofs only[Ins.F,ht,e,B0 hop,B0 hty,C5 hdst,XP,seval]
     . have e:decide (x=y)=false:=C5 fun e=>hty (ext.1 e).2.1
       simp -implicitDefEqProofs only[Ins.F,ht,e,B0 hop,C5 hty,XP,seval]
   . have e:decide (x=y)=false:=C5 fun e=>hop (ext.1 e).1
     simp -implicitDefEqProofs only[Ins.F,ht,e,C5 hop,XP,seval]
 . have e:decide (x=y)=false:=C5 fun e=>hargs (ext.1 e).2.2.2.2.2.2.2
   rw[C5 hargs]at ht;simp -implicitDefEqProofs only[Ins.F,ht,e,XP,seval]
end
theorem Sp(hT:T 85=some G7){x y:Ins}(h:x.ok){K:PK}:evP ⟨A0,T,A1⟩ (.call 85 [x.F,y.F] K)=some (.val [.bool (decide (x=y))] ⟨K.os++[],K.ext,K.tch⟩):=B5 hT (by show consO (viewA _ x.F) (consO (viewA _ y.F) (some []))=_;rw[Ins.viewF,Ins.viewF];rfl) (Gi h) (by
 unfold Ins.F;simp -implicitDefEqProofs only[XP,seval])
section
variable {l m:List Ins}{i:Nat}
abbrev xC(l m:List Ins)(n i:Nat):PF:=[(1,fslN (m.map Ins.F)),(2,.fn (.func 85) [] []),(15,fslN (l.map Ins.F)),(16,.int .i64 (n:Int)),(17,.int .i64 (i:Int))]
theorem ZD(hT:T 85=some G7)(hl:i<l.length)(hm:i<m.length)(hk:l[i].ok)(hs:l.length*88<=bigN)(he:l[i]=m[i]):
 evP ⟨A0,T,A1⟩ (.code Gg (xC l m l.length i) ⟨[],0,[]⟩)=some (.ok .normal (xC l m l.length (i+1)) ⟨[],0,[]⟩):=by
 unfold Gg;have hlt:decide ((i:Int)<(l.length:Int))=true:=by simp[hl]
 have h1:=A8 (F:=Ins.F) hl;have h2:=A8 (F:=Ins.F) hm;have hw:=B3 (i:=i) (by simp only[bigN]at hs;omega);have ht:=fun K=>Sp (K:=K) hT (y:=m[i]) hk
 rw[B0 he]at ht;simp only[Ins.F]at ht h1 h2;simp -implicitDefEqProofs only[xC,hlt,h1,h2,hw,ht,u_not,XP,seval]
theorem ZE(hT:T 85=some G7)(hl:i<l.length)(hm:i<m.length)(hk:l[i].ok)(he:¬l[i]=m[i]):
 ∃fr',evP ⟨A0,T,A1⟩ (.code Gg (xC l m l.length i) ⟨[],0,[]⟩)=some (.ok .ret fr' ⟨[],0,[]⟩)/\lookP fr' 6=.bool false:=by
 unfold Gg;have hlt:decide ((i:Int)<(l.length:Int))=true:=by simp[hl]
 have h1:=A8 (F:=Ins.F) hl;have h2:=A8 (F:=Ins.F) hm;have ht:=fun K=>Sp (K:=K) hT (y:=m[i]) hk
 rw[C5 he]at ht;simp only[Ins.F]at ht h1 h2;simp -implicitDefEqProofs only[xC,hlt,h1,h2,ht,u_not,XP,seval];exact⟨_,rfl,rfl⟩
theorem ZF:∃fr',evP ⟨A0,T,A1⟩ (.code Gg (xC l m l.length l.length) ⟨[],0,[]⟩)=some (.ok (.exit 0) fr' ⟨[],0,[]⟩):=by
 unfold Gg;have hlt:decide ((l.length:Int)<(l.length:Int))=false:=by simp
 simp -implicitDefEqProofs only[xC,hlt,XP,seval];exact⟨_,rfl⟩
theorem Sq(hT:T 85=some G7)(hk:∀x∈l,x.ok)(hs:l.length*88<=bigN):evP ⟨A0,T,A1⟩ (.body 84 [fslN (l.map Ins.F),fslN (m.map Ins.F),.fn (.func 85) [] []] ⟨[],0,[]⟩)=some (.val [.bool (decide (l=m))] ⟨[],0,[]⟩):=by
 rw[A3 (c:=PW) (nt:=32) (rs:=[.tmp 6]) rfl (by simp)];unfold PW;have hl0:(l.map Ins.F).length=l.length:=zqa ..;have hm0:(m.map Ins.F).length=m.length:=zqa ..;by_cases hm:l.length=m.length
 . have hn:(!decide ((l.length:Int)=(m.length:Int)))=false:=by simp[hm]
   rcases same_loopS (P:=⟨A0,T,A1⟩) (c:=Gg) (r:=6) (S:=xC l m l.length) hm (fun i h h' e=>ZD hT h h' (hk _ (zqc h)) hs e) (fun i h h' e=>ZE hT h h' (hk _ (zqc h)) e) ZF with⟨h1,fr',h2⟩|⟨h1,fr',h2,h3⟩
   . simp only[xC]at h2
     have h2:evP ⟨A0,T,A1⟩ (.code (.loop Gg) [(1,fslN (m.map Ins.F)),(2,.fn (.func 85) [] []),(15,fslN (l.map Ins.F)),(16,.int .i64 (l.length:Int)),(17,.int .i64 0)] ⟨[],0,[]⟩)=_:=h2;simp -implicitDefEqProofs only[hn,hl0,hm0,B0 h1,h2,XP,seval]
   . simp only[xC]at h2
     have h2:evP ⟨A0,T,A1⟩ (.code (.loop Gg) [(1,fslN (m.map Ins.F)),(2,.fn (.func 85) [] []),(15,fslN (l.map Ins.F)),(16,.int .i64 (l.length:Int)),(17,.int .i64 0)] ⟨[],0,[]⟩)=_:=h2;simp -implicitDefEqProofs only[hn,hl0,hm0,C5 h1,h2,h3,XP,seval]
 . have hn:(!decide ((l.length:Int)=(m.length:Int)))=true:=by simp;omega
   have h1:¬l=m:=fun h=>hm (by rw[h])
   simp -implicitDefEqProofs only[hn,hl0,hm0,C5 h1,XP,seval]
theorem Sr(hT:T 85=some G7)(hN:T 84=none)(hk:∀x∈l,x.ok)(hs:l.length*88<=bigN)(K:PK):evP ⟨A0,T,A1⟩ (.call 84 [fslN (l.map Ins.F),fslN (m.map Ins.F),.fn (.func 85) [] []] K)=some (.val [.bool (decide (l=m))] K):=
 cI hN rfl rfl rfl (Sq hT hk hs) rfl
def X0:=S7 (fun p:Blk×Blk=>[p.1.F,p.2.F]) (fun p=>[.bool (decide (p.1=p.2))]) (fun p=>p.1.ok)
theorem pH{x y:Blk}(h:x.ok):X0 [x.F,y.F]=some [.bool (decide (x=y))]:=B9 (a:=fun p:Blk×Blk=>[p.1.F,p.2.F]) (r:=fun p=>[.bool (decide (p.1=p.2))]) (fun x y e=>by
 injection e with e1 e;injection e with e2 _
 rw[Blk.F_inj e1,Blk.F_inj e2]) (x,y) h
theorem eP(hT:T 85=some G7)(hN:T 84=none){x y:Blk}(h:x.ok):AM.Comes ⟨A0,T,A1⟩ 75 [x.F,y.F] [.bool (decide (x=y))]:=by
 refine⟨[.bool (decide (x=y))],⟨[],0,[]⟩,?_,back_of rfl zqb rfl rfl rfl⟩;rw[A3 (c:=PL) (nt:=17) (rs:=[.tmp 4]) rfl (by simp)];unfold PL K0;have ht:=Sr (T:=T) (m:=y.code) hT hN h.1 h.2;have ext:x=y↔x.code=y.code/\x.e=y.e:=by cases x;cases y;simp
 by_cases h1:x.e=y.e
 . have e:decide (x=y)=decide (x.code=y.code):=by simp[ext,h1]
   simp -implicitDefEqProofs only[Blk.F,ht,e,Je,B0 h1,XP,seval]
 . have e:decide (x=y)=false:=C5 fun e=>h1 (ext.1 e).2
   simp -implicitDefEqProofs only[Blk.F,e,Je,C5 h1,XP,seval]
end
structure Glo where
 name:List UInt8
 ty:Int
 size:Int
 at_:Int
deriving DecidableEq
structure Modl where
 gs:List Glo
 fs:List Cod
deriving DecidableEq
def Glo.F(g:Glo):AV:=.agg [.str g.name,.int .i64 g.ty,.int .i64 g.size,.int .i64 g.at_]
def Modl.F(m:Modl):AV:=.agg [fslN (m.gs.map Glo.F),fslN (m.fs.map Cod.F)]
def Modl.O(m:Modl):AV:=.agg [ownd 0 4 (m.gs.map Glo.F),ownd 0 5 (m.fs.map Cod.O)]
abbrev IG(l:List Bool):List AV:=l.map AV.bool
def chkF(m:Modl)(c:Cod):AV:=.agg [fslN (m.gs.map Glo.F),fslN (m.fs.map Cod.F),.str c.name,.int .i64 c.ty,.int .i64 c.ps,fslN (ints c.regs),fslN (c.blocks.map Blk.F)]
theorem Glo.F_inj{x y:Glo}(h:x.F=y.F):x=y:=by
 cases x;cases y;simp only[Glo.F,AV.agg.injEq,List.cons.injEq,AV.int.injEq,AV.str.injEq,true_and,and_true]at h;obtain⟨rfl,rfl,rfl,rfl⟩:=h;rfl
theorem Endd.F_inj{x y:Endd}(h:x.F=y.F):x=y:=by
 cases x;cases y;simp only[Endd.F,AV.agg.injEq,List.cons.injEq,AV.int.injEq,true_and,and_true]at h;obtain⟨rfl,rfl,rfl,rfl⟩:=h;rfl
theorem Modl.F_inj{x y:Modl}(h:x.F=y.F):x=y:=by
 cases x;cases y;simp only[Modl.F,AV.agg.injEq,List.cons.injEq,and_true]at h;rw[map_inj (fun _ _=>Glo.F_inj) (fslN_inj h.1),map_inj (fun _ _=>Cod.F_inj) (fslN_inj h.2)]
theorem fslN_iff{l m:List AV}:fslN l=fslN m↔l=m:=⟨fslN_inj,fun h=>h▸rfl⟩
theorem ints_iff{l m:List Int}:l.map (AV.int .i64)=m.map (AV.int .i64)↔l=m:=⟨ints_inj,fun h=>h▸rfl⟩
theorem Ins.F_iff{x y:Ins}:x.F=y.F↔x=y:=⟨Ins.F_inj,fun h=>h▸rfl⟩
theorem Cod.F_iff{x y:Cod}:x.F=y.F↔x=y:=⟨Cod.F_inj,fun h=>h▸rfl⟩
theorem Endd.F_iff{x y:Endd}:x.F=y.F↔x=y:=⟨Endd.F_inj,fun h=>h▸rfl⟩
theorem Modl.F_iff{x y:Modl}:x.F=y.F↔x=y:=⟨Modl.F_inj,fun h=>h▸rfl⟩
theorem insL_iff{l m:List Ins}:l.map Ins.F=m.map Ins.F↔l=m:=⟨map_inj fun _ _=>Ins.F_inj,fun h=>h▸rfl⟩
theorem blkL_iff{l m:List Blk}:l.map Blk.F=m.map Blk.F↔l=m:=⟨map_inj fun _ _=>Blk.F_inj,fun h=>h▸rfl⟩
theorem codL_iff{l m:List Cod}:l.map Cod.F=m.map Cod.F↔l=m:=⟨map_inj fun _ _=>Cod.F_inj,fun h=>h▸rfl⟩
theorem gloL_iff{l m:List Glo}:l.map Glo.F=m.map Glo.F↔l=m:=⟨map_inj fun _ _=>Glo.F_inj,fun h=>h▸rfl⟩
theorem Glo.frzF(x:Glo):frzC x.F=some x.F:=by unfold Glo.F;simp -implicitDefEqProofs only[XP,seval]
theorem frzL_gloF(l:List Glo):frzL (l.map Glo.F)=some (l.map Glo.F):=f7 Glo.frzF l
theorem frzL_codF(l:List Cod):frzL (l.map Cod.F)=some (l.map Cod.F):=f7 Cod.frzF l
theorem pI(l:List Cod):frzL (l.map Cod.O)=some (l.map Cod.F):=f7 Cod.frzO l
theorem Endd.viewF{os:List PO}(x:Endd):viewA os x.F=some x.F:=by unfold Endd.F;simp -implicitDefEqProofs only[XP,seval]
theorem Modl.viewF{os:List PO}(x:Modl):viewA os x.F=some x.F:=by unfold Modl.F;simp -implicitDefEqProofs only[frzL_gloF,frzL_codF,XP,seval]
theorem chk_viewF{os:List PO}(m:Modl)(c:Cod):viewA os (chkF m c)=some (chkF m c):=by unfold chkF;simp -implicitDefEqProofs only[frzL_gloF,frzL_codF,frzL_ints,frzL_blkF,XP,seval]
theorem chk_iff{m m':Modl}{c c':Cod}:chkF m c=chkF m' c'↔m=m'/\c=c':=by
 constructor
 . intro h
   simp only[chkF,AV.agg.injEq,List.cons.injEq,AV.int.injEq,AV.str.injEq,and_true]at h;obtain⟨h1,h2,h3,⟨_,h4⟩,⟨_,h5⟩,h6,h7⟩:=h;exact⟨Modl.F_inj (by simp only[Modl.F];rw[h1,h2]),Cod.F_inj (by simp only[Cod.F];rw[h3,h4,h5,h6,h7])⟩
 . rintro⟨rfl,rfl⟩;rfl
theorem Glo.noF(x:Glo):noF x.F=true:=by unfold Glo.F;simp -implicitDefEqProofs only[XP,seval]
theorem noFL_gloO(l:List Glo):noFL (l.map Glo.F)=true:=Al Glo.noF l
theorem noFL_codO(l:List Cod):noFL (l.map Cod.O)=true:=Al Cod.noF l
theorem Cod.okO(c:Cod):(c.O.cells.all fun c=>(ownOf c).isSome||clo c)=true:=rfl
theorem Modl.okO(m:Modl):(m.O.cells.all fun c=>(ownOf c).isSome||clo c)=true:=rfl
theorem Modl.noF(m:Modl):noF m.O=true:=by unfold Modl.O;simp -implicitDefEqProofs only[noFL_gloO,noFL_codO,XP,seval]
def F5(n:Int):Bool:=decide (n=1)||decide (n=2)
def thereD(a n:Int):Bool:=decide (0<=a)&&decide (a<n)
def Gj(t:Int):Int:=if t=2 then 2 else 1
def wrapD(t v:Int):Int:=if t=3 then IntKind.wrap .i64 (IntKind.wrap .i8 v)else if t=1 then IntKind.wrap .i64 (IntKind.wrap .i32 v)else if t=2 then v else 0
def B2:List UInt8:=[109,97,105,110]
def VJ:=z0z @Int.ofNat_inj<|z0z @List.cons.injEq.{0}<|z0z @AV.int.injEq<|z0z @AV.str.injEq<|z0z @AV.bool.injEq<|z0z @AV.agg.injEq<|z0z @true_and<|z0z @and_true<|z0z @fslN_iff<|z0z @chk_iff<|z0z @Ins.F_iff<|z0z @Cod.F_iff<|z0z @Modl.F_iff<|z0z @Endd.F_iff<|z0z @ints_iff<|z0z @insL_iff<|z0z @blkL_iff<|z0z @codL_iff<|@gloL_iff
def VV:=z0z @chk_viewF<|z0z @Ins.viewF<|z0z @Blk.viewF<|z0z @Cod.viewF<|z0z @Modl.viewF<|z0z @Endd.viewF<|z0z @frzL_ints<|z0z @frzL_insF<|z0z @frzL_blkF<|z0z @frzL_codF<|@frzL_gloF
def VN:=z0z @Cod.okO<|z0z @Modl.okO<|z0z @Modl.noF<|z0z @noFL_ints<|z0z @noFL_insO<|z0z @noFL_blkO<|z0z @noFL_codO<|z0z @noFL_gloO<|z0z @Ins.noF<|z0z @Blk.noF<|@Cod.noF
theorem Oh  {n:Int}:AM.Comes ⟨A0,T,A1⟩ 19 [.int .i64 n] [.bool (F5 n)]:=by
 refine⟨[.bool (F5 n)],⟨[],0,[]⟩,?_,back_of rfl zqb rfl rfl rfl⟩;rw[A3 (c:=NS) (nt:=9) (rs:=[.tmp 2]) rfl (by simp)];unfold NS;unfold K0;unfold F5;by_cases h1:n=1
 . by_cases h2:n=2
   . simp -implicitDefEqProofs only[eq_true h1,eq_true h2,XP,seval]
   . simp -implicitDefEqProofs only[eq_true h1,h2,XP,seval]
 . by_cases h2:n=2
   . simp -implicitDefEqProofs only[h1,eq_true h2,XP,seval]
   . simp -implicitDefEqProofs only[h1,h2,XP,seval]
def N1:=S7 (fun p:(Int)=>[.int .i64 p]) (fun p=>[.bool (F5 p)]) (fun p=>True)
theorem He(hir_number:T 19=some N1){n:Int}{K:PK}:evP ⟨A0,T,A1⟩ (.call 19 [.int .i64 n] K)=some (.val (openTs K.os.length [.bool (F5 n)]).1 ⟨K.os++(openTs K.os.length [.bool (F5 n)]).2,K.ext,K.tch⟩):=B5 hir_number (by simp -implicitDefEqProofs only[VV,XP,seval]) (B9 (a:=fun p:(Int)=>[.int .i64 p]) (r:=fun p=>[.bool (F5 p)]) (fun x y e=>by simp only[VJ]at e;simp only[e]) (n) trivial) (by simp -implicitDefEqProofs only[VN,XP,seval])
theorem aP  (hP:PEok ⟨A0,T,A1⟩):TC A0 19 N1:=C0 hP fun p h=>Oh
theorem Ss  {a:Int} {n:Int}:AM.Comes ⟨A0,T,A1⟩ 54 [.int .i64 a,.int .i64 n] [.bool (thereD a n)]:=by
 refine⟨[.bool (thereD a n)],⟨[],0,[]⟩,?_,back_of rfl zqb rfl rfl rfl⟩;rw[A3 (c:=OR) (nt:=12) (rs:=[.tmp 4]) rfl (by simp)];unfold OR;unfold K0;unfold thereD;by_cases h1:0<=a
 . by_cases h2:a<n
   . simp -implicitDefEqProofs only[eq_true h1,eq_true h2,XP,seval]
   . simp -implicitDefEqProofs only[eq_true h1,h2,XP,seval]
 . by_cases h2:a<n
   . simp -implicitDefEqProofs only[h1,eq_true h2,XP,seval]
   . simp -implicitDefEqProofs only[h1,h2,XP,seval]
def D6:=S7 (fun p:(Int)×(Int)=>[.int .i64 p.1,.int .i64 p.2]) (fun p=>[.bool (thereD p.1 p.2)]) (fun p=>True)
theorem O5(hir_there:T 54=some D6){a:Int}{n:Int}{K:PK}:evP ⟨A0,T,A1⟩ (.call 54 [.int .i64 a,.int .i64 n] K)=some (.val (openTs K.os.length [.bool (thereD a n)]).1 ⟨K.os++(openTs K.os.length [.bool (thereD a n)]).2,K.ext,K.tch⟩):=B5 hir_there (by simp -implicitDefEqProofs only[VV,XP,seval]) (B9 (a:=fun p:(Int)×(Int)=>[.int .i64 p.1,.int .i64 p.2]) (r:=fun p=>[.bool (thereD p.1 p.2)]) (fun x y e=>by simp only[VJ]at e;simp only[e]) (a,n) trivial) (by simp -implicitDefEqProofs only[VN,XP,seval])
theorem eQ  (hP:PEok ⟨A0,T,A1⟩):TC A0 54 D6:=C0 hP fun p h=>Ss
theorem Wa  {t:Int}:AM.Comes ⟨A0,T,A1⟩ 69 [.int .i64 t] [.int .i64 (Gj t)]:=by
 refine⟨[.int .i64 (Gj t)],⟨[],0,[]⟩,?_,back_of rfl zqb rfl rfl rfl⟩;rw[A3 (c:=PA) (nt:=5) (rs:=[.tmp 2]) rfl (by simp)];unfold PA;unfold K0;unfold Gj;by_cases h1:t=2
 . simp -implicitDefEqProofs only[eq_true h1,XP,seval]
 . simp -implicitDefEqProofs only[h1,XP,seval]
def Dt:=S7 (fun p:(Int)=>[.int .i64 p]) (fun p=>[.int .i64 (Gj p)]) (fun p=>True)
theorem tO(hir_wide:T 69=some Dt){t:Int}{K:PK}:evP ⟨A0,T,A1⟩ (.call 69 [.int .i64 t] K)=some (.val (openTs K.os.length [.int .i64 (Gj t)]).1 ⟨K.os++(openTs K.os.length [.int .i64 (Gj t)]).2,K.ext,K.tch⟩):=B5 hir_wide (by simp -implicitDefEqProofs only[VV,XP,seval]) (B9 (a:=fun p:(Int)=>[.int .i64 p]) (r:=fun p=>[.int .i64 (Gj p)]) (fun x y e=>by simp only[VJ]at e;simp only[e]) (t) trivial) (by simp -implicitDefEqProofs only[VN,XP,seval])
theorem jI  (hP:PEok ⟨A0,T,A1⟩):TC A0 69 Dt:=C0 hP fun p h=>Wa
theorem B6(k j:IntKind)(n:Int):Q2 (.int k) (.int j n)=some (.int k (k.wrap n)):=V5 k n
theorem Oi  {t:Int} {v:Int}:AM.Comes ⟨A0,T,A1⟩ 56 [.int .i64 t,.int .i64 v] [.int .i64 (wrapD t v)]:=by
 refine⟨[.int .i64 (wrapD t v)],⟨[],0,[]⟩,?_,back_of rfl zqb rfl rfl rfl⟩;rw[A3 (c:=OT) (nt:=19) (rs:=[.tmp 4]) rfl (by simp)];unfold OT;unfold K0;unfold wrapD;by_cases h1:t=3
 . simp -implicitDefEqProofs only[B6,eq_true h1,XP,seval]
 by_cases h2:t=1
 . simp -implicitDefEqProofs only[B6,h1,eq_true h2,XP,seval]
 by_cases h3:t=2
 . simp -implicitDefEqProofs only[B6,h1,h2,eq_true h3,XP,seval]
 simp -implicitDefEqProofs only[B6,h1,h2,h3,XP,seval]
def F8:=S7 (fun p:(Int)×(Int)=>[.int .i64 p.1,.int .i64 p.2]) (fun p=>[.int .i64 (wrapD p.1 p.2)]) (fun p=>True)
theorem Bt(hword_Wrap:T 56=some F8){t:Int}{v:Int}{K:PK}:evP ⟨A0,T,A1⟩ (.call 56 [.int .i64 t,.int .i64 v] K)=some (.val (openTs K.os.length [.int .i64 (wrapD t v)]).1 ⟨K.os++(openTs K.os.length [.int .i64 (wrapD t v)]).2,K.ext,K.tch⟩):=B5 hword_Wrap (by simp -implicitDefEqProofs only[VV,XP,seval]) (B9 (a:=fun p:(Int)×(Int)=>[.int .i64 p.1,.int .i64 p.2]) (r:=fun p=>[.int .i64 (wrapD p.1 p.2)]) (fun x y e=>by simp only[VJ]at e;simp only[e]) (t,v) trivial) (by simp -implicitDefEqProofs only[VN,XP,seval])
theorem aQ  (hP:PEok ⟨A0,T,A1⟩):TC A0 56 F8:=C0 hP fun p h=>Oi
theorem Am(hir_number:T 19=some N1){n:Int}:AM.Comes ⟨A0,T,A1⟩ 33 [.int .i64 n] [.bool (!F5 n)]:=by
 refine⟨[.bool (!F5 n)],⟨[],0,[]⟩,?_,back_of rfl zqb rfl rfl rfl⟩;rw[A3 (c:=OD) (nt:=6) (rs:=[.tmp 2]) rfl (by simp)];unfold OD;unfold K0;simp -implicitDefEqProofs only[He hir_number,XP,seval]
def D1:=S7 (fun p:(Int)=>[.int .i64 p]) (fun p=>[.bool (!F5 p)]) (fun p=>True)
theorem q0(hir_checker_code_1:T 33=some D1){n:Int}{K:PK}:evP ⟨A0,T,A1⟩ (.call 33 [.int .i64 n] K)=some (.val (openTs K.os.length [.bool (!F5 n)]).1 ⟨K.os++(openTs K.os.length [.bool (!F5 n)]).2,K.ext,K.tch⟩):=B5 hir_checker_code_1 (by simp -implicitDefEqProofs only[VV,XP,seval]) (B9 (a:=fun p:(Int)=>[.int .i64 p]) (r:=fun p=>[.bool (!F5 p)]) (fun x y e=>by simp only[VJ]at e;simp only[e]) (n) trivial) (by simp -implicitDefEqProofs only[VN,XP,seval])
theorem Du(hir_number:T 19=some N1)(hP:PEok ⟨A0,T,A1⟩):TC A0 33 D1:=C0 hP fun p h=>Am hir_number
theorem Jf  {c:Cod}:AM.Comes ⟨A0,T,A1⟩ 37 [c.F] [.bool (decide (c.name=B2))]:=by
 refine⟨[.bool (decide (c.name=B2))],⟨[],0,[]⟩,?_,back_of rfl zqb rfl rfl rfl⟩;rw[A3 (c:=OH) (nt:=6) (rs:=[.tmp 2]) rfl (by simp)];unfold OH;unfold K0;unfold Cod.F B2;simp -implicitDefEqProofs only[XP,seval]
def K7:=S7 (fun p:(Cod)=>[p.F]) (fun p=>[.bool (decide (p.name=B2))]) (fun p=>True)
theorem Jg(hir_mainOf_1:T 37=some K7){c:Cod}{K:PK}:evP ⟨A0,T,A1⟩ (.call 37 [c.F] K)=some (.val (openTs K.os.length [.bool (decide (c.name=B2))]).1 ⟨K.os++(openTs K.os.length [.bool (decide (c.name=B2))]).2,K.ext,K.tch⟩):=B5 hir_mainOf_1 (by simp -implicitDefEqProofs only[VV,XP,seval]) (B9 (a:=fun p:(Cod)=>[p.F]) (r:=fun p=>[.bool (decide (p.name=B2))]) (fun x y e=>by simp only[VJ]at e;simp only[e]) (c) trivial) (by simp -implicitDefEqProofs only[VN,XP,seval])
theorem Su  (hP:PEok ⟨A0,T,A1⟩):TC A0 37 K7:=C0 hP fun p h=>Jf
def writesD(x:Ins):Int:=if x.op=1 then x.dst else if x.op=2 then x.dst else if x.op=3 then x.dst else if x.op=4 then x.dst else if x.op=5 then x.dst else if x.op=7 then x.dst else if x.op=10 then x.dst else if x.op=9 then(if -1<=x.dst then x.dst else -1)else -1
def readsD(x:Ins):List Int:=if x.op=2 then [x.a]else if x.op=4 then [x.a]else if x.op=5 then [x.a]else if x.op=8 then [x.a]else if x.op=11 then [x.a]else if x.op=3 then [x.a,x.b]else if x.op=6 then [x.a,x.b]else if x.op=9 then x.args else []
theorem m4(a b:Int)(K:PK):Jz (F0 A0 .max [3,3] [.int .i64 a,.int .i64 b] K)=.val (.int .i64 (if b<=a then a else b)) K:=by
 show Jz ((Kv [.int .i64 b] (.int .i64 a)).map (·,K))=_
 show Jz ((some (AV.int .i64 (bif intLe b a then a else b))).map (·,K))=_
 rw[O1];by_cases hb:b<=a
 . rw[if_pos hb,decide_eq_true hb];rfl
 . rw[if_neg hb,decide_eq_false hb];rfl
theorem Oj  {x:Ins}:AM.Comes ⟨A0,T,A1⟩ 65 [x.F] [.int .i64 (writesD x)]:=by
 refine⟨[.int .i64 (writesD x)],⟨[],0,[]⟩,?_,back_of rfl zqb rfl rfl rfl⟩;rw[A3 (c:=OW) (nt:=20) (rs:=[.tmp 2]) rfl (by simp)];unfold OW;unfold K0;unfold Ins.F writesD;by_cases e1:x.op=1
 . simp -implicitDefEqProofs only[m4,eq_true e1,XP,seval]
 by_cases e2:x.op=2
 . simp -implicitDefEqProofs only[m4,e1,eq_true e2,XP,seval]
 by_cases e3:x.op=3
 . simp -implicitDefEqProofs only[m4,e1,e2,eq_true e3,XP,seval]
 by_cases e4:x.op=4
 . simp -implicitDefEqProofs only[m4,e1,e2,e3,eq_true e4,XP,seval]
 by_cases e5:x.op=5
 . simp -implicitDefEqProofs only[m4,e1,e2,e3,e4,eq_true e5,XP,seval]
 by_cases e7:x.op=7
 . simp -implicitDefEqProofs only[m4,e1,e2,e3,e4,e5,eq_true e7,XP,seval]
 by_cases e10:x.op=10
 . simp -implicitDefEqProofs only[m4,e1,e2,e3,e4,e5,e7,eq_true e10,XP,seval]
 by_cases e9:x.op=9
 . simp -implicitDefEqProofs only[m4,e1,e2,e3,e4,e5,e7,e10,eq_true e9,XP,seval]
 simp -implicitDefEqProofs only[m4,e1,e2,e3,e4,e5,e7,e10,e9,XP,seval]
def Z4:=S7 (fun p:(Ins)=>[p.F]) (fun p=>[.int .i64 (writesD p)]) (fun p=>True)
theorem jJ(hir_Writes:T 65=some Z4){x:Ins}{K:PK}:evP ⟨A0,T,A1⟩ (.call 65 [x.F] K)=some (.val (openTs K.os.length [.int .i64 (writesD x)]).1 ⟨K.os++(openTs K.os.length [.int .i64 (writesD x)]).2,K.ext,K.tch⟩):=B5 hir_Writes (by simp -implicitDefEqProofs only[VV,XP,seval]) (B9 (a:=fun p:(Ins)=>[p.F]) (r:=fun p=>[.int .i64 (writesD p)]) (fun x y e=>by simp only[VJ]at e;simp only[e]) (x) trivial) (by simp -implicitDefEqProofs only[VN,XP,seval])
theorem aS  (hP:PEok ⟨A0,T,A1⟩):TC A0 65 Z4:=C0 hP fun p h=>Oj
theorem Sv(hCloneInts:T 43=some F3){x:Ins}(hk:x.ok):AM.Comes ⟨A0,T,A1⟩ 64 [x.F] [ownd 0 1 (ints (readsD x))]:=by
 have one:∀(a:Int)(L:List Int),L=[a]->evP ⟨A0,T,A1⟩ (.body 64 [x.F] K0)=some (.val [.msl 0 0 1 1] ⟨[.row 0 [.int .i64 a] 1],0,[]⟩)->AM.Comes ⟨A0,T,A1⟩ 64 [x.F] [ownd 0 1 (ints L)]:=fun a L e h=>by
  subst e;exact⟨_,_,h,D2 (.inr ⟨rfl,rfl⟩)⟩
 have two:∀(a b:Int)(L:List Int),L=[a,b]->evP ⟨A0,T,A1⟩ (.body 64 [x.F] K0)=some (.val [.msl 0 0 2 1] ⟨[.row 0 [.int .i64 a,.int .i64 b] 1],0,[]⟩)->AM.Comes ⟨A0,T,A1⟩ 64 [x.F] [ownd 0 1 (ints L)]:=fun a b L e h=>by
  subst e;exact⟨_,_,h,D2 (.inr ⟨rfl,rfl⟩)⟩
 by_cases e2:x.op=2
 . refine one x.a _ (by simp[readsD,e2]) ?_
   rw[A3 (c:=Xr) (nt:=27) (rs:=[.tmp 2]) rfl (by simp)];unfold Xr;unfold K0 Ins.F;simp -implicitDefEqProofs only[eq_true e2,XP,seval]
 by_cases e4:x.op=4
 . refine one x.a _ (by simp[readsD,e4]) ?_
   rw[A3 (c:=Xr) (nt:=27) (rs:=[.tmp 2]) rfl (by simp)];unfold Xr;unfold K0 Ins.F;simp -implicitDefEqProofs only[e2,eq_true e4,XP,seval]
 by_cases e5:x.op=5
 . refine one x.a _ (by simp[readsD,e5]) ?_
   rw[A3 (c:=Xr) (nt:=27) (rs:=[.tmp 2]) rfl (by simp)];unfold Xr;unfold K0 Ins.F;simp -implicitDefEqProofs only[e2,e4,eq_true e5,XP,seval]
 by_cases e8:x.op=8
 . refine one x.a _ (by simp[readsD,e8]) ?_
   rw[A3 (c:=Xr) (nt:=27) (rs:=[.tmp 2]) rfl (by simp)];unfold Xr;unfold K0 Ins.F;simp -implicitDefEqProofs only[e2,e4,e5,eq_true e8,XP,seval]
 by_cases e11:x.op=11
 . refine one x.a _ (by simp[readsD,e11]) ?_
   rw[A3 (c:=Xr) (nt:=27) (rs:=[.tmp 2]) rfl (by simp)];unfold Xr;unfold K0 Ins.F;simp -implicitDefEqProofs only[e2,e4,e5,e8,eq_true e11,XP,seval]
 by_cases e3:x.op=3
 . refine two x.a x.b _ (by simp[readsD,e3]) ?_
   rw[A3 (c:=Xr) (nt:=27) (rs:=[.tmp 2]) rfl (by simp)];unfold Xr;unfold K0 Ins.F;simp -implicitDefEqProofs only[e2,e4,e5,e8,e11,eq_true e3,XP,seval]
 by_cases e6:x.op=6
 . refine two x.a x.b _ (by simp[readsD,e6]) ?_
   rw[A3 (c:=Xr) (nt:=27) (rs:=[.tmp 2]) rfl (by simp)];unfold Xr;unfold K0 Ins.F;simp -implicitDefEqProofs only[e2,e4,e5,e8,e11,e3,eq_true e6,XP,seval]
 by_cases e9:x.op=9
 . rw[show readsD x=x.args by simp[readsD,e9]]
   refine⟨[.msl 0 0 x.args.length 1],⟨[.row 0 (ints x.args) 1],0,[]⟩,?_,D2 (.inr ⟨by rw[zqa],rfl⟩)⟩;rw[A3 (c:=Xr) (nt:=27) (rs:=[.tmp 2]) rfl (by simp)];unfold Xr;unfold K0 Ins.F;have t:∀{K:PK},evP ⟨A0,T,A1⟩ (.call 43 [fslN (ints x.args)] K)=some (.val (openTs K.os.length [ownd 0 1 (ints x.args)]).1 ⟨K.os++(openTs K.os.length [ownd 0 1 (ints x.args)]).2,K.ext,K.tch⟩):=B5 hCloneInts (by simp -implicitDefEqProofs only[frzL_ints,XP,seval]) (l9 hk) rfl;simp -implicitDefEqProofs only[e2,e4,e5,e8,e11,e3,e6,eq_true e9,t,zqa,XP,seval]
 . rw[show readsD x=[] by simp[readsD,e2,e4,e5,e8,e11,e3,e6,e9]]
   refine⟨[.nilsl],⟨[],0,[]⟩,?_,D2 (.inl ⟨rfl,rfl,rfl⟩)⟩;rw[A3 (c:=Xr) (nt:=27) (rs:=[.tmp 2]) rfl (by simp)];unfold Xr;unfold K0 Ins.F;simp -implicitDefEqProofs only[e2,e4,e5,e8,e11,e3,e6,e9,XP,seval]
def An:=S7 (fun p:(Ins)=>[p.F]) (fun p=>[ownd 0 1 (ints (readsD p))]) (fun p=>p.ok)
theorem pJ(hir_Reads:T 64=some An){x:Ins}{K:PK}(hk:x.ok):evP ⟨A0,T,A1⟩ (.call 64 [x.F] K)=some (.val (openTs K.os.length [ownd 0 1 (ints (readsD x))]).1 ⟨K.os++(openTs K.os.length [ownd 0 1 (ints (readsD x))]).2,K.ext,K.tch⟩):=B5 hir_Reads (by simp -implicitDefEqProofs only[VV,XP,seval]) (B9 (a:=fun p:(Ins)=>[p.F]) (r:=fun p=>[ownd 0 1 (ints (readsD p))]) (fun x y e=>by simp only[VJ]at e;simp only[e]) (x) hk) (by simp -implicitDefEqProofs only[VN,XP,seval])
theorem eR(hCloneInts:T 43=some F3)(hP:PEok ⟨A0,T,A1⟩):TC A0 64 An:=C0 hP fun p h=>Sv hCloneInts h
def idxOf{X:Type}(p:X->Bool)(l:List X):Int:=match l.findIdx? p with|some i=>(i:Int)|none=>-1
theorem idx_loop{P:PE}{c:PC}{X:Type}{p:X->Bool}{l:List X}{S:Nat->PF}{K:PK}
 (h1:∀i (h:i<l.length),p l[i]=false->evP P (.code c (S i) K)=some (.ok .normal (S (i+1)) K))
 (h2:∀i (h:i<l.length),p l[i]=true->∃fr',evP P (.code c (S i) K)=some (.ok .ret fr' K)/\lookP fr' 4=.int .i64 (i:Int))
 (hx:∃fr',evP P (.code c (S l.length) K)=some (.ok (.exit 0) fr' K)):
 (∃i:Nat,idxOf p l=i/\∃fr',evP P (.code (.loop c) (S 0) K)=some (.ok .ret fr' K)/\lookP fr' 4=.int .i64 (i:Int))\/(idxOf p l=-1/\∃fr',evP P (.code (.loop c) (S 0) K)=some (.ok (.exit 0) fr' K)):=by
 have key:∀(n i:Nat),l.length=i+n->(∀j (hj:j<l.length),j<i->p l[j]=false)->(∃k:Nat,idxOf p l=k/\∃fr',evP P (.code (.loop c) (S i) K)=some (.ok .ret fr' K)/\lookP fr' 4=.int .i64 (k:Int))\/(idxOf p l=-1/\∃fr',evP P (.code (.loop c) (S i) K)=some (.ok (.exit 0) fr' K)):=fun n=>by
  induction n with
  | zero =>
   intro i e hp;obtain rfl:i=l.length:=by omega
   obtain⟨fr',h⟩:=hx;refine .inr ⟨?_,fr',C7 h⟩;unfold idxOf
   have:l.findIdx? p=none:=by
    rw[zqs];intro x hm;obtain⟨j,hj,rfl⟩:=List.getElem_of_mem hm;exact hp j hj hj
   rw[this]
  | succ n ih =>
   intro i e hp;have hl:i<l.length:=by omega
   cases hq:p l[i]with
   | false =>
    rw[loop_more (h1 i hl hq)];refine ih (i+1) (by omega) fun j hj hji=>?_
    by_cases he:j=i
    . subst he;exact hq
    . exact hp j hj (by omega)
   | true =>
    obtain⟨fr',q1,q2⟩:=h2 i hl hq;refine .inl ⟨i,?_,fr',j4 q1,q2⟩;unfold idxOf
    have:l.findIdx? p=some i:=by
     rw[zqn];exact⟨hl,hq,fun j hj=>by simpa using hp j (by omega) hj⟩
    rw[this]
 exact key l.length 0 (by omega) fun j hj h=>absurd h (by omega)
theorem mA{X:Type}{p:X->Bool}{l:List X}:decide (0<=idxOf p l)=l.any p:=by
 unfold idxOf;cases h:l.findIdx? p with
 | none =>
  rw[zqs]at h
  have:l.any p=false:=by rw[List.any_eq_false];intro x hx;simp[h x hx]
  rw[this];rfl
 | some i =>
  rw[zqn]at h;obtain⟨h1,h2,_⟩:=h
  have:l.any p=true:=List.any_eq_true.2 ⟨_,zqc h1,h2⟩
  rw[this];simp
section
variable {l:List Int}{i:Nat}{v:Int}
theorem IH(h:i<l.length)(hs:l.length<=bigN)(hp:decide (v=l[i])=false):evP ⟨A0,T,A1⟩ (.code Gf [(0,fslN (ints l)),(1,.int .i64 v),(7,.int .i64 (l.length:Int)),(8,.int .i64 (i:Int))] ⟨[],0,[]⟩)=some (.ok .normal [(0,fslN (ints l)),(1,.int .i64 v),(7,.int .i64 (l.length:Int)),(8,.int .i64 ((i+1:Nat):Int))] ⟨[],0,[]⟩):=by
 unfold Gf;have hlt:decide ((i:Int)<(l.length:Int))=true:=by simp[h]
 have hw:=B3 (i:=i) (by simp only[bigN]at hs;omega);simp -implicitDefEqProofs only[hlt,A9 h,hw,hp,XP,seval]
theorem II(h:i<l.length)(hp:decide (v=l[i])=true):∃fr',evP ⟨A0,T,A1⟩ (.code Gf [(0,fslN (ints l)),(1,.int .i64 v),(7,.int .i64 (l.length:Int)),(8,.int .i64 (i:Int))] ⟨[],0,[]⟩)=some (.ok .ret fr' ⟨[],0,[]⟩)/\lookP fr' 4=.int .i64 (i:Int):=by
 unfold Gf;have hlt:decide ((i:Int)<(l.length:Int))=true:=by simp[h]
 simp -implicitDefEqProofs only[hlt,A9 h,hp,XP,seval];exact⟨_,rfl,rfl⟩
theorem IJ:∃fr',evP ⟨A0,T,A1⟩ (.code Gf [(0,fslN (ints l)),(1,.int .i64 v),(7,.int .i64 (l.length:Int)),(8,.int .i64 (l.length:Int))] ⟨[],0,[]⟩)=some (.ok (.exit 0) fr' ⟨[],0,[]⟩):=by
 unfold Gf;have hlt:decide ((l.length:Int)<(l.length:Int))=false:=by simp
 simp -implicitDefEqProofs only[hlt,XP,seval];exact⟨_,rfl⟩
theorem Wb  {l:List Int} {v:Int} (hk:l.length<=bigN):AM.Comes ⟨A0,T,A1⟩ 79 [fslN (ints l),.int .i64 v] [.int .i64 (idxOf (fun n=>decide (v=n)) l)]:=by
 refine⟨[.int .i64 (idxOf (fun n=>decide (v=n)) l)],⟨[],0,[]⟩,?_,back_of rfl zqb rfl rfl rfl⟩;rw[A3 (c:=PP) (nt:=19) (rs:=[.tmp 4]) rfl (by simp)];unfold PP;unfold K0;rcases idx_loop (P:=⟨A0,T,A1⟩) (c:=Gf) (p:=fun n=>decide (v=n)) (l:=l) (S:=fun i=>[(0,fslN (ints l)),(1,.int .i64 v),(7,.int .i64 (l.length:Int)),(8,.int .i64 (i:Int))]) (K:=⟨[],0,[]⟩) (fun i h hp=>IH h hk hp) (fun i h hp=>II h hp) IJ with⟨i,e,fr',h1,h2⟩|⟨e,fr',h1⟩
 . have h1:evP ⟨A0,T,A1⟩ (.code (.loop Gf) [(0,fslN (ints l)),(1,.int .i64 v),(7,.int .i64 (l.length:Int)),(8,.int .i64 0)] ⟨[],0,[]⟩)=_:=h1
   simp -implicitDefEqProofs only[h1,h2,e,zqa,XP,seval]
 . have h1:evP ⟨A0,T,A1⟩ (.code (.loop Gf) [(0,fslN (ints l)),(1,.int .i64 v),(7,.int .i64 (l.length:Int)),(8,.int .i64 0)] ⟨[],0,[]⟩)=_:=h1
   simp -implicitDefEqProofs only[h1,e,zqa,XP,seval]
def Dv:=S7 (fun p:(List Int)×(Int)=>[fslN (ints p.1),.int .i64 p.2]) (fun p=>[.int .i64 (idxOf (fun n=>decide (p.2=n)) p.1)]) (fun p=>p.1.length<=bigN)
theorem tP(hIdxInts:T 79=some Dv){l:List Int}{v:Int}{K:PK}(hk:l.length<=bigN):evP ⟨A0,T,A1⟩ (.call 79 [fslN (ints l),.int .i64 v] K)=some (.val (openTs K.os.length [.int .i64 (idxOf (fun n=>decide (v=n)) l)]).1 ⟨K.os++(openTs K.os.length [.int .i64 (idxOf (fun n=>decide (v=n)) l)]).2,K.ext,K.tch⟩):=B5 hIdxInts (by simp -implicitDefEqProofs only[VV,XP,seval]) (B9 (a:=fun p:(List Int)×(Int)=>[fslN (ints p.1),.int .i64 p.2]) (r:=fun p=>[.int .i64 (idxOf (fun n=>decide (p.2=n)) p.1)]) (fun x y e=>by simp only[VJ]at e;simp only[e]) (l,v) hk) (by simp -implicitDefEqProofs only[VN,XP,seval])
theorem jK  (hP:PEok ⟨A0,T,A1⟩):TC A0 79 Dv:=C0 hP fun p h=>Wb  h
theorem Sw(hIdxInts:T 79=some Dv){l:List Int}{v:Int}(hk:l.length<=bigN):AM.Comes ⟨A0,T,A1⟩ 66 [fslN (ints l),.int .i64 v] [.bool (l.any fun n=>decide (v=n))]:=by
 refine⟨[.bool (l.any fun n=>decide (v=n))],⟨[],0,[]⟩,?_,back_of rfl zqb rfl rfl rfl⟩;rw[A3 (c:=OX) (nt:=9) (rs:=[.tmp 4]) rfl (by simp)];unfold OX;unfold K0;rw[<-mA];have t:=fun K=>tP (K:=K) (v:=v) hIdxInts hk
 simp -implicitDefEqProofs only[t,XP,seval]
def m7:=S7 (fun p:(List Int)×(Int)=>[fslN (ints p.1),.int .i64 p.2]) (fun p=>[.bool (p.1.any fun n=>decide (p.2=n))]) (fun p=>p.1.length<=bigN)
theorem eS(hIdxInts:T 79=some Dv)(hP:PEok ⟨A0,T,A1⟩):TC A0 66 m7:=C0 hP fun p h=>Sw hIdxInts h
end
section
variable {l:List Int}{i:Nat}
theorem IK(hN:T 33=some D1)(h:i<l.length)(hs:l.length<=bigN)(hp:(!F5 l[i])=false):evP ⟨A0,T,A1⟩ (.code Gb [(0,fslN (ints l)),(1,.fn (.func 33) [] []),(7,.int .i64 (l.length:Int)),(8,.int .i64 (i:Int))] ⟨[],0,[]⟩)=some (.ok .normal [(0,fslN (ints l)),(1,.fn (.func 33) [] []),(7,.int .i64 (l.length:Int)),(8,.int .i64 ((i+1:Nat):Int))] ⟨[],0,[]⟩):=by
 unfold Gb;have hlt:decide ((i:Int)<(l.length:Int))=true:=by simp[h]
 have hw:=B3 (i:=i) (by simp only[bigN]at hs;omega);simp -implicitDefEqProofs only[hlt,A9 h,hw,q0 hN,hp,XP,seval]
theorem IL(hN:T 33=some D1)(h:i<l.length)(hp:(!F5 l[i])=true):∃fr',evP ⟨A0,T,A1⟩ (.code Gb [(0,fslN (ints l)),(1,.fn (.func 33) [] []),(7,.int .i64 (l.length:Int)),(8,.int .i64 (i:Int))] ⟨[],0,[]⟩)=some (.ok .ret fr' ⟨[],0,[]⟩)/\lookP fr' 4=.int .i64 (i:Int):=by
 unfold Gb;have hlt:decide ((i:Int)<(l.length:Int))=true:=by simp[h]
 simp -implicitDefEqProofs only[hlt,A9 h,q0 hN,hp,XP,seval];exact⟨_,rfl,rfl⟩
theorem IM:∃fr',evP ⟨A0,T,A1⟩ (.code Gb [(0,fslN (ints l)),(1,.fn (.func 33) [] []),(7,.int .i64 (l.length:Int)),(8,.int .i64 (l.length:Int))] ⟨[],0,[]⟩)=some (.ok (.exit 0) fr' ⟨[],0,[]⟩):=by
 unfold Gb;have hlt:decide ((l.length:Int)<(l.length:Int))=false:=by simp
 simp -implicitDefEqProofs only[hlt,XP,seval];exact⟨_,rfl⟩
theorem Wc(hN:T 33=some D1)(hI:T 50=none)(hs:l.length<=bigN)(K:PK):evP ⟨A0,T,A1⟩ (.call 50 [fslN (ints l),.fn (.func 33) [] []] K)=some (.val [.int .i64 (idxOf (fun n=>!F5 n) l)] K):=by
 refine cI (tch:=[]) hI rfl rfl rfl ?_ rfl;rw[A3 (c:=ON) (nt:=19) (rs:=[.tmp 4]) rfl (by simp)];unfold ON;rcases idx_loop (P:=⟨A0,T,A1⟩) (c:=Gb) (p:=fun n=>!F5 n) (l:=l) (S:=fun i=>[(0,fslN (ints l)),(1,.fn (.func 33) [] []),(7,.int .i64 (l.length:Int)),(8,.int .i64 (i:Int))]) (K:=⟨[],0,[]⟩) (fun i h hp=>IK hN h hs hp) (fun i h hp=>IL hN h hp) IM with⟨i,e,fr',h1,h2⟩|⟨e,fr',h1⟩
 . have h1:evP ⟨A0,T,A1⟩ (.code (.loop Gb) [(0,fslN (ints l)),(1,.fn (.func 33) [] []),(7,.int .i64 (l.length:Int)),(8,.int .i64 0)] ⟨[],0,[]⟩)=_:=h1
   simp -implicitDefEqProofs only[h1,h2,e,zqa,XP,seval]
 . have h1:evP ⟨A0,T,A1⟩ (.code (.loop Gb) [(0,fslN (ints l)),(1,.fn (.func 33) [] []),(7,.int .i64 (l.length:Int)),(8,.int .i64 0)] ⟨[],0,[]⟩)=_:=h1
   simp -implicitDefEqProofs only[h1,e,zqa,XP,seval]
theorem Sx(hN:T 33=some D1)(hI:T 50=none)(hC:T 32=none)(hs:l.length<=bigN)(K:PK):evP ⟨A0,T,A1⟩ (.call 32 [fslN (ints l),.fn (.func 33) [] []] K)=some (.val [.bool (l.any fun n=>!F5 n)] K):=by
 refine cI (tch:=[]) hC rfl rfl rfl ?_ rfl;rw[<-mA];have t:=fun K=>Wc hN hI hs K
 rw[A3 (c:=OC) (nt:=9) (rs:=[.tmp 4]) rfl (by simp)];unfold OC;simp -implicitDefEqProofs only[t,XP,seval]
end
section
variable {l:List Cod}{i:Nat}
theorem IN(hN:T 37=some K7)(h:i<l.length)(hs:l.length<=bigN)(hp:decide (l[i].name=B2)=false):evP ⟨A0,T,A1⟩ (.code Fy [(0,fslN (l.map Cod.F)),(1,.fn (.func 37) [] []),(7,.int .i64 (l.length:Int)),(8,.int .i64 (i:Int))] ⟨[],0,[]⟩)=some (.ok .normal [(0,fslN (l.map Cod.F)),(1,.fn (.func 37) [] []),(7,.int .i64 (l.length:Int)),(8,.int .i64 ((i+1:Nat):Int))] ⟨[],0,[]⟩):=by
 unfold Fy;have hlt:decide ((i:Int)<(l.length:Int))=true:=by simp[h]
 have hw:=B3 (i:=i) (by simp only[bigN]at hs;omega);have hi:=A8 (F:=Cod.F) h;have t:=fun K=>Jg (K:=K) (c:=l[i]) hN
 simp only[Cod.F]at hi t;simp -implicitDefEqProofs only[hlt,hi,hw,t,hp,XP,seval]
theorem IP(hN:T 37=some K7)(h:i<l.length)(hp:decide (l[i].name=B2)=true):∃fr',evP ⟨A0,T,A1⟩ (.code Fy [(0,fslN (l.map Cod.F)),(1,.fn (.func 37) [] []),(7,.int .i64 (l.length:Int)),(8,.int .i64 (i:Int))] ⟨[],0,[]⟩)=some (.ok .ret fr' ⟨[],0,[]⟩)/\lookP fr' 4=.int .i64 (i:Int):=by
 unfold Fy;have hlt:decide ((i:Int)<(l.length:Int))=true:=by simp[h]
 have hi:=A8 (F:=Cod.F) h;have t:=fun K=>Jg (K:=K) (c:=l[i]) hN
 simp only[Cod.F]at hi t;simp -implicitDefEqProofs only[hlt,hi,t,hp,XP,seval];exact⟨_,rfl,rfl⟩
theorem IQ:∃fr',evP ⟨A0,T,A1⟩ (.code Fy [(0,fslN (l.map Cod.F)),(1,.fn (.func 37) [] []),(7,.int .i64 (l.length:Int)),(8,.int .i64 (l.length:Int))] ⟨[],0,[]⟩)=some (.ok (.exit 0) fr' ⟨[],0,[]⟩):=by
 unfold Fy;have hlt:decide ((l.length:Int)<(l.length:Int))=false:=by simp
 simp -implicitDefEqProofs only[hlt,XP,seval];exact⟨_,rfl⟩
theorem Wd(hN:T 37=some K7)(hI:T 36=none)(hs:l.length<=bigN)(K:PK):evP ⟨A0,T,A1⟩ (.call 36 [fslN (l.map Cod.F),.fn (.func 37) [] []] K)=some (.val [.int .i64 (idxOf (fun c:Cod=>decide (c.name=B2)) l)] K):=by
 refine cI (tch:=[]) hI rfl rfl rfl ?_ rfl;rw[A3 (c:=OG) (nt:=19) (rs:=[.tmp 4]) rfl (by simp)];unfold OG;rcases idx_loop (P:=⟨A0,T,A1⟩) (c:=Fy) (p:=fun c:Cod=>decide (c.name=B2)) (l:=l) (S:=fun i=>[(0,fslN (l.map Cod.F)),(1,.fn (.func 37) [] []),(7,.int .i64 (l.length:Int)),(8,.int .i64 (i:Int))]) (K:=⟨[],0,[]⟩) (fun i h hp=>IN hN h hs hp) (fun i h hp=>IP hN h hp) IQ with⟨i,e,fr',h1,h2⟩|⟨e,fr',h1⟩
 . have h1:evP ⟨A0,T,A1⟩ (.code (.loop Fy) [(0,fslN (l.map Cod.F)),(1,.fn (.func 37) [] []),(7,.int .i64 (l.length:Int)),(8,.int .i64 0)] ⟨[],0,[]⟩)=_:=h1
   simp -implicitDefEqProofs only[h1,h2,e,zqa,XP,seval]
 . have h1:evP ⟨A0,T,A1⟩ (.code (.loop Fy) [(0,fslN (l.map Cod.F)),(1,.fn (.func 37) [] []),(7,.int .i64 (l.length:Int)),(8,.int .i64 0)] ⟨[],0,[]⟩)=_:=h1
   simp -implicitDefEqProofs only[h1,e,zqa,XP,seval]
theorem Ok(hir_mainOf_1:T 37=some K7)(nIdxCodes:T 36=none){m:Modl}(hk:m.fs.length<=bigN):AM.Comes ⟨A0,T,A1⟩ 21 [m.F] [.int .i64 (idxOf (fun c:Cod=>decide (c.name=B2)) m.fs)]:=by
 refine⟨[.int .i64 (idxOf (fun c:Cod=>decide (c.name=B2)) m.fs)],⟨[],0,[]⟩,?_,back_of rfl zqb rfl rfl rfl⟩;rw[A3 (c:=NU) (nt:=6) (rs:=[.tmp 2]) rfl (by simp)];unfold NU;unfold K0;unfold Modl.F;have t:=fun K=>Wd hir_mainOf_1 nIdxCodes hk K
 simp -implicitDefEqProofs only[t,XP,seval]
def L4:=S7 (fun p:(Modl)=>[p.F]) (fun p=>[.int .i64 (idxOf (fun c:Cod=>decide (c.name=B2)) p.fs)]) (fun p=>p.fs.length<=bigN)
theorem Hf(hir_mainOf:T 21=some L4){m:Modl}{K:PK}(hk:m.fs.length<=bigN):evP ⟨A0,T,A1⟩ (.call 21 [m.F] K)=some (.val (openTs K.os.length [.int .i64 (idxOf (fun c:Cod=>decide (c.name=B2)) m.fs)]).1 ⟨K.os++(openTs K.os.length [.int .i64 (idxOf (fun c:Cod=>decide (c.name=B2)) m.fs)]).2,K.ext,K.tch⟩):=B5 hir_mainOf (by simp -implicitDefEqProofs only[VV,XP,seval]) (B9 (a:=fun p:(Modl)=>[p.F]) (r:=fun p=>[.int .i64 (idxOf (fun c:Cod=>decide (c.name=B2)) p.fs)]) (fun x y e=>by simp only[VJ]at e;simp only[e]) (m) hk) (by simp -implicitDefEqProofs only[VN,XP,seval])
theorem aT(hir_mainOf_1:T 37=some K7)(nIdxCodes:T 36=none)(hP:PEok ⟨A0,T,A1⟩):TC A0 21 L4:=C0 hP fun p h=>Ok hir_mainOf_1 nIdxCodes h
end
def Lo(p s:List UInt8):Bool:=Nat.ble (j5 s) 4000000000||oneB p
def R3(args:List AV):Option (List AV):=match args with|[.str s,.str p]=>if Lo p s=true then some [.bool (contS p s)]else none|_=>none
theorem aU{s p:List UInt8}(h:Lo p s=true):R3 [.str s,.str p]=some [.bool (contS p s)]:=if_pos h
theorem Lr(hT:T 63=some R3){s p:List UInt8}{K:PK}(h:Lo p s=true):evP ⟨A0,T,A1⟩ (.call 63 [.str s,.str p] K)=some (.val [.bool (contS p s)] ⟨K.os++[],K.ext,K.tch⟩):=B5 hT rfl (aU h) rfl
theorem Pp{t:Nat}{a b:List UInt8}{K:PK}(h:a.length+b.length<=4611686018427387904):M4 A0 .add t (.str a) (.str b) K=.val (.str (a++b)) K:=by
 rw[bp _ _ rfl rfl];show w3 (bif Nat.ble (Nat.add (j5 a) (j5 b)) 4611686018427387904 then some (AV.str (a++b))else none) K=_
 rw[l8,l8,show Nat.ble (Nat.add a.length b.length) 4611686018427387904=true from zkf h];rfl
def Sy:List UInt8:=[32,43,32,45,32,42,32,47,32,37,32,38,32,124,32,94,32,60,60,32,62,62,32,61,61,32,33,61,32,60,32,60,61,32,62,32,62,61,32]
def Sz:List UInt8:=[32,61,61,32,33,61,32,60,32,60,61,32,62,32,62,61,32]
def Dw(x:Ins):Bool:=if x.op=3 then !decide (x.s=[])&&(!contS [32] x.s&&contS (32::(x.s++[32])) Sy)else if x.op=4 then decide (1<=x.ty)&&decide (x.ty<=3)else decide (1<=x.op)&&decide (x.op<=11)
theorem We(hstrings_Contains:T 63=some R3){x:Ins}(hk:x.s.length<=bigN):AM.Comes ⟨A0,T,A1⟩ 51 [x.F] [.bool (Dw x)]:=by
 refine⟨[.bool (Dw x)],⟨[],0,[]⟩,?_,back_of rfl zqb rfl rfl rfl⟩;rw[A3 (c:=OO) (nt:=41) (rs:=[.tmp 2]) rfl (by simp)];unfold OO;unfold K0;have d1:∀K:PK,M4 A0 .add 9 (.str [32]) (.str x.s) K=.val (.str (32::x.s)) K:=fun K=>Pp (by simp only[bigN]at hk;simp;omega)
 have d2:∀K:PK,M4 A0 .add 9 (.str (32::x.s)) (.str [32]) K=.val (.str (32::(x.s++[32]))) K:=fun K=>Pp (by simp only[bigN]at hk;simp;omega)
 have c1:=fun K=>Lr (K:=K) (s:=x.s) (p:=[32]) hstrings_Contains (by unfold Lo;rw[show oneB [32]=true from rfl,zkd])
 have c2:=fun K=>Lr (K:=K) (s:=Sy) (p:=32::(x.s++[32])) hstrings_Contains (by unfold Lo;rfl)
 unfold Ins.F Dw;unfold Sy at c2|-;by_cases e3:x.op=3
 . by_cases q1:x.s=[]
   . simp -implicitDefEqProofs only[eq_true e3,eq_true q1,zka,XP,seval]
   cases q2:contS [32] x.s with
   |true=>simp -implicitDefEqProofs only[eq_true e3,eq_false q1,c1,q2,zka,Bool.and_false,XP,seval]
   |false=>simp -implicitDefEqProofs only[eq_true e3,eq_false q1,c1,q2,d1,d2,c2,XP,seval]
 by_cases e4:x.op=4
 . by_cases q1:1<=x.ty
   . simp -implicitDefEqProofs only[e3,eq_true e4,eq_true q1,XP,seval]
   . simp -implicitDefEqProofs only[e3,eq_true e4,eq_false q1,zka,XP,seval]
 . by_cases q1:1<=x.op
   . simp -implicitDefEqProofs only[e3,e4,eq_true q1,XP,seval]
   . simp -implicitDefEqProofs only[e3,e4,eq_false q1,zka,XP,seval]
def Dx:=S7 (fun p:(Ins)=>[p.F]) (fun p=>[.bool (Dw p)]) (fun p=>p.s.length<=bigN)
theorem tQ(hir_form:T 51=some Dx){x:Ins}{K:PK}(hk:x.s.length<=bigN):evP ⟨A0,T,A1⟩ (.call 51 [x.F] K)=some (.val (openTs K.os.length [.bool (Dw x)]).1 ⟨K.os++(openTs K.os.length [.bool (Dw x)]).2,K.ext,K.tch⟩):=B5 hir_form (by simp -implicitDefEqProofs only[VV,XP,seval]) (B9 (a:=fun p:(Ins)=>[p.F]) (r:=fun p=>[.bool (Dw p)]) (fun x y e=>by simp only[VJ]at e;simp only[e]) (x) hk) (by simp -implicitDefEqProofs only[VN,XP,seval])
theorem jL(hstrings_Contains:T 63=some R3)(hP:PEok ⟨A0,T,A1⟩):TC A0 51 Dx:=C0 hP fun p h=>We hstrings_Contains h
def N2(m:Modl)(at_:Int)(arr:Bool):Bool:=thereD at_ m.gs.length&&(match m.gs[at_.toNat]? with|some g=>decide (0<g.size)==arr|none=>false)
theorem mC(t:Nat)(h:L7 A0 t=L7 A0 4)(a b:Bool)(K:PK):M4 A0 .eql t (.bool a) (.bool b) K=.val (.bool (a==b)) K:=by
 rw[bp _ _ rfl rfl,h];cases a<;>cases b<;>rfl
theorem G8{a n:Int}(h:thereD a n=true):∃k:Nat,a=k/\(k:Int)<n:=by
 unfold thereD at h;rw[zkc]at h;have h0:=of_decide_eq_true h.1;have h1:=of_decide_eq_true h.2;obtain⟨k,rfl⟩:=Int.eq_ofNat_of_zero_le h0;exact⟨k,rfl,h1⟩
theorem Ao(hir_there:T 54=some D6){m:Modl}{c:Cod}{a:Int}{arr:Bool}:AM.Comes ⟨A0,T,A1⟩ 67 [chkF m c,.int .i64 a,.bool arr] [.bool (N2 m a arr)]:=by
 refine⟨[.bool (N2 m a arr)],⟨[],0,[]⟩,?_,back_of rfl zqb rfl rfl rfl⟩;rw[A3 (c:=OY) (nt:=25) (rs:=[.tmp 6]) rfl (by simp)];unfold OY;unfold K0;have t:=fun K=>O5 (K:=K) (a:=a) (n:=m.gs.length) hir_there
 have eb:=mC 4 rfl;unfold chkF N2;cases ht:thereD a m.gs.length with
 |false=>rw[ht]at t;simp -implicitDefEqProofs only[t,zqa,zka,XP,seval]
 | true =>
  obtain⟨k,rfl,hk⟩:=G8 ht;have hk:k<m.gs.length:=by omega
  rw[ht]at t;have hi:=A8 (F:=Glo.F) hk;simp only[Glo.F]at hi;rw[show((k:Int)).toNat=k from rfl,zqd hk];simp -implicitDefEqProofs only[t,zqa,hi,eb,XP,seval]
def E2:=S7 (fun p:(Modl)×(Cod)×(Int)×(Bool)=>[chkF p.1 p.2.1,.int .i64 p.2.2.1,.bool p.2.2.2]) (fun p=>[.bool (N2 p.1 p.2.2.1 p.2.2.2)]) (fun p=>True)
theorem Hg(hir_checker_global:T 67=some E2){m:Modl}{c:Cod}{a:Int}{arr:Bool}{K:PK}:evP ⟨A0,T,A1⟩ (.call 67 [chkF m c,.int .i64 a,.bool arr] K)=some (.val (openTs K.os.length [.bool (N2 m a arr)]).1 ⟨K.os++(openTs K.os.length [.bool (N2 m a arr)]).2,K.ext,K.tch⟩):=B5 hir_checker_global (by simp -implicitDefEqProofs only[VV,XP,seval]) (B9 (a:=fun p:(Modl)×(Cod)×(Int)×(Bool)=>[chkF p.1 p.2.1,.int .i64 p.2.2.1,.bool p.2.2.2]) (r:=fun p=>[.bool (N2 p.1 p.2.2.1 p.2.2.2)]) (fun x y e=>by simp only[VJ]at e;simp only[e]) (m,c,a,arr) trivial) (by simp -implicitDefEqProofs only[VN,XP,seval])
theorem Dy(hir_there:T 54=some D6)(hP:PEok ⟨A0,T,A1⟩):TC A0 67 E2:=C0 hP fun p h=>Ao hir_there
def Ag(l:List Int)(r:Int):Int:=l.getD r.toNat 0
theorem Jh{l:List Int}{k:Nat}(h:k<l.length):(ints l)[k]?=some (.int .i64 (Ag l k)):=by
 rw[A9 h];unfold Ag;simp[h]
theorem Pq{m:Modl}{c:Cod}{r t:Int}{id:Nat}{K:PK}(hN:T 68=none)(hr:thereD r c.regs.length=true)(hK:K.os[id]?=some (.row 1 [chkF m c] 7)):
 evP ⟨A0,T,A1⟩ (.call 68 [.int .i64 r,.int .i64 t,.ptr id 0 0] K)=some (.val [.bool (decide (Ag c.regs r=t))] K):=by
 obtain⟨k,rfl,hk⟩:=G8 hr;have hi:=Jh (show k<c.regs.length by omega);rw[Ch hN rfl];rw[A3 (c:=OZ) (nt:=14) (rs:=[.tmp 5]) rfl (by simp)];unfold OZ;unfold chkF at hK;simp -implicitDefEqProofs only[hK,hi,XP,seval]
theorem Ta{P:PE}{c:PC}{X:Type}{p:X->Bool}{l:List X}{S:Nat->PF}{K:PK}{x:Nat}{Q:PF->Prop}{R:PF->PK->Prop}
 (h1:∀i (h:i<l.length),p l[i]=true->evP P (.code c (S i) K)=some (.ok .normal (S (i+1)) K))
 (h2:∀i (h:i<l.length),p l[i]=false->∃fr' K',evP P (.code c (S i) K)=some (.ok .ret fr' K')/\R fr' K')
 (hx:∃fr',evP P (.code c (S l.length) K)=some (.ok (.exit x) fr' K)/\Q fr'):
 (l.all p=true/\∃fr',evP P (.code (.loop c) (S 0) K)=some (.ok (.exit x) fr' K)/\Q fr')\/(l.all p=false/\∃fr' K',evP P (.code (.loop c) (S 0) K)=some (.ok .ret fr' K')/\R fr' K'):=by
 have key:∀(n i:Nat),l.length=i+n->((l.drop i).all p=true/\∃fr',evP P (.code (.loop c) (S i) K)=some (.ok (.exit x) fr' K)/\Q fr')\/((l.drop i).all p=false/\∃fr' K',evP P (.code (.loop c) (S i) K)=some (.ok .ret fr' K')/\R fr' K'):=fun n=>by
  induction n with
  | zero =>
   intro i e;obtain rfl:i=l.length:=by omega
   obtain⟨fr',h,q⟩:=hx;exact .inl ⟨by rw[zqe];rfl,fr',C7 h,q⟩
  | succ n ih =>
   intro i e;have hl:i<l.length:=by omega
   rw[zqf hl,List.all_cons];cases hq:p l[i]with
   | true =>
    rw[loop_more (h1 i hl hq),Bool.true_and];exact ih (i+1) (by omega)
   | false =>
    obtain⟨fr',K',q1,q2⟩:=h2 i hl hq;exact .inr ⟨rfl,fr',K',j4 q1,q2⟩
 exact key l.length 0 (by omega)
section
variable {m:Modl}{c:Cod}{x:Ins}{fr:PF}{i:Nat}{tch:List Nat}
def Ls:List Int:=[1,2,3,4,5,7,10]
def cK(c:Cod)(x:Ins):Bool:=!((!decide (x.op=9)||decide (0<=writesD x))&&(!decide (writesD x=-1) && !thereD (writesD x) c.regs.length))
def codI(l:List Cod)(i:Int):Cod:=l.getD i.toNat ⟨[],0,0,[],[]⟩
def jM(m:Modl)(c:Cod)(x:Ins):Bool:=
 if x.op=1 then decide (wrapD (Ag c.regs x.dst) x.n=x.n)else if x.op=5 then N2 m x.n true else if x.op=6 then N2 m x.n true else if x.op=7 then N2 m x.n false else if x.op=8 then N2 m x.n false
 else if x.op=9 then thereD x.n m.fs.length&&decide ((codI m.fs x.n).ps<=(codI m.fs x.n).regs.length)else true
def r6(x:Ins):Bool:=(Ls.any fun n=>decide (x.op=n))&&decide (x.dst<0)
def E1(m:Modl)(c:Cod)(x:Ins):Bool:=(readsD x).all (fun r=>thereD r c.regs.length)&&(cK c x&&(!r6 x&&jM m c x))
theorem Ji{l:List Cod}{k:Nat}(h:k<l.length):(l.map Cod.F)[k]?=some (codI l k).F:=by
 rw[A8 (F:=Cod.F) h];unfold codI;simp[h]
theorem BS{w:PO}(h2:lookP fr 2=.ptr 0 0 0)(h3:lookP fr 3=.ptr 1 0 0)(hw:T 56=some F8)(hg:T 67=some E2)(ht:T 54=some D6)(h1:x.op=1->thereD x.dst c.regs.length=true):
 evP ⟨A0,T,A1⟩ (.code Sc fr ⟨[.row 1 [chkF m c] 7,.row 1 [x.F] 8,w],0,tch⟩)=some (.ok .ret [(4,.bool (jM m c x))] ⟨[],0,[]⟩):=by
 have tw:=fun t v K=>Bt (K:=K) (t:=t) (v:=v) hw
 have tg:=fun a b K=>Hg (K:=K) (m:=m) (c:=c) (a:=a) (arr:=b) hg
 have tt:=fun a n K=>O5 (K:=K) (a:=a) (n:=n) ht
 unfold Sc tC tB tA sZ sY BF BE jM;unfold Ins.F;unfold chkF at tg|-;by_cases e1:x.op=1
 . obtain⟨k,hk,hlt⟩:=G8 (h1 e1)
   have hi:=Jh (show k<c.regs.length by omega);rw[hk];simp -implicitDefEqProofs only[h2,h3,eq_true e1,tw,hi,XP,seval]
 by_cases e5:x.op=5
 . simp -implicitDefEqProofs only[h2,h3,e1,eq_true e5,tg,XP,seval]
 by_cases e6:x.op=6
 . simp -implicitDefEqProofs only[h2,h3,e1,e5,eq_true e6,tg,XP,seval]
 by_cases e7:x.op=7
 . simp -implicitDefEqProofs only[h2,h3,e1,e5,e6,eq_true e7,tg,XP,seval]
 by_cases e8:x.op=8
 . simp -implicitDefEqProofs only[h2,h3,e1,e5,e6,e7,eq_true e8,tg,XP,seval]
 by_cases e9:x.op=9
 . cases ht:thereD x.n m.fs.length with
   |false=>simp -implicitDefEqProofs only[h2,h3,e1,e5,e6,e7,e8,eq_true e9,tt,ht,zqa,zka,XP,seval]
   | true =>
    obtain⟨k,hk,hlt⟩:=G8 ht;have hi:=Ji (show k<m.fs.length by omega);simp only[Cod.F]at hi;rw[hk]at ht|-;simp -implicitDefEqProofs only[h2,h3,e1,e5,e6,e7,e8,eq_true e9,tt,ht,zqa,hi,XP,seval]
 . simp -implicitDefEqProofs only[h2,h3,e1,e5,e6,e7,e8,e9,XP,seval]
end
section
variable {m:Modl}{c:Cod}{x:Ins}{fr:PF}{i:Nat}{L:List Int}
theorem IR(h2:lookP fr 2=.ptr 0 0 0)(h3:lookP fr 3=.ptr 1 0 0)(hw:T 56=some F8)(hg:T 67=some E2)(ht:T 54=some D6)(hc:T 66=some m7)(h1:x.op=1->¬x.dst<0->thereD x.dst c.regs.length=true):
 evP ⟨A0,T,A1⟩ (.code aI fr ⟨[.row 1 [chkF m c] 7,.row 1 [x.F] 8],0,[]⟩)=some (.ok .ret [(4,.bool (!r6 x&&jM m c x))] ⟨[],0,[]⟩):=by
 have tc:∀K:PK,K.os[2]?=some (.row 0 (ints Ls) 1)->evP ⟨A0,T,A1⟩ (.call 66 [.msl 2 0 7 1,.int .i64 x.op] K)=some (.val [.bool (Ls.any fun n=>decide (x.op=n))] ⟨K.os++[],K.ext,K.tch⟩):=fun K hK=>B5 hc (by
  simp only[Ls,ints,List.map]at hK;simp -implicitDefEqProofs only[hK,Ls,XP,seval];rfl) (B9 (a:=fun p:List Int×Int=>[fslN (ints p.1),.int .i64 p.2]) (r:=fun p=>[.bool (p.1.any fun n=>decide (p.2=n))]) (fun x y e=>by simp only[List.cons.injEq,fslN_iff,ints_iff,AV.int.injEq,true_and,and_true]at e;simp only[e]) (Ls,x.op) (by show Ls.length<=bigN;decide)) rfl
 unfold aI BD r6;cases ha:(Ls.any fun n=>decide (x.op=n))with
 | false =>
  rw[zka];rw[ha]at tc;have sw:∀(fr:PF)(tch:List Nat),lookP fr 2=.ptr 0 0 0->lookP fr 3=.ptr 1 0 0->evP ⟨A0,T,A1⟩ (.code Sc fr ⟨[.row 1 [chkF m c] 7,.row 1 [x.F] 8,.row 0 [.int .i64 1,.int .i64 2,.int .i64 3,.int .i64 4,.int .i64 5,.int .i64 7,.int .i64 10] 1],0,tch⟩)=some (.ok .ret [(4,.bool (jM m c x))] ⟨[],0,[]⟩):=fun fr tch a b=>BS a b hw hg ht fun e=>absurd ha (by simp[Ls,e])
  simp only[Ins.F]at sw|-;simp only[Ls,ints,List.map]at tc;simp -implicitDefEqProofs only[h2,h3,tc,sw,XP,seval]
 | true =>
  rw[ha]at tc;simp only[Ls,ints,List.map]at tc;by_cases hd:x.dst<0
  . simp only[Ins.F]
    simp -implicitDefEqProofs only[h2,h3,tc,eq_true hd,zka,XP,seval]
  . have sw:∀(fr:PF)(tch:List Nat),lookP fr 2=.ptr 0 0 0->lookP fr 3=.ptr 1 0 0->evP ⟨A0,T,A1⟩ (.code Sc fr ⟨[.row 1 [chkF m c] 7,.row 1 [x.F] 8,.row 0 [.int .i64 1,.int .i64 2,.int .i64 3,.int .i64 4,.int .i64 5,.int .i64 7,.int .i64 10] 1],0,tch⟩)=some (.ok .ret [(4,.bool (jM m c x))] ⟨[],0,[]⟩):=fun fr tch a b=>BS a b hw hg ht fun e=>h1 e hd
    simp only[Ins.F]at sw|-;simp -implicitDefEqProofs only[h2,h3,tc,hd,sw,XP,seval]
theorem IS(h:cK c x=true)(e:x.op=1)(hd:¬x.dst<0):thereD x.dst c.regs.length=true:=by
 unfold cK writesD at h;rw[if_pos e]at h
 have:¬x.dst=-1:=by omega
 have h9:¬x.op=9:=by omega
 cases ht:thereD x.dst c.regs.length with
 |true=>rfl
 |false=>rw[ht]at h;simp[this,h9]at h
theorem IT(h2:lookP fr 2=.ptr 0 0 0)(h3:lookP fr 3=.ptr 1 0 0)(hw:T 56=some F8)(hg:T 67=some E2)(ht:T 54=some D6)(hc:T 66=some m7)(hwr:T 65=some Z4):
 evP ⟨A0,T,A1⟩ (.code aJ fr ⟨[.row 1 [chkF m c] 7,.row 1 [x.F] 8],0,[]⟩)=some (.ok .ret [(4,.bool (cK c x&&(!r6 x&&jM m c x)))] ⟨[],0,[]⟩):=by
 have tw:=fun K=>jJ (K:=K) (x:=x) hwr
 have tt:=fun K=>O5 (K:=K) (a:=writesD x) (n:=c.regs.length) ht
 have k16:cK c x=true->∀fr:PF,lookP fr 2=.ptr 0 0 0->lookP fr 3=.ptr 1 0 0->evP ⟨A0,T,A1⟩ (.code aI fr ⟨[.row 1 [chkF m c] 7,.row 1 [x.F] 8],0,[]⟩)=some (.ok .ret [(4,.bool (!r6 x&&jM m c x))] ⟨[],0,[]⟩):=fun h fr a b=>IR a b hw hg ht hc (IS h)
 unfold aJ BC BB;have fin:cK c x=!((!decide (x.op=9)||decide (0<=writesD x))&&(!decide (writesD x=-1) && !thereD (writesD x) c.regs.length)):=rfl;simp only[Ins.F]at tw k16|-;simp only[chkF]at k16|-;by_cases e9:x.op=9
 . by_cases w0:0<=writesD x
   . have w1:¬writesD x=-1:=by omega
     cases q:thereD (writesD x) c.regs.length with
     | true =>
      have ok:cK c x=true:=by rw[fin,q];simp
      have k16:=k16 ok;rw[q]at tt;simp -implicitDefEqProofs only[h2,h3,tw,tt,eq_true e9,eq_true w0,eq_false w1,zqa,ok,k16,XP,seval]
     | false =>
      have ok:cK c x=false:=by rw[fin,q];simp[w0,w1]
      rw[q]at tt;simp -implicitDefEqProofs only[h2,h3,tw,tt,eq_true e9,eq_true w0,eq_false w1,zqa,ok,zka,XP,seval]
   . have ok:cK c x=true:=by rw[fin];simp[e9,w0]
     have k16:=k16 ok;simp -implicitDefEqProofs only[h2,h3,tw,eq_true e9,eq_false w0,ok,k16,XP,seval]
 . by_cases w1:writesD x=-1
   . have ok:cK c x=true:=by rw[fin];simp[w1]
     have k16:=k16 ok;simp -implicitDefEqProofs only[h2,h3,tw,e9,eq_true w1,ok,k16,XP,seval]
   . cases q:thereD (writesD x) c.regs.length with
     | true =>
      have ok:cK c x=true:=by rw[fin,q];simp
      have k16:=k16 ok;rw[q]at tt;simp -implicitDefEqProofs only[h2,h3,tw,tt,e9,eq_false w1,zqa,ok,k16,XP,seval]
     | false =>
      have ok:cK c x=false:=by rw[fin,q];simp[e9,w1]
      rw[q]at tt;simp -implicitDefEqProofs only[h2,h3,tw,tt,e9,eq_false w1,zqa,ok,zka,XP,seval]
theorem ZG(ht:T 54=some D6)(h:i<L.length)(hs:L.length<=bigN)(hp:thereD L[i] c.regs.length=true):evP ⟨A0,T,A1⟩ (.code Gc [(2,.ptr 0 0 0),(3,.ptr 1 0 0),(9,.msl 2 0 L.length 1),(10,.int .i64 (L.length:Int)),(11,.int .i64 (i:Int))] ⟨[.row 1 [chkF m c] 7,.row 1 [x.F] 8,.row 0 (ints L) 1],0,[]⟩)=some (.ok .normal [(2,.ptr 0 0 0),(3,.ptr 1 0 0),(9,.msl 2 0 L.length 1),(10,.int .i64 (L.length:Int)),(11,.int .i64 ((i+1:Nat):Int))] ⟨[.row 1 [chkF m c] 7,.row 1 [x.F] 8,.row 0 (ints L) 1],0,[]⟩):=by
 unfold Gc lY sX sW sV;have hlt:decide ((i:Int)<(L.length:Int))=true:=by simp[h]
 have hw:=B3 (i:=i) (by simp only[bigN]at hs;omega);have tt:=fun K=>O5 (K:=K) (a:=L[i]) (n:=c.regs.length) ht
 rw[hp]at tt;unfold chkF Ins.F;simp -implicitDefEqProofs only[hlt,A9 h,hw,tt,h,zqa,XP,seval]
theorem ZH(ht:T 54=some D6)(h:i<L.length)(hp:thereD L[i] c.regs.length=false):evP ⟨A0,T,A1⟩ (.code Gc [(2,.ptr 0 0 0),(3,.ptr 1 0 0),(9,.msl 2 0 L.length 1),(10,.int .i64 (L.length:Int)),(11,.int .i64 (i:Int))] ⟨[.row 1 [chkF m c] 7,.row 1 [x.F] 8,.row 0 (ints L) 1],0,[]⟩)=some (.ok .ret [(4,.bool false)] ⟨[],0,[]⟩):=by
 unfold Gc lY sX sW sV;have hlt:decide ((i:Int)<(L.length:Int))=true:=by simp[h]
 have tt:=fun K=>O5 (K:=K) (a:=L[i]) (n:=c.regs.length) ht
 rw[hp]at tt;unfold chkF Ins.F;simp -implicitDefEqProofs only[hlt,A9 h,tt,h,zqa,XP,seval]
theorem ZI:∃fr',evP ⟨A0,T,A1⟩ (.code Gc [(2,.ptr 0 0 0),(3,.ptr 1 0 0),(9,.msl 2 0 L.length 1),(10,.int .i64 (L.length:Int)),(11,.int .i64 (L.length:Int))] ⟨[.row 1 [chkF m c] 7,.row 1 [x.F] 8,.row 0 (ints L) 1],0,[]⟩)=some (.ok (.exit 0) fr' ⟨[.row 1 [chkF m c] 7,.row 1 [x.F] 8,.row 0 (ints L) 1],0,[]⟩)/\(lookP fr' 2=.ptr 0 0 0/\lookP fr' 3=.ptr 1 0 0):=by
 unfold Gc lY;have hlt:decide ((L.length:Int)<(L.length:Int))=false:=by simp
 simp -implicitDefEqProofs only[hlt,XP,seval];exact⟨_,rfl,rfl,rfl⟩
theorem jN(hk:x.ok):(readsD x).length<=bigN:=by
 unfold readsD
 have:x.args.length<=bigN:=by unfold Ins.ok at hk;simp only[bigN]at hk|-;omega
 repeat' split
 all_goals first|exact this|(simp[bigN])
theorem Ap(hword_Wrap:T 56=some F8)(hir_checker_global:T 67=some E2)(hir_there:T 54=some D6)(hContInts:T 66=some m7)(hir_Writes:T 65=some Z4)(hir_Reads:T 64=some An){m:Modl}{c:Cod}{x:Ins}(hk:x.ok):AM.Comes ⟨A0,T,A1⟩ 52 [chkF m c,x.F] [.bool (E1 m c x)]:=by
 refine⟨[.bool (E1 m c x)],⟨[],0,[]⟩,?_,back_of rfl zqb rfl rfl rfl⟩;rw[A3 (c:=OP) (nt:=114) (rs:=[.tmp 4]) rfl (by simp)];unfold OP;unfold K0;have hr:=fun K=>pJ (K:=K) hir_Reads hk
 have hlen:=jN hk;have k17:∀fr:PF,lookP fr 2=.ptr 0 0 0->lookP fr 3=.ptr 1 0 0->evP ⟨A0,T,A1⟩ (.code aJ fr ⟨[.row 1 [chkF m c] 7,.row 1 [x.F] 8],0,[]⟩)=some (.ok .ret [(4,.bool (cK c x&&(!r6 x&&jM m c x)))] ⟨[],0,[]⟩):=fun fr a b=>IT a b hword_Wrap hir_checker_global hir_there hContInts hir_Writes
 have lp:=Ta (P:=⟨A0,T,A1⟩) (c:=Gc) (p:=fun r=>thereD r c.regs.length) (l:=readsD x) (S:=fun i=>[(2,.ptr 0 0 0),(3,.ptr 1 0 0),(9,.msl 2 0 (readsD x).length 1),(10,.int .i64 ((readsD x).length:Int)),(11,.int .i64 (i:Int))]) (K:=⟨[.row 1 [chkF m c] 7,.row 1 [x.F] 8,.row 0 (ints (readsD x)) 1],0,[]⟩)
  (Q:=fun fr'=>lookP fr' 2=.ptr 0 0 0/\lookP fr' 3=.ptr 1 0 0) (R:=fun fr' K'=>fr'=[(4,.bool false)]/\K'=⟨[],0,[]⟩) (fun i h hp=>ZG hir_there h hlen hp) (fun i h hp=>⟨_,_,ZH hir_there h hp,rfl,rfl⟩) ZI
 unfold tD BA E1;rcases lp with⟨ha,fr',h1,h2,h3⟩|⟨ha,fr',K',h1,rfl,rfl⟩
 . have h1:evP ⟨A0,T,A1⟩ (.code (.loop Gc) [(2,.ptr 0 0 0),(3,.ptr 1 0 0),(9,.msl 2 0 (readsD x).length 1),(10,.int .i64 ((readsD x).length:Int)),(11,.int .i64 0)] _)=_:=h1
   rw[ha];simp only[Ins.F,chkF]at hr h1 k17|-;simp -implicitDefEqProofs only[hr,h1,h2,h3,k17,zqa,XP,seval]
 . have h1:evP ⟨A0,T,A1⟩ (.code (.loop Gc) [(2,.ptr 0 0 0),(3,.ptr 1 0 0),(9,.msl 2 0 (readsD x).length 1),(10,.int .i64 ((readsD x).length:Int)),(11,.int .i64 0)] _)=_:=h1
   rw[ha,zka];simp only[Ins.F,chkF]at hr h1|-;simp -implicitDefEqProofs only[hr,h1,zqa,XP,seval]
def I9:=S7 (fun p:(Modl)×(Cod)×(Ins)=>[chkF p.1 p.2.1,p.2.2.F]) (fun p=>[.bool (E1 p.1 p.2.1 p.2.2)]) (fun p=>p.2.2.ok)
theorem Hh(hir_checker_places:T 52=some I9){m:Modl}{c:Cod}{x:Ins}{K:PK}(hk:x.ok):evP ⟨A0,T,A1⟩ (.call 52 [chkF m c,x.F] K)=some (.val (openTs K.os.length [.bool (E1 m c x)]).1 ⟨K.os++(openTs K.os.length [.bool (E1 m c x)]).2,K.ext,K.tch⟩):=B5 hir_checker_places (by simp -implicitDefEqProofs only[VV,XP,seval]) (B9 (a:=fun p:(Modl)×(Cod)×(Ins)=>[chkF p.1 p.2.1,p.2.2.F]) (r:=fun p=>[.bool (E1 p.1 p.2.1 p.2.2)]) (fun x y e=>by simp only[VJ]at e;simp only[e]) (m,c,x) hk) (by simp -implicitDefEqProofs only[VN,XP,seval])
theorem Dz(hword_Wrap:T 56=some F8)(hir_checker_global:T 67=some E2)(hir_there:T 54=some D6)(hContInts:T 66=some m7)(hir_Writes:T 65=some Z4)(hir_Reads:T 64=some An)(hP:PEok ⟨A0,T,A1⟩):TC A0 52 I9:=C0 hP fun p h=>Ap hword_Wrap hir_checker_global hir_there hContInts hir_Writes hir_Reads h
end
section
variable {m:Modl}{c:Cod}{x:Ins}{fr:PF}{i:Nat}
theorem Jj(h:E1 m c x=true){r:Int}(hr:r∈readsD x):thereD r c.regs.length=true:=by
 unfold E1 at h;rw[zkc]at h;exact List.all_eq_true.1 h.1 r hr
theorem Lt(h:E1 m c x=true)(e:x.op=1\/x.op=2\/x.op=3\/x.op=4\/x.op=5\/x.op=7\/x.op=10):thereD x.dst c.regs.length=true:=by
 unfold E1 at h;simp only[zkc]at h;obtain⟨_,h1,h2,_⟩:=h;have hd:¬x.dst<0:=fun hd=>by
  have:r6 x=true:=by
   unfold r6 Ls;rcases e with e|e|e|e|e|e|e<;>simp[e,hd]
  rw[this]at h2;cases h2
 have hw:writesD x=x.dst:=by
  unfold writesD;rcases e with e|e|e|e|e|e|e<;>simp[e]
 unfold cK at h1;rw[hw]at h1;have h9:¬x.op=9:=by omega
 have:¬x.dst=-1:=by omega
 cases ht:thereD x.dst c.regs.length with
 |true=>rfl
 |false=>rw[ht]at h1;simp[this,h9]at h1
theorem tR(h:E1 m c x=true):jM m c x=true:=by
 unfold E1 at h;simp only[zkc]at h;exact h.2.2.2
theorem aV(h:E1 m c x=true)(e:x.op=5\/x.op=6\/x.op=7\/x.op=8):thereD x.n m.gs.length=true:=by
 have h:=tR h;unfold jM at h;rcases e with e|e|e|e<;>simp[e,N2]at h<;>exact h.1
theorem tS(h:E1 m c x=true)(e:x.op=9):thereD x.n m.fs.length=true/\(codI m.fs x.n).ps<=(codI m.fs x.n).regs.length:=by
 have h:=tR h;unfold jM at h;simpa[e]using h
theorem xX(h:E1 m c x=true)(e:x.op=9)(hd:¬x.dst<0):thereD x.dst c.regs.length=true:=by
 unfold E1 at h;simp only[zkc]at h;obtain⟨_,h1,h2,_⟩:=h;have hw:writesD x=x.dst:=by
  unfold writesD;simp[e];omega
 unfold cK at h1;rw[hw]at h1
 have:¬x.dst=-1:=by omega
 have h0:0<=x.dst:=by omega
 cases ht:thereD x.dst c.regs.length with
 |true=>rfl
 |false=>rw[ht]at h1;simp[this,h0]at h1
def isD(c:Cod)(r t:Int):Bool:=decide (Ag c.regs r=t)
def jO(l:List Glo)(i:Int):Glo:=l.getD i.toNat ⟨[],0,0,0⟩
theorem tT{l:List Glo}{k:Nat}(h:k<l.length):(l.map Glo.F)[k]?=some (jO l k).F:=by
 rw[A8 (F:=Glo.F) h];unfold jO;simp[h]
def IU(x:Ins):Int:=if contS (32::(x.s++[32])) Sz then 1 else x.ty
def y6(m:Modl)(c:Cod)(x:Ins):Bool:=(x.args.zip (codI m.fs x.n).regs).all (fun p=>isD c p.1 p.2)&&(decide (x.dst<0)||(!decide ((codI m.fs x.n).ty=0)&&isD c x.dst (codI m.fs x.n).ty))
def X1(m:Modl)(c:Cod)(x:Ins):Bool:=
 if x.op=2 then isD c x.a (Ag c.regs x.dst)else if x.op=3 then isD c x.a x.ty&&(isD c x.b x.ty&&isD c x.dst (IU x))else if x.op=4 then isD c x.dst (Gj x.ty)
 else if x.op=5 then isD c x.a 2&&isD c x.dst (Gj (jO m.gs x.n).ty)else if x.op=6 then isD c x.a 2&&isD c x.b (Gj (jO m.gs x.n).ty)else if x.op=7 then isD c x.dst (jO m.gs x.n).ty else if x.op=8 then isD c x.a (jO m.gs x.n).ty
 else if x.op=9 then y6 m c x else if x.op=10 then isD c x.dst 2 else if x.op=11 then isD c x.a 2 else true
def Tb(m:Modl)(x:Ins):Prop:=x.op=9->(x.args.length:Int)=(codI m.fs x.n).ps
section
variable {F:Cod}{A:List Int}
theorem ZJ(hN:T 68=none)(h:i<A.length)(hF:i<F.regs.length)(hs:A.length<=bigN)(hr:thereD A[i] c.regs.length=true)(hp:isD c A[i] F.regs[i]=true):
 evP ⟨A0,T,A1⟩ (.code Gd [(2,.fn (.func 68) [] [.ptr 0 0 0]),(4,.ptr 2 0 0),(7,.ptr 3 0 0),(18,fslN (ints A)),(19,.int .i64 (A.length:Int)),(20,.int .i64 (i:Int))] ⟨[.row 1 [chkF m c] 7,.row 1 [x.F] 8,.row 1 [x.F] 8,.row 1 [F.F] 5],2,[]⟩)=some (.ok .normal [(2,.fn (.func 68) [] [.ptr 0 0 0]),(4,.ptr 2 0 0),(7,.ptr 3 0 0),(18,fslN (ints A)),(19,.int .i64 (A.length:Int)),(20,.int .i64 ((i+1:Nat):Int))] ⟨[.row 1 [chkF m c] 7,.row 1 [x.F] 8,.row 1 [x.F] 8,.row 1 [F.F] 5],2,[]⟩):=by
 unfold Gd;have hlt:decide ((i:Int)<(A.length:Int))=true:=by simp[h]
 have hw:=B3 (i:=i) (by simp only[bigN]at hs;omega);have ic:=fun t K hK=>Pq (m:=m) (t:=t) (id:=0) (K:=K) hN hr hK
 have hp:decide (Ag c.regs A[i]=F.regs[i])=true:=hp;simp only[chkF,Ins.F,Cod.F]at ic|-;simp -implicitDefEqProofs only[hlt,A9 h,A9 hF,hw,ic,hp,XP,seval]
theorem ZK(hN:T 68=none)(h:i<A.length)(hF:i<F.regs.length)(hr:thereD A[i] c.regs.length=true)(hp:isD c A[i] F.regs[i]=false):
 ∃K',evP ⟨A0,T,A1⟩ (.code Gd [(2,.fn (.func 68) [] [.ptr 0 0 0]),(4,.ptr 2 0 0),(7,.ptr 3 0 0),(18,fslN (ints A)),(19,.int .i64 (A.length:Int)),(20,.int .i64 (i:Int))] ⟨[.row 1 [chkF m c] 7,.row 1 [x.F] 8,.row 1 [x.F] 8,.row 1 [F.F] 5],2,[]⟩)=some (.ok .ret [(6,.bool false)] K')/\K'=⟨[.row 1 [chkF m c] 7,.row 1 [x.F] 8],2,[]⟩:=by
 unfold Gd;have hlt:decide ((i:Int)<(A.length:Int))=true:=by simp[h]
 have ic:=fun t K hK=>Pq (m:=m) (t:=t) (id:=0) (K:=K) hN hr hK
 have hp:decide (Ag c.regs A[i]=F.regs[i])=false:=hp;simp only[chkF,Ins.F,Cod.F]at ic|-;simp -implicitDefEqProofs only[hlt,A9 h,A9 hF,ic,hp,XP,seval];exact⟨_,rfl,rfl⟩
theorem ZL:∃fr',evP ⟨A0,T,A1⟩ (.code Gd [(2,.fn (.func 68) [] [.ptr 0 0 0]),(4,.ptr 2 0 0),(7,.ptr 3 0 0),(18,fslN (ints A)),(19,.int .i64 (A.length:Int)),(20,.int .i64 (A.length:Int))] ⟨[.row 1 [chkF m c] 7,.row 1 [x.F] 8,.row 1 [x.F] 8,.row 1 [F.F] 5],2,[]⟩)=some (.ok (.exit 0) fr' ⟨[.row 1 [chkF m c] 7,.row 1 [x.F] 8,.row 1 [x.F] 8,.row 1 [F.F] 5],2,[]⟩)/\(lookP fr' 2=.fn (.func 68) [] [.ptr 0 0 0]/\lookP fr' 4=.ptr 2 0 0/\lookP fr' 7=.ptr 3 0 0):=by
 unfold Gd;have hlt:decide ((A.length:Int)<(A.length:Int))=false:=by simp
 simp -implicitDefEqProofs only[hlt,XP,seval];exact⟨_,rfl,rfl,rfl,rfl⟩
end
theorem pK(hN:T 68=none)(hk:x.ok)(hpl:E1 m c x=true)(e9:x.op=9)(ha:Tb m x):
 evP ⟨A0,T,A1⟩ (.body 70 [chkF m c,x.F,.fn (.func 68) [] [.ptr 0 0 0]] ⟨[.row 1 [chkF m c] 7,.row 1 [x.F] 8],2,[]⟩)=some (.val [.bool (y6 m c x)] ⟨[.row 1 [chkF m c] 7,.row 1 [x.F] 8],2,[]⟩):=by
 obtain⟨hf,hps⟩:=tS hpl e9;have ha:=ha e9;obtain⟨k,hkn,hkl⟩:=G8 hf;have hi:=Ji (show k<m.fs.length by omega);rw[<-hkn]at hi;have hlen:x.args.length<=bigN:=by unfold Ins.ok at hk;simp only[bigN]at hk|-;omega
 have hz:(x.args.zip (codI m.fs x.n).regs).length=x.args.length:=by rw[zqo];omega
 have rd:∀i (h:i<x.args.length),thereD x.args[i] c.regs.length=true:=fun i h=>Jj hpl (by
  have:readsD x=x.args:=by simp[readsD,e9]
  rw[this];exact zqc h)
 have lp:=Ta (P:=⟨A0,T,A1⟩) (c:=Gd) (p:=fun p=>isD c p.1 p.2) (l:=x.args.zip (codI m.fs x.n).regs) (S:=fun i=>[(2,.fn (.func 68) [] [.ptr 0 0 0]),(4,.ptr 2 0 0),(7,.ptr 3 0 0),(18,fslN (ints x.args)),(19,.int .i64 (x.args.length:Int)),(20,.int .i64 (i:Int))]) (K:=⟨[.row 1 [chkF m c] 7,.row 1 [x.F] 8,.row 1 [x.F] 8,.row 1 [(codI m.fs x.n).F] 5],2,[]⟩)
  (Q:=fun fr'=>lookP fr' 2=.fn (.func 68) [] [.ptr 0 0 0]/\lookP fr' 4=.ptr 2 0 0/\lookP fr' 7=.ptr 3 0 0) (R:=fun fr' K'=>fr'=[(6,.bool false)]/\K'=⟨[.row 1 [chkF m c] 7,.row 1 [x.F] 8],2,[]⟩)
  (fun i h hp=>ZJ (F:=codI m.fs x.n) (A:=x.args) hN (by omega) (by rw[zqo]at h;omega) hlen (rd i (by omega)) (by simpa using hp)) (fun i h hp=>by
    obtain⟨K',q1,q2⟩:=ZK (m:=m) (x:=x) (F:=codI m.fs x.n) (A:=x.args) hN (show i<x.args.length by omega) (by rw[zqo]at h;omega) (rd i (by omega)) (by simpa using hp);exact⟨_,K',q1,rfl,q2⟩) (by rw[hz];exact ZL)
 rw [A3 (c:=PB) (nt:=51) (rs:=[.tmp 6]) rfl (by simp)];unfold PB;have fin:y6 m c x=((x.args.zip (codI m.fs x.n).regs).all (fun p=>isD c p.1 p.2)&&(decide (x.dst<0)||(!decide ((codI m.fs x.n).ty=0)&&isD c x.dst (codI m.fs x.n).ty))):=rfl;have hix:∀te:TI,te.size=5->Kq te (fslN (m.fs.map Cod.F)) (.int .i64 x.n)=some (.fptr (codI m.fs x.n).F 0):=fun te h=>by
  rw[hkn]at hi|-;exact ix_fslN hi (by rw[h];rfl)
 have hix:=hix _ ty49_z;rcases lp with⟨hall,fr',h1,h2,h3,h4⟩|⟨hall,fr',K',h1,rfl,rfl⟩
 . have h1:evP ⟨A0,T,A1⟩ (.code (.loop Gd) [(2,.fn (.func 68) [] [.ptr 0 0 0]),(4,.ptr 2 0 0),(7,.ptr 3 0 0),(18,fslN (ints x.args)),(19,.int .i64 (x.args.length:Int)),(20,.int .i64 0)] _)=_:=h1
   rw[hall,Bool.true_and]at fin;simp only[chkF,Ins.F,Cod.F]at h1 hix|-;by_cases hd:x.dst<0
   . have fin:y6 m c x=true:=by rw[fin];simp[hd]
     simp -implicitDefEqProofs only[hix,h1,h2,h3,h4,fin,eq_true hd,zqa,XP,seval]
   . by_cases hv:(codI m.fs x.n).ty=0
     . have fin:y6 m c x=false:=by rw[fin];simp[hd,hv]
       simp -implicitDefEqProofs only[hix,h1,h2,h3,h4,fin,hd,eq_true hv,zqa,XP,seval]
     . have fin:y6 m c x=isD c x.dst (codI m.fs x.n).ty:=by rw[fin];simp[hd,hv]
       have ic:=fun t K hK=>Pq (m:=m) (r:=x.dst) (t:=t) (id:=0) (K:=K) hN (xX hpl e9 hd) hK
       unfold isD at fin;simp only[chkF]at ic;simp -implicitDefEqProofs only[hix,h1,h2,h3,h4,fin,hd,hv,ic,zqa,XP,seval]
 . have h1:evP ⟨A0,T,A1⟩ (.code (.loop Gd) [(2,.fn (.func 68) [] [.ptr 0 0 0]),(4,.ptr 2 0 0),(7,.ptr 3 0 0),(18,fslN (ints x.args)),(19,.int .i64 (x.args.length:Int)),(20,.int .i64 0)] _)=_:=h1
   rw[hall,zka]at fin;simp only[chkF,Ins.F,Cod.F]at h1 hix|-;simp -implicitDefEqProofs only[hix,h1,fin,zqa,XP,seval]
end
section
variable {m:Modl}{c:Cod}{x:Ins}{fr:PF}{i:Nat}{tch:List Nat}
theorem pL(hN:T 68=none)(hC:T 70=none)(hk:x.ok)(hpl:E1 m c x=true)(e9:x.op=9)(ha:Tb m x):
 evP ⟨A0,T,A1⟩ (.call 70 [chkF m c,x.F,.fn (.func 68) [] [.ptr 0 0 0]] ⟨[.row 1 [chkF m c] 7,.row 1 [x.F] 8],0,tch⟩)=some (.val [.bool (y6 m c x)] ⟨[.row 1 [chkF m c] 7,.row 1 [x.F] 8],0,tch⟩):=
 (Ch hC rfl).trans ((congrArg _ (pK hN hk hpl e9 ha)).trans rfl)
theorem Bu(nir_checker_types_1:T 68=none)(nir_checker_call:T 70=none)(hstrings_Contains:T 63=some R3)(hir_wide:T 69=some Dt){m:Modl}{c:Cod}{x:Ins}(hk:x.ok/\x.s.length<=bigN/\E1 m c x=true/\Tb m x):AM.Comes ⟨A0,T,A1⟩ 53 [chkF m c,x.F] [.bool (X1 m c x)]:=by
 refine⟨[.bool (X1 m c x)],⟨[],0,[]⟩,?_,back_of rfl zqb rfl rfl rfl⟩;rw[A3 (c:=OQ) (nt:=150) (rs:=[.tmp 4]) rfl (by simp)];unfold OQ;unfold K0;obtain⟨hx,hs,hpl,hargs⟩:=hk;have isr:=fun(r t:Int)(K:PK)(hr:thereD r c.regs.length=true) hK=>Pq (m:=m) (c:=c) (r:=r) (t:=t) (id:=0) (K:=K) nir_checker_types_1 hr hK
 have tw:=fun t K=>tO (K:=K) (t:=t) hir_wide
 have cc:=fun e9 tch=>pL (tch:=tch) nir_checker_types_1 nir_checker_call hx hpl e9 hargs
 have gix:∀k:Nat,x.n=k->k<m.gs.length->Kq Ck (fslN (m.gs.map Glo.F)) (.int .i64 x.n)=some (.fptr (jO m.gs x.n).F 0):=fun k hk hl=>by
  rw[hk];exact ix_fslN (tT hl) rfl
 have rix:∀k:Nat,x.dst=k->k<c.regs.length->Kq ty3 (fslN (ints c.regs)) (.int .i64 x.dst)=some (.fptr (.int .i64 (Ag c.regs x.dst)) 0):=fun k hk hl=>by
  rw[hk];exact ix_fslN (Jh hl) rfl
 unfold tI tH tG tF tE BQ BP BO BM BL BK BJ BI X1;simp only[chkF,Ins.F]at isr cc|-;by_cases e2:x.op=2
 . have ia:=fun t K hK=>isr x.a t K (Jj hpl (by simp[readsD,e2])) hK
   obtain⟨k,hk,hl⟩:=G8 (Lt hpl (by simp[e2]));have hix:=rix k hk (by omega);unfold isD;simp -implicitDefEqProofs only[eq_true e2,ia,hix,XP,seval]
 by_cases e3:x.op=3
 . have ia:=fun t K hK=>isr x.a t K (Jj hpl (by simp[readsD,e3])) hK
   have ib:=fun t K hK=>isr x.b t K (Jj hpl (by simp[readsD,e3])) hK
   have id:=fun t K hK=>isr x.dst t K (Lt hpl (by simp[e3])) hK
   have d1:∀K:PK,M4 A0 .add 9 (.str [32]) (.str x.s) K=.val (.str (32::x.s)) K:=fun K=>Pp (by simp only[bigN]at hs;simp;omega)
   have d2:∀K:PK,M4 A0 .add 9 (.str (32::x.s)) (.str [32]) K=.val (.str (32::(x.s++[32]))) K:=fun K=>Pp (by simp only[bigN]at hs;simp;omega)
   have cn:=fun K=>Lr (K:=K) (s:=Sz) (p:=32::(x.s++[32])) hstrings_Contains (by unfold Lo;rfl)
   unfold isD IU BH BG;unfold Sz at cn|-;by_cases qa:Ag c.regs x.a=x.ty
   . by_cases qb:Ag c.regs x.b=x.ty
     . cases hcc:contS (32::(x.s++[32])) [32,61,61,32,33,61,32,60,32,60,61,32,62,32,62,61,32]with
       |true=>simp -implicitDefEqProofs only[e2,eq_true e3,ia,ib,id,d1,d2,cn,hcc,eq_true qa,eq_true qb,XP,seval]
       |false=>simp -implicitDefEqProofs only[e2,eq_true e3,ia,ib,id,d1,d2,cn,hcc,eq_true qa,eq_true qb,XP,seval]
     . cases hcc:contS (32::(x.s++[32])) [32,61,61,32,33,61,32,60,32,60,61,32,62,32,62,61,32]with
       |true=>simp -implicitDefEqProofs only[e2,eq_true e3,ia,ib,id,d1,d2,cn,hcc,eq_true qa,eq_false qb,zka,XP,seval]
       |false=>simp -implicitDefEqProofs only[e2,eq_true e3,ia,ib,id,d1,d2,cn,hcc,eq_true qa,eq_false qb,zka,XP,seval]
   . cases hcc:contS (32::(x.s++[32])) [32,61,61,32,33,61,32,60,32,60,61,32,62,32,62,61,32]with
     |true=>simp -implicitDefEqProofs only[e2,eq_true e3,ia,ib,id,d1,d2,cn,hcc,eq_false qa,zka,XP,seval]
     |false=>simp -implicitDefEqProofs only[e2,eq_true e3,ia,ib,id,d1,d2,cn,hcc,eq_false qa,zka,XP,seval]
 by_cases e4:x.op=4
 . have id:=fun t K hK=>isr x.dst t K (Lt hpl (by simp[e4])) hK
   unfold isD;simp -implicitDefEqProofs only[e2,e3,eq_true e4,id,tw,XP,seval]
 by_cases e5:x.op=5
 . have ia:=fun t K hK=>isr x.a t K (Jj hpl (by simp[readsD,e5])) hK
   have id:=fun t K hK=>isr x.dst t K (Lt hpl (by simp[e5])) hK
   obtain⟨k,hk,hl⟩:=G8 (aV hpl (by simp[e5]));have hix:=gix k hk (by omega);simp only[Glo.F]at hix;unfold isD;by_cases qa:Ag c.regs x.a=2
   . simp -implicitDefEqProofs only[e2,e3,e4,eq_true e5,ia,id,hix,tw,eq_true qa,XP,seval]
   . simp -implicitDefEqProofs only[e2,e3,e4,eq_true e5,ia,id,hix,tw,eq_false qa,zka,XP,seval]
 by_cases e6:x.op=6
 . have ia:=fun t K hK=>isr x.a t K (Jj hpl (by simp[readsD,e6])) hK
   have ib:=fun t K hK=>isr x.b t K (Jj hpl (by simp[readsD,e6])) hK
   obtain⟨k,hk,hl⟩:=G8 (aV hpl (by simp[e6]));have hix:=gix k hk (by omega);simp only[Glo.F]at hix;unfold isD;by_cases qa:Ag c.regs x.a=2
   . simp -implicitDefEqProofs only[e2,e3,e4,e5,eq_true e6,ia,ib,hix,tw,eq_true qa,XP,seval]
   . simp -implicitDefEqProofs only[e2,e3,e4,e5,eq_true e6,ia,ib,hix,tw,eq_false qa,zka,XP,seval]
 by_cases e7:x.op=7
 . have id:=fun t K hK=>isr x.dst t K (Lt hpl (by simp[e7])) hK
   obtain⟨k,hk,hl⟩:=G8 (aV hpl (by simp[e7]));have hix:=gix k hk (by omega);simp only[Glo.F]at hix;unfold isD;simp -implicitDefEqProofs only[e2,e3,e4,e5,e6,eq_true e7,id,hix,XP,seval]
 by_cases e8:x.op=8
 . have ia:=fun t K hK=>isr x.a t K (Jj hpl (by simp[readsD,e8])) hK
   obtain⟨k,hk,hl⟩:=G8 (aV hpl (by simp[e8]));have hix:=gix k hk (by omega);simp only[Glo.F]at hix;unfold isD;simp -implicitDefEqProofs only[e2,e3,e4,e5,e6,e7,eq_true e8,ia,hix,XP,seval]
 by_cases e9:x.op=9
 . have cc:=cc e9
   simp -implicitDefEqProofs only[e2,e3,e4,e5,e6,e7,e8,eq_true e9,cc,XP,seval]
 by_cases e10:x.op=10
 . have id:=fun t K hK=>isr x.dst t K (Lt hpl (by simp[e10])) hK
   unfold isD;simp -implicitDefEqProofs only[e2,e3,e4,e5,e6,e7,e8,e9,eq_true e10,id,XP,seval]
 by_cases e11:x.op=11
 . have ia:=fun t K hK=>isr x.a t K (Jj hpl (by simp[readsD,e11])) hK
   unfold isD;simp -implicitDefEqProofs only[e2,e3,e4,e5,e6,e7,e8,e9,e10,eq_true e11,ia,XP,seval]
 . simp -implicitDefEqProofs only[e2,e3,e4,e5,e6,e7,e8,e9,e10,e11,XP,seval]
def K8:=S7 (fun p:(Modl)×(Cod)×(Ins)=>[chkF p.1 p.2.1,p.2.2.F]) (fun p=>[.bool (X1 p.1 p.2.1 p.2.2)]) (fun p=>p.2.2.ok/\p.2.2.s.length<=bigN/\E1 p.1 p.2.1 p.2.2=true/\Tb p.1 p.2.2)
theorem y7(hir_checker_types:T 53=some K8){m:Modl}{c:Cod}{x:Ins}{K:PK}(hk:x.ok/\x.s.length<=bigN/\E1 m c x=true/\Tb m x):evP ⟨A0,T,A1⟩ (.call 53 [chkF m c,x.F] K)=some (.val (openTs K.os.length [.bool (X1 m c x)]).1 ⟨K.os++(openTs K.os.length [.bool (X1 m c x)]).2,K.ext,K.tch⟩):=B5 hir_checker_types (by simp -implicitDefEqProofs only[VV,XP,seval]) (B9 (a:=fun p:(Modl)×(Cod)×(Ins)=>[chkF p.1 p.2.1,p.2.2.F]) (r:=fun p=>[.bool (X1 p.1 p.2.1 p.2.2)]) (fun x y e=>by simp only[VJ]at e;simp only[e]) (m,c,x) hk) (by simp -implicitDefEqProofs only[VN,XP,seval])
theorem Fp(nir_checker_types_1:T 68=none)(nir_checker_call:T 70=none)(hstrings_Contains:T 63=some R3)(hir_wide:T 69=some Dt)(hP:PEok ⟨A0,T,A1⟩):TC A0 53 K8:=C0 hP fun p h=>Bu nir_checker_types_1 nir_checker_call hstrings_Contains hir_wide h
end
section
variable {m:Modl}{c:Cod}{x:Ins}{fr:PF}{i:Nat}{tch:List Nat}
def J0(m:Modl)(c:Cod)(x:Ins):Int:=if Dw x=true then(if E1 m c x=true then(if x.op=9 then(if(x.args.length:Int)=(codI m.fs x.n).ps then(if X1 m c x=true then 0 else 6)else 7)else(if X1 m c x=true then 0 else 6))else 11)else 2
theorem Bv(hir_form:T 51=some Dx)(hir_checker_places:T 52=some I9)(hir_checker_types:T 53=some K8){m:Modl}{c:Cod}{x:Ins}(hk:x.ok/\x.s.length<=bigN):AM.Comes ⟨A0,T,A1⟩ 34 [chkF m c,x.F] [.int .i64 (J0 m c x)]:=by
 refine⟨[.int .i64 (J0 m c x)],⟨[],0,[]⟩,?_,back_of rfl zqb rfl rfl rfl⟩;rw[A3 (c:=OE) (nt:=37) (rs:=[.tmp 4]) rfl (by simp)];unfold OE;unfold K0;obtain⟨hx,hs⟩:=hk;have tf:=fun K=>tQ (K:=K) hir_form hs
 have tp:=fun K=>Hh (K:=K) (m:=m) (c:=c) hir_checker_places hx
 unfold J0;cases hf:Dw x with
 | false =>
  rw[hf]at tf;simp only[Ins.F,chkF]at tf|-;simp -implicitDefEqProofs only[tf,XP,seval]
 | true =>
  rw[hf]at tf;cases hp:E1 m c x with
  | false =>
   rw[hp]at tp;simp only[Ins.F,chkF]at tf tp|-;simp -implicitDefEqProofs only[tf,tp,XP,seval]
  | true =>
   rw[hp]at tp;by_cases e9:x.op=9
   . obtain ⟨hfn,hps⟩:=tS hp e9
     obtain ⟨k,hkn,hkl⟩:=G8 hfn;have hi:=Ji (show k<m.fs.length by omega);rw[<-hkn]at hi;have hix:Kq o9 (fslN (m.fs.map Cod.F)) (.int .i64 x.n)=some (.fptr (codI m.fs x.n).F 0):=by
      rw[hkn]at hi|-;exact ix_fslN hi rfl
     by_cases hq:(x.args.length:Int)=(codI m.fs x.n).ps
     . have tt:=fun K=>y7 (K:=K) (m:=m) (c:=c) hir_checker_types ⟨hx,hs,hp,fun _=>hq⟩
       cases ht:X1 m c x with
       |true=>rw[ht]at tt;simp only[Ins.F,chkF,Cod.F]at tf tp tt hix|-;simp -implicitDefEqProofs only[tf,tp,tt,hix,eq_true e9,eq_true hq,zqa,XP,seval]
       |false=>rw[ht]at tt;simp only[Ins.F,chkF,Cod.F]at tf tp tt hix|-;simp -implicitDefEqProofs only[tf,tp,tt,hix,eq_true e9,eq_true hq,zqa,XP,seval]
     . simp only[Ins.F,chkF,Cod.F]at tf tp hix|-;simp -implicitDefEqProofs only[tf,tp,hix,eq_true e9,hq,zqa,XP,seval]
   . have tt:=fun K=>y7 (K:=K) (m:=m) (c:=c) hir_checker_types ⟨hx,hs,hp,fun h=>absurd h e9⟩
     cases ht:X1 m c x with
     |true=>rw[ht]at tt;simp only[Ins.F,chkF]at tf tp tt|-;simp -implicitDefEqProofs only[tf,tp,tt,e9,XP,seval]
     |false=>rw[ht]at tt;simp only[Ins.F,chkF]at tf tp tt|-;simp -implicitDefEqProofs only[tf,tp,tt,e9,XP,seval]
def C9:=S7 (fun p:(Modl)×(Cod)×(Ins)=>[chkF p.1 p.2.1,p.2.2.F]) (fun p=>[.int .i64 (J0 p.1 p.2.1 p.2.2)]) (fun p=>p.2.2.ok/\p.2.2.s.length<=bigN)
theorem y8(hir_checker_instr:T 34=some C9){m:Modl}{c:Cod}{x:Ins}{K:PK}(hk:x.ok/\x.s.length<=bigN):evP ⟨A0,T,A1⟩ (.call 34 [chkF m c,x.F] K)=some (.val (openTs K.os.length [.int .i64 (J0 m c x)]).1 ⟨K.os++(openTs K.os.length [.int .i64 (J0 m c x)]).2,K.ext,K.tch⟩):=B5 hir_checker_instr (by simp -implicitDefEqProofs only[VV,XP,seval]) (B9 (a:=fun p:(Modl)×(Cod)×(Ins)=>[chkF p.1 p.2.1,p.2.2.F]) (r:=fun p=>[.int .i64 (J0 p.1 p.2.1 p.2.2)]) (fun x y e=>by simp only[VJ]at e;simp only[e]) (m,c,x) hk) (by simp -implicitDefEqProofs only[VN,XP,seval])
theorem Fq(hir_form:T 51=some Dx)(hir_checker_places:T 52=some I9)(hir_checker_types:T 53=some K8)(hP:PEok ⟨A0,T,A1⟩):TC A0 34 C9:=C0 hP fun p h=>Bv hir_form hir_checker_places hir_checker_types h
def Bw(c:Cod)(e:Endd):Int:=
 if e.kind=1 then(if thereD e.to c.blocks.length=true then 0 else 11)
 else if e.kind=2 then(if thereD e.to c.blocks.length=true then(if thereD e.els c.blocks.length=true then(if thereD e.a c.regs.length=true then(if Ag c.regs e.a=1 then 0 else 6)else 11)else 11)else 11)
 else if e.kind=3 then(if e.a<0 then(if c.ty=0 then 0 else 6)else(if thereD e.a c.regs.length=true then(if c.ty=0 then 6 else if Ag c.regs e.a=c.ty then 0 else 6)else 11))else 2
theorem Ea(hir_there:T 54=some D6){m:Modl}{c:Cod}{e:Endd}:AM.Comes ⟨A0,T,A1⟩ 35 [chkF m c,e.F] [.int .i64 (Bw c e)]:=by
 refine⟨[.int .i64 (Bw c e)],⟨[],0,[]⟩,?_,back_of rfl zqb rfl rfl rfl⟩;rw[A3 (c:=OF) (nt:=100) (rs:=[.tmp 4]) rfl (by simp)];unfold OF;unfold K0;have tt:=fun a n K=>O5 (K:=K) (a:=a) (n:=n) hir_there
 have eb:=mC 4 rfl;have rix:∀k:Nat,e.a=k->k<c.regs.length->Kq ty3 (fslN (ints c.regs)) (.int .i64 e.a)=some (.fptr (.int .i64 (Ag c.regs e.a)) 0):=fun k hk hl=>by
  rw[hk];exact ix_fslN (Jh hl) rfl
 have b1:(true==true)=true:=rfl;have b2:(true==false)=false:=rfl;have b3:(false==true)=false:=rfl;have b4:(false==false)=true:=rfl;unfold Bw;simp only[Endd.F,chkF];by_cases e1:e.kind=1
 . cases h1:thereD e.to c.blocks.length with
   |true=>simp -implicitDefEqProofs only[tt,h1,eq_true e1,zqa,XP,seval]
   |false=>simp -implicitDefEqProofs only[tt,h1,eq_true e1,zqa,XP,seval]
 by_cases e2:e.kind=2
 . cases h1:thereD e.to c.blocks.length with
   |false=>simp -implicitDefEqProofs only[tt,h1,e1,eq_true e2,zqa,XP,seval]
   | true =>
    cases h2:thereD e.els c.blocks.length with
    |false=>simp -implicitDefEqProofs only[tt,h1,h2,e1,eq_true e2,zqa,XP,seval]
    | true =>
     cases h3:thereD e.a c.regs.length with
     |false=>simp -implicitDefEqProofs only[tt,h1,h2,h3,e1,eq_true e2,zqa,XP,seval]
     | true =>
      obtain⟨k,hk,hl⟩:=G8 h3;have hix:=rix k hk (by omega);by_cases hq:Ag c.regs e.a=1
      . simp -implicitDefEqProofs only[tt,h1,h2,h3,hix,eq_true hq,e1,eq_true e2,zqa,XP,seval]
      . simp -implicitDefEqProofs only[tt,h1,h2,h3,hix,hq,e1,eq_true e2,zqa,XP,seval]
 by_cases e3:e.kind=3
 . by_cases ha:e.a<0
   . by_cases hv:c.ty=0
     . simp -implicitDefEqProofs only[tt,eb,b1,b2,b3,b4,eq_true ha,eq_true hv,e1,e2,eq_true e3,zqa,XP,seval]
     . simp -implicitDefEqProofs only[tt,eb,b1,b2,b3,b4,eq_true ha,hv,e1,e2,eq_true e3,zqa,XP,seval]
   . cases h3:thereD e.a c.regs.length with
     |false=>simp -implicitDefEqProofs only[tt,h3,ha,e1,e2,eq_true e3,zqa,XP,seval]
     | true =>
      obtain⟨k,hk,hl⟩:=G8 h3;have hix:=rix k hk (by omega);by_cases hv:c.ty=0
      . simp -implicitDefEqProofs only[tt,h3,eb,b1,b2,b3,b4,ha,eq_true hv,e1,e2,eq_true e3,zqa,XP,seval]
      . by_cases hq:Ag c.regs e.a=c.ty
        . simp -implicitDefEqProofs only[tt,h3,hix,eb,b1,b2,b3,b4,ha,hv,eq_true hq,e1,e2,eq_true e3,zqa,XP,seval]
        . simp -implicitDefEqProofs only[tt,h3,hix,eb,b1,b2,b3,b4,ha,hv,hq,e1,e2,eq_true e3,zqa,XP,seval]
 . simp -implicitDefEqProofs only[e1,e2,e3,zqa,XP,seval]
def I0:=S7 (fun p:(Modl)×(Cod)×(Endd)=>[chkF p.1 p.2.1,p.2.2.F]) (fun p=>[.int .i64 (Bw p.2.1 p.2.2)]) (fun p=>True)
theorem Cg(hir_checker_end:T 35=some I0){m:Modl}{c:Cod}{e:Endd}{K:PK}:evP ⟨A0,T,A1⟩ (.call 35 [chkF m c,e.F] K)=some (.val (openTs K.os.length [.int .i64 (Bw c e)]).1 ⟨K.os++(openTs K.os.length [.int .i64 (Bw c e)]).2,K.ext,K.tch⟩):=B5 hir_checker_end (by simp -implicitDefEqProofs only[VV,XP,seval]) (B9 (a:=fun p:(Modl)×(Cod)×(Endd)=>[chkF p.1 p.2.1,p.2.2.F]) (r:=fun p=>[.int .i64 (Bw p.2.1 p.2.2)]) (fun x y e=>by simp only[VJ]at e;simp only[e]) (m,c,e) trivial) (by simp -implicitDefEqProofs only[VN,XP,seval])
theorem Jk(hir_there:T 54=some D6)(hP:PEok ⟨A0,T,A1⟩):TC A0 35 I0:=C0 hP fun p h=>Ea hir_there
def G4:List Int->Int
 |[]=>0
 |e::l=>if e=0 then G4 l else e
theorem err_loop{P:PE}{c:PC}{X:Type}{f:X->Int}{l:List X}{S:Nat->PF}{K:PK}{x:Nat}{Q:PF->Prop}{R:Int->PF->PK->Prop}
 (h1:∀i (h:i<l.length),f l[i]=0->evP P (.code c (S i) K)=some (.ok .normal (S (i+1)) K))
 (h2:∀i (h:i<l.length),¬f l[i]=0->∃fr' K',evP P (.code c (S i) K)=some (.ok .ret fr' K')/\R (f l[i]) fr' K')
 (hx:∃fr',evP P (.code c (S l.length) K)=some (.ok (.exit x) fr' K)/\Q fr'):
 (G4 (l.map f)=0/\∃fr',evP P (.code (.loop c) (S 0) K)=some (.ok (.exit x) fr' K)/\Q fr')\/(¬G4 (l.map f)=0/\∃fr' K',evP P (.code (.loop c) (S 0) K)=some (.ok .ret fr' K')/\R (G4 (l.map f)) fr' K'):=by
 have key:∀(n i:Nat),l.length=i+n->(G4 ((l.drop i).map f)=0/\∃fr',evP P (.code (.loop c) (S i) K)=some (.ok (.exit x) fr' K)/\Q fr')\/(¬G4 ((l.drop i).map f)=0/\∃fr' K',evP P (.code (.loop c) (S i) K)=some (.ok .ret fr' K')/\R (G4 ((l.drop i).map f)) fr' K'):=fun n=>by
  induction n with
  | zero =>
   intro i e;obtain rfl:i=l.length:=by omega
   obtain⟨fr',h,q⟩:=hx;exact .inl ⟨by rw[zqe];rfl,fr',C7 h,q⟩
  | succ n ih =>
   intro i e;have hl:i<l.length:=by omega
   rw[zqf hl,List.map_cons];unfold G4;by_cases hq:f l[i]=0
   . rw[loop_more (h1 i hl hq),if_pos hq]
     exact ih (i+1) (by omega)
   . obtain⟨fr',K',q1,q2⟩:=h2 i hl hq
     rw[if_neg hq];exact .inr ⟨hq,fr',K',j4 q1,q2⟩
 exact key l.length 0 (by omega)
end
def Ins.sok(x:Ins):Prop:=x.ok/\x.s.length<=bigN
def Blk.sok(b:Blk):Prop:=b.ok/\∀x∈b.code,x.sok
def Cod.sok(c:Cod):Prop:=c.ok/\∀b∈c.blocks,b.sok
def Modl.ok(m:Modl):Prop:=(∀c∈m.fs,c.sok)/\m.fs.length*64<=bigN/\m.gs.length*40<=bigN
section
variable {m:Modl}{c:Cod}{x:Ins}{b:Blk}{fr:PF}{i k:Nat}{tch:List Nat}
def Ol(m:Modl)(c:Cod)(b:Blk):Int:=if G4 (b.code.map (J0 m c))=0 then Bw c b.e else G4 (b.code.map (J0 m c))
def R7(m:Modl)(c:Cod):Int:=
 if c.blocks.length<1\/400<c.blocks.length\/4096<c.regs.length then 9 else if c.ps<0\/(c.regs.length:Int)<c.ps then 11
 else if c.ty<0\/2<c.ty\/(c.regs.any fun n=>!F5 n)=true then 6 else G4 (c.blocks.map (Ol m c))
theorem IV(hT:T 34=some C9)(h:k<b.code.length)(hs:b.sok)(hp:J0 m c b.code[k]=0):
 evP ⟨A0,T,A1⟩ (.code Fx [(1,.ptr 0 0 0),(5,.ptr 1 0 0),(56,fslN (c.blocks.map Blk.F)),(57,.int .i64 (c.blocks.length:Int)),(58,.int .i64 (i:Int)),(63,fslN (b.code.map Ins.F)),(64,.int .i64 (b.code.length:Int)),(65,.int .i64 (k:Int))] ⟨[.row 1 [chkF m c] 7,.row 1 [b.F] 5],0,[]⟩)=some (.ok .normal [(1,.ptr 0 0 0),(5,.ptr 1 0 0),(56,fslN (c.blocks.map Blk.F)),(57,.int .i64 (c.blocks.length:Int)),(58,.int .i64 (i:Int)),(63,fslN (b.code.map Ins.F)),(64,.int .i64 (b.code.length:Int)),(65,.int .i64 ((k+1:Nat):Int))] ⟨[.row 1 [chkF m c] 7,.row 1 [b.F] 5],0,[]⟩):=by
 unfold Fx;have hlt:decide ((k:Int)<(b.code.length:Int))=true:=by simp[h]
 have hw:=B3 (i:=k) (by have:=hs.1.2;simp only[bigN]at this;omega);have t:=fun K=>y8 (K:=K) (m:=m) (c:=c) (x:=b.code[k]) hT (hs.2 _ (zqc h))
 rw[hp]at t;have hi:=A8 (F:=Ins.F) h;simp only[Ins.F,chkF,Blk.F]at t hi|-;simp -implicitDefEqProofs only[hlt,hi,hw,t,XP,seval]
theorem IW(hT:T 34=some C9)(h:k<b.code.length)(hs:b.sok)(hp:¬J0 m c b.code[k]=0):
 evP ⟨A0,T,A1⟩ (.code Fx [(1,.ptr 0 0 0),(5,.ptr 1 0 0),(56,fslN (c.blocks.map Blk.F)),(57,.int .i64 (c.blocks.length:Int)),(58,.int .i64 (i:Int)),(63,fslN (b.code.map Ins.F)),(64,.int .i64 (b.code.length:Int)),(65,.int .i64 (k:Int))] ⟨[.row 1 [chkF m c] 7,.row 1 [b.F] 5],0,[]⟩)=some (.ok .ret [(2,.int .i64 (J0 m c b.code[k]))] ⟨[],0,[]⟩):=by
 unfold Fx;have hlt:decide ((k:Int)<(b.code.length:Int))=true:=by simp[h]
 have t:=fun K=>y8 (K:=K) (m:=m) (c:=c) (x:=b.code[k]) hT (hs.2 _ (zqc h))
 have hi:=A8 (F:=Ins.F) h;simp only[Ins.F,chkF,Blk.F]at t hi|-;simp -implicitDefEqProofs only[hlt,hi,t,hp,XP,seval]
theorem IX:∃fr',evP ⟨A0,T,A1⟩ (.code Fx [(1,.ptr 0 0 0),(5,.ptr 1 0 0),(56,fslN (c.blocks.map Blk.F)),(57,.int .i64 (c.blocks.length:Int)),(58,.int .i64 (i:Int)),(63,fslN (b.code.map Ins.F)),(64,.int .i64 (b.code.length:Int)),(65,.int .i64 (b.code.length:Int))] ⟨[.row 1 [chkF m c] 7,.row 1 [b.F] 5],0,[]⟩)=some (.ok (.exit 3) fr' ⟨[.row 1 [chkF m c] 7,.row 1 [b.F] 5],0,[]⟩)/\(lookP fr' 1=.ptr 0 0 0/\lookP fr' 5=.ptr 1 0 0/\lookP fr' 56=fslN (c.blocks.map Blk.F)/\lookP fr' 57=.int .i64 (c.blocks.length:Int)/\lookP fr' 58=.int .i64 (i:Int)):=by
 unfold Fx;have hlt:decide ((b.code.length:Int)<(b.code.length:Int))=false:=by simp
 simp -implicitDefEqProofs only[hlt,XP,seval];exact⟨_,rfl,rfl,rfl,rfl,rfl,rfl⟩
theorem cdi_l(hT:T 34=some C9)(hs:b.sok):
 (G4 (b.code.map (J0 m c))=0/\∃fr',evP ⟨A0,T,A1⟩ (.code (.loop Fx) [(1,.ptr 0 0 0),(5,.ptr 1 0 0),(56,fslN (c.blocks.map Blk.F)),(57,.int .i64 (c.blocks.length:Int)),(58,.int .i64 (i:Int)),(63,fslN (b.code.map Ins.F)),(64,.int .i64 (b.code.length:Int)),(65,.int .i64 0)] ⟨[.row 1 [chkF m c] 7,.row 1 [b.F] 5],0,[]⟩)=some (.ok (.exit 3) fr' ⟨[.row 1 [chkF m c] 7,.row 1 [b.F] 5],0,[]⟩)/\(lookP fr' 1=.ptr 0 0 0/\lookP fr' 5=.ptr 1 0 0/\lookP fr' 56=fslN (c.blocks.map Blk.F)/\lookP fr' 57=.int .i64 (c.blocks.length:Int)/\lookP fr' 58=.int .i64 (i:Int)))\/
 (¬G4 (b.code.map (J0 m c))=0/\evP ⟨A0,T,A1⟩ (.code (.loop Fx) [(1,.ptr 0 0 0),(5,.ptr 1 0 0),(56,fslN (c.blocks.map Blk.F)),(57,.int .i64 (c.blocks.length:Int)),(58,.int .i64 (i:Int)),(63,fslN (b.code.map Ins.F)),(64,.int .i64 (b.code.length:Int)),(65,.int .i64 0)] ⟨[.row 1 [chkF m c] 7,.row 1 [b.F] 5],0,[]⟩)=some (.ok .ret [(2,.int .i64 (G4 (b.code.map (J0 m c))))] ⟨[],0,[]⟩)):=by
 rcases err_loop (P:=⟨A0,T,A1⟩) (c:=Fx) (f:=J0 m c) (l:=b.code) (S:=fun k=>[(1,.ptr 0 0 0),(5,.ptr 1 0 0),(56,fslN (c.blocks.map Blk.F)),(57,.int .i64 (c.blocks.length:Int)),(58,.int .i64 (i:Int)),(63,fslN (b.code.map Ins.F)),(64,.int .i64 (b.code.length:Int)),(65,.int .i64 (k:Int))]) (K:=⟨[.row 1 [chkF m c] 7,.row 1 [b.F] 5],0,[]⟩) (Q:=fun fr'=>lookP fr' 1=.ptr 0 0 0/\lookP fr' 5=.ptr 1 0 0/\lookP fr' 56=fslN (c.blocks.map Blk.F)/\lookP fr' 57=.int .i64 (c.blocks.length:Int)/\lookP fr' 58=.int .i64 (i:Int)) (R:=fun e fr' K'=>fr'=[(2,.int .i64 e)]/\K'=⟨[],0,[]⟩)
  (fun k h hp=>IV hT h hs hp) (fun k h hp=>⟨_,_,IW hT h hs hp,rfl,rfl⟩) IX with h|⟨h,fr',K',q,rfl,rfl⟩
 . exact .inl h
 . exact .inr ⟨h,q⟩
theorem IY(hT:T 34=some C9)(hE:T 35=some I0)(h:i<c.blocks.length)(hs:c.sok)(hp:Ol m c c.blocks[i]=0):
 evP ⟨A0,T,A1⟩ (.code Dq [(1,.ptr 0 0 0),(56,fslN (c.blocks.map Blk.F)),(57,.int .i64 (c.blocks.length:Int)),(58,.int .i64 (i:Int))] ⟨[.row 1 [chkF m c] 7],0,[]⟩)=some (.ok .normal [(1,.ptr 0 0 0),(56,fslN (c.blocks.map Blk.F)),(57,.int .i64 (c.blocks.length:Int)),(58,.int .i64 ((i+1:Nat):Int))] ⟨[.row 1 [chkF m c] 7],0,[]⟩):=by
 have hb:=hs.2 _ (zqc h);have hlt:decide ((i:Int)<(c.blocks.length:Int))=true:=by simp[h]
 have hw:=B3 (i:=i) (by have:=hs.1.2.2;simp only[bigN]at this;omega);have hi:=A8 (F:=Blk.F) h;have t:=fun K=>Cg (K:=K) (m:=m) (c:=c) (e:=c.blocks[i].e) hE
 unfold Ol at hp;rcases cdi_l (m:=m) (c:=c) (i:=i) hT hb with⟨q,fr',h1,h2,h3,h4,h5,h6⟩|⟨q,h1⟩
 . rw[if_pos q]at hp
   rw[hp]at t;unfold Dq;simp only[chkF,Blk.F,Endd.F]at h1 hi t|-;simp -implicitDefEqProofs only[hlt,hi,hw,h1,h2,h3,h4,h5,h6,t,zqa,XP,seval]
 . rw[if_neg q]at hp;exact absurd hp q
theorem IZ(hT:T 34=some C9)(hE:T 35=some I0)(h:i<c.blocks.length)(hs:c.sok)(hp:¬Ol m c c.blocks[i]=0):
 evP ⟨A0,T,A1⟩ (.code Dq [(1,.ptr 0 0 0),(56,fslN (c.blocks.map Blk.F)),(57,.int .i64 (c.blocks.length:Int)),(58,.int .i64 (i:Int))] ⟨[.row 1 [chkF m c] 7],0,[]⟩)=some (.ok .ret [(2,.int .i64 (Ol m c c.blocks[i]))] ⟨[],0,[]⟩):=by
 have hb:=hs.2 _ (zqc h);have hlt:decide ((i:Int)<(c.blocks.length:Int))=true:=by simp[h]
 have hi:=A8 (F:=Blk.F) h;have t:=fun K=>Cg (K:=K) (m:=m) (c:=c) (e:=c.blocks[i].e) hE
 unfold Ol at hp|-;rcases cdi_l (m:=m) (c:=c) (i:=i) hT hb with⟨q,fr',h1,h2,h3,h4,h5,h6⟩|⟨q,h1⟩
 . rw[if_pos q]at hp|-
   unfold Dq;simp only[chkF,Blk.F,Endd.F]at h1 hi t|-;simp -implicitDefEqProofs only[hlt,hi,h1,h2,h3,h4,h5,h6,t,hp,zqa,XP,seval]
 . rw[if_neg q]
   unfold Dq;simp only[chkF,Blk.F]at h1 hi|-;simp -implicitDefEqProofs only[hlt,hi,h1,zqa,XP,seval]
theorem JA:∃fr',evP ⟨A0,T,A1⟩ (.code Dq [(1,.ptr 0 0 0),(56,fslN (c.blocks.map Blk.F)),(57,.int .i64 (c.blocks.length:Int)),(58,.int .i64 (c.blocks.length:Int))] ⟨[.row 1 [chkF m c] 7],0,[]⟩)=some (.ok (.exit 1) fr' ⟨[.row 1 [chkF m c] 7],0,[]⟩)/\True:=by
 unfold Dq;have hlt:decide ((c.blocks.length:Int)<(c.blocks.length:Int))=false:=by simp
 simp -implicitDefEqProofs only[hlt,XP,seval];exact⟨_,rfl⟩
theorem Cl(hir_checker_instr:T 34=some C9)(hir_checker_end:T 35=some I0)(hir_checker_code_1:T 33=some D1)(nIdxFInts:T 50=none)(nContFInts:T 32=none){m:Modl}{c:Cod}(hk:c.sok):AM.Comes ⟨A0,T,A1⟩ 20 [chkF m c] [.int .i64 (R7 m c)]:=by
 refine⟨[.int .i64 (R7 m c)],⟨[],0,[]⟩,?_,back_of rfl zqb rfl rfl rfl⟩;rw[A3 (c:=NT) (nt:=84) (rs:=[.tmp 2]) rfl (by simp)];unfold NT;unfold K0;have hl:c.regs.length<=bigN:=by have:=hk.1.1;simp only[bigN]at this|-;omega
 have tc:=fun K=>Sx (l:=c.regs) hir_checker_code_1 nIdxFInts nContFInts hl K
 have lp:=err_loop (P:=⟨A0,T,A1⟩) (c:=Dq) (f:=Ol m c) (l:=c.blocks) (S:=fun i=>[(1,.ptr 0 0 0),(56,fslN (c.blocks.map Blk.F)),(57,.int .i64 (c.blocks.length:Int)),(58,.int .i64 (i:Int))]) (K:=⟨[.row 1 [chkF m c] 7],0,[]⟩) (Q:=fun fr'=>True) (R:=fun e fr' K'=>fr'=[(2,.int .i64 e)]/\K'=⟨[],0,[]⟩)
  (fun k h hp=>IY hir_checker_instr hir_checker_end h hk hp) (fun k h hp=>⟨_,_,IZ hir_checker_instr hir_checker_end h hk hp,rfl,rfl⟩) JA
 unfold R7;simp only[chkF]at tc lp|-;have q400:decide ((400:Int)<(c.blocks.length:Int))=decide (400<c.blocks.length):=decide_eq_decide.2 (by omega);have q4096:decide ((4096:Int)<(c.regs.length:Int))=decide (4096<c.regs.length):=decide_eq_decide.2 (by omega);have q1':decide ((c.blocks.length:Int)<1)=decide (c.blocks.length<1):=decide_eq_decide.2 (by omega);by_cases q1:c.blocks.length<1
 . simp -implicitDefEqProofs only[eq_true q1,q1',q400,q4096,zqa,XP,seval]
 by_cases q2:400<c.blocks.length
 . simp -implicitDefEqProofs only[eq_false q1,eq_true q2,q1',q400,q4096,zqa,XP,seval]
 by_cases q3:4096<c.regs.length
 . simp -implicitDefEqProofs only[eq_false q1,eq_false q2,eq_true q3,q1',q400,q4096,zqa,XP,seval]
 by_cases q4:c.ps<0
 . simp -implicitDefEqProofs only[eq_false q1,eq_false q2,eq_false q3,eq_true q4,q1',q400,q4096,zqa,XP,seval]
 by_cases q5:(c.regs.length:Int)<c.ps
 . simp -implicitDefEqProofs only[eq_false q1,eq_false q2,eq_false q3,eq_false q4,eq_true q5,q1',q400,q4096,zqa,XP,seval]
 by_cases q6:c.ty<0
 . simp -implicitDefEqProofs only[eq_false q1,eq_false q2,eq_false q3,eq_false q4,eq_false q5,eq_true q6,q1',q400,q4096,zqa,XP,seval]
 by_cases q7:2<c.ty
 . simp -implicitDefEqProofs only[eq_false q1,eq_false q2,eq_false q3,eq_false q4,eq_false q5,eq_false q6,eq_true q7,q1',q400,q4096,zqa,XP,seval]
 cases q8:(c.regs.any fun n=>!F5 n)with
 |true=>simp -implicitDefEqProofs only[eq_false q1,eq_false q2,eq_false q3,eq_false q4,eq_false q5,eq_false q6,eq_false q7,tc,q8,q1',q400,q4096,zqa,XP,seval]
 | false =>
  rcases lp with⟨q,fr',h1,_⟩|⟨q,fr',K',h1,rfl,rfl⟩
  . have h1:evP ⟨A0,T,A1⟩ (.code (.loop Dq) [(1,.ptr 0 0 0),(56,fslN (c.blocks.map Blk.F)),(57,.int .i64 (c.blocks.length:Int)),(58,.int .i64 0)] _)=_:=h1
    simp -implicitDefEqProofs only[eq_false q1,eq_false q2,eq_false q3,eq_false q4,eq_false q5,eq_false q6,eq_false q7,tc,q8,q,h1,q1',q400,q4096,zqa,XP,seval]
  . have h1:evP ⟨A0,T,A1⟩ (.code (.loop Dq) [(1,.ptr 0 0 0),(56,fslN (c.blocks.map Blk.F)),(57,.int .i64 (c.blocks.length:Int)),(58,.int .i64 0)] _)=_:=h1
    simp -implicitDefEqProofs only[eq_false q1,eq_false q2,eq_false q3,eq_false q4,eq_false q5,eq_false q6,eq_false q7,tc,q8,h1,q1',q400,q4096,zqa,XP,seval]
def G9:=S7 (fun p:(Modl)×(Cod)=>[chkF p.1 p.2]) (fun p=>[.int .i64 (R7 p.1 p.2)]) (fun p=>p.2.sok)
theorem Aq(hir_checker_code:T 20=some G9){m:Modl}{c:Cod}{K:PK}(hk:c.sok):evP ⟨A0,T,A1⟩ (.call 20 [chkF m c] K)=some (.val (openTs K.os.length [.int .i64 (R7 m c)]).1 ⟨K.os++(openTs K.os.length [.int .i64 (R7 m c)]).2,K.ext,K.tch⟩):=B5 hir_checker_code (by simp -implicitDefEqProofs only[VV,XP,seval]) (B9 (a:=fun p:(Modl)×(Cod)=>[chkF p.1 p.2]) (r:=fun p=>[.int .i64 (R7 p.1 p.2)]) (fun x y e=>by simp only[VJ]at e;simp only[e]) (m,c) hk) (by simp -implicitDefEqProofs only[VN,XP,seval])
theorem Hi(hir_checker_instr:T 34=some C9)(hir_checker_end:T 35=some I0)(hir_checker_code_1:T 33=some D1)(nIdxFInts:T 50=none)(nContFInts:T 32=none)(hP:PEok ⟨A0,T,A1⟩):TC A0 20 G9:=C0 hP fun p h=>Cl hir_checker_instr hir_checker_end hir_checker_code_1 nIdxFInts nContFInts h
end
section
variable {m:Modl}{c:Cod}{g:Glo}{i k:Nat}
def Tc(g:Glo):Int:=if F5 g.ty=true then 0 else if g.ty=3 then(if g.size<1 then 6 else 0)else 6
def y9(m:Modl):Int:=idxOf (fun c:Cod=>decide (c.name=B2)) m.fs
def Td(m:Modl):Int:=if y9 m<0 then 12 else if(codI m.fs (y9 m)).ty=1 then(if(codI m.fs (y9 m)).ps=0 then 0 else 12)else 12
def N3(m:Modl):Int:=if G4 (m.gs.map Tc)=0 then(if G4 (m.fs.map (R7 m))=0 then Td m else G4 (m.fs.map (R7 m)))else G4 (m.gs.map Tc)
theorem JB(hT:T 19=some N1)(h:i<m.gs.length)(hs:m.gs.length<=bigN)(hp:Tc m.gs[i]=0):
 evP ⟨A0,T,A1⟩ (.code Vw [(1,.ptr 0 0 0),(10,fslN (m.gs.map Glo.F)),(11,.int .i64 (m.gs.length:Int)),(12,.int .i64 (i:Int))] ⟨[.row 1 [m.F] 2],0,[]⟩)=some (.ok .normal [(1,.ptr 0 0 0),(10,fslN (m.gs.map Glo.F)),(11,.int .i64 (m.gs.length:Int)),(12,.int .i64 ((i+1:Nat):Int))] ⟨[.row 1 [m.F] 2],0,[]⟩):=by
 unfold Vw;have hlt:decide ((i:Int)<(m.gs.length:Int))=true:=by simp[h]
 have hw:=B3 (i:=i) (by simp only[bigN]at hs;omega);have t:=fun K=>He (K:=K) (n:=m.gs[i].ty) hT
 have hi:=A8 (F:=Glo.F) h;unfold Tc at hp;simp only[Glo.F,Modl.F]at t hi|-;cases q:F5 m.gs[i].ty with
 |true=>rw[q]at t;simp -implicitDefEqProofs only[hlt,hi,hw,t,XP,seval]
 | false =>
  rw[q]at t hp;by_cases q3:m.gs[i].ty=3
  . by_cases q4:m.gs[i].size<1
    . rw[if_neg (by decide),if_pos q3,if_pos q4]at hp;cases hp
    . simp -implicitDefEqProofs only[hlt,hi,hw,t,eq_true q3,eq_false q4,XP,seval]
  . rw[if_neg (by decide),if_neg q3]at hp;cases hp
theorem JC(hT:T 19=some N1)(h:i<m.gs.length)(hp:¬Tc m.gs[i]=0):
 evP ⟨A0,T,A1⟩ (.code Vw [(1,.ptr 0 0 0),(10,fslN (m.gs.map Glo.F)),(11,.int .i64 (m.gs.length:Int)),(12,.int .i64 (i:Int))] ⟨[.row 1 [m.F] 2],0,[]⟩)=some (.ok .ret [(2,.int .i64 (Tc m.gs[i]))] ⟨[],0,[]⟩):=by
 unfold Vw;have hlt:decide ((i:Int)<(m.gs.length:Int))=true:=by simp[h]
 have t:=fun K=>He (K:=K) (n:=m.gs[i].ty) hT
 have hi:=A8 (F:=Glo.F) h;unfold Tc at hp|-;simp only[Glo.F,Modl.F]at t hi|-;cases q:F5 m.gs[i].ty with
 |true=>rw[q]at hp;exact absurd rfl hp
 | false =>
  rw[q]at t hp;by_cases q3:m.gs[i].ty=3
  . by_cases q4:m.gs[i].size<1
    . simp -implicitDefEqProofs only[hlt,hi,t,eq_true q3,eq_true q4,XP,seval]
    . rw[if_neg (by decide),if_pos q3,if_neg q4]at hp;exact absurd rfl hp
  . simp -implicitDefEqProofs only[hlt,hi,t,eq_false q3,XP,seval]
theorem JD:∃fr',evP ⟨A0,T,A1⟩ (.code Vw [(1,.ptr 0 0 0),(10,fslN (m.gs.map Glo.F)),(11,.int .i64 (m.gs.length:Int)),(12,.int .i64 (m.gs.length:Int))] ⟨[.row 1 [m.F] 2],0,[]⟩)=some (.ok (.exit 0) fr' ⟨[.row 1 [m.F] 2],0,[]⟩)/\lookP fr' 1=.ptr 0 0 0:=by
 unfold Vw;have hlt:decide ((m.gs.length:Int)<(m.gs.length:Int))=false:=by simp
 simp -implicitDefEqProofs only[hlt,XP,seval];exact⟨_,rfl,rfl⟩
theorem JE(hT:T 20=some G9)(h:i<m.fs.length)(hs:m.ok)(hp:R7 m m.fs[i]=0):
 evP ⟨A0,T,A1⟩ (.code Vy [(1,.ptr 0 0 0),(32,fslN (m.fs.map Cod.F)),(33,.int .i64 (m.fs.length:Int)),(34,.int .i64 (i:Int))] ⟨[.row 1 [m.F] 2],0,[]⟩)=some (.ok .normal [(1,.ptr 0 0 0),(32,fslN (m.fs.map Cod.F)),(33,.int .i64 (m.fs.length:Int)),(34,.int .i64 ((i+1:Nat):Int))] ⟨[.row 1 [m.F] 2],0,[]⟩):=by
 unfold Vy;have hlt:decide ((i:Int)<(m.fs.length:Int))=true:=by simp[h]
 have hw:=B3 (i:=i) (by have:=hs.2.1;simp only[bigN]at this;omega);have t:=fun K=>Aq (K:=K) (m:=m) (c:=m.fs[i]) hT (hs.1 _ (zqc h))
 rw[hp]at t;have hi:=A8 (F:=Cod.F) h;simp only[Cod.F,Modl.F,chkF]at t hi|-;simp -implicitDefEqProofs only[hlt,hi,hw,t,XP,seval]
theorem JF(hT:T 20=some G9)(h:i<m.fs.length)(hs:m.ok)(hp:¬R7 m m.fs[i]=0):
 evP ⟨A0,T,A1⟩ (.code Vy [(1,.ptr 0 0 0),(32,fslN (m.fs.map Cod.F)),(33,.int .i64 (m.fs.length:Int)),(34,.int .i64 (i:Int))] ⟨[.row 1 [m.F] 2],0,[]⟩)=some (.ok .ret [(2,.int .i64 (R7 m m.fs[i]))] ⟨[],0,[]⟩):=by
 unfold Vy;have hlt:decide ((i:Int)<(m.fs.length:Int))=true:=by simp[h]
 have t:=fun K=>Aq (K:=K) (m:=m) (c:=m.fs[i]) hT (hs.1 _ (zqc h))
 have hi:=A8 (F:=Cod.F) h;simp only[Cod.F,Modl.F,chkF]at t hi|-;simp -implicitDefEqProofs only[hlt,hi,t,hp,XP,seval]
theorem JG:∃fr',evP ⟨A0,T,A1⟩ (.code Vy [(1,.ptr 0 0 0),(32,fslN (m.fs.map Cod.F)),(33,.int .i64 (m.fs.length:Int)),(34,.int .i64 (m.fs.length:Int))] ⟨[.row 1 [m.F] 2],0,[]⟩)=some (.ok (.exit 2) fr' ⟨[.row 1 [m.F] 2],0,[]⟩)/\lookP fr' 1=.ptr 0 0 0:=by
 unfold Vy;have hlt:decide ((m.fs.length:Int)<(m.fs.length:Int))=false:=by simp
 simp -implicitDefEqProofs only[hlt,XP,seval];exact⟨_,rfl,rfl⟩
theorem tU{X:Type}{p:X->Bool}{l:List X}(h:¬idxOf p l<0):∃k:Nat,idxOf p l=k/\∃hk:k<l.length,p l[k]=true:=by
 unfold idxOf at h|-;cases q:l.findIdx? p with
 |none=>rw[q]at h;exact absurd (by decide) h
 | some i =>
  rw[zqn]at q;exact⟨i,rfl,q.1,q.2.1⟩
theorem Te(hir_number:T 19=some N1)(hir_checker_code:T 20=some G9)(hir_mainOf:T 21=some L4){m:Modl}(hk:m.ok):AM.Comes ⟨A0,T,A1⟩ 7 [m.F] [.int .i64 (N3 m)]:=by
 refine⟨[.int .i64 (N3 m)],⟨[],0,[]⟩,?_,back_of rfl zqb rfl rfl rfl⟩;rw[A3 (c:=p7) (nt:=68) (rs:=[.tmp 2]) rfl (by simp)];unfold p7;unfold K0;have hgl:m.gs.length<=bigN:=by have:=hk.2.2;simp only[bigN]at this|-;omega
 have hfl:m.fs.length<=bigN:=by have:=hk.2.1;simp only[bigN]at this|-;omega
 have tm:=fun K=>Hf (K:=K) (m:=m) hir_mainOf hfl
 have tm:∀K:PK,evP ⟨A0,T,A1⟩ (.call 21 [m.F] K)=some (.val (openTs K.os.length [.int .i64 (y9 m)]).1 ⟨K.os++(openTs K.os.length [.int .i64 (y9 m)]).2,K.ext,K.tch⟩):=tm;have l1:=err_loop (P:=⟨A0,T,A1⟩) (c:=Vw) (f:=Tc) (l:=m.gs) (S:=fun i=>[(1,.ptr 0 0 0),(10,fslN (m.gs.map Glo.F)),(11,.int .i64 (m.gs.length:Int)),(12,.int .i64 (i:Int))]) (K:=⟨[.row 1 [m.F] 2],0,[]⟩) (Q:=fun fr'=>lookP fr' 1=.ptr 0 0 0) (R:=fun e fr' K'=>fr'=[(2,.int .i64 e)]/\K'=⟨[],0,[]⟩)
  (fun k h hp=>JB hir_number h hgl hp) (fun k h hp=>⟨_,_,JC hir_number h hp,rfl,rfl⟩) JD
 have l2:=err_loop (P:=⟨A0,T,A1⟩) (c:=Vy) (f:=R7 m) (l:=m.fs) (S:=fun i=>[(1,.ptr 0 0 0),(32,fslN (m.fs.map Cod.F)),(33,.int .i64 (m.fs.length:Int)),(34,.int .i64 (i:Int))]) (K:=⟨[.row 1 [m.F] 2],0,[]⟩) (Q:=fun fr'=>lookP fr' 1=.ptr 0 0 0) (R:=fun e fr' K'=>fr'=[(2,.int .i64 e)]/\K'=⟨[],0,[]⟩)
  (fun k h hp=>JE hir_checker_code h hk hp) (fun k h hp=>⟨_,_,JF hir_checker_code h hk hp,rfl,rfl⟩) JG
 unfold N3;simp only[Modl.F]at tm l1 l2|-;rcases l1 with⟨q,fr',h1,h2⟩|⟨q,fr',K',h1,rfl,rfl⟩
 . have h1:evP ⟨A0,T,A1⟩ (.code (.loop Vw) [(1,.ptr 0 0 0),(10,fslN (m.gs.map Glo.F)),(11,.int .i64 (m.gs.length:Int)),(12,.int .i64 0)] _)=_:=h1
   rw[if_pos q];rcases l2 with⟨q2,fr2,h3,h4⟩|⟨q2,fr2,K2,h3,rfl,rfl⟩
   . have h3:evP ⟨A0,T,A1⟩ (.code (.loop Vy) [(1,.ptr 0 0 0),(32,fslN (m.fs.map Cod.F)),(33,.int .i64 (m.fs.length:Int)),(34,.int .i64 0)] _)=_:=h3
     rw[if_pos q2];unfold Td;by_cases hm:y9 m<0
     . simp -implicitDefEqProofs only[h1,h2,h3,h4,tm,eq_true hm,zqa,XP,seval]
     . obtain ⟨k,hk1,hk2,_⟩:=tU hm
       have hi:=Ji hk2;have hk1:y9 m=k:=hk1;have hix:Kq o9 (fslN (m.fs.map Cod.F)) (.int .i64 (y9 m))=some (.fptr (codI m.fs (y9 m)).F 0):=by
        rw[hk1];exact ix_fslN hi rfl
       simp only[Cod.F]at hix;by_cases h5:(codI m.fs (y9 m)).ty=1
       . by_cases h6:(codI m.fs (y9 m)).ps=0
         . simp -implicitDefEqProofs only[h1,h2,h3,h4,tm,hm,hix,eq_true h5,eq_true h6,zqa,XP,seval]
         . simp -implicitDefEqProofs only[h1,h2,h3,h4,tm,hm,hix,eq_true h5,h6,zqa,XP,seval]
       . simp -implicitDefEqProofs only[h1,h2,h3,h4,tm,hm,hix,h5,zqa,XP,seval]
   . have h3:evP ⟨A0,T,A1⟩ (.code (.loop Vy) [(1,.ptr 0 0 0),(32,fslN (m.fs.map Cod.F)),(33,.int .i64 (m.fs.length:Int)),(34,.int .i64 0)] _)=_:=h3
     rw[if_neg q2];simp -implicitDefEqProofs only[h1,h2,h3,zqa,XP,seval]
 . have h1:evP ⟨A0,T,A1⟩ (.code (.loop Vw) [(1,.ptr 0 0 0),(10,fslN (m.gs.map Glo.F)),(11,.int .i64 (m.gs.length:Int)),(12,.int .i64 0)] _)=_:=h1
   rw[if_neg q];simp -implicitDefEqProofs only[h1,zqa,XP,seval]
def O6:=S7 (fun p:(Modl)=>[p.F]) (fun p=>[.int .i64 (N3 p)]) (fun p=>p.ok)
theorem pM(hir_Check:T 7=some O6){m:Modl}{K:PK}(hk:m.ok):evP ⟨A0,T,A1⟩ (.call 7 [m.F] K)=some (.val (openTs K.os.length [.int .i64 (N3 m)]).1 ⟨K.os++(openTs K.os.length [.int .i64 (N3 m)]).2,K.ext,K.tch⟩):=B5 hir_Check (by simp -implicitDefEqProofs only[VV,XP,seval]) (B9 (a:=fun p:(Modl)=>[p.F]) (r:=fun p=>[.int .i64 (N3 p)]) (fun x y e=>by simp only[VJ]at e;simp only[e]) (m) hk) (by simp -implicitDefEqProofs only[VN,XP,seval])
theorem eT(hir_number:T 19=some N1)(hir_checker_code:T 20=some G9)(hir_mainOf:T 21=some L4)(hP:PEok ⟨A0,T,A1⟩):TC A0 7 O6:=C0 hP fun p h=>Te hir_number hir_checker_code hir_mainOf h
end
def Tf{A X ρ:Type}(f:A->X->A⊕ρ):A->List X->A⊕ρ
 |a,[]=>.inl a
 |a,x::l=>match f a x with | .inl a=>Tf f a l | .inr r=>.inr r
theorem jP{P:PE}{c:PC}{A X ρ:Type}{f:A->X->A⊕ρ}{l:List X}{S:Nat->A->PF}{K:A->PK}{x:Nat}{Q:A->PF->Prop}{R:ρ->PF->PK->Prop}
 (h1:∀i a a' (h:i<l.length),f a l[i]=.inl a'->evP P (.code c (S i a) (K a))=some (.ok .normal (S (i+1) a') (K a')))
 (h2:∀i a r (h:i<l.length),f a l[i]=.inr r->∃fr' K',evP P (.code c (S i a) (K a))=some (.ok .ret fr' K')/\R r fr' K')
 (hx:∀a,∃fr',evP P (.code c (S l.length a) (K a))=some (.ok (.exit x) fr' (K a))/\Q a fr')(a:A):
 (∃a',Tf f a l=.inl a'/\∃fr',evP P (.code (.loop c) (S 0 a) (K a))=some (.ok (.exit x) fr' (K a'))/\Q a' fr')\/(∃r,Tf f a l=.inr r/\∃fr' K',evP P (.code (.loop c) (S 0 a) (K a))=some (.ok .ret fr' K')/\R r fr' K'):=by
 have key:∀(n i:Nat)(a:A),l.length=i+n->(∃a',Tf f a (l.drop i)=.inl a'/\∃fr',evP P (.code (.loop c) (S i a) (K a))=some (.ok (.exit x) fr' (K a'))/\Q a' fr')\/(∃r,Tf f a (l.drop i)=.inr r/\∃fr' K',evP P (.code (.loop c) (S i a) (K a))=some (.ok .ret fr' K')/\R r fr' K'):=fun n=>by
  induction n with
  | zero =>
   intro i a e;obtain rfl:i=l.length:=by omega
   obtain⟨fr',h,q⟩:=hx a;exact .inl ⟨a,by rw[zqe];rfl,fr',C7 h,q⟩
  | succ n ih =>
   intro i a e;have hl:i<l.length:=by omega
   rw[zqf hl];unfold Tf;cases hq:f a l[i]with
   |inl a'=>rw[loop_more (h1 i a a' hl hq)];exact ih (i+1) a' (by omega)
   | inr r =>
    obtain⟨fr',K',q1,q2⟩:=h2 i a r hl hq;exact .inr ⟨r,rfl,fr',K',j4 q1,q2⟩
 exact key l.length 0 a (by omega)
theorem Ey{P:PE}{c:PC}{A X:Type}{f:A->X->A}{l:List X}{S:Nat->A->PF}{K:A->PK}{x:Nat}{Q:A->PF->Prop}
 (h1:∀i a (h:i<l.length),evP P (.code c (S i a) (K a))=some (.ok .normal (S (i+1) (f a l[i])) (K (f a l[i]))))
 (hx:∀a,∃fr',evP P (.code c (S l.length a) (K a))=some (.ok (.exit x) fr' (K a))/\Q a fr')(a:A):
 ∃fr',evP P (.code (.loop c) (S 0 a) (K a))=some (.ok (.exit x) fr' (K (l.foldl f a)))/\Q (l.foldl f a) fr':=by
 have key:∀(n i:Nat)(a:A),l.length=i+n->∃fr',evP P (.code (.loop c) (S i a) (K a))=some (.ok (.exit x) fr' (K ((l.drop i).foldl f a)))/\Q ((l.drop i).foldl f a) fr':=fun n=>by
  induction n with
  | zero =>
   intro i a e;obtain rfl:i=l.length:=by omega
   obtain⟨fr',h,q⟩:=hx a;exact⟨fr',by rw[zqe];exact C7 h,by rw[zqe];exact q⟩
  | succ n ih =>
   intro i a e;have hl:i<l.length:=by omega
   rw[zqf hl,List.foldl_cons,loop_more (h1 i a hl)];exact ih (i+1) _ (by omega)
 exact key l.length 0 a (by omega)
section
variable {m:Modl}{c:Cod}{i j k:Nat}{n:Int}
def S4(a:Int)(n:Nat):Int:=IntKind.i64.wrap (a+(n:Int))
def JH(a:Int)(b:Blk):Int:=b.code.foldl (fun a x=>S4 a x.args.length) (S4 a b.code.length)
def GJ(a:Int)(c:Cod):Int:=c.blocks.foldl JH (S4 (S4 a c.regs.length) c.blocks.length)
def QD(a:Int)(c:Cod):Int⊕Unit:=if 3000<GJ a c then .inr ()else .inl (GJ a c)
def j9(m:Modl):Bool:=if 20<m.gs.length then true else if 12<m.fs.length then true else if(m.gs.all fun g=>!decide (1024<g.size))=true then(Tf QD 0 m.fs).isRight else true
def JI(a:Int)(c:Cod):Int:=c.blocks.foldl (fun a b=>S4 a b.code.length) (S4 (S4 a c.regs.length) c.blocks.length)
def Z5(m:Modl):Bool:=if 1000<m.fs.foldl JI 0 then true else if 12<m.fs.length then true else if j9 m=true then true else !decide (N3 m=0)
theorem JJ(h:i<m.gs.length)(hs:m.gs.length<=bigN)(hp:(!decide (1024<m.gs[i].size))=true):evP ⟨A0,T,A1⟩ (.code Vv [(1,.ptr 0 0 0),(3,.int .i64 n),(4,.int .i64 (i:Int))] ⟨[.row 1 [m.F] 2],0,[]⟩)=some (.ok .normal [(1,.ptr 0 0 0),(3,.int .i64 n),(4,.int .i64 ((i+1:Nat):Int))] ⟨[.row 1 [m.F] 2],0,[]⟩):=by
 unfold Vv;have hlt:decide ((i:Int)<(m.gs.length:Int))=true:=by simp[h]
 have hw:=B3 (i:=i) (by simp only[bigN]at hs;omega);have hi:=A8 (F:=Glo.F) h;have hp:decide (1024<m.gs[i].size)=false:=by simpa using hp
 simp only[Glo.F,Modl.F]at hi|-;simp -implicitDefEqProofs only[hlt,hi,hw,hp,zqa,XP,seval]
theorem JK(h:i<m.gs.length)(hp:(!decide (1024<m.gs[i].size))=false):evP ⟨A0,T,A1⟩ (.code Vv [(1,.ptr 0 0 0),(3,.int .i64 n),(4,.int .i64 (i:Int))] ⟨[.row 1 [m.F] 2],0,[]⟩)=some (.ok .ret [(2,.bool true)] ⟨[],0,[]⟩):=by
 unfold Vv;have hlt:decide ((i:Int)<(m.gs.length:Int))=true:=by simp[h]
 have hi:=A8 (F:=Glo.F) h;have hp:decide (1024<m.gs[i].size)=true:=by simpa using hp
 simp only[Glo.F,Modl.F]at hi|-;simp -implicitDefEqProofs only[hlt,hi,hp,zqa,XP,seval]
theorem JL:∃fr',evP ⟨A0,T,A1⟩ (.code Vv [(1,.ptr 0 0 0),(3,.int .i64 n),(4,.int .i64 (m.gs.length:Int))] ⟨[.row 1 [m.F] 2],0,[]⟩)=some (.ok (.exit 0) fr' ⟨[.row 1 [m.F] 2],0,[]⟩)/\(lookP fr' 1=.ptr 0 0 0/\lookP fr' 3=.int .i64 n):=by
 unfold Vv;have hlt:decide ((m.gs.length:Int)<(m.gs.length:Int))=false:=by simp
 simp only[Modl.F];simp -implicitDefEqProofs only[hlt,zqa,XP,seval];exact⟨_,rfl,rfl,rfl⟩
theorem JM(hj:j<c.blocks.length)(hk:k<c.blocks[j].code.length)(hs:c.ok):evP ⟨A0,T,A1⟩ (.code iX [(1,.ptr 0 0 0),(3,.int .i64 n),(5,.int .i64 (i:Int)),(6,.ptr 1 0 0),(7,.int .i64 (j:Int)),(8,.int .i64 (k:Int))] ⟨[.row 1 [m.F] 2,.row 1 [c.F] 5],0,[]⟩)=some (.ok .normal [(1,.ptr 0 0 0),(3,.int .i64 (S4 n c.blocks[j].code[k].args.length)),(5,.int .i64 (i:Int)),(6,.ptr 1 0 0),(7,.int .i64 (j:Int)),(8,.int .i64 ((k+1:Nat):Int))] ⟨[.row 1 [m.F] 2,.row 1 [c.F] 5],0,[]⟩):=by
 unfold iX S4;have hb:=hs.2.1 _ (zqc hj);have hlt:decide ((k:Int)<(c.blocks[j].code.length:Int))=true:=by simp[hk]
 have hw:=B3 (i:=k) (by have:=hb.2;simp only[bigN]at this;omega);have hi:=A8 (F:=Blk.F) hj;have hi2:=A8 (F:=Ins.F) hk;simp only[Blk.F,Ins.F,Modl.F,Cod.F]at hi hi2|-;simp -implicitDefEqProofs only[hlt,hi,hi2,hw,zqa,XP,seval]
theorem JN(hj:j<c.blocks.length):∃fr',evP ⟨A0,T,A1⟩ (.code iX [(1,.ptr 0 0 0),(3,.int .i64 n),(5,.int .i64 (i:Int)),(6,.ptr 1 0 0),(7,.int .i64 (j:Int)),(8,.int .i64 (c.blocks[j].code.length:Int))] ⟨[.row 1 [m.F] 2,.row 1 [c.F] 5],0,[]⟩)=some (.ok (.exit 6) fr' ⟨[.row 1 [m.F] 2,.row 1 [c.F] 5],0,[]⟩)/\(lookP fr' 1=.ptr 0 0 0/\lookP fr' 3=.int .i64 n/\lookP fr' 5=.int .i64 (i:Int)/\lookP fr' 6=.ptr 1 0 0/\lookP fr' 7=.int .i64 (j:Int)):=by
 unfold iX;have hlt:decide ((c.blocks[j].code.length:Int)<(c.blocks[j].code.length:Int))=false:=by simp
 have hi:=A8 (F:=Blk.F) hj;simp only[Blk.F,Modl.F,Cod.F]at hi|-;simp -implicitDefEqProofs only[hlt,hi,zqa,XP,seval];exact⟨_,rfl,rfl,rfl,rfl,rfl,rfl⟩
theorem JO(hj:j<c.blocks.length)(hs:c.ok):evP ⟨A0,T,A1⟩ (.code iY [(1,.ptr 0 0 0),(3,.int .i64 n),(5,.int .i64 (i:Int)),(6,.ptr 1 0 0),(7,.int .i64 (j:Int))] ⟨[.row 1 [m.F] 2,.row 1 [c.F] 5],0,[]⟩)=some (.ok .normal [(1,.ptr 0 0 0),(3,.int .i64 (JH n c.blocks[j])),(5,.int .i64 (i:Int)),(6,.ptr 1 0 0),(7,.int .i64 ((j+1:Nat):Int))] ⟨[.row 1 [m.F] 2,.row 1 [c.F] 5],0,[]⟩):=by
 have hlt:decide ((j:Int)<(c.blocks.length:Int))=true:=by simp[hj]
 have hw:=B3 (i:=j) (by have:=hs.2.2;simp only[bigN]at this;omega);have hi:=A8 (F:=Blk.F) hj;obtain⟨fr',h1,h2,h3,h4,h5,h6⟩:=Ey (P:=⟨A0,T,A1⟩) (c:=iX) (f:=fun a (x:Ins)=>S4 a x.args.length) (l:=c.blocks[j].code) (S:=fun k n=>[(1,.ptr 0 0 0),(3,.int .i64 n),(5,.int .i64 (i:Int)),(6,.ptr 1 0 0),(7,.int .i64 (j:Int)),(8,.int .i64 (k:Int))]) (K:=fun _=>⟨[.row 1 [m.F] 2,.row 1 [c.F] 5],0,[]⟩) (x:=6) (Q:=fun n fr'=>lookP fr' 1=.ptr 0 0 0/\lookP fr' 3=.int .i64 n/\lookP fr' 5=.int .i64 (i:Int)/\lookP fr' 6=.ptr 1 0 0/\lookP fr' 7=.int .i64 (j:Int)) (fun k a h=>JM hj h hs) (fun a=>JN hj) (S4 n c.blocks[j].code.length);have h1:evP ⟨A0,T,A1⟩ (.code (.loop iX) [(1,.ptr 0 0 0),(3,.int .i64 (S4 n c.blocks[j].code.length)),(5,.int .i64 (i:Int)),(6,.ptr 1 0 0),(7,.int .i64 (j:Int)),(8,.int .i64 0)] ⟨[.row 1 [m.F] 2,.row 1 [c.F] 5],0,[]⟩)=_:=h1;have hn:JH n c.blocks[j]=c.blocks[j].code.foldl (fun a x=>S4 a x.args.length) (S4 n c.blocks[j].code.length):=rfl;rw[<-hn]at h3;unfold iY;unfold S4 at h1;simp only[Blk.F,Modl.F,Cod.F]at hi h1|-;simp -implicitDefEqProofs only[hlt,hi,h1,h2,h3,h4,h5,h6,hw,zqa,XP,seval]
theorem JP:∃fr',evP ⟨A0,T,A1⟩ (.code iY [(1,.ptr 0 0 0),(3,.int .i64 n),(5,.int .i64 (i:Int)),(6,.ptr 1 0 0),(7,.int .i64 (c.blocks.length:Int))] ⟨[.row 1 [m.F] 2,.row 1 [c.F] 5],0,[]⟩)=some (.ok (.exit 4) fr' ⟨[.row 1 [m.F] 2,.row 1 [c.F] 5],0,[]⟩)/\(lookP fr' 1=.ptr 0 0 0/\lookP fr' 3=.int .i64 n/\lookP fr' 5=.int .i64 (i:Int)):=by
 unfold iY;have hlt:decide ((c.blocks.length:Int)<(c.blocks.length:Int))=false:=by simp
 simp only[Modl.F,Cod.F];simp -implicitDefEqProofs only[hlt,zqa,XP,seval];exact⟨_,rfl,rfl,rfl,rfl⟩
theorem b6c(h:i<m.fs.length)(hs:m.ok):(3000<GJ n m.fs[i]->evP ⟨A0,T,A1⟩ (.code aA [(1,.ptr 0 0 0),(3,.int .i64 n),(5,.int .i64 (i:Int))] ⟨[.row 1 [m.F] 2],0,[]⟩)=some (.ok .ret [(2,.bool true)] ⟨[],0,[]⟩))/\(¬3000<GJ n m.fs[i]->evP ⟨A0,T,A1⟩ (.code aA [(1,.ptr 0 0 0),(3,.int .i64 n),(5,.int .i64 (i:Int))] ⟨[.row 1 [m.F] 2],0,[]⟩)=some (.ok .normal [(1,.ptr 0 0 0),(3,.int .i64 (GJ n m.fs[i])),(5,.int .i64 ((i+1:Nat):Int))] ⟨[.row 1 [m.F] 2],0,[]⟩)):=by
 have hc:=(hs.1 _ (zqc h)).1;have hlt:decide ((i:Int)<(m.fs.length:Int))=true:=by simp[h]
 have hw:=B3 (i:=i) (by have:=hs.2.1;simp only[bigN]at this;omega);have hi:=A8 (F:=Cod.F) h;generalize m.fs[i]=c at hc hi;obtain⟨fr',h1,h2,h3,h4⟩:=Ey (P:=⟨A0,T,A1⟩) (c:=iY) (f:=JH) (l:=c.blocks) (S:=fun j n=>[(1,.ptr 0 0 0),(3,.int .i64 n),(5,.int .i64 (i:Int)),(6,.ptr 1 0 0),(7,.int .i64 (j:Int))]) (K:=fun _=>⟨[.row 1 [m.F] 2,.row 1 [c.F] 5],0,[]⟩) (x:=4) (Q:=fun n fr'=>lookP fr' 1=.ptr 0 0 0/\lookP fr' 3=.int .i64 n/\lookP fr' 5=.int .i64 (i:Int)) (fun k a h=>JO h hc) (fun a=>JP) (S4 (S4 n c.regs.length) c.blocks.length);have h1:evP ⟨A0,T,A1⟩ (.code (.loop iY) [(1,.ptr 0 0 0),(3,.int .i64 (S4 (S4 n c.regs.length) c.blocks.length)),(5,.int .i64 (i:Int)),(6,.ptr 1 0 0),(7,.int .i64 0)] ⟨[.row 1 [m.F] 2,.row 1 [c.F] 5],0,[]⟩)=_:=h1;have hn:GJ n c=c.blocks.foldl JH (S4 (S4 n c.regs.length) c.blocks.length):=rfl;rw[<-hn]at h3;unfold aA;unfold S4 at h1;simp only[Modl.F,Cod.F]at hi h1|-
 constructor
 . intro hq
   simp -implicitDefEqProofs only[hlt,hi,h1,h2,h3,h4,eq_true hq,zqa,XP,seval]
 . intro hq
   simp -implicitDefEqProofs only[hlt,hi,h1,h2,h3,h4,hw,hq,zqa,XP,seval]
theorem JQ:∃fr',evP ⟨A0,T,A1⟩ (.code aA [(1,.ptr 0 0 0),(3,.int .i64 n),(5,.int .i64 (m.fs.length:Int))] ⟨[.row 1 [m.F] 2],0,[]⟩)=some (.ok (.exit 2) fr' ⟨[.row 1 [m.F] 2],0,[]⟩)/\True:=by
 unfold aA;have hlt:decide ((m.fs.length:Int)<(m.fs.length:Int))=false:=by simp
 simp only[Modl.F];simp -implicitDefEqProofs only[hlt,zqa,XP,seval];exact⟨_,rfl⟩
theorem Om  {m:Modl} (hk:m.ok):AM.Comes ⟨A0,T,A1⟩ 6 [m.F] [.bool (j9 m)]:=by
 refine⟨[.bool (j9 m)],⟨[],0,[]⟩,?_,back_of rfl zqb rfl rfl rfl⟩;rw[A3 (c:=p6) (nt:=96) (rs:=[.tmp 2]) rfl (by simp)];unfold p6;unfold K0;have hgl:m.gs.length<=bigN:=by have:=hk.2.2;simp only[bigN]at this|-;omega
 have l1:=Ta (P:=⟨A0,T,A1⟩) (c:=Vv) (p:=fun g:Glo=>!decide (1024<g.size)) (l:=m.gs) (S:=fun i=>[(1,.ptr 0 0 0),(3,.int .i64 0),(4,.int .i64 (i:Int))]) (K:=⟨[.row 1 [m.F] 2],0,[]⟩) (x:=0) (Q:=fun fr'=>lookP fr' 1=.ptr 0 0 0/\lookP fr' 3=.int .i64 0) (R:=fun fr' K'=>fr'=[(2,.bool true)]/\K'=⟨[],0,[]⟩)
  (fun i h hp=>JJ h hgl hp) (fun i h hp=>⟨_,_,JK h hp,rfl,rfl⟩) JL
 have l2:=jP (P:=⟨A0,T,A1⟩) (c:=aA) (f:=QD) (l:=m.fs) (S:=fun i n=>[(1,.ptr 0 0 0),(3,.int .i64 n),(5,.int .i64 (i:Int))]) (K:=fun _=>⟨[.row 1 [m.F] 2],0,[]⟩) (x:=2) (Q:=fun n fr'=>True) (R:=fun r fr' K'=>fr'=[(2,.bool true)]/\K'=⟨[],0,[]⟩)
  (fun i a a' h hp=>by
    unfold QD at hp;split at hp
    . cases hp
    . rename_i hq
      cases hp;exact(b6c h hk).2 hq) (fun i a r h hp=>by
    unfold QD at hp;split at hp
    . rename_i hq
      exact⟨_,_,(b6c h hk).1 hq,rfl,rfl⟩
    . cases hp) (fun a=>JQ) 0
 have q20:decide ((20:Int)<(m.gs.length:Int))=decide (20<m.gs.length):=decide_eq_decide.2 (by omega);have q12:decide ((12:Int)<(m.fs.length:Int))=decide (12<m.fs.length):=decide_eq_decide.2 (by omega);unfold j9;simp only[Modl.F]at l1 l2|-;by_cases h20:20<m.gs.length
 . simp -implicitDefEqProofs only[q20,q12,eq_true h20,zqa,XP,seval]
 by_cases h12:12<m.fs.length
 . simp -implicitDefEqProofs only[q20,q12,h20,eq_true h12,zqa,XP,seval]
 rcases l1 with⟨q,fr',h1,h2,h3⟩|⟨q,fr',K',h1,rfl,rfl⟩
 . have h1:evP ⟨A0,T,A1⟩ (.code (.loop Vv) [(1,.ptr 0 0 0),(3,.int .i64 0),(4,.int .i64 0)] _)=_:=h1
   rcases l2 with⟨a',q2,fr2,h4,_⟩|⟨r,q2,fr2,K2,h4,rfl,rfl⟩
   . have h4:evP ⟨A0,T,A1⟩ (.code (.loop aA) [(1,.ptr 0 0 0),(3,.int .i64 0),(5,.int .i64 0)] _)=_:=h4
     simp -implicitDefEqProofs only[q20,q12,h20,h12,h1,h2,h3,h4,q,q2,Sum.isRight_inl,zqa,XP,seval]
   . have h4:evP ⟨A0,T,A1⟩ (.code (.loop aA) [(1,.ptr 0 0 0),(3,.int .i64 0),(5,.int .i64 0)] _)=_:=h4
     simp -implicitDefEqProofs only[q20,q12,h20,h12,h1,h2,h3,h4,q,q2,Sum.isRight_inr,zqa,XP,seval]
 . have h1:evP ⟨A0,T,A1⟩ (.code (.loop Vv) [(1,.ptr 0 0 0),(3,.int .i64 0),(4,.int .i64 0)] _)=_:=h1
   simp -implicitDefEqProofs only[q20,q12,h20,h12,h1,q,zqa,XP,seval]
def r7:=S7 (fun p:(Modl)=>[p.F]) (fun p=>[.bool (j9 p)]) (fun p=>p.ok)
theorem jQ(hlaw06_Big:T 6=some r7){m:Modl}{K:PK}(hk:m.ok):evP ⟨A0,T,A1⟩ (.call 6 [m.F] K)=some (.val (openTs K.os.length [.bool (j9 m)]).1 ⟨K.os++(openTs K.os.length [.bool (j9 m)]).2,K.ext,K.tch⟩):=B5 hlaw06_Big (by simp -implicitDefEqProofs only[VV,XP,seval]) (B9 (a:=fun p:(Modl)=>[p.F]) (r:=fun p=>[.bool (j9 p)]) (fun x y e=>by simp only[VJ]at e;simp only[e]) (m) hk) (by simp -implicitDefEqProofs only[VN,XP,seval])
theorem aW  (hP:PEok ⟨A0,T,A1⟩):TC A0 6 r7:=C0 hP fun p h=>Om  h
end
end Go.Proofs.AmEnv
set_option maxRecDepth 100000
namespace Go.AM
def jR(k:IntKind)(a b:Int):Int:=w5 k (Nat.land (modN a (pow2 k)) (modN b (pow2 k)))
def ZM(k:IntKind)(a b:Int):Int:=w5 k (Nat.lor (modN a (pow2 k)) (modN b (pow2 k)))
def DL(k:IntKind)(a b:Int):Int:=w5 k (Nat.xor (modN a (pow2 k)) (modN b (pow2 k)))
theorem JR(fl:EqK)(k:IntKind)(a b:Int):I5 .and fl (.int k a) (.int k b)=some (.int k (jR k a b)):=by
 show V8 (.int k a) (.int k b) (fun k a b=>n9 k (w5 k (Nat.land (modN a (pow2 k)) (modN b (pow2 k)))))=_;rw[U1,Ax];rfl
theorem ZN(fl:EqK)(k:IntKind)(a b:Int):I5 .or fl (.int k a) (.int k b)=some (.int k (ZM k a b)):=by
 show V8 (.int k a) (.int k b) (fun k a b=>n9 k (w5 k (Nat.lor (modN a (pow2 k)) (modN b (pow2 k)))))=_;rw[U1,Ax];rfl
theorem JS(fl:EqK)(k:IntKind)(a b:Int):I5 .xor fl (.int k a) (.int k b)=some (.int k (DL k a b)):=by
 show V8 (.int k a) (.int k b) (fun k a b=>n9 k (w5 k (Nat.xor (modN a (pow2 k)) (modN b (pow2 k)))))=_;rw[U1,Ax];rfl
theorem tV(k:IntKind)(n:Nat):(bif Nat.ble n (I4 k)then n else I4 k)=min n (I4 k):=by
 cases h:Nat.ble n (I4 k)with
 |true=>have:=C4 h;simp;omega
 | false =>
  have:¬n<=I4 k:=fun e=>by rw[zkf e]at h;cases h
  simp;omega
theorem JT(fl:EqK)(k j:IntKind)(a:Int)(n:Nat):I5 .shl fl (.int k a) (.int j (n:Int))=some (.int k (k.wrap (a*(2^(min n (I4 k)):Nat)))):=by
 show M8 k (a*Int.ofNat (Nat.pow 2 (bif Nat.ble n (I4 k)then n else I4 k)))=_
 rw[V5,tV];rfl
theorem JU(fl:EqK)(k j:IntKind)(a:Int)(n:Nat):I5 .shr fl (.int k a) (.int j (n:Int))=some (.int k (a.fdiv (2^(min n (I4 k)):Nat))):=by
 show n9 k (a.fdiv (Int.ofNat (Nat.pow 2 (bif Nat.ble n (I4 k)then n else I4 k))))=_
 rw[Ax,tV];rfl
theorem eU(b:Int)(e:Nat)(he:e<=32):jR .u64 (IntKind.wrap .u64 b) ((2^e-1:Nat):Int)=((b%(2^e:Nat)).toNat:Int):=by
 have hp:(0:Int)<18446744073709551616:=by omega
 have h2:(2:Nat)^e<=2^32:=Nat.pow_le_pow_right (by omega) he;have h3:0<2^e:=Nat.two_pow_pos e;have hdvd:(2^e) ∣ 18446744073709551616:=⟨2^(64-e),by rw[<-Nat.pow_add,show e+(64-e)=64 by omega]⟩
 have hw:IntKind.wrap .u64 b=b%18446744073709551616:=by simp[IntKind.wrap,IntKind.bits,IntKind.signed]
 have m1:(modN (IntKind.wrap .u64 b) (pow2 .u64):Int)=b%18446744073709551616:=by
  rw[Ik _ _ (Ai _),hw];simp[pow2]
 have m2:(modN ((2^e-1:Nat):Int) (pow2 .u64):Int)=((2^e-1:Nat):Int):=by
  rw[Ik _ _ (Ai _)];exact Int.emod_eq_of_lt (by omega) (by simp only[pow2];omega)
 unfold jR;have m2':modN ((2^e-1:Nat):Int) (pow2 .u64)=2^e-1:=by omega
 rw [m2'];have m3:Nat.land (modN (IntKind.wrap .u64 b) (pow2 .u64)) (2^e-1)=modN (IntKind.wrap .u64 b) (pow2 .u64)%2^e:=Nat.and_two_pow_sub_one_eq_mod _ _;rw[m3];have hlt:modN (IntKind.wrap .u64 b) (pow2 .u64)%2^e<2^e:=Nat.mod_lt _ h3;have hwr:∀m:Nat,m<18446744073709551616->w5 .u64 m=(m:Int):=fun m hm=>by
  unfold w5;cases e:Nat.ble (half .u64) m with
  |false=>rfl
  | true =>
   have:=C4 e
   have hh:half .u64=18446744073709551616:=rfl;omega
 rw [hwr _ (by have:(2:Nat)^32=4294967296:=by decide
               omega)]
 have:((modN (IntKind.wrap .u64 b) (pow2 .u64)%2^e:Nat):Int)=b%((2^e:Nat):Int):=by
  rw[Int.natCast_emod,m1];exact Int.emod_emod_of_dvd b (show((2^e:Nat):Int) ∣ ((18446744073709551616:Nat):Int)from Int.natCast_dvd_natCast.2 hdvd)
 rw[this]
 have:=Int.emod_nonneg b (show((2^e:Nat):Int)≠0 by omega)
 omega
end Go.AM
namespace Go.Proofs.AmEnv
open Go Go.AM
variable {T:Nat->Option (List AV->Option (List AV))}
def X2(k:IntKind)(op:List UInt8)(a b:Int):Int×Int:=
 if b=0 then(0,1)
 else if op=[37]/\b=-1 then(0,0)
 else if op=[37]then(a.tmod b,0)
 else if b=-1 then(if a=0 then(k.wrap (a.tdiv b),0)else if k.wrap (0-a)=a then(0,2)else(k.wrap (a.tdiv b),0))else(k.wrap (a.tdiv b),0)
def r8(k:IntKind)(m:Int)(op:List UInt8)(a b:Int):Int:=
 if op=[43]then k.wrap (a+b)else if op=[45]then k.wrap (a-b)else if op=[42]then k.wrap (a*b)
 else if op=[38]then jR k a b else if op=[124]then ZM k a b else if op=[94]then DL k a b
 else if op=[60,60]then k.wrap (a*(2^(min (b%m).toNat (I4 k)):Nat))else if op=[62,62]then a.fdiv (2^(min (b%m).toNat (I4 k)):Nat)
 else if op=[61,61]then(if a=b then 1 else 0)else if op=[33,61]then(if(!decide (a=b))=true then 1 else 0)
 else if op=[60]then(if a<b then 1 else 0)else if op=[60,61]then(if a<=b then 1 else 0)
 else if op=[62]then(if b<a then 1 else 0)else if op=[62,61]then(if b<=a then 1 else 0)else 0
theorem JV(b:Int):jR .u64 (IntKind.wrap .u64 b) (IntKind.wrap .u64 (IntKind.wrap .i64 (32-1)))=((b%32).toNat:Int):=by
 have:IntKind.wrap .u64 (IntKind.wrap .i64 (32-1))=((2^5-1:Nat):Int):=by decide
 rw[this];exact eU b 5 (by omega)
theorem JW(b:Int):jR .u64 (IntKind.wrap .u64 b) (IntKind.wrap .u64 (IntKind.wrap .i64 (64-1)))=((b%64).toNat:Int):=by
 have:IntKind.wrap .u64 (IntKind.wrap .i64 (64-1))=((2^6-1:Nat):Int):=by decide
 rw[this];exact eU b 6 (by omega)
variable {K:PK}{E:Env}
theorem Xt(t:Nat)(k:IntKind)(a:Int){b:Int}(h:¬b=0):M4 E .quo t (.int k a) (.int k b) K=.val (.int k (k.wrap (a.tdiv b))) K:=by
 rw[bp _ _ rfl rfl];show w3 (V8 (.int k a) (.int k b) (fun k a b=>bif intEq b 0 then none else M8 k (a.tdiv b))) K=_
 rw[U1,W5,beq_false_of_ne h];exact congrArg (w3 · K) (V5 k _)
theorem tW(t:Nat)(k:IntKind)(a:Int){b:Int}(h:¬b=0):M4 E .rem t (.int k a) (.int k b) K=.val (.int k (a.tmod b)) K:=by
 rw[bp _ _ rfl rfl];show w3 (V8 (.int k a) (.int k b) (fun k a b=>bif intEq b 0 then none else n9 k (a.tmod b))) K=_
 rw[U1,W5,beq_false_of_ne h];exact congrArg (w3 · K) (Ax k _)
theorem mD(k:IntKind)(a:Int):Ib .neg (.int k a)=some (.int k (k.wrap (0-a))):=V5 k _
theorem J3(t:Nat)(k:IntKind)(a b:Int):M4 E .and t (.int k a) (.int k b) K=.val (.int k (jR k a b)) K:=by rw[bp _ _ rfl rfl,JR];rfl
theorem V9(t:Nat)(k:IntKind)(a b:Int):M4 E .or t (.int k a) (.int k b) K=.val (.int k (ZM k a b)) K:=by rw[bp _ _ rfl rfl,ZN];rfl
theorem J4(t:Nat)(k:IntKind)(a b:Int):M4 E .xor t (.int k a) (.int k b) K=.val (.int k (DL k a b)) K:=by rw[bp _ _ rfl rfl,JS];rfl
theorem J5(t:Nat)(k j:IntKind)(a:Int)(n:Nat):M4 E .shl t (.int k a) (.int j (n:Int)) K=.val (.int k (k.wrap (a*(2^(min n (I4 k)):Nat)))) K:=by rw[bp _ _ rfl rfl,JT];rfl
theorem J6(t:Nat)(k j:IntKind)(a:Int)(n:Nat):M4 E .shr t (.int k a) (.int j (n:Int)) K=.val (.int k (a.fdiv (2^(min n (I4 k)):Nat))) K:=by rw[bp _ _ rfl rfl,JU];rfl
theorem eV  {b:Bool}:AM.Comes ⟨A0,T,A1⟩ 88 [.bool b] [.int .i32 (if b=true then 1 else 0)]:=by
 refine⟨[.int .i32 (if b=true then 1 else 0)],⟨[],0,[]⟩,?_,back_of rfl zqb rfl rfl rfl⟩;rw[A3 (c:=PZ) (nt:=4) (rs:=[.tmp 2]) rfl (by simp)];unfold PZ;unfold K0;cases b<;>simp -implicitDefEqProofs only[XP,seval]
def Tg:=S7 (fun p:(Bool)=>[.bool p]) (fun p=>[.int .i32 (if p=true then 1 else 0)]) (fun p=>True)
theorem DM(hone32:T 88=some Tg){b:Bool}{K:PK}:evP ⟨A0,T,A1⟩ (.call 88 [.bool b] K)=some (.val (openTs K.os.length [.int .i32 (if b=true then 1 else 0)]).1 ⟨K.os++(openTs K.os.length [.int .i32 (if b=true then 1 else 0)]).2,K.ext,K.tch⟩):=B5 hone32 (by simp -implicitDefEqProofs only[VV,XP,seval]) (B9 (a:=fun p:(Bool)=>[.bool p]) (r:=fun p=>[.int .i32 (if p=true then 1 else 0)]) (fun x y e=>by simp only[VJ]at e;simp only[e]) (b) trivial) (by simp -implicitDefEqProofs only[VN,XP,seval])
theorem tX  (hP:PEok ⟨A0,T,A1⟩):TC A0 88 Tg:=C0 hP fun p h=>eV
theorem Th  {op:List UInt8} {a:Int} {b:Int}:AM.Comes ⟨A0,T,A1⟩ 80 [.str op,.int .i32 a,.int .i32 b] [.int .i32 (X2 .i32 op a b).1,.int .i64 (X2 .i32 op a b).2]:=by
 refine⟨[.int .i32 (X2 .i32 op a b).1,.int .i64 (X2 .i32 op a b).2],⟨[],0,[]⟩,?_,back_of rfl zqb rfl rfl rfl⟩;rw[A3 (c:=PQ) (nt:=40) (rs:=[.tmp 6,.tmp 7]) rfl (by simp)];unfold PQ;unfold K0;unfold X2;by_cases h0:b=0
 . simp -implicitDefEqProofs only[eq_true h0,XP,seval]
 by_cases h1:op=[37]
 . by_cases h2:b=-1
   . simp -implicitDefEqProofs only[h0,eq_true h1,eq_true h2,XP,seval]
   . simp -implicitDefEqProofs only[h0,eq_true h1,h2,tW _ _ a h0,XP,seval]
 by_cases h2:b=-1
 . by_cases h3:a=0
   . simp -implicitDefEqProofs only[h0,eq_true h2,h1,eq_true h3,Xt _ _ a h0,XP,seval]
   . by_cases h4:IntKind.wrap .i32 (0-a)=a
     . simp -implicitDefEqProofs only[h0,eq_true h2,h1,h3,mD,eq_true h4,XP,seval]
     . simp -implicitDefEqProofs only[h0,eq_true h2,h1,h3,mD,h4,Xt _ _ a h0,XP,seval]
 . simp -implicitDefEqProofs only[h0,h1,h2,Xt _ _ a h0,XP,seval]
def Ar:=S7 (fun p:(List UInt8)×(Int)×(Int)=>[.str p.1,.int .i32 p.2.1,.int .i32 p.2.2]) (fun p=>[.int .i32 (X2 .i32 p.1 p.2.1 p.2.2).1,.int .i64 (X2 .i32 p.1 p.2.1 p.2.2).2]) (fun p=>True)
theorem pN(hdivide32:T 80=some Ar){op:List UInt8}{a:Int}{b:Int}{K:PK}:evP ⟨A0,T,A1⟩ (.call 80 [.str op,.int .i32 a,.int .i32 b] K)=some (.val (openTs K.os.length [.int .i32 (X2 .i32 op a b).1,.int .i64 (X2 .i32 op a b).2]).1 ⟨K.os++(openTs K.os.length [.int .i32 (X2 .i32 op a b).1,.int .i64 (X2 .i32 op a b).2]).2,K.ext,K.tch⟩):=B5 hdivide32 (by simp -implicitDefEqProofs only[VV,XP,seval]) (B9 (a:=fun p:(List UInt8)×(Int)×(Int)=>[.str p.1,.int .i32 p.2.1,.int .i32 p.2.2]) (r:=fun p=>[.int .i32 (X2 .i32 p.1 p.2.1 p.2.2).1,.int .i64 (X2 .i32 p.1 p.2.1 p.2.2).2]) (fun x y e=>by simp only[VJ]at e;simp only[e]) (op,a,b) trivial) (by simp -implicitDefEqProofs only[VN,XP,seval])
theorem eW  (hP:PEok ⟨A0,T,A1⟩):TC A0 80 Ar:=C0 hP fun p h=>Th
theorem aX(hone32:T 88=some Tg){op:List UInt8}{a:Int}{b:Int}:AM.Comes ⟨A0,T,A1⟩ 81 [.str op,.int .i32 a,.int .i32 b,.int .i64 32] [.int .i32 (r8 .i32 32 op a b)]:=by
 refine⟨[.int .i32 (r8 .i32 32 op a b)],⟨[],0,[]⟩,?_,back_of rfl zqb rfl rfl rfl⟩;rw[A3 (c:=PS) (nt:=93) (rs:=[.tmp 8]) rfl (by simp)];unfold PS;unfold K0;have to:=fun b K=>DM (K:=K) (b:=b) hone32
 have lw:=JV b;unfold r8;by_cases h1:op=[43]
 . simp -implicitDefEqProofs only[lw,B6,to,J3,V9,J4,J5,J6,eq_true h1,XP,Nat.reduceAdd,Nat.reduceSub,Nat.reduceLT,Nat.reduceLeDiff,Nat.reduceEqDiff,Nat.reduceMul,↓reduceIte]
 by_cases h2:op=[45]
 . simp -implicitDefEqProofs only[lw,B6,to,J3,V9,J4,J5,J6,h1,eq_true h2,XP,Nat.reduceAdd,Nat.reduceSub,Nat.reduceLT,Nat.reduceLeDiff,Nat.reduceEqDiff,Nat.reduceMul,↓reduceIte]
 by_cases h3:op=[42]
 . simp -implicitDefEqProofs only[lw,B6,to,J3,V9,J4,J5,J6,h1,h2,eq_true h3,XP,Nat.reduceAdd,Nat.reduceSub,Nat.reduceLT,Nat.reduceLeDiff,Nat.reduceEqDiff,Nat.reduceMul,↓reduceIte]
 by_cases h4:op=[38]
 . simp -implicitDefEqProofs only[lw,B6,to,J3,V9,J4,J5,J6,h1,h2,h3,eq_true h4,XP,Nat.reduceAdd,Nat.reduceSub,Nat.reduceLT,Nat.reduceLeDiff,Nat.reduceEqDiff,Nat.reduceMul,↓reduceIte]
 by_cases h5:op=[124]
 . simp -implicitDefEqProofs only[lw,B6,to,J3,V9,J4,J5,J6,h1,h2,h3,h4,eq_true h5,XP,Nat.reduceAdd,Nat.reduceSub,Nat.reduceLT,Nat.reduceLeDiff,Nat.reduceEqDiff,Nat.reduceMul,↓reduceIte]
 by_cases h6:op=[94]
 . simp -implicitDefEqProofs only[lw,B6,to,J3,V9,J4,J5,J6,h1,h2,h3,h4,h5,eq_true h6,XP,Nat.reduceAdd,Nat.reduceSub,Nat.reduceLT,Nat.reduceLeDiff,Nat.reduceEqDiff,Nat.reduceMul,↓reduceIte]
 by_cases h7:op=[60,60]
 . simp -implicitDefEqProofs only[lw,B6,to,J3,V9,J4,J5,J6,h1,h2,h3,h4,h5,h6,eq_true h7,XP,Nat.reduceAdd,Nat.reduceSub,Nat.reduceLT,Nat.reduceLeDiff,Nat.reduceEqDiff,Nat.reduceMul,↓reduceIte]
 by_cases h8:op=[62,62]
 . simp -implicitDefEqProofs only[lw,B6,to,J3,V9,J4,J5,J6,h1,h2,h3,h4,h5,h6,h7,eq_true h8,XP,Nat.reduceAdd,Nat.reduceSub,Nat.reduceLT,Nat.reduceLeDiff,Nat.reduceEqDiff,Nat.reduceMul,↓reduceIte]
 by_cases h9:op=[61,61]
 . simp -implicitDefEqProofs only[lw,B6,to,J3,V9,J4,J5,J6,h1,h2,h3,h4,h5,h6,h7,h8,eq_true h9,XP,Nat.reduceAdd,Nat.reduceSub,Nat.reduceLT,Nat.reduceLeDiff,Nat.reduceEqDiff,Nat.reduceMul,↓reduceIte]
 by_cases h10:op=[33,61]
 . simp -implicitDefEqProofs only[lw,B6,to,J3,V9,J4,J5,J6,h1,h2,h3,h4,h5,h6,h7,h8,h9,eq_true h10,XP,Nat.reduceAdd,Nat.reduceSub,Nat.reduceLT,Nat.reduceLeDiff,Nat.reduceEqDiff,Nat.reduceMul,↓reduceIte]
 by_cases h11:op=[60]
 . simp -implicitDefEqProofs only[lw,B6,to,J3,V9,J4,J5,J6,h1,h2,h3,h4,h5,h6,h7,h8,h9,h10,eq_true h11,XP,Nat.reduceAdd,Nat.reduceSub,Nat.reduceLT,Nat.reduceLeDiff,Nat.reduceEqDiff,Nat.reduceMul,↓reduceIte]
 by_cases h12:op=[60,61]
 . simp -implicitDefEqProofs only[lw,B6,to,J3,V9,J4,J5,J6,h1,h2,h3,h4,h5,h6,h7,h8,h9,h10,h11,eq_true h12,XP,Nat.reduceAdd,Nat.reduceSub,Nat.reduceLT,Nat.reduceLeDiff,Nat.reduceEqDiff,Nat.reduceMul,↓reduceIte]
 by_cases h13:op=[62]
 . simp -implicitDefEqProofs only[lw,B6,to,J3,V9,J4,J5,J6,h1,h2,h3,h4,h5,h6,h7,h8,h9,h10,h11,h12,eq_true h13,XP,Nat.reduceAdd,Nat.reduceSub,Nat.reduceLT,Nat.reduceLeDiff,Nat.reduceEqDiff,Nat.reduceMul,↓reduceIte]
 by_cases h14:op=[62,61]
 . simp -implicitDefEqProofs only[lw,B6,to,J3,V9,J4,J5,J6,h1,h2,h3,h4,h5,h6,h7,h8,h9,h10,h11,h12,h13,eq_true h14,XP,Nat.reduceAdd,Nat.reduceSub,Nat.reduceLT,Nat.reduceLeDiff,Nat.reduceEqDiff,Nat.reduceMul,↓reduceIte]
 simp -implicitDefEqProofs only[lw,B6,to,J3,V9,J4,J5,J6,h1,h2,h3,h4,h5,h6,h7,h8,h9,h10,h11,h12,h13,h14,XP,Nat.reduceAdd,Nat.reduceSub,Nat.reduceLT,Nat.reduceLeDiff,Nat.reduceEqDiff,Nat.reduceMul,↓reduceIte]
def Jl:=S7 (fun p:(List UInt8)×(Int)×(Int)=>[.str p.1,.int .i32 p.2.1,.int .i32 p.2.2,.int .i64 32]) (fun p=>[.int .i32 (r8 .i32 32 p.1 p.2.1 p.2.2)]) (fun p=>True)
theorem xY(hdoes32:T 81=some Jl){op:List UInt8}{a:Int}{b:Int}{K:PK}:evP ⟨A0,T,A1⟩ (.call 81 [.str op,.int .i32 a,.int .i32 b,.int .i64 32] K)=some (.val (openTs K.os.length [.int .i32 (r8 .i32 32 op a b)]).1 ⟨K.os++(openTs K.os.length [.int .i32 (r8 .i32 32 op a b)]).2,K.ext,K.tch⟩):=B5 hdoes32 (by simp -implicitDefEqProofs only[VV,XP,seval]) (B9 (a:=fun p:(List UInt8)×(Int)×(Int)=>[.str p.1,.int .i32 p.2.1,.int .i32 p.2.2,.int .i64 32]) (r:=fun p=>[.int .i32 (r8 .i32 32 p.1 p.2.1 p.2.2)]) (fun x y e=>by simp only[VJ]at e;simp only[e]) (op,a,b) trivial) (by simp -implicitDefEqProofs only[VN,XP,seval])
theorem pO(hone32:T 88=some Tg)(hP:PEok ⟨A0,T,A1⟩):TC A0 81 Jl:=C0 hP fun p h=>aX hone32
theorem eX  {b:Bool}:AM.Comes ⟨A0,T,A1⟩ 89 [.bool b] [.int .i64 (if b=true then 1 else 0)]:=by
 refine⟨[.int .i64 (if b=true then 1 else 0)],⟨[],0,[]⟩,?_,back_of rfl zqb rfl rfl rfl⟩;rw[A3 (c:=QA) (nt:=4) (rs:=[.tmp 2]) rfl (by simp)];unfold QA;unfold K0;cases b<;>simp -implicitDefEqProofs only[XP,seval]
def Ti:=S7 (fun p:(Bool)=>[.bool p]) (fun p=>[.int .i64 (if p=true then 1 else 0)]) (fun p=>True)
theorem DN(hone64:T 89=some Ti){b:Bool}{K:PK}:evP ⟨A0,T,A1⟩ (.call 89 [.bool b] K)=some (.val (openTs K.os.length [.int .i64 (if b=true then 1 else 0)]).1 ⟨K.os++(openTs K.os.length [.int .i64 (if b=true then 1 else 0)]).2,K.ext,K.tch⟩):=B5 hone64 (by simp -implicitDefEqProofs only[VV,XP,seval]) (B9 (a:=fun p:(Bool)=>[.bool p]) (r:=fun p=>[.int .i64 (if p=true then 1 else 0)]) (fun x y e=>by simp only[VJ]at e;simp only[e]) (b) trivial) (by simp -implicitDefEqProofs only[VN,XP,seval])
theorem tY  (hP:PEok ⟨A0,T,A1⟩):TC A0 89 Ti:=C0 hP fun p h=>eX
theorem Tj  {op:List UInt8} {a:Int} {b:Int}:AM.Comes ⟨A0,T,A1⟩ 82 [.str op,.int .i64 a,.int .i64 b] [.int .i64 (X2 .i64 op a b).1,.int .i64 (X2 .i64 op a b).2]:=by
 refine⟨[.int .i64 (X2 .i64 op a b).1,.int .i64 (X2 .i64 op a b).2],⟨[],0,[]⟩,?_,back_of rfl zqb rfl rfl rfl⟩;rw[A3 (c:=PU) (nt:=40) (rs:=[.tmp 6,.tmp 7]) rfl (by simp)];unfold PU;unfold K0;unfold X2;by_cases h0:b=0
 . simp -implicitDefEqProofs only[eq_true h0,XP,seval]
 by_cases h1:op=[37]
 . by_cases h2:b=-1
   . simp -implicitDefEqProofs only[h0,eq_true h1,eq_true h2,XP,seval]
   . simp -implicitDefEqProofs only[h0,eq_true h1,h2,tW _ _ a h0,XP,seval]
 by_cases h2:b=-1
 . by_cases h3:a=0
   . simp -implicitDefEqProofs only[h0,eq_true h2,h1,eq_true h3,Xt _ _ a h0,XP,seval]
   . by_cases h4:IntKind.wrap .i64 (0-a)=a
     . simp -implicitDefEqProofs only[h0,eq_true h2,h1,h3,mD,eq_true h4,XP,seval]
     . simp -implicitDefEqProofs only[h0,eq_true h2,h1,h3,mD,h4,Xt _ _ a h0,XP,seval]
 . simp -implicitDefEqProofs only[h0,h1,h2,Xt _ _ a h0,XP,seval]
def As:=S7 (fun p:(List UInt8)×(Int)×(Int)=>[.str p.1,.int .i64 p.2.1,.int .i64 p.2.2]) (fun p=>[.int .i64 (X2 .i64 p.1 p.2.1 p.2.2).1,.int .i64 (X2 .i64 p.1 p.2.1 p.2.2).2]) (fun p=>True)
theorem pP(hdivide64:T 82=some As){op:List UInt8}{a:Int}{b:Int}{K:PK}:evP ⟨A0,T,A1⟩ (.call 82 [.str op,.int .i64 a,.int .i64 b] K)=some (.val (openTs K.os.length [.int .i64 (X2 .i64 op a b).1,.int .i64 (X2 .i64 op a b).2]).1 ⟨K.os++(openTs K.os.length [.int .i64 (X2 .i64 op a b).1,.int .i64 (X2 .i64 op a b).2]).2,K.ext,K.tch⟩):=B5 hdivide64 (by simp -implicitDefEqProofs only[VV,XP,seval]) (B9 (a:=fun p:(List UInt8)×(Int)×(Int)=>[.str p.1,.int .i64 p.2.1,.int .i64 p.2.2]) (r:=fun p=>[.int .i64 (X2 .i64 p.1 p.2.1 p.2.2).1,.int .i64 (X2 .i64 p.1 p.2.1 p.2.2).2]) (fun x y e=>by simp only[VJ]at e;simp only[e]) (op,a,b) trivial) (by simp -implicitDefEqProofs only[VN,XP,seval])
theorem eY  (hP:PEok ⟨A0,T,A1⟩):TC A0 82 As:=C0 hP fun p h=>Tj
theorem aY(hone64:T 89=some Ti){op:List UInt8}{a:Int}{b:Int}:AM.Comes ⟨A0,T,A1⟩ 83 [.str op,.int .i64 a,.int .i64 b,.int .i64 64] [.int .i64 (r8 .i64 64 op a b)]:=by
 refine⟨[.int .i64 (r8 .i64 64 op a b)],⟨[],0,[]⟩,?_,back_of rfl zqb rfl rfl rfl⟩;rw[A3 (c:=PV) (nt:=93) (rs:=[.tmp 8]) rfl (by simp)];unfold PV;unfold K0;have to:=fun b K=>DN (K:=K) (b:=b) hone64
 have lw:=JW b;unfold r8;by_cases h1:op=[43]
 . simp -implicitDefEqProofs only[lw,B6,to,J3,V9,J4,J5,J6,eq_true h1,XP,Nat.reduceAdd,Nat.reduceSub,Nat.reduceLT,Nat.reduceLeDiff,Nat.reduceEqDiff,Nat.reduceMul,↓reduceIte]
 by_cases h2:op=[45]
 . simp -implicitDefEqProofs only[lw,B6,to,J3,V9,J4,J5,J6,h1,eq_true h2,XP,Nat.reduceAdd,Nat.reduceSub,Nat.reduceLT,Nat.reduceLeDiff,Nat.reduceEqDiff,Nat.reduceMul,↓reduceIte]
 by_cases h3:op=[42]
 . simp -implicitDefEqProofs only[lw,B6,to,J3,V9,J4,J5,J6,h1,h2,eq_true h3,XP,Nat.reduceAdd,Nat.reduceSub,Nat.reduceLT,Nat.reduceLeDiff,Nat.reduceEqDiff,Nat.reduceMul,↓reduceIte]
 by_cases h4:op=[38]
 . simp -implicitDefEqProofs only[lw,B6,to,J3,V9,J4,J5,J6,h1,h2,h3,eq_true h4,XP,Nat.reduceAdd,Nat.reduceSub,Nat.reduceLT,Nat.reduceLeDiff,Nat.reduceEqDiff,Nat.reduceMul,↓reduceIte]
 by_cases h5:op=[124]
 . simp -implicitDefEqProofs only[lw,B6,to,J3,V9,J4,J5,J6,h1,h2,h3,h4,eq_true h5,XP,Nat.reduceAdd,Nat.reduceSub,Nat.reduceLT,Nat.reduceLeDiff,Nat.reduceEqDiff,Nat.reduceMul,↓reduceIte]
 by_cases h6:op=[94]
 . simp -implicitDefEqProofs only[lw,B6,to,J3,V9,J4,J5,J6,h1,h2,h3,h4,h5,eq_true h6,XP,Nat.reduceAdd,Nat.reduceSub,Nat.reduceLT,Nat.reduceLeDiff,Nat.reduceEqDiff,Nat.reduceMul,↓reduceIte]
 by_cases h7:op=[60,60]
 . simp -implicitDefEqProofs only[lw,B6,to,J3,V9,J4,J5,J6,h1,h2,h3,h4,h5,h6,eq_true h7,XP,Nat.reduceAdd,Nat.reduceSub,Nat.reduceLT,Nat.reduceLeDiff,Nat.reduceEqDiff,Nat.reduceMul,↓reduceIte]
 by_cases h8:op=[62,62]
 . simp -implicitDefEqProofs only[lw,B6,to,J3,V9,J4,J5,J6,h1,h2,h3,h4,h5,h6,h7,eq_true h8,XP,Nat.reduceAdd,Nat.reduceSub,Nat.reduceLT,Nat.reduceLeDiff,Nat.reduceEqDiff,Nat.reduceMul,↓reduceIte]
 by_cases h9:op=[61,61]
 . simp -implicitDefEqProofs only[lw,B6,to,J3,V9,J4,J5,J6,h1,h2,h3,h4,h5,h6,h7,h8,eq_true h9,XP,Nat.reduceAdd,Nat.reduceSub,Nat.reduceLT,Nat.reduceLeDiff,Nat.reduceEqDiff,Nat.reduceMul,↓reduceIte]
 by_cases h10:op=[33,61]
 . simp -implicitDefEqProofs only[lw,B6,to,J3,V9,J4,J5,J6,h1,h2,h3,h4,h5,h6,h7,h8,h9,eq_true h10,XP,Nat.reduceAdd,Nat.reduceSub,Nat.reduceLT,Nat.reduceLeDiff,Nat.reduceEqDiff,Nat.reduceMul,↓reduceIte]
 by_cases h11:op=[60]
 . simp -implicitDefEqProofs only[lw,B6,to,J3,V9,J4,J5,J6,h1,h2,h3,h4,h5,h6,h7,h8,h9,h10,eq_true h11,XP,Nat.reduceAdd,Nat.reduceSub,Nat.reduceLT,Nat.reduceLeDiff,Nat.reduceEqDiff,Nat.reduceMul,↓reduceIte]
 by_cases h12:op=[60,61]
 . simp -implicitDefEqProofs only[lw,B6,to,J3,V9,J4,J5,J6,h1,h2,h3,h4,h5,h6,h7,h8,h9,h10,h11,eq_true h12,XP,Nat.reduceAdd,Nat.reduceSub,Nat.reduceLT,Nat.reduceLeDiff,Nat.reduceEqDiff,Nat.reduceMul,↓reduceIte]
 by_cases h13:op=[62]
 . simp -implicitDefEqProofs only[lw,B6,to,J3,V9,J4,J5,J6,h1,h2,h3,h4,h5,h6,h7,h8,h9,h10,h11,h12,eq_true h13,XP,Nat.reduceAdd,Nat.reduceSub,Nat.reduceLT,Nat.reduceLeDiff,Nat.reduceEqDiff,Nat.reduceMul,↓reduceIte]
 by_cases h14:op=[62,61]
 . simp -implicitDefEqProofs only[lw,B6,to,J3,V9,J4,J5,J6,h1,h2,h3,h4,h5,h6,h7,h8,h9,h10,h11,h12,h13,eq_true h14,XP,Nat.reduceAdd,Nat.reduceSub,Nat.reduceLT,Nat.reduceLeDiff,Nat.reduceEqDiff,Nat.reduceMul,↓reduceIte]
 simp -implicitDefEqProofs only[lw,B6,to,J3,V9,J4,J5,J6,h1,h2,h3,h4,h5,h6,h7,h8,h9,h10,h11,h12,h13,h14,XP,Nat.reduceAdd,Nat.reduceSub,Nat.reduceLT,Nat.reduceLeDiff,Nat.reduceEqDiff,Nat.reduceMul,↓reduceIte]
def Jm:=S7 (fun p:(List UInt8)×(Int)×(Int)=>[.str p.1,.int .i64 p.2.1,.int .i64 p.2.2,.int .i64 64]) (fun p=>[.int .i64 (r8 .i64 64 p.1 p.2.1 p.2.2)]) (fun p=>True)
theorem xZ(hdoes64:T 83=some Jm){op:List UInt8}{a:Int}{b:Int}{K:PK}:evP ⟨A0,T,A1⟩ (.call 83 [.str op,.int .i64 a,.int .i64 b,.int .i64 64] K)=some (.val (openTs K.os.length [.int .i64 (r8 .i64 64 op a b)]).1 ⟨K.os++(openTs K.os.length [.int .i64 (r8 .i64 64 op a b)]).2,K.ext,K.tch⟩):=B5 hdoes64 (by simp -implicitDefEqProofs only[VV,XP,seval]) (B9 (a:=fun p:(List UInt8)×(Int)×(Int)=>[.str p.1,.int .i64 p.2.1,.int .i64 p.2.2,.int .i64 64]) (r:=fun p=>[.int .i64 (r8 .i64 64 p.1 p.2.1 p.2.2)]) (fun x y e=>by simp only[VJ]at e;simp only[e]) (op,a,b) trivial) (by simp -implicitDefEqProofs only[VN,XP,seval])
theorem pQ(hone64:T 89=some Ti)(hP:PEok ⟨A0,T,A1⟩):TC A0 83 Jm:=C0 hP fun p h=>aY hone64
def J7(k:IntKind)(m:Int)(op:List UInt8)(a b:Int):Int×Int:=if op=[47]then X2 k op a b else if op=[37]then X2 k op a b else(r8 k m op a b,0)
def g9(t:Int)(op:List UInt8)(a b:Int):Int×Int:=
 if t=1 then(IntKind.wrap .i64 (J7 .i32 32 op (IntKind.wrap .i32 a) (IntKind.wrap .i32 b)).1,(J7 .i32 32 op (IntKind.wrap .i32 a) (IntKind.wrap .i32 b)).2)
 else if t=2 then J7 .i64 64 op a b else(0,0)
theorem eZ(hdivide32:T 80=some Ar)(hdoes32:T 81=some Jl){op:List UInt8}{a:Int}{b:Int}:AM.Comes ⟨A0,T,A1⟩ 71 [.str op,.int .i32 a,.int .i32 b,.int .i64 32] [.int .i64 (IntKind.wrap .i64 (J7 .i32 32 op a b).1),.int .i64 (J7 .i32 32 op a b).2]:=by
 refine⟨[.int .i64 (IntKind.wrap .i64 (J7 .i32 32 op a b).1),.int .i64 (J7 .i32 32 op a b).2],⟨[],0,[]⟩,?_,back_of rfl zqb rfl rfl rfl⟩;rw[A3 (c:=PD) (nt:=34) (rs:=[.tmp 8,.tmp 9]) rfl (by simp)];unfold PD;unfold K0;have td:=fun K=>pN (K:=K) (op:=op) (a:=a) (b:=b) hdivide32
 have te:=fun K=>xY (K:=K) (op:=op) (a:=a) (b:=b) hdoes32
 unfold J7;by_cases h1:op=[47]
 . simp -implicitDefEqProofs only[td,te,B6,eq_true h1,XP,seval]
 by_cases h2:op=[37]
 . simp -implicitDefEqProofs only[td,te,B6,h1,eq_true h2,XP,seval]
 simp -implicitDefEqProofs only[td,te,B6,h1,h2,XP,seval]
def Tk:=S7 (fun p:(List UInt8)×(Int)×(Int)=>[.str p.1,.int .i32 p.2.1,.int .i32 p.2.2,.int .i64 32]) (fun p=>[.int .i64 (IntKind.wrap .i64 (J7 .i32 32 p.1 p.2.1 p.2.2).1),.int .i64 (J7 .i32 32 p.1 p.2.1 p.2.2).2]) (fun p=>True)
theorem DO(hbin32:T 71=some Tk){op:List UInt8}{a:Int}{b:Int}{K:PK}:evP ⟨A0,T,A1⟩ (.call 71 [.str op,.int .i32 a,.int .i32 b,.int .i64 32] K)=some (.val (openTs K.os.length [.int .i64 (IntKind.wrap .i64 (J7 .i32 32 op a b).1),.int .i64 (J7 .i32 32 op a b).2]).1 ⟨K.os++(openTs K.os.length [.int .i64 (IntKind.wrap .i64 (J7 .i32 32 op a b).1),.int .i64 (J7 .i32 32 op a b).2]).2,K.ext,K.tch⟩):=B5 hbin32 (by simp -implicitDefEqProofs only[VV,XP,seval]) (B9 (a:=fun p:(List UInt8)×(Int)×(Int)=>[.str p.1,.int .i32 p.2.1,.int .i32 p.2.2,.int .i64 32]) (r:=fun p=>[.int .i64 (IntKind.wrap .i64 (J7 .i32 32 p.1 p.2.1 p.2.2).1),.int .i64 (J7 .i32 32 p.1 p.2.1 p.2.2).2]) (fun x y e=>by simp only[VJ]at e;simp only[e]) (op,a,b) trivial) (by simp -implicitDefEqProofs only[VN,XP,seval])
theorem tZ(hdivide32:T 80=some Ar)(hdoes32:T 81=some Jl)(hP:PEok ⟨A0,T,A1⟩):TC A0 71 Tk:=C0 hP fun p h=>eZ hdivide32 hdoes32
theorem fA(hdivide64:T 82=some As)(hdoes64:T 83=some Jm){op:List UInt8}{a:Int}{b:Int}:AM.Comes ⟨A0,T,A1⟩ 72 [.str op,.int .i64 a,.int .i64 b,.int .i64 64] [.int .i64 (J7 .i64 64 op a b).1,.int .i64 (J7 .i64 64 op a b).2]:=by
 refine⟨[.int .i64 (J7 .i64 64 op a b).1,.int .i64 (J7 .i64 64 op a b).2],⟨[],0,[]⟩,?_,back_of rfl zqb rfl rfl rfl⟩;rw[A3 (c:=PG) (nt:=32) (rs:=[.tmp 8,.tmp 9]) rfl (by simp)];unfold PG;unfold K0;have td:=fun K=>pP (K:=K) (op:=op) (a:=a) (b:=b) hdivide64
 have te:=fun K=>xZ (K:=K) (op:=op) (a:=a) (b:=b) hdoes64
 unfold J7;by_cases h1:op=[47]
 . simp -implicitDefEqProofs only[td,te,B6,eq_true h1,XP,seval]
 by_cases h2:op=[37]
 . simp -implicitDefEqProofs only[td,te,B6,h1,eq_true h2,XP,seval]
 simp -implicitDefEqProofs only[td,te,B6,h1,h2,XP,seval]
def Tl:=S7 (fun p:(List UInt8)×(Int)×(Int)=>[.str p.1,.int .i64 p.2.1,.int .i64 p.2.2,.int .i64 64]) (fun p=>[.int .i64 (J7 .i64 64 p.1 p.2.1 p.2.2).1,.int .i64 (J7 .i64 64 p.1 p.2.1 p.2.2).2]) (fun p=>True)
theorem DQ(hbin64:T 72=some Tl){op:List UInt8}{a:Int}{b:Int}{K:PK}:evP ⟨A0,T,A1⟩ (.call 72 [.str op,.int .i64 a,.int .i64 b,.int .i64 64] K)=some (.val (openTs K.os.length [.int .i64 (J7 .i64 64 op a b).1,.int .i64 (J7 .i64 64 op a b).2]).1 ⟨K.os++(openTs K.os.length [.int .i64 (J7 .i64 64 op a b).1,.int .i64 (J7 .i64 64 op a b).2]).2,K.ext,K.tch⟩):=B5 hbin64 (by simp -implicitDefEqProofs only[VV,XP,seval]) (B9 (a:=fun p:(List UInt8)×(Int)×(Int)=>[.str p.1,.int .i64 p.2.1,.int .i64 p.2.2,.int .i64 64]) (r:=fun p=>[.int .i64 (J7 .i64 64 p.1 p.2.1 p.2.2).1,.int .i64 (J7 .i64 64 p.1 p.2.1 p.2.2).2]) (fun x y e=>by simp only[VJ]at e;simp only[e]) (op,a,b) trivial) (by simp -implicitDefEqProofs only[VN,XP,seval])
theorem uA(hdivide64:T 82=some As)(hdoes64:T 83=some Jm)(hP:PEok ⟨A0,T,A1⟩):TC A0 72 Tl:=C0 hP fun p h=>fA hdivide64 hdoes64
theorem Tm(hbin32:T 71=some Tk)(hbin64:T 72=some Tl){t:Int}{op:List UInt8}{a:Int}{b:Int}:AM.Comes ⟨A0,T,A1⟩ 55 [.int .i64 t,.str op,.int .i64 a,.int .i64 b] [.int .i64 (g9 t op a b).1,.int .i64 (g9 t op a b).2]:=by
 refine⟨[.int .i64 (g9 t op a b).1,.int .i64 (g9 t op a b).2],⟨[],0,[]⟩,?_,back_of rfl zqb rfl rfl rfl⟩;rw[A3 (c:=OS) (nt:=29) (rs:=[.tmp 8,.tmp 9]) rfl (by simp)];unfold OS;unfold K0;have t1:=fun K=>DO (K:=K) (op:=op) (a:=IntKind.wrap .i32 a) (b:=IntKind.wrap .i32 b) hbin32
 have t2:=fun K=>DQ (K:=K) (op:=op) (a:=a) (b:=b) hbin64
 unfold g9;by_cases h1:t=1
 . simp -implicitDefEqProofs only[t1,t2,B6,eq_true h1,XP,seval]
 by_cases h2:t=2
 . simp -implicitDefEqProofs only[t1,t2,B6,h1,eq_true h2,XP,seval]
 simp -implicitDefEqProofs only[t1,t2,B6,h1,h2,XP,seval]
def V4:=S7 (fun p:(Int)×(List UInt8)×(Int)×(Int)=>[.int .i64 p.1,.str p.2.1,.int .i64 p.2.2.1,.int .i64 p.2.2.2]) (fun p=>[.int .i64 (g9 p.1 p.2.1 p.2.2.1 p.2.2.2).1,.int .i64 (g9 p.1 p.2.1 p.2.2.1 p.2.2.2).2]) (fun p=>True)
theorem Xu(hword_Bin:T 55=some V4){t:Int}{op:List UInt8}{a:Int}{b:Int}{K:PK}:evP ⟨A0,T,A1⟩ (.call 55 [.int .i64 t,.str op,.int .i64 a,.int .i64 b] K)=some (.val (openTs K.os.length [.int .i64 (g9 t op a b).1,.int .i64 (g9 t op a b).2]).1 ⟨K.os++(openTs K.os.length [.int .i64 (g9 t op a b).1,.int .i64 (g9 t op a b).2]).2,K.ext,K.tch⟩):=B5 hword_Bin (by simp -implicitDefEqProofs only[VV,XP,seval]) (B9 (a:=fun p:(Int)×(List UInt8)×(Int)×(Int)=>[.int .i64 p.1,.str p.2.1,.int .i64 p.2.2.1,.int .i64 p.2.2.2]) (r:=fun p=>[.int .i64 (g9 p.1 p.2.1 p.2.2.1 p.2.2.2).1,.int .i64 (g9 p.1 p.2.1 p.2.2.1 p.2.2.2).2]) (fun x y e=>by simp only[VJ]at e;simp only[e]) (t,op,a,b) trivial) (by simp -implicitDefEqProofs only[VN,XP,seval])
theorem fB(hbin32:T 71=some Tk)(hbin64:T 72=some Tl)(hP:PEok ⟨A0,T,A1⟩):TC A0 55 V4:=C0 hP fun p h=>Tm hbin32 hbin64
section
variable {K:PK}{fr:PF}{x:Operand}{v:AV}
theorem Xv:prim A0 (.makeInterface 68 x) fr K=.val (.iface 68 (opvP A0 x fr)) K:=rfl
theorem JX(u:Nat):prim A0 (.typeAssert x u 68 false) fr K=w3 (Ig 68 (opvP A0 x fr)) K:=rfl
theorem ZO:Ig 68 (.iface 68 v)=some v:=rfl
theorem BT(t:Nat):M4 A0 .neq 20 (.iface t v) .niliface K=.val (.bool true) K:=by rw[bp _ _ rfl rfl];rfl
theorem BU:M4 A0 .neq 20 .niliface .niliface K=.val (.bool false) K:=by rw[bp _ _ rfl rfl];rfl
theorem uB:opvP A0 (.const .nilIface) fr=.niliface:=rfl
end
structure Mst where
 steps:Int
 input:List Int
 data:List (List Int)
 out:List Int
 calls:Int
def mB(m:Modl)(s:Mst)(d o:AV):AV:=.agg [fslN (m.gs.map Glo.F),fslN (m.fs.map Cod.F),fslN (ints s.input),.int .i64 s.steps,d,o,.int .i64 0,.int .i64 0,.int .i64 s.calls]
def E0(st c:Int):AV:=.iface 68 (.agg [.int .i64 st,.int .i64 c])
theorem Ad{K:PK}{n:Nat}{l:List XOp}(h1:(K.tch.all fun i=>decide (n<=i))=false)(h2:(l.all fun o=>!o.careful)=false):s9 n l K=false:=by unfold s9;rw[h1,h2];rfl
theorem Ez{n:Int}(h1:-9223372036854775808<=n)(h2:n<=9223372036854775807):IntKind.wrap .i64 n=n:=by
 rw[IntKind.wrap_i64];omega
theorem JY{K:PK}{n:Int}{l:List Int}:w3 (Mg A0 (.slice 3) (some (.int .i64 1)) none none (fslN (ints (n::l)))) K=.val (fslN (ints l)) K:=by
 show w3 ((Ab 1 (ints (n::l)) false (some (.int .i64 1)) none none).map fun y=>match y with | .fsl l _=>AV.fsl l l.isEmpty|y=>y) K=_
 show w3 ((B1 (Nat.ble 1 (lenL (ints (n::l)))&&Nat.ble (lenL (ints (n::l))) (lenL (ints (n::l)))&&Nat.ble (lenL (ints (n::l))) (lenL (ints (n::l)))&&true) (some (AV.fsl (takeL (dropL (ints (n::l)) 1) (Nat.sub (lenL (ints (n::l))) 1)) (false&&Nat.beq (lenL (ints (n::l))) (lenL (ints (n::l))))))).map fun y=>match y with | .fsl l _=>AV.fsl l l.isEmpty|y=>y) K=_
 rw[A6,zkf (show 1<=(ints (n::l)).length by simp),zkf (Nat.le_refl _),F7,F6];show OpS.val (.fsl (((ints (n::l)).drop 1).take ((ints (n::l)).length-1)) (((ints (n::l)).drop 1).take ((ints (n::l)).length-1)).isEmpty) K=_
 rw[zqt (by simp)];rfl
section
variable {m:Modl}{s:Mst}{d o:AV}{rest:List PO}{ext:Nat}{tch:List Nat}
theorem m5(hN:T 40=none)(h:1<=s.steps)(hs:s.steps<=20000):evP ⟨A0,T,A1⟩ (.call 40 [.ptr 0 0 0] ⟨(.row 1 [mB m s d o] 9::rest),ext,tch⟩)=some (.val [] ⟨.row 1 [mB m {s with steps:=s.steps-1} d o] 9::rest,ext,[0]++tch⟩):=by
 have hq:¬s.steps<1:=by omega
 rw[Ch hN rfl];rw[A3 (c:=GF) (nt:=16) (rs:=[]) rfl (by simp)];unfold GF;unfold mB;have hw:=Ez (n:=s.steps-1) (by omega) (by omega);simp -implicitDefEqProofs only[hq,hw,Xv,XP,seval]
theorem mE(hN:T 40=none)(h:¬1<=s.steps):evP ⟨A0,T,A1⟩ (.call 40 [.ptr 0 0 0] ⟨(.row 1 [mB m s d o] 9::rest),ext,tch⟩)=some (.pan (E0 3 0) ⟨(.row 1 [mB m s d o] 9::rest),ext,tch⟩):=by
 have hq:s.steps<1:=by omega
 rw[Ch hN rfl];rw[A3 (c:=GF) (nt:=16) (rs:=[]) rfl (by simp)];unfold GF;unfold mB E0;simp -implicitDefEqProofs only[eq_true hq,Xv,XP,seval]
theorem yA(hN:T 39=none){K:PK}:evP ⟨A0,T,A1⟩ (.call 39 [.int .i64 0] K)=some (.val [] K):=by
 rw[Ch hN rfl];rw[A3 (c:=GE) (nt:=7) (rs:=[]) rfl (by simp)];unfold GE;simp -implicitDefEqProofs only[Xv,XP,seval]
theorem Pr(hN:T 39=none){K:PK}{t:Int}(h:¬t=0):evP ⟨A0,T,A1⟩ (.call 39 [.int .i64 t] K)=some (.pan (E0 2 t) K):=by
 rw[Ch hN rfl];rw[A3 (c:=GE) (nt:=7) (rs:=[]) rfl (by simp)];unfold GE;unfold E0;simp -implicitDefEqProofs only[h,Xv,XP,seval]
theorem DR(hN:T 58=none)(h:s.input=[]):evP ⟨A0,T,A1⟩ (.call 58 [.ptr 0 0 0] ⟨(.row 1 [mB m s d o] 9::rest),ext,tch⟩)=some (.val [.int .i64 0] ⟨(.row 1 [mB m s d o] 9::rest),ext,tch⟩):=by
 rw[Ch hN rfl];rw[A3 (c:=GG) (nt:=25) (rs:=[.tmp 2]) rfl (by simp)];unfold GG;unfold mB;have hl0:decide (((ints []).length:Int)=0)=true:=rfl;simp -implicitDefEqProofs only[h,hl0,Xv,XP,seval]
theorem DS(hN:T 58=none){n:Int}{l:List Int}(h:s.input=n::l):evP ⟨A0,T,A1⟩ (.call 58 [.ptr 0 0 0] ⟨(.row 1 [mB m s d o] 9::rest),ext,tch⟩)=some (.val [.int .i64 n] ⟨.row 1 [mB m {s with input:=l} d o] 9::rest,ext,[0]++tch⟩):=by
 rw[Ch hN rfl];rw[A3 (c:=GG) (nt:=25) (rs:=[.tmp 2]) rfl (by simp)];unfold GG;unfold mB;have hl0:decide (((ints (n::l)).length:Int)=0)=false:=by simp;omega
 have hi:Kq ty3 (fslN (ints (n::l))) (.int .i64 0)=some (.fptr (.int .i64 n) 0):=ix_fslN (i:=0) rfl rfl;simp -implicitDefEqProofs only[h,hl0,hi,JY,Xv,XP,seval]
end
abbrev at'(l:List Int)(i:Int):Int:=l.getD i.toNat 0
abbrev put'(l:List Int)(i v:Int):List Int:=l.set i.toNat v
theorem M0{r:List Int}{d:Nat}{v:Int}:(ints r).set d (.int .i64 v)=ints (r.set d v):=by
 rw[ints,ints,List.map_set]
def rowO(l:List Int):AV:=ownd 0 1 (ints l)
theorem fC{l:List (List Int)}{i:Nat}{v:List Int}:(l.map rowO).set i (ownd 0 1 (ints v))=(l.set i v).map rowO:=by rw[List.map_set];rfl
theorem At{l:List (List Int)}{i:Nat}(h:i<l.length):(l.map rowO)[i]?=some (ownd 0 1 (ints l[i])):=by rw[zqk,zqd h];rfl
theorem thereD_iff{a n:Int}:thereD a n=true↔0<=a/\a<n:=by unfold thereD;simp
theorem uC(k sz o:Nat)(es:List AV)(c:AV):putCl (ownd k sz es) o c=c:=rfl
theorem uD{l:List Int}{v:Int}:ints l++[.int .i64 v]=ints (l++[v]):=by simp[ints]
theorem gD{l:List Int}{i:Nat}(h:i<l.length):l.getD i 0=l[i]:=by simp[zqp,h]
theorem GK{l:List (List Int)}{i:Nat}(h:i<l.length):l.getD i []=l[i]:=by simp[zqp,h]
theorem BV{l:List Glo}{i:Nat}{g:Glo}(h:i<l.length):l.getD i g=l[i]:=by simp[zqp,h]
def dA(f:Bool)(i:Nat)(s:Mst):AV:=match f with|true=>.msl i 0 s.data.length 1|false=>.nilsl
def dR(f:Bool)(s:Mst):List PO:=match f with|true=>[.row 0 (s.data.map rowO) 1]|false=>[]
def oA(f n:Bool)(i:Nat)(o:List Int):AV:=match f,n with|false,false=>.nilsl|false,true=>.msl i 0 o.length 1|true,false=>.msl i 0 o.length 1|true,true=>.msl (i+1) 0 o.length 1
def oR(f n:Bool)(o:List Int):List PO:=match f,n with|false,false=>[]|false,true=>[.row 0 (ints o) 1]|true,false=>[.row 0 (ints o) 1]|true,true=>[.dead,.row 0 (ints o) 1]
def nB(f:Bool):Nat:=match f with|true=>1|false=>0
def l5(fd fo n:Bool)(m:Modl)(s:Mst)(r:List Int):List PO:=.row 1 [mB m s (dA fd 2 s) (oA fo n (2+nB fd) s.out)] 9::.row 0 (ints r) 1::(dR fd s++oR fo n s.out)
def gAt(m:Modl)(i:Int):Glo:=m.gs.getD i.toNat ⟨[],0,0,0⟩
def dAt(s:Mst)(i:Int):List Int:=s.data.getD i.toNat []
def doesI(m:Modl)(x:Ins)(r:List Int)(s:Mst):Int×Mst×List Int:=
 if x.op=1 then(0,s,put' r x.dst x.n)
 else if x.op=2 then(0,s,put' r x.dst (at' r x.a))
 else if x.op=3 then(if(g9 x.ty x.s (at' r x.a) (at' r x.b)).2=0 then(0,s,put' r x.dst (g9 x.ty x.s (at' r x.a) (at' r x.b)).1)else((g9 x.ty x.s (at' r x.a) (at' r x.b)).2,s,r))
 else if x.op=4 then(0,s,put' r x.dst (wrapD x.ty (at' r x.a)))
 else if x.op=5 then(if thereD (at' r x.a) (gAt m x.n).size=true then(0,s,put' r x.dst (at' (dAt s x.n) (at' r x.a)))else(3,s,r))
 else if x.op=6 then(if thereD (at' r x.a) (gAt m x.n).size=true then(0,{s with data:=s.data.set x.n.toNat (put' (dAt s x.n) (at' r x.a) (wrapD (gAt m x.n).ty (at' r x.b)))},r)else(3,s,r))
 else if x.op=7 then(0,s,put' r x.dst (at' (dAt s x.n) 0))
 else if x.op=8 then(0,{s with data:=s.data.set x.n.toNat (put' (dAt s x.n) 0 (at' r x.a))},r)
 else if x.op=10 then(0,{s with input:=s.input.tail},put' r x.dst (s.input.headD 0))
 else if x.op=11 then(0,{s with out:=s.out++[at' r x.a]},r)
 else(0,s,r)
structure InsOk(m:Modl)(x:Ins)(r:List Int)(s:Mst):Prop where
 dst:x.op=1\/x.op=2\/x.op=3\/x.op=4\/x.op=5\/x.op=7\/x.op=10->0<=x.dst/\x.dst<r.length
 a:x.op=2\/x.op=3\/x.op=4\/x.op=5\/x.op=6\/x.op=8\/x.op=11->0<=x.a/\x.a<r.length
 b:x.op=3\/x.op=6->0<=x.b/\x.b<r.length
 n:x.op=5\/x.op=6\/x.op=7\/x.op=8->0<=x.n/\x.n<m.gs.length
 d:s.data.length=m.gs.length/\∀(i:Nat) l g,s.data[i]?=some l->m.gs[i]?=some g->(l.length:Int)=max g.size 1
section
variable {m:Modl}{s:Mst}{fd fo:Bool}{r:List Int}{x:Ins}
theorem ZP(h:x.op=1)(ho:InsOk m x r s)(hd0:fd=false->s.data=[])(hol:s.out.length<=30000):∃tch,evP ⟨A0,T,A1⟩ (.body 42 [.ptr 0 0 0,x.F,.msl 1 0 r.length 1] ⟨l5 fd fo false m s r,2+nB fd+nB fo,[]⟩)=some (.val [] ⟨l5 fd fo false m s (put' r x.dst x.n),2+nB fd+nB fo,tch⟩):=by
 obtain⟨d,hd,hd2⟩:∃d:Nat,x.dst=d/\d<r.length:=by have:=ho.dst (by omega);exact⟨x.dst.toNat,by omega,by omega⟩
 rw [A3 (c:=Ga) (nt:=173) (rs:=[]) rfl (by simp)];unfold Ga;unfold S3 S2 k9 l5 mB Ins.F;cases fd<;>cases fo<;>(
  simp only[dA,dR,oA,oR,nB,put',at',hd];simp -implicitDefEqProofs only[eq_true h,A9 hd2,hd2,M0,zqz,XP,seval];exact⟨_,rfl⟩)
theorem ZQ(h:x.op=2)(ho:InsOk m x r s)(hd0:fd=false->s.data=[])(hol:s.out.length<=30000):∃tch,evP ⟨A0,T,A1⟩ (.body 42 [.ptr 0 0 0,x.F,.msl 1 0 r.length 1] ⟨l5 fd fo false m s r,2+nB fd+nB fo,[]⟩)=some (.val [] ⟨l5 fd fo false m s (put' r x.dst (at' r x.a)),2+nB fd+nB fo,tch⟩):=by
 obtain⟨d,hd,hd2⟩:∃d:Nat,x.dst=d/\d<r.length:=by have:=ho.dst (by omega);exact⟨x.dst.toNat,by omega,by omega⟩
 obtain⟨a,ha,ha2⟩:∃a:Nat,x.a=a/\a<r.length:=by have:=ho.a (by omega);exact⟨x.a.toNat,by omega,by omega⟩
 rw [A3 (c:=Ga) (nt:=173) (rs:=[]) rfl (by simp)];unfold Ga;unfold S3 S2 k9 o8 l5 mB Ins.F;cases fd<;>cases fo<;>(
  simp only[dA,dR,oA,oR,nB,put',at',hd,ha];simp -implicitDefEqProofs only[eq_true h,(show ¬x.op=1 by omega),A9 hd2,hd2,A9 ha2,ha2,gD ha2,M0,zqz,XP,seval];exact⟨_,rfl⟩)
theorem ZR(hB:T 55=some V4)(hN:T 39=none)(h:x.op=3)(ho:InsOk m x r s)(hd0:fd=false->s.data=[])(hol:s.out.length<=30000)(hv:(g9 x.ty x.s (at' r x.a) (at' r x.b)).2=0):∃tch,evP ⟨A0,T,A1⟩ (.body 42 [.ptr 0 0 0,x.F,.msl 1 0 r.length 1] ⟨l5 fd fo false m s r,2+nB fd+nB fo,[]⟩)=some (.val [] ⟨l5 fd fo false m s (put' r x.dst (g9 x.ty x.s (at' r x.a) (at' r x.b)).1),2+nB fd+nB fo,tch⟩):=by
 obtain⟨d,hd,hd2⟩:∃d:Nat,x.dst=d/\d<r.length:=by have:=ho.dst (by omega);exact⟨x.dst.toNat,by omega,by omega⟩
 obtain⟨a,ha,ha2⟩:∃a:Nat,x.a=a/\a<r.length:=by have:=ho.a (by omega);exact⟨x.a.toNat,by omega,by omega⟩
 obtain⟨b,hb,hb2⟩:∃b:Nat,x.b=b/\b<r.length:=by have:=ho.b (by omega);exact⟨x.b.toNat,by omega,by omega⟩
 have tb:=fun K=>Xu (K:=K) (t:=x.ty) (op:=x.s) (a:=r[a]) (b:=r[b]) hB
 rw [at',at',ha,hb,zqz,zqz,gD ha2,gD hb2]at hv;rw[hv]at tb;rw[A3 (c:=Ga) (nt:=173) (rs:=[]) rfl (by simp)];unfold Ga;unfold S3 S2 k9 o8 y0 l5 mB Ins.F;cases fd<;>cases fo<;>(
  simp only[dA,dR,oA,oR,nB,put',at',hd,ha,hb];simp -implicitDefEqProofs only[eq_true h,(show ¬x.op=1 by omega),(show ¬x.op=2 by omega),A9 hd2,hd2,A9 ha2,ha2,gD ha2,A9 hb2,hb2,gD hb2,M0,tb,yA hN,zqz,XP,seval];exact⟨_,rfl⟩)
theorem JZ(hB:T 55=some V4)(hN:T 39=none)(h:x.op=3)(ho:InsOk m x r s)(hd0:fd=false->s.data=[])(hol:s.out.length<=30000)(hv:¬(g9 x.ty x.s (at' r x.a) (at' r x.b)).2=0):∃tch,evP ⟨A0,T,A1⟩ (.body 42 [.ptr 0 0 0,x.F,.msl 1 0 r.length 1] ⟨l5 fd fo false m s r,2+nB fd+nB fo,[]⟩)=some (.pan (E0 2 (g9 x.ty x.s (at' r x.a) (at' r x.b)).2) ⟨l5 fd fo false m s r,2+nB fd+nB fo,tch⟩):=by
 obtain⟨d,hd,hd2⟩:∃d:Nat,x.dst=d/\d<r.length:=by have:=ho.dst (by omega);exact⟨x.dst.toNat,by omega,by omega⟩
 obtain⟨a,ha,ha2⟩:∃a:Nat,x.a=a/\a<r.length:=by have:=ho.a (by omega);exact⟨x.a.toNat,by omega,by omega⟩
 obtain⟨b,hb,hb2⟩:∃b:Nat,x.b=b/\b<r.length:=by have:=ho.b (by omega);exact⟨x.b.toNat,by omega,by omega⟩
 have tb:=fun K=>Xu (K:=K) (t:=x.ty) (op:=x.s) (a:=r[a]) (b:=r[b]) hB
 rw [at',at',ha,hb,zqz,zqz,gD ha2,gD hb2]at hv;rw[A3 (c:=Ga) (nt:=173) (rs:=[]) rfl (by simp)];unfold Ga;unfold S3 S2 k9 o8 y0 l5 mB Ins.F;cases fd<;>cases fo<;>(
  simp only[dA,dR,oA,oR,nB,put',at',hd,ha,hb];simp -implicitDefEqProofs only[eq_true h,(show ¬x.op=1 by omega),(show ¬x.op=2 by omega),A9 hd2,hd2,A9 ha2,ha2,gD ha2,A9 hb2,hb2,gD hb2,M0,tb,fun K=>Pr (K:=K) hN hv,zqz,XP,seval];exact⟨_,rfl⟩)
theorem ZS(hW:T 56=some F8)(h:x.op=4)(ho:InsOk m x r s)(hd0:fd=false->s.data=[])(hol:s.out.length<=30000):∃tch,evP ⟨A0,T,A1⟩ (.body 42 [.ptr 0 0 0,x.F,.msl 1 0 r.length 1] ⟨l5 fd fo false m s r,2+nB fd+nB fo,[]⟩)=some (.val [] ⟨l5 fd fo false m s (put' r x.dst (wrapD x.ty (at' r x.a))),2+nB fd+nB fo,tch⟩):=by
 obtain⟨d,hd,hd2⟩:∃d:Nat,x.dst=d/\d<r.length:=by have:=ho.dst (by omega);exact⟨x.dst.toNat,by omega,by omega⟩
 obtain⟨a,ha,ha2⟩:∃a:Nat,x.a=a/\a<r.length:=by have:=ho.a (by omega);exact⟨x.a.toNat,by omega,by omega⟩
 have tw:=fun K=>Bt (K:=K) (t:=x.ty) (v:=r[a]) hW
 rw [A3 (c:=Ga) (nt:=173) (rs:=[]) rfl (by simp)];unfold Ga;unfold S3 S2 k9 o8 y0 Cf l5 mB Ins.F;cases fd<;>cases fo<;>(
  simp only[dA,dR,oA,oR,nB,put',at',hd,ha];simp -implicitDefEqProofs only[eq_true h,(show ¬x.op=1 by omega),(show ¬x.op=2 by omega),(show ¬x.op=3 by omega),A9 hd2,hd2,A9 ha2,ha2,gD ha2,M0,tw,zqz,XP,seval];exact⟨_,rfl⟩)
theorem aZ(hE:T 57=none)(a b c:AV)(K:PK):evP ⟨A0,T,A1⟩ (.call 57 [a,b,c] K)=AD K (Vf A0 [.tmp 6] (evP ⟨A0,T,A1⟩ (.code BR (enterP 0 [a,b,c]) ⟨K.os,K.os.length,[]⟩))):=by
 rw[Ch hE rfl,A3 (c:=BR) (nt:=29) (rs:=[.tmp 6]) rfl (by simp)]
theorem ZT(hE:T 57=none)(hN:T 39=none)(hT:T 54=some D6)(h:x.op=5)(ho:InsOk m x r s)(hd0:fd=false->s.data=[])(hol:s.out.length<=30000)(hv:thereD (at' r x.a) (gAt m x.n).size=true):∃tch,evP ⟨A0,T,A1⟩ (.body 42 [.ptr 0 0 0,x.F,.msl 1 0 r.length 1] ⟨l5 fd fo false m s r,2+nB fd+nB fo,[]⟩)=some (.val [] ⟨l5 fd fo false m s (put' r x.dst (at' (dAt s x.n) (at' r x.a))),2+nB fd+nB fo,tch⟩):=by
 obtain⟨d,hd,hd2⟩:∃d:Nat,x.dst=d/\d<r.length:=by have:=ho.dst (by omega);exact⟨x.dst.toNat,by omega,by omega⟩
 obtain⟨a,ha,ha2⟩:∃a:Nat,x.a=a/\a<r.length:=by have:=ho.a (by omega);exact⟨x.a.toNat,by omega,by omega⟩
 obtain⟨n,hn,hn2⟩:∃n:Nat,x.n=n/\n<m.gs.length:=by have:=ho.n (by omega);exact⟨x.n.toNat,by omega,by omega⟩
 have hn3:n<s.data.length:=by have:=ho.d.1;omega
 have hfd:fd=true:=by cases fd with|true=>rfl|false=>have:=hd0 rfl;rw[this]at hn3;simp at hn3
 subst hfd;have hlen:=ho.d.2 n _ _ (zqd hn3) (zqd hn2);have hg:=A8 (F:=Glo.F) hn2;simp only[Glo.F]at hg;rw[at',gAt,ha,hn,zqz,zqz,gD ha2,BV hn2]at hv;obtain⟨e,he,he2⟩:∃e:Nat,r[a]=e/\e<s.data[n].length:=by have:=thereD_iff.1 hv;exact⟨r[a].toNat,by omega,by omega⟩
 have tt:=fun K=>O5 (K:=K) (a:=(e:Int)) (n:=m.gs[n].size) hT
 rw [he]at hv;rw[hv]at tt;rw[A3 (c:=Ga) (nt:=173) (rs:=[]) rfl (by simp)];unfold Ga;unfold S3 S2 k9 o8 y0 Cf Dr l5 mB Ins.F;cases fo<;>(
  simp only[dA,dR,oA,oR,nB,put',at',hd,ha,hn];simp -implicitDefEqProofs only[eq_true h,(show ¬x.op=1 by omega),(show ¬x.op=2 by omega),(show ¬x.op=3 by omega),(show ¬x.op=4 by omega),A9 ha2,ha2,gD ha2,gAt,dAt,BV hn2,GK hn3,hg,At hn3,hn3,tt,aZ hE,BR,zqa,A9 hd2,hd2,M0,he,A9 he2,he2,gD he2,zqz,XP,seval];exact⟨_,rfl⟩)
theorem KA(hE:T 57=none)(hN:T 39=none)(hT:T 54=some D6)(h:x.op=5)(ho:InsOk m x r s)(hd0:fd=false->s.data=[])(hol:s.out.length<=30000)(hv:¬thereD (at' r x.a) (gAt m x.n).size=true):∃tch,evP ⟨A0,T,A1⟩ (.body 42 [.ptr 0 0 0,x.F,.msl 1 0 r.length 1] ⟨l5 fd fo false m s r,2+nB fd+nB fo,[]⟩)=some (.pan (E0 2 3) ⟨l5 fd fo false m s r,2+nB fd+nB fo,tch⟩):=by
 obtain⟨d,hd,hd2⟩:∃d:Nat,x.dst=d/\d<r.length:=by have:=ho.dst (by omega);exact⟨x.dst.toNat,by omega,by omega⟩
 obtain⟨a,ha,ha2⟩:∃a:Nat,x.a=a/\a<r.length:=by have:=ho.a (by omega);exact⟨x.a.toNat,by omega,by omega⟩
 obtain⟨n,hn,hn2⟩:∃n:Nat,x.n=n/\n<m.gs.length:=by have:=ho.n (by omega);exact⟨x.n.toNat,by omega,by omega⟩
 have hn3:n<s.data.length:=by have:=ho.d.1;omega
 have hfd:fd=true:=by cases fd with|true=>rfl|false=>have:=hd0 rfl;rw[this]at hn3;simp at hn3
 subst hfd;have hlen:=ho.d.2 n _ _ (zqd hn3) (zqd hn2);have hg:=A8 (F:=Glo.F) hn2;simp only[Glo.F]at hg;rw[at',gAt,ha,hn,zqz,zqz,gD ha2,BV hn2]at hv;have tt:=fun K=>O5 (K:=K) (a:=r[a]) (n:=m.gs[n].size) hT
 rw [zke.2 hv]at tt;rw[A3 (c:=Ga) (nt:=173) (rs:=[]) rfl (by simp)];unfold Ga;unfold S3 S2 k9 o8 y0 Cf Dr l5 mB Ins.F;cases fo<;>(
  simp only[dA,dR,oA,oR,nB,put',at',hd,ha,hn];simp -implicitDefEqProofs only[eq_true h,(show ¬x.op=1 by omega),(show ¬x.op=2 by omega),(show ¬x.op=3 by omega),(show ¬x.op=4 by omega),A9 ha2,ha2,gD ha2,gAt,dAt,BV hn2,GK hn3,hg,At hn3,hn3,tt,aZ hE,BR,zqa,A9 hd2,hd2,M0,fun K=>Pr (K:=K) hN (t:=3) (by decide),zqz,XP,seval];exact⟨_,rfl⟩)
theorem ZU(hE:T 57=none)(hN:T 39=none)(hT:T 54=some D6)(hW:T 56=some F8)(h:x.op=6)(ho:InsOk m x r s)(hd0:fd=false->s.data=[])(hol:s.out.length<=30000)(hv:thereD (at' r x.a) (gAt m x.n).size=true):∃tch,evP ⟨A0,T,A1⟩ (.body 42 [.ptr 0 0 0,x.F,.msl 1 0 r.length 1] ⟨l5 fd fo false m s r,2+nB fd+nB fo,[]⟩)=some (.val [] ⟨l5 fd fo false m {s with data:=s.data.set x.n.toNat (put' (dAt s x.n) (at' r x.a) (wrapD (gAt m x.n).ty (at' r x.b)))} r,2+nB fd+nB fo,tch⟩):=by
 obtain⟨a,ha,ha2⟩:∃a:Nat,x.a=a/\a<r.length:=by have:=ho.a (by omega);exact⟨x.a.toNat,by omega,by omega⟩
 obtain⟨b,hb,hb2⟩:∃b:Nat,x.b=b/\b<r.length:=by have:=ho.b (by omega);exact⟨x.b.toNat,by omega,by omega⟩
 obtain⟨n,hn,hn2⟩:∃n:Nat,x.n=n/\n<m.gs.length:=by have:=ho.n (by omega);exact⟨x.n.toNat,by omega,by omega⟩
 have hn3:n<s.data.length:=by have:=ho.d.1;omega
 have hfd:fd=true:=by cases fd with|true=>rfl|false=>have:=hd0 rfl;rw[this]at hn3;simp at hn3
 subst hfd;have hlen:=ho.d.2 n _ _ (zqd hn3) (zqd hn2);have hg:=A8 (F:=Glo.F) hn2;simp only[Glo.F]at hg;rw[at',gAt,ha,hn,zqz,zqz,gD ha2,BV hn2]at hv;obtain⟨e,he,he2⟩:∃e:Nat,r[a]=e/\e<s.data[n].length:=by have:=thereD_iff.1 hv;exact⟨r[a].toNat,by omega,by omega⟩
 have tt:=fun K=>O5 (K:=K) (a:=(e:Int)) (n:=m.gs[n].size) hT
 rw[he]at hv;rw[hv]at tt;have tw:=fun K=>Bt (K:=K) (t:=m.gs[n].ty) (v:=r[b]) hW
 rw [A3 (c:=Ga) (nt:=173) (rs:=[]) rfl (by simp)];unfold Ga;unfold S3 S2 k9 o8 y0 Cf Dr Jc l5 mB Ins.F;cases fo<;>(
  simp only[dA,dR,oA,oR,nB,put',at',ha,hb,hn];simp -implicitDefEqProofs only[eq_true h,(show ¬x.op=1 by omega),(show ¬x.op=2 by omega),(show ¬x.op=3 by omega),(show ¬x.op=4 by omega),(show ¬x.op=5 by omega),A9 ha2,ha2,gD ha2,gAt,dAt,BV hn2,GK hn3,hg,At hn3,hn3,tt,aZ hE,BR,zqa,A9 hb2,hb2,gD hb2,tw,fC,uC,M0,he,A9 he2,he2,gD he2,zqu,zqz,XP,seval];exact⟨_,rfl⟩)
theorem KB(hE:T 57=none)(hN:T 39=none)(hT:T 54=some D6)(hW:T 56=some F8)(h:x.op=6)(ho:InsOk m x r s)(hd0:fd=false->s.data=[])(hol:s.out.length<=30000)(hv:¬thereD (at' r x.a) (gAt m x.n).size=true):∃tch,evP ⟨A0,T,A1⟩ (.body 42 [.ptr 0 0 0,x.F,.msl 1 0 r.length 1] ⟨l5 fd fo false m s r,2+nB fd+nB fo,[]⟩)=some (.pan (E0 2 3) ⟨l5 fd fo false m s r,2+nB fd+nB fo,tch⟩):=by
 obtain⟨a,ha,ha2⟩:∃a:Nat,x.a=a/\a<r.length:=by have:=ho.a (by omega);exact⟨x.a.toNat,by omega,by omega⟩
 obtain⟨b,hb,hb2⟩:∃b:Nat,x.b=b/\b<r.length:=by have:=ho.b (by omega);exact⟨x.b.toNat,by omega,by omega⟩
 obtain⟨n,hn,hn2⟩:∃n:Nat,x.n=n/\n<m.gs.length:=by have:=ho.n (by omega);exact⟨x.n.toNat,by omega,by omega⟩
 have hn3:n<s.data.length:=by have:=ho.d.1;omega
 have hfd:fd=true:=by cases fd with|true=>rfl|false=>have:=hd0 rfl;rw[this]at hn3;simp at hn3
 subst hfd;have hlen:=ho.d.2 n _ _ (zqd hn3) (zqd hn2);have hg:=A8 (F:=Glo.F) hn2;simp only[Glo.F]at hg;rw[at',gAt,ha,hn,zqz,zqz,gD ha2,BV hn2]at hv;have tt:=fun K=>O5 (K:=K) (a:=r[a]) (n:=m.gs[n].size) hT
 rw[zke.2 hv]at tt;have tw:=fun K=>Bt (K:=K) (t:=m.gs[n].ty) (v:=r[b]) hW
 rw [A3 (c:=Ga) (nt:=173) (rs:=[]) rfl (by simp)];unfold Ga;unfold S3 S2 k9 o8 y0 Cf Dr Jc l5 mB Ins.F;cases fo<;>(
  simp only[dA,dR,oA,oR,nB,put',at',ha,hb,hn];simp -implicitDefEqProofs only[eq_true h,(show ¬x.op=1 by omega),(show ¬x.op=2 by omega),(show ¬x.op=3 by omega),(show ¬x.op=4 by omega),(show ¬x.op=5 by omega),A9 ha2,ha2,gD ha2,gAt,dAt,BV hn2,GK hn3,hg,At hn3,hn3,tt,aZ hE,BR,zqa,A9 hb2,hb2,gD hb2,tw,fun K=>Pr (K:=K) hN (t:=3) (by decide),zqz,XP,seval];exact⟨_,rfl⟩)
theorem ZV(h:x.op=7)(ho:InsOk m x r s)(hd0:fd=false->s.data=[])(hol:s.out.length<=30000):∃tch,evP ⟨A0,T,A1⟩ (.body 42 [.ptr 0 0 0,x.F,.msl 1 0 r.length 1] ⟨l5 fd fo false m s r,2+nB fd+nB fo,[]⟩)=some (.val [] ⟨l5 fd fo false m s (put' r x.dst (at' (dAt s x.n) 0)),2+nB fd+nB fo,tch⟩):=by
 obtain⟨d,hd,hd2⟩:∃d:Nat,x.dst=d/\d<r.length:=by have:=ho.dst (by omega);exact⟨x.dst.toNat,by omega,by omega⟩
 obtain⟨n,hn,hn2⟩:∃n:Nat,x.n=n/\n<m.gs.length:=by have:=ho.n (by omega);exact⟨x.n.toNat,by omega,by omega⟩
 have hn3:n<s.data.length:=by have:=ho.d.1;omega
 have hfd:fd=true:=by cases fd with|true=>rfl|false=>have:=hd0 rfl;rw[this]at hn3;simp at hn3
 subst hfd;have hlen:=ho.d.2 n _ _ (zqd hn3) (zqd hn2);have h0:0<s.data[n].length:=by omega
 have z1:∀i,Kq ty3 (.msl i 0 s.data[n].length 1) (.int .i64 0)=some (.ptr i 0 0):=fun i=>by have:=ix_msl (te:=ty3) (k:=.i64) (id:=i) (off:=0) (i:=0) (n:=s.data[n].length) (sz:=1) h0 rfl;simpa using this
 rw [A3 (c:=Ga) (nt:=173) (rs:=[]) rfl (by simp)];unfold Ga;unfold S3 S2 k9 o8 y0 Cf Dr Jc Sa l5 mB Ins.F;cases fo<;>(
  simp only[dA,dR,oA,oR,nB,put',at',hd,hn];simp -implicitDefEqProofs only[eq_true h,(show ¬x.op=1 by omega),(show ¬x.op=2 by omega),(show ¬x.op=3 by omega),(show ¬x.op=4 by omega),(show ¬x.op=5 by omega),(show ¬x.op=6 by omega),A9 hd2,hd2,M0,gD h0,dAt,GK hn3,At hn3,hn3,zqa,A9 h0,h0,Int.toNat_zero,z1,zqz,XP,seval];exact⟨_,rfl⟩)
theorem ZW(h:x.op=8)(ho:InsOk m x r s)(hd0:fd=false->s.data=[])(hol:s.out.length<=30000):∃tch,evP ⟨A0,T,A1⟩ (.body 42 [.ptr 0 0 0,x.F,.msl 1 0 r.length 1] ⟨l5 fd fo false m s r,2+nB fd+nB fo,[]⟩)=some (.val [] ⟨l5 fd fo false m {s with data:=s.data.set x.n.toNat (put' (dAt s x.n) 0 (at' r x.a))} r,2+nB fd+nB fo,tch⟩):=by
 obtain⟨a,ha,ha2⟩:∃a:Nat,x.a=a/\a<r.length:=by have:=ho.a (by omega);exact⟨x.a.toNat,by omega,by omega⟩
 obtain⟨n,hn,hn2⟩:∃n:Nat,x.n=n/\n<m.gs.length:=by have:=ho.n (by omega);exact⟨x.n.toNat,by omega,by omega⟩
 have hn3:n<s.data.length:=by have:=ho.d.1;omega
 have hfd:fd=true:=by cases fd with|true=>rfl|false=>have:=hd0 rfl;rw[this]at hn3;simp at hn3
 subst hfd;have hlen:=ho.d.2 n _ _ (zqd hn3) (zqd hn2);have h0:0<s.data[n].length:=by omega
 have z1:∀i,Kq ty3 (.msl i 0 s.data[n].length 1) (.int .i64 0)=some (.ptr i 0 0):=fun i=>by have:=ix_msl (te:=ty3) (k:=.i64) (id:=i) (off:=0) (i:=0) (n:=s.data[n].length) (sz:=1) h0 rfl;simpa using this
 rw [A3 (c:=Ga) (nt:=173) (rs:=[]) rfl (by simp)];unfold Ga;unfold S3 S2 k9 o8 y0 Cf Dr Jc Sa Xq l5 mB Ins.F;cases fo<;>(
  simp only[dA,dR,oA,oR,nB,put',at',ha,hn];simp -implicitDefEqProofs only[eq_true h,(show ¬x.op=1 by omega),(show ¬x.op=2 by omega),(show ¬x.op=3 by omega),(show ¬x.op=4 by omega),(show ¬x.op=5 by omega),(show ¬x.op=6 by omega),(show ¬x.op=7 by omega),A9 ha2,ha2,gD ha2,M0,fC,uC,zqu,gD h0,dAt,GK hn3,At hn3,hn3,zqa,A9 h0,h0,Int.toNat_zero,z1,zqz,XP,seval];exact⟨_,rfl⟩)
theorem DT(hX:T 58=none)(h:x.op=10)(ho:InsOk m x r s)(hd0:fd=false->s.data=[])(hol:s.out.length<=30000)(hi:s.input=[]):∃tch,evP ⟨A0,T,A1⟩ (.body 42 [.ptr 0 0 0,x.F,.msl 1 0 r.length 1] ⟨l5 fd fo false m s r,2+nB fd+nB fo,[]⟩)=some (.val [] ⟨l5 fd fo false m {s with input:=s.input.tail} (put' r x.dst (s.input.headD 0)),2+nB fd+nB fo,tch⟩):=by
 obtain⟨d,hd,hd2⟩:∃d:Nat,x.dst=d/\d<r.length:=by have:=ho.dst (by omega);exact⟨x.dst.toNat,by omega,by omega⟩
 have nx:=fun d o rest ext tch=>DR (d:=d) (o:=o) (rest:=rest) (ext:=ext) (tch:=tch) (m:=m) hX hi
 unfold mB at nx;simp only[hi]at nx;rw[A3 (c:=Ga) (nt:=173) (rs:=[]) rfl (by simp)];unfold Ga;unfold S3 S2 k9 o8 y0 Cf Dr Jc Sa Xq eG l5 mB Ins.F;cases fd<;>cases fo<;>(
  simp only[dA,dR,oA,oR,nB,put',at',hd];simp -implicitDefEqProofs only[eq_true h,(show ¬x.op=1 by omega),(show ¬x.op=2 by omega),(show ¬x.op=3 by omega),(show ¬x.op=4 by omega),(show ¬x.op=5 by omega),(show ¬x.op=6 by omega),(show ¬x.op=7 by omega),(show ¬x.op=8 by omega),A9 hd2,hd2,M0,Ad,zqv,zqw,Nat.reduceBEq,hi,nx,List.tail_cons,List.tail_nil,zqx,List.headD_nil,zqz,XP,seval];exact⟨_,rfl⟩)
theorem KC(hX:T 58=none)(h:x.op=10)(ho:InsOk m x r s)(hd0:fd=false->s.data=[])(hol:s.out.length<=30000){v:Int}{t:List Int}(hi:s.input=v::t):∃tch,evP ⟨A0,T,A1⟩ (.body 42 [.ptr 0 0 0,x.F,.msl 1 0 r.length 1] ⟨l5 fd fo false m s r,2+nB fd+nB fo,[]⟩)=some (.val [] ⟨l5 fd fo false m {s with input:=s.input.tail} (put' r x.dst (s.input.headD 0)),2+nB fd+nB fo,tch⟩):=by
 obtain⟨d,hd,hd2⟩:∃d:Nat,x.dst=d/\d<r.length:=by have:=ho.dst (by omega);exact⟨x.dst.toNat,by omega,by omega⟩
 have nx:=fun d o rest ext tch=>DS (d:=d) (o:=o) (rest:=rest) (ext:=ext) (tch:=tch) (m:=m) hX hi
 unfold mB at nx;simp only[hi]at nx;rw[A3 (c:=Ga) (nt:=173) (rs:=[]) rfl (by simp)];unfold Ga;unfold S3 S2 k9 o8 y0 Cf Dr Jc Sa Xq eG l5 mB Ins.F;cases fd<;>cases fo<;>(
  simp only[dA,dR,oA,oR,nB,put',at',hd];simp -implicitDefEqProofs only[eq_true h,(show ¬x.op=1 by omega),(show ¬x.op=2 by omega),(show ¬x.op=3 by omega),(show ¬x.op=4 by omega),(show ¬x.op=5 by omega),(show ¬x.op=6 by omega),(show ¬x.op=7 by omega),(show ¬x.op=8 by omega),A9 hd2,hd2,M0,Ad,zqv,zqw,Nat.reduceBEq,hi,nx,List.tail_cons,List.tail_nil,zqx,List.headD_nil,zqz,XP,seval];exact⟨_,rfl⟩)
theorem KD(h:x.op=11)(ho:InsOk m x r s)(hd0:fd=false->s.data=[])(hol:s.out.length<=30000)(hf:fo=true):∃tch,evP ⟨A0,T,A1⟩ (.body 42 [.ptr 0 0 0,x.F,.msl 1 0 r.length 1] ⟨l5 fd fo false m s r,2+nB fd+nB fo,[]⟩)=some (.val [] ⟨l5 fd fo true m {s with out:=s.out++[at' r x.a]} r,2+nB fd+nB fo,tch⟩):=by
 obtain⟨a,ha,ha2⟩:∃a:Nat,x.a=a/\a<r.length:=by have:=ho.a (by omega);exact⟨x.a.toNat,by omega,by omega⟩
 have hb:(s.out.length+1)*8<=140737488355328:=by omega
 subst hf;rw[A3 (c:=Ga) (nt:=173) (rs:=[]) rfl (by simp)];unfold Ga;unfold S3 S2 k9 o8 y0 Cf Dr Jc Sa Xq eG sU l5 mB Ins.F;cases fd<;>(
  simp only[dA,dR,oA,oR,nB,put',at',ha];simp -implicitDefEqProofs only[eq_true h,(show ¬x.op=1 by omega),(show ¬x.op=2 by omega),(show ¬x.op=3 by omega),(show ¬x.op=4 by omega),(show ¬x.op=5 by omega),(show ¬x.op=6 by omega),(show ¬x.op=7 by omega),(show ¬x.op=8 by omega),(show ¬x.op=10 by omega),A9 ha2,ha2,gD ha2,zqa,zqy,hb,uD,zqz,XP,seval];exact⟨_,rfl⟩)
theorem DU(h:x.op=11)(ho:InsOk m x r s)(hd0:fd=false->s.data=[])(hol:s.out.length<=30000)(hf:fo=false)(ho0:s.out=[]):∃tch,evP ⟨A0,T,A1⟩ (.body 42 [.ptr 0 0 0,x.F,.msl 1 0 r.length 1] ⟨l5 fd fo false m s r,2+nB fd+nB fo,[]⟩)=some (.val [] ⟨l5 fd fo true m {s with out:=s.out++[at' r x.a]} r,2+nB fd+nB fo,tch⟩):=by
 obtain⟨a,ha,ha2⟩:∃a:Nat,x.a=a/\a<r.length:=by have:=ho.a (by omega);exact⟨x.a.toNat,by omega,by omega⟩
 have hb:(s.out.length+1)*8<=140737488355328:=by omega
 subst hf;rw[A3 (c:=Ga) (nt:=173) (rs:=[]) rfl (by simp)];unfold Ga;unfold S3 S2 k9 o8 y0 Cf Dr Jc Sa Xq eG sU l5 mB Ins.F;cases fd<;>(
  simp only[dA,dR,oA,oR,nB,put',at',ha];simp -implicitDefEqProofs only[eq_true h,(show ¬x.op=1 by omega),(show ¬x.op=2 by omega),(show ¬x.op=3 by omega),(show ¬x.op=4 by omega),(show ¬x.op=5 by omega),(show ¬x.op=6 by omega),(show ¬x.op=7 by omega),(show ¬x.op=8 by omega),(show ¬x.op=10 by omega),A9 ha2,ha2,gD ha2,zqa,zqy,hb,ho0,List.map_cons,List.map_nil,zqz,XP,seval];exact⟨_,rfl⟩)
end
end Go.Proofs.AmEnv
set_option maxRecDepth 100000
namespace Go.AM
section
variable {E:Env}{K K1 K' Kf:PK}{ids:List Nat}
theorem bA{T:Nat->Option (List AV->Option (List AV))}{F:Nat->Option PFn}{f:Nat}{args args':List AV}{v v':AV}(ht:T f=none)(hp:inpOf (F f)=false)(hi:focusIds args K=ids)(ha:renL (posOf ids) args=args')(hk:focusK ids K=Kf)
 (hb:evP ⟨E,T,F⟩ (.body f args' Kf)=some (.pan v K1))(hm:mergeK ids K K1=some K')(hv:G5 (backN ids K.os.length) v=v'):evP ⟨E,T,F⟩ (.call f args K)=some (.pan v' K'):=by
 rw[evP];show(match T f with|some g=>_|none=>_)=_
 rw[ht];dsimp only;show(match inpOf (F f)with|true=>_|false=>_)=_
 rw[hp];dsimp only;rw[hi,ha,hk,hb];show(match mergeK ids K K1 with|some K'=>some (PR.pan (G5 (backN ids K.os.length) v) K')|none=>none)=_
 rw[hm,hv]
theorem Xw{t:Nat}{v:AV}:I6 (.iface t v)=I6 v:=by rw[I6]
theorem Xx{t:Nat}{v:AV}{σ:Nat->Option Nat}:G5 σ (.iface t v)=.iface t (G5 σ v):=by rw[G5]
end
end Go.AM
namespace Go.Proofs.AmEnv
open Go Go.AM
variable {T:Nat->Option (List AV->Option (List AV))}
structure RunT(T:Nat->Option (List AV->Option (List AV))):Prop where
 hB:T 55=some V4
 hW:T 56=some F8
 hN:T 39=none
 hE:T 57=none
 hT:T 54=some D6
 hX:T 58=none
 hS:T 40=none
 hD:T 42=none
 hC:T 41=none
 hL:T 24=none
section
variable {m:Modl}{s:Mst}{fa fd fo n:Bool}{r a:List Int}{x:Ins}
theorem Xy(R:RunT T)(ho:InsOk m x r s)(hop:1<=x.op/\x.op<=11/\x.op≠9)(hd0:fd=false->s.data=[])(hf0:fo=false->s.out=[])(hol:s.out.length<=30000):∃tch,evP ⟨A0,T,A1⟩ (.body 42 [.ptr 0 0 0,x.F,.msl 1 0 r.length 1] ⟨l5 fd fo false m s r,2+nB fd+nB fo,[]⟩)=(if(doesI m x r s).1=0 then some (.val [] ⟨l5 fd fo (decide (x.op=11)) m (doesI m x r s).2.1 (doesI m x r s).2.2,2+nB fd+nB fo,tch⟩)else some (.pan (E0 2 (doesI m x r s).1) ⟨l5 fd fo false m s r,2+nB fd+nB fo,tch⟩)):=by
 have hc:x.op=1\/x.op=2\/x.op=3\/x.op=4\/x.op=5\/x.op=6\/x.op=7\/x.op=8\/x.op=10\/x.op=11:=by omega
 rcases hc with h|h|h|h|h|h|h|h|h|h
 . obtain⟨tch,e⟩:=ZP (T:=T) h ho hd0 hol;exact⟨tch,by rw[e];simp only[doesI,h,Int.reduceEq,↓reduceIte,decide_true,decide_false]⟩
 . obtain⟨tch,e⟩:=ZQ (T:=T) h ho hd0 hol;exact⟨tch,by rw[e];simp only[doesI,h,Int.reduceEq,↓reduceIte,decide_true,decide_false]⟩
 . by_cases hv:(g9 x.ty x.s (at' r x.a) (at' r x.b)).2=0
   . obtain⟨tch,e⟩:=ZR R.hB R.hN h ho hd0 hol hv;exact⟨tch,by rw[e];simp only[doesI,h,hv,Int.reduceEq,↓reduceIte,decide_true,decide_false,zkb]⟩
   . obtain⟨tch,e⟩:=JZ R.hB R.hN h ho hd0 hol hv;exact⟨tch,by rw[e];simp only[doesI,h,hv,Int.reduceEq,↓reduceIte,decide_true,decide_false,zkb]⟩
 . obtain⟨tch,e⟩:=ZS R.hW h ho hd0 hol;exact⟨tch,by rw[e];simp only[doesI,h,Int.reduceEq,↓reduceIte,decide_true,decide_false]⟩
 . by_cases hv:thereD (at' r x.a) (gAt m x.n).size=true
   . obtain⟨tch,e⟩:=ZT R.hE R.hN R.hT h ho hd0 hol hv;exact⟨tch,by rw[e];simp only[doesI,h,hv,Int.reduceEq,↓reduceIte,decide_true,decide_false,zkb]⟩
   . obtain⟨tch,e⟩:=KA R.hE R.hN R.hT h ho hd0 hol hv;exact⟨tch,by rw[e];simp only[doesI,h,hv,Int.reduceEq,↓reduceIte,decide_true,decide_false,zkb]⟩
 . by_cases hv:thereD (at' r x.a) (gAt m x.n).size=true
   . obtain⟨tch,e⟩:=ZU R.hE R.hN R.hT R.hW h ho hd0 hol hv;exact⟨tch,by rw[e];simp only[doesI,h,hv,Int.reduceEq,↓reduceIte,decide_true,decide_false,zkb]⟩
   . obtain⟨tch,e⟩:=KB R.hE R.hN R.hT R.hW h ho hd0 hol hv;exact⟨tch,by rw[e];simp only[doesI,h,hv,Int.reduceEq,↓reduceIte,decide_true,decide_false,zkb]⟩
 . obtain⟨tch,e⟩:=ZV (T:=T) h ho hd0 hol;exact⟨tch,by rw[e];simp only[doesI,h,Int.reduceEq,↓reduceIte,decide_true,decide_false]⟩
 . obtain⟨tch,e⟩:=ZW (T:=T) h ho hd0 hol;exact⟨tch,by rw[e];simp only[doesI,h,Int.reduceEq,↓reduceIte,decide_true,decide_false]⟩
 . cases hi:s.input with
   |nil=>obtain⟨tch,e⟩:=DT R.hX h ho hd0 hol hi;exact⟨tch,by rw[e];simp only[doesI,h,Int.reduceEq,↓reduceIte,decide_true,decide_false]⟩
   |cons v t=>obtain⟨tch,e⟩:=KC R.hX h ho hd0 hol hi;exact⟨tch,by rw[e];simp only[doesI,h,Int.reduceEq,↓reduceIte,decide_true,decide_false]⟩
 . cases hf:fo with
   |true=>obtain⟨tch,e⟩:=KD (T:=T) h ho hd0 hol hf;exact⟨tch,by rw[hf]at e;rw[e];simp only[doesI,h,Int.reduceEq,↓reduceIte,decide_true,decide_false]⟩
   |false=>obtain⟨tch,e⟩:=DU (T:=T) h ho hd0 hol hf (hf0 hf);exact⟨tch,by rw[hf]at e;rw[e];simp only[doesI,h,Int.reduceEq,↓reduceIte,decide_true,decide_false]⟩
def aR(f:Bool)(a:List Int):List PO:=match f with|true=>[.row 0 (ints a) 1]|false=>[]
def E8(fa fd fo n:Bool)(m:Modl)(s:Mst)(a:List Int):List PO:=.row 1 [mB m s (dA fd (1+nB fa) s) (oA fo n (1+nB fa+nB fd) s.out)] 9::(aR fa a++(dR fd s++oR fo n s.out))
end
section
variable {m:Modl}{s:Mst}{fa fd fo n n':Bool}{r a:List Int}{x:Ins}{cs xs:List AV}{cz xz:Nat}
def nE(fa fd fo:Bool):Nat:=1+nB fa+nB fd+nB fo
def dd(f:Bool):List PO:=match f with|true=>[.dead]|false=>[]
def rA(fa fd fo n n':Bool)(m:Modl)(s:Mst)(a:List Int)(j:Nat):List PO:=match n' with
 |false=>E8 fa fd fo n m s a
 |true=>.row 1 [mB m s (dA fd (1+nB fa) s) (.msl j 0 s.out.length 1)] 9::(aR fa a++(dR fd s++(dd fo++dd n)))
def oG(n':Bool)(o:List Int):List PO:=match n' with|false=>[]|true=>[.row 0 (ints o) 1]
def On(fa fd fo n:Bool)(r:Nat):List Nat:=0::r::((match fd with|true=>[1+nB fa]|false=>[])++(match fo,n with|false,false=>[]|true,false=>[1+nB fa+nB fd]|false,true=>[1+nB fa+nB fd]|true,true=>[2+nB fa+nB fd]))
theorem pR(R:RunT T)(ho:InsOk m x r s)(hop:1<=x.op/\x.op<=11/\x.op≠9)(hd0:fd=false->s.data=[])(hf0:fo=false->n=false->s.out=[])(hol:s.out.length<=30000)(hn:decide (x.op=11)=n')(hv:(doesI m x r s).1=0):
 ∃t1,∀tch,evP ⟨A0,T,A1⟩ (.call 42 [.ptr 0 0 0,x.F,.msl (nE fa fd fo+nB n+1) 0 r.length 1] ⟨E8 fa fd fo n m s a++[.row 1 cs cz,.row 0 (ints r) 1,.row 1 xs xz],nE fa fd fo,tch⟩)=some (.val [] ⟨rA fa fd fo n n' m (doesI m x r s).2.1 a (nE fa fd fo+nB n+3)++(.row 1 cs cz::.row 0 (ints (doesI m x r s).2.2) 1::.row 1 xs xz::oG n' (doesI m x r s).2.1.out),nE fa fd fo,t1++tch⟩):=by
 obtain⟨t0,hb⟩:=Xy (T:=T) (fd:=fd) (fo:=fo||n) (m:=m) (s:=s) (r:=r) (x:=x) R ho hop hd0 (by cases fo<;>cases n<;>simp_all) hol;rw[if_pos hv,hn]at hb;refine⟨((t0.filter (· < (On fa fd fo n (nE fa fd fo+nB n+1)).length)).map fun j=>(On fa fd fo n (nE fa fd fo+nB n+1)).getD j 0),fun tch=>Vi (ids:=On fa fd fo n (nE fa fd fo+nB n+1)) (args':=[.ptr 0 0 0,x.F,.msl 1 0 r.length 1]) (Kf:=⟨l5 fd (fo||n) false m s r,2+nB fd+nB (fo||n),[]⟩) R.hD rfl ?_ ?_ ?_ hb ?_ ?_⟩<;>cases fa<;>cases fd<;>cases fo<;>cases n<;>cases n'<;>rfl
theorem jS(R:RunT T)(ho:InsOk m x r s)(hop:1<=x.op/\x.op<=11/\x.op≠9)(hd0:fd=false->s.data=[])(hf0:fo=false->n=false->s.out=[])(hol:s.out.length<=30000)(hv:¬(doesI m x r s).1=0):
 ∃t1,∀tch,evP ⟨A0,T,A1⟩ (.call 42 [.ptr 0 0 0,x.F,.msl (nE fa fd fo+nB n+1) 0 r.length 1] ⟨E8 fa fd fo n m s a++[.row 1 cs cz,.row 0 (ints r) 1,.row 1 xs xz],nE fa fd fo,tch⟩)=some (.pan (E0 2 (doesI m x r s).1) ⟨E8 fa fd fo n m s a++[.row 1 cs cz,.row 0 (ints r) 1,.row 1 xs xz],nE fa fd fo,t1++tch⟩):=by
 obtain⟨t0,hb⟩:=Xy (T:=T) (fd:=fd) (fo:=fo||n) (m:=m) (s:=s) (r:=r) (x:=x) R ho hop hd0 (by cases fo<;>cases n<;>simp_all) hol;rw[if_neg hv]at hb;refine⟨((t0.filter (· < (On fa fd fo n (nE fa fd fo+nB n+1)).length)).map fun j=>(On fa fd fo n (nE fa fd fo+nB n+1)).getD j 0),fun tch=>bA (ids:=On fa fd fo n (nE fa fd fo+nB n+1)) (args':=[.ptr 0 0 0,x.F,.msl 1 0 r.length 1]) (Kf:=⟨l5 fd (fo||n) false m s r,2+nB fd+nB (fo||n),[]⟩) R.hD rfl ?_ ?_ ?_ hb ?_ ?_⟩<;>cases fa<;>cases fd<;>cases fo<;>cases n<;>rfl
end
section
variable {m:Modl}{s:Mst}{fa fd fo n:Bool}{r a:List Int}{c:Cod}{l:List Ins}{k:Nat}{at0:Int}{tch:List Nat}
def Ps(c:Cod):PO:=.row 1 [c.F] 5
def msL(fa fd fo n:Bool)(m:Modl)(s:Mst)(a:List Int)(c:Cod)(r:List Int)(tch:List Nat):PK:=⟨E8 fa fd fo n m s a++[Ps c,.row 0 (ints r) 1],nE fa fd fo,tch⟩
def Q7(fa fd fo n:Bool)(r:List Int)(at0:Int):PF:=[(0,.ptr 0 0 0),(7,.ptr (nE fa fd fo+nB n) 0 0),(8,.msl (nE fa fd fo+nB n+1) 0 r.length 1),(9,.int .i64 at0)]
def frI(l:List Ins)(k:Nat):PF:=[(46,fslN (l.map Ins.F)),(47,.int .i64 (l.length:Int)),(48,.int .i64 (k:Int))]
def stp(s:Mst):Mst:={s with steps:=s.steps-1}
theorem KE(R:RunT T)(hk:k<l.length)(hl:l.length<=2000000000000)(h:¬1<=s.steps):
 ∃t1,evP ⟨A0,T,A1⟩ (.code W9 (Q7 fa fd fo n r at0++frI l k) (msL fa fd fo n m s a c r tch))=some (.pan (E0 3 0) ⟨E8 fa fd fo n m s a,nE fa fd fo,t1⟩):=by
 have hlt:decide ((k:Int)<(l.length:Int))=true:=by simp[hk]
 have hi:=A8 (F:=Ins.F) hk;have st:=fun d o rest ext tch=>mE (T:=T) (m:=m) (s:=s) (d:=d) (o:=o) (rest:=rest) (ext:=ext) (tch:=tch) R.hS h
 unfold W9 Ru Rt Rr Rq Rp Q7 frI msL E8 Ps;unfold mB at st|-;simp only[Ins.F,Cod.F,E0]at hi st|-;cases fa<;>cases fd<;>cases fo<;>cases n<;>(
  simp only[dA,dR,oA,oR,aR,nB,nE];simp -implicitDefEqProofs only[hlt,hi,st,XP,seval];exact⟨_,rfl⟩)
theorem KF{n':Bool}(R:RunT T)(hk:k<l.length)(hl:l.length<=2000000000000)(h:1<=s.steps)(hs:s.steps<=20000)(hop:1<=l[k].op/\l[k].op<=11/\l[k].op≠9)(ho:InsOk m l[k] r (stp s))(hd0:fd=false->s.data=[])(hf0:fo=false->n=false->s.out=[])(hol:s.out.length<=30000)(hn:decide (l[k].op=11)=n')(hv:(doesI m l[k] r (stp s)).1=0):
 ∃t1,evP ⟨A0,T,A1⟩ (.code W9 (Q7 fa fd fo n r at0++frI l k) (msL fa fd fo n m s a c r tch))=some (.ok .normal (Q7 fa fd fo (n||n') r at0++frI l (k+1)) (msL fa fd fo (n||n') m (doesI m l[k] r (stp s)).2.1 a c (doesI m l[k] r (stp s)).2.2 t1)):=by
 have hlt:decide ((k:Int)<(l.length:Int))=true:=by simp[hk]
 have hi:=A8 (F:=Ins.F) hk;have hw:=B3 (i:=k) (by omega);have st:=fun d o rest ext tch=>m5 (T:=T) (m:=m) (s:=s) (d:=d) (o:=o) (rest:=rest) (ext:=ext) (tch:=tch) R.hS h hs
 have h9:(l[k].op=9)=False:=eq_false hop.2.2;have dc:=fun cs cz xs xz=>pR (T:=T) (m:=m) (s:=stp s) (fa:=fa) (fd:=fd) (fo:=fo) (n:=n) (n':=n') (r:=r) (a:=a) (x:=l[k]) (cs:=cs) (cz:=cz) (xs:=xs) (xz:=xz) R ho hop hd0 hf0 hol hn hv
 have hd:=(dc [c.F] 5 [l[k].F] 8).choose_spec;generalize (dc [c.F] 5 [l[k].F] 8).choose=t1 at hd;clear dc;generalize doesI m l[k] r (stp s)=y at hd|-;unfold W9 Ru Rt Rr Rq Rp Q7 frI msL E8 Ps;unfold E8 at hd;unfold mB at st hd|-;simp only[Ins.F,Cod.F,stp]at hi st hd|-;cases fa<;>cases fd<;>cases fo<;>cases n<;>cases n'<;>(
  simp only[dA,dR,oA,oR,aR,nB,nE,rA,oG,dd,E8,mB,Nat.reduceAdd,zqh,zqi,zqj,Bool.or_false,zkd]at hd|-;simp -implicitDefEqProofs only[hlt,hi,st,hd,h9,hw,XP,seval];exact⟨_,rfl⟩)
theorem DV(R:RunT T)(hk:k<l.length)(hl:l.length<=2000000000000)(h:1<=s.steps)(hs:s.steps<=20000)(hop:1<=l[k].op/\l[k].op<=11/\l[k].op≠9)(ho:InsOk m l[k] r (stp s))(hd0:fd=false->s.data=[])(hf0:fo=false->n=false->s.out=[])(hol:s.out.length<=30000)(hv:¬(doesI m l[k] r (stp s)).1=0):
 ∃t1,evP ⟨A0,T,A1⟩ (.code W9 (Q7 fa fd fo n r at0++frI l k) (msL fa fd fo n m s a c r tch))=some (.pan (E0 2 (doesI m l[k] r (stp s)).1) ⟨E8 fa fd fo n m (stp s) a,nE fa fd fo,t1⟩):=by
 have hlt:decide ((k:Int)<(l.length:Int))=true:=by simp[hk]
 have hi:=A8 (F:=Ins.F) hk;have hw:=B3 (i:=k) (by omega);have st:=fun d o rest ext tch=>m5 (T:=T) (m:=m) (s:=s) (d:=d) (o:=o) (rest:=rest) (ext:=ext) (tch:=tch) R.hS h hs
 have h9:(l[k].op=9)=False:=eq_false hop.2.2;have dc:=fun cs cz xs xz=>jS (T:=T) (m:=m) (s:=stp s) (fa:=fa) (fd:=fd) (fo:=fo) (n:=n) (r:=r) (a:=a) (x:=l[k]) (cs:=cs) (cz:=cz) (xs:=xs) (xz:=xz) R ho hop hd0 hf0 hol hv
 have hd:=(dc [c.F] 5 [l[k].F] 8).choose_spec;generalize (dc [c.F] 5 [l[k].F] 8).choose=t1 at hd;clear dc;generalize doesI m l[k] r (stp s)=y at hd|-;unfold E0 at hd|-;unfold W9 Ru Rt Rr Rq Rp Q7 frI msL E8 Ps;unfold E8 at hd;unfold mB at st hd|-;simp only[Ins.F,Cod.F,stp]at hi st hd|-;cases fa<;>cases fd<;>cases fo<;>cases n<;>(
  simp only[dA,dR,oA,oR,aR,nB,nE,rA,oG,dd,E8,mB,Nat.reduceAdd,zqh,zqi,zqj,Bool.or_false,zkd]at hd|-;simp -implicitDefEqProofs only[hlt,hi,st,hd,h9,hw,XP,seval];exact⟨_,rfl⟩)
end
section
variable {m:Modl}{s:Mst}{fd fo:Bool}{r:List Int}{x:Ins}{k:Nat}{n':Bool}
def argsI(x:Ins)(r:List Int):List Int:=x.args.map (at' r)
def m6(f:Bool)(j:Nat)(a:List Int):AV:=match f with|true=>.msl j 0 a.length 1|false=>.nilsl
def pS(fd fo:Bool)(r:List Int)(y:AV):PF:=[(0,.ptr 0 0 0),(2,.msl 1 0 r.length 1),(4,.ptr (nE true fd fo) 0 0),(6,y)]
def pT(x:Ins)(k:Nat):PF:=[(11,fslN (ints x.args)),(12,.int .i64 (x.args.length:Int)),(13,.int .i64 (k:Int))]
def mF(fd fo f:Bool)(m:Modl)(s:Mst)(r:List Int)(x:Ins)(a:List Int):PK:=⟨E8 true fd fo false m s r++(.row 1 [x.F] 8::aR f a),nE true fd fo,[]⟩
theorem KG(hk:0<x.args.length)(hx:∀y∈x.args,0<=y/\y<r.length):
 evP ⟨A0,T,A1⟩ (.code Jb (pS fd fo r .nilsl++pT x 0) (mF fd fo false m s r x []))=some (.ok .normal (pS fd fo r (.msl (nE true fd fo+1) 0 1 1)++pT x 1) (mF fd fo true m s r x ((argsI x r).take 1))):=by
 obtain⟨j,hj,hj2⟩:∃j:Nat,x.args[0]=j/\j<r.length:=by have:=hx _ (zqc hk);exact⟨x.args[0].toNat,by omega,by omega⟩
 have ht:ints ((argsI x r).take 1)=[.int .i64 r[j]]:=by
  unfold argsI;cases h:x.args with
  |nil=>rw[h]at hk;cases hk
  |cons y l=>simp only[h,List.getElem_cons_zero]at hj;subst hj;simp[ints,hj2]
 have hi:Kq ty3 (fslN (ints x.args)) (.int .i64 0)=some (.fptr (.int .i64 x.args[0]) 0):=ix_fslN (i:=0) (A9 hk) rfl;have hlt:decide ((0:Int)<(x.args.length:Int))=true:=by simp[hk]
 unfold Jb lR lQ pS pT mF E8;unfold mB;simp only[Ins.F];cases fd<;>cases fo<;>(
  simp only[dA,dR,oA,oR,aR,nB,nE];simp -implicitDefEqProofs only[hlt,hi,hj,hj2,A9 hj2,ht,show((0:Nat):Int)=0 from rfl,show IntKind.i64.wrap (0+1)=((1:Nat):Int)from rfl,XP,Nat.reduceAdd,Nat.reduceSub,Nat.reduceLT,Nat.reduceLeDiff,Nat.reduceEqDiff,Nat.reduceMul,↓reduceIte])
theorem KH(hk:k<x.args.length)(h0:0<k)(hx:∀y∈x.args,0<=y/\y<r.length)(hl:x.args.length<=100000):
 evP ⟨A0,T,A1⟩ (.code Jb (pS fd fo r (.msl (nE true fd fo+1) 0 k 1)++pT x k) (mF fd fo true m s r x ((argsI x r).take k)))=some (.ok .normal (pS fd fo r (.msl (nE true fd fo+1) 0 (k+1) 1)++pT x (k+1)) (mF fd fo true m s r x ((argsI x r).take (k+1)))):=by
 obtain⟨j,hj,hj2⟩:∃j:Nat,x.args[k]=j/\j<r.length:=by have:=hx _ (zqc hk);exact⟨x.args[k].toNat,by omega,by omega⟩
 have hka:k<(argsI x r).length:=by unfold argsI;simpa using hk
 have hg:(argsI x r)[k]=r[j]:=by simp[argsI,hj,hj2]
 have ht:=Li hka;rw[hg]at ht;have hm:(ints ((argsI x r).take k)).length=k:=by simp;omega
 have hw:=B3 (i:=k) (by omega);have hz:(k+1)*8<=140737488355328:=by omega
 have hi:=A9 hk;have hlt:decide ((k:Int)<(x.args.length:Int))=true:=by simp[hk]
 unfold Jb lR lQ pS pT mF E8;unfold mB;simp only[Ins.F];cases fd<;>cases fo<;>(
  simp only[dA,dR,oA,oR,aR,nB,nE];simp -implicitDefEqProofs only[hlt,hi,hj,hj2,A9 hj2,ht,hm,hw,hz,XP,seval])
theorem BW{y:AV}{K:PK}:∃fr',evP ⟨A0,T,A1⟩ (.code Jb (pS fd fo r y++pT x x.args.length) K)=some (.ok (.exit 0) fr' K)/\lookP fr' 0=.ptr 0 0 0/\lookP fr' 2=.msl 1 0 r.length 1/\lookP fr' 4=.ptr (nE true fd fo) 0 0/\lookP fr' 6=y:=by
 unfold Jb lR lQ pS pT;have hlt:decide ((x.args.length:Int)<(x.args.length:Int))=false:=by simp
 simp -implicitDefEqProofs only[hlt,XP,seval];exact⟨_,rfl,rfl,rfl,rfl,rfl⟩
def neE(l:List Int):Bool:=!l.isEmpty
theorem uE(hx:∀y∈x.args,0<=y/\y<r.length)(hl:x.args.length<=100000):∃fr',evP ⟨A0,T,A1⟩ (.code (.loop Jb) (pS fd fo r .nilsl++pT x 0) (mF fd fo false m s r x []))=some (.ok (.exit 0) fr' (mF fd fo (neE (argsI x r)) m s r x (argsI x r)))/\lookP fr' 0=.ptr 0 0 0/\lookP fr' 2=.msl 1 0 r.length 1/\lookP fr' 4=.ptr (nE true fd fo) 0 0/\lookP fr' 6=m6 (neE (argsI x r)) (nE true fd fo+1) (argsI x r):=by
 by_cases h0:x.args.length=0
 . have h1:x.args=[]:=List.length_eq_zero_iff.1 h0
   obtain⟨fr',e,p⟩:=BW (T:=T) (fd:=fd) (fo:=fo) (r:=r) (x:=x) (y:=.nilsl) (K:=mF fd fo false m s r x []);rw[h0]at e;have h2:argsI x r=[]:=by unfold argsI;rw[h1];rfl
   rw[h2];exact⟨fr',C7 e,p⟩
 . have:=Cd (P:=⟨A0,T,A1⟩) (c:=Jb) (fun i=>(pS fd fo r (.msl (nE true fd fo+1) 0 (i+1) 1)++pT x (i+1),mF fd fo true m s r x ((argsI x r).take (i+1)))) (x.args.length-1) fun i hi=>KH (by omega) (by omega) hx hl
   obtain ⟨fr',e,p⟩:=BW (T:=T) (fd:=fd) (fo:=fo) (r:=r) (x:=x) (y:=.msl (nE true fd fo+1) 0 x.args.length 1) (K:=mF fd fo true m s r x (argsI x r));have hn:neE (argsI x r)=true:=by
    unfold neE argsI;cases h:x.args with
    |nil=>rw[h]at h0;exact absurd rfl h0
    |cons _ _=>rfl
   have hal:(argsI x r).length=x.args.length:=by simp[argsI]
   rw[hn];refine⟨fr',?_,?_⟩
   . rw[loop_more (KG (by omega) hx),this]
     simp only[show x.args.length-1+1=x.args.length by omega];rw[zqt (by omega)];exact C7 e
   . unfold m6;rw[hal];exact p
end
inductive Rs where
 |ret (v:Int) (s:Mst)
 |stop (st c:Int) (s:Mst)
def Rs.st:Rs->Mst | .ret _ s=>s | .stop _ _ s=>s
def yB(x:Rs)(K:Mst->PK):PR:=match x with | .ret v s=>.val [.int .i64 v] (K s) | .stop st c s=>.pan (E0 st c) (K s)
def uF(T:Nat->Option (List AV->Option (List AV)))(m:Modl)(C:Int->List Int->Mst->Rs)(Pre:Int->List Int->Mst->Prop):Prop:=
 ∀ (fa fd fo:Bool) (f:Int) (a:List Int) (s:Mst),Pre f a s->(fa=false->a=[])->(fd=false->s.data=[])->(fo=false->s.out=[]) ->
   ∃n' t1,(fo=false->n'=false->(C f a s).st.out=[])/\evP ⟨A0,T,A1⟩ (.body 24 [.ptr 0 0 0,.int .i64 f,m6 fa 1 a] ⟨E8 fa fd fo false m s a,nE fa fd fo,[]⟩)=some (yB (C f a s) fun s'=>⟨E8 fa fd fo n' m s' a,nE fa fd fo,t1⟩)
section
variable {m:Modl}{s s':Mst}{fa fd fo n':Bool}{r a:List Int}{x:Ins}{xs:List AV}{xz:Nat}{f v:Int}{t0:List Nat}
def pU(fa fd fo:Bool):List Nat:=0::((match fa with|true=>[nE true fd fo+1]|false=>[])++((match fd with|true=>[2]|false=>[])++(match fo with|true=>[2+nB fd]|false=>[])))
theorem uG(R:RunT T)(hb:evP ⟨A0,T,A1⟩ (.body 24 [.ptr 0 0 0,.int .i64 f,m6 fa 1 a] ⟨E8 fa fd fo false m s a,nE fa fd fo,[]⟩)=some (.val [.int .i64 v] ⟨E8 fa fd fo n' m s' a,nE fa fd fo,t0⟩)):
 ∃t1,∀tch,evP ⟨A0,T,A1⟩ (.call 24 [.ptr 0 0 0,.int .i64 f,m6 fa (nE true fd fo+1) a] ⟨E8 true fd fo false m s r++(.row 1 xs xz::aR fa a),nE true fd fo,tch⟩)=some (.val [.int .i64 v] ⟨rA true fd fo false n' m s' r (nE true fd fo+1+nB fa)++(.row 1 xs xz::(aR fa a++oG n' s'.out)),nE true fd fo,t1++tch⟩):=by
 refine⟨((t0.filter (· < (pU fa fd fo).length)).map fun j=>(pU fa fd fo).getD j 0),fun tch=>Vi (ids:=pU fa fd fo) (args':=[.ptr 0 0 0,.int .i64 f,m6 fa 1 a]) (Kf:=⟨E8 fa fd fo false m s a,nE fa fd fo,[]⟩) R.hL rfl ?_ ?_ ?_ hb ?_ ?_⟩<;>cases fa<;>cases fd<;>cases fo<;>cases n'<;>rfl
theorem yC{st c:Int}(R:RunT T)(hb:evP ⟨A0,T,A1⟩ (.body 24 [.ptr 0 0 0,.int .i64 f,m6 fa 1 a] ⟨E8 fa fd fo false m s a,nE fa fd fo,[]⟩)=some (.pan (E0 st c) ⟨E8 fa fd fo n' m s' a,nE fa fd fo,t0⟩)):
 ∃t1,∀tch,evP ⟨A0,T,A1⟩ (.call 24 [.ptr 0 0 0,.int .i64 f,m6 fa (nE true fd fo+1) a] ⟨E8 true fd fo false m s r++(.row 1 xs xz::aR fa a),nE true fd fo,tch⟩)=some (.pan (E0 st c) ⟨rA true fd fo false n' m s' r (nE true fd fo+1+nB fa)++(.row 1 xs xz::(aR fa a++oG n' s'.out)),nE true fd fo,t1++tch⟩):=by
 refine⟨((t0.filter (· < (pU fa fd fo).length)).map fun j=>(pU fa fd fo).getD j 0),fun tch=>bA (ids:=pU fa fd fo) (args':=[.ptr 0 0 0,.int .i64 f,m6 fa 1 a]) (Kf:=⟨E8 fa fd fo false m s a,nE fa fd fo,[]⟩) R.hL rfl ?_ ?_ ?_ hb ?_ ?_⟩<;>cases fa<;>cases fd<;>cases fo<;>cases n'<;>rfl
theorem KI(R:RunT T)(hx:∀y∈x.args,0<=y/\y<r.length)(hl:x.args.length<=100000)(hd:0<=x.dst)(hd2:x.dst<r.length)(hb:evP ⟨A0,T,A1⟩ (.body 24 [.ptr 0 0 0,.int .i64 x.n,m6 (neE (argsI x r)) 1 (argsI x r)] ⟨E8 (neE (argsI x r)) fd fo false m s (argsI x r),nE (neE (argsI x r)) fd fo,[]⟩)=some (.val [.int .i64 v] ⟨E8 (neE (argsI x r)) fd fo n' m s' (argsI x r),nE (neE (argsI x r)) fd fo,t0⟩)):∃t1,evP ⟨A0,T,A1⟩ (.body 41 [.ptr 0 0 0,x.F,.msl 1 0 r.length 1] ⟨E8 true fd fo false m s r,nE true fd fo,[]⟩)=some (.val [] ⟨E8 true fd fo n' m s' (put' r x.dst v),nE true fd fo,t1⟩):=by
 obtain⟨t1,hc⟩:=uG (r:=r) (xs:=[x.F]) (xz:=8) R hb;obtain⟨fr',hl1,h1,h2,h3,h4⟩:=uE (T:=T) (m:=m) (s:=s) (fd:=fd) (fo:=fo) hx hl;obtain⟨d,hd3,hd4⟩:∃d:Nat,x.dst=d/\d<r.length:=⟨x.dst.toNat,by omega,by omega⟩
 have h0:decide ((d:Int)>=0)=true:=by simp
 generalize neE (argsI x r)=fa at hc hl1 h4;generalize argsI x r=a at hc hl1 h4;rw[A3 (c:=AW) (nt:=38) (rs:=[]) rfl (by simp)];unfold AW;unfold lX lW lV lU lT lS;unfold pS pT mF E8 at hl1;unfold E8 at hc|-;unfold mB at hc hl1|-;simp only[Ins.F]at hc hl1|-;cases fa<;>cases fd<;>cases fo<;>cases n'<;>(
  simp only[dA,dR,oA,oR,aR,nB,nE,rA,oG,dd,E8,mB,m6,Nat.reduceAdd,zqh,zqi,zqj,put',hd3,zqz,show((0:Nat):Int)=0 from rfl]at hc hl1 h1 h2 h3 h4|-;simp -implicitDefEqProofs only[hc,hl1,h1,h2,h3,h4,hd3,h0,A9 hd4,hd4,M0,zqa,show((0:Nat):Int)=0 from rfl,XP,Nat.reduceAdd,Nat.reduceSub,Nat.reduceLT,Nat.reduceLeDiff,Nat.reduceEqDiff,Nat.reduceMul,↓reduceIte];exact⟨_,rfl⟩)
theorem KJ(R:RunT T)(hx:∀y∈x.args,0<=y/\y<r.length)(hl:x.args.length<=100000)(hd:¬0<=x.dst)(hb:evP ⟨A0,T,A1⟩ (.body 24 [.ptr 0 0 0,.int .i64 x.n,m6 (neE (argsI x r)) 1 (argsI x r)] ⟨E8 (neE (argsI x r)) fd fo false m s (argsI x r),nE (neE (argsI x r)) fd fo,[]⟩)=some (.val [.int .i64 v] ⟨E8 (neE (argsI x r)) fd fo n' m s' (argsI x r),nE (neE (argsI x r)) fd fo,t0⟩)):∃t1,evP ⟨A0,T,A1⟩ (.body 41 [.ptr 0 0 0,x.F,.msl 1 0 r.length 1] ⟨E8 true fd fo false m s r,nE true fd fo,[]⟩)=some (.val [] ⟨E8 true fd fo n' m s' r,nE true fd fo,t1⟩):=by
 obtain⟨t1,hc⟩:=uG (r:=r) (xs:=[x.F]) (xz:=8) R hb;obtain⟨fr',hl1,h1,h2,h3,h4⟩:=uE (T:=T) (m:=m) (s:=s) (fd:=fd) (fo:=fo) hx hl;have h0:decide (x.dst>=0)=false:=by simp;omega
 generalize neE (argsI x r)=fa at hc hl1 h4;generalize argsI x r=a at hc hl1 h4;rw[A3 (c:=AW) (nt:=38) (rs:=[]) rfl (by simp)];unfold AW;unfold lX lW lV lU lT lS;unfold pS pT mF E8 at hl1;unfold E8 at hc|-;unfold mB at hc hl1|-;simp only[Ins.F]at hc hl1|-;cases fa<;>cases fd<;>cases fo<;>cases n'<;>(
  simp only[dA,dR,oA,oR,aR,nB,nE,rA,oG,dd,E8,mB,m6,Nat.reduceAdd,zqh,zqi,zqj,show((0:Nat):Int)=0 from rfl]at hc hl1 h1 h2 h3 h4|-;simp -implicitDefEqProofs only[hc,hl1,h1,h2,h3,h4,h0,zqa,show((0:Nat):Int)=0 from rfl,XP,Nat.reduceAdd,Nat.reduceSub,Nat.reduceLT,Nat.reduceLeDiff,Nat.reduceEqDiff,Nat.reduceMul,↓reduceIte];exact⟨_,rfl⟩)
theorem KK(R:RunT T)(hx:∀y∈x.args,0<=y/\y<r.length)(hl:x.args.length<=100000){st c:Int}(hb:evP ⟨A0,T,A1⟩ (.body 24 [.ptr 0 0 0,.int .i64 x.n,m6 (neE (argsI x r)) 1 (argsI x r)] ⟨E8 (neE (argsI x r)) fd fo false m s (argsI x r),nE (neE (argsI x r)) fd fo,[]⟩)=some (.pan (E0 st c) ⟨E8 (neE (argsI x r)) fd fo n' m s' (argsI x r),nE (neE (argsI x r)) fd fo,t0⟩)):∃t1,evP ⟨A0,T,A1⟩ (.body 41 [.ptr 0 0 0,x.F,.msl 1 0 r.length 1] ⟨E8 true fd fo false m s r,nE true fd fo,[]⟩)=some (.pan (E0 st c) ⟨E8 true fd fo n' m s' r,nE true fd fo,t1⟩):=by
 obtain ⟨t1,hc⟩:=yC (r:=r) (xs:=[x.F]) (xz:=8) R hb;obtain⟨fr',hl1,h1,h2,h3,h4⟩:=uE (T:=T) (m:=m) (s:=s) (fd:=fd) (fo:=fo) hx hl;unfold E0 at hc|-;generalize neE (argsI x r)=fa at hc hl1 h4;generalize argsI x r=a at hc hl1 h4;rw[A3 (c:=AW) (nt:=38) (rs:=[]) rfl (by simp)];unfold AW;unfold lX lW lV lU lT lS;unfold pS pT mF E8 at hl1;unfold E8 at hc|-;unfold mB at hc hl1|-;simp only[Ins.F]at hc hl1|-;cases fa<;>cases fd<;>cases fo<;>cases n'<;>(
  simp only[dA,dR,oA,oR,aR,nB,nE,rA,oG,dd,E8,mB,m6,Nat.reduceAdd,zqh,zqi,zqj,show((0:Nat):Int)=0 from rfl]at hc hl1 h1 h2 h3 h4|-;simp -implicitDefEqProofs only[hc,hl1,h1,h2,h3,h4,zqa,show((0:Nat):Int)=0 from rfl,XP,Nat.reduceAdd,Nat.reduceSub,Nat.reduceLT,Nat.reduceLeDiff,Nat.reduceEqDiff,Nat.reduceMul,↓reduceIte];exact⟨_,rfl⟩)
end
end Go.Proofs.AmEnv
