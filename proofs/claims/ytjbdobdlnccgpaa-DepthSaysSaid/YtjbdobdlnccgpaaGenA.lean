/- What this program's functions do, at any data. Conditions: none. -/
import Derived.Test.YtjbdobdlnccgpaaEnv
set_option linter.unusedVariables false
set_option linter.unusedSimpArgs false
set_option linter.unusedSectionVars false
set_option linter.defProp false
set_option maxRecDepth 100000
set_option maxHeartbeats 4000000
open Option renaming some→zs,none→zn
open Bool renaming true→zt,false→zf
open List renaming length_map→zqa,nodup_nil→zqb,getElem_mem→zqc,range→zqd,length_nil→zqe,drop_length→zqf,length_cons→zqg,drop_eq_getElem_cons→zqh,getElem?_eq_getElem→zqi,cons_append→zqj,nil_append→zqk,getD_eq_getElem?_getD→zql,mem_singleton→zqm,append_nil→zqn,mem_or_eq_of_mem_set→zqo,length_append→zqp,append_assoc→zqq,take_succ_eq_append_getElem→zqr,map_append→zqs,take_zero→zqt,mem_cons→zqu,findIdx?_eq_some_iff_getElem→zqv,length_zip→zqw,map_cons→zqx,getElem?_map→zqy,take_length→zqz,getElem?_set_self→zka,findIdx?_eq_none_iff→zkb,flatMap_nil→zkc,flatMap_cons→zkd,countP_set→zke,count_cons→zkf,countP_cons→zkg
open Bool renaming false_and→zkh,and_eq_true→zki
noncomputable section
namespace Go.Proofs.AmEnv
open Go Go.AM
variable {T:Nat->Option (List AV->Option (List AV))}
abbrev ints(l:List Int):List AV:=l.map (AV.int .i64)
theorem I1{l:List Int}{i:Nat}(h:i<l.length):(ints l)[i]?=zs (.int .i64 l[i]):=by
 grind
theorem Zt{l:List Int}{i:Nat}(h:i<l.length):ints (l.take i)++[.int .i64 l[i]]=ints (l.take (i+1)):=by
 unfold ints;rw[zqr h,zqs];rfl
section
variable {l:List Int}{f:Bool}{i:Nat}{x:Int}{es:List AV}
theorem A1I(hl:0<l.length):
 evP ⟨env,T,A0⟩ (.code Ka [(0,.fsl (ints l) f),(3,.nilsl),(4,.int .i64 0)] ⟨[],0,[]⟩)=zs (.ok .normal [(0,.fsl (ints l) f),(3,.msl 0 0 1 1),(4,.int .i64 ((1:Nat):Int))] ⟨[.row 0 (ints (l.take 1)) 1],0,[]⟩):=by
 unfold Ka;have C:decide ((0:Int)<((ints l).length:Int))=zt:=by simp[hl]
 have hi:=I1 hl;have hw:=A1 (i:=0) (by omega);have D:Xc gA (.fsl (ints l) f) (.int .i64 0)=zs (.fptr (.int .i64 l[0]) 0):=ix_fsl (i:=0) hi rfl;have B:=Zt hl;rw[zqt]at B;have B:[AV.int .i64 l[0]]=ints (l.take 1):=B;simp only[C,D,<-B,show IntKind.i64.wrap (0+1)=((1:Nat):Int)from rfl,XP,Nat.reduceAdd,Nat.reduceSub,Nat.reduceLT,Nat.reduceLeDiff,Nat.reduceEqDiff,Nat.reduceMul,↓reduceIte]
theorem A1J(hl:i<l.length)(hs:l.length*8<=140737488355328):
 evP ⟨env,T,A0⟩ (.code Ka [(0,.fsl (ints l) f),(3,.msl 0 0 i 1),(4,.int .i64 i)] ⟨[.row 0 (ints (l.take i)) 1],0,[]⟩)=zs (.ok .normal [(0,.fsl (ints l) f),(3,.msl 0 0 (i+1) 1),(4,.int .i64 ((i+1:Nat):Int))] ⟨[.row 0 (ints (l.take (i+1))) 1],0,[]⟩):=by
 unfold Ka;have B:decide ((i:Int)<((ints l).length:Int))=zt:=by simp[hl]
 have hi:=I1 hl;have C:(ints (l.take i)).length=i:=by simp;omega
 have D:=A1 (i:=i) (by omega);have hz:(i+1)*8<=140737488355328:=by omega
 simp only[B,hi,C,D,hz,Zt hl,XP,seval]
theorem KS{y:AV}{K:PK}:∃fr',evP ⟨env,T,A0⟩ (.code Ka [(0,.fsl (ints l) f),(3,y),(4,.int .i64 l.length)] K)=zs (.ok (.exit 0) fr' K)/\lookP fr' 3=y:=by
 unfold Ka;have B:decide ((l.length:Int)<((ints l).length:Int))=zf:=by simp
 simp only[B,XP,seval];exact⟨_,rfl,rfl⟩
theorem KT(B:l.length*8<=140737488355328):∀(n i:Nat),l.length=i+n->0<i->∃fr',evP ⟨env,T,A0⟩ (.code (.loop Ka) [(0,.fsl (ints l) f),(3,.msl 0 0 i 1),(4,.int .i64 i)] ⟨[.row 0 (ints (l.take i)) 1],0,[]⟩)=zs (.ok (.exit 0) fr' ⟨[.row 0 (ints l) 1],0,[]⟩)/\lookP fr' 3=.msl 0 0 l.length 1
 |0,i,e,h0=>by
  obtain rfl:i=l.length:=by omega
  rw[zqz];obtain⟨fr',h1,h2⟩:=KS (T:=T) (l:=l) (f:=f) (y:=.msl 0 0 l.length 1) (K:=⟨[.row 0 (ints l) 1],0,[]⟩);grind [loop_exit]
 |n+1,i,e,h0=>by
  rw[loop_more (A1J (by omega) B)];exact KT B n (i+1) (by omega) (by omega)
theorem Tz(B:l.length*8<=140737488355328):AM.Comes ⟨env,T,A0⟩ 45 [.fsl (ints l) f] [ownd 0 1 (ints l)]:=by
 cases l with
 |nil=>
  obtain⟨fr',h1,h2⟩:=KS (T:=T) (l:=[]) (f:=f) (y:=.nilsl) (K:=⟨[],0,[]⟩);have hl:=loop_exit h1;refine⟨[.nilsl],⟨[],0,[]⟩,?_,⟨by decide,rfl,rfl⟩⟩;rw[A3 (c:=JA) (nt:=19) (rs:=[.tmp 2]) rfl (by simp)];unfold JA K0;have hl:evP ⟨env,T,A0⟩ (.code (.loop Ka) [(0,.fsl (ints []) f),(3,.nilsl),(4,.int .i64 0)] ⟨[],0,[]⟩)=_:=hl;simp only[hl,h2,XP,seval]
 |cons x r=>
  obtain⟨fr',h1,h2⟩:=KT (T:=T) (f:=f) B r.length 1 (by simp;omega) (by decide);have hl:=(loop_more (A1I (T:=T) (f:=f) (l:=x::r) (by simp))).trans h1;refine⟨[.msl 0 0 (x::r).length 1],⟨[.row 0 (ints (x::r)) 1],0,[]⟩,?_,?_⟩
  . rw[A3 (c:=JA) (nt:=19) (rs:=[.tmp 2]) rfl (by simp)]
    unfold JA K0;simp only[hl,h2,XP,seval]
  . refine A9 (vs':=[.msl 0 0 (x::r).length 1]) (os':=[.row 0 (ints (x::r)) 1]) ?_ ?_ (us:=[.msl 0 0 (ints (x::r)).length 1]) (ps:=[.row 0 (ints (x::r)) 1]) ?_ ?_ ?_
    all_goals simp only[zqa,XP,seval]
end
theorem ints_inj{l m:List Int}(h:ints l=ints m):l=m:=by
 induction l generalizing m with
 | nil=>simp_all
 | cons x l B=>cases m with
  |nil=>cases h
  |cons y m=>grind
section
variable {l m:List Int}{f g:Bool}{i:Nat}
theorem A1K(hl:i<l.length)(C:i<m.length)(D:l[i]=m[i])(hs:l.length<=140737488355328):
 evP ⟨env,T,A0⟩ (.code Ev [(0,.fsl (ints l) f),(1,.fsl (ints m) g),(5,.int .i64 i)] ⟨[],0,[]⟩)=zs (.ok .normal [(0,.fsl (ints l) f),(1,.fsl (ints m) g),(5,.int .i64 ((i+1:Nat):Int))] ⟨[],0,[]⟩):=by
 unfold Ev;have B:decide ((i:Int)<((ints l).length:Int))=zt:=by simp[hl]
 have h1:=I1 hl;have h2:=I1 C;have H:=A1 (i:=i) (by omega);simp_all [XP]
theorem A1L(hl:i<l.length)(C:i<m.length)(D:¬l[i]=m[i]):
 ∃fr',evP ⟨env,T,A0⟩ (.code Ev [(0,.fsl (ints l) f),(1,.fsl (ints m) g),(5,.int .i64 i)] ⟨[],0,[]⟩)=zs (.ok .ret fr' ⟨[],0,[]⟩)/\lookP fr' 4=.bool zf:=by
 unfold Ev;have B:decide ((i:Int)<((ints l).length:Int))=zt:=by simp[hl]
 have h1:=I1 hl;have h2:=I1 C;have H:decide (l[i]=m[i])=zf:=by simp[D]
 simp only[B,h1,h2,H,u_not,XP,seval];exact⟨_,rfl,rfl⟩
theorem A1M(hm:l.length=m.length):∃fr',evP ⟨env,T,A0⟩ (.code Ev [(0,.fsl (ints l) f),(1,.fsl (ints m) g),(5,.int .i64 l.length)] ⟨[],0,[]⟩)=zs (.ok (.exit 0) fr' ⟨[],0,[]⟩):=by
 unfold Ev;have B:decide ((l.length:Int)<((ints l).length:Int))=zf:=by simp
 simp only[B,XP,seval];grind
theorem si_l(D:l.length<=140737488355328)(C:l.length=m.length):∀(n i:Nat),l.length=i+n ->
 (l.drop i=m.drop i/\∃fr',evP ⟨env,T,A0⟩ (.code (.loop Ev) [(0,.fsl (ints l) f),(1,.fsl (ints m) g),(5,.int .i64 i)] ⟨[],0,[]⟩)=zs (.ok (.exit 0) fr' ⟨[],0,[]⟩))\/
 (l.drop i≠m.drop i/\∃fr',evP ⟨env,T,A0⟩ (.code (.loop Ev) [(0,.fsl (ints l) f),(1,.fsl (ints m) g),(5,.int .i64 i)] ⟨[],0,[]⟩)=zs (.ok .ret fr' ⟨[],0,[]⟩)/\lookP fr' 4=.bool zf)
 |0,i,e=>by
  obtain rfl:i=l.length:=by omega
  obtain⟨fr',h⟩:=A1M (T:=T) (f:=f) (g:=g) C;grind [loop_exit]
 |n + 1,i,e=>by
  have hl:i<l.length:=by omega
  have hl':i<m.length:=by omega
  rw[zqh hl,zqh hl'];by_cases B:l[i]=m[i]
  . rw[loop_more (A1K hl hl' B D)]
    rcases si_l D C n (i+1) (by omega)with⟨h1,h2⟩|⟨h1,h2⟩
    . grind
    grind
  . obtain⟨fr',h1,h2⟩:=A1L (T:=T) (f:=f) (g:=g) hl hl' B
    grind [Y2]
theorem Ua(C:l.length<=140737488355328):AM.Comes ⟨env,T,A0⟩ 59 [.fsl (ints l) f,.fsl (ints m) g] [.bool (decide (l=m))]:=by
 refine⟨[.bool (decide (l=m))],⟨[],0,[]⟩,?_,A9 rfl zqb rfl rfl rfl⟩;rw[A3 (c:=TK) (nt:=27) (rs:=[.tmp 4]) rfl (by simp)];unfold TK K0;by_cases B:l.length=m.length
 . have hn:(!decide (((ints l).length:Int)=((ints m).length:Int)))=zf:=by simp[B]
   rcases si_l (T:=T) (f:=f) (g:=g) C B l.length 0 (by omega)with⟨h1,fr',h2⟩|⟨h1,fr',h2,D⟩
   . have h1:decide (l=m)=zt:=by grind
     have h2:evP ⟨env,T,A0⟩ (.code (.loop Ev) [(0,.fsl (ints l) f),(1,.fsl (ints m) g),(5,.int .i64 0)] ⟨[],0,[]⟩)=_:=h2;simp_all [XP]
   . have h1:decide (l=m)=zf:=by grind
     have h2:evP ⟨env,T,A0⟩ (.code (.loop Ev) [(0,.fsl (ints l) f),(1,.fsl (ints m) g),(5,.int .i64 0)] ⟨[],0,[]⟩)=_:=h2;simp_all [XP]
 . have hn:(!decide (((ints l).length:Int)=((ints m).length:Int)))=zt:=by grind
   have h1:decide (l=m)=zf:=by grind
   simp_all [XP]
end
structure Ins where
 op:Int
 ty:Int
 dst:Int
 a:Int
 b:Int
 n:Int
 s:List UInt8
 args:List Int
deriving DecidableEq
abbrev bigN:Nat:=140737488355328
def Ins.cs(x:Ins)(v:AV):List AV:=[.int .i64 x.op,.int .i64 x.ty,.int .i64 x.dst,.int .i64 x.a,.int .i64 x.b,.int .i64 x.n,.str x.s,v]
def Ins.F(x:Ins):AV:=.agg [.int .i64 x.op,.int .i64 x.ty,.int .i64 x.dst,.int .i64 x.a,.int .i64 x.b,.int .i64 x.n,.str x.s,fslN (ints x.args)]
def Ins.O(x:Ins):AV:=.agg [.int .i64 x.op,.int .i64 x.ty,.int .i64 x.dst,.int .i64 x.a,.int .i64 x.b,.int .i64 x.n,.str x.s,ownd 0 1 (ints x.args)]
def Ins.ok(x:Ins):Prop:=x.args.length*8<=bigN
theorem fslN_inj{l m:List AV}(h:fslN l=fslN m):l=m:=by grind [fslN]
theorem Ins.F_inj{x y:Ins}(h:x.F=y.F):x=y:=by
 cases x;cases y;simp only[Ins.F,AV.agg.injEq,List.cons.injEq,AV.int.injEq,AV.str.injEq,true_and,and_true]at h;obtain⟨rfl,rfl,rfl,rfl,rfl,rfl,rfl,h⟩:=h;rw[ints_inj (fslN_inj h)]
def F6:=X6 (fun l:List Int=>[fslN (ints l)]) (fun l=>[ownd 0 1 (ints l)]) (fun l=>l.length*8<=bigN)
theorem v8{l:List Int}(h:l.length*8<=bigN):F6 [fslN (ints l)]=zs [ownd 0 1 (ints l)]:=B6 (a:=fun l:List Int=>[fslN (ints l)]) (by grind [Go.Proofs.AmEnv.fslN_inj]) l h
def Cc:=X6 (fun p:List Int×List Int=>[fslN (ints p.1),fslN (ints p.2)]) (fun p=>[.bool (decide (p.1=p.2))]) (fun p=>p.1.length*8<=bigN)
theorem Kb{l m:List Int}(h:l.length*8<=bigN):Cc [fslN (ints l),fslN (ints m)]=zs [.bool (decide (l=m))]:=B6 (a:=fun p:List Int×List Int=>[fslN (ints p.1),fslN (ints p.2)]) (r:=fun p=>[.bool (decide (p.1=p.2))]) (by grind [Go.Proofs.AmEnv.ints_inj, Go.Proofs.AmEnv.fslN_inj]) (l,m) h
theorem frzL_ints(l:List Int):frzL (ints l)=zs (ints l):=o9 (f:=AV.int .i64) (g:=AV.int .i64) (fun _=>rfl) l
section
variable {T:Nat->Option (List AV->Option (List AV))}
theorem noFL_ints(l:List Int):noFL (ints l)=zt:=by
 induction l with
 |nil=>rfl
 |cons x l B=>exact B
theorem Qo(B:T 45=zs F6){x:Ins}(h:x.ok):AM.Comes ⟨env,T,A0⟩ 69 [x.F] [x.O]:=by
 refine⟨[.agg (x.cs (.msl 1 0 (ints x.args).length 1))],⟨[.row 1 [.agg (x.cs (.msl 1 0 (ints x.args).length 1))] 8,.row 0 (ints x.args) 1],0,[]⟩,?_,?_⟩
 . rw[A3 (c:=TU) (nt:=8) (rs:=[.cell 2 65]) rfl (by simp)]
   unfold TU K0;have C:∀{K:PK},evP ⟨env,T,A0⟩ (.call 45 [fslN (ints x.args)] K)=zs (.val (openTs K.os.length [ownd 0 1 (ints x.args)]).1 ⟨K.os++(openTs K.os.length [ownd 0 1 (ints x.args)]).2,K.ext,K.tch⟩):=B4 B (by show consO (eD (frzL (ints x.args))) (zs [])=_;rw[frzL_ints];rfl) (v8 h) (by rfl);simp only[Ins.F,Ins.cs,C,XP,seval]
 . refine A9 (vs':=[.agg (x.cs (.msl 1 0 (ints x.args).length 1))]) (os':=[.row 1 [.agg (x.cs (.msl 1 0 (ints x.args).length 1))] 8,.row 0 (ints x.args) 1]) ?_ ?_ (us:=[.agg (x.cs (.msl 0 0 (ints x.args).length 1))]) (ps:=[.row 0 (ints x.args) 1]) ?_ ?_ ?_
   all_goals simp only[Ins.cs,Ins.O,XP,seval]
theorem Qp(J:T 59=zs Cc){x y:Ins}(h:x.ok):AM.Comes ⟨env,T,A0⟩ 80 [x.F,y.F] [.bool (decide (x=y))]:=by
 refine⟨[.bool (decide (x=y))],⟨[],0,[]⟩,?_,A9 rfl zqb rfl rfl rfl⟩;rw[A3 (c:=UD) (nt:=59) (rs:=[.tmp 4]) rfl (by simp)];unfold UD K0;have N:∀{K:PK},evP ⟨env,T,A0⟩ (.call 59 [fslN (ints x.args),fslN (ints y.args)] K)=zs (.val [.bool (decide (x.args=y.args))] ⟨K.os++[],K.ext,K.tch⟩):=B4 J (by show consO (eD (frzL (ints x.args))) (consO (eD (frzL (ints y.args))) (zs []))=_;rw[frzL_ints,frzL_ints];rfl) (Kb h) (by rfl);have no:∀{p:Prop} [Decidable p],¬p->decide p=zf:=fun h=>by simp[h]
 have yes:∀{p:Prop} [Decidable p],p->decide p=zt:=fun h=>by simp[h]
 have ext:x=y↔x.op=y.op/\x.ty=y.ty/\x.dst=y.dst/\x.a=y.a/\x.b=y.b/\x.n=y.n/\x.s=y.s/\x.args=y.args:=by
  cases x;cases y;simp
 by_cases h1:x.op=y.op
 . by_cases h2:x.ty=y.ty
   . by_cases B:x.dst=y.dst
     . by_cases C:x.a=y.a
       . by_cases D:x.b=y.b
         . by_cases H:x.n=y.n
           . by_cases I:x.s=y.s
             . have e:decide (x=y)=decide (x.args=y.args):=by grind
               simp_all [Ins.F, XP]
             simp_all [Ins.F, XP]
           simp_all [Ins.F, XP]
         simp_all [Ins.F, XP]
       simp_all [Ins.F, XP]
     simp_all [Ins.F, XP]
   simp_all [Ins.F, XP]
 simp_all [Ins.F, XP]
end
def m6:=X6 (fun x:Ins=>[x.F]) (fun x=>[x.O]) Ins.ok
theorem Xn{x:Ins}(h:x.ok):m6 [x.F]=zs [x.O]:=B6 (a:=fun x:Ins=>[x.F]) (by grind [Go.Proofs.AmEnv.Ins.F_inj]) x h
def m7:=X6 (fun p:Ins×Ins=>[p.1.F,p.2.F]) (fun p=>[.bool (decide (p.1=p.2))]) (fun p=>p.1.ok)
theorem Xo{x y:Ins}(h:x.ok):m7 [x.F,y.F]=zs [.bool (decide (x=y))]:=B6 (a:=fun p:Ins×Ins=>[p.1.F,p.2.F]) (r:=fun p=>[.bool (decide (p.1=p.2))]) (by grind [Go.Proofs.AmEnv.Ins.F_inj]) (x,y) h
theorem Ins.viewF{os:List PO}(x:Ins):viewA os x.F=zs x.F:=by
 simp_all [Ins.F, XP, frzL_ints]
theorem Ins.frzF(x:Ins):frzC x.F=zs x.F:=by
 simp_all [Ins.F, XP, frzL_ints]
theorem Ins.frzO(x:Ins):frzC x.O=zs x.F:=by
 simp_all [Ins.F, Ins.O, XP, frzL_ints]
theorem A5{X:Type}{F:X->AV}{l:List X}{i:Nat}(h:i<l.length):(l.map F)[i]?=zs (F l[i]):=by grind
theorem r9{X:Type}{F:X->AV}{l:List X}{i:Nat}(h:i<l.length):(l.take i).map F++[F l[i]]=(l.take (i+1)).map F:=by rw[zqr h,zqs];rfl
section
variable {l:List Ins}{f:Bool}{i:Nat}
theorem Ub(B:T 69=zs m6){x:Ins}(h:x.ok){K:PK}:evP ⟨env,T,A0⟩ (.call 69 [x.F] K)=zs (.val (openTs K.os.length [x.O]).1 ⟨K.os++(openTs K.os.length [x.O]).2,K.ext,K.tch⟩):=B4 B (by show consO (viewA _ x.F) (zs [])=_;rw[Ins.viewF];rfl) (Xn h) (by
 simp_all [Ins.O, XP, noFL_ints])
theorem KU(I:T 69=zs m6)(hl:i<l.length)(J:l[i].ok)(C:l.length*88<=bigN):
 evP ⟨env,T,A0⟩ (.code Ps [(0,fslN (l.map Ins.F)),(3,.msl 0 0 i 8),(4,.int .i64 i)] ⟨[.row 0 ((l.take i).map Ins.O) 8],0,[]⟩)=zs (.ok .normal [(0,fslN (l.map Ins.F)),(3,.msl 0 0 (i+1) 8),(4,.int .i64 ((i+1:Nat):Int))] ⟨[.row 0 ((l.take (i+1)).map Ins.O) 8],0,[]⟩):=by
 unfold Ps;have B:decide ((i:Int)<((l.map Ins.F).length:Int))=zt:=by simp[hl]
 have hi:=A5 (F:=Ins.F) hl;have N:((l.take i).map Ins.O).length=i:=by simp;omega
 have Q:=A1 (i:=i) (by grind);have hz:(i+1)*88<=140737488355328:=by grind
 have D:=fun K=>Ub (K:=K) I J
 have H:=r9 (F:=Ins.O) hl;simp_all [Ins.F, Ins.O, XP]
theorem KV(H:T 69=zs m6)(hl:0<l.length)(I:l[0].ok)(hs:l.length*88<=bigN):
 evP ⟨env,T,A0⟩ (.code Ps [(0,fslN (l.map Ins.F)),(3,.nilsl),(4,.int .i64 0)] ⟨[],0,[]⟩)=zs (.ok .normal [(0,fslN (l.map Ins.F)),(3,.msl 0 0 1 8),(4,.int .i64 ((1:Nat):Int))] ⟨[.row 0 ((l.take 1).map Ins.O) 8],0,[]⟩):=by
 unfold Ps;have C:decide ((0:Int)<((l.map Ins.F).length:Int))=zt:=by simp[hl]
 have hi:=A5 (F:=Ins.F) hl;have hi:=ix_fslN (te:=t7) (k:=.i64) (i:=0) hi rfl;have hi:Xc t7 (fslN (l.map Ins.F)) (.int .i64 0)=zs (.fptr (Ins.F l[0]) 0):=hi;have D:=fun K=>Ub (K:=K) H I
 have B:=r9 (F:=Ins.O) hl;rw[zqt]at B;have B:[Ins.O l[0]]=(l.take 1).map Ins.O:=B;simp only[Ins.F]at D hi;rw[<-B];simp only[C,hi,Ins.O,D,show IntKind.i64.wrap (0+1)=((1:Nat):Int)from rfl,XP,Nat.reduceAdd,Nat.reduceSub,Nat.reduceLT,Nat.reduceLeDiff,Nat.reduceEqDiff,Nat.reduceMul,↓reduceIte]
theorem KW{y:AV}{K:PK}:∃fr',evP ⟨env,T,A0⟩ (.code Ps [(0,fslN (l.map Ins.F)),(3,y),(4,.int .i64 l.length)] K)=zs (.ok (.exit 0) fr' K)/\lookP fr' 3=y:=by
 unfold Ps;have B:decide ((l.length:Int)<((l.map Ins.F).length:Int))=zf:=by simp
 simp only[B,XP,seval];exact⟨_,rfl,rfl⟩
theorem Nd(B:T 69=zs m6)(C:∀x∈l,x.ok)(D:l.length*88<=bigN):AM.Comes ⟨env,T,A0⟩ 58 [fslN (l.map Ins.F)] [ownd 0 8 (l.map Ins.O)]:=by
 obtain⟨fr',y,os,h1,h2,H⟩:=Gx (P:=⟨env,T,A0⟩) (c:=Ps) (A:=fslN (l.map Ins.F)) (O:=Ins.O) (sz:=8) (l:=l) (fun h=>KV B h (C _ (zqc h)) D) (fun i h=>KU B h (C _ (zqc h)) D) (fun y K=>KW);refine⟨[y],⟨os,0,[]⟩,?_,C6 H⟩;rw[A3 (c:=TJ) (nt:=20) (rs:=[.tmp 2]) rfl (by simp)];unfold TJ K0;rcases H with⟨_,rfl,rfl⟩|⟨rfl,rfl⟩
 . simp_all [XP]
 simp_all [XP]
end
theorem map_inj{X:Type}{F:X->AV}(B:∀x y,F x=F y->x=y):∀{l m:List X},l.map F=m.map F->l=m
 |[],[],_=>rfl
 |[],_::_,h=>by cases h
 |_::_,[],h=>by cases h
 |x::l,y::m,h=>by
  injection h with h1 h2
  rw[B _ _ h1,map_inj B h2]
def d9:=X6 (fun l:List Ins=>[fslN (l.map Ins.F)]) (fun l=>[ownd 0 8 (l.map Ins.O)]) (fun l=>(∀x∈l,x.ok)/\l.length*88<=bigN)
theorem Uc{l:List Ins}(h1:∀x∈l,x.ok)(h2:l.length*88<=bigN):d9 [fslN (l.map Ins.F)]=zs [ownd 0 8 (l.map Ins.O)]:=B6 (a:=fun l:List Ins=>[fslN (l.map Ins.F)]) (fun x y e=>by grind [map_inj, Ins.F_inj, fslN_inj]) l ⟨h1,h2⟩
def f7:=X6 (fun p:List Ins×List Ins=>[fslN (p.1.map Ins.F),fslN (p.2.map Ins.F)]) (fun p=>[.bool (decide (p.1=p.2))]) (fun p=>(∀x∈p.1,x.ok)/\p.1.length*88<=bigN)
theorem Ud{l m:List Ins}(h1:∀x∈l,x.ok)(h2:l.length*88<=bigN):f7 [fslN (l.map Ins.F),fslN (m.map Ins.F)]=zs [.bool (decide (l=m))]:=B6 (a:=fun p:List Ins×List Ins=>[fslN (p.1.map Ins.F),fslN (p.2.map Ins.F)]) (r:=fun p=>[.bool (decide (p.1=p.2))]) (by grind [Go.Proofs.AmEnv.map_inj, Go.Proofs.AmEnv.Ins.F_inj, Go.Proofs.AmEnv.fslN_inj]) (l,m) ⟨h1,h2⟩
theorem Ue(B:T 80=zs m7){x y:Ins}(h:x.ok){K:PK}:evP ⟨env,T,A0⟩ (.call 80 [x.F,y.F] K)=zs (.val [.bool (decide (x=y))] ⟨K.os++[],K.ext,K.tch⟩):=B4 B (by show consO (viewA _ x.F) (consO (viewA _ y.F) (zs []))=_;rw[Ins.viewF,Ins.viewF];rfl) (Xo h) (by
 simp_all [XP])
section
variable {l m:List Ins}{i:Nat}
theorem KX(D:T 80=zs m7)(hl:i<l.length)(H:i<m.length)(I:l[i].ok)(J:l.length*88<=bigN)(N:l[i]=m[i]):
 evP ⟨env,T,A0⟩ (.code Pu [(0,fslN (l.map Ins.F)),(1,fslN (m.map Ins.F)),(5,.int .i64 i)] ⟨[],0,[]⟩)=zs (.ok .normal [(0,fslN (l.map Ins.F)),(1,fslN (m.map Ins.F)),(5,.int .i64 ((i+1:Nat):Int))] ⟨[],0,[]⟩):=by
 unfold Pu;have B:decide ((i:Int)<((l.map Ins.F).length:Int))=zt:=by simp[hl]
 have h1:=A5 (F:=Ins.F) hl;have h2:=A5 (F:=Ins.F) H;have Q:=A1 (i:=i) (by grind);have C:=fun K=>Ue (K:=K) D (y:=m[i]) I
 simp_all [Ins.F, XP]
theorem KY(D:T 80=zs m7)(hl:i<l.length)(H:i<m.length)(I:l[i].ok)(J:¬l[i]=m[i]):
 ∃fr',evP ⟨env,T,A0⟩ (.code Pu [(0,fslN (l.map Ins.F)),(1,fslN (m.map Ins.F)),(5,.int .i64 i)] ⟨[],0,[]⟩)=zs (.ok .ret fr' ⟨[],0,[]⟩)/\lookP fr' 4=.bool zf:=by
 unfold Pu;have B:decide ((i:Int)<((l.map Ins.F).length:Int))=zt:=by simp[hl]
 have h1:=A5 (F:=Ins.F) hl;have h2:=A5 (F:=Ins.F) H;have C:=fun K=>Ue (K:=K) D (y:=m[i]) I
 rw[D4 J]at C;simp only[Ins.F]at C h1 h2;simp only[B,h1,h2,C,u_not,XP,seval];exact⟨_,rfl,rfl⟩
theorem KZ:∃fr',evP ⟨env,T,A0⟩ (.code Pu [(0,fslN (l.map Ins.F)),(1,fslN (m.map Ins.F)),(5,.int .i64 l.length)] ⟨[],0,[]⟩)=zs (.ok (.exit 0) fr' ⟨[],0,[]⟩):=by
 unfold Pu;have B:decide ((l.length:Int)<((l.map Ins.F).length:Int))=zf:=by simp
 simp only[B,XP,seval];grind
theorem Nf(D:T 80=zs m7)(H:∀x∈l,x.ok)(I:l.length*88<=bigN):AM.Comes ⟨env,T,A0⟩ 70 [fslN (l.map Ins.F),fslN (m.map Ins.F)] [.bool (decide (l=m))]:=by
 refine⟨[.bool (decide (l=m))],⟨[],0,[]⟩,?_,A9 rfl zqb rfl rfl rfl⟩;rw[A3 (c:=TV) (nt:=27) (rs:=[.tmp 4]) rfl (by simp)];unfold TV K0;by_cases C:l.length=m.length
 . have hn:(!decide (((l.map Ins.F).length:Int)=((m.map Ins.F).length:Int)))=zf:=by simp[C]
   rcases same_loop (P:=⟨env,T,A0⟩) (c:=Pu) (A:=fslN (l.map Ins.F)) (B:=fslN (m.map Ins.F)) C (by grind [Go.Proofs.AmEnv.KX]) (fun i h h' e=>KY D h h' (H _ (zqc h)) e) KZ with⟨h1,fr',h2⟩|⟨h1,fr',h2,J⟩
   . simp_all [XP]
   simp_all [XP]
 . have hn:(!decide (((l.map Ins.F).length:Int)=((m.map Ins.F).length:Int)))=zt:=by simp;omega
   have h1:¬l=m:=fun h=>C (by rw[h])
   simp_all [XP]
end
structure Endd where
 kind:Int
 a:Int
 to:Int
 els:Int
deriving DecidableEq
structure Blk where
 code:List Ins
 e:Endd
deriving DecidableEq
def Endd.F(e:Endd):AV:=.agg [.int .i64 e.kind,.int .i64 e.a,.int .i64 e.to,.int .i64 e.els]
def Blk.F(x:Blk):AV:=.agg [fslN (x.code.map Ins.F),.int .i64 x.e.kind,.int .i64 x.e.a,.int .i64 x.e.to,.int .i64 x.e.els]
def Blk.O(x:Blk):AV:=.agg [ownd 0 8 (x.code.map Ins.O),.int .i64 x.e.kind,.int .i64 x.e.a,.int .i64 x.e.to,.int .i64 x.e.els]
def Blk.ok(x:Blk):Prop:=(∀y∈x.code,y.ok)/\x.code.length*88<=bigN
theorem Blk.F_inj{x y:Blk}(h:x.F=y.F):x=y:=by
 obtain⟨c,e⟩:=x;obtain⟨c',e'⟩:=y;cases e;cases e';simp only[Blk.F,AV.agg.injEq,List.cons.injEq,AV.int.injEq,true_and,and_true]at h;obtain⟨h,rfl,rfl,rfl,rfl⟩:=h;grind [map_inj, Ins.F_inj, fslN_inj]
theorem frzL_insF(l:List Ins):frzL (l.map Ins.F)=zs (l.map Ins.F):=o9 Ins.frzF l
theorem qS(l:List Ins):frzL (l.map Ins.O)=zs (l.map Ins.F):=o9 Ins.frzO l
theorem Ew{X:Type}{O:X->AV}(h:∀x,noF (O x)=zt):∀l:List X,noFL (l.map O)=zt
 |[]=>rfl
 |x::l=>by show(noF (O x)&&noFL (l.map O))=zt;rw[h,Ew h l];rfl
theorem Ins.noF(x:Ins):noF x.O=zt:=by
 simp_all [Ins.O, XP, noFL_ints]
theorem noFL_insO(l:List Ins):noFL (l.map Ins.O)=zt:=Ew Ins.noF l
theorem Blk.frzF(x:Blk):frzC x.F=zs x.F:=by
 simp_all [Blk.F, XP, frzL_insF]
theorem Blk.frzO(x:Blk):frzC x.O=zs x.F:=by
 simp_all [Blk.F, Blk.O, XP, qS]
theorem Blk.noF(x:Blk):noF x.O=zt:=by
 simp_all [Blk.O, XP, noFL_insO]
theorem Pv(B:T 58=zs d9){l:List Ins}(h1:∀x∈l,x.ok)(h2:l.length*88<=bigN){K:PK}:evP ⟨env,T,A0⟩ (.call 58 [fslN (l.map Ins.F)] K)=zs (.val (openTs K.os.length [ownd 0 8 (l.map Ins.O)]).1 ⟨K.os++(openTs K.os.length [ownd 0 8 (l.map Ins.O)]).2,K.ext,K.tch⟩):=B4 B (by show consO (eD (frzL (l.map Ins.F))) (zs [])=_;rw[frzL_insF];rfl) (Uc h1 h2) (by simp_all [XP])
section
variable {l:List Blk}{i:Nat}
theorem LB(I:T 58=zs d9)(hl:i<l.length)(C:l[i].ok)(D:l.length*56<=bigN):
 evP ⟨env,T,A0⟩ (.code Pr [(0,fslN (l.map Blk.F)),(3,.msl 0 0 i 5),(4,.int .i64 i)] ⟨[.row 0 ((l.take i).map Blk.O) 5],0,[]⟩)=zs (.ok .normal [(0,fslN (l.map Blk.F)),(3,.msl 0 0 (i+1) 5),(4,.int .i64 ((i+1:Nat):Int))] ⟨[.row 0 ((l.take (i+1)).map Blk.O) 5],0,[]⟩):=by
 unfold Pr;have B:decide ((i:Int)<((l.map Blk.F).length:Int))=zt:=by simp[hl]
 have hi:=A5 (F:=Blk.F) hl;have J:((l.take i).map Blk.O).length=i:=by simp;omega
 have N:=A1 (i:=i) (by grind);have hz:(i+1)*56<=140737488355328:=by grind
 have Q:=fun K=>Pv (K:=K) I C.1 C.2
 have H:=r9 (F:=Blk.O) hl;simp only[Blk.F]at hi;simp only[Blk.O]at H;simp only[B,hi,J,N,hz,Blk.O,Q,H,XP,seval]
theorem LC(H:T 58=zs d9)(hl:0<l.length)(D:l[0].ok)(hs:l.length*56<=bigN):
 evP ⟨env,T,A0⟩ (.code Pr [(0,fslN (l.map Blk.F)),(3,.nilsl),(4,.int .i64 0)] ⟨[],0,[]⟩)=zs (.ok .normal [(0,fslN (l.map Blk.F)),(3,.msl 0 0 1 5),(4,.int .i64 ((1:Nat):Int))] ⟨[.row 0 ((l.take 1).map Blk.O) 5],0,[]⟩):=by
 unfold Pr;have C:decide ((0:Int)<((l.map Blk.F).length:Int))=zt:=by simp[hl]
 have hi:=A5 (F:=Blk.F) hl;have hi:=ix_fslN (te:=Db) (k:=.i64) (i:=0) hi rfl;have hi:Xc Db (fslN (l.map Blk.F)) (.int .i64 0)=zs (.fptr (Blk.F l[0]) 0):=hi;have I:=fun K=>Pv (K:=K) H D.1 D.2
 have B:=r9 (F:=Blk.O) hl;rw[zqt]at B;have B:[Blk.O l[0]]=(l.take 1).map Blk.O:=B;simp only[Blk.F]at hi;rw[<-B];simp only[C,hi,Blk.O,I,show IntKind.i64.wrap (0+1)=((1:Nat):Int)from rfl,XP,Nat.reduceAdd,Nat.reduceSub,Nat.reduceLT,Nat.reduceLeDiff,Nat.reduceEqDiff,Nat.reduceMul,↓reduceIte]
theorem LD{y:AV}{K:PK}:∃fr',evP ⟨env,T,A0⟩ (.code Pr [(0,fslN (l.map Blk.F)),(3,y),(4,.int .i64 l.length)] K)=zs (.ok (.exit 0) fr' K)/\lookP fr' 3=y:=by
 unfold Pr;have B:decide ((l.length:Int)<((l.map Blk.F).length:Int))=zf:=by simp
 simp only[B,XP,seval];exact⟨_,rfl,rfl⟩
theorem Ng(B:T 58=zs d9)(C:∀x∈l,x.ok)(D:l.length*56<=bigN):AM.Comes ⟨env,T,A0⟩ 46 [fslN (l.map Blk.F)] [ownd 0 5 (l.map Blk.O)]:=by
 obtain⟨fr',y,os,h1,h2,H⟩:=Gx (P:=⟨env,T,A0⟩) (c:=Pr) (A:=fslN (l.map Blk.F)) (O:=Blk.O) (sz:=5) (l:=l) (fun h=>LC B h (C _ (zqc h)) D) (fun i h=>LB B h (C _ (zqc h)) D) (fun y K=>LD);refine⟨[y],⟨os,0,[]⟩,?_,C6 H⟩;rw[A3 (c:=ST) (nt:=27) (rs:=[.tmp 2]) rfl (by simp)];unfold ST K0;rcases H with⟨_,rfl,rfl⟩|⟨rfl,rfl⟩
 . simp_all [XP]
 simp_all [XP]
theorem cD{e e':Endd}{K:PK}:V4 env .eql 39 (.agg [.int .i64 e.kind,.int .i64 e.a,.int .i64 e.to,.int .i64 e.els]) (.agg [.int .i64 e'.kind,.int .i64 e'.a,.int .i64 e'.to,.int .i64 e'.els]) K=.val (.bool (decide (e=e'))) K:=by
 have h:∀a b:Int,jG (.int .i64 a) (.int .i64 b)=zs (decide (a=b)):=fun a b=>by
  show zs (intEq a b)=_
  rw[Bx];by_cases e:a=b<;>simp[e]
 rw[bp _ _ rfl rfl];show Gq (A6 (N9 (jG (.int .i64 e.kind) (.int .i64 e'.kind)) zn (N9 (jG (.int .i64 e.a) (.int .i64 e'.a)) zn (N9 (jG (.int .i64 e.to) (.int .i64 e'.to)) zn (N9 (jG (.int .i64 e.els) (.int .i64 e'.els)) zn (zs zt) (zs zf)) (zs zf)) (zs zf)) (zs zf)) E9) K=_
 simp only[h];obtain⟨a,b,c,d⟩:=e;obtain⟨B,C,D,H⟩:=e';simp only[Endd.mk.injEq];by_cases h1:a=B
 . by_cases h2:b=C
   . by_cases I:c=D
     . by_cases J:d=H
       . rw[B8 h1,B8 h2,B8 I,B8 J,B8 (p:=a=B/\b=C/\c=D/\d=H) ⟨h1,h2,I,J⟩];rfl
       . rw[B8 h1,B8 h2,B8 I,D4 J,D4 (p:=a=B/\b=C/\c=D/\d=H) (fun h=>J h.2.2.2)];rfl
     . rw[B8 h1,B8 h2,D4 I,D4 (p:=a=B/\b=C/\c=D/\d=H) (fun h=>I h.2.2.1)];rfl
   . rw[B8 h1,D4 h2,D4 (p:=a=B/\b=C/\c=D/\d=H) (fun h=>h2 h.2.1)];rfl
 . rw[D4 h1,D4 (p:=a=B/\b=C/\c=D/\d=H) (fun h=>h1 h.1)];rfl
end
def Be:=X6 (fun l:List Blk=>[fslN (l.map Blk.F)]) (fun l=>[ownd 0 5 (l.map Blk.O)]) (fun l=>(∀x∈l,x.ok)/\l.length*56<=bigN)
theorem Uf{l:List Blk}(h1:∀x∈l,x.ok)(h2:l.length*56<=bigN):Be [fslN (l.map Blk.F)]=zs [ownd 0 5 (l.map Blk.O)]:=B6 (a:=fun l:List Blk=>[fslN (l.map Blk.F)]) (fun x y e=>by grind [map_inj, Blk.F_inj, fslN_inj]) l ⟨h1,h2⟩
def Bf:=X6 (fun p:List Blk×List Blk=>[fslN (p.1.map Blk.F),fslN (p.2.map Blk.F)]) (fun p=>[.bool (decide (p.1=p.2))]) (fun p=>(∀x∈p.1,x.ok)/\p.1.length*56<=bigN)
theorem Ug{l m:List Blk}(h1:∀x∈l,x.ok)(h2:l.length*56<=bigN):Bf [fslN (l.map Blk.F),fslN (m.map Blk.F)]=zs [.bool (decide (l=m))]:=B6 (a:=fun p:List Blk×List Blk=>[fslN (p.1.map Blk.F),fslN (p.2.map Blk.F)]) (r:=fun p=>[.bool (decide (p.1=p.2))]) (by grind [Go.Proofs.AmEnv.map_inj, Go.Proofs.AmEnv.Blk.F_inj, Go.Proofs.AmEnv.fslN_inj]) (l,m) ⟨h1,h2⟩
theorem Pw(B:T 70=zs f7){l m:List Ins}(h1:∀x∈l,x.ok)(h2:l.length*88<=bigN){K:PK}:evP ⟨env,T,A0⟩ (.call 70 [fslN (l.map Ins.F),fslN (m.map Ins.F)] K)=zs (.val [.bool (decide (l=m))] ⟨K.os++[],K.ext,K.tch⟩):=B4 B (by show consO (eD (frzL (l.map Ins.F))) (consO (eD (frzL (m.map Ins.F))) (zs []))=_;rw[frzL_insF,frzL_insF];rfl) (Ud h1 h2) (by simp only[XP,seval])
section
variable {l m:List Blk}{i:Nat}
theorem LF(I:T 70=zs f7)(hl:i<l.length)(J:i<m.length)(C:l[i].ok)(N:l.length*56<=bigN)(D:l[i]=m[i]):
 evP ⟨env,T,A0⟩ (.code Pt [(0,fslN (l.map Blk.F)),(1,fslN (m.map Blk.F)),(5,.int .i64 i)] ⟨[],0,[]⟩)=zs (.ok .normal [(0,fslN (l.map Blk.F)),(1,fslN (m.map Blk.F)),(5,.int .i64 ((i+1:Nat):Int))] ⟨[],0,[]⟩):=by
 unfold Pt;have B:decide ((i:Int)<((l.map Blk.F).length:Int))=zt:=by simp[hl]
 have h1:=A5 (F:=Blk.F) hl;have h2:=A5 (F:=Blk.F) J;have Q:=A1 (i:=i) (by grind);have H:=fun K=>Pw (K:=K) I (m:=m[i].code) C.1 C.2
 simp_all [Blk.F, XP, cD]
theorem LG(H:T 70=zs f7)(hl:i<l.length)(I:i<m.length)(C:l[i].ok)(J:¬l[i]=m[i]):
 ∃fr',evP ⟨env,T,A0⟩ (.code Pt [(0,fslN (l.map Blk.F)),(1,fslN (m.map Blk.F)),(5,.int .i64 i)] ⟨[],0,[]⟩)=zs (.ok .ret fr' ⟨[],0,[]⟩)/\lookP fr' 4=.bool zf:=by
 unfold Pt;have B:decide ((i:Int)<((l.map Blk.F).length:Int))=zt:=by simp[hl]
 have h1:=A5 (F:=Blk.F) hl;have h2:=A5 (F:=Blk.F) I;have D:=fun K=>Pw (K:=K) H (m:=m[i].code) C.1 C.2
 simp only[Blk.F]at h1 h2;by_cases e1:l[i].e=m[i].e
 . have e2:¬l[i].code=m[i].code:=fun h=>J (by cases N:l[i];simp_all)
   rw[D4 e2]at D;simp only[B,h1,h2,D,u_not,cD,B8 e1,XP,seval];exact⟨_,rfl,rfl⟩
 . simp only[B,h1,h2,u_not,cD,D4 e1,XP,seval]
   exact⟨_,rfl,rfl⟩
theorem LH:∃fr',evP ⟨env,T,A0⟩ (.code Pt [(0,fslN (l.map Blk.F)),(1,fslN (m.map Blk.F)),(5,.int .i64 l.length)] ⟨[],0,[]⟩)=zs (.ok (.exit 0) fr' ⟨[],0,[]⟩):=by
 unfold Pt;have B:decide ((l.length:Int)<((l.map Blk.F).length:Int))=zf:=by simp
 simp only[B,XP,seval];grind
theorem Nh(D:T 70=zs f7)(H:∀x∈l,x.ok)(I:l.length*56<=bigN):AM.Comes ⟨env,T,A0⟩ 60 [fslN (l.map Blk.F),fslN (m.map Blk.F)] [.bool (decide (l=m))]:=by
 refine⟨[.bool (decide (l=m))],⟨[],0,[]⟩,?_,A9 rfl zqb rfl rfl rfl⟩;rw[A3 (c:=TL) (nt:=42) (rs:=[.tmp 4]) rfl (by simp)];unfold TL K0;by_cases C:l.length=m.length
 . have hn:(!decide (((l.map Blk.F).length:Int)=((m.map Blk.F).length:Int)))=zf:=by simp[C]
   rcases same_loop (P:=⟨env,T,A0⟩) (c:=Pt) (A:=fslN (l.map Blk.F)) (B:=fslN (m.map Blk.F)) C (by grind [Go.Proofs.AmEnv.LF]) (fun i h h' e=>LG D h h' (H _ (zqc h)) e) LH with⟨h1,fr',h2⟩|⟨h1,fr',h2,J⟩
   . simp_all [XP]
   simp_all [XP]
 . have hn:(!decide (((l.map Blk.F).length:Int)=((m.map Blk.F).length:Int)))=zt:=by simp;omega
   have h1:¬l=m:=fun h=>C (by rw[h])
   simp_all [XP]
end
structure Cod where
 name:List UInt8
 ty:Int
 ps:Int
 regs:List Int
 blocks:List Blk
deriving DecidableEq
def Cod.F(x:Cod):AV:=.agg [.str x.name,.int .i64 x.ty,.int .i64 x.ps,fslN (ints x.regs),fslN (x.blocks.map Blk.F)]
def Cod.O(x:Cod):AV:=.agg [.str x.name,.int .i64 x.ty,.int .i64 x.ps,ownd 0 1 (ints x.regs),ownd 0 5 (x.blocks.map Blk.O)]
def Cod.cs(x:Cod)(u v:AV):List AV:=[.str x.name,.int .i64 x.ty,.int .i64 x.ps,u,v]
def Cod.ok(x:Cod):Prop:=x.regs.length*8<=bigN/\(∀y∈x.blocks,y.ok)/\x.blocks.length*56<=bigN
theorem Cod.F_inj{x y:Cod}(h:x.F=y.F):x=y:=by
 cases x;cases y;simp only[Cod.F,AV.agg.injEq,List.cons.injEq,AV.int.injEq,AV.str.injEq,true_and,and_true]at h;obtain⟨rfl,rfl,rfl,h1,h2⟩:=h;grind [fslN_inj, map_inj, Blk.F_inj]
theorem frzL_blkF(l:List Blk):frzL (l.map Blk.F)=zs (l.map Blk.F):=o9 Blk.frzF l
theorem qT(l:List Blk):frzL (l.map Blk.O)=zs (l.map Blk.F):=o9 Blk.frzO l
theorem noFL_blkO(l:List Blk):noFL (l.map Blk.O)=zt:=Ew Blk.noF l
theorem Cod.viewF{os:List PO}(x:Cod):viewA os x.F=zs x.F:=by
 simp_all [Cod.F, XP, frzL_blkF, frzL_ints]
theorem Cod.frzF(x:Cod):frzC x.F=zs x.F:=by
 simp_all [Cod.F, XP, frzL_blkF, frzL_ints]
theorem Cod.frzO(x:Cod):frzC x.O=zs x.F:=by
 simp_all [Cod.F, Cod.O, XP, qT, frzL_ints]
theorem Cod.noF(x:Cod):noF x.O=zt:=by
 simp_all [Cod.O, XP, noFL_blkO, noFL_ints]
theorem qU(B:T 45=zs F6){l:List Int}(h:l.length*8<=bigN){K:PK}:evP ⟨env,T,A0⟩ (.call 45 [fslN (ints l)] K)=zs (.val (openTs K.os.length [ownd 0 1 (ints l)]).1 ⟨K.os++(openTs K.os.length [ownd 0 1 (ints l)]).2,K.ext,K.tch⟩):=B4 B (by show consO (eD (frzL (ints l))) (zs [])=_;rw[frzL_ints];rfl) (v8 h) (by rfl)
theorem gE(B:T 46=zs Be){l:List Blk}(h1:∀x∈l,x.ok)(h2:l.length*56<=bigN){K:PK}:evP ⟨env,T,A0⟩ (.call 46 [fslN (l.map Blk.F)] K)=zs (.val (openTs K.os.length [ownd 0 5 (l.map Blk.O)]).1 ⟨K.os++(openTs K.os.length [ownd 0 5 (l.map Blk.O)]).2,K.ext,K.tch⟩):=B4 B (by show consO (eD (frzL (l.map Blk.F))) (zs [])=_;rw[frzL_blkF];rfl) (Uf h1 h2) (by simp_all [XP])
theorem qV(B:T 59=zs Cc){l m:List Int}(h:l.length*8<=bigN){K:PK}:evP ⟨env,T,A0⟩ (.call 59 [fslN (ints l),fslN (ints m)] K)=zs (.val [.bool (decide (l=m))] ⟨K.os++[],K.ext,K.tch⟩):=B4 B (by show consO (eD (frzL (ints l))) (consO (eD (frzL (ints m))) (zs []))=_;rw[frzL_ints,frzL_ints];rfl) (Kb h) (by rfl)
theorem gF(B:T 60=zs Bf){l m:List Blk}(h1:∀x∈l,x.ok)(h2:l.length*56<=bigN){K:PK}:evP ⟨env,T,A0⟩ (.call 60 [fslN (l.map Blk.F),fslN (m.map Blk.F)] K)=zs (.val [.bool (decide (l=m))] ⟨K.os++[],K.ext,K.tch⟩):=B4 B (by show consO (eD (frzL (l.map Blk.F))) (consO (eD (frzL (m.map Blk.F))) (zs []))=_;rw[frzL_blkF,frzL_blkF];rfl) (Ug h1 h2) (by simp only[XP,seval])
theorem Uh(B:T 45=zs F6)(C:T 46=zs Be){x:Cod}(h:x.ok):AM.Comes ⟨env,T,A0⟩ 29 [x.F] [x.O]:=by
 refine⟨[.agg (x.cs (.msl 1 0 (ints x.regs).length 1) (.msl 2 0 (x.blocks.map Blk.O).length 5))],⟨[.row 1 [.agg (x.cs (.msl 1 0 (ints x.regs).length 1) (.msl 2 0 (x.blocks.map Blk.O).length 5))] 5,.row 0 (ints x.regs) 1,.row 0 (x.blocks.map Blk.O) 5],0,[]⟩,?_,?_⟩
 . rw[A3 (c:=SH) (nt:=12) (rs:=[.cell 2 36]) rfl (by simp)]
   unfold SH K0;have D:=fun K=>qU (K:=K) B h.1
   have H:=fun K=>gE (K:=K) C h.2.1 h.2.2
   simp_all [Cod.F, Cod.cs, XP]
 . refine A9 (vs':=[.agg (x.cs (.msl 1 0 (ints x.regs).length 1) (.msl 2 0 (x.blocks.map Blk.O).length 5))]) (os':=[.row 1 [.agg (x.cs (.msl 1 0 (ints x.regs).length 1) (.msl 2 0 (x.blocks.map Blk.O).length 5))] 5,.row 0 (ints x.regs) 1,.row 0 (x.blocks.map Blk.O) 5]) ?_ ?_ (us:=[.agg (x.cs (.msl 0 0 (ints x.regs).length 1) (.msl 1 0 (x.blocks.map Blk.O).length 5))]) (ps:=[.row 0 (ints x.regs) 1,.row 0 (x.blocks.map Blk.O) 5]) ?_ ?_ ?_
   all_goals simp only[Cod.cs,Cod.O,XP,seval]
theorem Ui(H:T 59=zs Cc)(I:T 60=zs Bf){x y:Cod}(h:x.ok):AM.Comes ⟨env,T,A0⟩ 47 [x.F,y.F] [.bool (decide (x=y))]:=by
 refine⟨[.bool (decide (x=y))],⟨[],0,[]⟩,?_,A9 rfl zqb rfl rfl rfl⟩;rw[A3 (c:=SU) (nt:=38) (rs:=[.tmp 4]) rfl (by simp)];unfold SU K0;have C:=fun K=>qV (K:=K) H (m:=y.regs) h.1
 have J:=fun K=>gF (K:=K) I (m:=y.blocks) h.2.1 h.2.2
 have ext:x=y↔x.name=y.name/\x.ty=y.ty/\x.ps=y.ps/\x.regs=y.regs/\x.blocks=y.blocks:=by
  cases x;cases y;simp
 by_cases h1:x.name=y.name
 . by_cases h2:x.ty=y.ty
   . by_cases B:x.ps=y.ps
     . by_cases D:x.regs=y.regs
       . have e:decide (x=y)=decide (x.blocks=y.blocks):=by grind
         simp_all [Cod.F, XP]
       . have e:decide (x=y)=zf:=D4 fun e=>D (ext.1 e).2.2.2.1
         simp_all [Cod.F, XP]
     . have e:decide (x=y)=zf:=D4 fun e=>B (ext.1 e).2.2.1
       simp_all [Cod.F, XP]
   . have e:decide (x=y)=zf:=D4 fun e=>h2 (ext.1 e).2.1
     simp_all [Cod.F, XP]
 . have e:decide (x=y)=zf:=D4 fun e=>h1 (ext.1 e).1
   simp_all [Cod.F, XP]
def gG(n:Int):Int:=IntKind.i64.wrap (7001+IntKind.i64.wrap (13*n))
theorem Uj{n:Int}:AM.Comes ⟨env,T,A0⟩ 61 [.int .i64 n] [.int .i64 (gG n)]:=by
 refine⟨[.int .i64 (gG n)],⟨[],0,[]⟩,?_,A9 rfl zqb rfl rfl rfl⟩;rw[A3 (c:=TM) (nt:=6) (rs:=[.tmp 2]) rfl (by simp)];simp_all [TM, K0, gG, XP]
def M9:=X6 (fun n:Int=>[.int .i64 n]) (fun n=>[.int .i64 (gG n)]) (fun _=>True)
theorem qW(B:T 61=zs M9)(n:Int){K:PK}:evP ⟨env,T,A0⟩ (.call 61 [.int .i64 n] K)=zs (.val [.int .i64 (gG n)] ⟨K.os++[],K.ext,K.tch⟩):=B4 B rfl (B6 (a:=fun n:Int=>[AV.int .i64 n]) (by grind) n trivial) (by rfl)
section
variable {put:List AV->List PO}{id:Nat}{es:List AV}{fr:PF}{ext i:Nat}{tch:List Nat}
theorem LI(H:T 61=zs M9)(L:Lens put id 1){l:List Int}(h0:lookP fr 0=.msl id 0 l.length 1)(h2:lookP fr 2=.int .i64 (i:Int))(hl:i<l.length)(I:l.length*8<=bigN):
 ∃fr' x B,evP ⟨env,T,A0⟩ (.code Zp fr ⟨put (ints l),ext,tch⟩)=zs (.ok .normal fr' ⟨put (ints (l.set i x)),ext,B⟩)/\lookP fr' 0=.msl id 0 l.length 1/\lookP fr' 2=.int .i64 ((i+1:Nat):Int):=by
 unfold Zp;have C:decide ((i:Int)<(l.length:Int))=zt:=by simp[hl]
 have J:=fun n K=>qW (K:=K) H n
 have hi:=I1 hl;have N:=A1 (i:=i) (by grind);have D:∀x,(ints l).set i (.int .i64 x)=ints (l.set i x):=fun x=>by simp_all
 simp only[h0,h2,C,J,hl,hi,N,D,L.row,L.set,L.raw,XP,seval];refine⟨_,_,_,rfl,?_,?_⟩
 . simp_all [XP]
 simp_all [XP]
theorem LJ{l:List Int}{K:PK}(h0:lookP fr 0=.msl id 0 l.length 1)(h2:lookP fr 2=.int .i64 (l.length:Int)):
 ∃fr',evP ⟨env,T,A0⟩ (.code Zp fr K)=zs (.ok (.exit 0) fr' K):=by
 unfold Zp;have B:decide ((l.length:Int)<(l.length:Int))=zf:=by simp
 simp only[h0,h2,B,XP,seval];grind
theorem DI(I:T 61=zs M9)(L:Lens put id 1):∀(n i:Nat)(l:List Int)(fr:PF)(tch:List Nat),l.length=i+n->l.length*8<=bigN->lookP fr 0=.msl id 0 l.length 1->lookP fr 2=.int .i64 (i:Int) ->
 ∃fr' D B,evP ⟨env,T,A0⟩ (.code (.loop Zp) fr ⟨put (ints l),ext,tch⟩)=zs (.ok (.exit 0) fr' ⟨put (ints D),ext,B⟩)/\D.length=l.length
 |0,i,l,fr,tch,e,hs,h0,h2=>by
  obtain rfl:i=l.length:=by omega
  obtain⟨fr',h⟩:=LJ (T:=T) (K:=⟨put (ints l),ext,tch⟩) h0 h2;exact⟨fr',l,tch,loop_exit h,rfl⟩
 |n+1,i,l,fr,tch,e,hs,h0,h2=>by
  obtain⟨H,x,C,J,N,Q⟩:=LI (ext:=ext) (tch:=tch) I L h0 h2 (by omega) hs;obtain⟨fr',D,B,U,V⟩:=DI I L n (i+1) (l.set i x) H C (by simp;omega) (by grind) (by grind) Q;grind [loop_more]
theorem Ey(D:T 61=zs M9)(H:T 48=zn)(L:Lens put id 1){l:List Int}(I:l.length*8<=bigN):
 ∃C B,evP ⟨env,T,A0⟩ (.call 48 [.msl id 0 l.length 1] ⟨put (ints l),ext,tch⟩)=zs (.val [] ⟨put (ints C),ext,B⟩)/\C.length=l.length:=by
 obtain⟨fr',C,B,J,N⟩:=DI (T:=T) (ext:=(put (ints l)).length) D L l.length 0 l [(2,.int .i64 0),(0,.msl id 0 l.length 1)] [] (by omega) I (by simp_all [XP]) (by simp_all [XP]);refine⟨C,B++tch,?_,N⟩;rw[u6 H rfl,A3 (c:=SV) (nt:=15) (rs:=[]) rfl (by simp)];simp_all [SV, XP]
end
section
variable {l:List Int}
theorem Rr{t:Nat}{K:PK}(h:O2 env t=.slc):V4 env .eql t .nilsl .nilsl K=.val (.bool zt) K:=by rw[bp _ _ rfl rfl,h];rfl
theorem Rs{t:Nat}{K:PK}(h:O2 env t=.slc):V4 env .eql t (.fsl [] zf) .nilsl K=.val (.bool zf) K:=by rw[bp _ _ rfl rfl,h];rfl
theorem Kc{t:Nat}{K:PK}{e:AV}{es:List AV}(h:O2 env t=.slc):V4 env .eql t (fslN (e::es)) .nilsl K=.val (.bool zf) K:=by rw[bp _ _ rfl rfl,h];rfl
theorem cE(n:Nat):J4 n []=zt:=rfl
theorem qX:AM.Comes ⟨env,T,A0⟩ 41 [.nilsl] [ownd 0 1 (ints [])]:=by
 refine⟨[.nilsl],⟨[],0,[]⟩,?_,C6 (.inl ⟨rfl,rfl,rfl⟩)⟩;rw[A3 (c:=CO) (nt:=8) (rs:=[.tmp 2]) rfl (by simp)];unfold CO K0;simp only[Rr (t:=33) rfl,XP,seval]
theorem qY:AM.Comes ⟨env,T,A0⟩ 41 [.fsl [] zf] [ownd 0 1 (ints [])]:=by
 refine⟨[.msl 0 0 0 1],⟨[.row 0 [] 1],0,[]⟩,?_,C6 (.inr ⟨rfl,rfl⟩)⟩;rw[A3 (c:=CO) (nt:=8) (rs:=[.tmp 2]) rfl (by simp)];unfold CO K0;simp only[Rs (t:=33) rfl,cE,XP,seval]
theorem nJ:∀l:List Int,J4 1 (ints l)=zt
 |[]=>rfl
 |x::l=>nJ l
theorem kO{x:Int}{l:List Int}(D:(x::l).length*8<=bigN):AM.Comes ⟨env,T,A0⟩ 41 [fslN (ints (x::l))] [ownd 0 1 (ints (x::l))]:=by
 refine⟨[.msl 0 0 (ints (x::l)).length 1],⟨[.row 0 (ints (x::l)) 1],0,[]⟩,?_,C6 (.inr ⟨rfl,rfl⟩)⟩;rw[A3 (c:=CO) (nt:=8) (rs:=[.tmp 2]) rfl (by simp)];unfold CO K0;have h1:∀K:PK,V4 env .eql 33 (fslN (ints (x::l))) .nilsl K=.val (.bool zf) K:=fun K=>Kc (t:=33) rfl
 have h2:=nJ (x::l);have B:(ints (x::l)).isEmpty=zf:=rfl;simp_all [XP]
theorem uW{P:PE}(B:PEok P)(C:P=⟨env,T,A0⟩):TC P.E 41 F6:=by
 subst C;refine eB B (fun a args rs hg D ha=>?_) (by simp_all [F6, X6]);obtain⟨l,h1,h2,rfl⟩:=Mi hg;injection h2 with h2 H
 subst h2 H;cases l with
 |nil=>
  rcases zqu.1 ha with rfl|ha
  . exact qX
  . obtain rfl:=zqm.1 ha;exact qY
 |cons x l=>
  obtain rfl:=zqm.1 (show D∈[fslN (ints (x::l))]from ha);exact kO h1
end
section
theorem kP:AM.Comes ⟨env,T,A0⟩ 43 [.nilsl] [ownd 0 8 (([]:List Ins).map Ins.F)]:=by
 refine⟨[.nilsl],⟨[],0,[]⟩,?_,C6 (.inl ⟨rfl,rfl,rfl⟩)⟩;rw[A3 (c:=CQ) (nt:=8) (rs:=[.tmp 2]) rfl (by simp)];unfold CQ K0;simp only[Rr (t:=37) rfl,XP,seval]
theorem kQ:AM.Comes ⟨env,T,A0⟩ 43 [.fsl [] zf] [ownd 0 8 (([]:List Ins).map Ins.F)]:=by
 refine⟨[.msl 0 0 0 8],⟨[.row 0 [] 8],0,[]⟩,?_,C6 (.inr ⟨rfl,rfl⟩)⟩;rw[A3 (c:=CQ) (nt:=8) (rs:=[.tmp 2]) rfl (by simp)];unfold CQ K0;simp only[Rs (t:=37) rfl,cE,XP,seval]
theorem LK:∀l:List Ins,J4 8 (l.map Ins.F)=zt
 |[]=>rfl
 |x::l=>LK l
theorem gH{x:Ins}{l:List Ins}(D:(x::l).length*88<=bigN):AM.Comes ⟨env,T,A0⟩ 43 [fslN ((x::l).map Ins.F)] [ownd 0 8 ((x::l).map Ins.F)]:=by
 refine⟨[.msl 0 0 ((x::l).map Ins.F).length 8],⟨[.row 0 ((x::l).map Ins.F) 8],0,[]⟩,?_,C6 (.inr ⟨rfl,rfl⟩)⟩;rw[A3 (c:=CQ) (nt:=8) (rs:=[.tmp 2]) rfl (by simp)];unfold CQ K0;have h1:∀K:PK,V4 env .eql 37 (fslN ((x::l).map Ins.F)) .nilsl K=.val (.bool zf) K:=fun K=>Kc (t:=37) rfl
 have h2:=LK (x::l);have B:((x::l).map Ins.F).isEmpty=zf:=rfl;simp_all [XP]
def w4:=X6 (fun l:List Ins=>[fslN (l.map Ins.F)]) (fun l=>[ownd 0 8 (l.map Ins.F)]) (fun l=>l.length*88<=bigN)
theorem qZ{P:PE}(B:PEok P)(C:P=⟨env,T,A0⟩):TC P.E 43 w4:=by
 subst C;refine eB B (fun a args rs hg D ha=>?_) (by simp_all [w4, X6]);obtain⟨l,h1,h2,rfl⟩:=Mi hg;injection h2 with h2 H
 subst h2 H;cases l with
 |nil=>
  rcases zqu.1 ha with rfl|ha
  . exact kP
  . obtain rfl:=zqm.1 ha;exact kQ
 |cons x l=>
  obtain rfl:=zqm.1 (show D∈[fslN ((x::l).map Ins.F)]from ha);exact gH h1
theorem kR:AM.Comes ⟨env,T,A0⟩ 42 [.nilsl] [ownd 0 5 (([]:List Blk).map Blk.F)]:=by
 refine⟨[.nilsl],⟨[],0,[]⟩,?_,C6 (.inl ⟨rfl,rfl,rfl⟩)⟩;rw[A3 (c:=CP) (nt:=8) (rs:=[.tmp 2]) rfl (by simp)];unfold CP K0;simp only[Rr (t:=34) rfl,XP,seval]
theorem kS:AM.Comes ⟨env,T,A0⟩ 42 [.fsl [] zf] [ownd 0 5 (([]:List Blk).map Blk.F)]:=by
 refine⟨[.msl 0 0 0 5],⟨[.row 0 [] 5],0,[]⟩,?_,C6 (.inr ⟨rfl,rfl⟩)⟩;rw[A3 (c:=CP) (nt:=8) (rs:=[.tmp 2]) rfl (by simp)];unfold CP K0;simp only[Rs (t:=34) rfl,cE,XP,seval]
theorem LL:∀l:List Blk,J4 5 (l.map Blk.F)=zt
 |[]=>rfl
 |x::l=>LL l
theorem gI{x:Blk}{l:List Blk}(D:(x::l).length*56<=bigN):AM.Comes ⟨env,T,A0⟩ 42 [fslN ((x::l).map Blk.F)] [ownd 0 5 ((x::l).map Blk.F)]:=by
 refine⟨[.msl 0 0 ((x::l).map Blk.F).length 5],⟨[.row 0 ((x::l).map Blk.F) 5],0,[]⟩,?_,C6 (.inr ⟨rfl,rfl⟩)⟩;rw[A3 (c:=CP) (nt:=8) (rs:=[.tmp 2]) rfl (by simp)];unfold CP K0;have h1:∀K:PK,V4 env .eql 34 (fslN ((x::l).map Blk.F)) .nilsl K=.val (.bool zf) K:=fun K=>Kc (t:=34) rfl
 have h2:=LL (x::l);have B:((x::l).map Blk.F).isEmpty=zf:=rfl;simp_all [XP]
def Dc:=X6 (fun l:List Blk=>[fslN (l.map Blk.F)]) (fun l=>[ownd 0 5 (l.map Blk.F)]) (fun l=>l.length*56<=bigN)
theorem rA{P:PE}(B:PEok P)(C:P=⟨env,T,A0⟩):TC P.E 42 Dc:=by
 subst C;refine eB B (fun a args rs hg D ha=>?_) (by simp_all [Dc, X6]);obtain⟨l,h1,h2,rfl⟩:=Mi hg;injection h2 with h2 H
 subst h2 H;cases l with
 |nil=>
  rcases zqu.1 ha with rfl|ha
  . exact kR
  . obtain rfl:=zqm.1 ha;exact kS
 |cons x l=>
  obtain rfl:=zqm.1 (show D∈[fslN ((x::l).map Blk.F)]from ha);exact gI h1
end
def DJ(n:Int):List AV:=[.int .i64 (IntKind.i64.wrap (-9-n)),.int .i64 0,.int .i64 0,.int .i64 0,.int .i64 0,.int .i64 0,.str [],.nilsl]
def DK(n:Int):List AV:=[.nilsl,.int .i64 (IntKind.i64.wrap (-9-n)),.int .i64 0,.int .i64 0,.int .i64 0]
theorem Ni{n:Int}:AM.Comes ⟨env,T,A0⟩ 62 [.int .i64 n] [.agg (DJ n)]:=by
 refine⟨[.agg (DJ n)],⟨[.row 1 [.agg (DJ n)] 8],0,[]⟩,?_,?_⟩
 . rw[A3 (c:=TN) (nt:=6) (rs:=[.cell 2 65]) rfl (by simp)];simp_all [TN, K0, DJ, XP]
 . exact A9 rfl zqb rfl rfl rfl
theorem Nj{n:Int}:AM.Comes ⟨env,T,A0⟩ 63 [.int .i64 n] [.agg (DK n)]:=by
 refine⟨[.agg (DK n)],⟨[.row 1 [.agg (DK n)] 5],0,[]⟩,?_,?_⟩
 . rw[A3 (c:=TO) (nt:=7) (rs:=[.cell 2 41]) rfl (by simp)];simp_all [TO, K0, DK, XP]
 . exact A9 rfl zqb rfl rfl rfl
def K8:=X6 (fun n:Int=>[.int .i64 n]) (fun n=>[.agg (DJ n)]) (fun _=>True)
def O9:=X6 (fun n:Int=>[.int .i64 n]) (fun n=>[.agg (DK n)]) (fun _=>True)
theorem gJ(B:T 62=zs K8)(n:Int){K:PK}:evP ⟨env,T,A0⟩ (.call 62 [.int .i64 n] K)=zs (.val [.agg (DJ n)] ⟨K.os++[],K.ext,K.tch⟩):=B4 B rfl (B6 (a:=fun n:Int=>[AV.int .i64 n]) (by grind) n trivial) (by rfl)
theorem gK(B:T 63=zs O9)(n:Int){K:PK}:evP ⟨env,T,A0⟩ (.call 63 [.int .i64 n] K)=zs (.val [.agg (DK n)] ⟨K.os++[],K.ext,K.tch⟩):=B4 B rfl (B6 (a:=fun n:Int=>[AV.int .i64 n]) (by grind) n trivial) (by rfl)
def wide(sz:Nat)(es:List AV):Prop:=∀v∈es,∃cs,v=.agg cs/\cs.length=sz
theorem wide.get{sz:Nat}{es:List AV}(h:wide sz es){i:Nat}(hi:i<es.length):∃cs,es[i]?=zs (.agg cs)/\cs.length=sz:=by
 obtain⟨cs,h1,h2⟩:=h _ (zqc hi);grind
theorem wide.set{sz:Nat}{es:List AV}(h:wide sz es)(i:Nat){xs:List AV}(C:xs.length=sz):wide sz (es.set i (.agg xs)):=fun v B=>by
 rcases zqo B with B|rfl
 . exact h v B
 grind
section
variable {put:List AV->List PO}{id:Nat}{es:List AV}{fr:PF}{ext i:Nat}{tch:List Nat}
theorem LM(I:T 62=zs K8)(L:LensK put id 8)(J:wide 8 es)(h0:lookP fr 0=.msl id 0 es.length 8)(h2:lookP fr 2=.int .i64 (i:Int))(hl:i<es.length)(N:es.length<=bigN):
 ∃fr' xs B,evP ⟨env,T,A0⟩ (.code Zq fr ⟨put es,ext,tch⟩)=zs (.ok .normal fr' ⟨put (es.set i (.agg xs)),ext,B⟩)/\xs.length=8/\lookP fr' 0=.msl id 0 es.length 8/\lookP fr' 2=.int .i64 ((i+1:Nat):Int):=by
 unfold Zq;have C:decide ((i:Int)<(es.length:Int))=zt:=by simp[hl]
 have Q:=fun n K=>gJ (K:=K) I n
 have D:=A1 (i:=i) (by grind);obtain⟨as1,U,ha⟩:=J.get hl;have H:=fun n=>Sf (t:=t7) (ext:=ext) (tch:=tch) (xs:=DJ n) L U ha rfl rfl (by decide) rfl
 refine⟨?_,DJ (IntKind.i64.wrap ((i:Int)+7)),?_,?_,rfl,?_,?_⟩
 rotate_left 2
 . simp only[h0,h2,C,Q,hl,D,H,XQ,Nat.zero_add,seval]
   rfl
 . simp_all [XP]
 simp_all [XP]
theorem LN{K:PK}{n:Nat}(h0:lookP fr 0=.msl id 0 n 8)(h2:lookP fr 2=.int .i64 (n:Int)):∃fr',evP ⟨env,T,A0⟩ (.code Zq fr K)=zs (.ok (.exit 0) fr' K):=by
 unfold Zq;have B:decide ((n:Int)<(n:Int))=zf:=by simp
 simp only[h0,h2,B,XP,seval];grind
theorem DL(H:T 62=zs K8)(L:LensK put id 8):∀(n i:Nat)(es:List AV)(fr:PF)(tch:List Nat),es.length=i+n->es.length<=bigN->wide 8 es->lookP fr 0=.msl id 0 es.length 8->lookP fr 2=.int .i64 (i:Int) ->
 ∃fr' es' B,evP ⟨env,T,A0⟩ (.code (.loop Zq) fr ⟨put es,ext,tch⟩)=zs (.ok (.exit 0) fr' ⟨put es',ext,B⟩)/\es'.length=es.length
 |0,i,es,fr,tch,e,hs,hw,h0,h2=>by
  obtain rfl:i=es.length:=by omega
  obtain⟨fr',h⟩:=LN (T:=T) (K:=⟨put es,ext,tch⟩) h0 h2;exact⟨fr',es,tch,loop_exit h,rfl⟩
 |n+1,i,es,fr,tch,e,hs,hw,h0,h2=>by
  obtain⟨D,xs,C,I,J,N,Q⟩:=LM (ext:=ext) (tch:=tch) H L hw h0 h2 (by omega) hs;obtain⟨fr',es',B,U,V⟩:=DL H L n (i+1) (es.set i (.agg xs)) D C (by simp;omega) (by grind) (hw.set i J) (by grind) Q;grind [loop_more]
theorem Nk(C:T 62=zs K8)(D:T 49=zn)(L:LensK put id 8)(H:wide 8 es)(I:es.length<=bigN):
 ∃es' B,evP ⟨env,T,A0⟩ (.call 49 [.msl id 0 es.length 8] ⟨put es,ext,tch⟩)=zs (.val [] ⟨put es',ext,B⟩)/\es'.length=es.length:=by
 obtain⟨fr',J,B,N,Q⟩:=DL (T:=T) (ext:=(put es).length) C L es.length 0 es [(2,.int .i64 0),(0,.msl id 0 es.length 8)] [] (by omega) I H (by simp_all [XP]) (by simp_all [XP]);refine⟨J,B++tch,?_,Q⟩;rw[u6 D rfl];rw[A3 (c:=SW) (nt:=15) (rs:=[]) rfl (by simp)];simp_all [SW, XP]
theorem LO(I:T 63=zs O9)(L:LensK put id 5)(J:wide 5 es)(h0:lookP fr 0=.msl id 0 es.length 5)(h2:lookP fr 2=.int .i64 (i:Int))(hl:i<es.length)(N:es.length<=bigN):
 ∃fr' xs B,evP ⟨env,T,A0⟩ (.code Zr fr ⟨put es,ext,tch⟩)=zs (.ok .normal fr' ⟨put (es.set i (.agg xs)),ext,B⟩)/\xs.length=5/\lookP fr' 0=.msl id 0 es.length 5/\lookP fr' 2=.int .i64 ((i+1:Nat):Int):=by
 unfold Zr;have C:decide ((i:Int)<(es.length:Int))=zt:=by simp[hl]
 have Q:=fun n K=>gK (K:=K) I n
 have D:=A1 (i:=i) (by grind);obtain⟨as1,U,ha⟩:=J.get hl;have H:=fun n=>Sf (t:=Db) (ext:=ext) (tch:=tch) (xs:=DK n) L U ha rfl rfl (by decide) rfl
 refine⟨?_,DK (IntKind.i64.wrap ((i:Int)+7)),?_,?_,rfl,?_,?_⟩
 rotate_left 2
 . simp only[h0,h2,C,Q,hl,D,H,XQ,Nat.zero_add,seval]
   rfl
 . simp_all [XP]
 simp_all [XP]
theorem LP{K:PK}{n:Nat}(h0:lookP fr 0=.msl id 0 n 5)(h2:lookP fr 2=.int .i64 (n:Int)):∃fr',evP ⟨env,T,A0⟩ (.code Zr fr K)=zs (.ok (.exit 0) fr' K):=by
 unfold Zr;have B:decide ((n:Int)<(n:Int))=zf:=by simp
 simp only[h0,h2,B,XP,seval];grind
theorem DM(H:T 63=zs O9)(L:LensK put id 5):∀(n i:Nat)(es:List AV)(fr:PF)(tch:List Nat),es.length=i+n->es.length<=bigN->wide 5 es->lookP fr 0=.msl id 0 es.length 5->lookP fr 2=.int .i64 (i:Int) ->
 ∃fr' es' B,evP ⟨env,T,A0⟩ (.code (.loop Zr) fr ⟨put es,ext,tch⟩)=zs (.ok (.exit 0) fr' ⟨put es',ext,B⟩)/\es'.length=es.length
 |0,i,es,fr,tch,e,hs,hw,h0,h2=>by
  obtain rfl:i=es.length:=by omega
  obtain⟨fr',h⟩:=LP (T:=T) (K:=⟨put es,ext,tch⟩) h0 h2;exact⟨fr',es,tch,loop_exit h,rfl⟩
 |n+1,i,es,fr,tch,e,hs,hw,h0,h2=>by
  obtain⟨D,xs,C,I,J,N,Q⟩:=LO (ext:=ext) (tch:=tch) H L hw h0 h2 (by omega) hs;obtain⟨fr',es',B,U,V⟩:=DM H L n (i+1) (es.set i (.agg xs)) D C (by simp;omega) (by grind) (hw.set i J) (by grind) Q;grind [loop_more]
theorem Nl(C:T 63=zs O9)(D:T 50=zn)(L:LensK put id 5)(H:wide 5 es)(I:es.length<=bigN):
 ∃es' B,evP ⟨env,T,A0⟩ (.call 50 [.msl id 0 es.length 5] ⟨put es,ext,tch⟩)=zs (.val [] ⟨put es',ext,B⟩)/\es'.length=es.length:=by
 obtain⟨fr',J,B,N,Q⟩:=DM (T:=T) (ext:=(put es).length) C L es.length 0 es [(2,.int .i64 0),(0,.msl id 0 es.length 5)] [] (by omega) I H (by simp_all [XP]) (by simp_all [XP]);refine⟨J,B++tch,?_,Q⟩;rw[u6 D rfl];rw[A3 (c:=SX) (nt:=15) (rs:=[]) rfl (by simp)];simp_all [SX, XP]
end
section
variable {regs:List Int}{bs:List AV}{i k:Nat}{b:Blk}{x:Ins}{tch:List Nat}{cells:List AV}
theorem Kd{α:Type}{l:List α}{i:Nat}{v:α}(h:l[i]?=zs v):l.set i v=l:=by
 obtain⟨hi,rfl⟩:=List.getElem?_eq_some_iff.1 h;simp_all
theorem C4{α:Type}{l:List α}{i:Nat}{v:α}(h:i<l.length):(l.set i v)[i]?=zs v:=zka h
end
section
variable {regs:List Int}{bs:List AV}{i k:Nat}{b:Blk}{x:Ins}{tch:List Nat}{nm:List UInt8}{ty ps:Int}{nr nb:Nat}
theorem rB(l:List Ins):wide 8 (l.map Ins.O):=fun v B=>by
 obtain⟨x,_,rfl⟩:=List.mem_map.1 B;exact⟨_,rfl,rfl⟩
theorem rC(l:List Blk):wide 5 (l.map Blk.O):=fun v B=>by
 obtain⟨x,_,rfl⟩:=List.mem_map.1 B;exact⟨_,rfl,rfl⟩
end
structure Glo where
 name:List UInt8
 ty:Int
 size:Int
 at_:Int
deriving DecidableEq
structure Modl where
 gs:List Glo
 fs:List Cod
deriving DecidableEq
def Glo.F(g:Glo):AV:=.agg [.str g.name,.int .i64 g.ty,.int .i64 g.size,.int .i64 g.at_]
def Modl.F(m:Modl):AV:=.agg [fslN (m.gs.map Glo.F),fslN (m.fs.map Cod.F)]
def Modl.O(m:Modl):AV:=.agg [ownd 0 4 (m.gs.map Glo.F),ownd 0 5 (m.fs.map Cod.O)]
abbrev bools(l:List Bool):List AV:=l.map AV.bool
def chkF(m:Modl)(c:Cod):AV:=.agg [fslN (m.gs.map Glo.F),fslN (m.fs.map Cod.F),.str c.name,.int .i64 c.ty,.int .i64 c.ps,fslN (ints c.regs),fslN (c.blocks.map Blk.F)]
theorem Glo.F_inj{x y:Glo}(h:x.F=y.F):x=y:=by
 cases x;cases y;simp only[Glo.F,AV.agg.injEq,List.cons.injEq,AV.int.injEq,AV.str.injEq,true_and,and_true]at h;grind
theorem Endd.F_inj{x y:Endd}(h:x.F=y.F):x=y:=by
 cases x;cases y;simp only[Endd.F,AV.agg.injEq,List.cons.injEq,AV.int.injEq,true_and,and_true]at h;grind
theorem Modl.F_inj{x y:Modl}(h:x.F=y.F):x=y:=by
 cases x;cases y;simp only[Modl.F,AV.agg.injEq,List.cons.injEq,and_true]at h;grind [map_inj, Glo.F_inj, fslN_inj, Cod.F_inj]
theorem fslN_iff{l m:List AV}:fslN l=fslN m↔l=m:=⟨fslN_inj,fun h=>h▸rfl⟩
theorem ints_iff{l m:List Int}:l.map (AV.int .i64)=m.map (AV.int .i64)↔l=m:=⟨ints_inj,fun h=>h▸rfl⟩
theorem bools_iff{l m:List Bool}:l.map AV.bool=m.map AV.bool↔l=m:=⟨(by grind [Go.Proofs.AmEnv.map_inj]),fun h=>h▸rfl⟩
theorem Ins.F_iff{x y:Ins}:x.F=y.F↔x=y:=⟨Ins.F_inj,fun h=>h▸rfl⟩
theorem Cod.F_iff{x y:Cod}:x.F=y.F↔x=y:=⟨Cod.F_inj,fun h=>h▸rfl⟩
theorem Endd.F_iff{x y:Endd}:x.F=y.F↔x=y:=⟨Endd.F_inj,fun h=>h▸rfl⟩
theorem Modl.F_iff{x y:Modl}:x.F=y.F↔x=y:=⟨Modl.F_inj,fun h=>h▸rfl⟩
theorem insL_iff{l m:List Ins}:l.map Ins.F=m.map Ins.F↔l=m:=⟨map_inj fun _ _=>Ins.F_inj,fun h=>h▸rfl⟩
theorem blkL_iff{l m:List Blk}:l.map Blk.F=m.map Blk.F↔l=m:=⟨map_inj fun _ _=>Blk.F_inj,fun h=>h▸rfl⟩
theorem codL_iff{l m:List Cod}:l.map Cod.F=m.map Cod.F↔l=m:=⟨map_inj fun _ _=>Cod.F_inj,fun h=>h▸rfl⟩
theorem gloL_iff{l m:List Glo}:l.map Glo.F=m.map Glo.F↔l=m:=⟨map_inj fun _ _=>Glo.F_inj,fun h=>h▸rfl⟩
theorem Glo.frzF(x:Glo):frzC x.F=zs x.F:=by simp_all [Glo.F, XP]
theorem frzL_gloF(l:List Glo):frzL (l.map Glo.F)=zs (l.map Glo.F):=o9 Glo.frzF l
theorem frzL_codF(l:List Cod):frzL (l.map Cod.F)=zs (l.map Cod.F):=o9 Cod.frzF l
theorem rD(l:List Cod):frzL (l.map Cod.O)=zs (l.map Cod.F):=o9 Cod.frzO l
theorem frzL_bools(l:List Bool):frzL (l.map AV.bool)=zs (l.map AV.bool):=o9 (f:=AV.bool) (g:=AV.bool) (fun _=>rfl) l
theorem Endd.viewF{os:List PO}(x:Endd):viewA os x.F=zs x.F:=by simp_all [Endd.F, XP]
theorem Modl.viewF{os:List PO}(x:Modl):viewA os x.F=zs x.F:=by simp_all [Modl.F, XP, frzL_gloF, frzL_codF]
theorem chk_viewF{os:List PO}(m:Modl)(c:Cod):viewA os (chkF m c)=zs (chkF m c):=by simp_all [chkF, XP, frzL_gloF, frzL_codF, frzL_ints, frzL_blkF]
theorem chk_iff{m m':Modl}{c B:Cod}:chkF m c=chkF m' B↔m=m'/\c=B:=by
 constructor
 . intro h
   simp only[chkF,AV.agg.injEq,List.cons.injEq,AV.int.injEq,AV.str.injEq,and_true]at h;obtain⟨h1,h2,C,⟨_,D⟩,⟨_,H⟩,I,J⟩:=h;exact⟨Modl.F_inj (by grind [Modl.F]),Cod.F_inj (by grind [Cod.F])⟩
 grind
theorem noFL_bools(l:List Bool):noFL (bools l)=zt:=by
 induction l with
 |nil=>rfl
 |cons x l B=>exact B
theorem Glo.noF(x:Glo):noF x.F=zt:=by simp_all [Glo.F, XP]
theorem noFL_gloO(l:List Glo):noFL (l.map Glo.F)=zt:=Ew Glo.noF l
theorem noFL_codO(l:List Cod):noFL (l.map Cod.O)=zt:=Ew Cod.noF l
theorem Cod.okO(c:Cod):(c.O.cells.all fun c=>(ownOf c).isSome||clo c)=zt:=rfl
theorem Modl.okO(m:Modl):(m.O.cells.all fun c=>(ownOf c).isSome||clo c)=zt:=rfl
theorem Modl.noF(m:Modl):noF m.O=zt:=by simp_all [Modl.O, XP, noFL_gloO, noFL_codO]
def G6(n:Int):Bool:=decide (n=1)||decide (n=2)
def thereD(a n:Int):Bool:=decide (0<=a)&&decide (a<n)
def Hu(t:Int):Int:=if t=2 then 2 else 1
def Px(t v:Int):Int:=if t=3 then IntKind.wrap .i64 (IntKind.wrap .i8 v)else if t=1 then IntKind.wrap .i64 (IntKind.wrap .i32 v)else if t=2 then v else 0
def B3:List UInt8:=[109,97,105,110]
def VJ:=z0z @Int.ofNat_inj<|z0z @List.cons.injEq.{0}<|z0z @AV.int.injEq<|z0z @AV.str.injEq<|z0z @AV.bool.injEq<|z0z @AV.agg.injEq<|z0z @true_and<|z0z @and_true<|z0z @fslN_iff<|z0z @chk_iff<|z0z @Ins.F_iff<|z0z @Cod.F_iff<|z0z @Modl.F_iff<|z0z @Endd.F_iff<|z0z @ints_iff<|z0z @insL_iff<|z0z @blkL_iff<|z0z @codL_iff<|z0z @gloL_iff<|@bools_iff
def VV:=z0z @chk_viewF<|z0z @Ins.viewF<|z0z @Cod.viewF<|z0z @Modl.viewF<|z0z @Endd.viewF<|z0z @frzL_ints<|z0z @frzL_insF<|z0z @frzL_blkF<|z0z @frzL_codF<|z0z @frzL_gloF<|@frzL_bools
def VN:=z0z @Cod.okO<|z0z @Modl.okO<|z0z @Modl.noF<|z0z @noFL_ints<|z0z @noFL_insO<|z0z @noFL_blkO<|z0z @noFL_bools<|z0z @noFL_codO<|z0z @noFL_gloO<|z0z @Ins.noF<|z0z @Blk.noF<|@Cod.noF
theorem Qq  {n:Int}:AM.Comes ⟨env,T,A0⟩ 35 [.int .i64 n] [.bool (G6 n)]:=by
 refine⟨[.bool (G6 n)],⟨[],0,[]⟩,?_,A9 rfl zqb rfl rfl rfl⟩;rw[A3 (c:=SO) (nt:=9) (rs:=[.tmp 2]) rfl (by simp)];unfold SO;unfold K0;unfold G6;by_cases h1:n=1
 . simp_all [XP]
 simp_all [XP]
def Q6:=X6 (fun p:(Int)=>[.int .i64 p]) (fun p=>[.bool (G6 p)]) (fun p=>True)
theorem Ih(B:T 35=zs Q6){n:Int}{K:PK}:evP ⟨env,T,A0⟩ (.call 35 [.int .i64 n] K)=zs (.val (openTs K.os.length [.bool (G6 n)]).1 ⟨K.os++(openTs K.os.length [.bool (G6 n)]).2,K.ext,K.tch⟩):=B4 B (by simp_all [XP]) (B6 (a:=fun p:(Int)=>[.int .i64 p]) (r:=fun p=>[.bool (G6 p)]) (by grind) (n) trivial) (by simp_all [XP])
theorem cF  (B:PEok ⟨env,T,A0⟩):TC env 35 Q6:=B7 B fun p h=>Qq
theorem Uk  {a:Int} {n:Int}:AM.Comes ⟨env,T,A0⟩ 68 [.int .i64 a,.int .i64 n] [.bool (thereD a n)]:=by
 refine⟨[.bool (thereD a n)],⟨[],0,[]⟩,?_,A9 rfl zqb rfl rfl rfl⟩;rw[A3 (c:=TT) (nt:=12) (rs:=[.tmp 4]) rfl (by simp)];unfold TT;unfold K0;unfold thereD;by_cases h1:0<=a
 . simp_all [XP]
 . by_cases h2:a<n
   . simp only[h1,eq_true h2,XP,seval]
   . simp only[h1,h2,XP,seval]
def J6:=X6 (fun p:(Int)×(Int)=>[.int .i64 p.1,.int .i64 p.2]) (fun p=>[.bool (thereD p.1 p.2)]) (fun p=>True)
theorem x6(B:T 68=zs J6){a:Int}{n:Int}{K:PK}:evP ⟨env,T,A0⟩ (.call 68 [.int .i64 a,.int .i64 n] K)=zs (.val (openTs K.os.length [.bool (thereD a n)]).1 ⟨K.os++(openTs K.os.length [.bool (thereD a n)]).2,K.ext,K.tch⟩):=B4 B (by simp_all [XP]) (B6 (a:=fun p:(Int)×(Int)=>[.int .i64 p.1,.int .i64 p.2]) (r:=fun p=>[.bool (thereD p.1 p.2)]) (by grind) (a,n) trivial) (by simp_all [XP])
theorem gL  (B:PEok ⟨env,T,A0⟩):TC env 68 J6:=B7 B fun p h=>Uk
theorem Xp  {t:Int}:AM.Comes ⟨env,T,A0⟩ 78 [.int .i64 t] [.int .i64 (Hu t)]:=by
 refine⟨[.int .i64 (Hu t)],⟨[],0,[]⟩,?_,A9 rfl zqb rfl rfl rfl⟩;rw[A3 (c:=UB) (nt:=5) (rs:=[.tmp 2]) rfl (by simp)];unfold UB;unfold K0;unfold Hu;by_cases h1:t=2
 . simp_all [XP]
 simp_all [XP]
def Ez:=X6 (fun p:(Int)=>[.int .i64 p]) (fun p=>[.int .i64 (Hu p)]) (fun p=>True)
theorem uX(B:T 78=zs Ez){t:Int}{K:PK}:evP ⟨env,T,A0⟩ (.call 78 [.int .i64 t] K)=zs (.val (openTs K.os.length [.int .i64 (Hu t)]).1 ⟨K.os++(openTs K.os.length [.int .i64 (Hu t)]).2,K.ext,K.tch⟩):=B4 B (by simp_all [XP]) (B6 (a:=fun p:(Int)=>[.int .i64 p]) (r:=fun p=>[.int .i64 (Hu p)]) (by grind) (t) trivial) (by simp_all [XP])
theorem kT  (B:PEok ⟨env,T,A0⟩):TC env 78 Ez:=B7 B fun p h=>Xp
theorem Ke(k j:IntKind)(n:Int):U0 (.int k) (.int j n)=zs (.int k (k.wrap n)):=Cl k n
theorem Qr  {t:Int} {v:Int}:AM.Comes ⟨env,T,A0⟩ 75 [.int .i64 t,.int .i64 v] [.int .i64 (Px t v)]:=by
 refine⟨[.int .i64 (Px t v)],⟨[],0,[]⟩,?_,A9 rfl zqb rfl rfl rfl⟩;rw[A3 (c:=TY) (nt:=19) (rs:=[.tmp 4]) rfl (by simp)];unfold TY;unfold K0;unfold Px;by_cases h1:t=3
 . simp_all [XP, Ke]
 by_cases h2:t=1
 . simp_all [XP, Ke]
 by_cases B:t=2
 . simp_all [XP]
 simp_all [XP]
def U6:=X6 (fun p:(Int)×(Int)=>[.int .i64 p.1,.int .i64 p.2]) (fun p=>[.int .i64 (Px p.1 p.2)]) (fun p=>True)
theorem kU(B:T 75=zs U6){t:Int}{v:Int}{K:PK}:evP ⟨env,T,A0⟩ (.call 75 [.int .i64 t,.int .i64 v] K)=zs (.val (openTs K.os.length [.int .i64 (Px t v)]).1 ⟨K.os++(openTs K.os.length [.int .i64 (Px t v)]).2,K.ext,K.tch⟩):=B4 B (by simp_all [XP]) (B6 (a:=fun p:(Int)×(Int)=>[.int .i64 p.1,.int .i64 p.2]) (r:=fun p=>[.int .i64 (Px p.1 p.2)]) (by grind) (t,v) trivial) (by simp_all [XP])
theorem cG  (B:PEok ⟨env,T,A0⟩):TC env 75 U6:=B7 B fun p h=>Qr
theorem Cd(B:T 35=zs Q6){n:Int}:AM.Comes ⟨env,T,A0⟩ 54 [.int .i64 n] [.bool (!G6 n)]:=by
 refine⟨[.bool (!G6 n)],⟨[],0,[]⟩,?_,A9 rfl zqb rfl rfl rfl⟩;rw[A3 (c:=TE) (nt:=6) (rs:=[.tmp 2]) rfl (by simp)];simp_all [TE, K0, XP, Ih]
def D3:=X6 (fun p:(Int)=>[.int .i64 p]) (fun p=>[.bool (!G6 p)]) (fun p=>True)
theorem Aa(B:T 54=zs D3){n:Int}{K:PK}:evP ⟨env,T,A0⟩ (.call 54 [.int .i64 n] K)=zs (.val (openTs K.os.length [.bool (!G6 n)]).1 ⟨K.os++(openTs K.os.length [.bool (!G6 n)]).2,K.ext,K.tch⟩):=B4 B (by simp_all [XP]) (B6 (a:=fun p:(Int)=>[.int .i64 p]) (r:=fun p=>[.bool (!G6 p)]) (by grind) (n) trivial) (by simp_all [XP])
theorem Fa(B:T 35=zs Q6)(C:PEok ⟨env,T,A0⟩):TC env 54 D3:=B7 C fun p h=>Cd B
theorem Kg  {c:Cod}:AM.Comes ⟨env,T,A0⟩ 57 [c.F] [.bool (decide (c.name=B3))]:=by
 refine⟨[.bool (decide (c.name=B3))],⟨[],0,[]⟩,?_,A9 rfl zqb rfl rfl rfl⟩;rw[A3 (c:=TH) (nt:=6) (rs:=[.tmp 2]) rfl (by simp)];unfold TH;unfold K0;unfold Cod.F B3;simp only[XP,seval]
def N4:=X6 (fun p:(Cod)=>[p.F]) (fun p=>[.bool (decide (p.name=B3))]) (fun p=>True)
theorem Kh(B:T 57=zs N4){c:Cod}{K:PK}:evP ⟨env,T,A0⟩ (.call 57 [c.F] K)=zs (.val (openTs K.os.length [.bool (decide (c.name=B3))]).1 ⟨K.os++(openTs K.os.length [.bool (decide (c.name=B3))]).2,K.ext,K.tch⟩):=B4 B (by simp only[VV,XP,seval]) (B6 (a:=fun p:(Cod)=>[p.F]) (r:=fun p=>[.bool (decide (p.name=B3))]) (fun x y e=>by simp_all [VJ]) (c) trivial) (by simp_all [XP])
theorem Ul  (B:PEok ⟨env,T,A0⟩):TC env 57 N4:=B7 B fun p h=>Kg
def writesD(x:Ins):Int:=if x.op=1 then x.dst else if x.op=2 then x.dst else if x.op=3 then x.dst else if x.op=4 then x.dst else if x.op=5 then x.dst else if x.op=7 then x.dst else if x.op=10 then x.dst else if x.op=9 then(if -1<=x.dst then x.dst else -1)else -1
def D6(x:Ins):List Int:=if x.op=2 then [x.a]else if x.op=4 then [x.a]else if x.op=5 then [x.a]else if x.op=8 then [x.a]else if x.op=11 then [x.a]else if x.op=3 then [x.a,x.b]else if x.op=6 then [x.a,x.b]else if x.op=9 then x.args else []
theorem w5(a b:Int)(K:PK):Jd (G3 env .max [3,3] [.int .i64 a,.int .i64 b] K)=.val (.int .i64 (if b<=a then a else b)) K:=by
 show Jd ((Mp [.int .i64 b] (.int .i64 a)).map (·,K))=_
 show Jd ((zs (AV.int .i64 (bif intLe b a then a else b))).map (·,K))=_
 rw[R9];by_cases hb:b<=a
 . rw[if_pos hb,decide_eq_true hb];rfl
 . rw[if_neg hb,decide_eq_false hb];rfl
theorem Qt  {x:Ins}:AM.Comes ⟨env,T,A0⟩ 73 [x.F] [.int .i64 (writesD x)]:=by
 refine⟨[.int .i64 (writesD x)],⟨[],0,[]⟩,?_,A9 rfl zqb rfl rfl rfl⟩;rw[A3 (c:=TW) (nt:=20) (rs:=[.tmp 2]) rfl (by simp)];unfold TW;unfold K0;unfold Ins.F writesD;by_cases e1:x.op=1
 . simp_all [XP]
 by_cases e2:x.op=2
 . simp_all [XP]
 by_cases e3:x.op=3
 . simp_all [XP]
 by_cases e4:x.op=4
 . simp_all [XP]
 by_cases C:x.op=5
 . simp_all [XP]
 by_cases D:x.op=7
 . simp_all [XP]
 by_cases B:x.op=10
 . simp_all [XP]
 by_cases H:x.op=9
 . simp_all [XP, w5]
 simp_all [XP]
def m8:=X6 (fun p:(Ins)=>[p.F]) (fun p=>[.int .i64 (writesD p)]) (fun p=>True)
theorem kV(B:T 73=zs m8){x:Ins}{K:PK}:evP ⟨env,T,A0⟩ (.call 73 [x.F] K)=zs (.val (openTs K.os.length [.int .i64 (writesD x)]).1 ⟨K.os++(openTs K.os.length [.int .i64 (writesD x)]).2,K.ext,K.tch⟩):=B4 B (by simp only[VV,XP,seval]) (B6 (a:=fun p:(Ins)=>[p.F]) (r:=fun p=>[.int .i64 (writesD p)]) (fun x y e=>by simp_all [VJ]) (x) trivial) (by simp_all [XP])
theorem cH  (B:PEok ⟨env,T,A0⟩):TC env 73 m8:=B7 B fun p h=>Qt
theorem Um(B:T 41=zs F6){x:Ins}(N:x.ok):AM.Comes ⟨env,T,A0⟩ 72 [x.F] [ownd 0 1 (ints (D6 x))]:=by
 have one:∀(a:Int)(L:List Int),L=[a]->evP ⟨env,T,A0⟩ (.body 72 [x.F] K0)=zs (.val [.msl 0 0 1 1] ⟨[.row 0 [.int .i64 a] 1],0,[]⟩)->AM.Comes ⟨env,T,A0⟩ 72 [x.F] [ownd 0 1 (ints L)]:=fun a L e h=>by
  subst e;exact⟨_,_,h,C6 (.inr ⟨rfl,rfl⟩)⟩
 have two:∀(a b:Int)(L:List Int),L=[a,b]->evP ⟨env,T,A0⟩ (.body 72 [x.F] K0)=zs (.val [.msl 0 0 2 1] ⟨[.row 0 [.int .i64 a,.int .i64 b] 1],0,[]⟩)->AM.Comes ⟨env,T,A0⟩ 72 [x.F] [ownd 0 1 (ints L)]:=fun a b L e h=>by
  subst e;exact⟨_,_,h,C6 (.inr ⟨rfl,rfl⟩)⟩
 by_cases e2:x.op=2
 . refine one x.a _ (by simp[D6,e2]) ?_
   rw[A3 (c:=Zs) (nt:=27) (rs:=[.tmp 2]) rfl (by simp)];unfold Zs;unfold K0 Ins.F;simp only[eq_true e2,XP,seval]
 by_cases e4:x.op=4
 . refine one x.a _ (by simp[D6,e4]) ?_
   rw[A3 (c:=Zs) (nt:=27) (rs:=[.tmp 2]) rfl (by simp)];unfold Zs;unfold K0 Ins.F;simp only[e2,eq_true e4,XP,seval]
 by_cases D:x.op=5
 . refine one x.a _ (by simp[D6,D]) ?_
   rw[A3 (c:=Zs) (nt:=27) (rs:=[.tmp 2]) rfl (by simp)];unfold Zs;unfold K0 Ins.F;simp only[e2,e4,eq_true D,XP,seval]
 by_cases H:x.op=8
 . refine one x.a _ (by simp[D6,H]) ?_
   rw[A3 (c:=Zs) (nt:=27) (rs:=[.tmp 2]) rfl (by simp)];unfold Zs;unfold K0 Ins.F;simp only[e2,e4,D,eq_true H,XP,seval]
 by_cases C:x.op=11
 . refine one x.a _ (by simp[D6,C]) ?_
   rw[A3 (c:=Zs) (nt:=27) (rs:=[.tmp 2]) rfl (by simp)];unfold Zs;unfold K0 Ins.F;simp only[e2,e4,D,H,eq_true C,XP,seval]
 by_cases e3:x.op=3
 . refine two x.a x.b _ (by simp[D6,e3]) ?_
   rw[A3 (c:=Zs) (nt:=27) (rs:=[.tmp 2]) rfl (by simp)];unfold Zs;unfold K0 Ins.F;simp only[e2,e4,D,H,C,eq_true e3,XP,seval]
 by_cases I:x.op=6
 . refine two x.a x.b _ (by simp[D6,I]) ?_
   rw[A3 (c:=Zs) (nt:=27) (rs:=[.tmp 2]) rfl (by simp)];unfold Zs;unfold K0 Ins.F;simp only[e2,e4,D,H,C,e3,eq_true I,XP,seval]
 by_cases J:x.op=9
 . rw[show D6 x=x.args by simp[D6,J]]
   refine⟨[.msl 0 0 x.args.length 1],⟨[.row 0 (ints x.args) 1],0,[]⟩,?_,C6 (.inr ⟨by rw[zqa],rfl⟩)⟩;rw[A3 (c:=Zs) (nt:=27) (rs:=[.tmp 2]) rfl (by simp)];unfold Zs;unfold K0 Ins.F;have t:∀{K:PK},evP ⟨env,T,A0⟩ (.call 41 [fslN (ints x.args)] K)=zs (.val (openTs K.os.length [ownd 0 1 (ints x.args)]).1 ⟨K.os++(openTs K.os.length [ownd 0 1 (ints x.args)]).2,K.ext,K.tch⟩):=B4 B (by simp only[frzL_ints,XP,seval]) (v8 N) rfl;simp only[e2,e4,D,H,C,e3,I,eq_true J,t,zqa,XP,seval]
 . rw[show D6 x=[] by simp[D6,e2,e4,D,H,C,e3,I,J]]
   refine⟨[.nilsl],⟨[],0,[]⟩,?_,C6 (.inl ⟨rfl,rfl,rfl⟩)⟩;rw[A3 (c:=Zs) (nt:=27) (rs:=[.tmp 2]) rfl (by simp)];unfold Zs;unfold K0 Ins.F;simp only[e2,e4,D,H,C,e3,I,J,XP,seval]
def Ce:=X6 (fun p:(Ins)=>[p.F]) (fun p=>[ownd 0 1 (ints (D6 p))]) (fun p=>p.ok)
theorem rE(B:T 72=zs Ce){x:Ins}{K:PK}(C:x.ok):evP ⟨env,T,A0⟩ (.call 72 [x.F] K)=zs (.val (openTs K.os.length [ownd 0 1 (ints (D6 x))]).1 ⟨K.os++(openTs K.os.length [ownd 0 1 (ints (D6 x))]).2,K.ext,K.tch⟩):=B4 B (by simp only[VV,XP,seval]) (B6 (a:=fun p:(Ins)=>[p.F]) (r:=fun p=>[ownd 0 1 (ints (D6 p))]) (fun x y e=>by simp_all [VJ]) (x) C) (by simp only[VN,XP,seval])
theorem gM(B:T 41=zs F6)(C:PEok ⟨env,T,A0⟩):TC env 72 Ce:=B7 C fun p h=>Um B h
def idxOf{X:Type}(p:X->Bool)(l:List X):Int:=match l.findIdx? p with|some i=>(i:Int)|none=>-1
theorem idx_loop{P:PE}{c:PC}{X:Type}{p:X->Bool}{l:List X}{S:Nat->PF}{K:PK}
 (h1:∀i (h:i<l.length),p l[i]=zf->evP P (.code c (S i) K)=zs (.ok .normal (S (i+1)) K))
 (h2:∀i (h:i<l.length),p l[i]=zt->∃fr',evP P (.code c (S i) K)=zs (.ok .ret fr' K)/\lookP fr' 4=.int .i64 (i:Int))
 (hx:∃fr',evP P (.code c (S l.length) K)=zs (.ok (.exit 0) fr' K)):
 (∃i:Nat,idxOf p l=i/\∃fr',evP P (.code (.loop c) (S 0) K)=zs (.ok .ret fr' K)/\lookP fr' 4=.int .i64 (i:Int))\/(idxOf p l=-1/\∃fr',evP P (.code (.loop c) (S 0) K)=zs (.ok (.exit 0) fr' K)):=by
 have H:∀(n i:Nat),l.length=i+n->(∀j (B:j<l.length),j<i->p l[j]=zf)->(∃k:Nat,idxOf p l=k/\∃fr',evP P (.code (.loop c) (S i) K)=zs (.ok .ret fr' K)/\lookP fr' 4=.int .i64 (k:Int))\/(idxOf p l=-1/\∃fr',evP P (.code (.loop c) (S i) K)=zs (.ok (.exit 0) fr' K)):=fun n=>by
  induction n with
  |zero=>
   intro i e C;obtain rfl:i=l.length:=by omega
   obtain⟨fr',h⟩:=hx;refine .inr ⟨?_,fr',loop_exit h⟩;unfold idxOf
   have:l.findIdx? p=zn:=by
    rw[zkb];intro x I;obtain⟨j,B,rfl⟩:=List.getElem_of_mem I;grind
   rw[this]
  |succ n Q=>
   intro i e C;have hl:i<l.length:=by omega
   cases D:p l[i]with
   |false=>
    rw[loop_more (h1 i hl D)];refine Q (i+1) (by omega) fun j B hji=>?_
    grind
   |true=>
    obtain⟨fr',J,N⟩:=h2 i hl D;refine .inl ⟨i,?_,fr',Y2 J,N⟩;grind [idxOf, zqv]
 simp_all
theorem nK{X:Type}{p:X->Bool}{l:List X}:decide (0<=idxOf p l)=l.any p:=by
 grind [idxOf]
section
variable {l:List Int}{i:Nat}{v:Int}
theorem LQ(h:i<l.length)(C:l.length<=bigN)(D:decide (v=l[i])=zf):evP ⟨env,T,A0⟩ (.code Ht [(0,fslN (ints l)),(1,.int .i64 v),(7,.int .i64 (l.length:Int)),(8,.int .i64 (i:Int))] ⟨[],0,[]⟩)=zs (.ok .normal [(0,fslN (ints l)),(1,.int .i64 v),(7,.int .i64 (l.length:Int)),(8,.int .i64 ((i+1:Nat):Int))] ⟨[],0,[]⟩):=by
 unfold Ht;have B:decide ((i:Int)<(l.length:Int))=zt:=by simp[h]
 have H:=A1 (i:=i) (by grind);simp_all [XP]
theorem LR(h:i<l.length)(C:decide (v=l[i])=zt):∃fr',evP ⟨env,T,A0⟩ (.code Ht [(0,fslN (ints l)),(1,.int .i64 v),(7,.int .i64 (l.length:Int)),(8,.int .i64 (i:Int))] ⟨[],0,[]⟩)=zs (.ok .ret fr' ⟨[],0,[]⟩)/\lookP fr' 4=.int .i64 (i:Int):=by
 unfold Ht;have B:decide ((i:Int)<(l.length:Int))=zt:=by simp[h]
 simp only[B,I1 h,C,XP,seval];exact⟨_,rfl,rfl⟩
theorem LS:∃fr',evP ⟨env,T,A0⟩ (.code Ht [(0,fslN (ints l)),(1,.int .i64 v),(7,.int .i64 (l.length:Int)),(8,.int .i64 (l.length:Int))] ⟨[],0,[]⟩)=zs (.ok (.exit 0) fr' ⟨[],0,[]⟩):=by
 unfold Ht;have B:decide ((l.length:Int)<(l.length:Int))=zf:=by simp
 simp only[B,XP,seval];grind
theorem Xq  {l:List Int} {v:Int} (C:l.length<=bigN):AM.Comes ⟨env,T,A0⟩ 82 [fslN (ints l),.int .i64 v] [.int .i64 (idxOf (fun n=>decide (v=n)) l)]:=by
 refine⟨[.int .i64 (idxOf (fun n=>decide (v=n)) l)],⟨[],0,[]⟩,?_,A9 rfl zqb rfl rfl rfl⟩;rw[A3 (c:=UE) (nt:=19) (rs:=[.tmp 4]) rfl (by simp)];unfold UE;unfold K0;rcases idx_loop (P:=⟨env,T,A0⟩) (c:=Ht) (p:=fun n=>decide (v=n)) (l:=l) (S:=fun i=>[(0,fslN (ints l)),(1,.int .i64 v),(7,.int .i64 (l.length:Int)),(8,.int .i64 (i:Int))]) (K:=⟨[],0,[]⟩) (fun i h B=>LQ h C B) (fun i h B=>LR h B) LS with⟨i,e,fr',h1,h2⟩|⟨e,fr',h1⟩
 . have h1:evP ⟨env,T,A0⟩ (.code (.loop Ht) [(0,fslN (ints l)),(1,.int .i64 v),(7,.int .i64 (l.length:Int)),(8,.int .i64 0)] ⟨[],0,[]⟩)=_:=h1
   simp_all [XP]
 . have h1:evP ⟨env,T,A0⟩ (.code (.loop Ht) [(0,fslN (ints l)),(1,.int .i64 v),(7,.int .i64 (l.length:Int)),(8,.int .i64 0)] ⟨[],0,[]⟩)=_:=h1
   simp_all [XP]
def Fb:=X6 (fun p:(List Int)×(Int)=>[fslN (ints p.1),.int .i64 p.2]) (fun p=>[.int .i64 (idxOf (fun n=>decide (p.2=n)) p.1)]) (fun p=>p.1.length<=bigN)
theorem uY(B:T 82=zs Fb){l:List Int}{v:Int}{K:PK}(C:l.length<=bigN):evP ⟨env,T,A0⟩ (.call 82 [fslN (ints l),.int .i64 v] K)=zs (.val (openTs K.os.length [.int .i64 (idxOf (fun n=>decide (v=n)) l)]).1 ⟨K.os++(openTs K.os.length [.int .i64 (idxOf (fun n=>decide (v=n)) l)]).2,K.ext,K.tch⟩):=B4 B (by simp only[VV,XP,seval]) (B6 (a:=fun p:(List Int)×(Int)=>[fslN (ints p.1),.int .i64 p.2]) (r:=fun p=>[.int .i64 (idxOf (fun n=>decide (p.2=n)) p.1)]) (fun x y e=>by simp_all [VJ]) (l,v) C) (by simp_all [XP])
theorem kW  (B:PEok ⟨env,T,A0⟩):TC env 82 Fb:=B7 B fun p h=>Xq  h
theorem Un(B:T 82=zs Fb){l:List Int}{v:Int}(C:l.length<=bigN):AM.Comes ⟨env,T,A0⟩ 74 [fslN (ints l),.int .i64 v] [.bool (l.any fun n=>decide (v=n))]:=by
 refine⟨[.bool (l.any fun n=>decide (v=n))],⟨[],0,[]⟩,?_,A9 rfl zqb rfl rfl rfl⟩;rw[A3 (c:=TX) (nt:=9) (rs:=[.tmp 4]) rfl (by simp)];simp_all [TX, K0, XP, nK, uY]
def x7:=X6 (fun p:(List Int)×(Int)=>[fslN (ints p.1),.int .i64 p.2]) (fun p=>[.bool (p.1.any fun n=>decide (p.2=n))]) (fun p=>p.1.length<=bigN)
theorem gN(B:T 82=zs Fb)(C:PEok ⟨env,T,A0⟩):TC env 74 x7:=B7 C fun p h=>Un B h
end
section
variable {l:List Int}{i:Nat}
theorem LU(C:T 54=zs D3)(h:i<l.length)(D:l.length<=bigN)(H:(!G6 l[i])=zf):evP ⟨env,T,A0⟩ (.code Hq [(0,fslN (ints l)),(1,.fn (.func 54) [] []),(7,.int .i64 (l.length:Int)),(8,.int .i64 (i:Int))] ⟨[],0,[]⟩)=zs (.ok .normal [(0,fslN (ints l)),(1,.fn (.func 54) [] []),(7,.int .i64 (l.length:Int)),(8,.int .i64 ((i+1:Nat):Int))] ⟨[],0,[]⟩):=by
 unfold Hq;have B:decide ((i:Int)<(l.length:Int))=zt:=by simp[h]
 have I:=A1 (i:=i) (by grind);simp_all [XP, Aa]
theorem LV(C:T 54=zs D3)(h:i<l.length)(D:(!G6 l[i])=zt):∃fr',evP ⟨env,T,A0⟩ (.code Hq [(0,fslN (ints l)),(1,.fn (.func 54) [] []),(7,.int .i64 (l.length:Int)),(8,.int .i64 (i:Int))] ⟨[],0,[]⟩)=zs (.ok .ret fr' ⟨[],0,[]⟩)/\lookP fr' 4=.int .i64 (i:Int):=by
 unfold Hq;have B:decide ((i:Int)<(l.length:Int))=zt:=by simp[h]
 simp only[B,I1 h,Aa C,D,XP,seval];exact⟨_,rfl,rfl⟩
theorem LW:∃fr',evP ⟨env,T,A0⟩ (.code Hq [(0,fslN (ints l)),(1,.fn (.func 54) [] []),(7,.int .i64 (l.length:Int)),(8,.int .i64 (l.length:Int))] ⟨[],0,[]⟩)=zs (.ok (.exit 0) fr' ⟨[],0,[]⟩):=by
 unfold Hq;have B:decide ((l.length:Int)<(l.length:Int))=zf:=by simp
 simp only[B,XP,seval];grind
theorem Xr(C:T 54=zs D3)(D:T 64=zn)(H:l.length<=bigN)(K:PK):evP ⟨env,T,A0⟩ (.call 64 [fslN (ints l),.fn (.func 54) [] []] K)=zs (.val [.int .i64 (idxOf (fun n=>!G6 n) l)] K):=by
 refine eE (tch:=[]) D rfl rfl rfl ?_ rfl;rw[A3 (c:=TP) (nt:=19) (rs:=[.tmp 4]) rfl (by simp)];unfold TP;rcases idx_loop (P:=⟨env,T,A0⟩) (c:=Hq) (p:=fun n=>!G6 n) (l:=l) (S:=fun i=>[(0,fslN (ints l)),(1,.fn (.func 54) [] []),(7,.int .i64 (l.length:Int)),(8,.int .i64 (i:Int))]) (K:=⟨[],0,[]⟩) (fun i h B=>LU C h H B) (fun i h B=>LV C h B) LW with⟨i,e,fr',h1,h2⟩|⟨e,fr',h1⟩
 . have h1:evP ⟨env,T,A0⟩ (.code (.loop Hq) [(0,fslN (ints l)),(1,.fn (.func 54) [] []),(7,.int .i64 (l.length:Int)),(8,.int .i64 0)] ⟨[],0,[]⟩)=_:=h1
   simp_all [XP]
 . have h1:evP ⟨env,T,A0⟩ (.code (.loop Hq) [(0,fslN (ints l)),(1,.fn (.func 54) [] []),(7,.int .i64 (l.length:Int)),(8,.int .i64 0)] ⟨[],0,[]⟩)=_:=h1
   simp_all [XP]
theorem Uo(B:T 54=zs D3)(C:T 64=zn)(D:T 53=zn)(H:l.length<=bigN)(K:PK):evP ⟨env,T,A0⟩ (.call 53 [fslN (ints l),.fn (.func 54) [] []] K)=zs (.val [.bool (l.any fun n=>!G6 n)] K):=by
 refine eE (tch:=[]) D rfl rfl rfl ?_ rfl;rw[<-nK];have t:=fun K=>Xr B C H K
 rw[A3 (c:=TB) (nt:=9) (rs:=[.tmp 4]) rfl (by simp)];simp_all [TB, XP]
end
section
variable {l:List Cod}{i:Nat}
theorem LX(C:T 57=zs N4)(h:i<l.length)(D:l.length<=bigN)(H:decide (l[i].name=B3)=zf):evP ⟨env,T,A0⟩ (.code j3 [(0,fslN (l.map Cod.F)),(1,.fn (.func 57) [] []),(7,.int .i64 (l.length:Int)),(8,.int .i64 (i:Int))] ⟨[],0,[]⟩)=zs (.ok .normal [(0,fslN (l.map Cod.F)),(1,.fn (.func 57) [] []),(7,.int .i64 (l.length:Int)),(8,.int .i64 ((i+1:Nat):Int))] ⟨[],0,[]⟩):=by
 unfold j3;have B:decide ((i:Int)<(l.length:Int))=zt:=by simp[h]
 have I:=A1 (i:=i) (by grind);have hi:=A5 (F:=Cod.F) h;have t:=fun K=>Kh (K:=K) (c:=l[i]) C
 simp_all [Cod.F, XP]
theorem LY(C:T 57=zs N4)(h:i<l.length)(D:decide (l[i].name=B3)=zt):∃fr',evP ⟨env,T,A0⟩ (.code j3 [(0,fslN (l.map Cod.F)),(1,.fn (.func 57) [] []),(7,.int .i64 (l.length:Int)),(8,.int .i64 (i:Int))] ⟨[],0,[]⟩)=zs (.ok .ret fr' ⟨[],0,[]⟩)/\lookP fr' 4=.int .i64 (i:Int):=by
 unfold j3;have B:decide ((i:Int)<(l.length:Int))=zt:=by simp[h]
 have hi:=A5 (F:=Cod.F) h;have t:=fun K=>Kh (K:=K) (c:=l[i]) C
 simp only[Cod.F]at hi t;simp only[B,hi,t,D,XP,seval];exact⟨_,rfl,rfl⟩
theorem LZ:∃fr',evP ⟨env,T,A0⟩ (.code j3 [(0,fslN (l.map Cod.F)),(1,.fn (.func 57) [] []),(7,.int .i64 (l.length:Int)),(8,.int .i64 (l.length:Int))] ⟨[],0,[]⟩)=zs (.ok (.exit 0) fr' ⟨[],0,[]⟩):=by
 unfold j3;have B:decide ((l.length:Int)<(l.length:Int))=zf:=by simp
 simp only[B,XP,seval];grind
theorem Xs(C:T 57=zs N4)(D:T 38=zn)(H:l.length<=bigN)(K:PK):evP ⟨env,T,A0⟩ (.call 38 [fslN (l.map Cod.F),.fn (.func 57) [] []] K)=zs (.val [.int .i64 (idxOf (fun c:Cod=>decide (c.name=B3)) l)] K):=by
 refine eE (tch:=[]) D rfl rfl rfl ?_ rfl;rw[A3 (c:=IY) (nt:=19) (rs:=[.tmp 4]) rfl (by simp)];unfold IY;rcases idx_loop (P:=⟨env,T,A0⟩) (c:=j3) (p:=fun c:Cod=>decide (c.name=B3)) (l:=l) (S:=fun i=>[(0,fslN (l.map Cod.F)),(1,.fn (.func 57) [] []),(7,.int .i64 (l.length:Int)),(8,.int .i64 (i:Int))]) (K:=⟨[],0,[]⟩) (fun i h B=>LX C h H B) (fun i h B=>LY C h B) LZ with⟨i,e,fr',h1,h2⟩|⟨e,fr',h1⟩
 . have h1:evP ⟨env,T,A0⟩ (.code (.loop j3) [(0,fslN (l.map Cod.F)),(1,.fn (.func 57) [] []),(7,.int .i64 (l.length:Int)),(8,.int .i64 0)] ⟨[],0,[]⟩)=_:=h1
   simp_all [XP]
 . have h1:evP ⟨env,T,A0⟩ (.code (.loop j3) [(0,fslN (l.map Cod.F)),(1,.fn (.func 57) [] []),(7,.int .i64 (l.length:Int)),(8,.int .i64 0)] ⟨[],0,[]⟩)=_:=h1
   simp_all [XP]
theorem Qu(B:T 57=zs N4)(C:T 38=zn){m:Modl}(D:m.fs.length<=bigN):AM.Comes ⟨env,T,A0⟩ 37 [m.F] [.int .i64 (idxOf (fun c:Cod=>decide (c.name=B3)) m.fs)]:=by
 refine⟨[.int .i64 (idxOf (fun c:Cod=>decide (c.name=B3)) m.fs)],⟨[],0,[]⟩,?_,A9 rfl zqb rfl rfl rfl⟩;rw[A3 (c:=SQ) (nt:=6) (rs:=[.tmp 2]) rfl (by simp)];simp_all [SQ, K0, Modl.F, XP, Xs]
def Ab:=X6 (fun p:(Modl)=>[p.F]) (fun p=>[.int .i64 (idxOf (fun c:Cod=>decide (c.name=B3)) p.fs)]) (fun p=>p.fs.length<=bigN)
theorem kX(B:T 37=zs Ab){m:Modl}{K:PK}(C:m.fs.length<=bigN):evP ⟨env,T,A0⟩ (.call 37 [m.F] K)=zs (.val (openTs K.os.length [.int .i64 (idxOf (fun c:Cod=>decide (c.name=B3)) m.fs)]).1 ⟨K.os++(openTs K.os.length [.int .i64 (idxOf (fun c:Cod=>decide (c.name=B3)) m.fs)]).2,K.ext,K.tch⟩):=B4 B (by simp only[VV,XP,seval]) (B6 (a:=fun p:(Modl)=>[p.F]) (r:=fun p=>[.int .i64 (idxOf (fun c:Cod=>decide (c.name=B3)) p.fs)]) (fun x y e=>by simp_all [VJ]) (m) C) (by simp_all [XP])
theorem cI(B:T 57=zs N4)(C:T 38=zn)(D:PEok ⟨env,T,A0⟩):TC env 37 Ab:=B7 D fun p h=>Qu B C h
end
def Nm(p s:List UInt8):Bool:=Nat.ble (s5 s) 4000000000||oneB p
def V2(args:List AV):Option (List AV):=match args with|[.str s,.str p]=>if Nm p s=zt then zs [.bool (contS p s)]else zn|_=>zn
theorem cJ{s p:List UInt8}(h:Nm p s=zt):V2 [.str s,.str p]=zs [.bool (contS p s)]:=if_pos h
theorem Nn(B:T 71=zs V2){s p:List UInt8}{K:PK}(h:Nm p s=zt):evP ⟨env,T,A0⟩ (.call 71 [.str s,.str p] K)=zs (.val [.bool (contS p s)] ⟨K.os++[],K.ext,K.tch⟩):=B4 B rfl (cJ h) rfl
theorem Rt{t:Nat}{a b:List UInt8}{K:PK}(h:a.length+b.length<=4611686018427387904):V4 env .add t (.str a) (.str b) K=.val (.str (a++b)) K:=by
 rw[bp _ _ rfl rfl];show Gq (bif Nat.ble (Nat.add (s5 a) (s5 b)) 4611686018427387904 then zs (AV.str (a++b))else zn) K=_
 rw[v6,v6,show Nat.ble (Nat.add a.length b.length) 4611686018427387904=zt from Nat.ble_eq_true_of_le h];rfl
def Up:List UInt8:=[32,43,32,45,32,42,32,47,32,37,32,38,32,124,32,94,32,60,60,32,62,62,32,61,61,32,33,61,32,60,32,60,61,32,62,32,62,61,32]
def Uq:List UInt8:=[32,61,61,32,33,61,32,60,32,60,61,32,62,32,62,61,32]
def Ki(x:Ins):Bool:=if x.op=3 then !decide (x.s=[])&&(!contS [32] x.s&&contS (32::(x.s++[32])) Up)else if x.op=4 then decide (1<=x.ty)&&decide (x.ty<=3)else decide (1<=x.op)&&decide (x.op<=11)
theorem Xt(B:T 71=zs V2){x:Ins}(D:x.s.length<=bigN):AM.Comes ⟨env,T,A0⟩ 65 [x.F] [.bool (Ki x)]:=by
 refine⟨[.bool (Ki x)],⟨[],0,[]⟩,?_,A9 rfl zqb rfl rfl rfl⟩;rw[A3 (c:=TQ) (nt:=41) (rs:=[.tmp 2]) rfl (by simp)];unfold TQ;unfold K0;have d1:∀K:PK,V4 env .add 9 (.str [32]) (.str x.s) K=.val (.str (32::x.s)) K:=fun K=>Rt (by grind)
 have d2:∀K:PK,V4 env .add 9 (.str (32::x.s)) (.str [32]) K=.val (.str (32::(x.s++[32]))) K:=fun K=>Rt (by grind)
 have c1:=fun K=>Nn (K:=K) (s:=x.s) (p:=[32]) B (by unfold Nm;rw[show oneB [32]=zt from rfl,Bool.or_true])
 have c2:=fun K=>Nn (K:=K) (s:=Up) (p:=32::(x.s++[32])) B (by unfold Nm;rfl)
 unfold Ins.F Ki;unfold Up at c2|-;by_cases e3:x.op=3
 . by_cases C:x.s=[]
   . simp_all [XP]
   cases H:contS [32] x.s with
   |true=>simp_all [XP]
   |false=>simp_all [XP]
 by_cases e4:x.op=4
 . by_cases C:1<=x.ty
   . simp_all [XP]
   simp_all [XP, eq_false]
 . by_cases C:1<=x.op
   . simp_all [XP]
   simp_all [XP, eq_false]
def Fc:=X6 (fun p:(Ins)=>[p.F]) (fun p=>[.bool (Ki p)]) (fun p=>p.s.length<=bigN)
theorem uZ(B:T 65=zs Fc){x:Ins}{K:PK}(C:x.s.length<=bigN):evP ⟨env,T,A0⟩ (.call 65 [x.F] K)=zs (.val (openTs K.os.length [.bool (Ki x)]).1 ⟨K.os++(openTs K.os.length [.bool (Ki x)]).2,K.ext,K.tch⟩):=B4 B (by simp only[VV,XP,seval]) (B6 (a:=fun p:(Ins)=>[p.F]) (r:=fun p=>[.bool (Ki p)]) (fun x y e=>by simp_all [VJ]) (x) C) (by simp_all [XP])
theorem kY(B:T 71=zs V2)(C:PEok ⟨env,T,A0⟩):TC env 65 Fc:=B7 C fun p h=>Xt B h
def Y6(m:Modl)(at_:Int)(arr:Bool):Bool:=thereD at_ m.gs.length&&(match m.gs[at_.toNat]? with|some g=>decide (0<g.size)==arr|none=>zf)
theorem nL(t:Nat)(h:O2 env t=O2 env 4)(a b:Bool)(K:PK):V4 env .eql t (.bool a) (.bool b) K=.val (.bool (a==b)) K:=by
 rw[bp _ _ rfl rfl,h];cases a<;>cases b<;>rfl
theorem I3{a n:Int}(h:thereD a n=zt):∃k:Nat,a=k/\(k:Int)<n:=by
 unfold thereD at h;rw[zki]at h;have h0:=of_decide_eq_true h.1;have h1:=of_decide_eq_true h.2;obtain⟨k,rfl⟩:=Int.eq_ofNat_of_zero_le h0;grind
theorem Cf(B:T 68=zs J6){m:Modl}{c:Cod}{a:Int}{arr:Bool}:AM.Comes ⟨env,T,A0⟩ 76 [chkF m c,.int .i64 a,.bool arr] [.bool (Y6 m a arr)]:=by
 refine⟨[.bool (Y6 m a arr)],⟨[],0,[]⟩,?_,A9 rfl zqb rfl rfl rfl⟩;rw[A3 (c:=TZ) (nt:=25) (rs:=[.tmp 6]) rfl (by simp)];unfold TZ;unfold K0;have t:=fun K=>x6 (K:=K) (a:=a) (n:=m.gs.length) B
 have H:=nL 4 rfl;unfold chkF Y6;cases D:thereD a m.gs.length with
 |false=>rw[D]at t;simp only[t,zqa,zkh,XP,seval]
 |true=>
  obtain⟨k,rfl,C⟩:=I3 D;have C:k<m.gs.length:=by omega
  rw[D]at t;have hi:=A5 (F:=Glo.F) C;simp only[Glo.F]at hi;rw[show((k:Int)).toNat=k from rfl,zqi C];simp only[t,zqa,hi,H,XP,seval]
def E1:=X6 (fun p:(Modl)×(Cod)×(Int)×(Bool)=>[chkF p.1 p.2.1,.int .i64 p.2.2.1,.bool p.2.2.2]) (fun p=>[.bool (Y6 p.1 p.2.2.1 p.2.2.2)]) (fun p=>True)
theorem Ii(B:T 76=zs E1){m:Modl}{c:Cod}{a:Int}{arr:Bool}{K:PK}:evP ⟨env,T,A0⟩ (.call 76 [chkF m c,.int .i64 a,.bool arr] K)=zs (.val (openTs K.os.length [.bool (Y6 m a arr)]).1 ⟨K.os++(openTs K.os.length [.bool (Y6 m a arr)]).2,K.ext,K.tch⟩):=B4 B (by simp only[VV,XP,seval]) (B6 (a:=fun p:(Modl)×(Cod)×(Int)×(Bool)=>[chkF p.1 p.2.1,.int .i64 p.2.2.1,.bool p.2.2.2]) (r:=fun p=>[.bool (Y6 p.1 p.2.2.1 p.2.2.2)]) (fun x y e=>by simp_all [VJ]) (m,c,a,arr) trivial) (by simp_all [XP])
theorem Fd(B:T 68=zs J6)(C:PEok ⟨env,T,A0⟩):TC env 76 E1:=B7 C fun p h=>Cf B
def y8(l:List Int)(r:Int):Int:=l.getD r.toNat 0
theorem Kj{l:List Int}{k:Nat}(h:k<l.length):(ints l)[k]?=zs (.int .i64 (y8 l k)):=by
 grind [y8]
theorem Ru{m:Modl}{c:Cod}{r t:Int}{id:Nat}{K:PK}(C:T 77=zn)(D:thereD r c.regs.length=zt)(B:K.os[id]?=zs (.row 1 [chkF m c] 7)):
 evP ⟨env,T,A0⟩ (.call 77 [.int .i64 r,.int .i64 t,.ptr id 0 0] K)=zs (.val [.bool (decide (y8 c.regs r=t))] K):=by
 obtain⟨k,rfl,hk⟩:=I3 D;have hi:=Kj (show k<c.regs.length by omega);rw[u6 C rfl];rw[A3 (c:=UA) (nt:=14) (rs:=[.tmp 5]) rfl (by simp)];simp_all [UA, chkF, XP]
theorem Ur{P:PE}{c:PC}{X:Type}{p:X->Bool}{l:List X}{S:Nat->PF}{K:PK}{x:Nat}{Q:PF->Prop}{R:PF->PK->Prop}
 (h1:∀i (h:i<l.length),p l[i]=zt->evP P (.code c (S i) K)=zs (.ok .normal (S (i+1)) K))
 (h2:∀i (h:i<l.length),p l[i]=zf->∃fr' K',evP P (.code c (S i) K)=zs (.ok .ret fr' K')/\R fr' K')
 (hx:∃fr',evP P (.code c (S l.length) K)=zs (.ok (.exit x) fr' K)/\Q fr'):
 (l.all p=zt/\∃fr',evP P (.code (.loop c) (S 0) K)=zs (.ok (.exit x) fr' K)/\Q fr')\/(l.all p=zf/\∃fr' K',evP P (.code (.loop c) (S 0) K)=zs (.ok .ret fr' K')/\R fr' K'):=by
 have B:∀(n i:Nat),l.length=i+n->((l.drop i).all p=zt/\∃fr',evP P (.code (.loop c) (S i) K)=zs (.ok (.exit x) fr' K)/\Q fr')\/((l.drop i).all p=zf/\∃fr' K',evP P (.code (.loop c) (S i) K)=zs (.ok .ret fr' K')/\R fr' K'):=fun n=>by
  induction n with
  |zero=>
   intro i e;obtain rfl:i=l.length:=by omega
   grind [loop_exit]
  |succ n I=>
   intro i e;have hl:i<l.length:=by omega
   rw[zqh hl,List.all_cons];cases C:p l[i]with
   |true=>
    rw[loop_more (h1 i hl C),Bool.true_and];grind
   |false=>
    obtain⟨fr',K',D,H⟩:=h2 i hl C;exact .inr ⟨rfl,fr',K',Y2 D,H⟩
 exact B l.length 0 (by omega)
section
variable {m:Modl}{c:Cod}{x:Ins}{fr:PF}{i:Nat}{tch:List Nat}
def Qv:List Int:=[1,2,3,4,5,7,10]
def kZ(c:Cod)(x:Ins):Bool:=!((!decide (x.op=9)||decide (0<=writesD x))&&(!decide (writesD x=-1) && !thereD (writesD x) c.regs.length))
def codI(l:List Cod)(i:Int):Cod:=l.getD i.toNat ⟨[],0,0,[],[]⟩
def rF(m:Modl)(c:Cod)(x:Ins):Bool:=
 if x.op=1 then decide (Px (y8 c.regs x.dst) x.n=x.n)else if x.op=5 then Y6 m x.n zt else if x.op=6 then Y6 m x.n zt else if x.op=7 then Y6 m x.n zf else if x.op=8 then Y6 m x.n zf
 else if x.op=9 then thereD x.n m.fs.length&&decide ((codI m.fs x.n).ps<=(codI m.fs x.n).regs.length)else zt
def Fe(x:Ins):Bool:=(Qv.any fun n=>decide (x.op=n))&&decide (x.dst<0)
def F4(m:Modl)(c:Cod)(x:Ins):Bool:=(D6 x).all (fun r=>thereD r c.regs.length)&&(kZ c x&&(!Fe x&&rF m c x))
theorem Kk{l:List Cod}{k:Nat}(h:k<l.length):(l.map Cod.F)[k]?=zs (codI l k).F:=by
 grind [codI]
theorem DN{w:PO}(h2:lookP fr 2=.ptr 0 0 0)(B:lookP fr 3=.ptr 1 0 0)(X:T 75=zs U6)(hg:T 76=zs E1)(D:T 68=zs J6)(h1:x.op=1->thereD x.dst c.regs.length=zt):
 evP ⟨env,T,A0⟩ (.code Tx fr ⟨[.row 1 [chkF m c] 7,.row 1 [x.F] 8,w],0,tch⟩)=zs (.ok .ret [(4,.bool (rF m c x))] ⟨[],0,[]⟩):=by
 have Y:=fun t v K=>kU (K:=K) (t:=t) (v:=v) X
 have tg:=fun a b K=>Ii (K:=K) (m:=m) (c:=c) (a:=a) (arr:=b) hg
 have V:=fun a n K=>x6 (K:=K) (a:=a) (n:=n) D
 unfold Tx uN uM uL uK uJ CX CW rF;unfold Ins.F;unfold chkF at tg|-;by_cases e1:x.op=1
 . obtain⟨k,N,Q⟩:=I3 (h1 e1)
   have hi:=Kj (show k<c.regs.length by omega);rw[N];simp only[h2,B,eq_true e1,Y,hi,XP,seval]
 by_cases C:x.op=5
 . simp only[h2,B,e1,eq_true C,tg,XP,seval]
 by_cases H:x.op=6
 . simp only[h2,B,e1,C,eq_true H,tg,XP,seval]
 by_cases I:x.op=7
 . simp only[h2,B,e1,C,H,eq_true I,tg,XP,seval]
 by_cases J:x.op=8
 . simp only[h2,B,e1,C,H,I,eq_true J,tg,XP,seval]
 by_cases U:x.op=9
 . cases D:thereD x.n m.fs.length with
   |false=>simp only[h2,B,e1,C,H,I,J,eq_true U,V,D,zqa,zkh,XP,seval]
   |true=>
    obtain⟨k,N,Q⟩:=I3 D;have hi:=Kk (show k<m.fs.length by omega);simp only[Cod.F]at hi;rw[N]at D|-;simp only[h2,B,e1,C,H,I,J,eq_true U,V,D,zqa,hi,XP,seval]
 . simp only[h2,B,e1,C,H,I,J,U,XP,seval]
end
section
variable {m:Modl}{c:Cod}{x:Ins}{fr:PF}{i:Nat}{L:List Int}
theorem MA(h2:lookP fr 2=.ptr 0 0 0)(C:lookP fr 3=.ptr 1 0 0)(H:T 75=zs U6)(hg:T 76=zs E1)(I:T 68=zs J6)(hc:T 74=zs x7)(h1:x.op=1->¬x.dst<0->thereD x.dst c.regs.length=zt):
 evP ⟨env,T,A0⟩ (.code cA fr ⟨[.row 1 [chkF m c] 7,.row 1 [x.F] 8],0,[]⟩)=zs (.ok .ret [(4,.bool (!Fe x&&rF m c x))] ⟨[],0,[]⟩):=by
 have tc:∀K:PK,K.os[2]?=zs (.row 0 (ints Qv) 1)->evP ⟨env,T,A0⟩ (.call 74 [.msl 2 0 7 1,.int .i64 x.op] K)=zs (.val [.bool (Qv.any fun n=>decide (x.op=n))] ⟨K.os++[],K.ext,K.tch⟩):=fun K J=>B4 hc (by
  simp_all [Qv, XP]) (B6 (a:=fun p:List Int×Int=>[fslN (ints p.1),.int .i64 p.2]) (r:=fun p=>[.bool (p.1.any fun n=>decide (p.2=n))]) (fun x y e=>by simp_all [fslN_iff, ints_iff]) (Qv,x.op) (by show Qv.length<=bigN;decide)) rfl
 unfold cA CV Fe;cases ha:(Qv.any fun n=>decide (x.op=n))with
 |false=>
  rw[zkh];rw[ha]at tc;have B:∀(fr:PF)(tch:List Nat),lookP fr 2=.ptr 0 0 0->lookP fr 3=.ptr 1 0 0->evP ⟨env,T,A0⟩ (.code Tx fr ⟨[.row 1 [chkF m c] 7,.row 1 [x.F] 8,.row 0 [.int .i64 1,.int .i64 2,.int .i64 3,.int .i64 4,.int .i64 5,.int .i64 7,.int .i64 10] 1],0,tch⟩)=zs (.ok .ret [(4,.bool (rF m c x))] ⟨[],0,[]⟩):=(by grind [Go.Proofs.AmEnv.DN, Go.Proofs.AmEnv.Qv])
  simp_all [Ins.F, Qv, XP]
 |true=>
  rw[ha]at tc;simp only[Qv,ints,List.map]at tc;by_cases D:x.dst<0
  . simp_all [Ins.F, XP]
  . have B:∀(fr:PF)(tch:List Nat),lookP fr 2=.ptr 0 0 0->lookP fr 3=.ptr 1 0 0->evP ⟨env,T,A0⟩ (.code Tx fr ⟨[.row 1 [chkF m c] 7,.row 1 [x.F] 8,.row 0 [.int .i64 1,.int .i64 2,.int .i64 3,.int .i64 4,.int .i64 5,.int .i64 7,.int .i64 10] 1],0,tch⟩)=zs (.ok .ret [(4,.bool (rF m c x))] ⟨[],0,[]⟩):=(by grind [Go.Proofs.AmEnv.DN])
    simp only[Ins.F]at B|-;simp only[h2,C,tc,D,B,XP,seval]
theorem MB(h:kZ c x=zt)(e:x.op=1)(hd:¬x.dst<0):thereD x.dst c.regs.length=zt:=by
 grind [kZ, writesD]
theorem MC(h2:lookP fr 2=.ptr 0 0 0)(N:lookP fr 3=.ptr 1 0 0)(X:T 75=zs U6)(hg:T 76=zs E1)(V:T 68=zs J6)(hc:T 74=zs x7)(U:T 73=zs m8):
 evP ⟨env,T,A0⟩ (.code cB fr ⟨[.row 1 [chkF m c] 7,.row 1 [x.F] 8],0,[]⟩)=zs (.ok .ret [(4,.bool (kZ c x&&(!Fe x&&rF m c x)))] ⟨[],0,[]⟩):=by
 have J:=fun K=>kV (K:=K) (x:=x) U
 have H:=fun K=>x6 (K:=K) (a:=writesD x) (n:=c.regs.length) V
 have B:kZ c x=zt->∀fr:PF,lookP fr 2=.ptr 0 0 0->lookP fr 3=.ptr 1 0 0->evP ⟨env,T,A0⟩ (.code cA fr ⟨[.row 1 [chkF m c] 7,.row 1 [x.F] 8],0,[]⟩)=zs (.ok .ret [(4,.bool (!Fe x&&rF m c x))] ⟨[],0,[]⟩):=fun h fr a b=>MA a b X hg V hc (MB h)
 unfold cB CU CT;have C:kZ c x=!((!decide (x.op=9)||decide (0<=writesD x))&&(!decide (writesD x=-1) && !thereD (writesD x) c.regs.length)):=rfl;simp only[Ins.F]at J B|-;simp only[chkF]at B|-;by_cases I:x.op=9
 . by_cases Q:0<=writesD x
   . have D:¬writesD x=-1:=by omega
     cases q:thereD (writesD x) c.regs.length with
     |true=>
      have ok:kZ c x=zt:=by rw[C,q];simp
      have B:=B ok;rw[q]at H;simp only[h2,N,J,H,eq_true I,eq_true Q,eq_false D,zqa,ok,B,XP,seval]
     |false=>
      have ok:kZ c x=zf:=by rw[C,q];simp[Q,D]
      rw[q]at H;simp only[h2,N,J,H,eq_true I,eq_true Q,eq_false D,zqa,ok,zkh,XP,seval]
   . have ok:kZ c x=zt:=by rw[C];simp[I,Q]
     have B:=B ok;simp only[h2,N,J,eq_true I,eq_false Q,ok,B,XP,seval]
 . by_cases D:writesD x=-1
   . have ok:kZ c x=zt:=by rw[C];simp[D]
     have B:=B ok;simp only[h2,N,J,I,eq_true D,ok,B,XP,seval]
   . cases q:thereD (writesD x) c.regs.length with
     |true=>
      have ok:kZ c x=zt:=by rw[C,q];simp
      have B:=B ok;rw[q]at H;simp only[h2,N,J,H,I,eq_false D,zqa,ok,B,XP,seval]
     |false=>
      have ok:kZ c x=zf:=by rw[C,q];simp[I,D]
      rw[q]at H;simp only[h2,N,J,H,I,eq_false D,zqa,ok,zkh,XP,seval]
theorem A1N(D:T 68=zs J6)(h:i<L.length)(H:L.length<=bigN)(I:thereD L[i] c.regs.length=zt):evP ⟨env,T,A0⟩ (.code Hr [(2,.ptr 0 0 0),(3,.ptr 1 0 0),(9,.msl 2 0 L.length 1),(10,.int .i64 (L.length:Int)),(11,.int .i64 (i:Int))] ⟨[.row 1 [chkF m c] 7,.row 1 [x.F] 8,.row 0 (ints L) 1],0,[]⟩)=zs (.ok .normal [(2,.ptr 0 0 0),(3,.ptr 1 0 0),(9,.msl 2 0 L.length 1),(10,.int .i64 (L.length:Int)),(11,.int .i64 ((i+1:Nat):Int))] ⟨[.row 1 [chkF m c] 7,.row 1 [x.F] 8,.row 0 (ints L) 1],0,[]⟩):=by
 unfold Hr nI uI uH uG;have B:decide ((i:Int)<(L.length:Int))=zt:=by simp[h]
 have J:=A1 (i:=i) (by grind);simp_all [chkF, Ins.F, XP, x6]
theorem A1O(D:T 68=zs J6)(h:i<L.length)(H:thereD L[i] c.regs.length=zf):evP ⟨env,T,A0⟩ (.code Hr [(2,.ptr 0 0 0),(3,.ptr 1 0 0),(9,.msl 2 0 L.length 1),(10,.int .i64 (L.length:Int)),(11,.int .i64 (i:Int))] ⟨[.row 1 [chkF m c] 7,.row 1 [x.F] 8,.row 0 (ints L) 1],0,[]⟩)=zs (.ok .ret [(4,.bool zf)] ⟨[],0,[]⟩):=by
 unfold Hr nI uI uH uG;have B:decide ((i:Int)<(L.length:Int))=zt:=by simp[h]
 simp_all [chkF, XP, x6]
theorem A1P:∃fr',evP ⟨env,T,A0⟩ (.code Hr [(2,.ptr 0 0 0),(3,.ptr 1 0 0),(9,.msl 2 0 L.length 1),(10,.int .i64 (L.length:Int)),(11,.int .i64 (L.length:Int))] ⟨[.row 1 [chkF m c] 7,.row 1 [x.F] 8,.row 0 (ints L) 1],0,[]⟩)=zs (.ok (.exit 0) fr' ⟨[.row 1 [chkF m c] 7,.row 1 [x.F] 8,.row 0 (ints L) 1],0,[]⟩)/\(lookP fr' 2=.ptr 0 0 0/\lookP fr' 3=.ptr 1 0 0):=by
 unfold Hr nI;have B:decide ((L.length:Int)<(L.length:Int))=zf:=by simp
 simp only[B,XP,seval];exact⟨_,rfl,rfl,rfl⟩
theorem lA(B:x.ok):(D6 x).length<=bigN:=by
 unfold D6
 have:x.args.length<=bigN:=by unfold Ins.ok at B;grind
 grind
theorem Cg(D:T 75=zs U6)(B:T 76=zs E1)(C:T 68=zs J6)(I:T 74=zs x7)(H:T 73=zs m8)(J:T 72=zs Ce){m:Modl}{c:Cod}{x:Ins}(Y:x.ok):AM.Comes ⟨env,T,A0⟩ 66 [chkF m c,x.F] [.bool (F4 m c x)]:=by
 refine⟨[.bool (F4 m c x)],⟨[],0,[]⟩,?_,A9 rfl zqb rfl rfl rfl⟩;rw[A3 (c:=TR) (nt:=114) (rs:=[.tmp 4]) rfl (by simp)];unfold TR;unfold K0;have V:=fun K=>rE (K:=K) J Y
 have N:=lA Y;have U:∀fr:PF,lookP fr 2=.ptr 0 0 0->lookP fr 3=.ptr 1 0 0->evP ⟨env,T,A0⟩ (.code cB fr ⟨[.row 1 [chkF m c] 7,.row 1 [x.F] 8],0,[]⟩)=zs (.ok .ret [(4,.bool (kZ c x&&(!Fe x&&rF m c x)))] ⟨[],0,[]⟩):=fun fr a b=>MC a b D B C I H
 have lp:=Ur (P:=⟨env,T,A0⟩) (c:=Hr) (p:=fun r=>thereD r c.regs.length) (l:=D6 x) (S:=fun i=>[(2,.ptr 0 0 0),(3,.ptr 1 0 0),(9,.msl 2 0 (D6 x).length 1),(10,.int .i64 ((D6 x).length:Int)),(11,.int .i64 (i:Int))]) (K:=⟨[.row 1 [chkF m c] 7,.row 1 [x.F] 8,.row 0 (ints (D6 x)) 1],0,[]⟩)
  (Q:=fun fr'=>lookP fr' 2=.ptr 0 0 0/\lookP fr' 3=.ptr 1 0 0) (R:=fun fr' K'=>fr'=[(4,.bool zf)]/\K'=⟨[],0,[]⟩) (fun i h X=>A1N C h N X) (fun i h X=>⟨_,_,A1O C h X,rfl,rfl⟩) A1P
 unfold uO CS F4;rcases lp with⟨ha,fr',h1,h2,h3⟩|⟨ha,fr',K',h1,rfl,rfl⟩
 . have h1:evP ⟨env,T,A0⟩ (.code (.loop Hr) [(2,.ptr 0 0 0),(3,.ptr 1 0 0),(9,.msl 2 0 (D6 x).length 1),(10,.int .i64 ((D6 x).length:Int)),(11,.int .i64 0)] _)=_:=h1
   rw[ha];simp only[Ins.F,chkF]at V h1 U|-;simp only[V,h1,h2,h3,U,zqa,XP,seval]
 . have h1:evP ⟨env,T,A0⟩ (.code (.loop Hr) [(2,.ptr 0 0 0),(3,.ptr 1 0 0),(9,.msl 2 0 (D6 x).length 1),(10,.int .i64 ((D6 x).length:Int)),(11,.int .i64 0)] _)=_:=h1
   rw[ha,zkh];simp only[Ins.F,chkF]at V h1|-;simp only[V,h1,zqa,XP,seval]
def L9:=X6 (fun p:(Modl)×(Cod)×(Ins)=>[chkF p.1 p.2.1,p.2.2.F]) (fun p=>[.bool (F4 p.1 p.2.1 p.2.2)]) (fun p=>p.2.2.ok)
theorem Ij(B:T 66=zs L9){m:Modl}{c:Cod}{x:Ins}{K:PK}(C:x.ok):evP ⟨env,T,A0⟩ (.call 66 [chkF m c,x.F] K)=zs (.val (openTs K.os.length [.bool (F4 m c x)]).1 ⟨K.os++(openTs K.os.length [.bool (F4 m c x)]).2,K.ext,K.tch⟩):=B4 B (by simp only[VV,XP,seval]) (B6 (a:=fun p:(Modl)×(Cod)×(Ins)=>[chkF p.1 p.2.1,p.2.2.F]) (r:=fun p=>[.bool (F4 p.1 p.2.1 p.2.2)]) (fun x y e=>by simp_all [VJ]) (m,c,x) C) (by simp_all [XP])
theorem Ff(C:T 75=zs U6)(B:T 76=zs E1)(H:T 68=zs J6)(I:T 74=zs x7)(D:T 73=zs m8)(J:T 72=zs Ce)(N:PEok ⟨env,T,A0⟩):TC env 66 L9:=B7 N fun p h=>Cg C B H I D J h
end
section
variable {m:Modl}{c:Cod}{x:Ins}{fr:PF}{i:Nat}
theorem Kl(h:F4 m c x=zt){r:Int}(B:r∈D6 x):thereD r c.regs.length=zt:=by
 simp_all [F4]
theorem No(h:F4 m c x=zt)(e:x.op=1\/x.op=2\/x.op=3\/x.op=4\/x.op=5\/x.op=7\/x.op=10):thereD x.dst c.regs.length=zt:=by
 unfold F4 at h;simp only[zki]at h;obtain⟨_,h1,h2,_⟩:=h;have B:¬x.dst<0:=(by grind [Go.Proofs.AmEnv.Fe, Go.Proofs.AmEnv.Qv])
 have C:writesD x=x.dst:=by
  unfold writesD;grind
 grind [kZ]
theorem vA(h:F4 m c x=zt):rF m c x=zt:=by
 simp_all [F4]
theorem cK(h:F4 m c x=zt)(e:x.op=5\/x.op=6\/x.op=7\/x.op=8):thereD x.n m.gs.length=zt:=by
 have h:=vA h;grind [rF, Y6]
theorem vB(h:F4 m c x=zt)(e:x.op=9):thereD x.n m.fs.length=zt/\(codI m.fs x.n).ps<=(codI m.fs x.n).regs.length:=by
 have h:=vA h;grind [rF]
theorem yV(h:F4 m c x=zt)(e:x.op=9)(hd:¬x.dst<0):thereD x.dst c.regs.length=zt:=by
 grind [F4, writesD, kZ]
def isD(c:Cod)(r t:Int):Bool:=decide (y8 c.regs r=t)
def lB(l:List Glo)(i:Int):Glo:=l.getD i.toNat ⟨[],0,0,0⟩
theorem vC{l:List Glo}{k:Nat}(h:k<l.length):(l.map Glo.F)[k]?=zs (lB l k).F:=by
 grind [lB]
def MD(x:Ins):Int:=if contS (32::(x.s++[32])) Uq then 1 else x.ty
def Dp(m:Modl)(c:Cod)(x:Ins):Bool:=(x.args.zip (codI m.fs x.n).regs).all (fun p=>isD c p.1 p.2)&&(decide (x.dst<0)||(!decide ((codI m.fs x.n).ty=0)&&isD c x.dst (codI m.fs x.n).ty))
def Ac(m:Modl)(c:Cod)(x:Ins):Bool:=
 if x.op=2 then isD c x.a (y8 c.regs x.dst)else if x.op=3 then isD c x.a x.ty&&(isD c x.b x.ty&&isD c x.dst (MD x))else if x.op=4 then isD c x.dst (Hu x.ty)
 else if x.op=5 then isD c x.a 2&&isD c x.dst (Hu (lB m.gs x.n).ty)else if x.op=6 then isD c x.a 2&&isD c x.b (Hu (lB m.gs x.n).ty)else if x.op=7 then isD c x.dst (lB m.gs x.n).ty else if x.op=8 then isD c x.a (lB m.gs x.n).ty
 else if x.op=9 then Dp m c x else if x.op=10 then isD c x.dst 2 else if x.op=11 then isD c x.a 2 else zt
def Us(m:Modl)(x:Ins):Prop:=x.op=9->(x.args.length:Int)=(codI m.fs x.n).ps
section
variable {F:Cod}{A:List Int}
theorem A1Q(D:T 77=zn)(h:i<A.length)(H:i<F.regs.length)(I:A.length<=bigN)(J:thereD A[i] c.regs.length=zt)(B:isD c A[i] F.regs[i]=zt):
 evP ⟨env,T,A0⟩ (.code Hs [(2,.fn (.func 77) [] [.ptr 0 0 0]),(4,.ptr 2 0 0),(7,.ptr 3 0 0),(18,fslN (ints A)),(19,.int .i64 (A.length:Int)),(20,.int .i64 (i:Int))] ⟨[.row 1 [chkF m c] 7,.row 1 [x.F] 8,.row 1 [x.F] 8,.row 1 [F.F] 5],2,[]⟩)=zs (.ok .normal [(2,.fn (.func 77) [] [.ptr 0 0 0]),(4,.ptr 2 0 0),(7,.ptr 3 0 0),(18,fslN (ints A)),(19,.int .i64 (A.length:Int)),(20,.int .i64 ((i+1:Nat):Int))] ⟨[.row 1 [chkF m c] 7,.row 1 [x.F] 8,.row 1 [x.F] 8,.row 1 [F.F] 5],2,[]⟩):=by
 unfold Hs;have C:decide ((i:Int)<(A.length:Int))=zt:=by simp[h]
 have Q:=A1 (i:=i) (by simp only[bigN]at I;omega);have ic:=fun t K N=>Ru (m:=m) (t:=t) (id:=0) (K:=K) D J N
 have B:decide (y8 c.regs A[i]=F.regs[i])=zt:=B;simp only[chkF,Ins.F,Cod.F]at ic|-;simp only[C,I1 h,I1 H,Q,ic,B,XP,seval]
theorem A1R(D:T 77=zn)(h:i<A.length)(H:i<F.regs.length)(I:thereD A[i] c.regs.length=zt)(B:isD c A[i] F.regs[i]=zf):
 ∃K',evP ⟨env,T,A0⟩ (.code Hs [(2,.fn (.func 77) [] [.ptr 0 0 0]),(4,.ptr 2 0 0),(7,.ptr 3 0 0),(18,fslN (ints A)),(19,.int .i64 (A.length:Int)),(20,.int .i64 (i:Int))] ⟨[.row 1 [chkF m c] 7,.row 1 [x.F] 8,.row 1 [x.F] 8,.row 1 [F.F] 5],2,[]⟩)=zs (.ok .ret [(6,.bool zf)] K')/\K'=⟨[.row 1 [chkF m c] 7,.row 1 [x.F] 8],2,[]⟩:=by
 unfold Hs;have C:decide ((i:Int)<(A.length:Int))=zt:=by simp[h]
 have ic:=fun t K J=>Ru (m:=m) (t:=t) (id:=0) (K:=K) D I J
 have B:decide (y8 c.regs A[i]=F.regs[i])=zf:=B;simp only[chkF,Ins.F,Cod.F]at ic|-;simp only[C,I1 h,I1 H,ic,B,XP,seval];exact⟨_,rfl,rfl⟩
theorem A1S:∃fr',evP ⟨env,T,A0⟩ (.code Hs [(2,.fn (.func 77) [] [.ptr 0 0 0]),(4,.ptr 2 0 0),(7,.ptr 3 0 0),(18,fslN (ints A)),(19,.int .i64 (A.length:Int)),(20,.int .i64 (A.length:Int))] ⟨[.row 1 [chkF m c] 7,.row 1 [x.F] 8,.row 1 [x.F] 8,.row 1 [F.F] 5],2,[]⟩)=zs (.ok (.exit 0) fr' ⟨[.row 1 [chkF m c] 7,.row 1 [x.F] 8,.row 1 [x.F] 8,.row 1 [F.F] 5],2,[]⟩)/\(lookP fr' 2=.fn (.func 77) [] [.ptr 0 0 0]/\lookP fr' 4=.ptr 2 0 0/\lookP fr' 7=.ptr 3 0 0):=by
 unfold Hs;have B:decide ((A.length:Int)<(A.length:Int))=zf:=by simp
 simp only[B,XP,seval];exact⟨_,rfl,rfl,rfl,rfl⟩
end
theorem rG(X:T 77=zn)(hk:x.ok)(H:F4 m c x=zt)(U:x.op=9)(ha:Us m x):
 evP ⟨env,T,A0⟩ (.body 79 [chkF m c,x.F,.fn (.func 77) [] [.ptr 0 0 0]] ⟨[.row 1 [chkF m c] 7,.row 1 [x.F] 8],2,[]⟩)=zs (.val [.bool (Dp m c x)] ⟨[.row 1 [chkF m c] 7,.row 1 [x.F] 8],2,[]⟩):=by
 obtain⟨hf,hps⟩:=vB H U;have ha:=ha U;obtain⟨k,N,hkl⟩:=I3 hf;have hi:=Kk (show k<m.fs.length by omega);rw[<-N]at hi;have J:x.args.length<=bigN:=by unfold Ins.ok at hk;simp only[bigN]at hk|-;omega
 have hz:(x.args.zip (codI m.fs x.n).regs).length=x.args.length:=by rw[zqw];omega
 have rd:∀i (h:i<x.args.length),thereD x.args[i] c.regs.length=zt:=fun i h=>Kl H (by
  have:D6 x=x.args:=by simp[D6,U]
  rw[this];exact zqc h)
 have lp:=Ur (P:=⟨env,T,A0⟩) (c:=Hs) (p:=fun p=>isD c p.1 p.2) (l:=x.args.zip (codI m.fs x.n).regs) (S:=fun i=>[(2,.fn (.func 77) [] [.ptr 0 0 0]),(4,.ptr 2 0 0),(7,.ptr 3 0 0),(18,fslN (ints x.args)),(19,.int .i64 (x.args.length:Int)),(20,.int .i64 (i:Int))]) (K:=⟨[.row 1 [chkF m c] 7,.row 1 [x.F] 8,.row 1 [x.F] 8,.row 1 [(codI m.fs x.n).F] 5],2,[]⟩)
  (Q:=fun fr'=>lookP fr' 2=.fn (.func 77) [] [.ptr 0 0 0]/\lookP fr' 4=.ptr 2 0 0/\lookP fr' 7=.ptr 3 0 0) (R:=fun fr' K'=>fr'=[(6,.bool zf)]/\K'=⟨[.row 1 [chkF m c] 7,.row 1 [x.F] 8],2,[]⟩)
  (fun i h Y=>A1Q (F:=codI m.fs x.n) (A:=x.args) X (by omega) (by rw[zqw]at h;omega) J (rd i (by omega)) (by simpa using Y)) (fun i h Y=>by
    obtain⟨K',q1,q2⟩:=A1R (m:=m) (x:=x) (F:=codI m.fs x.n) (A:=x.args) X (show i<x.args.length by omega) (by rw[zqw]at h;omega) (rd i (by omega)) (by simpa using Y);exact⟨_,K',q1,rfl,q2⟩) (by rw[hz];exact A1S)
 rw [A3 (c:=UC) (nt:=51) (rs:=[.tmp 6]) rfl (by simp)];unfold UC;have B:Dp m c x=((x.args.zip (codI m.fs x.n).regs).all (fun p=>isD c p.1 p.2)&&(decide (x.dst<0)||(!decide ((codI m.fs x.n).ty=0)&&isD c x.dst (codI m.fs x.n).ty))):=rfl;have C:∀te:TI,te.size=5->Xc te (fslN (m.fs.map Cod.F)) (.int .i64 x.n)=zs (.fptr (codI m.fs x.n).F 0):=fun te h=>by
  rw[N]at hi|-;exact ix_fslN hi (by rw[h];rfl)
 have C:=C _ ty36_z;rcases lp with⟨D,fr',h1,h2,h3,h4⟩|⟨D,fr',K',h1,rfl,rfl⟩
 . have h1:evP ⟨env,T,A0⟩ (.code (.loop Hs) [(2,.fn (.func 77) [] [.ptr 0 0 0]),(4,.ptr 2 0 0),(7,.ptr 3 0 0),(18,fslN (ints x.args)),(19,.int .i64 (x.args.length:Int)),(20,.int .i64 0)] _)=_:=h1
   rw[D,Bool.true_and]at B;simp only[chkF,Ins.F,Cod.F]at h1 C|-;by_cases I:x.dst<0
   . have B:Dp m c x=zt:=by rw[B];simp[I]
     simp only[C,h1,h2,h3,h4,B,eq_true I,zqa,XP,seval]
   . by_cases V:(codI m.fs x.n).ty=0
     . have B:Dp m c x=zf:=by rw[B];simp[I,V]
       simp only[C,h1,h2,h3,h4,B,I,eq_true V,zqa,XP,seval]
     . have B:Dp m c x=isD c x.dst (codI m.fs x.n).ty:=by rw[B];simp[I,V]
       have ic:=fun t K hK=>Ru (m:=m) (r:=x.dst) (t:=t) (id:=0) (K:=K) X (yV H U I) hK
       unfold isD at B;simp only[chkF]at ic;simp only[C,h1,h2,h3,h4,B,I,V,ic,zqa,XP,seval]
 . have h1:evP ⟨env,T,A0⟩ (.code (.loop Hs) [(2,.fn (.func 77) [] [.ptr 0 0 0]),(4,.ptr 2 0 0),(7,.ptr 3 0 0),(18,fslN (ints x.args)),(19,.int .i64 (x.args.length:Int)),(20,.int .i64 0)] _)=_:=h1
   rw[D,zkh]at B;simp only[chkF,Ins.F,Cod.F]at h1 C|-;simp only[C,h1,B,zqa,XP,seval]
end
section
variable {m:Modl}{c:Cod}{x:Ins}{fr:PF}{i:Nat}{tch:List Nat}
theorem rH(C:T 77=zn)(D:T 79=zn)(H:x.ok)(B:F4 m c x=zt)(I:x.op=9)(ha:Us m x):
 evP ⟨env,T,A0⟩ (.call 79 [chkF m c,x.F,.fn (.func 77) [] [.ptr 0 0 0]] ⟨[.row 1 [chkF m c] 7,.row 1 [x.F] 8],0,tch⟩)=zs (.val [.bool (Dp m c x)] ⟨[.row 1 [chkF m c] 7,.row 1 [x.F] 8],0,tch⟩):=
 (u6 D rfl).trans ((congrArg _ (rG C H B I ha)).trans rfl)
theorem Dd(B:T 77=zn)(I:T 79=zn)(D:T 71=zs V2)(V:T 78=zs Ez){m:Modl}{c:Cod}{x:Ins}(Q:x.ok/\x.s.length<=bigN/\F4 m c x=zt/\Us m x):AM.Comes ⟨env,T,A0⟩ 67 [chkF m c,x.F] [.bool (Ac m c x)]:=by
 refine⟨[.bool (Ac m c x)],⟨[],0,[]⟩,?_,A9 rfl zqb rfl rfl rfl⟩;rw[A3 (c:=TS) (nt:=150) (rs:=[.tmp 4]) rfl (by simp)];unfold TS;unfold K0;obtain⟨hx,hs,C,ac⟩:=Q;have J:=fun(r t:Int)(K:PK)(hr:thereD r c.regs.length=zt) N=>Ru (m:=m) (c:=c) (r:=r) (t:=t) (id:=0) (K:=K) B hr N
 have tw:=fun t K=>uX (K:=K) (t:=t) V
 have cc:=fun e9 tch=>rH (tch:=tch) B I hx C e9 ac
 have aa:∀k:Nat,x.n=k->k<m.gs.length->Xc Cb (fslN (m.gs.map Glo.F)) (.int .i64 x.n)=zs (.fptr (lB m.gs x.n).F 0):=fun k Q hl=>by
  rw[Q];exact ix_fslN (vC hl) rfl
 have ae:∀k:Nat,x.dst=k->k<c.regs.length->Xc gA (fslN (ints c.regs)) (.int .i64 x.dst)=zs (.fptr (.int .i64 (y8 c.regs x.dst)) 0):=fun k Q hl=>by
  rw[Q];exact ix_fslN (Kj hl) rfl
 unfold uT uS uR uQ uP DH DG DF DE DD DC DB DA Ac;simp only[chkF,Ins.F]at J cc|-;by_cases e2:x.op=2
 . have U:=fun t K N=>J x.a t K (Kl C (by simp[D6,e2])) N
   obtain⟨k,Q,hl⟩:=I3 (No C (by simp[e2]));have H:=ae k Q (by omega);unfold isD;simp only[eq_true e2,U,H,XP,seval]
 by_cases e3:x.op=3
 . have U:=fun t K N=>J x.a t K (Kl C (by simp[D6,e3])) N
   have ib:=fun t K N=>J x.b t K (Kl C (by simp[D6,e3])) N
   have id:=fun t K N=>J x.dst t K (No C (by simp[e3])) N
   have d1:∀K:PK,V4 env .add 9 (.str [32]) (.str x.s) K=.val (.str (32::x.s)) K:=fun K=>Rt (by simp only[bigN]at hs;simp;omega)
   have d2:∀K:PK,V4 env .add 9 (.str (32::x.s)) (.str [32]) K=.val (.str (32::(x.s++[32]))) K:=fun K=>Rt (by simp only[bigN]at hs;simp;omega)
   have cn:=fun K=>Nn (K:=K) (s:=Uq) (p:=32::(x.s++[32])) D (by unfold Nm;rfl)
   unfold isD MD CZ CY;unfold Uq at cn|-;by_cases qa:y8 c.regs x.a=x.ty
   . by_cases qb:y8 c.regs x.b=x.ty
     . cases Y:contS (32::(x.s++[32])) [32,61,61,32,33,61,32,60,32,60,61,32,62,32,62,61,32]with
       |_=>simp only[e2,eq_true e3,U,ib,id,d1,d2,cn,Y,eq_true qa,eq_true qb,XP,seval]
     . cases Y:contS (32::(x.s++[32])) [32,61,61,32,33,61,32,60,32,60,61,32,62,32,62,61,32]with
       |_=>simp only[e2,eq_true e3,U,ib,id,d1,d2,cn,Y,eq_true qa,eq_false qb,zkh,XP,seval]
   . cases Y:contS (32::(x.s++[32])) [32,61,61,32,33,61,32,60,32,60,61,32,62,32,62,61,32]with
     |_=>simp only[e2,eq_true e3,U,ib,id,d1,d2,cn,Y,eq_false qa,zkh,XP,seval]
 by_cases e4:x.op=4
 . have id:=fun t K N=>J x.dst t K (No C (by simp[e4])) N
   unfold isD;simp only[e2,e3,eq_true e4,id,tw,XP,seval]
 by_cases X:x.op=5
 . have U:=fun t K N=>J x.a t K (Kl C (by simp[D6,X])) N
   have id:=fun t K N=>J x.dst t K (No C (by simp[X])) N
   obtain⟨k,Q,hl⟩:=I3 (cK C (by simp[X]));have H:=aa k Q (by omega);simp only[Glo.F]at H;unfold isD;by_cases qa:y8 c.regs x.a=2
   . simp only[e2,e3,e4,eq_true X,U,id,H,tw,eq_true qa,XP,seval]
   . simp only[e2,e3,e4,eq_true X,U,id,H,tw,eq_false qa,zkh,XP,seval]
 by_cases e6:x.op=6
 . have U:=fun t K N=>J x.a t K (Kl C (by simp[D6,e6])) N
   have ib:=fun t K N=>J x.b t K (Kl C (by simp[D6,e6])) N
   obtain⟨k,Q,hl⟩:=I3 (cK C (by simp[e6]));have H:=aa k Q (by omega);simp only[Glo.F]at H;unfold isD;by_cases qa:y8 c.regs x.a=2
   . simp only[e2,e3,e4,X,eq_true e6,U,ib,H,tw,eq_true qa,XP,seval]
   . simp only[e2,e3,e4,X,eq_true e6,U,ib,H,tw,eq_false qa,zkh,XP,seval]
 by_cases e7:x.op=7
 . have id:=fun t K N=>J x.dst t K (No C (by simp[e7])) N
   obtain⟨k,Q,hl⟩:=I3 (cK C (by simp[e7]));have H:=aa k Q (by omega);simp only[Glo.F]at H;unfold isD;simp only[e2,e3,e4,X,e6,eq_true e7,id,H,XP,seval]
 by_cases e8:x.op=8
 . have U:=fun t K N=>J x.a t K (Kl C (by simp[D6,e8])) N
   obtain⟨k,Q,hl⟩:=I3 (cK C (by simp[e8]));have H:=aa k Q (by omega);simp only[Glo.F]at H;unfold isD;simp only[e2,e3,e4,X,e6,e7,eq_true e8,U,H,XP,seval]
 by_cases e9:x.op=9
 . have cc:=cc e9
   simp only[e2,e3,e4,X,e6,e7,e8,eq_true e9,cc,XP,seval]
 by_cases ab:x.op=10
 . have id:=fun t K N=>J x.dst t K (No C (by simp[ab])) N
   unfold isD;simp only[e2,e3,e4,X,e6,e7,e8,e9,eq_true ab,id,XP,seval]
 by_cases ad:x.op=11
 . have U:=fun t K N=>J x.a t K (Kl C (by simp[D6,ad])) N
   unfold isD;simp only[e2,e3,e4,X,e6,e7,e8,e9,ab,eq_true ad,U,XP,seval]
 . simp only[e2,e3,e4,X,e6,e7,e8,e9,ab,ad,XP,seval]
def N5:=X6 (fun p:(Modl)×(Cod)×(Ins)=>[chkF p.1 p.2.1,p.2.2.F]) (fun p=>[.bool (Ac p.1 p.2.1 p.2.2)]) (fun p=>p.2.2.ok/\p.2.2.s.length<=bigN/\F4 p.1 p.2.1 p.2.2=zt/\Us p.1 p.2.2)
theorem Bg(B:T 67=zs N5){m:Modl}{c:Cod}{x:Ins}{K:PK}(C:x.ok/\x.s.length<=bigN/\F4 m c x=zt/\Us m x):evP ⟨env,T,A0⟩ (.call 67 [chkF m c,x.F] K)=zs (.val (openTs K.os.length [.bool (Ac m c x)]).1 ⟨K.os++(openTs K.os.length [.bool (Ac m c x)]).2,K.ext,K.tch⟩):=B4 B (by simp only[VV,XP,seval]) (B6 (a:=fun p:(Modl)×(Cod)×(Ins)=>[chkF p.1 p.2.1,p.2.2.F]) (r:=fun p=>[.bool (Ac p.1 p.2.1 p.2.2)]) (fun x y e=>by simp only[VJ]at e;simp only[e]) (m,c,x) C) (by simp only[VN,XP,seval])
theorem Hb(B:T 77=zn)(D:T 79=zn)(C:T 71=zs V2)(H:T 78=zs Ez)(I:PEok ⟨env,T,A0⟩):TC env 67 N5:=B7 I fun p h=>Dd B D C H h
end
section
variable {m:Modl}{c:Cod}{x:Ins}{fr:PF}{i:Nat}{tch:List Nat}
def Q7(m:Modl)(c:Cod)(x:Ins):Int:=if Ki x=zt then(if F4 m c x=zt then(if x.op=9 then(if(x.args.length:Int)=(codI m.fs x.n).ps then(if Ac m c x=zt then 0 else 6)else 7)else(if Ac m c x=zt then 0 else 6))else 11)else 2
theorem De(D:T 65=zs Fc)(C:T 66=zs L9)(B:T 67=zs N5){m:Modl}{c:Cod}{x:Ins}(hk:x.ok/\x.s.length<=bigN):AM.Comes ⟨env,T,A0⟩ 55 [chkF m c,x.F] [.int .i64 (Q7 m c x)]:=by
 refine⟨[.int .i64 (Q7 m c x)],⟨[],0,[]⟩,?_,A9 rfl zqb rfl rfl rfl⟩;rw[A3 (c:=TF) (nt:=37) (rs:=[.tmp 4]) rfl (by simp)];unfold TF;unfold K0;obtain⟨X,Y⟩:=hk;have H:=fun K=>uZ (K:=K) D Y
 have I:=fun K=>Ij (K:=K) (m:=m) (c:=c) C X
 unfold Q7;cases hf:Ki x with
 |false=>
  rw[hf]at H;simp only[Ins.F,chkF]at H|-;simp only[H,XP,seval]
 |true=>
  rw[hf]at H;cases U:F4 m c x with
  |false=>
   rw[U]at I;simp only[Ins.F,chkF]at H I|-;simp only[H,I,XP,seval]
  |true=>
   rw[U]at I;by_cases V:x.op=9
   . obtain ⟨aa,hps⟩:=vB U V
     obtain ⟨k,Q,hkl⟩:=I3 aa;have hi:=Kk (show k<m.fs.length by omega);rw[<-Q]at hi;have J:Xc l6 (fslN (m.fs.map Cod.F)) (.int .i64 x.n)=zs (.fptr (codI m.fs x.n).F 0):=by
      rw[Q]at hi|-;exact ix_fslN hi rfl
     by_cases hq:(x.args.length:Int)=(codI m.fs x.n).ps
     . have N:=fun K=>Bg (K:=K) (m:=m) (c:=c) B ⟨X,Y,U,fun _=>hq⟩
       cases ht:Ac m c x with
       |_=>rw[ht]at N;simp only[Ins.F,chkF,Cod.F]at H I N J|-;simp only[H,I,N,J,eq_true V,eq_true hq,zqa,XP,seval]
     . simp only[Ins.F,chkF,Cod.F]at H I J|-;simp only[H,I,J,eq_true V,hq,zqa,XP,seval]
   . have N:=fun K=>Bg (K:=K) (m:=m) (c:=c) B ⟨X,Y,U,fun h=>absurd h V⟩
     cases ht:Ac m c x with
     |_=>rw[ht]at N;simp only[Ins.F,chkF]at H I N|-;simp only[H,I,N,V,XP,seval]
def C9:=X6 (fun p:(Modl)×(Cod)×(Ins)=>[chkF p.1 p.2.1,p.2.2.F]) (fun p=>[.int .i64 (Q7 p.1 p.2.1 p.2.2)]) (fun p=>p.2.2.ok/\p.2.2.s.length<=bigN)
theorem Bh(B:T 55=zs C9){m:Modl}{c:Cod}{x:Ins}{K:PK}(C:x.ok/\x.s.length<=bigN):evP ⟨env,T,A0⟩ (.call 55 [chkF m c,x.F] K)=zs (.val (openTs K.os.length [.int .i64 (Q7 m c x)]).1 ⟨K.os++(openTs K.os.length [.int .i64 (Q7 m c x)]).2,K.ext,K.tch⟩):=B4 B (by simp only[VV,XP,seval]) (B6 (a:=fun p:(Modl)×(Cod)×(Ins)=>[chkF p.1 p.2.1,p.2.2.F]) (r:=fun p=>[.int .i64 (Q7 p.1 p.2.1 p.2.2)]) (fun x y e=>by simp only[VJ]at e;simp only[e]) (m,c,x) C) (by simp only[VN,XP,seval])
theorem Hc(D:T 65=zs Fc)(B:T 66=zs L9)(C:T 67=zs N5)(H:PEok ⟨env,T,A0⟩):TC env 55 C9:=B7 H fun p h=>De D B C h
def cL(c:Cod)(e:Endd):Int:=
 if e.kind=1 then(if thereD e.to c.blocks.length=zt then 0 else 11)
 else if e.kind=2 then(if thereD e.to c.blocks.length=zt then(if thereD e.els c.blocks.length=zt then(if thereD e.a c.regs.length=zt then(if y8 c.regs e.a=1 then 0 else 6)else 11)else 11)else 11)
 else if e.kind=3 then(if e.a<0 then(if c.ty=0 then 0 else 6)else(if thereD e.a c.regs.length=zt then(if c.ty=0 then 6 else if y8 c.regs e.a=c.ty then 0 else 6)else 11))else 2
theorem Fg(B:T 68=zs J6){m:Modl}{c:Cod}{e:Endd}:AM.Comes ⟨env,T,A0⟩ 56 [chkF m c,e.F] [.int .i64 (cL c e)]:=by
 refine⟨[.int .i64 (cL c e)],⟨[],0,[]⟩,?_,A9 rfl zqb rfl rfl rfl⟩;rw[A3 (c:=TG) (nt:=100) (rs:=[.tmp 4]) rfl (by simp)];unfold TG;unfold K0;have C:=fun a n K=>x6 (K:=K) (a:=a) (n:=n) B
 have N:=nL 4 rfl;have Q:∀k:Nat,e.a=k->k<c.regs.length->Xc gA (fslN (ints c.regs)) (.int .i64 e.a)=zs (.fptr (.int .i64 (y8 c.regs e.a)) 0):=fun k J hl=>by
  rw[J];exact ix_fslN (Kj hl) rfl
 have U:(zt==zt)=zt:=rfl;have V:(zt==zf)=zf:=rfl;have X:(zf==zt)=zf:=rfl;have Y:(zf==zf)=zt:=rfl;unfold cL;simp only[Endd.F,chkF];by_cases e1:e.kind=1
 . cases h1:thereD e.to c.blocks.length with
   |_=>simp only[C,h1,eq_true e1,zqa,XP,seval]
 by_cases e2:e.kind=2
 . cases h1:thereD e.to c.blocks.length with
   |false=>simp only[C,h1,e1,eq_true e2,zqa,XP,seval]
   |true=>
    cases h2:thereD e.els c.blocks.length with
    |false=>simp only[C,h1,h2,e1,eq_true e2,zqa,XP,seval]
    |true=>
     cases H:thereD e.a c.regs.length with
     |false=>simp only[C,h1,h2,H,e1,eq_true e2,zqa,XP,seval]
     |true=>
      obtain⟨k,J,hl⟩:=I3 H;have D:=Q k J (by omega);by_cases hq:y8 c.regs e.a=1
      . simp only[C,h1,h2,H,D,eq_true hq,e1,eq_true e2,zqa,XP,seval]
      . simp only[C,h1,h2,H,D,hq,e1,eq_true e2,zqa,XP,seval]
 by_cases e3:e.kind=3
 . by_cases ha:e.a<0
   . by_cases I:c.ty=0
     . simp only[C,N,U,V,X,Y,eq_true ha,eq_true I,e1,e2,eq_true e3,zqa,XP,seval]
     . simp only[C,N,U,V,X,Y,eq_true ha,I,e1,e2,eq_true e3,zqa,XP,seval]
   . cases H:thereD e.a c.regs.length with
     |false=>simp only[C,H,ha,e1,e2,eq_true e3,zqa,XP,seval]
     |true=>
      obtain⟨k,J,hl⟩:=I3 H;have D:=Q k J (by omega);by_cases I:c.ty=0
      . simp only[C,H,N,U,V,X,Y,ha,eq_true I,e1,e2,eq_true e3,zqa,XP,seval]
      . by_cases hq:y8 c.regs e.a=c.ty
        . simp only[C,H,D,N,U,V,X,Y,ha,I,eq_true hq,e1,e2,eq_true e3,zqa,XP,seval]
        . simp only[C,H,D,N,U,V,X,Y,ha,I,hq,e1,e2,eq_true e3,zqa,XP,seval]
 . simp only[e1,e2,e3,zqa,XP,seval]
def J8:=X6 (fun p:(Modl)×(Cod)×(Endd)=>[chkF p.1 p.2.1,p.2.2.F]) (fun p=>[.int .i64 (cL p.2.1 p.2.2)]) (fun p=>True)
theorem Dq(B:T 56=zs J8){m:Modl}{c:Cod}{e:Endd}{K:PK}:evP ⟨env,T,A0⟩ (.call 56 [chkF m c,e.F] K)=zs (.val (openTs K.os.length [.int .i64 (cL c e)]).1 ⟨K.os++(openTs K.os.length [.int .i64 (cL c e)]).2,K.ext,K.tch⟩):=B4 B (by simp only[VV,XP,seval]) (B6 (a:=fun p:(Modl)×(Cod)×(Endd)=>[chkF p.1 p.2.1,p.2.2.F]) (r:=fun p=>[.int .i64 (cL p.2.1 p.2.2)]) (fun x y e=>by simp only[VJ]at e;simp only[e]) (m,c,e) trivial) (by simp only[VN,XP,seval])
theorem Km(B:T 68=zs J6)(C:PEok ⟨env,T,A0⟩):TC env 56 J8:=B7 C fun p h=>Fg B
def K5:List Int->Int
 |[]=>0
 |e::l=>if e=0 then K5 l else e
theorem err_loop{P:PE}{c:PC}{X:Type}{f:X->Int}{l:List X}{S:Nat->PF}{K:PK}{x:Nat}{Q:PF->Prop}{R:Int->PF->PK->Prop}
 (h1:∀i (h:i<l.length),f l[i]=0->evP P (.code c (S i) K)=zs (.ok .normal (S (i+1)) K))
 (h2:∀i (h:i<l.length),¬f l[i]=0->∃fr' K',evP P (.code c (S i) K)=zs (.ok .ret fr' K')/\R (f l[i]) fr' K')
 (hx:∃fr',evP P (.code c (S l.length) K)=zs (.ok (.exit x) fr' K)/\Q fr'):
 (K5 (l.map f)=0/\∃fr',evP P (.code (.loop c) (S 0) K)=zs (.ok (.exit x) fr' K)/\Q fr')\/(¬K5 (l.map f)=0/\∃fr' K',evP P (.code (.loop c) (S 0) K)=zs (.ok .ret fr' K')/\R (K5 (l.map f)) fr' K'):=by
 have C:∀(n i:Nat),l.length=i+n->(K5 ((l.drop i).map f)=0/\∃fr',evP P (.code (.loop c) (S i) K)=zs (.ok (.exit x) fr' K)/\Q fr')\/(¬K5 ((l.drop i).map f)=0/\∃fr' K',evP P (.code (.loop c) (S i) K)=zs (.ok .ret fr' K')/\R (K5 ((l.drop i).map f)) fr' K'):=fun n=>by
  induction n with
  |zero=>
   intro i e;obtain rfl:i=l.length:=by omega
   obtain⟨fr',h,q⟩:=hx;exact .inl ⟨by rw[zqf];rfl,fr',loop_exit h,q⟩
  |succ n I=>
   intro i e;have hl:i<l.length:=by omega
   rw[zqh hl,zqx];unfold K5;by_cases B:f l[i]=0
   . rw[loop_more (h1 i hl B),if_pos B]
     exact I (i+1) (by omega)
   . obtain⟨fr',K',D,H⟩:=h2 i hl B
     rw[if_neg B];exact .inr ⟨B,fr',K',Y2 D,H⟩
 exact C l.length 0 (by omega)
end
def Ins.sok(x:Ins):Prop:=x.ok/\x.s.length<=bigN
def Blk.sok(b:Blk):Prop:=b.ok/\∀x∈b.code,x.sok
def Cod.sok(c:Cod):Prop:=c.ok/\∀b∈c.blocks,b.sok
def Modl.ok(m:Modl):Prop:=(∀c∈m.fs,c.sok)/\m.fs.length*64<=bigN/\m.gs.length*40<=bigN
section
variable {m:Modl}{c:Cod}{x:Ins}{b:Blk}{fr:PF}{i k:Nat}{tch:List Nat}
def Xu(m:Modl)(c:Cod)(b:Blk):Int:=if K5 (b.code.map (Q7 m c))=0 then cL c b.e else K5 (b.code.map (Q7 m c))
def l7(m:Modl)(c:Cod):Int:=
 if c.blocks.length<1\/400<c.blocks.length\/4096<c.regs.length then 9 else if c.ps<0\/(c.regs.length:Int)<c.ps then 11
 else if c.ty<0\/2<c.ty\/(c.regs.any fun n=>!G6 n)=zt then 6 else K5 (c.blocks.map (Xu m c))
theorem ME(D:T 55=zs C9)(h:k<b.code.length)(C:b.sok)(H:Q7 m c b.code[k]=0):
 evP ⟨env,T,A0⟩ (.code Hp [(1,.ptr 0 0 0),(5,.ptr 1 0 0),(56,fslN (c.blocks.map Blk.F)),(57,.int .i64 (c.blocks.length:Int)),(58,.int .i64 (i:Int)),(63,fslN (b.code.map Ins.F)),(64,.int .i64 (b.code.length:Int)),(65,.int .i64 (k:Int))] ⟨[.row 1 [chkF m c] 7,.row 1 [b.F] 5],0,[]⟩)=zs (.ok .normal [(1,.ptr 0 0 0),(5,.ptr 1 0 0),(56,fslN (c.blocks.map Blk.F)),(57,.int .i64 (c.blocks.length:Int)),(58,.int .i64 (i:Int)),(63,fslN (b.code.map Ins.F)),(64,.int .i64 (b.code.length:Int)),(65,.int .i64 ((k+1:Nat):Int))] ⟨[.row 1 [chkF m c] 7,.row 1 [b.F] 5],0,[]⟩):=by
 unfold Hp;have B:decide ((k:Int)<(b.code.length:Int))=zt:=by simp[h]
 have I:=A1 (i:=k) (by have:=C.1.2;simp only[bigN]at this;omega);have t:=fun K=>Bh (K:=K) (m:=m) (c:=c) (x:=b.code[k]) D (C.2 _ (zqc h))
 rw[H]at t;have hi:=A5 (F:=Ins.F) h;simp only[Ins.F,chkF,Blk.F]at t hi|-;simp only[B,hi,I,t,XP,seval]
theorem MF(C:T 55=zs C9)(h:k<b.code.length)(D:b.sok)(H:¬Q7 m c b.code[k]=0):
 evP ⟨env,T,A0⟩ (.code Hp [(1,.ptr 0 0 0),(5,.ptr 1 0 0),(56,fslN (c.blocks.map Blk.F)),(57,.int .i64 (c.blocks.length:Int)),(58,.int .i64 (i:Int)),(63,fslN (b.code.map Ins.F)),(64,.int .i64 (b.code.length:Int)),(65,.int .i64 (k:Int))] ⟨[.row 1 [chkF m c] 7,.row 1 [b.F] 5],0,[]⟩)=zs (.ok .ret [(2,.int .i64 (Q7 m c b.code[k]))] ⟨[],0,[]⟩):=by
 unfold Hp;have B:decide ((k:Int)<(b.code.length:Int))=zt:=by simp[h]
 have t:=fun K=>Bh (K:=K) (m:=m) (c:=c) (x:=b.code[k]) C (D.2 _ (zqc h))
 have hi:=A5 (F:=Ins.F) h;simp only[Ins.F,chkF,Blk.F]at t hi|-;simp only[B,hi,t,H,XP,seval]
theorem MG:∃fr',evP ⟨env,T,A0⟩ (.code Hp [(1,.ptr 0 0 0),(5,.ptr 1 0 0),(56,fslN (c.blocks.map Blk.F)),(57,.int .i64 (c.blocks.length:Int)),(58,.int .i64 (i:Int)),(63,fslN (b.code.map Ins.F)),(64,.int .i64 (b.code.length:Int)),(65,.int .i64 (b.code.length:Int))] ⟨[.row 1 [chkF m c] 7,.row 1 [b.F] 5],0,[]⟩)=zs (.ok (.exit 3) fr' ⟨[.row 1 [chkF m c] 7,.row 1 [b.F] 5],0,[]⟩)/\(lookP fr' 1=.ptr 0 0 0/\lookP fr' 5=.ptr 1 0 0/\lookP fr' 56=fslN (c.blocks.map Blk.F)/\lookP fr' 57=.int .i64 (c.blocks.length:Int)/\lookP fr' 58=.int .i64 (i:Int)):=by
 unfold Hp;have B:decide ((b.code.length:Int)<(b.code.length:Int))=zf:=by simp
 simp only[B,XP,seval];exact⟨_,rfl,rfl,rfl,rfl,rfl,rfl⟩
theorem cdi_l(C:T 55=zs C9)(D:b.sok):
 (K5 (b.code.map (Q7 m c))=0/\∃fr',evP ⟨env,T,A0⟩ (.code (.loop Hp) [(1,.ptr 0 0 0),(5,.ptr 1 0 0),(56,fslN (c.blocks.map Blk.F)),(57,.int .i64 (c.blocks.length:Int)),(58,.int .i64 (i:Int)),(63,fslN (b.code.map Ins.F)),(64,.int .i64 (b.code.length:Int)),(65,.int .i64 0)] ⟨[.row 1 [chkF m c] 7,.row 1 [b.F] 5],0,[]⟩)=zs (.ok (.exit 3) fr' ⟨[.row 1 [chkF m c] 7,.row 1 [b.F] 5],0,[]⟩)/\(lookP fr' 1=.ptr 0 0 0/\lookP fr' 5=.ptr 1 0 0/\lookP fr' 56=fslN (c.blocks.map Blk.F)/\lookP fr' 57=.int .i64 (c.blocks.length:Int)/\lookP fr' 58=.int .i64 (i:Int)))\/
 (¬K5 (b.code.map (Q7 m c))=0/\evP ⟨env,T,A0⟩ (.code (.loop Hp) [(1,.ptr 0 0 0),(5,.ptr 1 0 0),(56,fslN (c.blocks.map Blk.F)),(57,.int .i64 (c.blocks.length:Int)),(58,.int .i64 (i:Int)),(63,fslN (b.code.map Ins.F)),(64,.int .i64 (b.code.length:Int)),(65,.int .i64 0)] ⟨[.row 1 [chkF m c] 7,.row 1 [b.F] 5],0,[]⟩)=zs (.ok .ret [(2,.int .i64 (K5 (b.code.map (Q7 m c))))] ⟨[],0,[]⟩)):=by
 rcases err_loop (P:=⟨env,T,A0⟩) (c:=Hp) (f:=Q7 m c) (l:=b.code) (S:=fun k=>[(1,.ptr 0 0 0),(5,.ptr 1 0 0),(56,fslN (c.blocks.map Blk.F)),(57,.int .i64 (c.blocks.length:Int)),(58,.int .i64 (i:Int)),(63,fslN (b.code.map Ins.F)),(64,.int .i64 (b.code.length:Int)),(65,.int .i64 (k:Int))]) (K:=⟨[.row 1 [chkF m c] 7,.row 1 [b.F] 5],0,[]⟩) (Q:=fun fr'=>lookP fr' 1=.ptr 0 0 0/\lookP fr' 5=.ptr 1 0 0/\lookP fr' 56=fslN (c.blocks.map Blk.F)/\lookP fr' 57=.int .i64 (c.blocks.length:Int)/\lookP fr' 58=.int .i64 (i:Int)) (R:=fun e fr' K'=>fr'=[(2,.int .i64 e)]/\K'=⟨[],0,[]⟩)
  (fun k h B=>ME C h D B) (fun k h B=>⟨_,_,MF C h D B,rfl,rfl⟩) MG with h|⟨h,fr',K',q,rfl,rfl⟩
 . exact .inl h
 . exact .inr ⟨h,q⟩
theorem MH(H:T 55=zs C9)(I:T 56=zs J8)(h:i<c.blocks.length)(D:c.sok)(B:Xu m c c.blocks[i]=0):
 evP ⟨env,T,A0⟩ (.code Eu [(1,.ptr 0 0 0),(56,fslN (c.blocks.map Blk.F)),(57,.int .i64 (c.blocks.length:Int)),(58,.int .i64 (i:Int))] ⟨[.row 1 [chkF m c] 7],0,[]⟩)=zs (.ok .normal [(1,.ptr 0 0 0),(56,fslN (c.blocks.map Blk.F)),(57,.int .i64 (c.blocks.length:Int)),(58,.int .i64 ((i+1:Nat):Int))] ⟨[.row 1 [chkF m c] 7],0,[]⟩):=by
 have hb:=D.2 _ (zqc h);have C:decide ((i:Int)<(c.blocks.length:Int))=zt:=by simp[h]
 have J:=A1 (i:=i) (by have:=D.1.2.2;simp only[bigN]at this;omega);have hi:=A5 (F:=Blk.F) h;have t:=fun K=>Dq (K:=K) (m:=m) (c:=c) (e:=c.blocks[i].e) I
 unfold Xu at B;rcases cdi_l (m:=m) (c:=c) (i:=i) H hb with⟨q,fr',h1,h2,N,Q,U,V⟩|⟨q,h1⟩
 . rw[if_pos q]at B
   rw[B]at t;unfold Eu;simp only[chkF,Blk.F,Endd.F]at h1 hi t|-;simp only[C,hi,J,h1,h2,N,Q,U,V,t,zqa,XP,seval]
 . rw[if_neg q]at B;exact absurd B q
theorem MI(D:T 55=zs C9)(H:T 56=zs J8)(h:i<c.blocks.length)(I:c.sok)(C:¬Xu m c c.blocks[i]=0):
 evP ⟨env,T,A0⟩ (.code Eu [(1,.ptr 0 0 0),(56,fslN (c.blocks.map Blk.F)),(57,.int .i64 (c.blocks.length:Int)),(58,.int .i64 (i:Int))] ⟨[.row 1 [chkF m c] 7],0,[]⟩)=zs (.ok .ret [(2,.int .i64 (Xu m c c.blocks[i]))] ⟨[],0,[]⟩):=by
 have hb:=I.2 _ (zqc h);have B:decide ((i:Int)<(c.blocks.length:Int))=zt:=by simp[h]
 have hi:=A5 (F:=Blk.F) h;have t:=fun K=>Dq (K:=K) (m:=m) (c:=c) (e:=c.blocks[i].e) H
 unfold Xu at C|-;rcases cdi_l (m:=m) (c:=c) (i:=i) D hb with⟨q,fr',h1,h2,J,N,Q,U⟩|⟨q,h1⟩
 . rw[if_pos q]at C|-
   unfold Eu;simp only[chkF,Blk.F,Endd.F]at h1 hi t|-;simp only[B,hi,h1,h2,J,N,Q,U,t,C,zqa,XP,seval]
 . rw[if_neg q]
   unfold Eu;simp only[chkF,Blk.F]at h1 hi|-;simp only[B,hi,h1,zqa,XP,seval]
theorem MJ:∃fr',evP ⟨env,T,A0⟩ (.code Eu [(1,.ptr 0 0 0),(56,fslN (c.blocks.map Blk.F)),(57,.int .i64 (c.blocks.length:Int)),(58,.int .i64 (c.blocks.length:Int))] ⟨[.row 1 [chkF m c] 7],0,[]⟩)=zs (.ok (.exit 1) fr' ⟨[.row 1 [chkF m c] 7],0,[]⟩)/\True:=by
 unfold Eu;have B:decide ((c.blocks.length:Int)<(c.blocks.length:Int))=zf:=by simp
 simp only[B,XP,seval];exact⟨_,rfl⟩
theorem Dv(B:T 55=zs C9)(D:T 56=zs J8)(H:T 54=zs D3)(U:T 64=zn)(N:T 53=zn){m:Modl}{c:Cod}(hk:c.sok):AM.Comes ⟨env,T,A0⟩ 36 [chkF m c] [.int .i64 (l7 m c)]:=by
 refine⟨[.int .i64 (l7 m c)],⟨[],0,[]⟩,?_,A9 rfl zqb rfl rfl rfl⟩;rw[A3 (c:=SP) (nt:=84) (rs:=[.tmp 2]) rfl (by simp)];unfold SP;unfold K0;have hl:c.regs.length<=bigN:=by have:=hk.1.1;simp only[bigN]at this|-;omega
 have tc:=fun K=>Uo (l:=c.regs) H U N hl K
 have lp:=err_loop (P:=⟨env,T,A0⟩) (c:=Eu) (f:=Xu m c) (l:=c.blocks) (S:=fun i=>[(1,.ptr 0 0 0),(56,fslN (c.blocks.map Blk.F)),(57,.int .i64 (c.blocks.length:Int)),(58,.int .i64 (i:Int))]) (K:=⟨[.row 1 [chkF m c] 7],0,[]⟩) (Q:=fun fr'=>True) (R:=fun e fr' K'=>fr'=[(2,.int .i64 e)]/\K'=⟨[],0,[]⟩)
  (fun k h hp=>MH B D h hk hp) (fun k h hp=>⟨_,_,MI B D h hk hp,rfl,rfl⟩) MJ
 unfold l7;simp only[chkF]at tc lp|-;have I:decide ((400:Int)<(c.blocks.length:Int))=decide (400<c.blocks.length):=decide_eq_decide.2 (by omega);have C:decide ((4096:Int)<(c.regs.length:Int))=decide (4096<c.regs.length):=decide_eq_decide.2 (by omega);have J:decide ((c.blocks.length:Int)<1)=decide (c.blocks.length<1):=decide_eq_decide.2 (by omega);by_cases V:c.blocks.length<1
 . simp only[eq_true V,J,I,C,zqa,XP,seval]
 by_cases X:400<c.blocks.length
 . simp only[eq_false V,eq_true X,J,I,C,zqa,XP,seval]
 by_cases Y:4096<c.regs.length
 . simp only[eq_false V,eq_false X,eq_true Y,J,I,C,zqa,XP,seval]
 by_cases q4:c.ps<0
 . simp only[eq_false V,eq_false X,eq_false Y,eq_true q4,J,I,C,zqa,XP,seval]
 by_cases q5:(c.regs.length:Int)<c.ps
 . simp only[eq_false V,eq_false X,eq_false Y,eq_false q4,eq_true q5,J,I,C,zqa,XP,seval]
 by_cases q6:c.ty<0
 . simp only[eq_false V,eq_false X,eq_false Y,eq_false q4,eq_false q5,eq_true q6,J,I,C,zqa,XP,seval]
 by_cases q7:2<c.ty
 . simp only[eq_false V,eq_false X,eq_false Y,eq_false q4,eq_false q5,eq_false q6,eq_true q7,J,I,C,zqa,XP,seval]
 cases q8:(c.regs.any fun n=>!G6 n)with
 |true=>simp only[eq_false V,eq_false X,eq_false Y,eq_false q4,eq_false q5,eq_false q6,eq_false q7,tc,q8,J,I,C,zqa,XP,seval]
 |false=>
  rcases lp with⟨q,fr',h1,_⟩|⟨q,fr',K',h1,rfl,rfl⟩
  . have h1:evP ⟨env,T,A0⟩ (.code (.loop Eu) [(1,.ptr 0 0 0),(56,fslN (c.blocks.map Blk.F)),(57,.int .i64 (c.blocks.length:Int)),(58,.int .i64 0)] _)=_:=h1
    simp only[eq_false V,eq_false X,eq_false Y,eq_false q4,eq_false q5,eq_false q6,eq_false q7,tc,q8,q,h1,J,I,C,zqa,XP,seval]
  . have h1:evP ⟨env,T,A0⟩ (.code (.loop Eu) [(1,.ptr 0 0 0),(56,fslN (c.blocks.map Blk.F)),(57,.int .i64 (c.blocks.length:Int)),(58,.int .i64 0)] _)=_:=h1
    simp only[eq_false V,eq_false X,eq_false Y,eq_false q4,eq_false q5,eq_false q6,eq_false q7,tc,q8,h1,J,I,C,zqa,XP,seval]
def I4:=X6 (fun p:(Modl)×(Cod)=>[chkF p.1 p.2]) (fun p=>[.int .i64 (l7 p.1 p.2)]) (fun p=>p.2.sok)
theorem Ch(B:T 36=zs I4){m:Modl}{c:Cod}{K:PK}(C:c.sok):evP ⟨env,T,A0⟩ (.call 36 [chkF m c] K)=zs (.val (openTs K.os.length [.int .i64 (l7 m c)]).1 ⟨K.os++(openTs K.os.length [.int .i64 (l7 m c)]).2,K.ext,K.tch⟩):=B4 B (by simp only[VV,XP,seval]) (B6 (a:=fun p:(Modl)×(Cod)=>[chkF p.1 p.2]) (r:=fun p=>[.int .i64 (l7 p.1 p.2)]) (fun x y e=>by simp only[VJ]at e;simp only[e]) (m,c) C) (by simp only[VN,XP,seval])
theorem Ik(C:T 55=zs C9)(D:T 56=zs J8)(B:T 54=zs D3)(I:T 64=zn)(H:T 53=zn)(J:PEok ⟨env,T,A0⟩):TC env 36 I4:=B7 J fun p h=>Dv C D B I H h
end
section
variable {m:Modl}{c:Cod}{g:Glo}{i k:Nat}
def Xv(g:Glo):Int:=if G6 g.ty=zt then 0 else if g.ty=3 then(if g.size<1 then 6 else 0)else 6
def mainI(m:Modl):Int:=idxOf (fun c:Cod=>decide (c.name=B3)) m.fs
def nM(m:Modl):Int:=if mainI m<0 then 12 else if(codI m.fs (mainI m)).ty=1 then(if(codI m.fs (mainI m)).ps=0 then 0 else 12)else 12
def j4(m:Modl):Int:=if K5 (m.gs.map Xv)=0 then(if K5 (m.fs.map (l7 m))=0 then nM m else K5 (m.fs.map (l7 m)))else K5 (m.gs.map Xv)
theorem MK(J:T 35=zs Q6)(h:i<m.gs.length)(N:m.gs.length<=bigN)(B:Xv m.gs[i]=0):
 evP ⟨env,T,A0⟩ (.code Hn [(1,.ptr 0 0 0),(10,fslN (m.gs.map Glo.F)),(11,.int .i64 (m.gs.length:Int)),(12,.int .i64 (i:Int))] ⟨[.row 1 [m.F] 2],0,[]⟩)=zs (.ok .normal [(1,.ptr 0 0 0),(10,fslN (m.gs.map Glo.F)),(11,.int .i64 (m.gs.length:Int)),(12,.int .i64 ((i+1:Nat):Int))] ⟨[.row 1 [m.F] 2],0,[]⟩):=by
 unfold Hn;have C:decide ((i:Int)<(m.gs.length:Int))=zt:=by simp[h]
 have H:=A1 (i:=i) (by simp only[bigN]at N;omega);have t:=fun K=>Ih (K:=K) (n:=m.gs[i].ty) J
 have hi:=A5 (F:=Glo.F) h;unfold Xv at B;simp only[Glo.F,Modl.F]at t hi|-;cases q:G6 m.gs[i].ty with
 |true=>rw[q]at t;simp only[C,hi,H,t,XP,seval]
 |false=>
  rw[q]at t B;by_cases D:m.gs[i].ty=3
  . by_cases I:m.gs[i].size<1
    . rw[if_neg (by decide),if_pos D,if_pos I]at B;cases B
    . simp only[C,hi,H,t,eq_true D,eq_false I,XP,seval]
  . rw[if_neg (by decide),if_neg D]at B;cases B
theorem ML(I:T 35=zs Q6)(h:i<m.gs.length)(B:¬Xv m.gs[i]=0):
 evP ⟨env,T,A0⟩ (.code Hn [(1,.ptr 0 0 0),(10,fslN (m.gs.map Glo.F)),(11,.int .i64 (m.gs.length:Int)),(12,.int .i64 (i:Int))] ⟨[.row 1 [m.F] 2],0,[]⟩)=zs (.ok .ret [(2,.int .i64 (Xv m.gs[i]))] ⟨[],0,[]⟩):=by
 unfold Hn;have C:decide ((i:Int)<(m.gs.length:Int))=zt:=by simp[h]
 have t:=fun K=>Ih (K:=K) (n:=m.gs[i].ty) I
 have hi:=A5 (F:=Glo.F) h;unfold Xv at B|-;simp only[Glo.F,Modl.F]at t hi|-;cases q:G6 m.gs[i].ty with
 |true=>rw[q]at B;exact absurd rfl B
 |false=>
  rw[q]at t B;by_cases D:m.gs[i].ty=3
  . by_cases H:m.gs[i].size<1
    . simp only[C,hi,t,eq_true D,eq_true H,XP,seval]
    . rw[if_neg (by decide),if_pos D,if_neg H]at B;exact absurd rfl B
  . simp only[C,hi,t,eq_false D,XP,seval]
theorem MM:∃fr',evP ⟨env,T,A0⟩ (.code Hn [(1,.ptr 0 0 0),(10,fslN (m.gs.map Glo.F)),(11,.int .i64 (m.gs.length:Int)),(12,.int .i64 (m.gs.length:Int))] ⟨[.row 1 [m.F] 2],0,[]⟩)=zs (.ok (.exit 0) fr' ⟨[.row 1 [m.F] 2],0,[]⟩)/\lookP fr' 1=.ptr 0 0 0:=by
 unfold Hn;have B:decide ((m.gs.length:Int)<(m.gs.length:Int))=zf:=by simp
 simp only[B,XP,seval];exact⟨_,rfl,rfl⟩
theorem MN(D:T 36=zs I4)(h:i<m.fs.length)(C:m.ok)(H:l7 m m.fs[i]=0):
 evP ⟨env,T,A0⟩ (.code Ho [(1,.ptr 0 0 0),(32,fslN (m.fs.map Cod.F)),(33,.int .i64 (m.fs.length:Int)),(34,.int .i64 (i:Int))] ⟨[.row 1 [m.F] 2],0,[]⟩)=zs (.ok .normal [(1,.ptr 0 0 0),(32,fslN (m.fs.map Cod.F)),(33,.int .i64 (m.fs.length:Int)),(34,.int .i64 ((i+1:Nat):Int))] ⟨[.row 1 [m.F] 2],0,[]⟩):=by
 unfold Ho;have B:decide ((i:Int)<(m.fs.length:Int))=zt:=by simp[h]
 have I:=A1 (i:=i) (by have:=C.2.1;simp only[bigN]at this;omega);have t:=fun K=>Ch (K:=K) (m:=m) (c:=m.fs[i]) D (C.1 _ (zqc h))
 rw[H]at t;have hi:=A5 (F:=Cod.F) h;simp only[Cod.F,Modl.F,chkF]at t hi|-;simp only[B,hi,I,t,XP,seval]
theorem MO(C:T 36=zs I4)(h:i<m.fs.length)(D:m.ok)(H:¬l7 m m.fs[i]=0):
 evP ⟨env,T,A0⟩ (.code Ho [(1,.ptr 0 0 0),(32,fslN (m.fs.map Cod.F)),(33,.int .i64 (m.fs.length:Int)),(34,.int .i64 (i:Int))] ⟨[.row 1 [m.F] 2],0,[]⟩)=zs (.ok .ret [(2,.int .i64 (l7 m m.fs[i]))] ⟨[],0,[]⟩):=by
 unfold Ho;have B:decide ((i:Int)<(m.fs.length:Int))=zt:=by simp[h]
 have t:=fun K=>Ch (K:=K) (m:=m) (c:=m.fs[i]) C (D.1 _ (zqc h))
 have hi:=A5 (F:=Cod.F) h;simp only[Cod.F,Modl.F,chkF]at t hi|-;simp only[B,hi,t,H,XP,seval]
theorem MP:∃fr',evP ⟨env,T,A0⟩ (.code Ho [(1,.ptr 0 0 0),(32,fslN (m.fs.map Cod.F)),(33,.int .i64 (m.fs.length:Int)),(34,.int .i64 (m.fs.length:Int))] ⟨[.row 1 [m.F] 2],0,[]⟩)=zs (.ok (.exit 2) fr' ⟨[.row 1 [m.F] 2],0,[]⟩)/\lookP fr' 1=.ptr 0 0 0:=by
 unfold Ho;have B:decide ((m.fs.length:Int)<(m.fs.length:Int))=zf:=by simp
 simp only[B,XP,seval];exact⟨_,rfl,rfl⟩
theorem gO{X:Type}{p:X->Bool}{l:List X}(h:¬idxOf p l<0):∃k:Nat,idxOf p l=k/\∃hk:k<l.length,p l[k]=zt:=by
 unfold idxOf at h|-;cases q:l.findIdx? p with
 |none=>rw[q]at h;exact absurd (by decide) h
 |some i=>
  rw[zqv]at q;exact⟨i,rfl,q.1,q.2.1⟩
theorem Ut(C:T 35=zs Q6)(B:T 36=zs I4)(D:T 37=zs Ab){m:Modl}(V:m.ok):AM.Comes ⟨env,T,A0⟩ 14 [m.F] [.int .i64 (j4 m)]:=by
 refine⟨[.int .i64 (j4 m)],⟨[],0,[]⟩,?_,A9 rfl zqb rfl rfl rfl⟩;rw[A3 (c:=RY) (nt:=68) (rs:=[.tmp 2]) rfl (by simp)];unfold RY;unfold K0;have Y:m.gs.length<=bigN:=by have:=V.2.2;simp only[bigN]at this|-;omega
 have aa:m.fs.length<=bigN:=by have:=V.2.1;simp only[bigN]at this|-;omega
 have tm:=fun K=>kX (K:=K) (m:=m) D aa
 have tm:∀K:PK,evP ⟨env,T,A0⟩ (.call 37 [m.F] K)=zs (.val (openTs K.os.length [.int .i64 (mainI m)]).1 ⟨K.os++(openTs K.os.length [.int .i64 (mainI m)]).2,K.ext,K.tch⟩):=tm;have l1:=err_loop (P:=⟨env,T,A0⟩) (c:=Hn) (f:=Xv) (l:=m.gs) (S:=fun i=>[(1,.ptr 0 0 0),(10,fslN (m.gs.map Glo.F)),(11,.int .i64 (m.gs.length:Int)),(12,.int .i64 (i:Int))]) (K:=⟨[.row 1 [m.F] 2],0,[]⟩) (Q:=fun fr'=>lookP fr' 1=.ptr 0 0 0) (R:=fun e fr' K'=>fr'=[(2,.int .i64 e)]/\K'=⟨[],0,[]⟩)
  (fun k h J=>MK C h Y J) (fun k h J=>⟨_,_,ML C h J,rfl,rfl⟩) MM
 have l2:=err_loop (P:=⟨env,T,A0⟩) (c:=Ho) (f:=l7 m) (l:=m.fs) (S:=fun i=>[(1,.ptr 0 0 0),(32,fslN (m.fs.map Cod.F)),(33,.int .i64 (m.fs.length:Int)),(34,.int .i64 (i:Int))]) (K:=⟨[.row 1 [m.F] 2],0,[]⟩) (Q:=fun fr'=>lookP fr' 1=.ptr 0 0 0) (R:=fun e fr' K'=>fr'=[(2,.int .i64 e)]/\K'=⟨[],0,[]⟩)
  (fun k h J=>MN B h V J) (fun k h J=>⟨_,_,MO B h V J,rfl,rfl⟩) MP
 unfold j4;simp only[Modl.F]at tm l1 l2|-;rcases l1 with⟨q,fr',h1,h2⟩|⟨q,fr',K',h1,rfl,rfl⟩
 . have h1:evP ⟨env,T,A0⟩ (.code (.loop Hn) [(1,.ptr 0 0 0),(10,fslN (m.gs.map Glo.F)),(11,.int .i64 (m.gs.length:Int)),(12,.int .i64 0)] _)=_:=h1
   rw[if_pos q];rcases l2 with⟨q2,ac,H,X⟩|⟨q2,ac,K2,H,rfl,rfl⟩
   . have H:evP ⟨env,T,A0⟩ (.code (.loop Ho) [(1,.ptr 0 0 0),(32,fslN (m.fs.map Cod.F)),(33,.int .i64 (m.fs.length:Int)),(34,.int .i64 0)] _)=_:=H
     rw[if_pos q2];unfold nM;by_cases U:mainI m<0
     . simp only[h1,h2,H,X,tm,eq_true U,zqa,XP,seval]
     . obtain ⟨k,N,ab,_⟩:=gO U
       have hi:=Kk ab;have N:mainI m=k:=N;have I:Xc l6 (fslN (m.fs.map Cod.F)) (.int .i64 (mainI m))=zs (.fptr (codI m.fs (mainI m)).F 0):=by
        rw[N];exact ix_fslN hi rfl
       simp only[Cod.F]at I;by_cases h5:(codI m.fs (mainI m)).ty=1
       . by_cases h6:(codI m.fs (mainI m)).ps=0
         . simp only[h1,h2,H,X,tm,U,I,eq_true h5,eq_true h6,zqa,XP,seval]
         . simp only[h1,h2,H,X,tm,U,I,eq_true h5,h6,zqa,XP,seval]
       . simp only[h1,h2,H,X,tm,U,I,h5,zqa,XP,seval]
   . have H:evP ⟨env,T,A0⟩ (.code (.loop Ho) [(1,.ptr 0 0 0),(32,fslN (m.fs.map Cod.F)),(33,.int .i64 (m.fs.length:Int)),(34,.int .i64 0)] _)=_:=H
     rw[if_neg q2];simp only[h1,h2,H,zqa,XP,seval]
 . have h1:evP ⟨env,T,A0⟩ (.code (.loop Hn) [(1,.ptr 0 0 0),(10,fslN (m.gs.map Glo.F)),(11,.int .i64 (m.gs.length:Int)),(12,.int .i64 0)] _)=_:=h1
   rw[if_neg q];simp only[h1,zqa,XP,seval]
def Ci:=X6 (fun p:(Modl)=>[p.F]) (fun p=>[.int .i64 (j4 p)]) (fun p=>p.ok)
theorem rI(B:T 14=zs Ci){m:Modl}{K:PK}(C:m.ok):evP ⟨env,T,A0⟩ (.call 14 [m.F] K)=zs (.val (openTs K.os.length [.int .i64 (j4 m)]).1 ⟨K.os++(openTs K.os.length [.int .i64 (j4 m)]).2,K.ext,K.tch⟩):=B4 B (by simp only[VV,XP,seval]) (B6 (a:=fun p:(Modl)=>[p.F]) (r:=fun p=>[.int .i64 (j4 p)]) (fun x y e=>by simp only[VJ]at e;simp only[e]) (m) C) (by simp only[VN,XP,seval])
theorem gP(C:T 35=zs Q6)(B:T 36=zs I4)(D:T 37=zs Ab)(H:PEok ⟨env,T,A0⟩):TC env 14 Ci:=B7 H fun p h=>Ut C B D h
end
def Uu{A X ρ:Type}(f:A->X->A⊕ρ):A->List X->A⊕ρ
 |a,[]=>.inl a
 |a,x::l=>match f a x with | .inl a=>Uu f a l | .inr r=>.inr r
theorem lC{P:PE}{c:PC}{A X ρ:Type}{f:A->X->A⊕ρ}{l:List X}{S:Nat->A->PF}{K:A->PK}{x:Nat}{Q:A->PF->Prop}{R:ρ->PF->PK->Prop}
 (h1:∀i a B (h:i<l.length),f a l[i]=.inl B->evP P (.code c (S i a) (K a))=zs (.ok .normal (S (i+1) B) (K B)))
 (h2:∀i a r (h:i<l.length),f a l[i]=.inr r->∃fr' K',evP P (.code c (S i a) (K a))=zs (.ok .ret fr' K')/\R r fr' K')
 (hx:∀a,∃fr',evP P (.code c (S l.length a) (K a))=zs (.ok (.exit x) fr' (K a))/\Q a fr')(a:A):
 (∃B,Uu f a l=.inl B/\∃fr',evP P (.code (.loop c) (S 0 a) (K a))=zs (.ok (.exit x) fr' (K B))/\Q B fr')\/(∃r,Uu f a l=.inr r/\∃fr' K',evP P (.code (.loop c) (S 0 a) (K a))=zs (.ok .ret fr' K')/\R r fr' K'):=by
 have C:∀(n i:Nat)(a:A),l.length=i+n->(∃B,Uu f a (l.drop i)=.inl B/\∃fr',evP P (.code (.loop c) (S i a) (K a))=zs (.ok (.exit x) fr' (K B))/\Q B fr')\/(∃r,Uu f a (l.drop i)=.inr r/\∃fr' K',evP P (.code (.loop c) (S i a) (K a))=zs (.ok .ret fr' K')/\R r fr' K'):=fun n=>by
  induction n with
  |zero=>
   intro i a e;obtain rfl:i=l.length:=by omega
   obtain⟨fr',h,q⟩:=hx a;exact .inl ⟨a,by rw[zqf];rfl,fr',loop_exit h,q⟩
  |succ n J=>
   intro i a e;have hl:i<l.length:=by omega
   rw[zqh hl];unfold Uu;cases D:f a l[i]with
   |inl B=>rw[loop_more (h1 i a B hl D)];exact J (i+1) B (by omega)
   |inr r=>
    obtain⟨fr',K',H,I⟩:=h2 i a r hl D;exact .inr ⟨r,rfl,fr',K',Y2 H,I⟩
 exact C l.length 0 a (by omega)
theorem Gh{P:PE}{c:PC}{A X:Type}{f:A->X->A}{l:List X}{S:Nat->A->PF}{K:A->PK}{x:Nat}{Q:A->PF->Prop}
 (h1:∀i a (h:i<l.length),evP P (.code c (S i a) (K a))=zs (.ok .normal (S (i+1) (f a l[i])) (K (f a l[i]))))
 (hx:∀a,∃fr',evP P (.code c (S l.length a) (K a))=zs (.ok (.exit x) fr' (K a))/\Q a fr')(a:A):
 ∃fr',evP P (.code (.loop c) (S 0 a) (K a))=zs (.ok (.exit x) fr' (K (l.foldl f a)))/\Q (l.foldl f a) fr':=by
 have B:∀(n i:Nat)(a:A),l.length=i+n->∃fr',evP P (.code (.loop c) (S i a) (K a))=zs (.ok (.exit x) fr' (K ((l.drop i).foldl f a)))/\Q ((l.drop i).foldl f a) fr':=fun n=>by
  induction n with
  |zero=>
   intro i a e;obtain rfl:i=l.length:=by omega
   obtain⟨fr',h,q⟩:=hx a;exact⟨fr',by rw[zqf];exact loop_exit h,by rw[zqf];exact q⟩
  |succ n C=>
   intro i a e;have hl:i<l.length:=by omega
   rw[zqh hl,List.foldl_cons,loop_more (h1 i a hl)];exact C (i+1) _ (by omega)
 exact B l.length 0 a (by omega)
section
variable {m:Modl}{c:Cod}{i j k:Nat}{n:Int}
def S1(a:Int)(n:Nat):Int:=IntKind.i64.wrap (a+(n:Int))
def MQ(a:Int)(b:Blk):Int:=b.code.foldl (fun a x=>S1 a x.args.length) (S1 a b.code.length)
def JC(a:Int)(c:Cod):Int:=c.blocks.foldl MQ (S1 (S1 a c.regs.length) c.blocks.length)
def UF(a:Int)(c:Cod):Int⊕Unit:=if 3000<JC a c then .inr ()else .inl (JC a c)
def t8(m:Modl):Bool:=if 20<m.gs.length then zt else if 12<m.fs.length then zt else if(m.gs.all fun g=>!decide (1024<g.size))=zt then(Uu UF 0 m.fs).isRight else zt
def vD(a:Int)(c:Cod):Int:=c.blocks.foldl (fun a b=>S1 a b.code.length) (S1 (S1 a c.regs.length) c.blocks.length)
def m9(m:Modl):Bool:=if 1000<m.fs.foldl vD 0 then zt else if 12<m.fs.length then zt else if t8 m=zt then zt else !decide (j4 m=0)
theorem MR(h:i<m.gs.length)(D:m.gs.length<=bigN)(B:(!decide (1024<m.gs[i].size))=zt):evP ⟨env,T,A0⟩ (.code Hm [(1,.ptr 0 0 0),(3,.int .i64 n),(4,.int .i64 (i:Int))] ⟨[.row 1 [m.F] 2],0,[]⟩)=zs (.ok .normal [(1,.ptr 0 0 0),(3,.int .i64 n),(4,.int .i64 ((i+1:Nat):Int))] ⟨[.row 1 [m.F] 2],0,[]⟩):=by
 unfold Hm;have C:decide ((i:Int)<(m.gs.length:Int))=zt:=by simp[h]
 have H:=A1 (i:=i) (by simp only[bigN]at D;omega);have hi:=A5 (F:=Glo.F) h;have B:decide (1024<m.gs[i].size)=zf:=by simpa using B
 simp only[Glo.F,Modl.F]at hi|-;simp only[C,hi,H,B,zqa,XP,seval]
theorem MS(h:i<m.gs.length)(B:(!decide (1024<m.gs[i].size))=zf):evP ⟨env,T,A0⟩ (.code Hm [(1,.ptr 0 0 0),(3,.int .i64 n),(4,.int .i64 (i:Int))] ⟨[.row 1 [m.F] 2],0,[]⟩)=zs (.ok .ret [(2,.bool zt)] ⟨[],0,[]⟩):=by
 unfold Hm;have C:decide ((i:Int)<(m.gs.length:Int))=zt:=by simp[h]
 have hi:=A5 (F:=Glo.F) h;have B:decide (1024<m.gs[i].size)=zt:=by simpa using B
 simp only[Glo.F,Modl.F]at hi|-;simp only[C,hi,B,zqa,XP,seval]
theorem MT:∃fr',evP ⟨env,T,A0⟩ (.code Hm [(1,.ptr 0 0 0),(3,.int .i64 n),(4,.int .i64 (m.gs.length:Int))] ⟨[.row 1 [m.F] 2],0,[]⟩)=zs (.ok (.exit 0) fr' ⟨[.row 1 [m.F] 2],0,[]⟩)/\(lookP fr' 1=.ptr 0 0 0/\lookP fr' 3=.int .i64 n):=by
 unfold Hm;have B:decide ((m.gs.length:Int)<(m.gs.length:Int))=zf:=by simp
 simp only[Modl.F];simp only[B,zqa,XP,seval];exact⟨_,rfl,rfl,rfl⟩
theorem MU(D:j<c.blocks.length)(H:k<c.blocks[j].code.length)(I:c.ok):evP ⟨env,T,A0⟩ (.code Tq [(1,.ptr 0 0 0),(3,.int .i64 n),(5,.int .i64 (i:Int)),(6,.ptr 1 0 0),(7,.int .i64 (j:Int)),(8,.int .i64 (k:Int))] ⟨[.row 1 [m.F] 2,.row 1 [c.F] 5],0,[]⟩)=zs (.ok .normal [(1,.ptr 0 0 0),(3,.int .i64 (S1 n c.blocks[j].code[k].args.length)),(5,.int .i64 (i:Int)),(6,.ptr 1 0 0),(7,.int .i64 (j:Int)),(8,.int .i64 ((k+1:Nat):Int))] ⟨[.row 1 [m.F] 2,.row 1 [c.F] 5],0,[]⟩):=by
 unfold Tq S1;have hb:=I.2.1 _ (zqc D);have C:decide ((k:Int)<(c.blocks[j].code.length:Int))=zt:=by simp[H]
 have J:=A1 (i:=k) (by have:=hb.2;simp only[bigN]at this;omega);have hi:=A5 (F:=Blk.F) D;have B:=A5 (F:=Ins.F) H;simp only[Blk.F,Ins.F,Modl.F,Cod.F]at hi B|-;simp only[C,hi,B,J,zqa,XP,seval]
theorem MV(C:j<c.blocks.length):∃fr',evP ⟨env,T,A0⟩ (.code Tq [(1,.ptr 0 0 0),(3,.int .i64 n),(5,.int .i64 (i:Int)),(6,.ptr 1 0 0),(7,.int .i64 (j:Int)),(8,.int .i64 (c.blocks[j].code.length:Int))] ⟨[.row 1 [m.F] 2,.row 1 [c.F] 5],0,[]⟩)=zs (.ok (.exit 6) fr' ⟨[.row 1 [m.F] 2,.row 1 [c.F] 5],0,[]⟩)/\(lookP fr' 1=.ptr 0 0 0/\lookP fr' 3=.int .i64 n/\lookP fr' 5=.int .i64 (i:Int)/\lookP fr' 6=.ptr 1 0 0/\lookP fr' 7=.int .i64 (j:Int)):=by
 unfold Tq;have B:decide ((c.blocks[j].code.length:Int)<(c.blocks[j].code.length:Int))=zf:=by simp
 have hi:=A5 (F:=Blk.F) C;simp only[Blk.F,Modl.F,Cod.F]at hi|-;simp only[B,hi,zqa,XP,seval];exact⟨_,rfl,rfl,rfl,rfl,rfl,rfl⟩
theorem MW(B:j<c.blocks.length)(D:c.ok):evP ⟨env,T,A0⟩ (.code Ts [(1,.ptr 0 0 0),(3,.int .i64 n),(5,.int .i64 (i:Int)),(6,.ptr 1 0 0),(7,.int .i64 (j:Int))] ⟨[.row 1 [m.F] 2,.row 1 [c.F] 5],0,[]⟩)=zs (.ok .normal [(1,.ptr 0 0 0),(3,.int .i64 (MQ n c.blocks[j])),(5,.int .i64 (i:Int)),(6,.ptr 1 0 0),(7,.int .i64 ((j+1:Nat):Int))] ⟨[.row 1 [m.F] 2,.row 1 [c.F] 5],0,[]⟩):=by
 have C:decide ((j:Int)<(c.blocks.length:Int))=zt:=by simp[B]
 have I:=A1 (i:=j) (by have:=D.2.2;simp only[bigN]at this;omega);have hi:=A5 (F:=Blk.F) B;obtain⟨fr',h1,h2,H,J,N,U⟩:=Gh (P:=⟨env,T,A0⟩) (c:=Tq) (f:=fun a (x:Ins)=>S1 a x.args.length) (l:=c.blocks[j].code) (S:=fun k n=>[(1,.ptr 0 0 0),(3,.int .i64 n),(5,.int .i64 (i:Int)),(6,.ptr 1 0 0),(7,.int .i64 (j:Int)),(8,.int .i64 (k:Int))]) (K:=fun _=>⟨[.row 1 [m.F] 2,.row 1 [c.F] 5],0,[]⟩) (x:=6) (Q:=fun n fr'=>lookP fr' 1=.ptr 0 0 0/\lookP fr' 3=.int .i64 n/\lookP fr' 5=.int .i64 (i:Int)/\lookP fr' 6=.ptr 1 0 0/\lookP fr' 7=.int .i64 (j:Int)) (fun k a h=>MU B h D) (fun a=>MV B) (S1 n c.blocks[j].code.length);have h1:evP ⟨env,T,A0⟩ (.code (.loop Tq) [(1,.ptr 0 0 0),(3,.int .i64 (S1 n c.blocks[j].code.length)),(5,.int .i64 (i:Int)),(6,.ptr 1 0 0),(7,.int .i64 (j:Int)),(8,.int .i64 0)] ⟨[.row 1 [m.F] 2,.row 1 [c.F] 5],0,[]⟩)=_:=h1;have hn:MQ n c.blocks[j]=c.blocks[j].code.foldl (fun a x=>S1 a x.args.length) (S1 n c.blocks[j].code.length):=rfl;rw[<-hn]at H;unfold Ts;unfold S1 at h1;simp only[Blk.F,Modl.F,Cod.F]at hi h1|-;simp only[C,hi,h1,h2,H,J,N,U,I,zqa,XP,seval]
theorem MX:∃fr',evP ⟨env,T,A0⟩ (.code Ts [(1,.ptr 0 0 0),(3,.int .i64 n),(5,.int .i64 (i:Int)),(6,.ptr 1 0 0),(7,.int .i64 (c.blocks.length:Int))] ⟨[.row 1 [m.F] 2,.row 1 [c.F] 5],0,[]⟩)=zs (.ok (.exit 4) fr' ⟨[.row 1 [m.F] 2,.row 1 [c.F] 5],0,[]⟩)/\(lookP fr' 1=.ptr 0 0 0/\lookP fr' 3=.int .i64 n/\lookP fr' 5=.int .i64 (i:Int)):=by
 unfold Ts;have B:decide ((c.blocks.length:Int)<(c.blocks.length:Int))=zf:=by simp
 simp only[Modl.F,Cod.F];simp only[B,zqa,XP,seval];exact⟨_,rfl,rfl,rfl,rfl⟩
theorem b6c(h:i<m.fs.length)(H:m.ok):(3000<JC n m.fs[i]->evP ⟨env,T,A0⟩ (.code Jz [(1,.ptr 0 0 0),(3,.int .i64 n),(5,.int .i64 (i:Int))] ⟨[.row 1 [m.F] 2],0,[]⟩)=zs (.ok .ret [(2,.bool zt)] ⟨[],0,[]⟩))/\(¬3000<JC n m.fs[i]->evP ⟨env,T,A0⟩ (.code Jz [(1,.ptr 0 0 0),(3,.int .i64 n),(5,.int .i64 (i:Int))] ⟨[.row 1 [m.F] 2],0,[]⟩)=zs (.ok .normal [(1,.ptr 0 0 0),(3,.int .i64 (JC n m.fs[i])),(5,.int .i64 ((i+1:Nat):Int))] ⟨[.row 1 [m.F] 2],0,[]⟩)):=by
 have hc:=(H.1 _ (zqc h)).1;have B:decide ((i:Int)<(m.fs.length:Int))=zt:=by simp[h]
 have J:=A1 (i:=i) (by have:=H.2.1;simp only[bigN]at this;omega);have hi:=A5 (F:=Cod.F) h;generalize m.fs[i]=c at hc hi;obtain⟨fr',h1,h2,D,I⟩:=Gh (P:=⟨env,T,A0⟩) (c:=Ts) (f:=MQ) (l:=c.blocks) (S:=fun j n=>[(1,.ptr 0 0 0),(3,.int .i64 n),(5,.int .i64 (i:Int)),(6,.ptr 1 0 0),(7,.int .i64 (j:Int))]) (K:=fun _=>⟨[.row 1 [m.F] 2,.row 1 [c.F] 5],0,[]⟩) (x:=4) (Q:=fun n fr'=>lookP fr' 1=.ptr 0 0 0/\lookP fr' 3=.int .i64 n/\lookP fr' 5=.int .i64 (i:Int)) (fun k a h=>MW h hc) (fun a=>MX) (S1 (S1 n c.regs.length) c.blocks.length);have h1:evP ⟨env,T,A0⟩ (.code (.loop Ts) [(1,.ptr 0 0 0),(3,.int .i64 (S1 (S1 n c.regs.length) c.blocks.length)),(5,.int .i64 (i:Int)),(6,.ptr 1 0 0),(7,.int .i64 0)] ⟨[.row 1 [m.F] 2,.row 1 [c.F] 5],0,[]⟩)=_:=h1;have hn:JC n c=c.blocks.foldl MQ (S1 (S1 n c.regs.length) c.blocks.length):=rfl;rw[<-hn]at D;unfold Jz;unfold S1 at h1;simp only[Modl.F,Cod.F]at hi h1|-
 constructor
 . intro C
   simp only[B,hi,h1,h2,D,I,eq_true C,zqa,XP,seval]
 . intro C
   simp only[B,hi,h1,h2,D,I,J,C,zqa,XP,seval]
theorem MY:∃fr',evP ⟨env,T,A0⟩ (.code Jz [(1,.ptr 0 0 0),(3,.int .i64 n),(5,.int .i64 (m.fs.length:Int))] ⟨[.row 1 [m.F] 2],0,[]⟩)=zs (.ok (.exit 2) fr' ⟨[.row 1 [m.F] 2],0,[]⟩)/\True:=by
 unfold Jz;have B:decide ((m.fs.length:Int)<(m.fs.length:Int))=zf:=by simp
 simp only[Modl.F];simp only[B,zqa,XP,seval];exact⟨_,rfl⟩
theorem Qw  {m:Modl} (J:m.ok):AM.Comes ⟨env,T,A0⟩ 13 [m.F] [.bool (t8 m)]:=by
 refine⟨[.bool (t8 m)],⟨[],0,[]⟩,?_,A9 rfl zqb rfl rfl rfl⟩;rw[A3 (c:=RX) (nt:=96) (rs:=[.tmp 2]) rfl (by simp)];unfold RX;unfold K0;have U:m.gs.length<=bigN:=by have:=J.2.2;simp only[bigN]at this|-;omega
 have Y:=Ur (P:=⟨env,T,A0⟩) (c:=Hm) (p:=fun g:Glo=>!decide (1024<g.size)) (l:=m.gs) (S:=fun i=>[(1,.ptr 0 0 0),(3,.int .i64 0),(4,.int .i64 (i:Int))]) (K:=⟨[.row 1 [m.F] 2],0,[]⟩) (x:=0) (Q:=fun fr'=>lookP fr' 1=.ptr 0 0 0/\lookP fr' 3=.int .i64 0) (R:=fun fr' K'=>fr'=[(2,.bool zt)]/\K'=⟨[],0,[]⟩)
  (fun i h B=>MR h U B) (fun i h B=>⟨_,_,MS h B,rfl,rfl⟩) MT
 have l2:=lC (P:=⟨env,T,A0⟩) (c:=Jz) (f:=UF) (l:=m.fs) (S:=fun i n=>[(1,.ptr 0 0 0),(3,.int .i64 n),(5,.int .i64 (i:Int))]) (K:=fun _=>⟨[.row 1 [m.F] 2],0,[]⟩) (x:=2) (Q:=fun n fr'=>True) (R:=fun r fr' K'=>fr'=[(2,.bool zt)]/\K'=⟨[],0,[]⟩)
  (fun i a a' h B=>by
    unfold UF at B;split at B
    . cases B
    . rename_i N
      cases B;exact(b6c h J).2 N) (fun i a r h B=>by
    unfold UF at B;split at B
    . rename_i N
      exact⟨_,_,(b6c h J).1 N,rfl,rfl⟩
    . cases B) (fun a=>MY) 0
 have C:decide ((20:Int)<(m.gs.length:Int))=decide (20<m.gs.length):=decide_eq_decide.2 (by omega);have D:decide ((12:Int)<(m.fs.length:Int))=decide (12<m.fs.length):=decide_eq_decide.2 (by omega);unfold t8;simp only[Modl.F]at Y l2|-;by_cases h20:20<m.gs.length
 . simp only[C,D,eq_true h20,zqa,XP,seval]
 by_cases H:12<m.fs.length
 . simp only[C,D,h20,eq_true H,zqa,XP,seval]
 rcases Y with⟨q,fr',h1,h2,h3⟩|⟨q,fr',K',h1,rfl,rfl⟩
 . have h1:evP ⟨env,T,A0⟩ (.code (.loop Hm) [(1,.ptr 0 0 0),(3,.int .i64 0),(4,.int .i64 0)] _)=_:=h1
   rcases l2 with⟨a',V,X,I,_⟩|⟨r,V,X,K2,I,rfl,rfl⟩
   . have I:evP ⟨env,T,A0⟩ (.code (.loop Jz) [(1,.ptr 0 0 0),(3,.int .i64 0),(5,.int .i64 0)] _)=_:=I
     simp only[C,D,h20,H,h1,h2,h3,I,q,V,Sum.isRight_inl,zqa,XP,seval]
   . have I:evP ⟨env,T,A0⟩ (.code (.loop Jz) [(1,.ptr 0 0 0),(3,.int .i64 0),(5,.int .i64 0)] _)=_:=I
     simp only[C,D,h20,H,h1,h2,h3,I,q,V,Sum.isRight_inr,zqa,XP,seval]
 . have h1:evP ⟨env,T,A0⟩ (.code (.loop Hm) [(1,.ptr 0 0 0),(3,.int .i64 0),(4,.int .i64 0)] _)=_:=h1
   simp only[C,D,h20,H,h1,q,zqa,XP,seval]
def Ad:=X6 (fun p:(Modl)=>[p.F]) (fun p=>[.bool (t8 p)]) (fun p=>p.ok)
theorem lD(B:T 13=zs Ad){m:Modl}{K:PK}(C:m.ok):evP ⟨env,T,A0⟩ (.call 13 [m.F] K)=zs (.val (openTs K.os.length [.bool (t8 m)]).1 ⟨K.os++(openTs K.os.length [.bool (t8 m)]).2,K.ext,K.tch⟩):=B4 B (by simp only[VV,XP,seval]) (B6 (a:=fun p:(Modl)=>[p.F]) (r:=fun p=>[.bool (t8 p)]) (fun x y e=>by simp only[VJ]at e;simp only[e]) (m) C) (by simp only[VN,XP,seval])
theorem cM  (B:PEok ⟨env,T,A0⟩):TC env 13 Ad:=B7 B fun p h=>Qw  h
end
section
variable {m:Modl}{c:Cod}{i j k:Nat}{n:Int}
theorem GC(hi:i<m.fs.length)(C:j<m.fs[i].blocks.length)(D:m.fs[i].ok):evP ⟨env,T,A0⟩ (.code kL [(1,.ptr 0 0 0),(3,.int .i64 n),(4,.int .i64 (i:Int)),(5,.int .i64 (j:Int))] ⟨[.row 1 [m.F] 2],0,[]⟩)=zs (.ok .normal [(1,.ptr 0 0 0),(3,.int .i64 (S1 n m.fs[i].blocks[j].code.length)),(4,.int .i64 (i:Int)),(5,.int .i64 ((j+1:Nat):Int))] ⟨[.row 1 [m.F] 2],0,[]⟩):=by
 unfold kL S1;have B:decide ((j:Int)<(m.fs[i].blocks.length:Int))=zt:=by simp[C]
 have H:=A1 (i:=j) (by have:=D.2.2;simp only[bigN]at this;omega);have h1:=A5 (F:=Cod.F) hi;have h2:=A5 (F:=Blk.F) C;simp only[Blk.F,Modl.F,Cod.F]at h1 h2|-;simp only[B,h1,h2,H,zqa,XP,seval]
theorem GD(hi:i<m.fs.length):∃fr',evP ⟨env,T,A0⟩ (.code kL [(1,.ptr 0 0 0),(3,.int .i64 n),(4,.int .i64 (i:Int)),(5,.int .i64 (m.fs[i].blocks.length:Int))] ⟨[.row 1 [m.F] 2],0,[]⟩)=zs (.ok (.exit 2) fr' ⟨[.row 1 [m.F] 2],0,[]⟩)/\(lookP fr' 1=.ptr 0 0 0/\lookP fr' 3=.int .i64 n/\lookP fr' 4=.int .i64 (i:Int)):=by
 unfold kL;have B:decide ((m.fs[i].blocks.length:Int)<(m.fs[i].blocks.length:Int))=zf:=by simp
 have h1:=A5 (F:=Cod.F) hi;simp only[Modl.F,Cod.F]at h1|-;simp only[B,h1,zqa,XP,seval];exact⟨_,rfl,rfl,rfl,rfl⟩
theorem GE(hi:i<m.fs.length)(C:m.ok):evP ⟨env,T,A0⟩ (.code kM [(1,.ptr 0 0 0),(3,.int .i64 n),(4,.int .i64 (i:Int))] ⟨[.row 1 [m.F] 2],0,[]⟩)=zs (.ok .normal [(1,.ptr 0 0 0),(3,.int .i64 (vD n m.fs[i])),(4,.int .i64 ((i+1:Nat):Int))] ⟨[.row 1 [m.F] 2],0,[]⟩):=by
 have hc:=(C.1 _ (zqc hi)).1;have B:decide ((i:Int)<(m.fs.length:Int))=zt:=by simp[hi]
 have H:=A1 (i:=i) (by have:=C.2.1;simp only[bigN]at this;omega);have hg:=A5 (F:=Cod.F) hi;obtain⟨fr',h1,h2,D,I⟩:=Gh (P:=⟨env,T,A0⟩) (c:=kL) (f:=fun a (b:Blk)=>S1 a b.code.length) (l:=m.fs[i].blocks) (S:=fun j n=>[(1,.ptr 0 0 0),(3,.int .i64 n),(4,.int .i64 (i:Int)),(5,.int .i64 (j:Int))]) (K:=fun _=>⟨[.row 1 [m.F] 2],0,[]⟩) (x:=2) (Q:=fun n fr'=>lookP fr' 1=.ptr 0 0 0/\lookP fr' 3=.int .i64 n/\lookP fr' 4=.int .i64 (i:Int)) (fun k a h=>GC hi h hc) (fun a=>GD hi) (S1 (S1 n m.fs[i].regs.length) m.fs[i].blocks.length);have h1:evP ⟨env,T,A0⟩ (.code (.loop kL) [(1,.ptr 0 0 0),(3,.int .i64 (S1 (S1 n m.fs[i].regs.length) m.fs[i].blocks.length)),(4,.int .i64 (i:Int)),(5,.int .i64 0)] ⟨[.row 1 [m.F] 2],0,[]⟩)=_:=h1;have hn:vD n m.fs[i]=m.fs[i].blocks.foldl (fun a (b:Blk)=>S1 a b.code.length) (S1 (S1 n m.fs[i].regs.length) m.fs[i].blocks.length):=rfl;rw[<-hn]at D;unfold kM;unfold S1 at h1;simp only[Modl.F,Cod.F]at hg h1|-;simp only[B,hg,h1,h2,D,I,H,zqa,XP,seval]
theorem GF:∃fr',evP ⟨env,T,A0⟩ (.code kM [(1,.ptr 0 0 0),(3,.int .i64 n),(4,.int .i64 (m.fs.length:Int))] ⟨[.row 1 [m.F] 2],0,[]⟩)=zs (.ok (.exit 0) fr' ⟨[.row 1 [m.F] 2],0,[]⟩)/\(lookP fr' 1=.ptr 0 0 0/\lookP fr' 3=.int .i64 n):=by
 unfold kM;have B:decide ((m.fs.length:Int)<(m.fs.length:Int))=zf:=by simp
 simp only[Modl.F];simp only[B,zqa,XP,seval];exact⟨_,rfl,rfl,rfl⟩
theorem Qx(B:T 13=zs Ad)(C:T 14=zs Ci){m:Modl}(N:m.ok):AM.Comes ⟨env,T,A0⟩ 4 [m.F] [.bool (m9 m)]:=by
 refine⟨[.bool (m9 m)],⟨[],0,[]⟩,?_,A9 rfl zqb rfl rfl rfl⟩;rw[A3 (c:=p4) (nt:=71) (rs:=[.tmp 2]) rfl (by simp)];unfold p4;unfold K0;have U:=fun K=>lD (K:=K) B N
 have tc:=fun K=>rI (K:=K) C N
 obtain⟨fr',h1,h2,I⟩:=Gh (P:=⟨env,T,A0⟩) (c:=kM) (f:=vD) (l:=m.fs) (S:=fun i n=>[(1,.ptr 0 0 0),(3,.int .i64 n),(4,.int .i64 (i:Int))]) (K:=fun _=>⟨[.row 1 [m.F] 2],0,[]⟩) (x:=0) (Q:=fun n fr'=>lookP fr' 1=.ptr 0 0 0/\lookP fr' 3=.int .i64 n) (fun k a h=>GE h N) (fun a=>GF) 0;have h1:evP ⟨env,T,A0⟩ (.code (.loop kM) [(1,.ptr 0 0 0),(3,.int .i64 0),(4,.int .i64 0)] ⟨[.row 1 [m.F] 2],0,[]⟩)=_:=h1;have D:decide ((12:Int)<(m.fs.length:Int))=decide (12<m.fs.length):=decide_eq_decide.2 (by omega);unfold m9;simp only[Modl.F]at U tc h1|-;by_cases J:1000<m.fs.foldl vD 0
 . simp only[h1,h2,I,D,eq_true J,zqa,XP,seval]
 by_cases H:12<m.fs.length
 . simp only[h1,h2,I,D,J,eq_true H,zqa,XP,seval]
 cases hb:t8 m with
 |true=>simp only[h1,h2,I,D,J,H,U,hb,zqa,XP,seval]
 |false=>simp only[h1,h2,I,D,J,H,U,hb,tc,zqa,XP,seval]
def Df:=X6 (fun p:(Modl)=>[p.F]) (fun p=>[.bool (m9 p)]) (fun p=>p.ok)
theorem lE(B:T 4=zs Df){m:Modl}{K:PK}(C:m.ok):evP ⟨env,T,A0⟩ (.call 4 [m.F] K)=zs (.val (openTs K.os.length [.bool (m9 m)]).1 ⟨K.os++(openTs K.os.length [.bool (m9 m)]).2,K.ext,K.tch⟩):=B4 B (by simp only[VV,XP,seval]) (B6 (a:=fun p:(Modl)=>[p.F]) (r:=fun p=>[.bool (m9 p)]) (fun x y e=>by simp only[VJ]at e;simp only[e]) (m) C) (by simp only[VN,XP,seval])
theorem cN(B:T 13=zs Ad)(C:T 14=zs Ci)(D:PEok ⟨env,T,A0⟩):TC env 4 Df:=B7 D fun p h=>Qx B C h
end
theorem GG{K:PK}{n:Nat}{l:List XOp}(h1:(K.tch.all fun i=>decide (n<=i))=zf)(h2:(l.all fun o=>!o.careful)=zf):Ds n l K=zf:=by unfold Ds;rw[h1,h2];rfl
theorem yW{n:Int}(h1:-9223372036854775808<=n)(h2:n<=9223372036854775807):IntKind.wrap .i64 n=n:=by
 rw[IntKind.wrap_i64];omega
theorem D2:zqd 3=[0,1,2]:=rfl
theorem F7:zqd 4=[0,1,2,3]:=rfl
theorem F8:zqd 5=[0,1,2,3,4]:=rfl
theorem F9:zqd 6=[0,1,2,3,4,5]:=rfl
theorem G0:zqd 7=[0,1,2,3,4,5,6]:=rfl
theorem Z7:zqd 8=[0,1,2,3,4,5,6,7]:=rfl
theorem Z8:zqd 9=[0,1,2,3,4,5,6,7,8]:=rfl
theorem M0:zqd 10=[0,1,2,3,4,5,6,7,8,9]:=rfl
theorem Fh:zqd 11=[0,1,2,3,4,5,6,7,8,9,10]:=rfl
theorem Fi:zqd 12=[0,1,2,3,4,5,6,7,8,9,10,11]:=rfl
theorem Fj:zqd 13=[0,1,2,3,4,5,6,7,8,9,10,11,12]:=rfl
theorem Fk:zqd 14=[0,1,2,3,4,5,6,7,8,9,10,11,12,13]:=rfl
section
variable (P:PE)(c:RC)(m:Nat)(g:Option Tmp×Bool)(yt yd:Tmp)(p1 p2:PC)(args:List Operand)
def UG(r:Option PR):Option PR:=match r with|some (.ok .normal fr K)=>zs (.itr .normal zn fr K)|_=>zn
def UH(b:Option Bool)(fr:PF)(K:PK):Option PR:=match b with|some zf=>UG (evP P (.code p2 ((yd,skipped)::fr) K))|_=>zn
def UI(r:Option PR):Option PR:=match r with|some (.ok .normal fr K)=>UH P yd p2 (guardP (zs g) fr) fr K|_=>zn
def UJ(b:Option Bool)(fr:PF)(K:PK):Option PR:=match b with|some zt=>pG P p2 yd fr K (evP P (.round c (opvL P.E args fr) ⟨K.os,K.os.length,[]⟩))|_=>zn
def UK(r:Option PR):Option PR:=match r with|some (.ok .normal fr K)=>UJ P c yd p2 args (guardP (zs g) fr) fr K|_=>zn
def MZ(b:Option Bool)(fr:PF)(K:PK):Option PR:=match b with|some zt=>UK P c g yd p2 args (evP P (.code p1 ((yt,.any)::fr) K))|some zf=>UI P g yd p2 (evP P (.code p1 ((yt,skipped)::fr) K))|none=>zn
def yG0(r:Option PR):Option PR:=match r with|some (.ok .normal fr K)=>MZ P c g yt yd p1 p2 args (guardP (zs g) fr) fr K|_=>zn
variable {P c m g yt yd p1 p2 args}{fr:PF}{K:PK}{e:Ex}
theorem V7:UG (zs (.ok .normal fr K))=zs (.itr .normal zn fr K):=rfl
theorem V8:UH P yd p2 (zs zf) fr K=UG (evP P (.code p2 ((yd,skipped)::fr) K)):=rfl
theorem V9:UI P g yd p2 (zs (.ok .normal fr K))=UH P yd p2 (guardP (zs g) fr) fr K:=rfl
theorem W6:UJ P c yd p2 args (zs zt) fr K=pG P p2 yd fr K (evP P (.round c (opvL P.E args fr) ⟨K.os,K.os.length,[]⟩)):=rfl
theorem W7:UK P c g yd p2 args (zs (.ok .normal fr K))=UJ P c yd p2 args (guardP (zs g) fr) fr K:=rfl
theorem W8:MZ P c g yt yd p1 p2 args (zs zt) fr K=UK P c g yd p2 args (evP P (.code p1 ((yt,.any)::fr) K)):=rfl
theorem W9:MZ P c g yt yd p1 p2 args (zs zf) fr K=UI P g yd p2 (evP P (.code p1 ((yt,skipped)::fr) K)):=rfl
theorem X0:yG0 P c g yt yd p1 p2 args (zs (.ok .normal fr K))=MZ P c g yt yd p1 p2 args (guardP (zs g) fr) fr K:=rfl
theorem H1{t:Tmp}{w:Bool}:guardP (zs (zs t,w)) fr=i7 w (lookP fr t):=rfl
theorem H2{p0:PC}:evP P (.iter c (m+1) (.yreg p0 (zs g) yt p1 yd args p2) zn fr K)=yG0 P c g yt yd p1 p2 args (evP P (.code p0 fr K)):=by
 have B:∀(e:Ex)(x:Option PR),(x >>= fun r=>match r with | .ok .normal fr K=>pure (PR.itr .normal (I5 e) fr K)|_=>zn)=UQ e x:=fun e x=>by
  cases x with
  |none=>rfl
  | some r=>cases r with
   |ok e fr K=>cases e<;>rfl
   |_=>rfl
 rw[evP,evG];cases evP P (.code p0 fr K)with
 |none=>rfl
 | some r => cases r with
  |ok e fr K=>
   cases e with
   |normal=>
    show(match guardP (zs g) fr with|some zt=>_|some zf=>_|none=>_)=MZ P c g yt yd p1 p2 args (guardP (zs g) fr) fr K
    cases guardP (zs g) fr with
    |none=>rfl
    | some b => cases b with
     |true=>
      show(evP P (.code p1 ((yt,.any)::fr) K) >>= _)=UK P c g yd p2 args (evP P (.code p1 ((yt,.any)::fr) K))
      cases evP P (.code p1 ((yt,.any)::fr) K)with
      |none=>rfl
      | some r => cases r with
       |ok e fr K=>
        cases e with
        |normal=>
         show(match guardP (zs g) fr with|some zt=>_|_=>_)=UJ P c yd p2 args (guardP (zs g) fr) fr K
         cases guardP (zs g) fr with
         |none=>rfl
         | some b=>cases b with
          |false=>rfl
          |true=>
           show(evP P (.round c (opvL P.E args fr) ⟨K.os,K.os.length,[]⟩) >>= _)=pG P p2 yd fr K (evP P (.round c (opvL P.E args fr) ⟨K.os,K.os.length,[]⟩))
           cases evP P (.round c (opvL P.E args fr) ⟨K.os,K.os.length,[]⟩)with
           |none=>rfl
           | some r=>cases r with
            |ok e fr1 K1=>exact B e _
            |_=>rfl
        |_=>rfl
       |_=>rfl
     |false=>
      show(evP P (.code p1 ((yt,skipped)::fr) K) >>= _)=UI P g yd p2 (evP P (.code p1 ((yt,skipped)::fr) K))
      cases evP P (.code p1 ((yt,skipped)::fr) K)with
      |none=>rfl
      | some r => cases r with
       |ok e fr K=>
        cases e with
        |normal=>
         show(match guardP (zs g) fr with|some zf=>_|_=>_)=UH P yd p2 (guardP (zs g) fr) fr K
         cases guardP (zs g) fr with
         |none=>rfl
         | some b=>cases b with
          |true=>rfl
          |false=>
           show(evP P (.code p2 ((yd,skipped)::fr) K) >>= _)=UG (evP P (.code p2 ((yd,skipped)::fr) K))
           cases evP P (.code p2 ((yd,skipped)::fr) K)with
           |none=>rfl
           | some r=>cases r with
            |ok e fr K=>cases e<;>rfl
            |_=>rfl
        |_=>rfl
       |_=>rfl
   |_=>rfl
  |_=>rfl
end
def callsI(l:List Ins):List Int:=(l.filter fun x=>x.op=9).map (·.n)
def callsD(c:Cod):List Int:=c.blocks.flatMap fun b=>callsI b.code
section
variable {c:Cod}{b:Blk}{gs fs G:List AV}{k i m n ex:Nat}{a:List Int}{fr:PF}{tch:List Nat}{x:Ins}{f:Bool}{xs:List AV}
def x8(pre:List PO)(c:Cod)(a:List Int)(t:List PO):List PO:=pre++(match a with|[]=>.row 1 [.nilsl] 1::.row 1 [c.F] 5::t|x::l=>.row 1 [.msl (pre.length+2) 0 (x::l).length 1] 1::.row 1 [c.F] 5::.row 0 (ints (x::l)) 1::t)
def nE(a:List Int):Nat:=match a with|[]=>0|_::_=>1
theorem Py{l:List Ins}{x:Ins}:callsI (x::l)=callsI [x]++callsI l:=by
 unfold callsI;by_cases h:x.op=9<;>simp[h]
theorem Pz{l:List Ins}{k:Nat}(h:k<l.length):callsI (l.drop k)=callsI [l[k]]++callsI (l.drop (k+1)):=by
 rw[zqh h,Py]
theorem Ae(l:List Ins):(callsI l).length<=l.length:=by unfold callsI;rw[zqa];exact List.length_filter_le _ _
theorem Il{x:Ins}(h:x.op=9):callsI [x]=[x.n]:=by unfold callsI;simp[h]
theorem Np{x:Ins}(h:¬x.op=9):callsI [x]=[]:=by unfold callsI;simp[h]
theorem Kn{v:AV}{o:Nat}:c8 (.fptr v o)=zs (.fptr v o):=rfl
theorem NA(C:lookP fr 7=.ptr 2 0 0):∃fr' B,evP ⟨env,T,A0⟩ (.round ⟨[18],p19q0,p19r0,fr⟩ [.fptr x.F 0] ⟨[.row 1 [.agg [fslN gs,fslN fs]] 2,.row 1 [c.F] 5,.row 1 [.nilsl] 1,.row 1 [c.F] 5,.row 1 [b.F] 5],5,tch⟩)=zs (.ok .normal fr' ⟨[.row 1 [.agg [fslN gs,fslN fs]] 2,.row 1 [c.F] 5,.row 1 [.msl 5 0 1 1] 1,.row 1 [c.F] 5,.row 1 [b.F] 5,.row 0 [.int .i64 x.n] 1],5,B⟩):=by
 rw[Mh (by rfl)];unfold p19q0 p19r0;simp only[Ins.F,Blk.F,Cod.F];simp only[An,Co,Xb,C,Kn,D2,F7,F8,F9,G0,Z7,Z8,M0,XP,seval];exact⟨_,_,rfl⟩
theorem NB(C:lookP fr 7=.ptr 2 0 0)(ha:a.length+1<=10000000):∃fr' B,evP ⟨env,T,A0⟩ (.round ⟨[18],p19q0,p19r0,fr⟩ [.fptr x.F 0] ⟨[.row 1 [.agg [fslN gs,fslN fs]] 2,.row 1 [c.F] 5,.row 1 [.msl 4 0 a.length 1] 1,.row 1 [c.F] 5,.row 0 (ints a) 1,.row 1 [b.F] 5],6,tch⟩)=zs (.ok .normal fr' ⟨[.row 1 [.agg [fslN gs,fslN fs]] 2,.row 1 [c.F] 5,.row 1 [.msl 6 0 (a.length+1) 1] 1,.row 1 [c.F] 5,.dead,.row 1 [b.F] 5,.row 0 (ints (a++[x.n])) 1],6,B⟩):=by
 rw[Mh (by rfl)];unfold p19q0 p19r0;have hl:(ints a).length=a.length:=by simp[ints]
 have hz:(a.length+1)*8<=140737488355328:=by omega
 have D:ints (a++[x.n])=ints a++[.int .i64 x.n]:=by simp[ints]
 rw[D];simp only[Ins.F,Blk.F,Cod.F];simp only[An,Co,Xb,C,Kn,hl,hz,D2,F7,F8,F9,G0,Z7,Z8,M0,XP,seval];exact⟨_,_,rfl⟩
theorem GH(J:lookP fr 7=.ptr 2 0 0)(I:k<b.code.length)(B:b.code[k].op=9)(N:b.code.length*88<=bigN):∃C,evP ⟨env,T,A0⟩ (.iter (⟨[18],p19q0,p19r0,fr⟩:RC) (m+1+1+1+1+1+1+1+1+1+1+1+1+1+1+1+1) p44b0 zn [(4,.ptr 4 0 0),(8,.fsl xs f),(9,.int .i64 n),(10,.int .i64 i),(16,.int .i64 b.code.length),(17,.int .i64 (k:Nat))] ⟨[.row 1 [.agg [fslN gs,fslN fs]] 2,.row 1 [c.F] 5,.row 1 [.nilsl] 1,.row 1 [c.F] 5,.row 1 [b.F] 5],4,tch⟩)=zs (.itr .normal zn [(4,.ptr 5 0 0),(8,.fsl xs f),(9,.int .i64 n),(10,.int .i64 i),(16,.int .i64 b.code.length),(17,.int .i64 (k+1:Nat))] ⟨[.row 1 [.agg [fslN gs,fslN fs]] 2,.row 1 [c.F] 5,.row 1 [.msl 4 0 1 1] 1,.row 1 [c.F] 5,.row 0 (ints [b.code[k].n]) 1,.row 1 [b.F] 5],4,C⟩):=by
 have hg:=A5 (F:=Ins.F) I;have H:decide ((k:Int)<(b.code.length:Int))=zt:=by simp[I]
 have Q:=A1 (i:=k) (by simp only[bigN]at N;omega);obtain⟨fr1,t1,D⟩:=NA (T:=T) (c:=c) (b:=b) (gs:=gs) (fs:=fs) (x:=b.code[k]) (tch:=[]) J;unfold p44b0;simp only[Ins.F,Blk.F,Cod.F]at hg D|-;generalize p19q0=q0 at D|-;generalize p19r0=r0 at D|-;have U:decide (b.code[k].op=9)=zt:=by simp[B]
 simp only[M4,X1,H3,H4,H5,H6,X2,M3,E3,E4,I0,H7,H8,H9,M5,X3,E8,X5,H2,V7,V8,V9,W6,W7,W8,W9,X0,H1,X4,M6,E5,E6,E7,wentOn,I5,hg,H,Q,U,D,Kn,eq_true B,D2,F7,F8,F9,G0,Z7,Z8,M0,ints,zqx,List.map_nil,XP,seval];exact⟨_,rfl⟩
theorem GI(J:lookP fr 7=.ptr 2 0 0)(ha:a.length+1<=10000000)(I:k<b.code.length)(B:b.code[k].op=9)(N:b.code.length*88<=bigN):∃C,evP ⟨env,T,A0⟩ (.iter (⟨[18],p19q0,p19r0,fr⟩:RC) (m+1+1+1+1+1+1+1+1+1+1+1+1+1+1+1+1) p44b0 zn [(4,.ptr 5 0 0),(8,.fsl xs f),(9,.int .i64 n),(10,.int .i64 i),(16,.int .i64 b.code.length),(17,.int .i64 (k:Nat))] ⟨[.row 1 [.agg [fslN gs,fslN fs]] 2,.row 1 [c.F] 5,.row 1 [.msl 4 0 a.length 1] 1,.row 1 [c.F] 5,.row 0 (ints a) 1,.row 1 [b.F] 5],4,tch⟩)=zs (.itr .normal zn [(4,.ptr 5 0 0),(8,.fsl xs f),(9,.int .i64 n),(10,.int .i64 i),(16,.int .i64 b.code.length),(17,.int .i64 (k+1:Nat))] ⟨[.row 1 [.agg [fslN gs,fslN fs]] 2,.row 1 [c.F] 5,.row 1 [.msl 4 0 (a.length+1) 1] 1,.row 1 [c.F] 5,.row 0 (ints (a++[b.code[k].n])) 1,.row 1 [b.F] 5],4,C⟩):=by
 have hg:=A5 (F:=Ins.F) I;have H:decide ((k:Int)<(b.code.length:Int))=zt:=by simp[I]
 have Q:=A1 (i:=k) (by simp only[bigN]at N;omega);obtain⟨fr1,t1,D⟩:=NB (T:=T) (c:=c) (b:=b) (gs:=gs) (fs:=fs) (x:=b.code[k]) (a:=a) (tch:=[]) J ha;unfold p44b0;simp only[Ins.F,Blk.F,Cod.F]at hg D|-;generalize p19q0=q0 at D|-;generalize p19r0=r0 at D|-;generalize ints (a++[b.code[k].n])=ia at D|-;have U:decide (b.code[k].op=9)=zt:=by simp[B]
 simp only[M4,X1,H3,H4,H5,H6,X2,M3,E3,E4,I0,H7,H8,H9,M5,X3,E8,X5,H2,V7,V8,V9,W6,W7,W8,W9,X0,H1,X4,M6,E5,E6,E7,wentOn,I5,hg,H,Q,U,D,Kn,eq_true B,D2,F7,F8,F9,G0,Z7,Z8,M0,XP,seval];exact⟨_,rfl⟩
theorem GJ(H:k<b.code.length)(B:¬b.code[k].op=9)(I:b.code.length*88<=bigN):∃C,evP ⟨env,T,A0⟩ (.iter (⟨[18],p19q0,p19r0,fr⟩:RC) (m+1+1+1+1+1+1+1+1+1+1+1+1+1+1+1+1) p44b0 zn [(4,.ptr 4 0 0),(8,.fsl xs f),(9,.int .i64 n),(10,.int .i64 i),(16,.int .i64 b.code.length),(17,.int .i64 (k:Nat))] ⟨[.row 1 [.agg [fslN gs,fslN fs]] 2,.row 1 [c.F] 5,.row 1 [.nilsl] 1,.row 1 [c.F] 5,.row 1 [b.F] 5],4,tch⟩)=zs (.itr .normal zn [(4,.ptr 4 0 0),(8,.fsl xs f),(9,.int .i64 n),(10,.int .i64 i),(16,.int .i64 b.code.length),(17,.int .i64 (k+1:Nat))] ⟨[.row 1 [.agg [fslN gs,fslN fs]] 2,.row 1 [c.F] 5,.row 1 [.nilsl] 1,.row 1 [c.F] 5,.row 1 [b.F] 5],4,C⟩):=by
 have hg:=A5 (F:=Ins.F) H;have D:decide ((k:Int)<(b.code.length:Int))=zt:=by simp[H]
 have J:=A1 (i:=k) (by simp only[bigN]at I;omega);unfold p44b0;simp only[Ins.F,Blk.F,Cod.F]at hg|-;have N:decide (b.code[k].op=9)=zf:=by simp[B]
 simp only[M4,X1,H3,H4,H5,H6,X2,M3,E3,E4,I0,H7,H8,H9,M5,X3,E8,X5,H2,V7,V8,V9,W6,W7,W8,W9,X0,H1,X4,M6,E5,E6,E7,wentOn,I5,hg,D,J,N,Kn,B,D2,F7,F8,F9,G0,Z7,Z8,M0,XP,seval];exact⟨_,rfl⟩
theorem GK(H:k<b.code.length)(B:¬b.code[k].op=9)(I:b.code.length*88<=bigN):∃C,evP ⟨env,T,A0⟩ (.iter (⟨[18],p19q0,p19r0,fr⟩:RC) (m+1+1+1+1+1+1+1+1+1+1+1+1+1+1+1+1) p44b0 zn [(4,.ptr 5 0 0),(8,.fsl xs f),(9,.int .i64 n),(10,.int .i64 i),(16,.int .i64 b.code.length),(17,.int .i64 (k:Nat))] ⟨[.row 1 [.agg [fslN gs,fslN fs]] 2,.row 1 [c.F] 5,.row 1 [.msl 4 0 a.length 1] 1,.row 1 [c.F] 5,.row 0 (ints a) 1,.row 1 [b.F] 5],4,tch⟩)=zs (.itr .normal zn [(4,.ptr 5 0 0),(8,.fsl xs f),(9,.int .i64 n),(10,.int .i64 i),(16,.int .i64 b.code.length),(17,.int .i64 (k+1:Nat))] ⟨[.row 1 [.agg [fslN gs,fslN fs]] 2,.row 1 [c.F] 5,.row 1 [.msl 4 0 a.length 1] 1,.row 1 [c.F] 5,.row 0 (ints a) 1,.row 1 [b.F] 5],4,C⟩):=by
 have hg:=A5 (F:=Ins.F) H;have D:decide ((k:Int)<(b.code.length:Int))=zt:=by simp[H]
 have J:=A1 (i:=k) (by simp only[bigN]at I;omega);unfold p44b0;simp only[Ins.F,Blk.F,Cod.F]at hg|-;have N:decide (b.code[k].op=9)=zf:=by simp[B]
 simp only[M4,X1,H3,H4,H5,H6,X2,M3,E3,E4,I0,H7,H8,H9,M5,X3,E8,X5,H2,V7,V8,V9,W6,W7,W8,W9,X0,H1,X4,M6,E5,E6,E7,wentOn,I5,hg,D,J,N,Kn,B,D2,F7,F8,F9,G0,Z7,Z8,M0,XP,seval];exact⟨_,rfl⟩
theorem ita(I:lookP fr 7=.ptr 2 0 0)(ha:a.length+1<=10000000)(D:k<b.code.length)(H:b.code.length*88<=bigN):∃C,evP ⟨env,T,A0⟩ (.iter (⟨[18],p19q0,p19r0,fr⟩:RC) (m+1+1+1+1+1+1+1+1+1+1+1+1+1+1+1+1) p44b0 zn [(4,.ptr (4+nE a) 0 0),(8,.fsl xs f),(9,.int .i64 n),(10,.int .i64 i),(16,.int .i64 b.code.length),(17,.int .i64 (k:Nat))] ⟨x8 [.row 1 [.agg [fslN gs,fslN fs]] 2,.row 1 [c.F] 5] c a [.row 1 [b.F] 5],4,tch⟩)=zs (.itr .normal zn [(4,.ptr (4+nE (a++callsI [b.code[k]])) 0 0),(8,.fsl xs f),(9,.int .i64 n),(10,.int .i64 i),(16,.int .i64 b.code.length),(17,.int .i64 (k+1:Nat))] ⟨x8 [.row 1 [.agg [fslN gs,fslN fs]] 2,.row 1 [c.F] 5] c (a++callsI [b.code[k]]) [.row 1 [b.F] 5],4,C⟩):=by
 by_cases B:b.code[k].op=9
 . rw [Il B]
   cases a with
   |nil=>exact GH I D B H
   |cons y l=>
    have:=GI (T:=T) (c:=c) (gs:=gs) (fs:=fs) (a:=y::l) (tch:=tch) (m:=m) (n:=n) (i:=i) (xs:=xs) (f:=f) I ha D B H
    rw[show(y::l).length+1=(y::(l++[b.code[k].n])).length by simp]at this;exact this
 . rw[Np B,zqn]
   cases a with
   |nil=>exact GJ D B H
   |cons y l=>exact GK (a:=y::l) D B H
theorem NC{e:Nat}{K:PK}:∃fr',evP ⟨env,T,A0⟩ (.iter (⟨[18],p19q0,p19r0,fr⟩:RC) (m+1+1+1+1+1+1+1+1+1+1+1+1+1+1+1+1) p44b0 zn [(4,.ptr (e) 0 0),(8,.fsl xs f),(9,.int .i64 n),(10,.int .i64 i),(16,.int .i64 b.code.length),(17,.int .i64 (b.code.length:Nat))] K)=zs (.itr (.exit 2) zn fr' K)/\lookP fr' 8=.fsl xs f/\lookP fr' 9=.int .i64 n/\lookP fr' 10=.int .i64 i:=by
 unfold p44b0;have B:decide ((b.code.length:Int)<(b.code.length:Int))=zf:=by simp
 simp only[M4,X1,H3,H4,H5,H6,X2,M3,E3,E4,I0,H7,H8,H9,M5,X3,E8,X5,H2,V7,V8,V9,W6,W7,W8,W9,X0,H1,X4,M6,E5,E6,E7,wentOn,I5,B,XP,seval];exact⟨_,rfl,rfl,rfl,rfl⟩
theorem DO(C:lookP fr 7=.ptr 2 0 0)(D:b.code.length*88<=bigN):∀(q k m:Nat)(a:List Int)(tch:List Nat),b.code.length=k+q->q+20<=m->a.length+q<=10000000 ->
 ∃fr' B,evP ⟨env,T,A0⟩ (.iter (⟨[18],p19q0,p19r0,fr⟩:RC) m (.loop p44b0) zn [(4,.ptr (4+nE a) 0 0),(8,.fsl xs f),(9,.int .i64 n),(10,.int .i64 i),(16,.int .i64 b.code.length),(17,.int .i64 (k:Nat))] ⟨x8 [.row 1 [.agg [fslN gs,fslN fs]] 2,.row 1 [c.F] 5] c a [.row 1 [b.F] 5],4,tch⟩)=zs (.itr (.exit 2) zn fr' ⟨x8 [.row 1 [.agg [fslN gs,fslN fs]] 2,.row 1 [c.F] 5] c (a++callsI (b.code.drop k)) [.row 1 [b.F] 5],4,B⟩)/\lookP fr' 8=.fsl xs f/\lookP fr' 9=.int .i64 n/\lookP fr' 10=.int .i64 i
 |0,k,m,a,tch,e,hm,ha=>by
  obtain rfl:k=b.code.length:=by omega
  obtain⟨r,rfl⟩:∃r,m=r+1+1+1+1+1+1+1+1+1+1+1+1+1+1+1+1+1:=⟨m-17,by omega⟩
  obtain⟨fr',h1,h2⟩:=NC (T:=T) (fr:=fr) (b:=b) (xs:=xs) (f:=f) (n:=n) (i:=i) (m:=r) (e:=4+nE a) (K:=⟨x8 [.row 1 [.agg [fslN gs,fslN fs]] 2,.row 1 [c.F] 5] c a [.row 1 [b.F] 5],4,tch⟩);refine⟨fr',tch,?_,h2⟩;rw[u4,h1,zqf,show callsI []=[]from rfl,zqn];rfl
 |q+1,k,m,a,tch,e,hm,ha=>by
  have H:k<b.code.length:=by omega
  obtain⟨r,rfl⟩:∃r,m=r+1+1+1+1+1+1+1+1+1+1+1+1+1+1+1+1+1:=⟨m-17,by omega⟩
  obtain⟨I,h1⟩:=ita (T:=T) (c:=c) (gs:=gs) (fs:=fs) (a:=a) (tch:=tch) (m:=r) (n:=n) (i:=i) (xs:=xs) (f:=f) (b:=b) C (by omega) H D;obtain⟨fr',J,h2,N⟩:=DO C D q (k+1) (r+1+1+1+1+1+1+1+1+1+1+1+1+1+1+1+1) (a++callsI [b.code[k]]) I (by omega) (by omega) (by have:=Ae [b.code[k]];simp only[zqp,zqg,zqe]at this|-;omega);refine⟨fr',J,?_,N⟩;rw[u4,h1,Pz H,<-zqq];exact h2
theorem ND(C:lookP fr 7=.ptr 3 0 0):∃fr' B,evP ⟨env,T,A0⟩ (.round ⟨[18],p19q0,p19r0,fr⟩ [.fptr x.F 0] ⟨[.row 1 [.agg [fslN gs,fslN fs]] 2,.row 0 G 1,.row 1 [c.F] 5,.row 1 [.nilsl] 1,.row 1 [c.F] 5,.row 1 [b.F] 5],6,tch⟩)=zs (.ok .normal fr' ⟨[.row 1 [.agg [fslN gs,fslN fs]] 2,.row 0 G 1,.row 1 [c.F] 5,.row 1 [.msl 6 0 1 1] 1,.row 1 [c.F] 5,.row 1 [b.F] 5,.row 0 [.int .i64 x.n] 1],6,B⟩):=by
 rw[Mh (by rfl)];unfold p19q0 p19r0;simp only[Ins.F,Blk.F,Cod.F];simp only[An,Co,Xb,C,Kn,D2,F7,F8,F9,G0,Z7,Z8,M0,XP,seval];exact⟨_,_,rfl⟩
theorem NE(C:lookP fr 7=.ptr 3 0 0)(ha:a.length+1<=10000000):∃fr' B,evP ⟨env,T,A0⟩ (.round ⟨[18],p19q0,p19r0,fr⟩ [.fptr x.F 0] ⟨[.row 1 [.agg [fslN gs,fslN fs]] 2,.row 0 G 1,.row 1 [c.F] 5,.row 1 [.msl 5 0 a.length 1] 1,.row 1 [c.F] 5,.row 0 (ints a) 1,.row 1 [b.F] 5],7,tch⟩)=zs (.ok .normal fr' ⟨[.row 1 [.agg [fslN gs,fslN fs]] 2,.row 0 G 1,.row 1 [c.F] 5,.row 1 [.msl 7 0 (a.length+1) 1] 1,.row 1 [c.F] 5,.dead,.row 1 [b.F] 5,.row 0 (ints (a++[x.n])) 1],7,B⟩):=by
 rw[Mh (by rfl)];unfold p19q0 p19r0;have hl:(ints a).length=a.length:=by simp[ints]
 have hz:(a.length+1)*8<=140737488355328:=by omega
 have D:ints (a++[x.n])=ints a++[.int .i64 x.n]:=by simp[ints]
 rw[D];simp only[Ins.F,Blk.F,Cod.F];simp only[An,Co,Xb,C,Kn,hl,hz,D2,F7,F8,F9,G0,Z7,Z8,M0,XP,seval];exact⟨_,_,rfl⟩
theorem GL(J:lookP fr 7=.ptr 3 0 0)(I:k<b.code.length)(B:b.code[k].op=9)(N:b.code.length*88<=bigN):∃C,evP ⟨env,T,A0⟩ (.iter (⟨[18],p19q0,p19r0,fr⟩:RC) (m+1+1+1+1+1+1+1+1+1+1+1+1+1+1+1+1) p44b0 zn [(4,.ptr 5 0 0),(8,.fsl xs f),(9,.int .i64 n),(10,.int .i64 i),(16,.int .i64 b.code.length),(17,.int .i64 (k:Nat))] ⟨[.row 1 [.agg [fslN gs,fslN fs]] 2,.row 0 G 1,.row 1 [c.F] 5,.row 1 [.nilsl] 1,.row 1 [c.F] 5,.row 1 [b.F] 5],5,tch⟩)=zs (.itr .normal zn [(4,.ptr 6 0 0),(8,.fsl xs f),(9,.int .i64 n),(10,.int .i64 i),(16,.int .i64 b.code.length),(17,.int .i64 (k+1:Nat))] ⟨[.row 1 [.agg [fslN gs,fslN fs]] 2,.row 0 G 1,.row 1 [c.F] 5,.row 1 [.msl 5 0 1 1] 1,.row 1 [c.F] 5,.row 0 (ints [b.code[k].n]) 1,.row 1 [b.F] 5],5,C⟩):=by
 have hg:=A5 (F:=Ins.F) I;have H:decide ((k:Int)<(b.code.length:Int))=zt:=by simp[I]
 have Q:=A1 (i:=k) (by simp only[bigN]at N;omega);obtain⟨fr1,t1,D⟩:=ND (T:=T) (c:=c) (b:=b) (gs:=gs) (fs:=fs) (G:=G) (x:=b.code[k]) (tch:=[]) J;unfold p44b0;simp only[Ins.F,Blk.F,Cod.F]at hg D|-;generalize p19q0=q0 at D|-;generalize p19r0=r0 at D|-;have U:decide (b.code[k].op=9)=zt:=by simp[B]
 simp only[M4,X1,H3,H4,H5,H6,X2,M3,E3,E4,I0,H7,H8,H9,M5,X3,E8,X5,H2,V7,V8,V9,W6,W7,W8,W9,X0,H1,X4,M6,E5,E6,E7,wentOn,I5,hg,H,Q,U,D,Kn,eq_true B,D2,F7,F8,F9,G0,Z7,Z8,M0,ints,zqx,List.map_nil,XP,seval];exact⟨_,rfl⟩
theorem GM(J:lookP fr 7=.ptr 3 0 0)(ha:a.length+1<=10000000)(I:k<b.code.length)(B:b.code[k].op=9)(N:b.code.length*88<=bigN):∃C,evP ⟨env,T,A0⟩ (.iter (⟨[18],p19q0,p19r0,fr⟩:RC) (m+1+1+1+1+1+1+1+1+1+1+1+1+1+1+1+1) p44b0 zn [(4,.ptr 6 0 0),(8,.fsl xs f),(9,.int .i64 n),(10,.int .i64 i),(16,.int .i64 b.code.length),(17,.int .i64 (k:Nat))] ⟨[.row 1 [.agg [fslN gs,fslN fs]] 2,.row 0 G 1,.row 1 [c.F] 5,.row 1 [.msl 5 0 a.length 1] 1,.row 1 [c.F] 5,.row 0 (ints a) 1,.row 1 [b.F] 5],5,tch⟩)=zs (.itr .normal zn [(4,.ptr 6 0 0),(8,.fsl xs f),(9,.int .i64 n),(10,.int .i64 i),(16,.int .i64 b.code.length),(17,.int .i64 (k+1:Nat))] ⟨[.row 1 [.agg [fslN gs,fslN fs]] 2,.row 0 G 1,.row 1 [c.F] 5,.row 1 [.msl 5 0 (a.length+1) 1] 1,.row 1 [c.F] 5,.row 0 (ints (a++[b.code[k].n])) 1,.row 1 [b.F] 5],5,C⟩):=by
 have hg:=A5 (F:=Ins.F) I;have H:decide ((k:Int)<(b.code.length:Int))=zt:=by simp[I]
 have Q:=A1 (i:=k) (by simp only[bigN]at N;omega);obtain⟨fr1,t1,D⟩:=NE (T:=T) (c:=c) (b:=b) (gs:=gs) (fs:=fs) (G:=G) (x:=b.code[k]) (a:=a) (tch:=[]) J ha;unfold p44b0;simp only[Ins.F,Blk.F,Cod.F]at hg D|-;generalize p19q0=q0 at D|-;generalize p19r0=r0 at D|-;generalize ints (a++[b.code[k].n])=ia at D|-;have U:decide (b.code[k].op=9)=zt:=by simp[B]
 simp only[M4,X1,H3,H4,H5,H6,X2,M3,E3,E4,I0,H7,H8,H9,M5,X3,E8,X5,H2,V7,V8,V9,W6,W7,W8,W9,X0,H1,X4,M6,E5,E6,E7,wentOn,I5,hg,H,Q,U,D,Kn,eq_true B,D2,F7,F8,F9,G0,Z7,Z8,M0,XP,seval];exact⟨_,rfl⟩
theorem GN(H:k<b.code.length)(B:¬b.code[k].op=9)(I:b.code.length*88<=bigN):∃C,evP ⟨env,T,A0⟩ (.iter (⟨[18],p19q0,p19r0,fr⟩:RC) (m+1+1+1+1+1+1+1+1+1+1+1+1+1+1+1+1) p44b0 zn [(4,.ptr 5 0 0),(8,.fsl xs f),(9,.int .i64 n),(10,.int .i64 i),(16,.int .i64 b.code.length),(17,.int .i64 (k:Nat))] ⟨[.row 1 [.agg [fslN gs,fslN fs]] 2,.row 0 G 1,.row 1 [c.F] 5,.row 1 [.nilsl] 1,.row 1 [c.F] 5,.row 1 [b.F] 5],5,tch⟩)=zs (.itr .normal zn [(4,.ptr 5 0 0),(8,.fsl xs f),(9,.int .i64 n),(10,.int .i64 i),(16,.int .i64 b.code.length),(17,.int .i64 (k+1:Nat))] ⟨[.row 1 [.agg [fslN gs,fslN fs]] 2,.row 0 G 1,.row 1 [c.F] 5,.row 1 [.nilsl] 1,.row 1 [c.F] 5,.row 1 [b.F] 5],5,C⟩):=by
 have hg:=A5 (F:=Ins.F) H;have D:decide ((k:Int)<(b.code.length:Int))=zt:=by simp[H]
 have J:=A1 (i:=k) (by simp only[bigN]at I;omega);unfold p44b0;simp only[Ins.F,Blk.F,Cod.F]at hg|-;have N:decide (b.code[k].op=9)=zf:=by simp[B]
 simp only[M4,X1,H3,H4,H5,H6,X2,M3,E3,E4,I0,H7,H8,H9,M5,X3,E8,X5,H2,V7,V8,V9,W6,W7,W8,W9,X0,H1,X4,M6,E5,E6,E7,wentOn,I5,hg,D,J,N,Kn,B,D2,F7,F8,F9,G0,Z7,Z8,M0,XP,seval];exact⟨_,rfl⟩
theorem GO(H:k<b.code.length)(B:¬b.code[k].op=9)(I:b.code.length*88<=bigN):∃C,evP ⟨env,T,A0⟩ (.iter (⟨[18],p19q0,p19r0,fr⟩:RC) (m+1+1+1+1+1+1+1+1+1+1+1+1+1+1+1+1) p44b0 zn [(4,.ptr 6 0 0),(8,.fsl xs f),(9,.int .i64 n),(10,.int .i64 i),(16,.int .i64 b.code.length),(17,.int .i64 (k:Nat))] ⟨[.row 1 [.agg [fslN gs,fslN fs]] 2,.row 0 G 1,.row 1 [c.F] 5,.row 1 [.msl 5 0 a.length 1] 1,.row 1 [c.F] 5,.row 0 (ints a) 1,.row 1 [b.F] 5],5,tch⟩)=zs (.itr .normal zn [(4,.ptr 6 0 0),(8,.fsl xs f),(9,.int .i64 n),(10,.int .i64 i),(16,.int .i64 b.code.length),(17,.int .i64 (k+1:Nat))] ⟨[.row 1 [.agg [fslN gs,fslN fs]] 2,.row 0 G 1,.row 1 [c.F] 5,.row 1 [.msl 5 0 a.length 1] 1,.row 1 [c.F] 5,.row 0 (ints a) 1,.row 1 [b.F] 5],5,C⟩):=by
 have hg:=A5 (F:=Ins.F) H;have D:decide ((k:Int)<(b.code.length:Int))=zt:=by simp[H]
 have J:=A1 (i:=k) (by simp only[bigN]at I;omega);unfold p44b0;simp only[Ins.F,Blk.F,Cod.F]at hg|-;have N:decide (b.code[k].op=9)=zf:=by simp[B]
 simp only[M4,X1,H3,H4,H5,H6,X2,M3,E3,E4,I0,H7,H8,H9,M5,X3,E8,X5,H2,V7,V8,V9,W6,W7,W8,W9,X0,H1,X4,M6,E5,E6,E7,wentOn,I5,hg,D,J,N,Kn,B,D2,F7,F8,F9,G0,Z7,Z8,M0,XP,seval];exact⟨_,rfl⟩
theorem itb(I:lookP fr 7=.ptr 3 0 0)(ha:a.length+1<=10000000)(D:k<b.code.length)(H:b.code.length*88<=bigN):∃C,evP ⟨env,T,A0⟩ (.iter (⟨[18],p19q0,p19r0,fr⟩:RC) (m+1+1+1+1+1+1+1+1+1+1+1+1+1+1+1+1) p44b0 zn [(4,.ptr (5+nE a) 0 0),(8,.fsl xs f),(9,.int .i64 n),(10,.int .i64 i),(16,.int .i64 b.code.length),(17,.int .i64 (k:Nat))] ⟨x8 [.row 1 [.agg [fslN gs,fslN fs]] 2,.row 0 G 1,.row 1 [c.F] 5] c a [.row 1 [b.F] 5],5,tch⟩)=zs (.itr .normal zn [(4,.ptr (5+nE (a++callsI [b.code[k]])) 0 0),(8,.fsl xs f),(9,.int .i64 n),(10,.int .i64 i),(16,.int .i64 b.code.length),(17,.int .i64 (k+1:Nat))] ⟨x8 [.row 1 [.agg [fslN gs,fslN fs]] 2,.row 0 G 1,.row 1 [c.F] 5] c (a++callsI [b.code[k]]) [.row 1 [b.F] 5],5,C⟩):=by
 by_cases B:b.code[k].op=9
 . rw [Il B]
   cases a with
   |nil=>exact GL I D B H
   |cons y l=>
    have:=GM (T:=T) (c:=c) (gs:=gs) (fs:=fs) (G:=G) (a:=y::l) (tch:=tch) (m:=m) (n:=n) (i:=i) (xs:=xs) (f:=f) I ha D B H
    rw[show(y::l).length+1=(y::(l++[b.code[k].n])).length by simp]at this;exact this
 . rw[Np B,zqn]
   cases a with
   |nil=>exact GN D B H
   |cons y l=>exact GO (a:=y::l) D B H
theorem NF{e:Nat}{K:PK}:∃fr',evP ⟨env,T,A0⟩ (.iter (⟨[18],p19q0,p19r0,fr⟩:RC) (m+1+1+1+1+1+1+1+1+1+1+1+1+1+1+1+1) p44b0 zn [(4,.ptr (e) 0 0),(8,.fsl xs f),(9,.int .i64 n),(10,.int .i64 i),(16,.int .i64 b.code.length),(17,.int .i64 (b.code.length:Nat))] K)=zs (.itr (.exit 2) zn fr' K)/\lookP fr' 8=.fsl xs f/\lookP fr' 9=.int .i64 n/\lookP fr' 10=.int .i64 i:=by
 unfold p44b0;have B:decide ((b.code.length:Int)<(b.code.length:Int))=zf:=by simp
 simp only[M4,X1,H3,H4,H5,H6,X2,M3,E3,E4,I0,H7,H8,H9,M5,X3,E8,X5,H2,V7,V8,V9,W6,W7,W8,W9,X0,H1,X4,M6,E5,E6,E7,wentOn,I5,B,XP,seval];exact⟨_,rfl,rfl,rfl,rfl⟩
theorem DQ(C:lookP fr 7=.ptr 3 0 0)(D:b.code.length*88<=bigN):∀(q k m:Nat)(a:List Int)(tch:List Nat),b.code.length=k+q->q+20<=m->a.length+q<=10000000 ->
 ∃fr' B,evP ⟨env,T,A0⟩ (.iter (⟨[18],p19q0,p19r0,fr⟩:RC) m (.loop p44b0) zn [(4,.ptr (5+nE a) 0 0),(8,.fsl xs f),(9,.int .i64 n),(10,.int .i64 i),(16,.int .i64 b.code.length),(17,.int .i64 (k:Nat))] ⟨x8 [.row 1 [.agg [fslN gs,fslN fs]] 2,.row 0 G 1,.row 1 [c.F] 5] c a [.row 1 [b.F] 5],5,tch⟩)=zs (.itr (.exit 2) zn fr' ⟨x8 [.row 1 [.agg [fslN gs,fslN fs]] 2,.row 0 G 1,.row 1 [c.F] 5] c (a++callsI (b.code.drop k)) [.row 1 [b.F] 5],5,B⟩)/\lookP fr' 8=.fsl xs f/\lookP fr' 9=.int .i64 n/\lookP fr' 10=.int .i64 i
 |0,k,m,a,tch,e,hm,ha=>by
  obtain rfl:k=b.code.length:=by omega
  obtain⟨r,rfl⟩:∃r,m=r+1+1+1+1+1+1+1+1+1+1+1+1+1+1+1+1+1:=⟨m-17,by omega⟩
  obtain⟨fr',h1,h2⟩:=NF (T:=T) (fr:=fr) (b:=b) (xs:=xs) (f:=f) (n:=n) (i:=i) (m:=r) (e:=5+nE a) (K:=⟨x8 [.row 1 [.agg [fslN gs,fslN fs]] 2,.row 0 G 1,.row 1 [c.F] 5] c a [.row 1 [b.F] 5],5,tch⟩);refine⟨fr',tch,?_,h2⟩;rw[u4,h1,zqf,show callsI []=[]from rfl,zqn];rfl
 |q+1,k,m,a,tch,e,hm,ha=>by
  have H:k<b.code.length:=by omega
  obtain⟨r,rfl⟩:∃r,m=r+1+1+1+1+1+1+1+1+1+1+1+1+1+1+1+1+1:=⟨m-17,by omega⟩
  obtain⟨I,h1⟩:=itb (T:=T) (c:=c) (gs:=gs) (fs:=fs) (G:=G) (a:=a) (tch:=tch) (m:=r) (n:=n) (i:=i) (xs:=xs) (f:=f) (b:=b) C (by omega) H D;obtain⟨fr',J,h2,N⟩:=DQ C D q (k+1) (r+1+1+1+1+1+1+1+1+1+1+1+1+1+1+1+1) (a++callsI [b.code[k]]) I (by omega) (by omega) (by have:=Ae [b.code[k]];simp only[zqp,zqg,zqe]at this|-;omega);refine⟨fr',J,?_,N⟩;rw[u4,h1,Pz H,<-zqq];exact h2
end
section
variable {c:Cod}{gs fs G:List AV}{k i m n ex:Nat}{a:List Int}{fr:PF}{tch:List Nat}{g:Operand}
theorem iba(I:lookP fr 7=.ptr 2 0 0)(hi:i<c.blocks.length)(J:c.blocks[i].code.length*88<=bigN)(hl:c.blocks.length*56<=bigN)(hm:c.blocks[i].code.length+20<=m)(ha:a.length+c.blocks[i].code.length<=10000000):∃C,evP ⟨env,T,A0⟩ (.iter (⟨[18],p19q0,p19r0,fr⟩:RC) (m+1+1+1+1+1+1+1+1+1+1+1+1+1+1+1+1) p44b1 zn [(8,fslN (c.blocks.map Blk.F)),(9,.int .i64 c.blocks.length),(10,.int .i64 (i:Nat))] ⟨x8 [.row 1 [.agg [fslN gs,fslN fs]] 2,.row 1 [c.F] 5] c a [],4,tch⟩)=zs (.itr .normal zn [(8,fslN (c.blocks.map Blk.F)),(9,.int .i64 c.blocks.length),(10,.int .i64 (i+1:Nat))] ⟨x8 [.row 1 [.agg [fslN gs,fslN fs]] 2,.row 1 [c.F] 5] c (a++callsI c.blocks[i].code) [],4,C⟩):=by
 have hg:=A5 (F:=Blk.F) hi;have H:decide ((i:Int)<(c.blocks.length:Int))=zt:=by simp[hi]
 have N:=A1 (i:=i) (by simp only[bigN]at hl;omega);have B:∀tch:List Nat,∃fr' C,_:=fun tch=>DO (T:=T) (c:=c) (gs:=gs) (fs:=fs) (fr:=fr) (b:=c.blocks[i]) (n:=c.blocks.length) (i:=i) (xs:=c.blocks.map Blk.F) (f:=(c.blocks.map Blk.F).isEmpty) I J c.blocks[i].code.length 0 (m+1+1+1+1+1+1+1+1+1) a tch (by omega) (by omega) ha
 simp only[List.drop_zero]at B;obtain⟨F1,D⟩:∃F:List Nat->PF×List Nat,∀t,evP ⟨env,T,A0⟩ (.iter (⟨[18],p19q0,p19r0,fr⟩:RC) (m+1+1+1+1+1+1+1+1+1) (.loop p44b0) zn [(4,.ptr (4+nE a) 0 0),(8,fslN (c.blocks.map Blk.F)),(9,.int .i64 c.blocks.length),(10,.int .i64 i),(16,.int .i64 c.blocks[i].code.length),(17,.int .i64 0)] ⟨x8 [.row 1 [.agg [fslN gs,fslN fs]] 2,.row 1 [c.F] 5] c a [.row 1 [c.blocks[i].F] 5],4,t⟩)=zs (.itr (.exit 2) zn (F t).1 ⟨x8 [.row 1 [.agg [fslN gs,fslN fs]] 2,.row 1 [c.F] 5] c (a++callsI c.blocks[i].code) [.row 1 [c.blocks[i].F] 5],4,(F t).2⟩)/\lookP (F t).1 8=fslN (c.blocks.map Blk.F)/\lookP (F t).1 9=.int .i64 c.blocks.length/\lookP (F t).1 10=.int .i64 i:=⟨fun t=>((B t).choose,(B t).choose_spec.choose),fun t=>(B t).choose_spec.choose_spec⟩
 clear B;have h1:=fun t=>(D t).1
 have h2:=fun t=>(D t).2.1
 have Q:=fun t=>(D t).2.2.1
 have U:=fun t=>(D t).2.2.2
 generalize a++callsI c.blocks[i].code=V at h1|-;unfold p44b1;generalize p44b0=b0 at h1|-;generalize p19q0=q0 at h1|-;generalize p19r0=r0 at h1|-;cases a<;>cases V <;>
 . simp only[x8,nE,zqj,zqk,zqg,zqe,Nat.add_zero,Nat.reduceAdd]at h1|-
   generalize c.blocks[i]=b at hg h1;simp only[Blk.F,Cod.F]at hg h1|-;simp only[M4,X1,H3,H4,H5,H6,X2,M3,E3,E4,I0,H7,H8,H9,M5,X3,E8,X5,H2,V7,V8,V9,W6,W7,W8,W9,X0,H1,X4,M6,E5,E6,E7,wentOn,I5,hg,H,N,h1,h2,Q,U,Kn,zqa,D2,F7,F8,F9,G0,Z7,Z8,M0,XP,seval];exact⟨_,rfl⟩
theorem NG{K:PK}:∃fr',evP ⟨env,T,A0⟩ (.iter (⟨[18],p19q0,p19r0,fr⟩:RC) (m+1+1+1+1+1+1+1+1+1+1+1+1+1+1+1+1) p44b1 zn [(8,fslN (c.blocks.map Blk.F)),(9,.int .i64 c.blocks.length),(10,.int .i64 (c.blocks.length:Nat))] K)=zs (.itr (.exit 0) zn fr' K):=by
 unfold p44b1;have B:decide ((c.blocks.length:Int)<(c.blocks.length:Int))=zf:=by simp
 simp only[M4,X1,H3,H4,H5,H6,X2,M3,E3,E4,I0,H7,H8,H9,M5,X3,E8,X5,H2,V7,V8,V9,W6,W7,W8,W9,X0,H1,X4,M6,E5,E6,E7,wentOn,I5,B,XP,seval];exact⟨_,rfl⟩
theorem DS(C:lookP fr 7=.ptr 2 0 0)(hc:∀b∈c.blocks,b.code.length<=1000)(hl:c.blocks.length*56<=bigN):∀(q i m:Nat)(a:List Int)(tch:List Nat),c.blocks.length=i+q->q+1100<=m->a.length+q*1000<=9000000 ->
 ∃fr' B,evP ⟨env,T,A0⟩ (.iter (⟨[18],p19q0,p19r0,fr⟩:RC) m (.loop p44b1) zn [(8,fslN (c.blocks.map Blk.F)),(9,.int .i64 c.blocks.length),(10,.int .i64 (i:Nat))] ⟨x8 [.row 1 [.agg [fslN gs,fslN fs]] 2,.row 1 [c.F] 5] c a [],4,tch⟩)=zs (.itr (.exit 0) zn fr' ⟨x8 [.row 1 [.agg [fslN gs,fslN fs]] 2,.row 1 [c.F] 5] c (a++(c.blocks.drop i).flatMap fun b=>callsI b.code) [],4,B⟩)
 |0,i,m,a,tch,e,hm,ha=>by
  obtain rfl:i=c.blocks.length:=by omega
  obtain⟨r,rfl⟩:∃r,m=r+1+1+1+1+1+1+1+1+1+1+1+1+1+1+1+1+1:=⟨m-17,by omega⟩
  obtain⟨fr',h1⟩:=NG (T:=T) (c:=c) (fr:=fr) (m:=r) (K:=⟨x8 [.row 1 [.agg [fslN gs,fslN fs]] 2,.row 1 [c.F] 5] c a [],4,tch⟩);refine⟨fr',tch,?_⟩;rw[u4,h1,zqf,zkc,zqn];rfl
 |q+1,i,m,a,tch,e,hm,ha=>by
  have hi:i<c.blocks.length:=by omega
  have hci:=hc _ (zqc hi);obtain⟨r,rfl⟩:∃r,m=r+1+1+1+1+1+1+1+1+1+1+1+1+1+1+1+1+1:=⟨m-17,by omega⟩
  obtain⟨D,h1⟩:=iba (T:=T) (c:=c) (gs:=gs) (fs:=fs) (a:=a) (tch:=tch) (m:=r) (i:=i) C hi (by simp only[bigN];omega) hl (by omega) (by omega);have hcl:=Ae c.blocks[i].code;obtain⟨fr',H,h2⟩:=DS C hc hl q (i+1) (r+1+1+1+1+1+1+1+1+1+1+1+1+1+1+1+1) (a++callsI c.blocks[i].code) D (by omega) (by omega) (by rw[zqp];omega);refine⟨fr',H,?_⟩;rw[u4,h1,zqh hi,zkd,<-zqq];exact h2
theorem rfa(C:lookP fr 7=.ptr 2 0 0)(hg:opvP env g fr=.fn (.func 44) [] [.ptr 3 0 0])(hc:∀b∈c.blocks,b.code.length<=1000)(hl:c.blocks.length<=1000):∃B,evP ⟨env,T,A0⟩ (.code (.rfn g [18] p19q0 p19r0) fr ⟨x8 [.row 1 [.agg [fslN gs,fslN fs]] 2,.row 1 [c.F] 5] c [] [],ex,tch⟩)=zs (.ok .normal fr ⟨x8 [.row 1 [.agg [fslN gs,fslN fs]] 2,.row 1 [c.F] 5] c (callsD c) [],ex,B⟩):=by
 obtain⟨fr',D,h1⟩:=DS (T:=T) (c:=c) (gs:=gs) (fs:=fs) (fr:=fr) C hc (by simp only[bigN];omega) c.blocks.length 0 (itMax-2) [] [] (by omega) (by simp only[itMax];omega) (by simp only[zqe];omega);rw[xR (x:=SS) (nt:=37) (rs:=[]) (i:=zf) hg rfl (by simp)];rw[show itMax=65534+1+1 from rfl];have h1:evP ⟨env,T,A0⟩ (.iter (⟨[18],p19q0,p19r0,fr⟩:RC) 65534 (.loop p44b1) zn [(8,fslN (c.blocks.map Blk.F)),(9,.int .i64 c.blocks.length),(10,.int .i64 0)] ⟨x8 [.row 1 [.agg [fslN gs,fslN fs]] 2,.row 1 [c.F] 5] c [] [],4,[]⟩)=zs (.itr (.exit 0) zn fr' ⟨x8 [.row 1 [.agg [fslN gs,fslN fs]] 2,.row 1 [c.F] 5] c (callsD c) [],4,D⟩):=h1;generalize callsD c=H at h1|-;generalize p44b1=b1 at h1|-;generalize p19q0=q0 at h1|-;generalize p19r0=r0 at h1|-;cases H <;>
 . simp only[x8,zqj,zqk,zqg,zqe,Nat.reduceAdd,Cod.F]at h1|-
   simp only[M4,X1,H3,H4,H5,H6,X2,M3,E3,E4,I0,H7,H8,H9,M5,X3,E8,X5,H2,V7,V8,V9,W6,W7,W8,W9,X0,H1,X4,M6,E5,E6,E7,wentOn,I5,h1,zqa,mQ,qI,D2,F7,F8,F9,G0,Z7,Z8,M0,XP,seval];exact⟨_,rfl⟩
theorem ibb(I:lookP fr 7=.ptr 3 0 0)(hi:i<c.blocks.length)(J:c.blocks[i].code.length*88<=bigN)(hl:c.blocks.length*56<=bigN)(hm:c.blocks[i].code.length+20<=m)(ha:a.length+c.blocks[i].code.length<=10000000):∃C,evP ⟨env,T,A0⟩ (.iter (⟨[18],p19q0,p19r0,fr⟩:RC) (m+1+1+1+1+1+1+1+1+1+1+1+1+1+1+1+1) p44b1 zn [(8,fslN (c.blocks.map Blk.F)),(9,.int .i64 c.blocks.length),(10,.int .i64 (i:Nat))] ⟨x8 [.row 1 [.agg [fslN gs,fslN fs]] 2,.row 0 G 1,.row 1 [c.F] 5] c a [],5,tch⟩)=zs (.itr .normal zn [(8,fslN (c.blocks.map Blk.F)),(9,.int .i64 c.blocks.length),(10,.int .i64 (i+1:Nat))] ⟨x8 [.row 1 [.agg [fslN gs,fslN fs]] 2,.row 0 G 1,.row 1 [c.F] 5] c (a++callsI c.blocks[i].code) [],5,C⟩):=by
 have hg:=A5 (F:=Blk.F) hi;have H:decide ((i:Int)<(c.blocks.length:Int))=zt:=by simp[hi]
 have N:=A1 (i:=i) (by simp only[bigN]at hl;omega);have B:∀tch:List Nat,∃fr' C,_:=fun tch=>DQ (T:=T) (c:=c) (gs:=gs) (fs:=fs) (G:=G) (fr:=fr) (b:=c.blocks[i]) (n:=c.blocks.length) (i:=i) (xs:=c.blocks.map Blk.F) (f:=(c.blocks.map Blk.F).isEmpty) I J c.blocks[i].code.length 0 (m+1+1+1+1+1+1+1+1+1) a tch (by omega) (by omega) ha
 simp only[List.drop_zero]at B;obtain⟨F1,D⟩:∃F:List Nat->PF×List Nat,∀t,evP ⟨env,T,A0⟩ (.iter (⟨[18],p19q0,p19r0,fr⟩:RC) (m+1+1+1+1+1+1+1+1+1) (.loop p44b0) zn [(4,.ptr (5+nE a) 0 0),(8,fslN (c.blocks.map Blk.F)),(9,.int .i64 c.blocks.length),(10,.int .i64 i),(16,.int .i64 c.blocks[i].code.length),(17,.int .i64 0)] ⟨x8 [.row 1 [.agg [fslN gs,fslN fs]] 2,.row 0 G 1,.row 1 [c.F] 5] c a [.row 1 [c.blocks[i].F] 5],5,t⟩)=zs (.itr (.exit 2) zn (F t).1 ⟨x8 [.row 1 [.agg [fslN gs,fslN fs]] 2,.row 0 G 1,.row 1 [c.F] 5] c (a++callsI c.blocks[i].code) [.row 1 [c.blocks[i].F] 5],5,(F t).2⟩)/\lookP (F t).1 8=fslN (c.blocks.map Blk.F)/\lookP (F t).1 9=.int .i64 c.blocks.length/\lookP (F t).1 10=.int .i64 i:=⟨fun t=>((B t).choose,(B t).choose_spec.choose),fun t=>(B t).choose_spec.choose_spec⟩
 clear B;have h1:=fun t=>(D t).1
 have h2:=fun t=>(D t).2.1
 have Q:=fun t=>(D t).2.2.1
 have U:=fun t=>(D t).2.2.2
 generalize a++callsI c.blocks[i].code=V at h1|-;unfold p44b1;generalize p44b0=b0 at h1|-;generalize p19q0=q0 at h1|-;generalize p19r0=r0 at h1|-;cases a<;>cases V <;>
 . simp only[x8,nE,zqj,zqk,zqg,zqe,Nat.add_zero,Nat.reduceAdd]at h1|-
   generalize c.blocks[i]=b at hg h1;simp only[Blk.F,Cod.F]at hg h1|-;simp only[M4,X1,H3,H4,H5,H6,X2,M3,E3,E4,I0,H7,H8,H9,M5,X3,E8,X5,H2,V7,V8,V9,W6,W7,W8,W9,X0,H1,X4,M6,E5,E6,E7,wentOn,I5,hg,H,N,h1,h2,Q,U,Kn,zqa,D2,F7,F8,F9,G0,Z7,Z8,M0,XP,seval];exact⟨_,rfl⟩
theorem NH{K:PK}:∃fr',evP ⟨env,T,A0⟩ (.iter (⟨[18],p19q0,p19r0,fr⟩:RC) (m+1+1+1+1+1+1+1+1+1+1+1+1+1+1+1+1) p44b1 zn [(8,fslN (c.blocks.map Blk.F)),(9,.int .i64 c.blocks.length),(10,.int .i64 (c.blocks.length:Nat))] K)=zs (.itr (.exit 0) zn fr' K):=by
 unfold p44b1;have B:decide ((c.blocks.length:Int)<(c.blocks.length:Int))=zf:=by simp
 simp only[M4,X1,H3,H4,H5,H6,X2,M3,E3,E4,I0,H7,H8,H9,M5,X3,E8,X5,H2,V7,V8,V9,W6,W7,W8,W9,X0,H1,X4,M6,E5,E6,E7,wentOn,I5,B,XP,seval];exact⟨_,rfl⟩
theorem DT(C:lookP fr 7=.ptr 3 0 0)(hc:∀b∈c.blocks,b.code.length<=1000)(hl:c.blocks.length*56<=bigN):∀(q i m:Nat)(a:List Int)(tch:List Nat),c.blocks.length=i+q->q+1100<=m->a.length+q*1000<=9000000 ->
 ∃fr' B,evP ⟨env,T,A0⟩ (.iter (⟨[18],p19q0,p19r0,fr⟩:RC) m (.loop p44b1) zn [(8,fslN (c.blocks.map Blk.F)),(9,.int .i64 c.blocks.length),(10,.int .i64 (i:Nat))] ⟨x8 [.row 1 [.agg [fslN gs,fslN fs]] 2,.row 0 G 1,.row 1 [c.F] 5] c a [],5,tch⟩)=zs (.itr (.exit 0) zn fr' ⟨x8 [.row 1 [.agg [fslN gs,fslN fs]] 2,.row 0 G 1,.row 1 [c.F] 5] c (a++(c.blocks.drop i).flatMap fun b=>callsI b.code) [],5,B⟩)
 |0,i,m,a,tch,e,hm,ha=>by
  obtain rfl:i=c.blocks.length:=by omega
  obtain⟨r,rfl⟩:∃r,m=r+1+1+1+1+1+1+1+1+1+1+1+1+1+1+1+1+1:=⟨m-17,by omega⟩
  obtain⟨fr',h1⟩:=NH (T:=T) (c:=c) (fr:=fr) (m:=r) (K:=⟨x8 [.row 1 [.agg [fslN gs,fslN fs]] 2,.row 0 G 1,.row 1 [c.F] 5] c a [],5,tch⟩);refine⟨fr',tch,?_⟩;rw[u4,h1,zqf,zkc,zqn];rfl
 |q+1,i,m,a,tch,e,hm,ha=>by
  have hi:i<c.blocks.length:=by omega
  have hci:=hc _ (zqc hi);obtain⟨r,rfl⟩:∃r,m=r+1+1+1+1+1+1+1+1+1+1+1+1+1+1+1+1+1:=⟨m-17,by omega⟩
  obtain⟨D,h1⟩:=ibb (T:=T) (c:=c) (gs:=gs) (fs:=fs) (G:=G) (a:=a) (tch:=tch) (m:=r) (i:=i) C hi (by simp only[bigN];omega) hl (by omega) (by omega);have hcl:=Ae c.blocks[i].code;obtain⟨fr',H,h2⟩:=DT C hc hl q (i+1) (r+1+1+1+1+1+1+1+1+1+1+1+1+1+1+1+1) (a++callsI c.blocks[i].code) D (by omega) (by omega) (by rw[zqp];omega);refine⟨fr',H,?_⟩;rw[u4,h1,zqh hi,zkd,<-zqq];exact h2
theorem rfb(C:lookP fr 7=.ptr 3 0 0)(hg:opvP env g fr=.fn (.func 44) [] [.ptr 4 0 0])(hc:∀b∈c.blocks,b.code.length<=1000)(hl:c.blocks.length<=1000):∃B,evP ⟨env,T,A0⟩ (.code (.rfn g [18] p19q0 p19r0) fr ⟨x8 [.row 1 [.agg [fslN gs,fslN fs]] 2,.row 0 G 1,.row 1 [c.F] 5] c [] [],ex,tch⟩)=zs (.ok .normal fr ⟨x8 [.row 1 [.agg [fslN gs,fslN fs]] 2,.row 0 G 1,.row 1 [c.F] 5] c (callsD c) [],ex,B⟩):=by
 obtain⟨fr',D,h1⟩:=DT (T:=T) (c:=c) (gs:=gs) (fs:=fs) (G:=G) (fr:=fr) C hc (by simp only[bigN];omega) c.blocks.length 0 (itMax-2) [] [] (by omega) (by simp only[itMax];omega) (by simp only[zqe];omega);rw[xR (x:=SS) (nt:=37) (rs:=[]) (i:=zf) hg rfl (by simp)];rw[show itMax=65534+1+1 from rfl];have h1:evP ⟨env,T,A0⟩ (.iter (⟨[18],p19q0,p19r0,fr⟩:RC) 65534 (.loop p44b1) zn [(8,fslN (c.blocks.map Blk.F)),(9,.int .i64 c.blocks.length),(10,.int .i64 0)] ⟨x8 [.row 1 [.agg [fslN gs,fslN fs]] 2,.row 0 G 1,.row 1 [c.F] 5] c [] [],5,[]⟩)=zs (.itr (.exit 0) zn fr' ⟨x8 [.row 1 [.agg [fslN gs,fslN fs]] 2,.row 0 G 1,.row 1 [c.F] 5] c (callsD c) [],5,D⟩):=h1;generalize callsD c=H at h1|-;generalize p44b1=b1 at h1|-;generalize p19q0=q0 at h1|-;generalize p19r0=r0 at h1|-;cases H <;>
 . simp only[x8,zqj,zqk,zqg,zqe,Nat.reduceAdd,Cod.F]at h1|-
   simp only[M4,X1,H3,H4,H5,H6,X2,M3,E3,E4,I0,H7,H8,H9,M5,X3,E8,X5,H2,V7,V8,V9,W6,W7,W8,W9,X0,H1,X4,M6,E5,E6,E7,wentOn,I5,h1,zqa,mQ,qI,D2,F7,F8,F9,G0,Z7,Z8,M0,XP,seval];exact⟨_,rfl⟩
end
theorem Uv(B:T 27=zn){s:List UInt8}{p q:Int}{u w:AV}{K:PK}(C:Fr u=zt)(D:Fr w=zt):evP ⟨env,T,A0⟩ (.call 27 [.agg [.str s,.int .i64 p,.int .i64 q,u,w]] K)=zs (.val [.fn (.func 44) [] [.ptr K.os.length 0 0]] ⟨K.os++[.row 1 [.agg [.str s,.int .i64 p,.int .i64 q,u,w]] 5],K.ext,K.tch⟩):=by
 rw[u6 B rfl,A3 (c:=SF) (nt:=4) (rs:=[.tmp 2]) rfl (by simp)];unfold SF;simp only[C,D,XP,seval]
theorem vE(a b c d:Nat):Lm (.msl a b c d)=zf:=rfl
def rowG(a:List Int):AV:=match a with|[]=>.nilsl|x::l=>ownd 0 1 (ints (x::l))
def graD(fs:List Cod):List AV:=fs.map fun c=>rowG (callsD c)
structure GOk(c:Cod):Prop where
 ok:c.ok
 code:∀b∈c.blocks,b.code.length<=1000
 blocks:c.blocks.length<=1000
section
variable {c:Cod}{gs fs G:List AV}{l:List Cod}{k i m n:Nat}
theorem A1T(hc:GOk c):∃F:PF->List Nat->List Nat,∀(fr:PF)(tch:List Nat),lookP fr 7=.ptr 2 0 0->opvP env (.tmp 17) fr=.fn (.func 44) [] [.ptr 3 0 0]->evP ⟨env,T,A0⟩ (.code (.rfn (.tmp 17) [18] p19q0 p19r0) fr ⟨x8 [.row 1 [.agg [fslN gs,fslN fs]] 2,.row 1 [c.F] 5] c [] [],0,tch⟩)=zs (.ok .normal fr ⟨x8 [.row 1 [.agg [fslN gs,fslN fs]] 2,.row 1 [c.F] 5] c (callsD c) [],0,F fr tch⟩):=by
 have B:∀x:PF×List Nat,∃t,lookP x.1 7=.ptr 2 0 0->opvP env (.tmp 17) x.1=.fn (.func 44) [] [.ptr 3 0 0]->evP ⟨env,T,A0⟩ (.code (.rfn (.tmp 17) [18] p19q0 p19r0) x.1 ⟨x8 [.row 1 [.agg [fslN gs,fslN fs]] 2,.row 1 [c.F] 5] c [] [],0,x.2⟩)=zs (.ok .normal x.1 ⟨x8 [.row 1 [.agg [fslN gs,fslN fs]] 2,.row 1 [c.F] 5] c (callsD c) [],0,t⟩):=fun x=>by
  by_cases h:lookP x.1 7=.ptr 2 0 0/\opvP env (.tmp 17) x.1=.fn (.func 44) [] [.ptr 3 0 0]
  . obtain⟨t,C⟩:=rfa (T:=T) (gs:=gs) (fs:=fs) (ex:=0) (tch:=x.2) h.1 h.2 hc.code hc.blocks
    exact⟨t,fun _ _=>C⟩
  . exact⟨[],fun a b=>absurd ⟨a,b⟩ h⟩
 exact⟨fun fr t=>(B (fr,t)).choose,fun fr t=>(B (fr,t)).choose_spec⟩
theorem A1U(hc:GOk c):∃F:PF->List Nat->List Nat,∀(fr:PF)(tch:List Nat),lookP fr 7=.ptr 3 0 0->opvP env (.tmp 17) fr=.fn (.func 44) [] [.ptr 4 0 0]->evP ⟨env,T,A0⟩ (.code (.rfn (.tmp 17) [18] p19q0 p19r0) fr ⟨x8 [.row 1 [.agg [fslN gs,fslN fs]] 2,.row 0 G 1,.row 1 [c.F] 5] c [] [],0,tch⟩)=zs (.ok .normal fr ⟨x8 [.row 1 [.agg [fslN gs,fslN fs]] 2,.row 0 G 1,.row 1 [c.F] 5] c (callsD c) [],0,F fr tch⟩):=by
 have B:∀x:PF×List Nat,∃t,lookP x.1 7=.ptr 3 0 0->opvP env (.tmp 17) x.1=.fn (.func 44) [] [.ptr 4 0 0]->evP ⟨env,T,A0⟩ (.code (.rfn (.tmp 17) [18] p19q0 p19r0) x.1 ⟨x8 [.row 1 [.agg [fslN gs,fslN fs]] 2,.row 0 G 1,.row 1 [c.F] 5] c [] [],0,x.2⟩)=zs (.ok .normal x.1 ⟨x8 [.row 1 [.agg [fslN gs,fslN fs]] 2,.row 0 G 1,.row 1 [c.F] 5] c (callsD c) [],0,t⟩):=fun x=>by
  by_cases h:lookP x.1 7=.ptr 3 0 0/\opvP env (.tmp 17) x.1=.fn (.func 44) [] [.ptr 4 0 0]
  . obtain⟨t,C⟩:=rfb (T:=T) (gs:=gs) (fs:=fs) (G:=G) (ex:=0) (tch:=x.2) h.1 h.2 hc.code hc.blocks
    exact⟨t,fun _ _=>C⟩
  . exact⟨[],fun a b=>absurd ⟨a,b⟩ h⟩
 exact⟨fun fr t=>(B (fr,t)).choose,fun fr t=>(B (fr,t)).choose_spec⟩
def JD(l:List Cod)(i:Nat):PF:=[(1,.ptr 0 0 0),(4,.msl 1 0 i 1),(10,fslN (l.map Cod.F)),(11,.int .i64 (l.length:Int)),(12,.int .i64 (i:Int))]
theorem A1V(hN:T 27=zn)(h:0<l.length)(hc:GOk l[0]):evP ⟨env,T,A0⟩ (.code Pl [(1,.ptr 0 0 0),(4,.nilsl),(10,fslN (l.map Cod.F)),(11,.int .i64 (l.length:Int)),(12,.int .i64 0)] ⟨[.row 1 [.agg [fslN gs,fslN (l.map Cod.F)]] 2],0,[]⟩)=zs (.ok .normal (JD l 1) ⟨[.row 1 [.agg [fslN gs,fslN (l.map Cod.F)]] 2,.row 0 (graD (l.take 1)) 1],0,[]⟩):=by
 have hi:Xc l6 (fslN (l.map Cod.F)) (.int .i64 0)=zs (.fptr (Cod.F l[0]) 0):=ix_fslN (te:=l6) (k:=.i64) (i:=0) (A5 (F:=Cod.F) h) rfl;have hlt:decide ((0:Int)<(l.length:Int))=zt:=by simp[h]
 have hx:graD (l.take 1)=[rowG (callsD l[0])]:=by unfold graD;rw[List.take_one,List.head?_eq_getElem?,zqi h];rfl
 have hci:=fun K=>Uv (T:=T) (K:=K) hN (s:=l[0].name) (p:=l[0].ty) (q:=l[0].ps) (u:=fslN (ints l[0].regs)) (w:=fslN (l[0].blocks.map Blk.F)) rfl rfl
 obtain⟨F,hF⟩:=A1T (T:=T) (gs:=gs) (fs:=l.map Cod.F) hc;rw[hx];generalize callsD l[0]=a' at hF|-;unfold Pl JD;generalize p19q0=q0 at hF|-;generalize p19r0=r0 at hF|-;generalize hfs:l.map Cod.F=fs at *;rcases a' with _|⟨y,r⟩
 . simp only[x8,rowG,zqj,zqk,zqg,zqe,Nat.reduceAdd,Cod.F]at hi hF|-
   simp -implicitDefEqProofs only[hi,hlt,hci,hF,D2,F7,F8,F9,G0,Z7,Z8,M0,show IntKind.i64.wrap (0+1)=((1:Nat):Int)from rfl,XP,Nat.reduceAdd,Nat.reduceSub,Nat.reduceLT,Nat.reduceLeDiff,Nat.reduceEqDiff,Nat.reduceMul,↓reduceIte]
 . simp only[x8,rowG,zqj,zqk,zqg,zqe,Nat.reduceAdd,Cod.F]at hi hF|-
   have hl:(ints (y::r)).length=r.length+1:=by simp[ints]
   generalize ints (y::r)=ia at *;simp -implicitDefEqProofs only[hi,hlt,hci,hF,hl,vE,D2,F7,F8,F9,G0,Z7,Z8,M0,show IntKind.i64.wrap (0+1)=((1:Nat):Int)from rfl,XP,Nat.reduceAdd,Nat.reduceSub,Nat.reduceLT,Nat.reduceLeDiff,Nat.reduceEqDiff,Nat.reduceMul,↓reduceIte]
theorem A1W(hN:T 27=zn)(h:i<l.length)(h0:0<i)(hs:l.length<=10000)(hc:GOk l[i]):evP ⟨env,T,A0⟩ (.code Pl (JD l i) ⟨[.row 1 [.agg [fslN gs,fslN (l.map Cod.F)]] 2,.row 0 (graD (l.take i)) 1],0,[]⟩)=zs (.ok .normal (JD l (i+1)) ⟨[.row 1 [.agg [fslN gs,fslN (l.map Cod.F)]] 2,.row 0 (graD (l.take (i+1))) 1],0,[]⟩):=by
 have hi:Xc l6 (fslN (l.map Cod.F)) (.int .i64 i)=zs (.fptr (Cod.F l[i]) 0):=ix_fslN (te:=l6) (k:=.i64) (i:=i) (A5 (F:=Cod.F) h) rfl;have hlt:decide ((i:Int)<(l.length:Int))=zt:=by simp[h]
 have hw:=A1 (i:=i) (by omega);have hm:(graD (l.take i)).length=i:=by unfold graD;simp;omega
 have hz:(i+1)*24<=140737488355328:=by omega
 have hx:graD (l.take (i+1))=graD (l.take i)++[rowG (callsD l[i])]:=by unfold graD;rw[zqr h,zqs];rfl
 have hci:=fun K=>Uv (T:=T) (K:=K) hN (s:=l[i].name) (p:=l[i].ty) (q:=l[i].ps) (u:=fslN (ints l[i].regs)) (w:=fslN (l[i].blocks.map Blk.F)) rfl rfl
 obtain⟨F,hF⟩:=A1U (T:=T) (gs:=gs) (fs:=l.map Cod.F) (G:=graD (l.take i)) hc;rw[hx];generalize graD (l.take i)=G at *;generalize callsD l[i]=a' at hF|-;unfold Pl JD;generalize p19q0=q0 at hF|-;generalize p19r0=r0 at hF|-;generalize hfs:l.map Cod.F=fs at *;rcases a' with _|⟨y,r⟩
 . simp only[x8,rowG,zqj,zqk,zqg,zqe,Nat.reduceAdd,Cod.F]at hi hF|-
   simp -implicitDefEqProofs only[hi,hlt,hci,hF,hm,hz,hw,D2,F7,F8,F9,G0,Z7,Z8,M0,XP,seval]
 . simp only[x8,rowG,zqj,zqk,zqg,zqe,Nat.reduceAdd,Cod.F]at hi hF|-
   have hl:(ints (y::r)).length=r.length+1:=by simp[ints]
   generalize ints (y::r)=ia at *;simp -implicitDefEqProofs only[hi,hlt,hci,hF,hl,hm,hz,hw,vE,D2,F7,F8,F9,G0,Z7,Z8,M0,XP,seval]
theorem A1X{v:AV}{K:PK}{p:AV}:∃fr',evP ⟨env,T,A0⟩ (.code Pl [(1,p),(4,v),(10,fslN (l.map Cod.F)),(11,.int .i64 (l.length:Int)),(12,.int .i64 (l.length:Int))] K)=zs (.ok (.exit 0) fr' K)/\lookP fr' 1=p/\lookP fr' 4=v:=by
 unfold Pl;have B:decide ((l.length:Int)<(l.length:Int))=zf:=by simp
 simp only[B,XP,seval];exact⟨_,rfl,rfl,rfl⟩
theorem NI(B:T 27=zn)(C:l.length<=10000)(hc:∀c∈l,GOk c):∀(q i:Nat),l.length=i+q->0<i->∃fr',evP ⟨env,T,A0⟩ (.code (.loop Pl) (JD l i) ⟨[.row 1 [.agg [fslN gs,fslN (l.map Cod.F)]] 2,.row 0 (graD (l.take i)) 1],0,[]⟩)=zs (.ok (.exit 0) fr' ⟨[.row 1 [.agg [fslN gs,fslN (l.map Cod.F)]] 2,.row 0 (graD l) 1],0,[]⟩)/\lookP fr' 1=.ptr 0 0 0/\lookP fr' 4=.msl 1 0 l.length 1
 |0,i,e,h0=>by
  obtain rfl:i=l.length:=by omega
  rw[zqz];obtain⟨fr',h1,h2⟩:=A1X (T:=T) (l:=l) (v:=.msl 1 0 l.length 1) (p:=.ptr 0 0 0) (K:=⟨[.row 1 [.agg [fslN gs,fslN (l.map Cod.F)]] 2,.row 0 (graD l) 1],0,[]⟩);exact⟨fr',loop_exit h1,h2⟩
 |q+1,i,e,h0=>by
  have hi:i<l.length:=by omega
  rw[loop_more (A1W B hi h0 C (hc _ (zqc hi)))];exact NI B C hc q (i+1) (by omega) (by omega)
end
section
variable {l:List Cod}{c:Cod}{i:Nat}{K:PK}
theorem Nq  {c:Cod} (hk:True):AM.Comes ⟨env,T,A0⟩ 39 [c.F] [.bool (decide (c.name=B3))]:=by
 refine⟨[.bool (decide (c.name=B3))],⟨[],0,[]⟩,?_,A9 rfl zqb rfl rfl rfl⟩;rw[A3 (c:=SR) (nt:=6) (rs:=[.tmp 2]) rfl (by simp)];unfold SR;unfold K0;unfold Cod.F B3;simp only[XP,seval]
def P0:=X6 (fun p:(Cod)=>[p.F]) (fun p=>[.bool (decide (p.name=B3))]) (fun p=>True)
theorem Qa(B:T 39=zs P0){c:Cod}{K:PK}(C:True):evP ⟨env,T,A0⟩ (.call 39 [c.F] K)=zs (.val (openTs K.os.length [.bool (decide (c.name=B3))]).1 ⟨K.os++(openTs K.os.length [.bool (decide (c.name=B3))]).2,K.ext,K.tch⟩):=B4 B (by simp only[VV,XP,seval]) (B6 (a:=fun p:(Cod)=>[p.F]) (r:=fun p=>[.bool (decide (p.name=B3))]) (fun x y e=>by simp only[VJ]at e;simp only[e]) (c) C) (by simp only[VN,XP,seval])
theorem Xw  (B:PEok ⟨env,T,A0⟩):TC env 39 P0:=B7 B fun p h=>Nq  h
theorem NJ(C:T 39=zs P0)(h:i<l.length)(D:l.length<=bigN)(H:decide (l[i].name=B3)=zf):evP ⟨env,T,A0⟩ (.code j3 [(0,fslN (l.map Cod.F)),(1,.fn (.func 39) [] []),(7,.int .i64 (l.length:Int)),(8,.int .i64 (i:Int))] ⟨[],0,[]⟩)=zs (.ok .normal [(0,fslN (l.map Cod.F)),(1,.fn (.func 39) [] []),(7,.int .i64 (l.length:Int)),(8,.int .i64 ((i+1:Nat):Int))] ⟨[],0,[]⟩):=by
 unfold j3;have B:decide ((i:Int)<(l.length:Int))=zt:=by simp[h]
 have I:=A1 (i:=i) (by simp only[bigN]at D;omega);have hi:=A5 (F:=Cod.F) h;have t:=fun K=>Qa (K:=K) (c:=l[i]) C trivial
 simp only[Cod.F]at hi t;simp only[B,hi,I,t,H,XP,seval]
theorem NK(C:T 39=zs P0)(h:i<l.length)(D:decide (l[i].name=B3)=zt):∃fr',evP ⟨env,T,A0⟩ (.code j3 [(0,fslN (l.map Cod.F)),(1,.fn (.func 39) [] []),(7,.int .i64 (l.length:Int)),(8,.int .i64 (i:Int))] ⟨[],0,[]⟩)=zs (.ok .ret fr' ⟨[],0,[]⟩)/\lookP fr' 4=.int .i64 (i:Int):=by
 unfold j3;have B:decide ((i:Int)<(l.length:Int))=zt:=by simp[h]
 have hi:=A5 (F:=Cod.F) h;have t:=fun K=>Qa (K:=K) (c:=l[i]) C trivial
 simp only[Cod.F]at hi t;simp only[B,hi,t,D,XP,seval];exact⟨_,rfl,rfl⟩
theorem NL:∃fr',evP ⟨env,T,A0⟩ (.code j3 [(0,fslN (l.map Cod.F)),(1,.fn (.func 39) [] []),(7,.int .i64 (l.length:Int)),(8,.int .i64 (l.length:Int))] ⟨[],0,[]⟩)=zs (.ok (.exit 0) fr' ⟨[],0,[]⟩):=by
 unfold j3;have B:decide ((l.length:Int)<(l.length:Int))=zf:=by simp
 simp only[B,XP,seval];exact⟨_,rfl⟩
theorem gQ(C:T 39=zs P0)(D:T 38=zn)(H:l.length<=bigN)(K:PK):evP ⟨env,T,A0⟩ (.call 38 [fslN (l.map Cod.F),.fn (.func 39) [] []] K)=zs (.val [.int .i64 (idxOf (fun c:Cod=>decide (c.name=B3)) l)] K):=by
 refine eE (tch:=[]) D rfl rfl rfl ?_ rfl;rw[A3 (c:=IY) (nt:=19) (rs:=[.tmp 4]) rfl (by simp)];unfold IY;rcases idx_loop (P:=⟨env,T,A0⟩) (c:=j3) (p:=fun c:Cod=>decide (c.name=B3)) (l:=l) (S:=fun i=>[(0,fslN (l.map Cod.F)),(1,.fn (.func 39) [] []),(7,.int .i64 (l.length:Int)),(8,.int .i64 (i:Int))]) (K:=⟨[],0,[]⟩) (fun i h B=>NJ C h H B) (fun i h B=>NK C h B) NL with⟨i,e,fr',h1,h2⟩|⟨e,fr',h1⟩
 . have h1:evP ⟨env,T,A0⟩ (.code (.loop j3) [(0,fslN (l.map Cod.F)),(1,.fn (.func 39) [] []),(7,.int .i64 (l.length:Int)),(8,.int .i64 0)] ⟨[],0,[]⟩)=_:=h1
   simp only[h1,h2,e,zqa,XP,seval]
 . have h1:evP ⟨env,T,A0⟩ (.code (.loop j3) [(0,fslN (l.map Cod.F)),(1,.fn (.func 39) [] []),(7,.int .i64 (l.length:Int)),(8,.int .i64 0)] ⟨[],0,[]⟩)=_:=h1
   simp only[h1,e,zqa,XP,seval]
theorem vF(a:List Int):noF (rowG a)=zt:=by
 cases a with
 |nil=>rfl
 |cons x l=>unfold rowG ownd noF;exact noFL_ints _
theorem vG(l:List Cod):noFL (graD l)=zt:=by
 induction l with
 |nil=>rfl
 |cons c l B=>show(noF (rowG (callsD c))&&noFL (graD l))=zt;rw[vF,B];rfl
theorem Uw(B:T 27=zn)(C:T 39=zs P0)(D:T 38=zn){m:Modl}(H:(0<m.fs.length/\m.fs.length<=10000)/\∀c∈m.fs,GOk c):AM.Comes ⟨env,T,A0⟩ 19 [m.F] [ownd 0 1 (graD m.fs),.int .i64 (idxOf (fun c:Cod=>decide (c.name=B3)) m.fs)]:=by
 obtain⟨⟨h0,J⟩,hc⟩:=H;obtain⟨fr',h1,h2,N⟩:=NI (gs:=m.gs.map Glo.F) B J hc (m.fs.length-1) 1 (by omega) (by decide);have I:=(loop_more (A1V (gs:=m.gs.map Glo.F) B h0 (hc _ (zqc h0)))).trans h1;have t:=fun K=>gQ (l:=m.fs) C D (by simp only[bigN];omega) K
 have hl:(graD m.fs).length=m.fs.length:=by unfold graD;simp
 refine⟨[.msl 0 0 m.fs.length 1,.int .i64 (idxOf (fun c:Cod=>decide (c.name=B3)) m.fs)],⟨[.row 0 (graD m.fs) 1],0,[]⟩,?_,?_⟩
 . rw[A3 (c:=SC) (nt:=35) (rs:=[.tmp 2,.tmp 3]) rfl (by simp)];unfold SC
   unfold K0 Modl.F;simp only[I,h2,N,t,zqa,XP,seval]
 . refine A9 rfl ?_ rfl ?_ ?_
   all_goals simp only[hl,XP,seval]
def n7:=X6 (fun p:(Modl)=>[p.F]) (fun p=>[ownd 0 1 (graD p.fs),.int .i64 (idxOf (fun c:Cod=>decide (c.name=B3)) p.fs)]) (fun p=>(0<p.fs.length/\p.fs.length<=10000)/\∀c∈p.fs,GOk c)
theorem Zu(B:T 19=zs n7){m:Modl}{K:PK}(C:(0<m.fs.length/\m.fs.length<=10000)/\∀c∈m.fs,GOk c):evP ⟨env,T,A0⟩ (.call 19 [m.F] K)=zs (.val (openTs K.os.length [ownd 0 1 (graD m.fs),.int .i64 (idxOf (fun c:Cod=>decide (c.name=B3)) m.fs)]).1 ⟨K.os++(openTs K.os.length [ownd 0 1 (graD m.fs),.int .i64 (idxOf (fun c:Cod=>decide (c.name=B3)) m.fs)]).2,K.ext,K.tch⟩):=B4 B (by simp only[VV,XP,seval]) (B6 (a:=fun p:(Modl)=>[p.F]) (r:=fun p=>[ownd 0 1 (graD p.fs),.int .i64 (idxOf (fun c:Cod=>decide (c.name=B3)) p.fs)]) (fun x y e=>by simp only[VJ]at e;simp only[e]) (m) C) (by simp only[VN,vG,XP,seval])
theorem gR(B:T 27=zn)(C:T 39=zs P0)(D:T 38=zn)(H:PEok ⟨env,T,A0⟩):TC env 19 n7:=B7 H fun p h=>Uw B C D h
end
def lonL(rec:Nat->List Int->(Int×Bool)×List Int):List Int->Int->List Int->Option Int×List Int
 |[],most,k=>(zs most,k)
 | t::l,most,k=>match rec t.toNat k with
  |((n,zt),k')=>lonL rec l (max most n) k'
  |((_,zf),k')=>(zn,k')
def lonD(g:List (List Int)):Nat->Nat->List Int->(Int×Bool)×List Int
 |0,_,k=>((0,zf),k)
 | f + 1,v,k=>if k.getD v 0=0 then
     match lonL (lonD g f) (g.getD v []) 0 (k.set v (-1))with
     |(zs most,k')=>((most+1,zt),k'.set v (most+1))
     |(zn,k')=>((0,zf),k')
  else((k.getD v 0,decide (¬k.getD v 0=-1)),k)
def dn(k:List Int):Nat:=k.countP (0 < ·)
structure KInv(n:Nat)(k:List Int):Prop where
 len:k.length=n
 bd:∀v∈k,v<=dn k
 lo:∀v∈k,-1<=v
theorem DU(k:List Int):dn k<=k.length:=List.countP_le_length
theorem vH{k:List Int}{v:Nat}{x:Int}(h:v<k.length)(h0:k[v]<=0):dn (k.set v x)=dn k+if 0<x then 1 else 0:=by
 unfold dn;rw[zke h];have e:decide (0<k[v])=zf:=by simp;omega
 rw[e];by_cases B:0<x<;>simp[B]
theorem GP{k:List Int}{v:Nat}{x:Int}(h:v<k.length)(h0:k[v]=0)(B:x≠0):(k.set v x).count 0+1=k.count 0:=by
 have hp:0<k.count 0:=List.count_pos_iff.2 (h0▸zqc h);unfold List.count at *;rw[zke h];have e:(k[v]==0)=zt:=by simp[h0]
 have e2:(x==0)=zf:=by simp[B]
 rw[e,e2];simp;omega
theorem NM{k k':List Int}(hl:k'.length=k.length)(h:∀i,k.getD i 0≠0->k'.getD i 0=k.getD i 0):k'.count 0<=k.count 0:=by
 induction k generalizing k' with
 |nil=>cases k' with|nil=>exact Nat.le_refl _|cons _ _=>simp at hl
 | cons x l B=>cases k' with
  |nil=>simp at hl
  |cons y C=>
   have h1:=h 0;have h2:=B (k':=C) (by simpa using hl) (fun i hi=>by have:=h (i+1);simp at this|-;exact this (by simpa using hi));simp at h1;rw[zkf,zkf];by_cases e:x=0
   . subst e;simp;split<;>omega
   . rw[h1 e];simp[e];exact h2
structure Lft(n:Nat)(k k':List Int):Prop where
 inv:KInv n k'
 st:∀i,k.getD i 0≠0->k'.getD i 0=k.getD i 0
theorem Lft.tr{n:Nat}{a b c:List Int}(h1:Lft n a b)(h2:Lft n b c):Lft n a c:=⟨h2.inv,fun i hi=>by rw[h2.st i (by rw[h1.st i hi];exact hi),h1.st i hi]⟩
theorem Lft.cz{n:Nat}{a b:List Int}(ha:a.length=n)(h:Lft n a b):b.count 0<=a.count 0:=NM (by rw[h.inv.len,ha]) h.st
theorem KInv.open{n:Nat}{k:List Int}{v:Nat}(h:KInv n k)(hv:v<n)(h0:k.getD v 0=0):KInv n (k.set v (-1))/\(k.set v (-1)).getD v 0=-1/\(k.set v (-1)).count 0+1=k.count 0/\Lft n k (k.set v (-1)):=by
 have hl:=h.len;have C:k[v]'(by omega)=0:=by rw[zql,zqi (by omega)]at h0;exact h0
 have D:dn (k.set v (-1))=dn k:=by rw[vH (by omega) (by omega)];simp
 have hi:KInv n (k.set v (-1)):=⟨by simp[hl],fun x B=>by
  rw[D];rcases zqo B with B|rfl
  . exact h.bd x B
  . omega,fun x B=>by
  rcases zqo B with B|rfl
  . exact h.lo x B
  . omega⟩
 refine⟨hi,?_,GP (by omega) C (by decide),hi,fun i hi=>?_⟩
 . rw[zql,zka (by omega)];rfl
 . rw[zql,zql,List.getElem?_set]
   split
   . rename_i e;subst e;exact absurd h0 hi
   . rfl
theorem Ko{n:Nat}{rec:Nat->List Int->(Int×Bool)×List Int}{f:Nat}(D:∀v k,v<n->KInv n k->k.count 0<f->Lft n k (rec v k).2/\((rec v k).1.2=zt->0<(rec v k).1.1/\(rec v k).1.1<=dn (rec v k).2)):
 ∀(l:List Int)(most:Int)(k:List Int),(∀t∈l,0<=t/\t<n)->KInv n k->k.count 0<f->0<=most/\most<=dn k->Lft n k (lonL rec l most k).2/\∀x,(lonL rec l most k).1=zs x->0<=x/\x<=dn (lonL rec l most k).2
 |[],most,k,hl,hk,hc,hm=>⟨⟨hk,fun _ _=>rfl⟩,fun x e=>by unfold lonL at e|-;cases e;exact hm⟩
 |t :: l,most,k,hl,hk,hc,hm=>by
  obtain⟨h1,h2⟩:=D t.toNat k (by have:=hl t (List.mem_cons_self ..);omega) hk hc;unfold lonL;rcases J:rec t.toNat k with⟨⟨a,b⟩,k'⟩
  rw[J]at h1 h2;cases b with
  |false=>exact⟨h1,fun x e=>by cases e⟩
  |true=>
   have H:=h2 rfl;simp only at H h1|-;have hd:dn k<=dn k':=by
    clear J h2 H;have B:k'.length=k.length:=by rw[h1.inv.len,hk.len]
    have C:=h1.st;clear h1 hc hm hk;unfold dn
    induction k generalizing k' with
    |nil=>exact Nat.zero_le _
    | cons x l V=>cases k' with
     |nil=>simp at B
     |cons y X=>
      have I:=C 0;have a2:=V (k':=X) (by simpa using B) (fun i hi=>by have:=C (i+1);simp at this|-;exact this (by simpa using hi));simp at I;rw[zkg,zkg];by_cases e:x=0
      . subst e;simp;omega
      . rw[I e];split<;>omega
   obtain⟨Q,U⟩:=Ko D l (max most a) k' (fun t N=>hl t (List.mem_cons_of_mem _ N)) h1.inv (by have:=h1.cz hk.len;omega) (by omega);exact⟨h1.tr Q,U⟩
theorem Cj{g:List (List Int)}{n:Nat}(hg:∀v,∀t∈g.getD v [],0<=t/\t<n):∀(f v:Nat)(k:List Int),v<n->KInv n k->k.count 0<f->Lft n k (lonD g f v k).2/\((lonD g f v k).1.2=zt->0<(lonD g f v k).1.1/\(lonD g f v k).1.1<=dn (lonD g f v k).2)
 |0,v,k,hv,hk,hc=>absurd hc (Nat.not_lt_zero _)
 |f + 1,v,k,hv,hk,hc=>by
  have hl:=hk.len;have D:k.getD v 0∈k:=by rw[zql,zqi (by omega)];exact zqc _
  rw[lonD];by_cases h0:k.getD v 0=0
  . rw [if_pos h0]
    obtain⟨p1,p2,p3,p4⟩:=hk.open hv h0;obtain⟨C,J⟩:=Ko (Cj hg f) (g.getD v []) 0 (k.set v (-1)) (hg v) p1 (by omega) ⟨Int.le_refl _,by omega⟩;rcases B:lonL (lonD g f) (g.getD v []) 0 (k.set v (-1))with⟨o,k'⟩
    rw[B]at C J;have H:=C.st v (by rw[p2];decide);rw[p2]at H;have hl':=C.inv.len;simp only at C J H hl';cases o with
    |none=>exact⟨p4.tr C,fun e=>by cases e⟩
    |some most=>
     obtain⟨q4,q5⟩:=J most rfl;have hkv:k'[v]'(by omega)=-1:=by rw[zql,zqi (by omega)]at H;exact H
     have N:dn (k'.set v (most+1))=dn k'+1:=by rw[vH (by omega) (by omega),if_pos (by omega)]
     refine⟨⟨⟨by simp[hl'],fun x B=>?_,fun x B=>?_⟩,fun i hi=>?_⟩,fun _=>?_⟩
     . rw[N]
       rcases zqo B with B|rfl
       . have:=C.inv.bd x B;omega
       . omega
     . rcases zqo B with B|rfl
       . exact C.inv.lo x B
       . omega
     . have I:¬v=i:=fun e=>by subst e;exact hi h0
       rw[<-(p4.tr C).st i hi,zql,zql,List.getElem?_set_ne I]
     . exact⟨by show 0<most+1;omega,by show most+1<=(dn (k'.set v (most+1)):Int);rw[N];omega⟩
  . rw[if_neg h0]
    refine⟨⟨hk,fun _ _=>rfl⟩,fun e=>?_⟩;have h1:=hk.lo _ D;have h2:=hk.bd _ D;have e:¬k.getD v 0=-1:=by simpa using e
    exact⟨by show 0<k.getD v 0;omega,h2⟩
end Go.Proofs.AmEnv
