/- What this program's functions do, at any data. Conditions: none. -/
import Derived.Test.YtekhlbomopiemaaEnv
import Derived.KernelRfl
set_option linter.unusedVariables false
set_option linter.unusedSimpArgs false
set_option linter.unusedSectionVars false
set_option linter.defProp false
set_option maxRecDepth 100000
set_option maxHeartbeats 4000000
open Option renaming some→zs,none→zn
open Bool renaming true→zt,false→zf
open List renaming length_map→zqa,nodup_nil→zqb,getElem_mem→zqc,getElem?_eq_getElem→zqd,cons_append→zqe,nil_append→zqf,append_nil→zqg,drop_length→zqh,drop_eq_getElem_cons→zqi,getElem?_map→zqj,take_zero→zqk,findIdx?_eq_some_iff_getElem→zql,length_zip→zqm,getD_eq_getElem?_getD→zqn,take_succ_eq_append_getElem→zqo,map_append→zqp,mem_singleton→zqq,findIdx?_eq_none_iff→zqr,take_of_length_le→zqs,length_set→zqt,contains_cons→zqu,contains_nil→zqv,headD_cons→zqw,length_append→zqx,length_eq_zero_iff→zqy
open Int renaming toNat_natCast→zqz,le_trans→zka
open Bool renaming false_and→zkb,false_eq_true→zkc,or_true→zkd,and_eq_true→zke,or_false→zkf,or_eq_false_iff→zkg,eq_false_iff→zkh
open Nat renaming ble_eq_true_of_le→zki
noncomputable section
namespace Go.Proofs.AmEnv
open Go Go.AM
variable {T:Nat->Option (List AV->Option (List AV))}
abbrev ints(l:List Int):List AV:=l.map (AV.int .i64)
theorem cS(l:List Int):Ci (ints l)=zt:=by
 induction l with
 |nil=>rfl
 |cons x l B=>exact B
theorem A8{l:List Int}{i:Nat}(h:i<l.length):(ints l)[i]?=zs (.int .i64 l[i]):=by
 grind
theorem Ns{l:List Int}{i:Nat}(h:i<l.length):ints (l.take i)++[.int .i64 l[i]]=ints (l.take (i+1)):=by
 unfold ints;rw[zqo h,zqp];rfl
section
variable {l:List Int}{f:Bool}{i:Nat}{x:Int}{es:List AV}
theorem A1U(hl:0<l.length):
 evP ⟨A0,T,A2⟩ (.code Lw [(0,.fsl (ints l) f),(3,.nilsl),(4,.int .i64 0)] ⟨[],0,[]⟩)=zs (.ok .normal [(0,.fsl (ints l) f),(3,.msl 0 0 1 1),(4,.int .i64 ((1:Nat):Int))] ⟨[.row 0 (ints (l.take 1)) 1],0,[]⟩):=by
 unfold Lw;have D:decide ((0:Int)<((ints l).length:Int))=zt:=by simp[hl]
 have hi:=A8 hl;have hw:=B7 (i:=0) (by omega);have G:Pb ty3 (.fsl (ints l) f) (.int .i64 0)=zs (.fptr (.int .i64 l[0]) 0):=ix_fsl (i:=0) hi rfl;have B:=Ns hl;rw[zqk]at B;have B:[AV.int .i64 l[0]]=ints (l.take 1):=B;simp only[D,G,<-B,show IntKind.i64.wrap (0+1)=((1:Nat):Int)from rfl,XP,Nat.reduceAdd,Nat.reduceSub,Nat.reduceLT,Nat.reduceLeDiff,Nat.reduceEqDiff,Nat.reduceMul,↓reduceIte]
theorem A1V(hl:i<l.length)(hs:l.length*8<=140737488355328):
 evP ⟨A0,T,A2⟩ (.code Lw [(0,.fsl (ints l) f),(3,.msl 0 0 i 1),(4,.int .i64 i)] ⟨[.row 0 (ints (l.take i)) 1],0,[]⟩)=zs (.ok .normal [(0,.fsl (ints l) f),(3,.msl 0 0 (i+1) 1),(4,.int .i64 ((i+1:Nat):Int))] ⟨[.row 0 (ints (l.take (i+1))) 1],0,[]⟩):=by
 unfold Lw;have B:decide ((i:Int)<((ints l).length:Int))=zt:=by simp[hl]
 have hi:=A8 hl;have D:(ints (l.take i)).length=i:=by simp;omega
 have G:=B7 (i:=i) (by omega);have hz:(i+1)*8<=140737488355328:=by omega
 simp only[B,hi,D,G,hz,Ns hl,XP,seval]
theorem MV{y:AV}{K:PK}:∃fr',evP ⟨A0,T,A2⟩ (.code Lw [(0,.fsl (ints l) f),(3,y),(4,.int .i64 l.length)] K)=zs (.ok (.exit 0) fr' K)/\lookP fr' 3=y:=by
 unfold Lw;have B:decide ((l.length:Int)<((ints l).length:Int))=zf:=by simp
 simp only[B,XP,seval];exact⟨_,rfl,rfl⟩
theorem MW(B:l.length*8<=140737488355328):∀(n i:Nat),l.length=i+n->0<i->∃fr',evP ⟨A0,T,A2⟩ (.code (.loop Lw) [(0,.fsl (ints l) f),(3,.msl 0 0 i 1),(4,.int .i64 i)] ⟨[.row 0 (ints (l.take i)) 1],0,[]⟩)=zs (.ok (.exit 0) fr' ⟨[.row 0 (ints l) 1],0,[]⟩)/\lookP fr' 3=.msl 0 0 l.length 1
 |0,i,e,h0=>by
  obtain rfl:i=l.length:=by omega
  rw[List.take_length];obtain⟨fr',D,G⟩:=MV (T:=T) (l:=l) (f:=f) (y:=.msl 0 0 l.length 1) (K:=⟨[.row 0 (ints l) 1],0,[]⟩);grind [E3]
 |n+1,i,e,h0=>by
  rw[loop_more (A1V (by omega) B)];exact MW B n (i+1) (by omega) (by omega)
theorem Uf(G:l.length*8<=140737488355328):AM.Comes ⟨A0,T,A2⟩ 50 [.fsl (ints l) f] [ownd 0 1 (ints l)]:=by
 cases l with
 |nil=>
  obtain⟨fr',B,D⟩:=MV (T:=T) (l:=[]) (f:=f) (y:=.nilsl) (K:=⟨[],0,[]⟩);have hl:=E3 B;refine⟨[.nilsl],⟨[],0,[]⟩,?_,⟨by decide,rfl,rfl⟩⟩;rw[A4 (c:=LJ) (nt:=19) (rs:=[.tmp 2]) rfl (by simp)];unfold LJ K0;have hl:evP ⟨A0,T,A2⟩ (.code (.loop Lw) [(0,.fsl (ints []) f),(3,.nilsl),(4,.int .i64 0)] ⟨[],0,[]⟩)=_:=hl;simp only[hl,D,XP,seval]
 |cons x r=>
  obtain⟨fr',B,D⟩:=MW (T:=T) (f:=f) G r.length 1 (by simp;omega) (by decide);have hl:=(loop_more (A1U (T:=T) (f:=f) (l:=x::r) (by simp))).trans B;refine⟨[.msl 0 0 (x::r).length 1],⟨[.row 0 (ints (x::r)) 1],0,[]⟩,?_,?_⟩
  . rw[A4 (c:=LJ) (nt:=19) (rs:=[.tmp 2]) rfl (by simp)]
    unfold LJ K0;simp only[hl,D,XP,seval]
  . refine back_of (vs':=[.msl 0 0 (x::r).length 1]) (os':=[.row 0 (ints (x::r)) 1]) ?_ ?_ (us:=[.msl 0 0 (ints (x::r)).length 1]) (ps:=[.row 0 (ints (x::r)) 1]) ?_ ?_ ?_
    all_goals simp only[zqa,XP,seval]
end
theorem ints_inj{l m:List Int}(h:ints l=ints m):l=m:=by
 induction l generalizing m with
 | nil=>simp_all
 | cons x l D=>cases m with
  |nil=>cases h
  |cons y m=>grind
section
variable {l m:List Int}{f g:Bool}{i:Nat}
theorem A1W(hl:i<l.length)(D:i<m.length)(G:l[i]=m[i])(hs:l.length<=140737488355328):
 evP ⟨A0,T,A2⟩ (.code Fj [(0,.fsl (ints l) f),(1,.fsl (ints m) g),(5,.int .i64 i)] ⟨[],0,[]⟩)=zs (.ok .normal [(0,.fsl (ints l) f),(1,.fsl (ints m) g),(5,.int .i64 ((i+1:Nat):Int))] ⟨[],0,[]⟩):=by
 unfold Fj;have B:decide ((i:Int)<((ints l).length:Int))=zt:=by simp[hl]
 have H:=A8 hl;have I:=A8 D;have J:=B7 (i:=i) (by omega);simp_all [XP]
theorem A1X(hl:i<l.length)(D:i<m.length)(G:¬l[i]=m[i]):
 ∃fr',evP ⟨A0,T,A2⟩ (.code Fj [(0,.fsl (ints l) f),(1,.fsl (ints m) g),(5,.int .i64 i)] ⟨[],0,[]⟩)=zs (.ok .ret fr' ⟨[],0,[]⟩)/\lookP fr' 4=.bool zf:=by
 unfold Fj;have B:decide ((i:Int)<((ints l).length:Int))=zt:=by simp[hl]
 have H:=A8 hl;have I:=A8 D;have J:decide (l[i]=m[i])=zf:=by simp[G]
 simp only[B,H,I,J,u_not,XP,seval];exact⟨_,rfl,rfl⟩
theorem A1Y(hm:l.length=m.length):∃fr',evP ⟨A0,T,A2⟩ (.code Fj [(0,.fsl (ints l) f),(1,.fsl (ints m) g),(5,.int .i64 l.length)] ⟨[],0,[]⟩)=zs (.ok (.exit 0) fr' ⟨[],0,[]⟩):=by
 unfold Fj;have B:decide ((l.length:Int)<((ints l).length:Int))=zf:=by simp
 simp only[B,XP,seval];grind
theorem si_l(I:l.length<=140737488355328)(H:l.length=m.length):∀(n i:Nat),l.length=i+n ->
 (l.drop i=m.drop i/\∃fr',evP ⟨A0,T,A2⟩ (.code (.loop Fj) [(0,.fsl (ints l) f),(1,.fsl (ints m) g),(5,.int .i64 i)] ⟨[],0,[]⟩)=zs (.ok (.exit 0) fr' ⟨[],0,[]⟩))\/
 (l.drop i≠m.drop i/\∃fr',evP ⟨A0,T,A2⟩ (.code (.loop Fj) [(0,.fsl (ints l) f),(1,.fsl (ints m) g),(5,.int .i64 i)] ⟨[],0,[]⟩)=zs (.ok .ret fr' ⟨[],0,[]⟩)/\lookP fr' 4=.bool zf)
 |0,i,e=>by
  obtain rfl:i=l.length:=by omega
  obtain⟨fr',h⟩:=A1Y (T:=T) (f:=f) (g:=g) H;grind [E3]
 |n + 1,i,e=>by
  have hl:i<l.length:=by omega
  have hl':i<m.length:=by omega
  rw[zqi hl,zqi hl'];by_cases G:l[i]=m[i]
  . rw[loop_more (A1W hl hl' G I)]
    rcases si_l I H n (i+1) (by omega)with⟨B,D⟩|⟨B,D⟩
    . grind
    grind
  . obtain⟨fr',B,D⟩:=A1X (T:=T) (f:=f) (g:=g) hl hl' G
    grind [Cp]
theorem Ug(H:l.length<=140737488355328):AM.Comes ⟨A0,T,A2⟩ 12 [.fsl (ints l) f,.fsl (ints m) g] [.bool (decide (l=m))]:=by
 refine⟨[.bool (decide (l=m))],⟨[],0,[]⟩,?_,back_of rfl zqb rfl rfl rfl⟩;rw[A4 (c:=SZ) (nt:=27) (rs:=[.tmp 4]) rfl (by simp)];unfold SZ K0;by_cases G:l.length=m.length
 . have hn:(!decide (((ints l).length:Int)=((ints m).length:Int)))=zf:=by simp[G]
   rcases si_l (T:=T) (f:=f) (g:=g) H G l.length 0 (by omega)with⟨B,fr',D⟩|⟨B,fr',D,I⟩
   . have B:decide (l=m)=zt:=by grind
     have D:evP ⟨A0,T,A2⟩ (.code (.loop Fj) [(0,.fsl (ints l) f),(1,.fsl (ints m) g),(5,.int .i64 0)] ⟨[],0,[]⟩)=_:=D;simp_all [XP]
   . have B:decide (l=m)=zf:=by grind
     have D:evP ⟨A0,T,A2⟩ (.code (.loop Fj) [(0,.fsl (ints l) f),(1,.fsl (ints m) g),(5,.int .i64 0)] ⟨[],0,[]⟩)=_:=D;simp_all [XP]
 . have hn:(!decide (((ints l).length:Int)=((ints m).length:Int)))=zt:=by grind
   have B:decide (l=m)=zf:=by grind
   simp_all [XP]
end
structure Ins where
 op:Int
 ty:Int
 dst:Int
 a:Int
 b:Int
 n:Int
 s:List UInt8
 args:List Int
deriving DecidableEq
abbrev bigN:Nat:=140737488355328
def Ins.cs(x:Ins)(v:AV):List AV:=[.int .i64 x.op,.int .i64 x.ty,.int .i64 x.dst,.int .i64 x.a,.int .i64 x.b,.int .i64 x.n,.str x.s,v]
def Ins.F(x:Ins):AV:=.agg [.int .i64 x.op,.int .i64 x.ty,.int .i64 x.dst,.int .i64 x.a,.int .i64 x.b,.int .i64 x.n,.str x.s,fslN (ints x.args)]
def Ins.O(x:Ins):AV:=.agg [.int .i64 x.op,.int .i64 x.ty,.int .i64 x.dst,.int .i64 x.a,.int .i64 x.b,.int .i64 x.n,.str x.s,ownd 0 1 (ints x.args)]
def Ins.ok(x:Ins):Prop:=x.args.length*8<=bigN
theorem fslN_inj{l m:List AV}(h:fslN l=fslN m):l=m:=by grind [fslN]
theorem Ins.F_inj{x y:Ins}(h:x.F=y.F):x=y:=by
 cases x;cases y;simp only[Ins.F,AV.agg.injEq,List.cons.injEq,AV.int.injEq,AV.str.injEq,true_and,and_true]at h;obtain⟨rfl,rfl,rfl,rfl,rfl,rfl,rfl,h⟩:=h;rw[ints_inj (fslN_inj h)]
def Q8:=r9 (fun l:List Int=>[fslN (ints l)]) (fun l=>[ownd 0 1 (ints l)]) (fun l=>l.length*8<=bigN)
theorem Dh{l:List Int}(h:l.length*8<=bigN):Q8 [fslN (ints l)]=zs [ownd 0 1 (ints l)]:=C1 (a:=fun l:List Int=>[fslN (ints l)]) (by grind [Go.Proofs.AmEnv.fslN_inj]) l h
def L3:=r9 (fun p:List Int×List Int=>[fslN (ints p.1),fslN (ints p.2)]) (fun p=>[.bool (decide (p.1=p.2))]) (fun p=>p.1.length*8<=bigN)
theorem cT{l m:List Int}(h:l.length*8<=bigN):L3 [fslN (ints l),fslN (ints m)]=zs [.bool (decide (l=m))]:=C1 (a:=fun p:List Int×List Int=>[fslN (ints p.1),fslN (ints p.2)]) (r:=fun p=>[.bool (decide (p.1=p.2))]) (by grind [Go.Proofs.AmEnv.ints_inj, Go.Proofs.AmEnv.fslN_inj]) (l,m) h
theorem frzL_ints(l:List Int):frzL (ints l)=zs (ints l):=n9 (f:=AV.int .i64) (g:=AV.int .i64) (fun _=>rfl) l
section
variable {T:Nat->Option (List AV->Option (List AV))}
theorem noFL_ints(l:List Int):noFL (ints l)=zt:=by
 induction l with
 |nil=>rfl
 |cons x l B=>exact B
theorem Qn(hT:T 50=zs Q8){x:Ins}(h:x.ok):AM.Comes ⟨A0,T,A2⟩ 70 [x.F] [x.O]:=by
 refine⟨[.agg (x.cs (.msl 1 0 (ints x.args).length 1))],⟨[.row 1 [.agg (x.cs (.msl 1 0 (ints x.args).length 1))] 8,.row 0 (ints x.args) 1],0,[]⟩,?_,?_⟩
 . rw[A4 (c:=UM) (nt:=8) (rs:=[.cell 2 41]) rfl (by simp)]
   unfold UM K0;have B:∀{K:PK},evP ⟨A0,T,A2⟩ (.call 50 [fslN (ints x.args)] K)=zs (.val (openTs K.os.length [ownd 0 1 (ints x.args)]).1 ⟨K.os++(openTs K.os.length [ownd 0 1 (ints x.args)]).2,K.ext,K.tch⟩):=B8 hT (by show consO (uQ (frzL (ints x.args))) (zs [])=_;rw[frzL_ints];rfl) (Dh h) (by rfl);simp only[Ins.F,Ins.cs,B,XP,seval]
 . refine back_of (vs':=[.agg (x.cs (.msl 1 0 (ints x.args).length 1))]) (os':=[.row 1 [.agg (x.cs (.msl 1 0 (ints x.args).length 1))] 8,.row 0 (ints x.args) 1]) ?_ ?_ (us:=[.agg (x.cs (.msl 0 0 (ints x.args).length 1))]) (ps:=[.row 0 (ints x.args) 1]) ?_ ?_ ?_
   all_goals simp only[Ins.cs,Ins.O,XP,seval]
end
def l9:=r9 (fun x:Ins=>[x.F]) (fun x=>[x.O]) Ins.ok
theorem Xt{x:Ins}(h:x.ok):l9 [x.F]=zs [x.O]:=C1 (a:=fun x:Ins=>[x.F]) (by grind [Go.Proofs.AmEnv.Ins.F_inj]) x h
theorem Ins.viewF{os:List PO}(x:Ins):viewA os x.F=zs x.F:=by
 simp_all [Ins.F, XP, frzL_ints]
theorem Ins.frzF(x:Ins):frzC x.F=zs x.F:=by
 simp_all [Ins.F, XP, frzL_ints]
theorem Ins.frzO(x:Ins):frzC x.O=zs x.F:=by
 simp_all [Ins.F, Ins.O, XP, frzL_ints]
theorem A9{X:Type}{F:X->AV}{l:List X}{i:Nat}(h:i<l.length):(l.map F)[i]?=zs (F l[i]):=by grind
theorem map_take{X:Type}{F:X->AV}{l:List X}{i:Nat}(h:i<l.length):(l.take i).map F++[F l[i]]=(l.take (i+1)).map F:=by rw[zqo h,zqp];rfl
section
variable {l:List Ins}{f:Bool}{i:Nat}
theorem Uh(hT:T 70=zs l9){x:Ins}(h:x.ok){K:PK}:evP ⟨A0,T,A2⟩ (.call 70 [x.F] K)=zs (.val (openTs K.os.length [x.O]).1 ⟨K.os++(openTs K.os.length [x.O]).2,K.ext,K.tch⟩):=B8 hT (by show consO (viewA _ x.F) (zs [])=_;rw[Ins.viewF];rfl) (Xt h) (by
 simp_all [Ins.O, XP, noFL_ints])
theorem MX(hT:T 70=zs l9)(hl:i<l.length)(I:l[i].ok)(D:l.length*88<=bigN):
 evP ⟨A0,T,A2⟩ (.code Pw [(0,fslN (l.map Ins.F)),(3,.msl 0 0 i 8),(4,.int .i64 i)] ⟨[.row 0 ((l.take i).map Ins.O) 8],0,[]⟩)=zs (.ok .normal [(0,fslN (l.map Ins.F)),(3,.msl 0 0 (i+1) 8),(4,.int .i64 ((i+1:Nat):Int))] ⟨[.row 0 ((l.take (i+1)).map Ins.O) 8],0,[]⟩):=by
 unfold Pw;have B:decide ((i:Int)<((l.map Ins.F).length:Int))=zt:=by simp[hl]
 have hi:=A9 (F:=Ins.F) hl;have J:((l.take i).map Ins.O).length=i:=by simp;omega
 have N:=B7 (i:=i) (by grind);have hz:(i+1)*88<=140737488355328:=by grind
 have G:=fun K=>Uh (K:=K) hT I
 have H:=map_take (F:=Ins.O) hl;simp_all [Ins.F, Ins.O, XP]
theorem MY(hT:T 70=zs l9)(hl:0<l.length)(H:l[0].ok)(hs:l.length*88<=bigN):
 evP ⟨A0,T,A2⟩ (.code Pw [(0,fslN (l.map Ins.F)),(3,.nilsl),(4,.int .i64 0)] ⟨[],0,[]⟩)=zs (.ok .normal [(0,fslN (l.map Ins.F)),(3,.msl 0 0 1 8),(4,.int .i64 ((1:Nat):Int))] ⟨[.row 0 ((l.take 1).map Ins.O) 8],0,[]⟩):=by
 unfold Pw;have D:decide ((0:Int)<((l.map Ins.F).length:Int))=zt:=by simp[hl]
 have hi:=A9 (F:=Ins.F) hl;have hi:=ix_fslN (te:=v8) (k:=.i64) (i:=0) hi rfl;have hi:Pb v8 (fslN (l.map Ins.F)) (.int .i64 0)=zs (.fptr (Ins.F l[0]) 0):=hi;have G:=fun K=>Uh (K:=K) hT H
 have B:=map_take (F:=Ins.O) hl;rw[zqk]at B;have B:[Ins.O l[0]]=(l.take 1).map Ins.O:=B;simp only[Ins.F]at G hi;rw[<-B];simp only[D,hi,Ins.O,G,show IntKind.i64.wrap (0+1)=((1:Nat):Int)from rfl,XP,Nat.reduceAdd,Nat.reduceSub,Nat.reduceLT,Nat.reduceLeDiff,Nat.reduceEqDiff,Nat.reduceMul,↓reduceIte]
theorem MZ{y:AV}{K:PK}:∃fr',evP ⟨A0,T,A2⟩ (.code Pw [(0,fslN (l.map Ins.F)),(3,y),(4,.int .i64 l.length)] K)=zs (.ok (.exit 0) fr' K)/\lookP fr' 3=y:=by
 unfold Pw;have B:decide ((l.length:Int)<((l.map Ins.F).length:Int))=zf:=by simp
 simp only[B,XP,seval];exact⟨_,rfl,rfl⟩
theorem Nt(hT:T 70=zs l9)(B:∀x∈l,x.ok)(D:l.length*88<=bigN):AM.Comes ⟨A0,T,A2⟩ 61 [fslN (l.map Ins.F)] [ownd 0 8 (l.map Ins.O)]:=by
 obtain⟨fr',y,os,G,H,I⟩:=Hp (P:=⟨A0,T,A2⟩) (c:=Pw) (A:=fslN (l.map Ins.F)) (O:=Ins.O) (sz:=8) (l:=l) (fun h=>MY hT h (B _ (zqc h)) D) (fun i h=>MX hT h (B _ (zqc h)) D) (fun y K=>MZ);refine⟨[y],⟨os,0,[]⟩,?_,D9 I⟩;rw[A4 (c:=UE) (nt:=20) (rs:=[.tmp 2]) rfl (by simp)];unfold UE K0;rcases I with⟨_,rfl,rfl⟩|⟨rfl,rfl⟩
 . simp_all [XP]
 simp_all [XP]
end
theorem map_inj{X:Type}{F:X->AV}(B:∀x y,F x=F y->x=y):∀{l m:List X},l.map F=m.map F->l=m
 |[],[],_=>rfl
 |[],_::_,h=>by cases h
 |_::_,[],h=>by cases h
 |x::l,y::m,h=>by
  injection h with D G
  rw[B _ _ D,map_inj B G]
def Y7:=r9 (fun l:List Ins=>[fslN (l.map Ins.F)]) (fun l=>[ownd 0 8 (l.map Ins.O)]) (fun l=>(∀x∈l,x.ok)/\l.length*88<=bigN)
theorem Ui{l:List Ins}(B:∀x∈l,x.ok)(D:l.length*88<=bigN):Y7 [fslN (l.map Ins.F)]=zs [ownd 0 8 (l.map Ins.O)]:=C1 (a:=fun l:List Ins=>[fslN (l.map Ins.F)]) (fun x y e=>by grind [map_inj, Ins.F_inj, fslN_inj]) l ⟨B,D⟩
section
variable {l m:List Ins}{i:Nat}
end
structure Endd where
 kind:Int
 a:Int
 to:Int
 els:Int
deriving DecidableEq
structure Blk where
 code:List Ins
 e:Endd
deriving DecidableEq
def Endd.F(e:Endd):AV:=.agg [.int .i64 e.kind,.int .i64 e.a,.int .i64 e.to,.int .i64 e.els]
def Blk.F(x:Blk):AV:=.agg [fslN (x.code.map Ins.F),.int .i64 x.e.kind,.int .i64 x.e.a,.int .i64 x.e.to,.int .i64 x.e.els]
def Blk.O(x:Blk):AV:=.agg [ownd 0 8 (x.code.map Ins.O),.int .i64 x.e.kind,.int .i64 x.e.a,.int .i64 x.e.to,.int .i64 x.e.els]
def Blk.ok(x:Blk):Prop:=(∀y∈x.code,y.ok)/\x.code.length*88<=bigN
theorem Blk.F_inj{x y:Blk}(h:x.F=y.F):x=y:=by
 obtain⟨c,e⟩:=x;obtain⟨c',B⟩:=y;cases e;cases B;simp only[Blk.F,AV.agg.injEq,List.cons.injEq,AV.int.injEq,true_and,and_true]at h;obtain⟨h,rfl,rfl,rfl,rfl⟩:=h;grind [map_inj, Ins.F_inj, fslN_inj]
theorem frzL_insF(l:List Ins):frzL (l.map Ins.F)=zs (l.map Ins.F):=n9 Ins.frzF l
theorem Zp(l:List Ins):frzL (l.map Ins.O)=zs (l.map Ins.F):=n9 Ins.frzO l
theorem Fm{X:Type}{O:X->AV}(h:∀x,noF (O x)=zt):∀l:List X,noFL (l.map O)=zt
 |[]=>rfl
 |x::l=>by show(noF (O x)&&noFL (l.map O))=zt;rw[h,Fm h l];rfl
theorem Ins.noF(x:Ins):noF x.O=zt:=by
 simp_all [Ins.O, XP, noFL_ints]
theorem noFL_insO(l:List Ins):noFL (l.map Ins.O)=zt:=Fm Ins.noF l
theorem Blk.frzF(x:Blk):frzC x.F=zs x.F:=by
 simp_all [Blk.F, XP, frzL_insF]
theorem Blk.frzO(x:Blk):frzC x.O=zs x.F:=by
 simp_all [Blk.F, Blk.O, XP, Zp]
theorem Blk.noF(x:Blk):noF x.O=zt:=by
 simp_all [Blk.O, XP, noFL_insO]
theorem Px(hT:T 61=zs Y7){l:List Ins}(B:∀x∈l,x.ok)(D:l.length*88<=bigN){K:PK}:evP ⟨A0,T,A2⟩ (.call 61 [fslN (l.map Ins.F)] K)=zs (.val (openTs K.os.length [ownd 0 8 (l.map Ins.O)]).1 ⟨K.os++(openTs K.os.length [ownd 0 8 (l.map Ins.O)]).2,K.ext,K.tch⟩):=B8 hT (by show consO (uQ (frzL (l.map Ins.F))) (zs [])=_;rw[frzL_insF];rfl) (Ui B D) (by simp_all [XP])
section
variable {l:List Blk}{i:Nat}
theorem NA(hT:T 61=zs Y7)(hl:i<l.length)(D:l[i].ok)(G:l.length*56<=bigN):
 evP ⟨A0,T,A2⟩ (.code Pv [(0,fslN (l.map Blk.F)),(3,.msl 0 0 i 5),(4,.int .i64 i)] ⟨[.row 0 ((l.take i).map Blk.O) 5],0,[]⟩)=zs (.ok .normal [(0,fslN (l.map Blk.F)),(3,.msl 0 0 (i+1) 5),(4,.int .i64 ((i+1:Nat):Int))] ⟨[.row 0 ((l.take (i+1)).map Blk.O) 5],0,[]⟩):=by
 unfold Pv;have B:decide ((i:Int)<((l.map Blk.F).length:Int))=zt:=by simp[hl]
 have hi:=A9 (F:=Blk.F) hl;have I:((l.take i).map Blk.O).length=i:=by simp;omega
 have J:=B7 (i:=i) (by grind);have hz:(i+1)*56<=140737488355328:=by grind
 have N:=fun K=>Px (K:=K) hT D.1 D.2
 have H:=map_take (F:=Blk.O) hl;simp only[Blk.F]at hi;simp only[Blk.O]at H;simp only[B,hi,I,J,hz,Blk.O,N,H,XP,seval]
theorem NB(hT:T 61=zs Y7)(hl:0<l.length)(G:l[0].ok)(hs:l.length*56<=bigN):
 evP ⟨A0,T,A2⟩ (.code Pv [(0,fslN (l.map Blk.F)),(3,.nilsl),(4,.int .i64 0)] ⟨[],0,[]⟩)=zs (.ok .normal [(0,fslN (l.map Blk.F)),(3,.msl 0 0 1 5),(4,.int .i64 ((1:Nat):Int))] ⟨[.row 0 ((l.take 1).map Blk.O) 5],0,[]⟩):=by
 unfold Pv;have D:decide ((0:Int)<((l.map Blk.F).length:Int))=zt:=by simp[hl]
 have hi:=A9 (F:=Blk.F) hl;have hi:=ix_fslN (te:=Ec) (k:=.i64) (i:=0) hi rfl;have hi:Pb Ec (fslN (l.map Blk.F)) (.int .i64 0)=zs (.fptr (Blk.F l[0]) 0):=hi;have H:=fun K=>Px (K:=K) hT G.1 G.2
 have B:=map_take (F:=Blk.O) hl;rw[zqk]at B;have B:[Blk.O l[0]]=(l.take 1).map Blk.O:=B;simp only[Blk.F]at hi;rw[<-B];simp only[D,hi,Blk.O,H,show IntKind.i64.wrap (0+1)=((1:Nat):Int)from rfl,XP,Nat.reduceAdd,Nat.reduceSub,Nat.reduceLT,Nat.reduceLeDiff,Nat.reduceEqDiff,Nat.reduceMul,↓reduceIte]
theorem NC{y:AV}{K:PK}:∃fr',evP ⟨A0,T,A2⟩ (.code Pv [(0,fslN (l.map Blk.F)),(3,y),(4,.int .i64 l.length)] K)=zs (.ok (.exit 0) fr' K)/\lookP fr' 3=y:=by
 unfold Pv;have B:decide ((l.length:Int)<((l.map Blk.F).length:Int))=zf:=by simp
 simp only[B,XP,seval];exact⟨_,rfl,rfl⟩
theorem Nu(hT:T 61=zs Y7)(B:∀x∈l,x.ok)(D:l.length*56<=bigN):AM.Comes ⟨A0,T,A2⟩ 51 [fslN (l.map Blk.F)] [ownd 0 5 (l.map Blk.O)]:=by
 obtain⟨fr',y,os,G,H,I⟩:=Hp (P:=⟨A0,T,A2⟩) (c:=Pv) (A:=fslN (l.map Blk.F)) (O:=Blk.O) (sz:=5) (l:=l) (fun h=>NB hT h (B _ (zqc h)) D) (fun i h=>NA hT h (B _ (zqc h)) D) (fun y K=>NC);refine⟨[y],⟨os,0,[]⟩,?_,D9 I⟩;rw[A4 (c:=TW) (nt:=27) (rs:=[.tmp 2]) rfl (by simp)];unfold TW K0;rcases I with⟨_,rfl,rfl⟩|⟨rfl,rfl⟩
 . simp_all [XP]
 simp_all [XP]
end
def Ay:=r9 (fun l:List Blk=>[fslN (l.map Blk.F)]) (fun l=>[ownd 0 5 (l.map Blk.O)]) (fun l=>(∀x∈l,x.ok)/\l.length*56<=bigN)
theorem Uj{l:List Blk}(B:∀x∈l,x.ok)(D:l.length*56<=bigN):Ay [fslN (l.map Blk.F)]=zs [ownd 0 5 (l.map Blk.O)]:=C1 (a:=fun l:List Blk=>[fslN (l.map Blk.F)]) (fun x y e=>by grind [map_inj, Blk.F_inj, fslN_inj]) l ⟨B,D⟩
section
variable {l m:List Blk}{i:Nat}
end
structure Cod where
 name:List UInt8
 ty:Int
 ps:Int
 regs:List Int
 blocks:List Blk
deriving DecidableEq
def Cod.F(x:Cod):AV:=.agg [.str x.name,.int .i64 x.ty,.int .i64 x.ps,fslN (ints x.regs),fslN (x.blocks.map Blk.F)]
def Cod.O(x:Cod):AV:=.agg [.str x.name,.int .i64 x.ty,.int .i64 x.ps,ownd 0 1 (ints x.regs),ownd 0 5 (x.blocks.map Blk.O)]
def Cod.cs(x:Cod)(u v:AV):List AV:=[.str x.name,.int .i64 x.ty,.int .i64 x.ps,u,v]
def Cod.ok(x:Cod):Prop:=x.regs.length*8<=bigN/\(∀y∈x.blocks,y.ok)/\x.blocks.length*56<=bigN
theorem Cod.F_inj{x y:Cod}(h:x.F=y.F):x=y:=by
 cases x;cases y;simp only[Cod.F,AV.agg.injEq,List.cons.injEq,AV.int.injEq,AV.str.injEq,true_and,and_true]at h;obtain⟨rfl,rfl,rfl,B,D⟩:=h;grind [fslN_inj, map_inj, Blk.F_inj]
theorem frzL_blkF(l:List Blk):frzL (l.map Blk.F)=zs (l.map Blk.F):=n9 Blk.frzF l
theorem Zq(l:List Blk):frzL (l.map Blk.O)=zs (l.map Blk.F):=n9 Blk.frzO l
theorem noFL_blkO(l:List Blk):noFL (l.map Blk.O)=zt:=Fm Blk.noF l
theorem Cod.viewF{os:List PO}(x:Cod):viewA os x.F=zs x.F:=by
 simp_all [Cod.F, XP, frzL_blkF, frzL_ints]
theorem Cod.frzF(x:Cod):frzC x.F=zs x.F:=by
 simp_all [Cod.F, XP, frzL_blkF, frzL_ints]
theorem Cod.frzO(x:Cod):frzC x.O=zs x.F:=by
 simp_all [Cod.F, Cod.O, XP, Zq, frzL_ints]
theorem Cod.noF(x:Cod):noF x.O=zt:=by
 simp_all [Cod.O, XP, noFL_blkO, noFL_ints]
theorem sX(hT:T 50=zs Q8){l:List Int}(h:l.length*8<=bigN){K:PK}:evP ⟨A0,T,A2⟩ (.call 50 [fslN (ints l)] K)=zs (.val (openTs K.os.length [ownd 0 1 (ints l)]).1 ⟨K.os++(openTs K.os.length [ownd 0 1 (ints l)]).2,K.ext,K.tch⟩):=B8 hT (by show consO (uQ (frzL (ints l))) (zs [])=_;rw[frzL_ints];rfl) (Dh h) (by rfl)
theorem gU(hT:T 51=zs Ay){l:List Blk}(B:∀x∈l,x.ok)(D:l.length*56<=bigN){K:PK}:evP ⟨A0,T,A2⟩ (.call 51 [fslN (l.map Blk.F)] K)=zs (.val (openTs K.os.length [ownd 0 5 (l.map Blk.O)]).1 ⟨K.os++(openTs K.os.length [ownd 0 5 (l.map Blk.O)]).2,K.ext,K.tch⟩):=B8 hT (by show consO (uQ (frzL (l.map Blk.F))) (zs [])=_;rw[frzL_blkF];rfl) (Uj B D) (by simp_all [XP])
theorem sY(hT:T 12=zs L3){l m:List Int}(h:l.length*8<=bigN){K:PK}:evP ⟨A0,T,A2⟩ (.call 12 [fslN (ints l),fslN (ints m)] K)=zs (.val [.bool (decide (l=m))] ⟨K.os++[],K.ext,K.tch⟩):=B8 hT (by show consO (uQ (frzL (ints l))) (consO (uQ (frzL (ints m))) (zs []))=_;rw[frzL_ints,frzL_ints];rfl) (cT h) (by rfl)
theorem Uk(B:T 50=zs Q8)(D:T 51=zs Ay){x:Cod}(h:x.ok):AM.Comes ⟨A0,T,A2⟩ 37 [x.F] [x.O]:=by
 refine⟨[.agg (x.cs (.msl 1 0 (ints x.regs).length 1) (.msl 2 0 (x.blocks.map Blk.O).length 5))],⟨[.row 1 [.agg (x.cs (.msl 1 0 (ints x.regs).length 1) (.msl 2 0 (x.blocks.map Blk.O).length 5))] 5,.row 0 (ints x.regs) 1,.row 0 (x.blocks.map Blk.O) 5],0,[]⟩,?_,?_⟩
 . rw[A4 (c:=TP) (nt:=12) (rs:=[.cell 2 34]) rfl (by simp)]
   unfold TP K0;have G:=fun K=>sX (K:=K) B h.1
   have H:=fun K=>gU (K:=K) D h.2.1 h.2.2
   simp_all [Cod.F, Cod.cs, XP]
 . refine back_of (vs':=[.agg (x.cs (.msl 1 0 (ints x.regs).length 1) (.msl 2 0 (x.blocks.map Blk.O).length 5))]) (os':=[.row 1 [.agg (x.cs (.msl 1 0 (ints x.regs).length 1) (.msl 2 0 (x.blocks.map Blk.O).length 5))] 5,.row 0 (ints x.regs) 1,.row 0 (x.blocks.map Blk.O) 5]) ?_ ?_ (us:=[.agg (x.cs (.msl 0 0 (ints x.regs).length 1) (.msl 1 0 (x.blocks.map Blk.O).length 5))]) (ps:=[.row 0 (ints x.regs) 1,.row 0 (x.blocks.map Blk.O) 5]) ?_ ?_ ?_
   all_goals simp only[Cod.cs,Cod.O,XP,seval]
section
variable {l:List Int}
theorem pK{t:Nat}{K:PK}(h:N2 A0 t=.slc):Q6 A0 .eql t .nilsl .nilsl K=.val (.bool zt) K:=by rw[bp _ _ rfl rfl,h];rfl
theorem pL{t:Nat}{K:PK}(h:N2 A0 t=.slc):Q6 A0 .eql t (.fsl [] zf) .nilsl K=.val (.bool zf) K:=by rw[bp _ _ rfl rfl,h];rfl
theorem gV{t:Nat}{K:PK}{e:AV}{es:List AV}(h:N2 A0 t=.slc):Q6 A0 .eql t (fslN (e::es)) .nilsl K=.val (.bool zf) K:=by rw[bp _ _ rfl rfl,h];rfl
theorem xE(n:Nat):F7 n []=zt:=rfl
theorem sZ:AM.Comes ⟨A0,T,A2⟩ 49 [.nilsl] [ownd 0 1 (ints [])]:=by
 refine⟨[.nilsl],⟨[],0,[]⟩,?_,D9 (.inl ⟨rfl,rfl,rfl⟩)⟩;rw[A4 (c:=FF) (nt:=8) (rs:=[.tmp 2]) rfl (by simp)];unfold FF K0;simp only[pK (t:=26) rfl,XP,seval]
theorem tA:AM.Comes ⟨A0,T,A2⟩ 49 [.fsl [] zf] [ownd 0 1 (ints [])]:=by
 refine⟨[.msl 0 0 0 1],⟨[.row 0 [] 1],0,[]⟩,?_,D9 (.inr ⟨rfl,rfl⟩)⟩;rw[A4 (c:=FF) (nt:=8) (rs:=[.tmp 2]) rfl (by simp)];unfold FF K0;simp only[pL (t:=26) rfl,xE,XP,seval]
theorem pM:∀l:List Int,F7 1 (ints l)=zt
 |[]=>rfl
 |x::l=>pM l
theorem mF{x:Int}{l:List Int}(I:(x::l).length*8<=bigN):AM.Comes ⟨A0,T,A2⟩ 49 [fslN (ints (x::l))] [ownd 0 1 (ints (x::l))]:=by
 refine⟨[.msl 0 0 (ints (x::l)).length 1],⟨[.row 0 (ints (x::l)) 1],0,[]⟩,?_,D9 (.inr ⟨rfl,rfl⟩)⟩;rw[A4 (c:=FF) (nt:=8) (rs:=[.tmp 2]) rfl (by simp)];unfold FF K0;have B:∀K:PK,Q6 A0 .eql 26 (fslN (ints (x::l))) .nilsl K=.val (.bool zf) K:=fun K=>gV (t:=26) rfl
 have D:=pM (x::l);have G:(ints (x::l)).isEmpty=zf:=rfl;simp_all [XP]
theorem xG{P:PE}(D:PEok P)(G:P=⟨A0,T,A2⟩):TC P.E 49 Q8:=by
 subst G;refine AT D (fun a args rs hg H ha=>?_) (by simp_all [Q8, r9]);obtain⟨l,I,B,rfl⟩:=eQ hg;injection B with B J
 subst B J;cases l with
 |nil=>
  rcases List.mem_cons.1 ha with rfl|ha
  . exact sZ
  . obtain rfl:=zqq.1 ha;exact tA
 |cons x l=>
  obtain rfl:=zqq.1 (show H∈[fslN (ints (x::l))]from ha);exact mF I
end
structure Glo where
 name:List UInt8
 ty:Int
 size:Int
 at_:Int
deriving DecidableEq
structure Modl where
 gs:List Glo
 fs:List Cod
deriving DecidableEq
def Glo.F(g:Glo):AV:=.agg [.str g.name,.int .i64 g.ty,.int .i64 g.size,.int .i64 g.at_]
def Modl.F(m:Modl):AV:=.agg [fslN (m.gs.map Glo.F),fslN (m.fs.map Cod.F)]
def Modl.O(m:Modl):AV:=.agg [ownd 0 4 (m.gs.map Glo.F),ownd 0 5 (m.fs.map Cod.O)]
abbrev bools(l:List Bool):List AV:=l.map AV.bool
def chkF(m:Modl)(c:Cod):AV:=.agg [fslN (m.gs.map Glo.F),fslN (m.fs.map Cod.F),.str c.name,.int .i64 c.ty,.int .i64 c.ps,fslN (ints c.regs),fslN (c.blocks.map Blk.F)]
theorem Glo.F_inj{x y:Glo}(h:x.F=y.F):x=y:=by
 cases x;cases y;simp only[Glo.F,AV.agg.injEq,List.cons.injEq,AV.int.injEq,AV.str.injEq,true_and,and_true]at h;grind
theorem Endd.F_inj{x y:Endd}(h:x.F=y.F):x=y:=by
 cases x;cases y;simp only[Endd.F,AV.agg.injEq,List.cons.injEq,AV.int.injEq,true_and,and_true]at h;grind
theorem Modl.F_inj{x y:Modl}(h:x.F=y.F):x=y:=by
 cases x;cases y;simp only[Modl.F,AV.agg.injEq,List.cons.injEq,and_true]at h;grind [map_inj, Glo.F_inj, fslN_inj, Cod.F_inj]
theorem fslN_iff{l m:List AV}:fslN l=fslN m↔l=m:=⟨fslN_inj,fun h=>h▸rfl⟩
theorem ints_iff{l m:List Int}:l.map (AV.int .i64)=m.map (AV.int .i64)↔l=m:=⟨ints_inj,fun h=>h▸rfl⟩
theorem bools_iff{l m:List Bool}:l.map AV.bool=m.map AV.bool↔l=m:=⟨(by grind [Go.Proofs.AmEnv.map_inj]),fun h=>h▸rfl⟩
theorem Ins.F_iff{x y:Ins}:x.F=y.F↔x=y:=⟨Ins.F_inj,fun h=>h▸rfl⟩
theorem Cod.F_iff{x y:Cod}:x.F=y.F↔x=y:=⟨Cod.F_inj,fun h=>h▸rfl⟩
theorem Endd.F_iff{x y:Endd}:x.F=y.F↔x=y:=⟨Endd.F_inj,fun h=>h▸rfl⟩
theorem Modl.F_iff{x y:Modl}:x.F=y.F↔x=y:=⟨Modl.F_inj,fun h=>h▸rfl⟩
theorem codL_iff{l m:List Cod}:l.map Cod.F=m.map Cod.F↔l=m:=⟨map_inj fun _ _=>Cod.F_inj,fun h=>h▸rfl⟩
theorem gloL_iff{l m:List Glo}:l.map Glo.F=m.map Glo.F↔l=m:=⟨map_inj fun _ _=>Glo.F_inj,fun h=>h▸rfl⟩
theorem Glo.frzF(x:Glo):frzC x.F=zs x.F:=by simp_all [Glo.F, XP]
theorem frzL_gloF(l:List Glo):frzL (l.map Glo.F)=zs (l.map Glo.F):=n9 Glo.frzF l
theorem frzL_codF(l:List Cod):frzL (l.map Cod.F)=zs (l.map Cod.F):=n9 Cod.frzF l
theorem tB(l:List Cod):frzL (l.map Cod.O)=zs (l.map Cod.F):=n9 Cod.frzO l
theorem frzL_bools(l:List Bool):frzL (l.map AV.bool)=zs (l.map AV.bool):=n9 (f:=AV.bool) (g:=AV.bool) (fun _=>rfl) l
theorem Endd.viewF{os:List PO}(x:Endd):viewA os x.F=zs x.F:=by simp_all [Endd.F, XP]
theorem Modl.viewF{os:List PO}(x:Modl):viewA os x.F=zs x.F:=by simp_all [Modl.F, XP, frzL_gloF, frzL_codF]
theorem chk_viewF{os:List PO}(m:Modl)(c:Cod):viewA os (chkF m c)=zs (chkF m c):=by simp_all [chkF, XP, frzL_gloF, frzL_codF, frzL_ints, frzL_blkF]
theorem chk_iff{m m':Modl}{c B:Cod}:chkF m c=chkF m' B↔m=m'/\c=B:=by
 constructor
 . intro h
   simp only[chkF,AV.agg.injEq,List.cons.injEq,AV.int.injEq,AV.str.injEq,and_true]at h;obtain⟨D,G,H,⟨_,I⟩,⟨_,J⟩,N,Q⟩:=h;exact⟨Modl.F_inj (by grind [Modl.F]),Cod.F_inj (by grind [Cod.F])⟩
 grind
theorem noFL_bools(l:List Bool):noFL (bools l)=zt:=by
 induction l with
 |nil=>rfl
 |cons x l B=>exact B
theorem Glo.noF(x:Glo):noF x.F=zt:=by simp_all [Glo.F, XP]
theorem noFL_gloO(l:List Glo):noFL (l.map Glo.F)=zt:=Fm Glo.noF l
theorem noFL_codO(l:List Cod):noFL (l.map Cod.O)=zt:=Fm Cod.noF l
theorem Cod.okO(c:Cod):(c.O.cells.all fun c=>(ownOf c).isSome||clo c)=zt:=rfl
theorem Modl.okO(m:Modl):(m.O.cells.all fun c=>(ownOf c).isSome||clo c)=zt:=rfl
theorem Modl.noF(m:Modl):noF m.O=zt:=by simp_all [Modl.O, XP, noFL_gloO, noFL_codO]
def E8(n:Int):Bool:=decide (n=1)||decide (n=2)
def thereD(a n:Int):Bool:=decide (0<=a)&&decide (a<n)
def In(t:Int):Int:=if t=2 then 2 else 1
def wrapD(t v:Int):Int:=if t=3 then IntKind.wrap .i64 (IntKind.wrap .i8 v)else if t=1 then IntKind.wrap .i64 (IntKind.wrap .i32 v)else if t=2 then v else 0
def F1:List UInt8:=[109,97,105,110]
def VJ:=z0z @Int.ofNat_inj<|z0z @List.cons.injEq.{0}<|z0z @AV.int.injEq<|z0z @AV.str.injEq<|z0z @AV.bool.injEq<|z0z @AV.agg.injEq<|z0z @true_and<|z0z @and_true<|z0z @fslN_iff<|z0z @chk_iff<|z0z @Ins.F_iff<|z0z @Cod.F_iff<|z0z @Modl.F_iff<|z0z @Endd.F_iff<|z0z @ints_iff<|z0z @codL_iff<|z0z @gloL_iff<|@bools_iff
def VV:=z0z @chk_viewF<|z0z @Ins.viewF<|z0z @Cod.viewF<|z0z @Modl.viewF<|z0z @Endd.viewF<|z0z @frzL_ints<|z0z @frzL_insF<|z0z @frzL_blkF<|z0z @frzL_codF<|z0z @frzL_gloF<|@frzL_bools
def VN:=z0z @Cod.okO<|z0z @Modl.okO<|z0z @Modl.noF<|z0z @noFL_ints<|z0z @noFL_insO<|z0z @noFL_blkO<|z0z @noFL_bools<|z0z @noFL_codO<|z0z @noFL_gloO<|z0z @Ins.noF<|z0z @Blk.noF<|@Cod.noF
theorem Qo  {n:Int}:AM.Comes ⟨A0,T,A2⟩ 27 [.int .i64 n] [.bool (E8 n)]:=by
 refine⟨[.bool (E8 n)],⟨[],0,[]⟩,?_,back_of rfl zqb rfl rfl rfl⟩;rw[A4 (c:=TL) (nt:=9) (rs:=[.tmp 2]) rfl (by simp)];unfold TL;unfold K0;unfold E8;by_cases D:n=1
 . simp_all [XP]
 simp_all [XP]
def O9:=r9 (fun p:(Int)=>[.int .i64 p]) (fun p=>[.bool (E8 p)]) (fun p=>True)
theorem Jp(B:T 27=zs O9){n:Int}{K:PK}:evP ⟨A0,T,A2⟩ (.call 27 [.int .i64 n] K)=zs (.val (openTs K.os.length [.bool (E8 n)]).1 ⟨K.os++(openTs K.os.length [.bool (E8 n)]).2,K.ext,K.tch⟩):=B8 B (by simp_all [XP]) (C1 (a:=fun p:(Int)=>[.int .i64 p]) (r:=fun p=>[.bool (E8 p)]) (by grind) (n) trivial) (by simp_all [XP])
theorem cU  (B:PEok ⟨A0,T,A2⟩):TC A0 27 O9:=C7 B fun p h=>Qo
theorem Ul  {a:Int} {n:Int}:AM.Comes ⟨A0,T,A2⟩ 60 [.int .i64 a,.int .i64 n] [.bool (thereD a n)]:=by
 refine⟨[.bool (thereD a n)],⟨[],0,[]⟩,?_,back_of rfl zqb rfl rfl rfl⟩;rw[A4 (c:=UD) (nt:=12) (rs:=[.tmp 4]) rfl (by simp)];unfold UD;unfold K0;unfold thereD;by_cases D:0<=a
 . simp_all [XP]
 . by_cases B:a<n
   . simp only[D,eq_true B,XP,seval]
   . simp only[D,B,XP,seval]
def D6:=r9 (fun p:(Int)×(Int)=>[.int .i64 p.1,.int .i64 p.2]) (fun p=>[.bool (thereD p.1 p.2)]) (fun p=>True)
theorem Q9(B:T 60=zs D6){a:Int}{n:Int}{K:PK}:evP ⟨A0,T,A2⟩ (.call 60 [.int .i64 a,.int .i64 n] K)=zs (.val (openTs K.os.length [.bool (thereD a n)]).1 ⟨K.os++(openTs K.os.length [.bool (thereD a n)]).2,K.ext,K.tch⟩):=B8 B (by simp_all [XP]) (C1 (a:=fun p:(Int)×(Int)=>[.int .i64 p.1,.int .i64 p.2]) (r:=fun p=>[.bool (thereD p.1 p.2)]) (by grind) (a,n) trivial) (by simp_all [XP])
theorem gW  (B:PEok ⟨A0,T,A2⟩):TC A0 60 D6:=C7 B fun p h=>Ul
theorem Xu  {t:Int}:AM.Comes ⟨A0,T,A2⟩ 68 [.int .i64 t] [.int .i64 (In t)]:=by
 refine⟨[.int .i64 (In t)],⟨[],0,[]⟩,?_,back_of rfl zqb rfl rfl rfl⟩;rw[A4 (c:=UK) (nt:=5) (rs:=[.tmp 2]) rfl (by simp)];unfold UK;unfold K0;unfold In;by_cases B:t=2
 . simp_all [XP]
 simp_all [XP]
def Fo:=r9 (fun p:(Int)=>[.int .i64 p]) (fun p=>[.int .i64 (In p)]) (fun p=>True)
theorem xH(B:T 68=zs Fo){t:Int}{K:PK}:evP ⟨A0,T,A2⟩ (.call 68 [.int .i64 t] K)=zs (.val (openTs K.os.length [.int .i64 (In t)]).1 ⟨K.os++(openTs K.os.length [.int .i64 (In t)]).2,K.ext,K.tch⟩):=B8 B (by simp_all [XP]) (C1 (a:=fun p:(Int)=>[.int .i64 p]) (r:=fun p=>[.int .i64 (In p)]) (by grind) (t) trivial) (by simp_all [XP])
theorem mG  (B:PEok ⟨A0,T,A2⟩):TC A0 68 Fo:=C7 B fun p h=>Xu
theorem B4(k j:IntKind)(n:Int):R8 (.int k) (.int j n)=zs (.int k (k.wrap n)):=Z7 k n
theorem Qp  {t:Int} {v:Int}:AM.Comes ⟨A0,T,A2⟩ 53 [.int .i64 t,.int .i64 v] [.int .i64 (wrapD t v)]:=by
 refine⟨[.int .i64 (wrapD t v)],⟨[],0,[]⟩,?_,back_of rfl zqb rfl rfl rfl⟩;rw[A4 (c:=TY) (nt:=19) (rs:=[.tmp 4]) rfl (by simp)];unfold TY;unfold K0;unfold wrapD;by_cases B:t=3
 . simp_all [XP, B4]
 by_cases D:t=1
 . simp_all [XP, B4]
 by_cases G:t=2
 . simp_all [XP]
 simp_all [XP]
def G1:=r9 (fun p:(Int)×(Int)=>[.int .i64 p.1,.int .i64 p.2]) (fun p=>[.int .i64 (wrapD p.1 p.2)]) (fun p=>True)
theorem Di(B:T 53=zs G1){t:Int}{v:Int}{K:PK}:evP ⟨A0,T,A2⟩ (.call 53 [.int .i64 t,.int .i64 v] K)=zs (.val (openTs K.os.length [.int .i64 (wrapD t v)]).1 ⟨K.os++(openTs K.os.length [.int .i64 (wrapD t v)]).2,K.ext,K.tch⟩):=B8 B (by simp_all [XP]) (C1 (a:=fun p:(Int)×(Int)=>[.int .i64 p.1,.int .i64 p.2]) (r:=fun p=>[.int .i64 (wrapD p.1 p.2)]) (by grind) (t,v) trivial) (by simp_all [XP])
theorem cV  (B:PEok ⟨A0,T,A2⟩):TC A0 53 G1:=C7 B fun p h=>Qp
theorem Bw(B:T 27=zs O9){n:Int}:AM.Comes ⟨A0,T,A2⟩ 45 [.int .i64 n] [.bool (!E8 n)]:=by
 refine⟨[.bool (!E8 n)],⟨[],0,[]⟩,?_,back_of rfl zqb rfl rfl rfl⟩;rw[A4 (c:=TT) (nt:=6) (rs:=[.tmp 2]) rfl (by simp)];simp_all [TT, K0, XP, Jp]
def D2:=r9 (fun p:(Int)=>[.int .i64 p]) (fun p=>[.bool (!E8 p)]) (fun p=>True)
theorem y9(B:T 45=zs D2){n:Int}{K:PK}:evP ⟨A0,T,A2⟩ (.call 45 [.int .i64 n] K)=zs (.val (openTs K.os.length [.bool (!E8 n)]).1 ⟨K.os++(openTs K.os.length [.bool (!E8 n)]).2,K.ext,K.tch⟩):=B8 B (by simp_all [XP]) (C1 (a:=fun p:(Int)=>[.int .i64 p]) (r:=fun p=>[.bool (!E8 p)]) (by grind) (n) trivial) (by simp_all [XP])
theorem Fp(B:T 27=zs O9)(D:PEok ⟨A0,T,A2⟩):TC A0 45 D2:=C7 D fun p h=>Bw B
theorem Ly  {c:Cod}:AM.Comes ⟨A0,T,A2⟩ 43 [c.F] [.bool (decide (c.name=F1))]:=by
 refine⟨[.bool (decide (c.name=F1))],⟨[],0,[]⟩,?_,back_of rfl zqb rfl rfl rfl⟩;rw[A4 (c:=TR) (nt:=6) (rs:=[.tmp 2]) rfl (by simp)];unfold TR;unfold K0;unfold Cod.F F1;simp only[XP,seval]
def L9:=r9 (fun p:(Cod)=>[p.F]) (fun p=>[.bool (decide (p.name=F1))]) (fun p=>True)
theorem Lz(B:T 43=zs L9){c:Cod}{K:PK}:evP ⟨A0,T,A2⟩ (.call 43 [c.F] K)=zs (.val (openTs K.os.length [.bool (decide (c.name=F1))]).1 ⟨K.os++(openTs K.os.length [.bool (decide (c.name=F1))]).2,K.ext,K.tch⟩):=B8 B (by simp only[VV,XP,seval]) (C1 (a:=fun p:(Cod)=>[p.F]) (r:=fun p=>[.bool (decide (p.name=F1))]) (fun x y e=>by simp_all [VJ]) (c) trivial) (by simp_all [XP])
theorem Um  (B:PEok ⟨A0,T,A2⟩):TC A0 43 L9:=C7 B fun p h=>Ly
def writesD(x:Ins):Int:=if x.op=1 then x.dst else if x.op=2 then x.dst else if x.op=3 then x.dst else if x.op=4 then x.dst else if x.op=5 then x.dst else if x.op=7 then x.dst else if x.op=10 then x.dst else if x.op=9 then(if -1<=x.dst then x.dst else -1)else -1
def readsD(x:Ins):List Int:=if x.op=2 then [x.a]else if x.op=4 then [x.a]else if x.op=5 then [x.a]else if x.op=8 then [x.a]else if x.op=11 then [x.a]else if x.op=3 then [x.a,x.b]else if x.op=6 then [x.a,x.b]else if x.op=9 then x.args else []
theorem w4(a b:Int)(K:PK):Mo (E0 A0 .max [3,3] [.int .i64 a,.int .i64 b] K)=.val (.int .i64 (if b<=a then a else b)) K:=by
 show Mo ((Ni [.int .i64 b] (.int .i64 a)).map (·,K))=_
 show Mo ((zs (AV.int .i64 (bif intLe b a then a else b))).map (·,K))=_
 rw[Q2];by_cases hb:b<=a
 . rw[if_pos hb,decide_eq_true hb];rfl
 . rw[if_neg hb,decide_eq_false hb];rfl
theorem Qq  {x:Ins}:AM.Comes ⟨A0,T,A2⟩ 32 [x.F] [.int .i64 (writesD x)]:=by
 refine⟨[.int .i64 (writesD x)],⟨[],0,[]⟩,?_,back_of rfl zqb rfl rfl rfl⟩;rw[A4 (c:=TN) (nt:=20) (rs:=[.tmp 2]) rfl (by simp)];unfold TN;unfold K0;unfold Ins.F writesD;by_cases e1:x.op=1
 . simp_all [XP]
 by_cases e2:x.op=2
 . simp_all [XP]
 by_cases B:x.op=3
 . simp_all [XP]
 by_cases G:x.op=4
 . simp_all [XP]
 by_cases H:x.op=5
 . simp_all [XP]
 by_cases I:x.op=7
 . simp_all [XP]
 by_cases D:x.op=10
 . simp_all [XP]
 by_cases J:x.op=9
 . simp_all [XP, w4]
 simp_all [XP]
def F4:=r9 (fun p:(Ins)=>[p.F]) (fun p=>[.int .i64 (writesD p)]) (fun p=>True)
theorem Un(B:T 32=zs F4){x:Ins}{K:PK}:evP ⟨A0,T,A2⟩ (.call 32 [x.F] K)=zs (.val (openTs K.os.length [.int .i64 (writesD x)]).1 ⟨K.os++(openTs K.os.length [.int .i64 (writesD x)]).2,K.ext,K.tch⟩):=B8 B (by simp only[VV,XP,seval]) (C1 (a:=fun p:(Ins)=>[p.F]) (r:=fun p=>[.int .i64 (writesD p)]) (fun x y e=>by simp_all [VJ]) (x) trivial) (by simp_all [XP])
theorem cW  (B:PEok ⟨A0,T,A2⟩):TC A0 32 F4:=C7 B fun p h=>Qq
theorem Uo(B:T 49=zs Q8){x:Ins}(U:x.ok):AM.Comes ⟨A0,T,A2⟩ 36 [x.F] [ownd 0 1 (ints (readsD x))]:=by
 have one:∀(a:Int)(L:List Int),L=[a]->evP ⟨A0,T,A2⟩ (.body 36 [x.F] K0)=zs (.val [.msl 0 0 1 1] ⟨[.row 0 [.int .i64 a] 1],0,[]⟩)->AM.Comes ⟨A0,T,A2⟩ 36 [x.F] [ownd 0 1 (ints L)]:=fun a L e h=>by
  subst e;exact⟨_,_,h,D9 (.inr ⟨rfl,rfl⟩)⟩
 have two:∀(a b:Int)(L:List Int),L=[a,b]->evP ⟨A0,T,A2⟩ (.body 36 [x.F] K0)=zs (.val [.msl 0 0 2 1] ⟨[.row 0 [.int .i64 a,.int .i64 b] 1],0,[]⟩)->AM.Comes ⟨A0,T,A2⟩ 36 [x.F] [ownd 0 1 (ints L)]:=fun a b L e h=>by
  subst e;exact⟨_,_,h,D9 (.inr ⟨rfl,rfl⟩)⟩
 by_cases e2:x.op=2
 . refine one x.a _ (by simp[readsD,e2]) ?_
   rw[A4 (c:=Zn) (nt:=27) (rs:=[.tmp 2]) rfl (by simp)];unfold Zn;unfold K0 Ins.F;simp only[eq_true e2,XP,seval]
 by_cases G:x.op=4
 . refine one x.a _ (by simp[readsD,G]) ?_
   rw[A4 (c:=Zn) (nt:=27) (rs:=[.tmp 2]) rfl (by simp)];unfold Zn;unfold K0 Ins.F;simp only[e2,eq_true G,XP,seval]
 by_cases H:x.op=5
 . refine one x.a _ (by simp[readsD,H]) ?_
   rw[A4 (c:=Zn) (nt:=27) (rs:=[.tmp 2]) rfl (by simp)];unfold Zn;unfold K0 Ins.F;simp only[e2,G,eq_true H,XP,seval]
 by_cases I:x.op=8
 . refine one x.a _ (by simp[readsD,I]) ?_
   rw[A4 (c:=Zn) (nt:=27) (rs:=[.tmp 2]) rfl (by simp)];unfold Zn;unfold K0 Ins.F;simp only[e2,G,H,eq_true I,XP,seval]
 by_cases D:x.op=11
 . refine one x.a _ (by simp[readsD,D]) ?_
   rw[A4 (c:=Zn) (nt:=27) (rs:=[.tmp 2]) rfl (by simp)];unfold Zn;unfold K0 Ins.F;simp only[e2,G,H,I,eq_true D,XP,seval]
 by_cases J:x.op=3
 . refine two x.a x.b _ (by simp[readsD,J]) ?_
   rw[A4 (c:=Zn) (nt:=27) (rs:=[.tmp 2]) rfl (by simp)];unfold Zn;unfold K0 Ins.F;simp only[e2,G,H,I,D,eq_true J,XP,seval]
 by_cases N:x.op=6
 . refine two x.a x.b _ (by simp[readsD,N]) ?_
   rw[A4 (c:=Zn) (nt:=27) (rs:=[.tmp 2]) rfl (by simp)];unfold Zn;unfold K0 Ins.F;simp only[e2,G,H,I,D,J,eq_true N,XP,seval]
 by_cases Q:x.op=9
 . rw[show readsD x=x.args by simp[readsD,Q]]
   refine⟨[.msl 0 0 x.args.length 1],⟨[.row 0 (ints x.args) 1],0,[]⟩,?_,D9 (.inr ⟨by rw[zqa],rfl⟩)⟩;rw[A4 (c:=Zn) (nt:=27) (rs:=[.tmp 2]) rfl (by simp)];unfold Zn;unfold K0 Ins.F;have t:∀{K:PK},evP ⟨A0,T,A2⟩ (.call 49 [fslN (ints x.args)] K)=zs (.val (openTs K.os.length [ownd 0 1 (ints x.args)]).1 ⟨K.os++(openTs K.os.length [ownd 0 1 (ints x.args)]).2,K.ext,K.tch⟩):=B8 B (by simp only[frzL_ints,XP,seval]) (Dh U) rfl;simp only[e2,G,H,I,D,J,N,eq_true Q,t,zqa,XP,seval]
 . rw[show readsD x=[] by simp[readsD,e2,G,H,I,D,J,N,Q]]
   refine⟨[.nilsl],⟨[],0,[]⟩,?_,D9 (.inl ⟨rfl,rfl,rfl⟩)⟩;rw[A4 (c:=Zn) (nt:=27) (rs:=[.tmp 2]) rfl (by simp)];unfold Zn;unfold K0 Ins.F;simp only[e2,G,H,I,D,J,N,Q,XP,seval]
def I1:=r9 (fun p:(Ins)=>[p.F]) (fun p=>[ownd 0 1 (ints (readsD p))]) (fun p=>p.ok)
theorem Zr(B:T 36=zs I1){x:Ins}{K:PK}(D:x.ok):evP ⟨A0,T,A2⟩ (.call 36 [x.F] K)=zs (.val (openTs K.os.length [ownd 0 1 (ints (readsD x))]).1 ⟨K.os++(openTs K.os.length [ownd 0 1 (ints (readsD x))]).2,K.ext,K.tch⟩):=B8 B (by simp only[VV,XP,seval]) (C1 (a:=fun p:(Ins)=>[p.F]) (r:=fun p=>[ownd 0 1 (ints (readsD p))]) (fun x y e=>by simp_all [VJ]) (x) D) (by simp only[VN,XP,seval])
theorem gX(B:T 49=zs Q8)(D:PEok ⟨A0,T,A2⟩):TC A0 36 I1:=C7 D fun p h=>Uo B h
def idxOf{X:Type}(p:X->Bool)(l:List X):Int:=match l.findIdx? p with|some i=>(i:Int)|none=>-1
theorem idx_loop{P:PE}{c:PC}{X:Type}{p:X->Bool}{l:List X}{S:Nat->PF}{K:PK}
 (h1:∀i (h:i<l.length),p l[i]=zf->evP P (.code c (S i) K)=zs (.ok .normal (S (i+1)) K))
 (h2:∀i (h:i<l.length),p l[i]=zt->∃fr',evP P (.code c (S i) K)=zs (.ok .ret fr' K)/\lookP fr' 4=.int .i64 (i:Int))
 (hx:∃fr',evP P (.code c (S l.length) K)=zs (.ok (.exit 0) fr' K)):
 (∃i:Nat,idxOf p l=i/\∃fr',evP P (.code (.loop c) (S 0) K)=zs (.ok .ret fr' K)/\lookP fr' 4=.int .i64 (i:Int))\/(idxOf p l=-1/\∃fr',evP P (.code (.loop c) (S 0) K)=zs (.ok (.exit 0) fr' K)):=by
 have H:∀(n i:Nat),l.length=i+n->(∀j (B:j<l.length),j<i->p l[j]=zf)->(∃k:Nat,idxOf p l=k/\∃fr',evP P (.code (.loop c) (S i) K)=zs (.ok .ret fr' K)/\lookP fr' 4=.int .i64 (k:Int))\/(idxOf p l=-1/\∃fr',evP P (.code (.loop c) (S i) K)=zs (.ok (.exit 0) fr' K)):=fun n=>by
  induction n with
  |zero=>
   intro i e D;obtain rfl:i=l.length:=by omega
   obtain⟨fr',h⟩:=hx;refine .inr ⟨?_,fr',E3 h⟩;unfold idxOf
   have:l.findIdx? p=zn:=by
    rw[zqr];intro x I;obtain⟨j,B,rfl⟩:=List.getElem_of_mem I;grind
   rw[this]
  |succ n Q=>
   intro i e D;have hl:i<l.length:=by omega
   cases G:p l[i]with
   |false=>
    rw[loop_more (h1 i hl G)];refine Q (i+1) (by omega) fun j B hji=>?_
    grind
   |true=>
    obtain⟨fr',J,N⟩:=h2 i hl G;refine .inl ⟨i,?_,fr',Cp J,N⟩;grind [idxOf, zql]
 simp_all
theorem pN{X:Type}{p:X->Bool}{l:List X}:decide (0<=idxOf p l)=l.any p:=by
 grind [idxOf]
section
variable {l:List Int}{i:Nat}{v:Int}
theorem ND(h:i<l.length)(D:l.length<=bigN)(G:decide (v=l[i])=zf):evP ⟨A0,T,A2⟩ (.code Im [(0,fslN (ints l)),(1,.int .i64 v),(7,.int .i64 (l.length:Int)),(8,.int .i64 (i:Int))] ⟨[],0,[]⟩)=zs (.ok .normal [(0,fslN (ints l)),(1,.int .i64 v),(7,.int .i64 (l.length:Int)),(8,.int .i64 ((i+1:Nat):Int))] ⟨[],0,[]⟩):=by
 unfold Im;have B:decide ((i:Int)<(l.length:Int))=zt:=by simp[h]
 have H:=B7 (i:=i) (by grind);simp_all [XP]
theorem NE(h:i<l.length)(D:decide (v=l[i])=zt):∃fr',evP ⟨A0,T,A2⟩ (.code Im [(0,fslN (ints l)),(1,.int .i64 v),(7,.int .i64 (l.length:Int)),(8,.int .i64 (i:Int))] ⟨[],0,[]⟩)=zs (.ok .ret fr' ⟨[],0,[]⟩)/\lookP fr' 4=.int .i64 (i:Int):=by
 unfold Im;have B:decide ((i:Int)<(l.length:Int))=zt:=by simp[h]
 simp only[B,A8 h,D,XP,seval];exact⟨_,rfl,rfl⟩
theorem NF:∃fr',evP ⟨A0,T,A2⟩ (.code Im [(0,fslN (ints l)),(1,.int .i64 v),(7,.int .i64 (l.length:Int)),(8,.int .i64 (l.length:Int))] ⟨[],0,[]⟩)=zs (.ok (.exit 0) fr' ⟨[],0,[]⟩):=by
 unfold Im;have B:decide ((l.length:Int)<(l.length:Int))=zf:=by simp
 simp only[B,XP,seval];grind
theorem Xv  {l:List Int} {v:Int} (G:l.length<=bigN):AM.Comes ⟨A0,T,A2⟩ 76 [fslN (ints l),.int .i64 v] [.int .i64 (idxOf (fun n=>decide (v=n)) l)]:=by
 refine⟨[.int .i64 (idxOf (fun n=>decide (v=n)) l)],⟨[],0,[]⟩,?_,back_of rfl zqb rfl rfl rfl⟩;rw[A4 (c:=UR) (nt:=19) (rs:=[.tmp 4]) rfl (by simp)];unfold UR;unfold K0;rcases idx_loop (P:=⟨A0,T,A2⟩) (c:=Im) (p:=fun n=>decide (v=n)) (l:=l) (S:=fun i=>[(0,fslN (ints l)),(1,.int .i64 v),(7,.int .i64 (l.length:Int)),(8,.int .i64 (i:Int))]) (K:=⟨[],0,[]⟩) (fun i h D=>ND h G D) (fun i h D=>NE h D) NF with⟨i,e,fr',B,H⟩|⟨e,fr',B⟩
 . have B:evP ⟨A0,T,A2⟩ (.code (.loop Im) [(0,fslN (ints l)),(1,.int .i64 v),(7,.int .i64 (l.length:Int)),(8,.int .i64 0)] ⟨[],0,[]⟩)=_:=B
   simp_all [XP]
 . have B:evP ⟨A0,T,A2⟩ (.code (.loop Im) [(0,fslN (ints l)),(1,.int .i64 v),(7,.int .i64 (l.length:Int)),(8,.int .i64 0)] ⟨[],0,[]⟩)=_:=B
   simp_all [XP]
def Fq:=r9 (fun p:(List Int)×(Int)=>[fslN (ints p.1),.int .i64 p.2]) (fun p=>[.int .i64 (idxOf (fun n=>decide (p.2=n)) p.1)]) (fun p=>p.1.length<=bigN)
theorem xI(B:T 76=zs Fq){l:List Int}{v:Int}{K:PK}(D:l.length<=bigN):evP ⟨A0,T,A2⟩ (.call 76 [fslN (ints l),.int .i64 v] K)=zs (.val (openTs K.os.length [.int .i64 (idxOf (fun n=>decide (v=n)) l)]).1 ⟨K.os++(openTs K.os.length [.int .i64 (idxOf (fun n=>decide (v=n)) l)]).2,K.ext,K.tch⟩):=B8 B (by simp only[VV,XP,seval]) (C1 (a:=fun p:(List Int)×(Int)=>[fslN (ints p.1),.int .i64 p.2]) (r:=fun p=>[.int .i64 (idxOf (fun n=>decide (p.2=n)) p.1)]) (fun x y e=>by simp_all [VJ]) (l,v) D) (by simp_all [XP])
theorem mH  (B:PEok ⟨A0,T,A2⟩):TC A0 76 Fq:=C7 B fun p h=>Xv  h
theorem Up(B:T 76=zs Fq){l:List Int}{v:Int}(D:l.length<=bigN):AM.Comes ⟨A0,T,A2⟩ 65 [fslN (ints l),.int .i64 v] [.bool (l.any fun n=>decide (v=n))]:=by
 refine⟨[.bool (l.any fun n=>decide (v=n))],⟨[],0,[]⟩,?_,back_of rfl zqb rfl rfl rfl⟩;rw[A4 (c:=UH) (nt:=9) (rs:=[.tmp 4]) rfl (by simp)];simp_all [UH, K0, XP, pN, xI]
def w8:=r9 (fun p:(List Int)×(Int)=>[fslN (ints p.1),.int .i64 p.2]) (fun p=>[.bool (p.1.any fun n=>decide (p.2=n))]) (fun p=>p.1.length<=bigN)
theorem gY(B:T 76=zs Fq)(D:PEok ⟨A0,T,A2⟩):TC A0 65 w8:=C7 D fun p h=>Up B h
end
section
variable {l:List Int}{i:Nat}
theorem NG(hN:T 45=zs D2)(h:i<l.length)(D:l.length<=bigN)(G:(!E8 l[i])=zf):evP ⟨A0,T,A2⟩ (.code Ij [(0,fslN (ints l)),(1,.fn (.func 45) [] []),(7,.int .i64 (l.length:Int)),(8,.int .i64 (i:Int))] ⟨[],0,[]⟩)=zs (.ok .normal [(0,fslN (ints l)),(1,.fn (.func 45) [] []),(7,.int .i64 (l.length:Int)),(8,.int .i64 ((i+1:Nat):Int))] ⟨[],0,[]⟩):=by
 unfold Ij;have B:decide ((i:Int)<(l.length:Int))=zt:=by simp[h]
 have H:=B7 (i:=i) (by grind);simp_all [XP, y9]
theorem NH(hN:T 45=zs D2)(h:i<l.length)(D:(!E8 l[i])=zt):∃fr',evP ⟨A0,T,A2⟩ (.code Ij [(0,fslN (ints l)),(1,.fn (.func 45) [] []),(7,.int .i64 (l.length:Int)),(8,.int .i64 (i:Int))] ⟨[],0,[]⟩)=zs (.ok .ret fr' ⟨[],0,[]⟩)/\lookP fr' 4=.int .i64 (i:Int):=by
 unfold Ij;have B:decide ((i:Int)<(l.length:Int))=zt:=by simp[h]
 simp only[B,A8 h,y9 hN,D,XP,seval];exact⟨_,rfl,rfl⟩
theorem NI:∃fr',evP ⟨A0,T,A2⟩ (.code Ij [(0,fslN (ints l)),(1,.fn (.func 45) [] []),(7,.int .i64 (l.length:Int)),(8,.int .i64 (l.length:Int))] ⟨[],0,[]⟩)=zs (.ok (.exit 0) fr' ⟨[],0,[]⟩):=by
 unfold Ij;have B:decide ((l.length:Int)<(l.length:Int))=zf:=by simp
 simp only[B,XP,seval];grind
theorem Xw(hN:T 45=zs D2)(G:T 56=zn)(H:l.length<=bigN)(K:PK):evP ⟨A0,T,A2⟩ (.call 56 [fslN (ints l),.fn (.func 45) [] []] K)=zs (.val [.int .i64 (idxOf (fun n=>!E8 n) l)] K):=by
 refine nY (tch:=[]) G rfl rfl rfl ?_ rfl;rw[A4 (c:=TZ) (nt:=19) (rs:=[.tmp 4]) rfl (by simp)];unfold TZ;rcases idx_loop (P:=⟨A0,T,A2⟩) (c:=Ij) (p:=fun n=>!E8 n) (l:=l) (S:=fun i=>[(0,fslN (ints l)),(1,.fn (.func 45) [] []),(7,.int .i64 (l.length:Int)),(8,.int .i64 (i:Int))]) (K:=⟨[],0,[]⟩) (fun i h D=>NG hN h H D) (fun i h D=>NH hN h D) NI with⟨i,e,fr',B,I⟩|⟨e,fr',B⟩
 . have B:evP ⟨A0,T,A2⟩ (.code (.loop Ij) [(0,fslN (ints l)),(1,.fn (.func 45) [] []),(7,.int .i64 (l.length:Int)),(8,.int .i64 0)] ⟨[],0,[]⟩)=_:=B
   simp_all [XP]
 . have B:evP ⟨A0,T,A2⟩ (.code (.loop Ij) [(0,fslN (ints l)),(1,.fn (.func 45) [] []),(7,.int .i64 (l.length:Int)),(8,.int .i64 0)] ⟨[],0,[]⟩)=_:=B
   simp_all [XP]
theorem Uq(hN:T 45=zs D2)(B:T 56=zn)(hC:T 44=zn)(D:l.length<=bigN)(K:PK):evP ⟨A0,T,A2⟩ (.call 44 [fslN (ints l),.fn (.func 45) [] []] K)=zs (.val [.bool (l.any fun n=>!E8 n)] K):=by
 refine nY (tch:=[]) hC rfl rfl rfl ?_ rfl;rw[<-pN];have t:=fun K=>Xw hN B D K
 rw[A4 (c:=TS) (nt:=9) (rs:=[.tmp 4]) rfl (by simp)];simp_all [TS, XP]
end
section
variable {l:List Cod}{i:Nat}
theorem NJ(hN:T 43=zs L9)(h:i<l.length)(D:l.length<=bigN)(G:decide (l[i].name=F1)=zf):evP ⟨A0,T,A2⟩ (.code Ii [(0,fslN (l.map Cod.F)),(1,.fn (.func 43) [] []),(7,.int .i64 (l.length:Int)),(8,.int .i64 (i:Int))] ⟨[],0,[]⟩)=zs (.ok .normal [(0,fslN (l.map Cod.F)),(1,.fn (.func 43) [] []),(7,.int .i64 (l.length:Int)),(8,.int .i64 ((i+1:Nat):Int))] ⟨[],0,[]⟩):=by
 unfold Ii;have B:decide ((i:Int)<(l.length:Int))=zt:=by simp[h]
 have H:=B7 (i:=i) (by grind);have hi:=A9 (F:=Cod.F) h;have t:=fun K=>Lz (K:=K) (c:=l[i]) hN
 simp_all [Cod.F, XP]
theorem NK(hN:T 43=zs L9)(h:i<l.length)(D:decide (l[i].name=F1)=zt):∃fr',evP ⟨A0,T,A2⟩ (.code Ii [(0,fslN (l.map Cod.F)),(1,.fn (.func 43) [] []),(7,.int .i64 (l.length:Int)),(8,.int .i64 (i:Int))] ⟨[],0,[]⟩)=zs (.ok .ret fr' ⟨[],0,[]⟩)/\lookP fr' 4=.int .i64 (i:Int):=by
 unfold Ii;have B:decide ((i:Int)<(l.length:Int))=zt:=by simp[h]
 have hi:=A9 (F:=Cod.F) h;have t:=fun K=>Lz (K:=K) (c:=l[i]) hN
 simp only[Cod.F]at hi t;simp only[B,hi,t,D,XP,seval];exact⟨_,rfl,rfl⟩
theorem NL:∃fr',evP ⟨A0,T,A2⟩ (.code Ii [(0,fslN (l.map Cod.F)),(1,.fn (.func 43) [] []),(7,.int .i64 (l.length:Int)),(8,.int .i64 (l.length:Int))] ⟨[],0,[]⟩)=zs (.ok (.exit 0) fr' ⟨[],0,[]⟩):=by
 unfold Ii;have B:decide ((l.length:Int)<(l.length:Int))=zf:=by simp
 simp only[B,XP,seval];grind
theorem Xx(hN:T 43=zs L9)(G:T 42=zn)(H:l.length<=bigN)(K:PK):evP ⟨A0,T,A2⟩ (.call 42 [fslN (l.map Cod.F),.fn (.func 43) [] []] K)=zs (.val [.int .i64 (idxOf (fun c:Cod=>decide (c.name=F1)) l)] K):=by
 refine nY (tch:=[]) G rfl rfl rfl ?_ rfl;rw[A4 (c:=TQ) (nt:=19) (rs:=[.tmp 4]) rfl (by simp)];unfold TQ;rcases idx_loop (P:=⟨A0,T,A2⟩) (c:=Ii) (p:=fun c:Cod=>decide (c.name=F1)) (l:=l) (S:=fun i=>[(0,fslN (l.map Cod.F)),(1,.fn (.func 43) [] []),(7,.int .i64 (l.length:Int)),(8,.int .i64 (i:Int))]) (K:=⟨[],0,[]⟩) (fun i h D=>NJ hN h H D) (fun i h D=>NK hN h D) NL with⟨i,e,fr',B,I⟩|⟨e,fr',B⟩
 . have B:evP ⟨A0,T,A2⟩ (.code (.loop Ii) [(0,fslN (l.map Cod.F)),(1,.fn (.func 43) [] []),(7,.int .i64 (l.length:Int)),(8,.int .i64 0)] ⟨[],0,[]⟩)=_:=B
   simp_all [XP]
 . have B:evP ⟨A0,T,A2⟩ (.code (.loop Ii) [(0,fslN (l.map Cod.F)),(1,.fn (.func 43) [] []),(7,.int .i64 (l.length:Int)),(8,.int .i64 0)] ⟨[],0,[]⟩)=_:=B
   simp_all [XP]
theorem Qr(B:T 43=zs L9)(D:T 42=zn){m:Modl}(G:m.fs.length<=bigN):AM.Comes ⟨A0,T,A2⟩ 26 [m.F] [.int .i64 (idxOf (fun c:Cod=>decide (c.name=F1)) m.fs)]:=by
 refine⟨[.int .i64 (idxOf (fun c:Cod=>decide (c.name=F1)) m.fs)],⟨[],0,[]⟩,?_,back_of rfl zqb rfl rfl rfl⟩;rw[A4 (c:=TK) (nt:=6) (rs:=[.tmp 2]) rfl (by simp)];simp_all [TK, K0, Modl.F, XP, Xx]
def M7:=r9 (fun p:(Modl)=>[p.F]) (fun p=>[.int .i64 (idxOf (fun c:Cod=>decide (c.name=F1)) p.fs)]) (fun p=>p.fs.length<=bigN)
theorem Jq(B:T 26=zs M7){m:Modl}{K:PK}(D:m.fs.length<=bigN):evP ⟨A0,T,A2⟩ (.call 26 [m.F] K)=zs (.val (openTs K.os.length [.int .i64 (idxOf (fun c:Cod=>decide (c.name=F1)) m.fs)]).1 ⟨K.os++(openTs K.os.length [.int .i64 (idxOf (fun c:Cod=>decide (c.name=F1)) m.fs)]).2,K.ext,K.tch⟩):=B8 B (by simp only[VV,XP,seval]) (C1 (a:=fun p:(Modl)=>[p.F]) (r:=fun p=>[.int .i64 (idxOf (fun c:Cod=>decide (c.name=F1)) p.fs)]) (fun x y e=>by simp_all [VJ]) (m) D) (by simp_all [XP])
theorem cX(B:T 43=zs L9)(D:T 42=zn)(G:PEok ⟨A0,T,A2⟩):TC A0 26 M7:=C7 G fun p h=>Qr B D h
end
def Nv(p s:List UInt8):Bool:=Nat.ble (s5 s) 4000000000||oneB p
def U2(args:List AV):Option (List AV):=match args with|[.str s,.str p]=>if Nv p s=zt then zs [.bool (contS p s)]else zn|_=>zn
theorem cY{s p:List UInt8}(h:Nv p s=zt):U2 [.str s,.str p]=zs [.bool (contS p s)]:=if_pos h
theorem Nw(hT:T 64=zs U2){s p:List UInt8}{K:PK}(h:Nv p s=zt):evP ⟨A0,T,A2⟩ (.call 64 [.str s,.str p] K)=zs (.val [.bool (contS p s)] ⟨K.os++[],K.ext,K.tch⟩):=B8 hT rfl (cY h) rfl
theorem Rl{t:Nat}{a b:List UInt8}{K:PK}(h:a.length+b.length<=4611686018427387904):Q6 A0 .add t (.str a) (.str b) K=.val (.str (a++b)) K:=by
 rw[bp _ _ rfl rfl];show Bp (bif Nat.ble (Nat.add (s5 a) (s5 b)) 4611686018427387904 then zs (AV.str (a++b))else zn) K=_
 rw[v7,v7,show Nat.ble (Nat.add a.length b.length) 4611686018427387904=zt from zki h];rfl
def Ur:List UInt8:=[32,43,32,45,32,42,32,47,32,37,32,38,32,124,32,94,32,60,60,32,62,62,32,61,61,32,33,61,32,60,32,60,61,32,62,32,62,61,32]
def Us:List UInt8:=[32,61,61,32,33,61,32,60,32,60,61,32,62,32,62,61,32]
def Bx(x:Ins):Bool:=if x.op=3 then !decide (x.s=[])&&(!contS [32] x.s&&contS (32::(x.s++[32])) Ur)else if x.op=4 then decide (1<=x.ty)&&decide (x.ty<=3)else decide (1<=x.op)&&decide (x.op<=11)
theorem Xy(B:T 64=zs U2){x:Ins}(I:x.s.length<=bigN):AM.Comes ⟨A0,T,A2⟩ 57 [x.F] [.bool (Bx x)]:=by
 refine⟨[.bool (Bx x)],⟨[],0,[]⟩,?_,back_of rfl zqb rfl rfl rfl⟩;rw[A4 (c:=UA) (nt:=41) (rs:=[.tmp 2]) rfl (by simp)];unfold UA;unfold K0;have d1:∀K:PK,Q6 A0 .add 9 (.str [32]) (.str x.s) K=.val (.str (32::x.s)) K:=fun K=>Rl (by grind)
 have d2:∀K:PK,Q6 A0 .add 9 (.str (32::x.s)) (.str [32]) K=.val (.str (32::(x.s++[32]))) K:=fun K=>Rl (by grind)
 have c1:=fun K=>Nw (K:=K) (s:=x.s) (p:=[32]) B (by unfold Nv;rw[show oneB [32]=zt from rfl,zkd])
 have c2:=fun K=>Nw (K:=K) (s:=Ur) (p:=32::(x.s++[32])) B (by unfold Nv;rfl)
 unfold Ins.F Bx;unfold Ur at c2|-;by_cases G:x.op=3
 . by_cases D:x.s=[]
   . simp_all [XP]
   cases J:contS [32] x.s with
   |true=>simp_all [XP]
   |false=>simp_all [XP]
 by_cases H:x.op=4
 . by_cases D:1<=x.ty
   . simp_all [XP]
   simp_all [XP, eq_false]
 . by_cases D:1<=x.op
   . simp_all [XP]
   simp_all [XP, eq_false]
def Fr:=r9 (fun p:(Ins)=>[p.F]) (fun p=>[.bool (Bx p)]) (fun p=>p.s.length<=bigN)
theorem xJ(B:T 57=zs Fr){x:Ins}{K:PK}(D:x.s.length<=bigN):evP ⟨A0,T,A2⟩ (.call 57 [x.F] K)=zs (.val (openTs K.os.length [.bool (Bx x)]).1 ⟨K.os++(openTs K.os.length [.bool (Bx x)]).2,K.ext,K.tch⟩):=B8 B (by simp only[VV,XP,seval]) (C1 (a:=fun p:(Ins)=>[p.F]) (r:=fun p=>[.bool (Bx p)]) (fun x y e=>by simp_all [VJ]) (x) D) (by simp_all [XP])
theorem mI(B:T 64=zs U2)(D:PEok ⟨A0,T,A2⟩):TC A0 57 Fr:=C7 D fun p h=>Xy B h
def P0(m:Modl)(at_:Int)(arr:Bool):Bool:=thereD at_ m.gs.length&&(match m.gs[at_.toNat]? with|some g=>decide (0<g.size)==arr|none=>zf)
theorem pO(t:Nat)(h:N2 A0 t=N2 A0 4)(a b:Bool)(K:PK):Q6 A0 .eql t (.bool a) (.bool b) K=.val (.bool (a==b)) K:=by
 rw[bp _ _ rfl rfl,h];cases a<;>cases b<;>rfl
theorem H2{a n:Int}(h:thereD a n=zt):∃k:Nat,a=k/\(k:Int)<n:=by
 unfold thereD at h;rw[zke]at h;have h0:=of_decide_eq_true h.1;have B:=of_decide_eq_true h.2;obtain⟨k,rfl⟩:=Int.eq_ofNat_of_zero_le h0;grind
theorem By(B:T 60=zs D6){m:Modl}{c:Cod}{a:Int}{arr:Bool}:AM.Comes ⟨A0,T,A2⟩ 66 [chkF m c,.int .i64 a,.bool arr] [.bool (P0 m a arr)]:=by
 refine⟨[.bool (P0 m a arr)],⟨[],0,[]⟩,?_,back_of rfl zqb rfl rfl rfl⟩;rw[A4 (c:=UI) (nt:=25) (rs:=[.tmp 6]) rfl (by simp)];unfold UI;unfold K0;have t:=fun K=>Q9 (K:=K) (a:=a) (n:=m.gs.length) B
 have H:=pO 4 rfl;unfold chkF P0;cases G:thereD a m.gs.length with
 |false=>rw[G]at t;simp only[t,zqa,zkb,XP,seval]
 |true=>
  obtain⟨k,rfl,D⟩:=H2 G;have D:k<m.gs.length:=by omega
  rw[G]at t;have hi:=A9 (F:=Glo.F) D;simp only[Glo.F]at hi;rw[show((k:Int)).toNat=k from rfl,zqd D];simp only[t,zqa,hi,H,XP,seval]
def E5:=r9 (fun p:(Modl)×(Cod)×(Int)×(Bool)=>[chkF p.1 p.2.1,.int .i64 p.2.2.1,.bool p.2.2.2]) (fun p=>[.bool (P0 p.1 p.2.2.1 p.2.2.2)]) (fun p=>True)
theorem Jr(B:T 66=zs E5){m:Modl}{c:Cod}{a:Int}{arr:Bool}{K:PK}:evP ⟨A0,T,A2⟩ (.call 66 [chkF m c,.int .i64 a,.bool arr] K)=zs (.val (openTs K.os.length [.bool (P0 m a arr)]).1 ⟨K.os++(openTs K.os.length [.bool (P0 m a arr)]).2,K.ext,K.tch⟩):=B8 B (by simp only[VV,XP,seval]) (C1 (a:=fun p:(Modl)×(Cod)×(Int)×(Bool)=>[chkF p.1 p.2.1,.int .i64 p.2.2.1,.bool p.2.2.2]) (r:=fun p=>[.bool (P0 p.1 p.2.2.1 p.2.2.2)]) (fun x y e=>by simp_all [VJ]) (m,c,a,arr) trivial) (by simp_all [XP])
theorem Fs(B:T 60=zs D6)(D:PEok ⟨A0,T,A2⟩):TC A0 66 E5:=C7 D fun p h=>By B
def d8(l:List Int)(r:Int):Int:=l.getD r.toNat 0
theorem Ma{l:List Int}{k:Nat}(h:k<l.length):(ints l)[k]?=zs (.int .i64 (d8 l k)):=by
 grind [d8]
theorem Rm{m:Modl}{c:Cod}{r t:Int}{id:Nat}{K:PK}(hN:T 67=zn)(D:thereD r c.regs.length=zt)(B:K.os[id]?=zs (.row 1 [chkF m c] 7)):
 evP ⟨A0,T,A2⟩ (.call 67 [.int .i64 r,.int .i64 t,.ptr id 0 0] K)=zs (.val [.bool (decide (d8 c.regs r=t))] K):=by
 obtain⟨k,rfl,hk⟩:=H2 D;have hi:=Ma (show k<c.regs.length by omega);rw[Bh hN rfl];rw[A4 (c:=UJ) (nt:=14) (rs:=[.tmp 5]) rfl (by simp)];simp_all [UJ, chkF, XP]
theorem Ut{P:PE}{c:PC}{X:Type}{p:X->Bool}{l:List X}{S:Nat->PF}{K:PK}{x:Nat}{Q:PF->Prop}{R:PF->PK->Prop}
 (h1:∀i (h:i<l.length),p l[i]=zt->evP P (.code c (S i) K)=zs (.ok .normal (S (i+1)) K))
 (h2:∀i (h:i<l.length),p l[i]=zf->∃fr' K',evP P (.code c (S i) K)=zs (.ok .ret fr' K')/\R fr' K')
 (hx:∃fr',evP P (.code c (S l.length) K)=zs (.ok (.exit x) fr' K)/\Q fr'):
 (l.all p=zt/\∃fr',evP P (.code (.loop c) (S 0) K)=zs (.ok (.exit x) fr' K)/\Q fr')\/(l.all p=zf/\∃fr' K',evP P (.code (.loop c) (S 0) K)=zs (.ok .ret fr' K')/\R fr' K'):=by
 have B:∀(n i:Nat),l.length=i+n->((l.drop i).all p=zt/\∃fr',evP P (.code (.loop c) (S i) K)=zs (.ok (.exit x) fr' K)/\Q fr')\/((l.drop i).all p=zf/\∃fr' K',evP P (.code (.loop c) (S i) K)=zs (.ok .ret fr' K')/\R fr' K'):=fun n=>by
  induction n with
  |zero=>
   intro i e;obtain rfl:i=l.length:=by omega
   grind [E3]
  |succ n I=>
   intro i e;have hl:i<l.length:=by omega
   rw[zqi hl,List.all_cons];cases D:p l[i]with
   |true=>
    rw[loop_more (h1 i hl D),Bool.true_and];grind
   |false=>
    obtain⟨fr',K',G,H⟩:=h2 i hl D;exact .inr ⟨rfl,fr',K',Cp G,H⟩
 exact B l.length 0 (by omega)
section
variable {m:Modl}{c:Cod}{x:Ins}{fr:PF}{i:Nat}{tch:List Nat}
def Nx:List Int:=[1,2,3,4,5,7,10]
def Xz(c:Cod)(x:Ins):Bool:=!((!decide (x.op=9)||decide (0<=writesD x))&&(!decide (writesD x=-1) && !thereD (writesD x) c.regs.length))
def codI(l:List Cod)(i:Int):Cod:=l.getD i.toNat ⟨[],0,0,[],[]⟩
def gZ(m:Modl)(c:Cod)(x:Ins):Bool:=
 if x.op=1 then decide (wrapD (d8 c.regs x.dst) x.n=x.n)else if x.op=5 then P0 m x.n zt else if x.op=6 then P0 m x.n zt else if x.op=7 then P0 m x.n zf else if x.op=8 then P0 m x.n zf
 else if x.op=9 then thereD x.n m.fs.length&&decide ((codI m.fs x.n).ps<=(codI m.fs x.n).regs.length)else zt
def m0(x:Ins):Bool:=(Nx.any fun n=>decide (x.op=n))&&decide (x.dst<0)
def D3(m:Modl)(c:Cod)(x:Ins):Bool:=(readsD x).all (fun r=>thereD r c.regs.length)&&(Xz c x&&(!m0 x&&gZ m c x))
theorem Mb{l:List Cod}{k:Nat}(h:k<l.length):(l.map Cod.F)[k]?=zs (codI l k).F:=by
 grind [codI]
theorem GA{w:PO}(B:lookP fr 2=.ptr 0 0 0)(D:lookP fr 3=.ptr 1 0 0)(hw:T 53=zs G1)(hg:T 66=zs E5)(H:T 60=zs D6)(h1:x.op=1->thereD x.dst c.regs.length=zt):
 evP ⟨A0,T,A2⟩ (.code Ub fr ⟨[.row 1 [chkF m c] 7,.row 1 [x.F] 8,w],0,tch⟩)=zs (.ok .ret [(4,.bool (gZ m c x))] ⟨[],0,[]⟩):=by
 have tw:=fun t v K=>Di (K:=K) (t:=t) (v:=v) hw
 have J:=fun a b K=>Jr (K:=K) (m:=m) (c:=c) (a:=a) (arr:=b) hg
 have Y:=fun a n K=>Q9 (K:=K) (a:=a) (n:=n) H
 unfold Ub wU wT wS wR wQ FO FN gZ;unfold Ins.F;unfold chkF at J|-;by_cases e1:x.op=1
 . obtain⟨k,U,V⟩:=H2 (h1 e1)
   have hi:=Ma (show k<c.regs.length by omega);rw[U];simp only[B,D,eq_true e1,tw,hi,XP,seval]
 by_cases G:x.op=5
 . simp only[B,D,e1,eq_true G,J,XP,seval]
 by_cases I:x.op=6
 . simp only[B,D,e1,G,eq_true I,J,XP,seval]
 by_cases N:x.op=7
 . simp only[B,D,e1,G,I,eq_true N,J,XP,seval]
 by_cases Q:x.op=8
 . simp only[B,D,e1,G,I,N,eq_true Q,J,XP,seval]
 by_cases X:x.op=9
 . cases H:thereD x.n m.fs.length with
   |false=>simp only[B,D,e1,G,I,N,Q,eq_true X,Y,H,zqa,zkb,XP,seval]
   |true=>
    obtain⟨k,U,V⟩:=H2 H;have hi:=Mb (show k<m.fs.length by omega);simp only[Cod.F]at hi;rw[U]at H|-;simp only[B,D,e1,G,I,N,Q,eq_true X,Y,H,zqa,hi,XP,seval]
 . simp only[B,D,e1,G,I,N,Q,X,XP,seval]
end
section
variable {m:Modl}{c:Cod}{x:Ins}{fr:PF}{i:Nat}{L:List Int}
theorem NM(D:lookP fr 2=.ptr 0 0 0)(G:lookP fr 3=.ptr 1 0 0)(I:T 53=zs G1)(hg:T 66=zs E5)(J:T 60=zs D6)(hc:T 65=zs w8)(Q:x.op=1->¬x.dst<0->thereD x.dst c.regs.length=zt):
 evP ⟨A0,T,A2⟩ (.code cP fr ⟨[.row 1 [chkF m c] 7,.row 1 [x.F] 8],0,[]⟩)=zs (.ok .ret [(4,.bool (!m0 x&&gZ m c x))] ⟨[],0,[]⟩):=by
 have tc:∀K:PK,K.os[2]?=zs (.row 0 (ints Nx) 1)->evP ⟨A0,T,A2⟩ (.call 65 [.msl 2 0 7 1,.int .i64 x.op] K)=zs (.val [.bool (Nx.any fun n=>decide (x.op=n))] ⟨K.os++[],K.ext,K.tch⟩):=fun K N=>B8 hc (by
  simp_all [Nx, XP]) (C1 (a:=fun p:List Int×Int=>[fslN (ints p.1),.int .i64 p.2]) (r:=fun p=>[.bool (p.1.any fun n=>decide (p.2=n))]) (fun x y e=>by simp_all [fslN_iff, ints_iff]) (Nx,x.op) (by show Nx.length<=bigN;decide)) rfl
 unfold cP FL m0;cases ha:(Nx.any fun n=>decide (x.op=n))with
 |false=>
  rw[zkb];rw[ha]at tc;have B:∀(fr:PF)(tch:List Nat),lookP fr 2=.ptr 0 0 0->lookP fr 3=.ptr 1 0 0->evP ⟨A0,T,A2⟩ (.code Ub fr ⟨[.row 1 [chkF m c] 7,.row 1 [x.F] 8,.row 0 [.int .i64 1,.int .i64 2,.int .i64 3,.int .i64 4,.int .i64 5,.int .i64 7,.int .i64 10] 1],0,tch⟩)=zs (.ok .ret [(4,.bool (gZ m c x))] ⟨[],0,[]⟩):=(by grind [Go.Proofs.AmEnv.GA, Go.Proofs.AmEnv.Nx])
  simp_all [Ins.F, Nx, XP]
 |true=>
  rw[ha]at tc;simp only[Nx,ints,List.map]at tc;by_cases H:x.dst<0
  . simp_all [Ins.F, XP]
  . have B:∀(fr:PF)(tch:List Nat),lookP fr 2=.ptr 0 0 0->lookP fr 3=.ptr 1 0 0->evP ⟨A0,T,A2⟩ (.code Ub fr ⟨[.row 1 [chkF m c] 7,.row 1 [x.F] 8,.row 0 [.int .i64 1,.int .i64 2,.int .i64 3,.int .i64 4,.int .i64 5,.int .i64 7,.int .i64 10] 1],0,tch⟩)=zs (.ok .ret [(4,.bool (gZ m c x))] ⟨[],0,[]⟩):=(by grind [Go.Proofs.AmEnv.GA])
    simp only[Ins.F]at B|-;simp only[D,G,tc,H,B,XP,seval]
theorem NN(h:Xz c x=zt)(e:x.op=1)(hd:¬x.dst<0):thereD x.dst c.regs.length=zt:=by
 grind [Xz, writesD]
theorem NO(N:lookP fr 2=.ptr 0 0 0)(Q:lookP fr 3=.ptr 1 0 0)(X:T 53=zs G1)(hg:T 66=zs E5)(V:T 60=zs D6)(hc:T 65=zs w8)(U:T 32=zs F4):
 evP ⟨A0,T,A2⟩ (.code cQ fr ⟨[.row 1 [chkF m c] 7,.row 1 [x.F] 8],0,[]⟩)=zs (.ok .ret [(4,.bool (Xz c x&&(!m0 x&&gZ m c x)))] ⟨[],0,[]⟩):=by
 have J:=fun K=>Un (K:=K) (x:=x) U
 have H:=fun K=>Q9 (K:=K) (a:=writesD x) (n:=c.regs.length) V
 have B:Xz c x=zt->∀fr:PF,lookP fr 2=.ptr 0 0 0->lookP fr 3=.ptr 1 0 0->evP ⟨A0,T,A2⟩ (.code cP fr ⟨[.row 1 [chkF m c] 7,.row 1 [x.F] 8],0,[]⟩)=zs (.ok .ret [(4,.bool (!m0 x&&gZ m c x))] ⟨[],0,[]⟩):=fun h fr a b=>NM a b X hg V hc (NN h)
 unfold cQ FK FJ;have D:Xz c x=!((!decide (x.op=9)||decide (0<=writesD x))&&(!decide (writesD x=-1) && !thereD (writesD x) c.regs.length)):=rfl;simp only[Ins.F]at J B|-;simp only[chkF]at B|-;by_cases I:x.op=9
 . by_cases w0:0<=writesD x
   . have G:¬writesD x=-1:=by omega
     cases q:thereD (writesD x) c.regs.length with
     |true=>
      have ok:Xz c x=zt:=by rw[D,q];simp
      have B:=B ok;rw[q]at H;simp only[N,Q,J,H,eq_true I,eq_true w0,eq_false G,zqa,ok,B,XP,seval]
     |false=>
      have ok:Xz c x=zf:=by rw[D,q];simp[w0,G]
      rw[q]at H;simp only[N,Q,J,H,eq_true I,eq_true w0,eq_false G,zqa,ok,zkb,XP,seval]
   . have ok:Xz c x=zt:=by rw[D];simp[I,w0]
     have B:=B ok;simp only[N,Q,J,eq_true I,eq_false w0,ok,B,XP,seval]
 . by_cases G:writesD x=-1
   . have ok:Xz c x=zt:=by rw[D];simp[G]
     have B:=B ok;simp only[N,Q,J,I,eq_true G,ok,B,XP,seval]
   . cases q:thereD (writesD x) c.regs.length with
     |true=>
      have ok:Xz c x=zt:=by rw[D,q];simp
      have B:=B ok;rw[q]at H;simp only[N,Q,J,H,I,eq_false G,zqa,ok,B,XP,seval]
     |false=>
      have ok:Xz c x=zf:=by rw[D,q];simp[I,G]
      rw[q]at H;simp only[N,Q,J,H,I,eq_false G,zqa,ok,zkb,XP,seval]
theorem A1Z(G:T 60=zs D6)(h:i<L.length)(H:L.length<=bigN)(I:thereD L[i] c.regs.length=zt):evP ⟨A0,T,A2⟩ (.code Ik [(2,.ptr 0 0 0),(3,.ptr 1 0 0),(9,.msl 2 0 L.length 1),(10,.int .i64 (L.length:Int)),(11,.int .i64 (i:Int))] ⟨[.row 1 [chkF m c] 7,.row 1 [x.F] 8,.row 0 (ints L) 1],0,[]⟩)=zs (.ok .normal [(2,.ptr 0 0 0),(3,.ptr 1 0 0),(9,.msl 2 0 L.length 1),(10,.int .i64 (L.length:Int)),(11,.int .i64 ((i+1:Nat):Int))] ⟨[.row 1 [chkF m c] 7,.row 1 [x.F] 8,.row 0 (ints L) 1],0,[]⟩):=by
 unfold Ik pJ wP wO wN;have B:decide ((i:Int)<(L.length:Int))=zt:=by simp[h]
 have J:=B7 (i:=i) (by grind);simp_all [chkF, Ins.F, XP, Q9]
theorem A1a(G:T 60=zs D6)(h:i<L.length)(H:thereD L[i] c.regs.length=zf):evP ⟨A0,T,A2⟩ (.code Ik [(2,.ptr 0 0 0),(3,.ptr 1 0 0),(9,.msl 2 0 L.length 1),(10,.int .i64 (L.length:Int)),(11,.int .i64 (i:Int))] ⟨[.row 1 [chkF m c] 7,.row 1 [x.F] 8,.row 0 (ints L) 1],0,[]⟩)=zs (.ok .ret [(4,.bool zf)] ⟨[],0,[]⟩):=by
 unfold Ik pJ wP wO wN;have B:decide ((i:Int)<(L.length:Int))=zt:=by simp[h]
 simp_all [chkF, XP, Q9]
theorem A1b:∃fr',evP ⟨A0,T,A2⟩ (.code Ik [(2,.ptr 0 0 0),(3,.ptr 1 0 0),(9,.msl 2 0 L.length 1),(10,.int .i64 (L.length:Int)),(11,.int .i64 (L.length:Int))] ⟨[.row 1 [chkF m c] 7,.row 1 [x.F] 8,.row 0 (ints L) 1],0,[]⟩)=zs (.ok (.exit 0) fr' ⟨[.row 1 [chkF m c] 7,.row 1 [x.F] 8,.row 0 (ints L) 1],0,[]⟩)/\(lookP fr' 2=.ptr 0 0 0/\lookP fr' 3=.ptr 1 0 0):=by
 unfold Ik pJ;have B:decide ((L.length:Int)<(L.length:Int))=zf:=by simp
 simp only[B,XP,seval];exact⟨_,rfl,rfl,rfl⟩
theorem mJ(B:x.ok):(readsD x).length<=bigN:=by
 unfold readsD
 have:x.args.length<=bigN:=by unfold Ins.ok at B;grind
 grind
theorem Bz(G:T 53=zs G1)(B:T 66=zs E5)(D:T 60=zs D6)(I:T 65=zs w8)(H:T 32=zs F4)(J:T 36=zs I1){m:Modl}{c:Cod}{x:Ins}(hk:x.ok):AM.Comes ⟨A0,T,A2⟩ 58 [chkF m c,x.F] [.bool (D3 m c x)]:=by
 refine⟨[.bool (D3 m c x)],⟨[],0,[]⟩,?_,back_of rfl zqb rfl rfl rfl⟩;rw[A4 (c:=UB) (nt:=114) (rs:=[.tmp 4]) rfl (by simp)];unfold UB;unfold K0;have X:=fun K=>Zr (K:=K) J hk
 have U:=mJ hk;have V:∀fr:PF,lookP fr 2=.ptr 0 0 0->lookP fr 3=.ptr 1 0 0->evP ⟨A0,T,A2⟩ (.code cQ fr ⟨[.row 1 [chkF m c] 7,.row 1 [x.F] 8],0,[]⟩)=zs (.ok .ret [(4,.bool (Xz c x&&(!m0 x&&gZ m c x)))] ⟨[],0,[]⟩):=fun fr a b=>NO a b G B D I H
 have lp:=Ut (P:=⟨A0,T,A2⟩) (c:=Ik) (p:=fun r=>thereD r c.regs.length) (l:=readsD x) (S:=fun i=>[(2,.ptr 0 0 0),(3,.ptr 1 0 0),(9,.msl 2 0 (readsD x).length 1),(10,.int .i64 ((readsD x).length:Int)),(11,.int .i64 (i:Int))]) (K:=⟨[.row 1 [chkF m c] 7,.row 1 [x.F] 8,.row 0 (ints (readsD x)) 1],0,[]⟩)
  (Q:=fun fr'=>lookP fr' 2=.ptr 0 0 0/\lookP fr' 3=.ptr 1 0 0) (R:=fun fr' K'=>fr'=[(4,.bool zf)]/\K'=⟨[],0,[]⟩) (fun i h Y=>A1Z D h U Y) (fun i h Y=>⟨_,_,A1a D h Y,rfl,rfl⟩) A1b
 unfold wV FH D3;rcases lp with⟨ha,fr',N,h2,h3⟩|⟨ha,fr',K',N,rfl,rfl⟩
 . have N:evP ⟨A0,T,A2⟩ (.code (.loop Ik) [(2,.ptr 0 0 0),(3,.ptr 1 0 0),(9,.msl 2 0 (readsD x).length 1),(10,.int .i64 ((readsD x).length:Int)),(11,.int .i64 0)] _)=_:=N
   rw[ha];simp only[Ins.F,chkF]at X N V|-;simp only[X,N,h2,h3,V,zqa,XP,seval]
 . have N:evP ⟨A0,T,A2⟩ (.code (.loop Ik) [(2,.ptr 0 0 0),(3,.ptr 1 0 0),(9,.msl 2 0 (readsD x).length 1),(10,.int .i64 ((readsD x).length:Int)),(11,.int .i64 0)] _)=_:=N
   rw[ha,zkb];simp only[Ins.F,chkF]at X N|-;simp only[X,N,zqa,XP,seval]
def J6:=r9 (fun p:(Modl)×(Cod)×(Ins)=>[chkF p.1 p.2.1,p.2.2.F]) (fun p=>[.bool (D3 p.1 p.2.1 p.2.2)]) (fun p=>p.2.2.ok)
theorem Js(B:T 58=zs J6){m:Modl}{c:Cod}{x:Ins}{K:PK}(D:x.ok):evP ⟨A0,T,A2⟩ (.call 58 [chkF m c,x.F] K)=zs (.val (openTs K.os.length [.bool (D3 m c x)]).1 ⟨K.os++(openTs K.os.length [.bool (D3 m c x)]).2,K.ext,K.tch⟩):=B8 B (by simp only[VV,XP,seval]) (C1 (a:=fun p:(Modl)×(Cod)×(Ins)=>[chkF p.1 p.2.1,p.2.2.F]) (r:=fun p=>[.bool (D3 p.1 p.2.1 p.2.2)]) (fun x y e=>by simp_all [VJ]) (m,c,x) D) (by simp_all [XP])
theorem Ft(D:T 53=zs G1)(B:T 66=zs E5)(H:T 60=zs D6)(I:T 65=zs w8)(G:T 32=zs F4)(J:T 36=zs I1)(N:PEok ⟨A0,T,A2⟩):TC A0 58 J6:=C7 N fun p h=>Bz D B H I G J h
end
section
variable {m:Modl}{c:Cod}{x:Ins}{fr:PF}{i:Nat}
theorem Mc(h:D3 m c x=zt){r:Int}(B:r∈readsD x):thereD r c.regs.length=zt:=by
 simp_all [D3]
theorem Ny(h:D3 m c x=zt)(e:x.op=1\/x.op=2\/x.op=3\/x.op=4\/x.op=5\/x.op=7\/x.op=10):thereD x.dst c.regs.length=zt:=by
 unfold D3 at h;simp only[zke]at h;obtain⟨_,B,G,_⟩:=h;have D:¬x.dst<0:=(by grind [Go.Proofs.AmEnv.m0, Go.Proofs.AmEnv.Nx])
 have H:writesD x=x.dst:=by
  unfold writesD;grind
 grind [Xz]
theorem xK(h:D3 m c x=zt):gZ m c x=zt:=by
 simp_all [D3]
theorem cZ(h:D3 m c x=zt)(e:x.op=5\/x.op=6\/x.op=7\/x.op=8):thereD x.n m.gs.length=zt:=by
 have h:=xK h;grind [gZ, P0]
theorem xL(h:D3 m c x=zt)(e:x.op=9):thereD x.n m.fs.length=zt/\(codI m.fs x.n).ps<=(codI m.fs x.n).regs.length:=by
 have h:=xK h;grind [gZ]
theorem CD(h:D3 m c x=zt)(e:x.op=9)(hd:¬x.dst<0):thereD x.dst c.regs.length=zt:=by
 grind [D3, writesD, Xz]
def isD(c:Cod)(r t:Int):Bool:=decide (d8 c.regs r=t)
def mK(l:List Glo)(i:Int):Glo:=l.getD i.toNat ⟨[],0,0,0⟩
theorem xM{l:List Glo}{k:Nat}(h:k<l.length):(l.map Glo.F)[k]?=zs (mK l k).F:=by
 grind [mK]
def NP(x:Ins):Int:=if contS (32::(x.s++[32])) Us then 1 else x.ty
def Az(m:Modl)(c:Cod)(x:Ins):Bool:=(x.args.zip (codI m.fs x.n).regs).all (fun p=>isD c p.1 p.2)&&(decide (x.dst<0)||(!decide ((codI m.fs x.n).ty=0)&&isD c x.dst (codI m.fs x.n).ty))
def X5(m:Modl)(c:Cod)(x:Ins):Bool:=
 if x.op=2 then isD c x.a (d8 c.regs x.dst)else if x.op=3 then isD c x.a x.ty&&(isD c x.b x.ty&&isD c x.dst (NP x))else if x.op=4 then isD c x.dst (In x.ty)
 else if x.op=5 then isD c x.a 2&&isD c x.dst (In (mK m.gs x.n).ty)else if x.op=6 then isD c x.a 2&&isD c x.b (In (mK m.gs x.n).ty)else if x.op=7 then isD c x.dst (mK m.gs x.n).ty else if x.op=8 then isD c x.a (mK m.gs x.n).ty
 else if x.op=9 then Az m c x else if x.op=10 then isD c x.dst 2 else if x.op=11 then isD c x.a 2 else zt
def Uu(m:Modl)(x:Ins):Prop:=x.op=9->(x.args.length:Int)=(codI m.fs x.n).ps
section
variable {F:Cod}{A:List Int}
theorem A1c(hN:T 67=zn)(h:i<A.length)(G:i<F.regs.length)(H:A.length<=bigN)(I:thereD A[i] c.regs.length=zt)(B:isD c A[i] F.regs[i]=zt):
 evP ⟨A0,T,A2⟩ (.code Il [(2,.fn (.func 67) [] [.ptr 0 0 0]),(4,.ptr 2 0 0),(7,.ptr 3 0 0),(18,fslN (ints A)),(19,.int .i64 (A.length:Int)),(20,.int .i64 (i:Int))] ⟨[.row 1 [chkF m c] 7,.row 1 [x.F] 8,.row 1 [x.F] 8,.row 1 [F.F] 5],2,[]⟩)=zs (.ok .normal [(2,.fn (.func 67) [] [.ptr 0 0 0]),(4,.ptr 2 0 0),(7,.ptr 3 0 0),(18,fslN (ints A)),(19,.int .i64 (A.length:Int)),(20,.int .i64 ((i+1:Nat):Int))] ⟨[.row 1 [chkF m c] 7,.row 1 [x.F] 8,.row 1 [x.F] 8,.row 1 [F.F] 5],2,[]⟩):=by
 unfold Il;have D:decide ((i:Int)<(A.length:Int))=zt:=by simp[h]
 have N:=B7 (i:=i) (by simp only[bigN]at H;omega);have ic:=fun t K J=>Rm (m:=m) (t:=t) (id:=0) (K:=K) hN I J
 have B:decide (d8 c.regs A[i]=F.regs[i])=zt:=B;simp only[chkF,Ins.F,Cod.F]at ic|-;simp only[D,A8 h,A8 G,N,ic,B,XP,seval]
theorem A1d(hN:T 67=zn)(h:i<A.length)(G:i<F.regs.length)(H:thereD A[i] c.regs.length=zt)(B:isD c A[i] F.regs[i]=zf):
 ∃K',evP ⟨A0,T,A2⟩ (.code Il [(2,.fn (.func 67) [] [.ptr 0 0 0]),(4,.ptr 2 0 0),(7,.ptr 3 0 0),(18,fslN (ints A)),(19,.int .i64 (A.length:Int)),(20,.int .i64 (i:Int))] ⟨[.row 1 [chkF m c] 7,.row 1 [x.F] 8,.row 1 [x.F] 8,.row 1 [F.F] 5],2,[]⟩)=zs (.ok .ret [(6,.bool zf)] K')/\K'=⟨[.row 1 [chkF m c] 7,.row 1 [x.F] 8],2,[]⟩:=by
 unfold Il;have D:decide ((i:Int)<(A.length:Int))=zt:=by simp[h]
 have ic:=fun t K I=>Rm (m:=m) (t:=t) (id:=0) (K:=K) hN H I
 have B:decide (d8 c.regs A[i]=F.regs[i])=zf:=B;simp only[chkF,Ins.F,Cod.F]at ic|-;simp only[D,A8 h,A8 G,ic,B,XP,seval];exact⟨_,rfl,rfl⟩
theorem A1e:∃fr',evP ⟨A0,T,A2⟩ (.code Il [(2,.fn (.func 67) [] [.ptr 0 0 0]),(4,.ptr 2 0 0),(7,.ptr 3 0 0),(18,fslN (ints A)),(19,.int .i64 (A.length:Int)),(20,.int .i64 (A.length:Int))] ⟨[.row 1 [chkF m c] 7,.row 1 [x.F] 8,.row 1 [x.F] 8,.row 1 [F.F] 5],2,[]⟩)=zs (.ok (.exit 0) fr' ⟨[.row 1 [chkF m c] 7,.row 1 [x.F] 8,.row 1 [x.F] 8,.row 1 [F.F] 5],2,[]⟩)/\(lookP fr' 2=.fn (.func 67) [] [.ptr 0 0 0]/\lookP fr' 4=.ptr 2 0 0/\lookP fr' 7=.ptr 3 0 0):=by
 unfold Il;have B:decide ((A.length:Int)<(A.length:Int))=zf:=by simp
 simp only[B,XP,seval];exact⟨_,rfl,rfl,rfl,rfl⟩
end
theorem tC(hN:T 67=zn)(hk:x.ok)(I:D3 m c x=zt)(V:x.op=9)(ha:Uu m x):
 evP ⟨A0,T,A2⟩ (.body 69 [chkF m c,x.F,.fn (.func 67) [] [.ptr 0 0 0]] ⟨[.row 1 [chkF m c] 7,.row 1 [x.F] 8],2,[]⟩)=zs (.val [.bool (Az m c x)] ⟨[.row 1 [chkF m c] 7,.row 1 [x.F] 8],2,[]⟩):=by
 obtain⟨hf,hps⟩:=xL I V;have ha:=ha V;obtain⟨k,U,hkl⟩:=H2 hf;have hi:=Mb (show k<m.fs.length by omega);rw[<-U]at hi;have N:x.args.length<=bigN:=by unfold Ins.ok at hk;simp only[bigN]at hk|-;omega
 have hz:(x.args.zip (codI m.fs x.n).regs).length=x.args.length:=by rw[zqm];omega
 have rd:∀i (h:i<x.args.length),thereD x.args[i] c.regs.length=zt:=fun i h=>Mc I (by
  have:readsD x=x.args:=by simp[readsD,V]
  rw[this];exact zqc h)
 have lp:=Ut (P:=⟨A0,T,A2⟩) (c:=Il) (p:=fun p=>isD c p.1 p.2) (l:=x.args.zip (codI m.fs x.n).regs) (S:=fun i=>[(2,.fn (.func 67) [] [.ptr 0 0 0]),(4,.ptr 2 0 0),(7,.ptr 3 0 0),(18,fslN (ints x.args)),(19,.int .i64 (x.args.length:Int)),(20,.int .i64 (i:Int))]) (K:=⟨[.row 1 [chkF m c] 7,.row 1 [x.F] 8,.row 1 [x.F] 8,.row 1 [(codI m.fs x.n).F] 5],2,[]⟩)
  (Q:=fun fr'=>lookP fr' 2=.fn (.func 67) [] [.ptr 0 0 0]/\lookP fr' 4=.ptr 2 0 0/\lookP fr' 7=.ptr 3 0 0) (R:=fun fr' K'=>fr'=[(6,.bool zf)]/\K'=⟨[.row 1 [chkF m c] 7,.row 1 [x.F] 8],2,[]⟩)
  (fun i h Y=>A1c (F:=codI m.fs x.n) (A:=x.args) hN (by omega) (by rw[zqm]at h;omega) N (rd i (by omega)) (by simpa using Y)) (fun i h Y=>by
    obtain⟨K',q1,q2⟩:=A1d (m:=m) (x:=x) (F:=codI m.fs x.n) (A:=x.args) hN (show i<x.args.length by omega) (by rw[zqm]at h;omega) (rd i (by omega)) (by simpa using Y);exact⟨_,K',q1,rfl,q2⟩) (by rw[hz];exact A1e)
 rw [A4 (c:=UL) (nt:=51) (rs:=[.tmp 6]) rfl (by simp)];unfold UL;have B:Az m c x=((x.args.zip (codI m.fs x.n).regs).all (fun p=>isD c p.1 p.2)&&(decide (x.dst<0)||(!decide ((codI m.fs x.n).ty=0)&&isD c x.dst (codI m.fs x.n).ty))):=rfl;have D:∀te:TI,te.size=5->Pb te (fslN (m.fs.map Cod.F)) (.int .i64 x.n)=zs (.fptr (codI m.fs x.n).F 0):=fun te h=>by
  rw[U]at hi|-;exact ix_fslN hi (by rw[h];rfl)
 have D:=D _ ty34_z;rcases lp with⟨H,fr',G,h2,h3,h4⟩|⟨H,fr',K',G,rfl,rfl⟩
 . have G:evP ⟨A0,T,A2⟩ (.code (.loop Il) [(2,.fn (.func 67) [] [.ptr 0 0 0]),(4,.ptr 2 0 0),(7,.ptr 3 0 0),(18,fslN (ints x.args)),(19,.int .i64 (x.args.length:Int)),(20,.int .i64 0)] _)=_:=G
   rw[H,Bool.true_and]at B;simp only[chkF,Ins.F,Cod.F]at G D|-;by_cases J:x.dst<0
   . have B:Az m c x=zt:=by rw[B];simp[J]
     simp only[D,G,h2,h3,h4,B,eq_true J,zqa,XP,seval]
   . by_cases X:(codI m.fs x.n).ty=0
     . have B:Az m c x=zf:=by rw[B];simp[J,X]
       simp only[D,G,h2,h3,h4,B,J,eq_true X,zqa,XP,seval]
     . have B:Az m c x=isD c x.dst (codI m.fs x.n).ty:=by rw[B];simp[J,X]
       have ic:=fun t K hK=>Rm (m:=m) (r:=x.dst) (t:=t) (id:=0) (K:=K) hN (CD I V J) hK
       unfold isD at B;simp only[chkF]at ic;simp only[D,G,h2,h3,h4,B,J,X,ic,zqa,XP,seval]
 . have G:evP ⟨A0,T,A2⟩ (.code (.loop Il) [(2,.fn (.func 67) [] [.ptr 0 0 0]),(4,.ptr 2 0 0),(7,.ptr 3 0 0),(18,fslN (ints x.args)),(19,.int .i64 (x.args.length:Int)),(20,.int .i64 0)] _)=_:=G
   rw[H,zkb]at B;simp only[chkF,Ins.F,Cod.F]at G D|-;simp only[D,G,B,zqa,XP,seval]
end
section
variable {m:Modl}{c:Cod}{x:Ins}{fr:PF}{i:Nat}{tch:List Nat}
theorem tD(hN:T 67=zn)(hC:T 69=zn)(D:x.ok)(B:D3 m c x=zt)(G:x.op=9)(ha:Uu m x):
 evP ⟨A0,T,A2⟩ (.call 69 [chkF m c,x.F,.fn (.func 67) [] [.ptr 0 0 0]] ⟨[.row 1 [chkF m c] 7,.row 1 [x.F] 8],0,tch⟩)=zs (.val [.bool (Az m c x)] ⟨[.row 1 [chkF m c] 7,.row 1 [x.F] 8],0,tch⟩):=
 (Bh hC rfl).trans ((congrArg _ (tC hN D B G ha)).trans rfl)
theorem Dj(B:T 67=zn)(I:T 69=zn)(G:T 64=zs U2)(X:T 68=zs Fo){m:Modl}{c:Cod}{x:Ins}(U:x.ok/\x.s.length<=bigN/\D3 m c x=zt/\Uu m x):AM.Comes ⟨A0,T,A2⟩ 59 [chkF m c,x.F] [.bool (X5 m c x)]:=by
 refine⟨[.bool (X5 m c x)],⟨[],0,[]⟩,?_,back_of rfl zqb rfl rfl rfl⟩;rw[A4 (c:=UC) (nt:=150) (rs:=[.tmp 4]) rfl (by simp)];unfold UC;unfold K0;obtain⟨hx,hs,D,ad⟩:=U;have J:=fun(r t:Int)(K:PK)(hr:thereD r c.regs.length=zt) N=>Rm (m:=m) (c:=c) (r:=r) (t:=t) (id:=0) (K:=K) B hr N
 have tw:=fun t K=>xH (K:=K) (t:=t) X
 have cc:=fun e9 tch=>tD (tch:=tch) B I hx D e9 ad
 have ab:∀k:Nat,x.n=k->k<m.gs.length->Pb Ed (fslN (m.gs.map Glo.F)) (.int .i64 x.n)=zs (.fptr (mK m.gs x.n).F 0):=fun k U hl=>by
  rw[U];exact ix_fslN (xM hl) rfl
 have af:∀k:Nat,x.dst=k->k<c.regs.length->Pb ty3 (fslN (ints c.regs)) (.int .i64 x.dst)=zs (.fptr (.int .i64 (d8 c.regs x.dst)) 0):=fun k U hl=>by
  rw[U];exact ix_fslN (Ma hl) rfl
 unfold xA wZ wY wX wW FZ FY FX FW FV FU FT FS X5;simp only[chkF,Ins.F]at J cc|-;by_cases e2:x.op=2
 . have V:=fun t K N=>J x.a t K (Mc D (by simp[readsD,e2])) N
   obtain⟨k,U,hl⟩:=H2 (Ny D (by simp[e2]));have H:=af k U (by omega);unfold isD;simp only[eq_true e2,V,H,XP,seval]
 by_cases Q:x.op=3
 . have V:=fun t K N=>J x.a t K (Mc D (by simp[readsD,Q])) N
   have ib:=fun t K N=>J x.b t K (Mc D (by simp[readsD,Q])) N
   have id:=fun t K N=>J x.dst t K (Ny D (by simp[Q])) N
   have d1:∀K:PK,Q6 A0 .add 9 (.str [32]) (.str x.s) K=.val (.str (32::x.s)) K:=fun K=>Rl (by simp only[bigN]at hs;simp;omega)
   have d2:∀K:PK,Q6 A0 .add 9 (.str (32::x.s)) (.str [32]) K=.val (.str (32::(x.s++[32]))) K:=fun K=>Rl (by simp only[bigN]at hs;simp;omega)
   have cn:=fun K=>Nw (K:=K) (s:=Us) (p:=32::(x.s++[32])) G (by unfold Nv;rfl)
   unfold isD NP FQ FP;unfold Us at cn|-;by_cases qa:d8 c.regs x.a=x.ty
   . by_cases qb:d8 c.regs x.b=x.ty
     . cases aa:contS (32::(x.s++[32])) [32,61,61,32,33,61,32,60,32,60,61,32,62,32,62,61,32]with
       |_=>simp only[e2,eq_true Q,V,ib,id,d1,d2,cn,aa,eq_true qa,eq_true qb,XP,seval]
     . cases aa:contS (32::(x.s++[32])) [32,61,61,32,33,61,32,60,32,60,61,32,62,32,62,61,32]with
       |_=>simp only[e2,eq_true Q,V,ib,id,d1,d2,cn,aa,eq_true qa,eq_false qb,zkb,XP,seval]
   . cases aa:contS (32::(x.s++[32])) [32,61,61,32,33,61,32,60,32,60,61,32,62,32,62,61,32]with
     |_=>simp only[e2,eq_true Q,V,ib,id,d1,d2,cn,aa,eq_false qa,zkb,XP,seval]
 by_cases e4:x.op=4
 . have id:=fun t K N=>J x.dst t K (Ny D (by simp[e4])) N
   unfold isD;simp only[e2,Q,eq_true e4,id,tw,XP,seval]
 by_cases Y:x.op=5
 . have V:=fun t K N=>J x.a t K (Mc D (by simp[readsD,Y])) N
   have id:=fun t K N=>J x.dst t K (Ny D (by simp[Y])) N
   obtain⟨k,U,hl⟩:=H2 (cZ D (by simp[Y]));have H:=ab k U (by omega);simp only[Glo.F]at H;unfold isD;by_cases qa:d8 c.regs x.a=2
   . simp only[e2,Q,e4,eq_true Y,V,id,H,tw,eq_true qa,XP,seval]
   . simp only[e2,Q,e4,eq_true Y,V,id,H,tw,eq_false qa,zkb,XP,seval]
 by_cases e6:x.op=6
 . have V:=fun t K N=>J x.a t K (Mc D (by simp[readsD,e6])) N
   have ib:=fun t K N=>J x.b t K (Mc D (by simp[readsD,e6])) N
   obtain⟨k,U,hl⟩:=H2 (cZ D (by simp[e6]));have H:=ab k U (by omega);simp only[Glo.F]at H;unfold isD;by_cases qa:d8 c.regs x.a=2
   . simp only[e2,Q,e4,Y,eq_true e6,V,ib,H,tw,eq_true qa,XP,seval]
   . simp only[e2,Q,e4,Y,eq_true e6,V,ib,H,tw,eq_false qa,zkb,XP,seval]
 by_cases e7:x.op=7
 . have id:=fun t K N=>J x.dst t K (Ny D (by simp[e7])) N
   obtain⟨k,U,hl⟩:=H2 (cZ D (by simp[e7]));have H:=ab k U (by omega);simp only[Glo.F]at H;unfold isD;simp only[e2,Q,e4,Y,e6,eq_true e7,id,H,XP,seval]
 by_cases e8:x.op=8
 . have V:=fun t K N=>J x.a t K (Mc D (by simp[readsD,e8])) N
   obtain⟨k,U,hl⟩:=H2 (cZ D (by simp[e8]));have H:=ab k U (by omega);simp only[Glo.F]at H;unfold isD;simp only[e2,Q,e4,Y,e6,e7,eq_true e8,V,H,XP,seval]
 by_cases e9:x.op=9
 . have cc:=cc e9
   simp only[e2,Q,e4,Y,e6,e7,e8,eq_true e9,cc,XP,seval]
 by_cases ac:x.op=10
 . have id:=fun t K N=>J x.dst t K (Ny D (by simp[ac])) N
   unfold isD;simp only[e2,Q,e4,Y,e6,e7,e8,e9,eq_true ac,id,XP,seval]
 by_cases ae:x.op=11
 . have V:=fun t K N=>J x.a t K (Mc D (by simp[readsD,ae])) N
   unfold isD;simp only[e2,Q,e4,Y,e6,e7,e8,e9,ac,eq_true ae,V,XP,seval]
 . simp only[e2,Q,e4,Y,e6,e7,e8,e9,ac,ae,XP,seval]
def M0:=r9 (fun p:(Modl)×(Cod)×(Ins)=>[chkF p.1 p.2.1,p.2.2.F]) (fun p=>[.bool (X5 p.1 p.2.1 p.2.2)]) (fun p=>p.2.2.ok/\p.2.2.s.length<=bigN/\D3 p.1 p.2.1 p.2.2=zt/\Uu p.1 p.2.2)
theorem Ba(B:T 59=zs M0){m:Modl}{c:Cod}{x:Ins}{K:PK}(D:x.ok/\x.s.length<=bigN/\D3 m c x=zt/\Uu m x):evP ⟨A0,T,A2⟩ (.call 59 [chkF m c,x.F] K)=zs (.val (openTs K.os.length [.bool (X5 m c x)]).1 ⟨K.os++(openTs K.os.length [.bool (X5 m c x)]).2,K.ext,K.tch⟩):=B8 B (by simp only[VV,XP,seval]) (C1 (a:=fun p:(Modl)×(Cod)×(Ins)=>[chkF p.1 p.2.1,p.2.2.F]) (r:=fun p=>[.bool (X5 p.1 p.2.1 p.2.2)]) (fun x y e=>by simp_all [VJ]) (m,c,x) D) (by simp_all [XP])
theorem Ht(B:T 67=zn)(G:T 69=zn)(D:T 64=zs U2)(H:T 68=zs Fo)(I:PEok ⟨A0,T,A2⟩):TC A0 59 M0:=C7 I fun p h=>Dj B G D H h
end
section
variable {m:Modl}{c:Cod}{x:Ins}{fr:PF}{i:Nat}{tch:List Nat}
def F9(m:Modl)(c:Cod)(x:Ins):Int:=if Bx x=zt then(if D3 m c x=zt then(if x.op=9 then(if(x.args.length:Int)=(codI m.fs x.n).ps then(if X5 m c x=zt then 0 else 6)else 7)else(if X5 m c x=zt then 0 else 6))else 11)else 2
theorem Dk(G:T 57=zs Fr)(D:T 58=zs J6)(B:T 59=zs M0){m:Modl}{c:Cod}{x:Ins}(hk:x.ok/\x.s.length<=bigN):AM.Comes ⟨A0,T,A2⟩ 46 [chkF m c,x.F] [.int .i64 (F9 m c x)]:=by
 refine⟨[.int .i64 (F9 m c x)],⟨[],0,[]⟩,?_,back_of rfl zqb rfl rfl rfl⟩;rw[A4 (c:=TU) (nt:=37) (rs:=[.tmp 4]) rfl (by simp)];unfold TU;unfold K0;obtain⟨X,Y⟩:=hk;have H:=fun K=>xJ (K:=K) G Y
 have I:=fun K=>Js (K:=K) (m:=m) (c:=c) D X
 unfold F9;cases hf:Bx x with
 |false=>
  simp_all [Ins.F, chkF, XP]
 |true=>
  rw[hf]at H;cases U:D3 m c x with
  |false=>
   simp_all [Ins.F, chkF, XP]
  |true=>
   rw[U]at I;by_cases V:x.op=9
   . obtain ⟨aa,hps⟩:=xL U V
     obtain ⟨k,Q,hkl⟩:=H2 aa;have hi:=Mb (show k<m.fs.length by omega);rw[<-Q]at hi;have J:Pb Bl (fslN (m.fs.map Cod.F)) (.int .i64 x.n)=zs (.fptr (codI m.fs x.n).F 0):=by
      rw[Q]at hi|-;exact ix_fslN hi rfl
     by_cases hq:(x.args.length:Int)=(codI m.fs x.n).ps
     . have N:=fun K=>Ba (K:=K) (m:=m) (c:=c) B ⟨X,Y,U,fun _=>hq⟩
       cases ht:X5 m c x with
       |_=>rw[ht]at N;simp only[Ins.F,chkF,Cod.F]at H I N J|-;simp_all [XP]
     . simp only[Ins.F,chkF,Cod.F]at H I J|-;simp_all [XP]
   . have N:=fun K=>Ba (K:=K) (m:=m) (c:=c) B ⟨X,Y,U,fun h=>absurd h V⟩
     cases ht:X5 m c x with
     |_=>simp_all [Ins.F, chkF, XP]
def D1:=r9 (fun p:(Modl)×(Cod)×(Ins)=>[chkF p.1 p.2.1,p.2.2.F]) (fun p=>[.int .i64 (F9 p.1 p.2.1 p.2.2)]) (fun p=>p.2.2.ok/\p.2.2.s.length<=bigN)
theorem Bb(B:T 46=zs D1){m:Modl}{c:Cod}{x:Ins}{K:PK}(D:x.ok/\x.s.length<=bigN):evP ⟨A0,T,A2⟩ (.call 46 [chkF m c,x.F] K)=zs (.val (openTs K.os.length [.int .i64 (F9 m c x)]).1 ⟨K.os++(openTs K.os.length [.int .i64 (F9 m c x)]).2,K.ext,K.tch⟩):=B8 B (by simp only[VV,XP,seval]) (C1 (a:=fun p:(Modl)×(Cod)×(Ins)=>[chkF p.1 p.2.1,p.2.2.F]) (r:=fun p=>[.int .i64 (F9 p.1 p.2.1 p.2.2)]) (fun x y e=>by simp_all [VJ]) (m,c,x) D) (by simp_all [XP])
theorem Hu(G:T 57=zs Fr)(B:T 58=zs J6)(D:T 59=zs M0)(H:PEok ⟨A0,T,A2⟩):TC A0 46 D1:=C7 H fun p h=>Dk G B D h
def Ee(c:Cod)(e:Endd):Int:=
 if e.kind=1 then(if thereD e.to c.blocks.length=zt then 0 else 11)
 else if e.kind=2 then(if thereD e.to c.blocks.length=zt then(if thereD e.els c.blocks.length=zt then(if thereD e.a c.regs.length=zt then(if d8 c.regs e.a=1 then 0 else 6)else 11)else 11)else 11)
 else if e.kind=3 then(if e.a<0 then(if c.ty=0 then 0 else 6)else(if thereD e.a c.regs.length=zt then(if c.ty=0 then 6 else if d8 c.regs e.a=c.ty then 0 else 6)else 11))else 2
theorem Fu(B:T 60=zs D6){m:Modl}{c:Cod}{e:Endd}:AM.Comes ⟨A0,T,A2⟩ 47 [chkF m c,e.F] [.int .i64 (Ee c e)]:=by
 refine⟨[.int .i64 (Ee c e)],⟨[],0,[]⟩,?_,back_of rfl zqb rfl rfl rfl⟩;rw[A4 (c:=TV) (nt:=100) (rs:=[.tmp 4]) rfl (by simp)];unfold TV;unfold K0;have D:=fun a n K=>Q9 (K:=K) (a:=a) (n:=n) B
 have U:=pO 4 rfl;have V:∀k:Nat,e.a=k->k<c.regs.length->Pb ty3 (fslN (ints c.regs)) (.int .i64 e.a)=zs (.fptr (.int .i64 (d8 c.regs e.a)) 0):=fun k Q hl=>by
  rw[Q];exact ix_fslN (Ma hl) rfl
 have X:(zt==zt)=zt:=rfl;have Y:(zt==zf)=zf:=rfl;have b3:(zf==zt)=zf:=rfl;have b4:(zf==zf)=zt:=rfl;unfold Ee;simp only[Endd.F,chkF];by_cases e1:e.kind=1
 . cases I:thereD e.to c.blocks.length with
   |_=>simp_all [XP]
 by_cases e2:e.kind=2
 . cases I:thereD e.to c.blocks.length with
   |false=>simp_all [XP]
   |true=>
    cases h2:thereD e.els c.blocks.length with
    |false=>simp_all [XP]
    |true=>
     cases H:thereD e.a c.regs.length with
     |false=>simp_all [XP]
     |true=>
      obtain⟨k,Q,hl⟩:=H2 H;have G:=V k Q (by omega);by_cases hq:d8 c.regs e.a=1
      . simp only[D,I,h2,H,G,eq_true hq,e1,eq_true e2,zqa,XP,seval]
      . simp only[D,I,h2,H,G,hq,e1,eq_true e2,zqa,XP,seval]
 by_cases J:e.kind=3
 . by_cases ha:e.a<0
   . by_cases N:c.ty=0
     . simp only[D,U,X,Y,b3,b4,eq_true ha,eq_true N,e1,e2,eq_true J,zqa,XP,seval]
     . simp only[D,U,X,Y,b3,b4,eq_true ha,N,e1,e2,eq_true J,zqa,XP,seval]
   . cases H:thereD e.a c.regs.length with
     |false=>simp only[D,H,ha,e1,e2,eq_true J,zqa,XP,seval]
     |true=>
      obtain⟨k,Q,hl⟩:=H2 H;have G:=V k Q (by omega);by_cases N:c.ty=0
      . simp only[D,H,U,X,Y,b3,b4,ha,eq_true N,e1,e2,eq_true J,zqa,XP,seval]
      . by_cases hq:d8 c.regs e.a=c.ty
        . simp only[D,H,G,U,X,Y,b3,b4,ha,N,eq_true hq,e1,e2,eq_true J,zqa,XP,seval]
        . simp only[D,H,G,U,X,Y,b3,b4,ha,N,hq,e1,e2,eq_true J,zqa,XP,seval]
 simp_all [XP]
def I6:=r9 (fun p:(Modl)×(Cod)×(Endd)=>[chkF p.1 p.2.1,p.2.2.F]) (fun p=>[.int .i64 (Ee p.2.1 p.2.2)]) (fun p=>True)
theorem Dv(B:T 47=zs I6){m:Modl}{c:Cod}{e:Endd}{K:PK}:evP ⟨A0,T,A2⟩ (.call 47 [chkF m c,e.F] K)=zs (.val (openTs K.os.length [.int .i64 (Ee c e)]).1 ⟨K.os++(openTs K.os.length [.int .i64 (Ee c e)]).2,K.ext,K.tch⟩):=B8 B (by simp only[VV,XP,seval]) (C1 (a:=fun p:(Modl)×(Cod)×(Endd)=>[chkF p.1 p.2.1,p.2.2.F]) (r:=fun p=>[.int .i64 (Ee p.2.1 p.2.2)]) (fun x y e=>by simp_all [VJ]) (m,c,e) trivial) (by simp_all [XP])
theorem Md(B:T 60=zs D6)(D:PEok ⟨A0,T,A2⟩):TC A0 47 I6:=C7 D fun p h=>Fu B
def F5:List Int->Int
 |[]=>0
 |e::l=>if e=0 then F5 l else e
theorem err_loop{P:PE}{c:PC}{X:Type}{f:X->Int}{l:List X}{S:Nat->PF}{K:PK}{x:Nat}{Q:PF->Prop}{R:Int->PF->PK->Prop}
 (h1:∀i (h:i<l.length),f l[i]=0->evP P (.code c (S i) K)=zs (.ok .normal (S (i+1)) K))
 (h2:∀i (h:i<l.length),¬f l[i]=0->∃fr' K',evP P (.code c (S i) K)=zs (.ok .ret fr' K')/\R (f l[i]) fr' K')
 (hx:∃fr',evP P (.code c (S l.length) K)=zs (.ok (.exit x) fr' K)/\Q fr'):
 (F5 (l.map f)=0/\∃fr',evP P (.code (.loop c) (S 0) K)=zs (.ok (.exit x) fr' K)/\Q fr')\/(¬F5 (l.map f)=0/\∃fr' K',evP P (.code (.loop c) (S 0) K)=zs (.ok .ret fr' K')/\R (F5 (l.map f)) fr' K'):=by
 have D:∀(n i:Nat),l.length=i+n->(F5 ((l.drop i).map f)=0/\∃fr',evP P (.code (.loop c) (S i) K)=zs (.ok (.exit x) fr' K)/\Q fr')\/(¬F5 ((l.drop i).map f)=0/\∃fr' K',evP P (.code (.loop c) (S i) K)=zs (.ok .ret fr' K')/\R (F5 ((l.drop i).map f)) fr' K'):=fun n=>by
  induction n with
  |zero=>
   intro i e;obtain rfl:i=l.length:=by omega
   obtain⟨fr',h,q⟩:=hx;exact .inl ⟨by rw[zqh];rfl,fr',E3 h,q⟩
  |succ n I=>
   intro i e;have hl:i<l.length:=by omega
   rw[zqi hl,List.map_cons];unfold F5;by_cases B:f l[i]=0
   . rw[loop_more (h1 i hl B),if_pos B]
     grind
   . obtain⟨fr',K',G,H⟩:=h2 i hl B
     rw[if_neg B];grind [Cp]
 exact D l.length 0 (by omega)
end
def Ins.sok(x:Ins):Prop:=x.ok/\x.s.length<=bigN
def Blk.sok(b:Blk):Prop:=b.ok/\∀x∈b.code,x.sok
def Cod.sok(c:Cod):Prop:=c.ok/\∀b∈c.blocks,b.sok
def Modl.ok(m:Modl):Prop:=(∀c∈m.fs,c.sok)/\m.fs.length*64<=bigN/\m.gs.length*40<=bigN
section
variable {m:Modl}{c:Cod}{x:Ins}{b:Blk}{fr:PF}{i k:Nat}{tch:List Nat}
def Jt(m:Modl)(c:Cod)(b:Blk):Int:=if F5 (b.code.map (F9 m c))=0 then Ee c b.e else F5 (b.code.map (F9 m c))
def M8(m:Modl)(c:Cod):Int:=
 if c.blocks.length<1\/400<c.blocks.length\/4096<c.regs.length then 9 else if c.ps<0\/(c.regs.length:Int)<c.ps then 11
 else if c.ty<0\/2<c.ty\/(c.regs.any fun n=>!E8 n)=zt then 6 else F5 (c.blocks.map (Jt m c))
theorem NQ(hT:T 46=zs D1)(h:k<b.code.length)(D:b.sok)(G:F9 m c b.code[k]=0):
 evP ⟨A0,T,A2⟩ (.code Ig [(1,.ptr 0 0 0),(5,.ptr 1 0 0),(56,fslN (c.blocks.map Blk.F)),(57,.int .i64 (c.blocks.length:Int)),(58,.int .i64 (i:Int)),(63,fslN (b.code.map Ins.F)),(64,.int .i64 (b.code.length:Int)),(65,.int .i64 (k:Int))] ⟨[.row 1 [chkF m c] 7,.row 1 [b.F] 5],0,[]⟩)=zs (.ok .normal [(1,.ptr 0 0 0),(5,.ptr 1 0 0),(56,fslN (c.blocks.map Blk.F)),(57,.int .i64 (c.blocks.length:Int)),(58,.int .i64 (i:Int)),(63,fslN (b.code.map Ins.F)),(64,.int .i64 (b.code.length:Int)),(65,.int .i64 ((k+1:Nat):Int))] ⟨[.row 1 [chkF m c] 7,.row 1 [b.F] 5],0,[]⟩):=by
 unfold Ig;have B:decide ((k:Int)<(b.code.length:Int))=zt:=by simp[h]
 have H:=B7 (i:=k) (by have:=D.1.2;grind);have t:=fun K=>Bb (K:=K) (m:=m) (c:=c) (x:=b.code[k]) hT (D.2 _ (zqc h))
 simp_all [Ins.F, chkF, Blk.F, XP]
theorem NR(hT:T 46=zs D1)(h:k<b.code.length)(D:b.sok)(G:¬F9 m c b.code[k]=0):
 evP ⟨A0,T,A2⟩ (.code Ig [(1,.ptr 0 0 0),(5,.ptr 1 0 0),(56,fslN (c.blocks.map Blk.F)),(57,.int .i64 (c.blocks.length:Int)),(58,.int .i64 (i:Int)),(63,fslN (b.code.map Ins.F)),(64,.int .i64 (b.code.length:Int)),(65,.int .i64 (k:Int))] ⟨[.row 1 [chkF m c] 7,.row 1 [b.F] 5],0,[]⟩)=zs (.ok .ret [(2,.int .i64 (F9 m c b.code[k]))] ⟨[],0,[]⟩):=by
 unfold Ig;have B:decide ((k:Int)<(b.code.length:Int))=zt:=by simp[h]
 have t:=fun K=>Bb (K:=K) (m:=m) (c:=c) (x:=b.code[k]) hT (D.2 _ (zqc h))
 simp_all [Ins.F, chkF, XP]
theorem NS:∃fr',evP ⟨A0,T,A2⟩ (.code Ig [(1,.ptr 0 0 0),(5,.ptr 1 0 0),(56,fslN (c.blocks.map Blk.F)),(57,.int .i64 (c.blocks.length:Int)),(58,.int .i64 (i:Int)),(63,fslN (b.code.map Ins.F)),(64,.int .i64 (b.code.length:Int)),(65,.int .i64 (b.code.length:Int))] ⟨[.row 1 [chkF m c] 7,.row 1 [b.F] 5],0,[]⟩)=zs (.ok (.exit 3) fr' ⟨[.row 1 [chkF m c] 7,.row 1 [b.F] 5],0,[]⟩)/\(lookP fr' 1=.ptr 0 0 0/\lookP fr' 5=.ptr 1 0 0/\lookP fr' 56=fslN (c.blocks.map Blk.F)/\lookP fr' 57=.int .i64 (c.blocks.length:Int)/\lookP fr' 58=.int .i64 (i:Int)):=by
 unfold Ig;have B:decide ((b.code.length:Int)<(b.code.length:Int))=zf:=by simp
 simp only[B,XP,seval];exact⟨_,rfl,rfl,rfl,rfl,rfl,rfl⟩
theorem cdi_l(hT:T 46=zs D1)(D:b.sok):
 (F5 (b.code.map (F9 m c))=0/\∃fr',evP ⟨A0,T,A2⟩ (.code (.loop Ig) [(1,.ptr 0 0 0),(5,.ptr 1 0 0),(56,fslN (c.blocks.map Blk.F)),(57,.int .i64 (c.blocks.length:Int)),(58,.int .i64 (i:Int)),(63,fslN (b.code.map Ins.F)),(64,.int .i64 (b.code.length:Int)),(65,.int .i64 0)] ⟨[.row 1 [chkF m c] 7,.row 1 [b.F] 5],0,[]⟩)=zs (.ok (.exit 3) fr' ⟨[.row 1 [chkF m c] 7,.row 1 [b.F] 5],0,[]⟩)/\(lookP fr' 1=.ptr 0 0 0/\lookP fr' 5=.ptr 1 0 0/\lookP fr' 56=fslN (c.blocks.map Blk.F)/\lookP fr' 57=.int .i64 (c.blocks.length:Int)/\lookP fr' 58=.int .i64 (i:Int)))\/
 (¬F5 (b.code.map (F9 m c))=0/\evP ⟨A0,T,A2⟩ (.code (.loop Ig) [(1,.ptr 0 0 0),(5,.ptr 1 0 0),(56,fslN (c.blocks.map Blk.F)),(57,.int .i64 (c.blocks.length:Int)),(58,.int .i64 (i:Int)),(63,fslN (b.code.map Ins.F)),(64,.int .i64 (b.code.length:Int)),(65,.int .i64 0)] ⟨[.row 1 [chkF m c] 7,.row 1 [b.F] 5],0,[]⟩)=zs (.ok .ret [(2,.int .i64 (F5 (b.code.map (F9 m c))))] ⟨[],0,[]⟩)):=by
 rcases err_loop (P:=⟨A0,T,A2⟩) (c:=Ig) (f:=F9 m c) (l:=b.code) (S:=fun k=>[(1,.ptr 0 0 0),(5,.ptr 1 0 0),(56,fslN (c.blocks.map Blk.F)),(57,.int .i64 (c.blocks.length:Int)),(58,.int .i64 (i:Int)),(63,fslN (b.code.map Ins.F)),(64,.int .i64 (b.code.length:Int)),(65,.int .i64 (k:Int))]) (K:=⟨[.row 1 [chkF m c] 7,.row 1 [b.F] 5],0,[]⟩) (Q:=fun fr'=>lookP fr' 1=.ptr 0 0 0/\lookP fr' 5=.ptr 1 0 0/\lookP fr' 56=fslN (c.blocks.map Blk.F)/\lookP fr' 57=.int .i64 (c.blocks.length:Int)/\lookP fr' 58=.int .i64 (i:Int)) (R:=fun e fr' K'=>fr'=[(2,.int .i64 e)]/\K'=⟨[],0,[]⟩)
  (fun k h B=>NQ hT h D B) (fun k h B=>⟨_,_,NR hT h D B,rfl,rfl⟩) NS with h|⟨h,fr',K',q,rfl,rfl⟩
 . exact .inl h
 grind
theorem NT(hT:T 46=zs D1)(hE:T 47=zs I6)(h:i<c.blocks.length)(H:c.sok)(B:Jt m c c.blocks[i]=0):
 evP ⟨A0,T,A2⟩ (.code Fk [(1,.ptr 0 0 0),(56,fslN (c.blocks.map Blk.F)),(57,.int .i64 (c.blocks.length:Int)),(58,.int .i64 (i:Int))] ⟨[.row 1 [chkF m c] 7],0,[]⟩)=zs (.ok .normal [(1,.ptr 0 0 0),(56,fslN (c.blocks.map Blk.F)),(57,.int .i64 (c.blocks.length:Int)),(58,.int .i64 ((i+1:Nat):Int))] ⟨[.row 1 [chkF m c] 7],0,[]⟩):=by
 have hb:=H.2 _ (zqc h);have D:decide ((i:Int)<(c.blocks.length:Int))=zt:=by simp[h]
 have I:=B7 (i:=i) (by have:=H.1.2.2;simp only[bigN]at this;omega);have hi:=A9 (F:=Blk.F) h;have t:=fun K=>Dv (K:=K) (m:=m) (c:=c) (e:=c.blocks[i].e) hE
 unfold Jt at B;rcases cdi_l (m:=m) (c:=c) (i:=i) hT hb with⟨q,fr',G,J,N,Q,U,V⟩|⟨q,G⟩
 . rw[if_pos q]at B
   rw[B]at t;unfold Fk;simp only[chkF,Blk.F,Endd.F]at G hi t|-;simp only[D,hi,I,G,J,N,Q,U,V,t,zqa,XP,seval]
 . rw[if_neg q]at B;exact absurd B q
theorem NU(hT:T 46=zs D1)(hE:T 47=zs I6)(h:i<c.blocks.length)(H:c.sok)(G:¬Jt m c c.blocks[i]=0):
 evP ⟨A0,T,A2⟩ (.code Fk [(1,.ptr 0 0 0),(56,fslN (c.blocks.map Blk.F)),(57,.int .i64 (c.blocks.length:Int)),(58,.int .i64 (i:Int))] ⟨[.row 1 [chkF m c] 7],0,[]⟩)=zs (.ok .ret [(2,.int .i64 (Jt m c c.blocks[i]))] ⟨[],0,[]⟩):=by
 have hb:=H.2 _ (zqc h);have B:decide ((i:Int)<(c.blocks.length:Int))=zt:=by simp[h]
 have hi:=A9 (F:=Blk.F) h;have t:=fun K=>Dv (K:=K) (m:=m) (c:=c) (e:=c.blocks[i].e) hE
 unfold Jt at G|-;rcases cdi_l (m:=m) (c:=c) (i:=i) hT hb with⟨q,fr',D,I,J,N,Q,U⟩|⟨q,D⟩
 . rw[if_pos q]at G|-
   unfold Fk;simp only[chkF,Blk.F,Endd.F]at D hi t|-;simp only[B,hi,D,I,J,N,Q,U,t,G,zqa,XP,seval]
 . rw[if_neg q]
   unfold Fk;simp only[chkF,Blk.F]at D hi|-;simp only[B,hi,D,zqa,XP,seval]
theorem NV:∃fr',evP ⟨A0,T,A2⟩ (.code Fk [(1,.ptr 0 0 0),(56,fslN (c.blocks.map Blk.F)),(57,.int .i64 (c.blocks.length:Int)),(58,.int .i64 (c.blocks.length:Int))] ⟨[.row 1 [chkF m c] 7],0,[]⟩)=zs (.ok (.exit 1) fr' ⟨[.row 1 [chkF m c] 7],0,[]⟩)/\True:=by
 unfold Fk;have B:decide ((c.blocks.length:Int)<(c.blocks.length:Int))=zf:=by simp
 simp only[B,XP,seval];grind
theorem Ef(B:T 46=zs D1)(G:T 47=zs I6)(H:T 45=zs D2)(U:T 56=zn)(N:T 44=zn){m:Modl}{c:Cod}(hk:c.sok):AM.Comes ⟨A0,T,A2⟩ 28 [chkF m c] [.int .i64 (M8 m c)]:=by
 refine⟨[.int .i64 (M8 m c)],⟨[],0,[]⟩,?_,back_of rfl zqb rfl rfl rfl⟩;rw[A4 (c:=TM) (nt:=84) (rs:=[.tmp 2]) rfl (by simp)];unfold TM;unfold K0;have hl:c.regs.length<=bigN:=by have:=hk.1.1;simp only[bigN]at this|-;omega
 have tc:=fun K=>Uq (l:=c.regs) H U N hl K
 have lp:=err_loop (P:=⟨A0,T,A2⟩) (c:=Fk) (f:=Jt m c) (l:=c.blocks) (S:=fun i=>[(1,.ptr 0 0 0),(56,fslN (c.blocks.map Blk.F)),(57,.int .i64 (c.blocks.length:Int)),(58,.int .i64 (i:Int))]) (K:=⟨[.row 1 [chkF m c] 7],0,[]⟩) (Q:=fun fr'=>True) (R:=fun e fr' K'=>fr'=[(2,.int .i64 e)]/\K'=⟨[],0,[]⟩)
  (fun k h hp=>NT B G h hk hp) (fun k h hp=>⟨_,_,NU B G h hk hp,rfl,rfl⟩) NV
 unfold M8;simp only[chkF]at tc lp|-;have I:decide ((400:Int)<(c.blocks.length:Int))=decide (400<c.blocks.length):=decide_eq_decide.2 (by omega);have D:decide ((4096:Int)<(c.regs.length:Int))=decide (4096<c.regs.length):=decide_eq_decide.2 (by omega);have J:decide ((c.blocks.length:Int)<1)=decide (c.blocks.length<1):=decide_eq_decide.2 (by omega);by_cases V:c.blocks.length<1
 . simp only[eq_true V,J,I,D,zqa,XP,seval]
 by_cases X:400<c.blocks.length
 . simp only[eq_false V,eq_true X,J,I,D,zqa,XP,seval]
 by_cases Y:4096<c.regs.length
 . simp only[eq_false V,eq_false X,eq_true Y,J,I,D,zqa,XP,seval]
 by_cases q4:c.ps<0
 . simp only[eq_false V,eq_false X,eq_false Y,eq_true q4,J,I,D,zqa,XP,seval]
 by_cases q5:(c.regs.length:Int)<c.ps
 . simp only[eq_false V,eq_false X,eq_false Y,eq_false q4,eq_true q5,J,I,D,zqa,XP,seval]
 by_cases q6:c.ty<0
 . simp only[eq_false V,eq_false X,eq_false Y,eq_false q4,eq_false q5,eq_true q6,J,I,D,zqa,XP,seval]
 by_cases q7:2<c.ty
 . simp only[eq_false V,eq_false X,eq_false Y,eq_false q4,eq_false q5,eq_false q6,eq_true q7,J,I,D,zqa,XP,seval]
 cases q8:(c.regs.any fun n=>!E8 n)with
 |true=>simp only[eq_false V,eq_false X,eq_false Y,eq_false q4,eq_false q5,eq_false q6,eq_false q7,tc,q8,J,I,D,zqa,XP,seval]
 |false=>
  rcases lp with⟨q,fr',h1,_⟩|⟨q,fr',K',h1,rfl,rfl⟩
  . have h1:evP ⟨A0,T,A2⟩ (.code (.loop Fk) [(1,.ptr 0 0 0),(56,fslN (c.blocks.map Blk.F)),(57,.int .i64 (c.blocks.length:Int)),(58,.int .i64 0)] _)=_:=h1
    simp only[eq_false V,eq_false X,eq_false Y,eq_false q4,eq_false q5,eq_false q6,eq_false q7,tc,q8,q,h1,J,I,D,zqa,XP,seval]
  . have h1:evP ⟨A0,T,A2⟩ (.code (.loop Fk) [(1,.ptr 0 0 0),(56,fslN (c.blocks.map Blk.F)),(57,.int .i64 (c.blocks.length:Int)),(58,.int .i64 0)] _)=_:=h1
    simp only[eq_false V,eq_false X,eq_false Y,eq_false q4,eq_false q5,eq_false q6,eq_false q7,tc,q8,h1,J,I,D,zqa,XP,seval]
def H3:=r9 (fun p:(Modl)×(Cod)=>[chkF p.1 p.2]) (fun p=>[.int .i64 (M8 p.1 p.2)]) (fun p=>p.2.sok)
theorem Ca(B:T 28=zs H3){m:Modl}{c:Cod}{K:PK}(D:c.sok):evP ⟨A0,T,A2⟩ (.call 28 [chkF m c] K)=zs (.val (openTs K.os.length [.int .i64 (M8 m c)]).1 ⟨K.os++(openTs K.os.length [.int .i64 (M8 m c)]).2,K.ext,K.tch⟩):=B8 B (by simp only[VV,XP,seval]) (C1 (a:=fun p:(Modl)×(Cod)=>[chkF p.1 p.2]) (r:=fun p=>[.int .i64 (M8 p.1 p.2)]) (fun x y e=>by simp_all [VJ]) (m,c) D) (by simp_all [XP])
theorem Ju(D:T 46=zs D1)(G:T 47=zs I6)(B:T 45=zs D2)(I:T 56=zn)(H:T 44=zn)(J:PEok ⟨A0,T,A2⟩):TC A0 28 H3:=C7 J fun p h=>Ef D G B I H h
end
section
variable {m:Modl}{c:Cod}{g:Glo}{i k:Nat}
def Uv(g:Glo):Int:=if E8 g.ty=zt then 0 else if g.ty=3 then(if g.size<1 then 6 else 0)else 6
def z6(m:Modl):Int:=idxOf (fun c:Cod=>decide (c.name=F1)) m.fs
def Uw(m:Modl):Int:=if z6 m<0 then 12 else if(codI m.fs (z6 m)).ty=1 then(if(codI m.fs (z6 m)).ps=0 then 0 else 12)else 12
def I7(m:Modl):Int:=if F5 (m.gs.map Uv)=0 then(if F5 (m.fs.map (M8 m))=0 then Uw m else F5 (m.fs.map (M8 m)))else F5 (m.gs.map Uv)
theorem NW(hT:T 27=zs O9)(h:i<m.gs.length)(J:m.gs.length<=bigN)(B:Uv m.gs[i]=0):
 evP ⟨A0,T,A2⟩ (.code Ic [(1,.ptr 0 0 0),(10,fslN (m.gs.map Glo.F)),(11,.int .i64 (m.gs.length:Int)),(12,.int .i64 (i:Int))] ⟨[.row 1 [m.F] 2],0,[]⟩)=zs (.ok .normal [(1,.ptr 0 0 0),(10,fslN (m.gs.map Glo.F)),(11,.int .i64 (m.gs.length:Int)),(12,.int .i64 ((i+1:Nat):Int))] ⟨[.row 1 [m.F] 2],0,[]⟩):=by
 unfold Ic;have D:decide ((i:Int)<(m.gs.length:Int))=zt:=by simp[h]
 have H:=B7 (i:=i) (by grind);have t:=fun K=>Jp (K:=K) (n:=m.gs[i].ty) hT
 have hi:=A9 (F:=Glo.F) h;unfold Uv at B;simp only[Glo.F,Modl.F]at t hi|-;cases q:E8 m.gs[i].ty with
 |true=>simp_all [XP]
 |false=>
  rw[q]at t B;by_cases G:m.gs[i].ty=3
  . simp_all [XP, eq_false]
  grind
theorem NX(hT:T 27=zs O9)(h:i<m.gs.length)(B:¬Uv m.gs[i]=0):
 evP ⟨A0,T,A2⟩ (.code Ic [(1,.ptr 0 0 0),(10,fslN (m.gs.map Glo.F)),(11,.int .i64 (m.gs.length:Int)),(12,.int .i64 (i:Int))] ⟨[.row 1 [m.F] 2],0,[]⟩)=zs (.ok .ret [(2,.int .i64 (Uv m.gs[i]))] ⟨[],0,[]⟩):=by
 unfold Ic;have D:decide ((i:Int)<(m.gs.length:Int))=zt:=by simp[h]
 have t:=fun K=>Jp (K:=K) (n:=m.gs[i].ty) hT
 have hi:=A9 (F:=Glo.F) h;unfold Uv at B|-;simp only[Glo.F,Modl.F]at t hi|-;cases q:E8 m.gs[i].ty with
 |true=>grind
 |false=>
  rw[q]at t B;by_cases G:m.gs[i].ty=3
  . by_cases H:m.gs[i].size<1
    . simp_all [XP]
    grind
  simp_all [XP]
theorem NY:∃fr',evP ⟨A0,T,A2⟩ (.code Ic [(1,.ptr 0 0 0),(10,fslN (m.gs.map Glo.F)),(11,.int .i64 (m.gs.length:Int)),(12,.int .i64 (m.gs.length:Int))] ⟨[.row 1 [m.F] 2],0,[]⟩)=zs (.ok (.exit 0) fr' ⟨[.row 1 [m.F] 2],0,[]⟩)/\lookP fr' 1=.ptr 0 0 0:=by
 unfold Ic;have B:decide ((m.gs.length:Int)<(m.gs.length:Int))=zf:=by simp
 simp only[B,XP,seval];exact⟨_,rfl,rfl⟩
theorem NZ(hT:T 28=zs H3)(h:i<m.fs.length)(D:m.ok)(G:M8 m m.fs[i]=0):
 evP ⟨A0,T,A2⟩ (.code Ie [(1,.ptr 0 0 0),(32,fslN (m.fs.map Cod.F)),(33,.int .i64 (m.fs.length:Int)),(34,.int .i64 (i:Int))] ⟨[.row 1 [m.F] 2],0,[]⟩)=zs (.ok .normal [(1,.ptr 0 0 0),(32,fslN (m.fs.map Cod.F)),(33,.int .i64 (m.fs.length:Int)),(34,.int .i64 ((i+1:Nat):Int))] ⟨[.row 1 [m.F] 2],0,[]⟩):=by
 unfold Ie;have B:decide ((i:Int)<(m.fs.length:Int))=zt:=by simp[h]
 have H:=B7 (i:=i) (by have:=D.2.1;grind);have t:=fun K=>Ca (K:=K) (m:=m) (c:=m.fs[i]) hT (D.1 _ (zqc h))
 simp_all [Cod.F, Modl.F, chkF, XP]
theorem OA(hT:T 28=zs H3)(h:i<m.fs.length)(D:m.ok)(G:¬M8 m m.fs[i]=0):
 evP ⟨A0,T,A2⟩ (.code Ie [(1,.ptr 0 0 0),(32,fslN (m.fs.map Cod.F)),(33,.int .i64 (m.fs.length:Int)),(34,.int .i64 (i:Int))] ⟨[.row 1 [m.F] 2],0,[]⟩)=zs (.ok .ret [(2,.int .i64 (M8 m m.fs[i]))] ⟨[],0,[]⟩):=by
 unfold Ie;have B:decide ((i:Int)<(m.fs.length:Int))=zt:=by simp[h]
 have t:=fun K=>Ca (K:=K) (m:=m) (c:=m.fs[i]) hT (D.1 _ (zqc h))
 simp_all [Cod.F, Modl.F, chkF, XP]
theorem OB:∃fr',evP ⟨A0,T,A2⟩ (.code Ie [(1,.ptr 0 0 0),(32,fslN (m.fs.map Cod.F)),(33,.int .i64 (m.fs.length:Int)),(34,.int .i64 (m.fs.length:Int))] ⟨[.row 1 [m.F] 2],0,[]⟩)=zs (.ok (.exit 2) fr' ⟨[.row 1 [m.F] 2],0,[]⟩)/\lookP fr' 1=.ptr 0 0 0:=by
 unfold Ie;have B:decide ((m.fs.length:Int)<(m.fs.length:Int))=zf:=by simp
 simp only[B,XP,seval];exact⟨_,rfl,rfl⟩
theorem xN{X:Type}{p:X->Bool}{l:List X}(h:¬idxOf p l<0):∃k:Nat,idxOf p l=k/\∃hk:k<l.length,p l[k]=zt:=by
 unfold idxOf at h|-;cases q:l.findIdx? p with
 |none=>grind
 |some i=>
  rw[zql]at q;grind
theorem Ux(D:T 27=zs O9)(B:T 28=zs H3)(G:T 26=zs M7){m:Modl}(Y:m.ok):AM.Comes ⟨A0,T,A2⟩ 10 [m.F] [.int .i64 (I7 m)]:=by
 refine⟨[.int .i64 (I7 m)],⟨[],0,[]⟩,?_,back_of rfl zqb rfl rfl rfl⟩;rw[A4 (c:=LF) (nt:=68) (rs:=[.tmp 2]) rfl (by simp)];unfold LF;unfold K0;have aa:m.gs.length<=bigN:=by have:=Y.2.2;simp only[bigN]at this|-;omega
 have ab:m.fs.length<=bigN:=by have:=Y.2.1;simp only[bigN]at this|-;omega
 have tm:=fun K=>Jq (K:=K) (m:=m) G ab
 have tm:∀K:PK,evP ⟨A0,T,A2⟩ (.call 26 [m.F] K)=zs (.val (openTs K.os.length [.int .i64 (z6 m)]).1 ⟨K.os++(openTs K.os.length [.int .i64 (z6 m)]).2,K.ext,K.tch⟩):=tm;have l1:=err_loop (P:=⟨A0,T,A2⟩) (c:=Ic) (f:=Uv) (l:=m.gs) (S:=fun i=>[(1,.ptr 0 0 0),(10,fslN (m.gs.map Glo.F)),(11,.int .i64 (m.gs.length:Int)),(12,.int .i64 (i:Int))]) (K:=⟨[.row 1 [m.F] 2],0,[]⟩) (Q:=fun fr'=>lookP fr' 1=.ptr 0 0 0) (R:=fun e fr' K'=>fr'=[(2,.int .i64 e)]/\K'=⟨[],0,[]⟩)
  (fun k h N=>NW D h aa N) (fun k h N=>⟨_,_,NX D h N,rfl,rfl⟩) NY
 have l2:=err_loop (P:=⟨A0,T,A2⟩) (c:=Ie) (f:=M8 m) (l:=m.fs) (S:=fun i=>[(1,.ptr 0 0 0),(32,fslN (m.fs.map Cod.F)),(33,.int .i64 (m.fs.length:Int)),(34,.int .i64 (i:Int))]) (K:=⟨[.row 1 [m.F] 2],0,[]⟩) (Q:=fun fr'=>lookP fr' 1=.ptr 0 0 0) (R:=fun e fr' K'=>fr'=[(2,.int .i64 e)]/\K'=⟨[],0,[]⟩)
  (fun k h N=>NZ B h Y N) (fun k h N=>⟨_,_,OA B h Y N,rfl,rfl⟩) OB
 unfold I7;simp only[Modl.F]at tm l1 l2|-;rcases l1 with⟨q,fr',H,V⟩|⟨q,fr',K',H,rfl,rfl⟩
 . have H:evP ⟨A0,T,A2⟩ (.code (.loop Ic) [(1,.ptr 0 0 0),(10,fslN (m.gs.map Glo.F)),(11,.int .i64 (m.gs.length:Int)),(12,.int .i64 0)] _)=_:=H
   rw[if_pos q];rcases l2 with⟨q2,ad,I,h4⟩|⟨q2,ad,K2,I,rfl,rfl⟩
   . have I:evP ⟨A0,T,A2⟩ (.code (.loop Ie) [(1,.ptr 0 0 0),(32,fslN (m.fs.map Cod.F)),(33,.int .i64 (m.fs.length:Int)),(34,.int .i64 0)] _)=_:=I
     rw[if_pos q2];unfold Uw;by_cases X:z6 m<0
     . simp only[H,V,I,h4,tm,eq_true X,zqa,XP,seval]
     . obtain ⟨k,U,ac,_⟩:=xN X
       have hi:=Mb ac;have U:z6 m=k:=U;have J:Pb Bl (fslN (m.fs.map Cod.F)) (.int .i64 (z6 m))=zs (.fptr (codI m.fs (z6 m)).F 0):=by
        rw[U];exact ix_fslN hi rfl
       simp only[Cod.F]at J;by_cases h5:(codI m.fs (z6 m)).ty=1
       . by_cases h6:(codI m.fs (z6 m)).ps=0
         . simp only[H,V,I,h4,tm,X,J,eq_true h5,eq_true h6,zqa,XP,seval]
         . simp only[H,V,I,h4,tm,X,J,eq_true h5,h6,zqa,XP,seval]
       . simp only[H,V,I,h4,tm,X,J,h5,zqa,XP,seval]
   . have I:evP ⟨A0,T,A2⟩ (.code (.loop Ie) [(1,.ptr 0 0 0),(32,fslN (m.fs.map Cod.F)),(33,.int .i64 (m.fs.length:Int)),(34,.int .i64 0)] _)=_:=I
     rw[if_neg q2];simp only[H,V,I,zqa,XP,seval]
 . have H:evP ⟨A0,T,A2⟩ (.code (.loop Ic) [(1,.ptr 0 0 0),(10,fslN (m.gs.map Glo.F)),(11,.int .i64 (m.gs.length:Int)),(12,.int .i64 0)] _)=_:=H
   rw[if_neg q];simp only[H,zqa,XP,seval]
def L4:=r9 (fun p:(Modl)=>[p.F]) (fun p=>[.int .i64 (I7 p)]) (fun p=>p.ok)
theorem tE(B:T 10=zs L4){m:Modl}{K:PK}(D:m.ok):evP ⟨A0,T,A2⟩ (.call 10 [m.F] K)=zs (.val (openTs K.os.length [.int .i64 (I7 m)]).1 ⟨K.os++(openTs K.os.length [.int .i64 (I7 m)]).2,K.ext,K.tch⟩):=B8 B (by simp only[VV,XP,seval]) (C1 (a:=fun p:(Modl)=>[p.F]) (r:=fun p=>[.int .i64 (I7 p)]) (fun x y e=>by simp_all [VJ]) (m) D) (by simp_all [XP])
theorem hH(D:T 27=zs O9)(B:T 28=zs H3)(G:T 26=zs M7)(H:PEok ⟨A0,T,A2⟩):TC A0 10 L4:=C7 H fun p h=>Ux D B G h
end
def Uy{A X ρ:Type}(f:A->X->A⊕ρ):A->List X->A⊕ρ
 |a,[]=>.inl a
 |a,x::l=>match f a x with | .inl a=>Uy f a l | .inr r=>.inr r
theorem mL{P:PE}{c:PC}{A X ρ:Type}{f:A->X->A⊕ρ}{l:List X}{S:Nat->A->PF}{K:A->PK}{x:Nat}{Q:A->PF->Prop}{R:ρ->PF->PK->Prop}
 (h1:∀i a B (h:i<l.length),f a l[i]=.inl B->evP P (.code c (S i a) (K a))=zs (.ok .normal (S (i+1) B) (K B)))
 (h2:∀i a r (h:i<l.length),f a l[i]=.inr r->∃fr' K',evP P (.code c (S i a) (K a))=zs (.ok .ret fr' K')/\R r fr' K')
 (hx:∀a,∃fr',evP P (.code c (S l.length a) (K a))=zs (.ok (.exit x) fr' (K a))/\Q a fr')(a:A):
 (∃B,Uy f a l=.inl B/\∃fr',evP P (.code (.loop c) (S 0 a) (K a))=zs (.ok (.exit x) fr' (K B))/\Q B fr')\/(∃r,Uy f a l=.inr r/\∃fr' K',evP P (.code (.loop c) (S 0 a) (K a))=zs (.ok .ret fr' K')/\R r fr' K'):=by
 have D:∀(n i:Nat)(a:A),l.length=i+n->(∃B,Uy f a (l.drop i)=.inl B/\∃fr',evP P (.code (.loop c) (S i a) (K a))=zs (.ok (.exit x) fr' (K B))/\Q B fr')\/(∃r,Uy f a (l.drop i)=.inr r/\∃fr' K',evP P (.code (.loop c) (S i a) (K a))=zs (.ok .ret fr' K')/\R r fr' K'):=fun n=>by
  induction n with
  |zero=>
   intro i a e;obtain rfl:i=l.length:=by omega
   obtain⟨fr',h,q⟩:=hx a;exact .inl ⟨a,by rw[zqh];rfl,fr',E3 h,q⟩
  |succ n J=>
   intro i a e;have hl:i<l.length:=by omega
   rw[zqi hl];unfold Uy;cases G:f a l[i]with
   |inl B=>rw[loop_more (h1 i a B hl G)];exact J (i+1) B (by omega)
   |inr r=>
    obtain⟨fr',K',H,I⟩:=h2 i a r hl G;exact .inr ⟨r,rfl,fr',K',Cp H,I⟩
 exact D l.length 0 a (by omega)
theorem Gt{P:PE}{c:PC}{A X:Type}{f:A->X->A}{l:List X}{S:Nat->A->PF}{K:A->PK}{x:Nat}{Q:A->PF->Prop}
 (h1:∀i a (h:i<l.length),evP P (.code c (S i a) (K a))=zs (.ok .normal (S (i+1) (f a l[i])) (K (f a l[i]))))
 (hx:∀a,∃fr',evP P (.code c (S l.length a) (K a))=zs (.ok (.exit x) fr' (K a))/\Q a fr')(a:A):
 ∃fr',evP P (.code (.loop c) (S 0 a) (K a))=zs (.ok (.exit x) fr' (K (l.foldl f a)))/\Q (l.foldl f a) fr':=by
 have B:∀(n i:Nat)(a:A),l.length=i+n->∃fr',evP P (.code (.loop c) (S i a) (K a))=zs (.ok (.exit x) fr' (K ((l.drop i).foldl f a)))/\Q ((l.drop i).foldl f a) fr':=fun n=>by
  induction n with
  |zero=>
   intro i a e;obtain rfl:i=l.length:=by omega
   obtain⟨fr',h,q⟩:=hx a;grind [E3]
  |succ n D=>
   intro i a e;have hl:i<l.length:=by omega
   rw[zqi hl,List.foldl_cons,loop_more (h1 i a hl)];exact D (i+1) _ (by omega)
 exact B l.length 0 a (by omega)
section
variable {m:Modl}{c:Cod}{i j k:Nat}{n:Int}
def Q3(a:Int)(n:Nat):Int:=IntKind.i64.wrap (a+(n:Int))
def OC(a:Int)(b:Blk):Int:=b.code.foldl (fun a x=>Q3 a x.args.length) (Q3 a b.code.length)
def LL(a:Int)(c:Cod):Int:=c.blocks.foldl OC (Q3 (Q3 a c.regs.length) c.blocks.length)
def UU(a:Int)(c:Cod):Int⊕Unit:=if 3000<LL a c then .inr ()else .inl (LL a c)
def t8(m:Modl):Bool:=if 20<m.gs.length then zt else if 12<m.fs.length then zt else if(m.gs.all fun g=>!decide (1024<g.size))=zt then(Uy UU 0 m.fs).isRight else zt
def xO(a:Int)(c:Cod):Int:=c.blocks.foldl (fun a b=>Q3 a b.code.length) (Q3 (Q3 a c.regs.length) c.blocks.length)
def R1(m:Modl):Bool:=if 1000<m.fs.foldl xO 0 then zt else if 12<m.fs.length then zt else if t8 m=zt then zt else !decide (I7 m=0)
theorem OD(h:i<m.gs.length)(G:m.gs.length<=bigN)(B:(!decide (1024<m.gs[i].size))=zt):evP ⟨A0,T,A2⟩ (.code If [(1,.ptr 0 0 0),(3,.int .i64 n),(4,.int .i64 (i:Int))] ⟨[.row 1 [m.F] 2],0,[]⟩)=zs (.ok .normal [(1,.ptr 0 0 0),(3,.int .i64 n),(4,.int .i64 ((i+1:Nat):Int))] ⟨[.row 1 [m.F] 2],0,[]⟩):=by
 unfold If;have D:decide ((i:Int)<(m.gs.length:Int))=zt:=by simp[h]
 have H:=B7 (i:=i) (by grind);simp_all [Glo.F, decide, Modl.F, XP]
theorem OE(h:i<m.gs.length)(B:(!decide (1024<m.gs[i].size))=zf):evP ⟨A0,T,A2⟩ (.code If [(1,.ptr 0 0 0),(3,.int .i64 n),(4,.int .i64 (i:Int))] ⟨[.row 1 [m.F] 2],0,[]⟩)=zs (.ok .ret [(2,.bool zt)] ⟨[],0,[]⟩):=by
 unfold If;have D:decide ((i:Int)<(m.gs.length:Int))=zt:=by simp[h]
 simp_all [Glo.F, Modl.F, XP]
theorem OF:∃fr',evP ⟨A0,T,A2⟩ (.code If [(1,.ptr 0 0 0),(3,.int .i64 n),(4,.int .i64 (m.gs.length:Int))] ⟨[.row 1 [m.F] 2],0,[]⟩)=zs (.ok (.exit 0) fr' ⟨[.row 1 [m.F] 2],0,[]⟩)/\(lookP fr' 1=.ptr 0 0 0/\lookP fr' 3=.int .i64 n):=by
 unfold If;have B:decide ((m.gs.length:Int)<(m.gs.length:Int))=zf:=by simp
 simp only[Modl.F];simp only[B,zqa,XP,seval];exact⟨_,rfl,rfl,rfl⟩
theorem OG(G:j<c.blocks.length)(H:k<c.blocks[j].code.length)(I:c.ok):evP ⟨A0,T,A2⟩ (.code Tn [(1,.ptr 0 0 0),(3,.int .i64 n),(5,.int .i64 (i:Int)),(6,.ptr 1 0 0),(7,.int .i64 (j:Int)),(8,.int .i64 (k:Int))] ⟨[.row 1 [m.F] 2,.row 1 [c.F] 5],0,[]⟩)=zs (.ok .normal [(1,.ptr 0 0 0),(3,.int .i64 (Q3 n c.blocks[j].code[k].args.length)),(5,.int .i64 (i:Int)),(6,.ptr 1 0 0),(7,.int .i64 (j:Int)),(8,.int .i64 ((k+1:Nat):Int))] ⟨[.row 1 [m.F] 2,.row 1 [c.F] 5],0,[]⟩):=by
 unfold Tn Q3;have hb:=I.2.1 _ (zqc G);have D:decide ((k:Int)<(c.blocks[j].code.length:Int))=zt:=by simp[H]
 have J:=B7 (i:=k) (by have:=hb.2;grind);simp_all [Blk.F, Ins.F, Modl.F, Cod.F, XP]
theorem OH(D:j<c.blocks.length):∃fr',evP ⟨A0,T,A2⟩ (.code Tn [(1,.ptr 0 0 0),(3,.int .i64 n),(5,.int .i64 (i:Int)),(6,.ptr 1 0 0),(7,.int .i64 (j:Int)),(8,.int .i64 (c.blocks[j].code.length:Int))] ⟨[.row 1 [m.F] 2,.row 1 [c.F] 5],0,[]⟩)=zs (.ok (.exit 6) fr' ⟨[.row 1 [m.F] 2,.row 1 [c.F] 5],0,[]⟩)/\(lookP fr' 1=.ptr 0 0 0/\lookP fr' 3=.int .i64 n/\lookP fr' 5=.int .i64 (i:Int)/\lookP fr' 6=.ptr 1 0 0/\lookP fr' 7=.int .i64 (j:Int)):=by
 unfold Tn;have B:decide ((c.blocks[j].code.length:Int)<(c.blocks[j].code.length:Int))=zf:=by simp
 have hi:=A9 (F:=Blk.F) D;simp only[Blk.F,Modl.F,Cod.F]at hi|-;simp only[B,hi,zqa,XP,seval];exact⟨_,rfl,rfl,rfl,rfl,rfl,rfl⟩
theorem OI(D:j<c.blocks.length)(H:c.ok):evP ⟨A0,T,A2⟩ (.code To [(1,.ptr 0 0 0),(3,.int .i64 n),(5,.int .i64 (i:Int)),(6,.ptr 1 0 0),(7,.int .i64 (j:Int))] ⟨[.row 1 [m.F] 2,.row 1 [c.F] 5],0,[]⟩)=zs (.ok .normal [(1,.ptr 0 0 0),(3,.int .i64 (OC n c.blocks[j])),(5,.int .i64 (i:Int)),(6,.ptr 1 0 0),(7,.int .i64 ((j+1:Nat):Int))] ⟨[.row 1 [m.F] 2,.row 1 [c.F] 5],0,[]⟩):=by
 have G:decide ((j:Int)<(c.blocks.length:Int))=zt:=by simp[D]
 have J:=B7 (i:=j) (by have:=H.2.2;grind);have hi:=A9 (F:=Blk.F) D;obtain⟨fr',B,N,I,U,V,X⟩:=Gt (P:=⟨A0,T,A2⟩) (c:=Tn) (f:=fun a (x:Ins)=>Q3 a x.args.length) (l:=c.blocks[j].code) (S:=fun k n=>[(1,.ptr 0 0 0),(3,.int .i64 n),(5,.int .i64 (i:Int)),(6,.ptr 1 0 0),(7,.int .i64 (j:Int)),(8,.int .i64 (k:Int))]) (K:=fun _=>⟨[.row 1 [m.F] 2,.row 1 [c.F] 5],0,[]⟩) (x:=6) (Q:=fun n fr'=>lookP fr' 1=.ptr 0 0 0/\lookP fr' 3=.int .i64 n/\lookP fr' 5=.int .i64 (i:Int)/\lookP fr' 6=.ptr 1 0 0/\lookP fr' 7=.int .i64 (j:Int)) (fun k a h=>OG D h H) (fun a=>OH D) (Q3 n c.blocks[j].code.length);have B:evP ⟨A0,T,A2⟩ (.code (.loop Tn) [(1,.ptr 0 0 0),(3,.int .i64 (Q3 n c.blocks[j].code.length)),(5,.int .i64 (i:Int)),(6,.ptr 1 0 0),(7,.int .i64 (j:Int)),(8,.int .i64 0)] ⟨[.row 1 [m.F] 2,.row 1 [c.F] 5],0,[]⟩)=_:=B;have hn:OC n c.blocks[j]=c.blocks[j].code.foldl (fun a x=>Q3 a x.args.length) (Q3 n c.blocks[j].code.length):=rfl;simp_all [To, Q3, Blk.F, Modl.F, Cod.F, XP]
theorem OJ:∃fr',evP ⟨A0,T,A2⟩ (.code To [(1,.ptr 0 0 0),(3,.int .i64 n),(5,.int .i64 (i:Int)),(6,.ptr 1 0 0),(7,.int .i64 (c.blocks.length:Int))] ⟨[.row 1 [m.F] 2,.row 1 [c.F] 5],0,[]⟩)=zs (.ok (.exit 4) fr' ⟨[.row 1 [m.F] 2,.row 1 [c.F] 5],0,[]⟩)/\(lookP fr' 1=.ptr 0 0 0/\lookP fr' 3=.int .i64 n/\lookP fr' 5=.int .i64 (i:Int)):=by
 unfold To;have B:decide ((c.blocks.length:Int)<(c.blocks.length:Int))=zf:=by simp
 simp only[Modl.F,Cod.F];simp only[B,zqa,XP,seval];exact⟨_,rfl,rfl,rfl,rfl⟩
theorem b6c(h:i<m.fs.length)(I:m.ok):(3000<LL n m.fs[i]->evP ⟨A0,T,A2⟩ (.code Ls [(1,.ptr 0 0 0),(3,.int .i64 n),(5,.int .i64 (i:Int))] ⟨[.row 1 [m.F] 2],0,[]⟩)=zs (.ok .ret [(2,.bool zt)] ⟨[],0,[]⟩))/\(¬3000<LL n m.fs[i]->evP ⟨A0,T,A2⟩ (.code Ls [(1,.ptr 0 0 0),(3,.int .i64 n),(5,.int .i64 (i:Int))] ⟨[.row 1 [m.F] 2],0,[]⟩)=zs (.ok .normal [(1,.ptr 0 0 0),(3,.int .i64 (LL n m.fs[i])),(5,.int .i64 ((i+1:Nat):Int))] ⟨[.row 1 [m.F] 2],0,[]⟩)):=by
 have hc:=(I.1 _ (zqc h)).1;have D:decide ((i:Int)<(m.fs.length:Int))=zt:=by simp[h]
 have U:=B7 (i:=i) (by have:=I.2.1;grind);have hi:=A9 (F:=Cod.F) h;generalize m.fs[i]=c at hc hi;obtain⟨fr',B,J,H,N⟩:=Gt (P:=⟨A0,T,A2⟩) (c:=To) (f:=OC) (l:=c.blocks) (S:=fun j n=>[(1,.ptr 0 0 0),(3,.int .i64 n),(5,.int .i64 (i:Int)),(6,.ptr 1 0 0),(7,.int .i64 (j:Int))]) (K:=fun _=>⟨[.row 1 [m.F] 2,.row 1 [c.F] 5],0,[]⟩) (x:=4) (Q:=fun n fr'=>lookP fr' 1=.ptr 0 0 0/\lookP fr' 3=.int .i64 n/\lookP fr' 5=.int .i64 (i:Int)) (fun k a h=>OI h hc) (fun a=>OJ) (Q3 (Q3 n c.regs.length) c.blocks.length);have B:evP ⟨A0,T,A2⟩ (.code (.loop To) [(1,.ptr 0 0 0),(3,.int .i64 (Q3 (Q3 n c.regs.length) c.blocks.length)),(5,.int .i64 (i:Int)),(6,.ptr 1 0 0),(7,.int .i64 0)] ⟨[.row 1 [m.F] 2,.row 1 [c.F] 5],0,[]⟩)=_:=B;have hn:LL n c=c.blocks.foldl OC (Q3 (Q3 n c.regs.length) c.blocks.length):=rfl;rw[<-hn]at H;unfold Ls;unfold Q3 at B;simp only[Modl.F,Cod.F]at hi B|-
 constructor
 . simp_all [XP]
 . intro G
   simp only[D,hi,B,J,H,N,U,G,zqa,XP,seval]
theorem OL:∃fr',evP ⟨A0,T,A2⟩ (.code Ls [(1,.ptr 0 0 0),(3,.int .i64 n),(5,.int .i64 (m.fs.length:Int))] ⟨[.row 1 [m.F] 2],0,[]⟩)=zs (.ok (.exit 2) fr' ⟨[.row 1 [m.F] 2],0,[]⟩)/\True:=by
 unfold Ls;have B:decide ((m.fs.length:Int)<(m.fs.length:Int))=zf:=by simp
 simp only[Modl.F];simp only[B,zqa,XP,seval];grind
theorem Qt  {m:Modl} (U:m.ok):AM.Comes ⟨A0,T,A2⟩ 13 [m.F] [.bool (t8 m)]:=by
 refine⟨[.bool (t8 m)],⟨[],0,[]⟩,?_,back_of rfl zqb rfl rfl rfl⟩;rw[A4 (c:=TA) (nt:=96) (rs:=[.tmp 2]) rfl (by simp)];unfold TA;unfold K0;have X:m.gs.length<=bigN:=by have:=U.2.2;simp only[bigN]at this|-;omega
 have l1:=Ut (P:=⟨A0,T,A2⟩) (c:=If) (p:=fun g:Glo=>!decide (1024<g.size)) (l:=m.gs) (S:=fun i=>[(1,.ptr 0 0 0),(3,.int .i64 0),(4,.int .i64 (i:Int))]) (K:=⟨[.row 1 [m.F] 2],0,[]⟩) (x:=0) (Q:=fun fr'=>lookP fr' 1=.ptr 0 0 0/\lookP fr' 3=.int .i64 0) (R:=fun fr' K'=>fr'=[(2,.bool zt)]/\K'=⟨[],0,[]⟩)
  (fun i h B=>OD h X B) (fun i h B=>⟨_,_,OE h B,rfl,rfl⟩) OF
 have l2:=mL (P:=⟨A0,T,A2⟩) (c:=Ls) (f:=UU) (l:=m.fs) (S:=fun i n=>[(1,.ptr 0 0 0),(3,.int .i64 n),(5,.int .i64 (i:Int))]) (K:=fun _=>⟨[.row 1 [m.F] 2],0,[]⟩) (x:=2) (Q:=fun n fr'=>True) (R:=fun r fr' K'=>fr'=[(2,.bool zt)]/\K'=⟨[],0,[]⟩)
  (fun i a a' h B=>by
    unfold UU at B;split at B
    . cases B
    . rename_i V
      cases B;exact(b6c h U).2 V) (fun i a r h B=>by
    unfold UU at B;split at B
    . rename_i V
      exact⟨_,_,(b6c h U).1 V,rfl,rfl⟩
    . cases B) (fun a=>OL) 0
 have D:decide ((20:Int)<(m.gs.length:Int))=decide (20<m.gs.length):=decide_eq_decide.2 (by omega);have G:decide ((12:Int)<(m.fs.length:Int))=decide (12<m.fs.length):=decide_eq_decide.2 (by omega);unfold t8;simp only[Modl.F]at l1 l2|-;by_cases H:20<m.gs.length
 . simp only[D,G,eq_true H,zqa,XP,seval]
 by_cases I:12<m.fs.length
 . simp only[D,G,H,eq_true I,zqa,XP,seval]
 rcases l1 with⟨q,fr',J,h2,h3⟩|⟨q,fr',K',J,rfl,rfl⟩
 . have J:evP ⟨A0,T,A2⟩ (.code (.loop If) [(1,.ptr 0 0 0),(3,.int .i64 0),(4,.int .i64 0)] _)=_:=J
   rcases l2 with⟨a',Y,aa,N,_⟩|⟨r,Y,aa,K2,N,rfl,rfl⟩
   . have N:evP ⟨A0,T,A2⟩ (.code (.loop Ls) [(1,.ptr 0 0 0),(3,.int .i64 0),(5,.int .i64 0)] _)=_:=N
     simp only[D,G,H,I,J,h2,h3,N,q,Y,Sum.isRight_inl,zqa,XP,seval]
   . have N:evP ⟨A0,T,A2⟩ (.code (.loop Ls) [(1,.ptr 0 0 0),(3,.int .i64 0),(5,.int .i64 0)] _)=_:=N
     simp only[D,G,H,I,J,h2,h3,N,q,Y,Sum.isRight_inr,zqa,XP,seval]
 . have J:evP ⟨A0,T,A2⟩ (.code (.loop If) [(1,.ptr 0 0 0),(3,.int .i64 0),(4,.int .i64 0)] _)=_:=J
   simp only[D,G,H,I,J,q,zqa,XP,seval]
def z7:=r9 (fun p:(Modl)=>[p.F]) (fun p=>[.bool (t8 p)]) (fun p=>p.ok)
theorem mM(B:T 13=zs z7){m:Modl}{K:PK}(D:m.ok):evP ⟨A0,T,A2⟩ (.call 13 [m.F] K)=zs (.val (openTs K.os.length [.bool (t8 m)]).1 ⟨K.os++(openTs K.os.length [.bool (t8 m)]).2,K.ext,K.tch⟩):=B8 B (by simp only[VV,XP,seval]) (C1 (a:=fun p:(Modl)=>[p.F]) (r:=fun p=>[.bool (t8 p)]) (fun x y e=>by simp_all [VJ]) (m) D) (by simp_all [XP])
theorem dB  (B:PEok ⟨A0,T,A2⟩):TC A0 13 z7:=C7 B fun p h=>Qt  h
end
section
variable {m:Modl}{c:Cod}{i j k:Nat}{n:Int}
theorem II(hi:i<m.fs.length)(D:j<m.fs[i].blocks.length)(I:m.fs[i].ok):evP ⟨A0,T,A2⟩ (.code lZ [(1,.ptr 0 0 0),(3,.int .i64 n),(4,.int .i64 (i:Int)),(5,.int .i64 (j:Int))] ⟨[.row 1 [m.F] 2],0,[]⟩)=zs (.ok .normal [(1,.ptr 0 0 0),(3,.int .i64 (Q3 n m.fs[i].blocks[j].code.length)),(4,.int .i64 (i:Int)),(5,.int .i64 ((j+1:Nat):Int))] ⟨[.row 1 [m.F] 2],0,[]⟩):=by
 unfold lZ Q3;have B:decide ((j:Int)<(m.fs[i].blocks.length:Int))=zt:=by simp[D]
 have J:=B7 (i:=j) (by have:=I.2.2;grind);simp_all [Cod.F, Blk.F, Modl.F, XP]
theorem IJ(hi:i<m.fs.length):∃fr',evP ⟨A0,T,A2⟩ (.code lZ [(1,.ptr 0 0 0),(3,.int .i64 n),(4,.int .i64 (i:Int)),(5,.int .i64 (m.fs[i].blocks.length:Int))] ⟨[.row 1 [m.F] 2],0,[]⟩)=zs (.ok (.exit 2) fr' ⟨[.row 1 [m.F] 2],0,[]⟩)/\(lookP fr' 1=.ptr 0 0 0/\lookP fr' 3=.int .i64 n/\lookP fr' 4=.int .i64 (i:Int)):=by
 unfold lZ;have B:decide ((m.fs[i].blocks.length:Int)<(m.fs[i].blocks.length:Int))=zf:=by simp
 have D:=A9 (F:=Cod.F) hi;simp only[Modl.F,Cod.F]at D|-;simp only[B,D,zqa,XP,seval];exact⟨_,rfl,rfl,rfl,rfl⟩
theorem IK(hi:i<m.fs.length)(G:m.ok):evP ⟨A0,T,A2⟩ (.code mA [(1,.ptr 0 0 0),(3,.int .i64 n),(4,.int .i64 (i:Int))] ⟨[.row 1 [m.F] 2],0,[]⟩)=zs (.ok .normal [(1,.ptr 0 0 0),(3,.int .i64 (xO n m.fs[i])),(4,.int .i64 ((i+1:Nat):Int))] ⟨[.row 1 [m.F] 2],0,[]⟩):=by
 have hc:=(G.1 _ (zqc hi)).1;have D:decide ((i:Int)<(m.fs.length:Int))=zt:=by simp[hi]
 have I:=B7 (i:=i) (by have:=G.2.1;grind);have hg:=A9 (F:=Cod.F) hi;obtain⟨fr',B,J,H,N⟩:=Gt (P:=⟨A0,T,A2⟩) (c:=lZ) (f:=fun a (b:Blk)=>Q3 a b.code.length) (l:=m.fs[i].blocks) (S:=fun j n=>[(1,.ptr 0 0 0),(3,.int .i64 n),(4,.int .i64 (i:Int)),(5,.int .i64 (j:Int))]) (K:=fun _=>⟨[.row 1 [m.F] 2],0,[]⟩) (x:=2) (Q:=fun n fr'=>lookP fr' 1=.ptr 0 0 0/\lookP fr' 3=.int .i64 n/\lookP fr' 4=.int .i64 (i:Int)) (fun k a h=>II hi h hc) (fun a=>IJ hi) (Q3 (Q3 n m.fs[i].regs.length) m.fs[i].blocks.length);have B:evP ⟨A0,T,A2⟩ (.code (.loop lZ) [(1,.ptr 0 0 0),(3,.int .i64 (Q3 (Q3 n m.fs[i].regs.length) m.fs[i].blocks.length)),(4,.int .i64 (i:Int)),(5,.int .i64 0)] ⟨[.row 1 [m.F] 2],0,[]⟩)=_:=B;have hn:xO n m.fs[i]=m.fs[i].blocks.foldl (fun a (b:Blk)=>Q3 a b.code.length) (Q3 (Q3 n m.fs[i].regs.length) m.fs[i].blocks.length):=rfl;simp_all [mA, Q3, Modl.F, Cod.F, XP]
theorem IL:∃fr',evP ⟨A0,T,A2⟩ (.code mA [(1,.ptr 0 0 0),(3,.int .i64 n),(4,.int .i64 (m.fs.length:Int))] ⟨[.row 1 [m.F] 2],0,[]⟩)=zs (.ok (.exit 0) fr' ⟨[.row 1 [m.F] 2],0,[]⟩)/\(lookP fr' 1=.ptr 0 0 0/\lookP fr' 3=.int .i64 n):=by
 unfold mA;have B:decide ((m.fs.length:Int)<(m.fs.length:Int))=zf:=by simp
 simp only[Modl.F];simp only[B,zqa,XP,seval];exact⟨_,rfl,rfl,rfl⟩
theorem Qu(B:T 13=zs z7)(D:T 10=zs L4){m:Modl}(V:m.ok):AM.Comes ⟨A0,T,A2⟩ 4 [m.F] [.bool (R1 m)]:=by
 refine⟨[.bool (R1 m)],⟨[],0,[]⟩,?_,back_of rfl zqb rfl rfl rfl⟩;rw[A4 (c:=p4) (nt:=71) (rs:=[.tmp 2]) rfl (by simp)];unfold p4;unfold K0;have X:=fun K=>mM (K:=K) B V
 have tc:=fun K=>tE (K:=K) D V
 obtain⟨fr',H,J,N⟩:=Gt (P:=⟨A0,T,A2⟩) (c:=mA) (f:=xO) (l:=m.fs) (S:=fun i n=>[(1,.ptr 0 0 0),(3,.int .i64 n),(4,.int .i64 (i:Int))]) (K:=fun _=>⟨[.row 1 [m.F] 2],0,[]⟩) (x:=0) (Q:=fun n fr'=>lookP fr' 1=.ptr 0 0 0/\lookP fr' 3=.int .i64 n) (fun k a h=>IK h V) (fun a=>IL) 0;have H:evP ⟨A0,T,A2⟩ (.code (.loop mA) [(1,.ptr 0 0 0),(3,.int .i64 0),(4,.int .i64 0)] ⟨[.row 1 [m.F] 2],0,[]⟩)=_:=H;have G:decide ((12:Int)<(m.fs.length:Int))=decide (12<m.fs.length):=decide_eq_decide.2 (by omega);unfold R1;simp only[Modl.F]at X tc H|-;by_cases U:1000<m.fs.foldl xO 0
 . simp_all [XP]
 by_cases I:12<m.fs.length
 . simp only[H,J,N,G,U,eq_true I,zqa,XP,seval]
 cases hb:t8 m with
 |true=>simp only[H,J,N,G,U,I,X,hb,zqa,XP,seval]
 |false=>simp only[H,J,N,G,U,I,X,hb,tc,zqa,XP,seval]
def S7:=r9 (fun p:(Modl)=>[p.F]) (fun p=>[.bool (R1 p)]) (fun p=>p.ok)
theorem Dm(B:T 4=zs S7){m:Modl}{K:PK}(D:m.ok):evP ⟨A0,T,A2⟩ (.call 4 [m.F] K)=zs (.val (openTs K.os.length [.bool (R1 m)]).1 ⟨K.os++(openTs K.os.length [.bool (R1 m)]).2,K.ext,K.tch⟩):=B8 B (by simp only[VV,XP,seval]) (C1 (a:=fun p:(Modl)=>[p.F]) (r:=fun p=>[.bool (R1 p)]) (fun x y e=>by simp_all [VJ]) (m) D) (by simp_all [XP])
theorem dC(B:T 13=zs z7)(D:T 10=zs L4)(G:PEok ⟨A0,T,A2⟩):TC A0 4 S7:=C7 G fun p h=>Qu B D h
end
def S0(k:Nat):Option (List AV->Option (List AV)):=zn
def S1:=exT S0 34 (gF ⟨A0,S0,A2⟩ 300 34)
def S2:=exT S1 16 (gF ⟨A0,S1,A2⟩ 300 16)
theorem hO:AM.Comes ⟨A0,S2,A2⟩ 5 [] [.bool zt]:=oB (n:=3000) (by kernel_rfl)
def M1:=r9 (fun p:Unit=>[]) (fun p=>[.bool zt]) (fun p=>True)
theorem w5(B:T 5=zs M1){K:PK}:evP ⟨A0,T,A2⟩ (.call 5 [] K)=zs (.val (openTs K.os.length [.bool zt]).1 ⟨K.os++(openTs K.os.length [.bool zt]).2,K.ext,K.tch⟩):=B8 B rfl (C1 (a:=fun p:Unit=>[]) (r:=fun p=>[.bool zt]) (fun x y e=>rfl) () trivial) rfl
theorem Uz(B:PEok ⟨A0,S0,A2⟩):TC A0 5 M1:=C7 (nZ (nZ B (BE B _ _)) (BE (nZ B (BE B _ _)) _ _)) fun p h=>hO
end Go.Proofs.AmEnv
set_option maxRecDepth 100000
namespace Go.AM
def mN(k:IntKind)(a b:Int):Int:=An k (Nat.land (modN a (pow2 k)) (modN b (pow2 k)))
def orK(k:IntKind)(a b:Int):Int:=An k (Nat.lor (modN a (pow2 k)) (modN b (pow2 k)))
def IM(k:IntKind)(a b:Int):Int:=An k (Nat.xor (modN a (pow2 k)) (modN b (pow2 k)))
theorem OM(fl:EqK)(k:IntKind)(a b:Int):J1 .and fl (.int k a) (.int k b)=zs (.int k (mN k a b)):=by
 show a8 (.int k a) (.int k b) (fun k a b=>x8 k (An k (Nat.land (modN a (pow2 k)) (modN b (pow2 k)))))=_;rw[X1,Ch];rfl
theorem A1g(fl:EqK)(k:IntKind)(a b:Int):J1 .or fl (.int k a) (.int k b)=zs (.int k (orK k a b)):=by
 show a8 (.int k a) (.int k b) (fun k a b=>x8 k (An k (Nat.lor (modN a (pow2 k)) (modN b (pow2 k)))))=_;rw[X1,Ch];rfl
theorem ON(fl:EqK)(k:IntKind)(a b:Int):J1 .xor fl (.int k a) (.int k b)=zs (.int k (IM k a b)):=by
 show a8 (.int k a) (.int k b) (fun k a b=>x8 k (An k (Nat.xor (modN a (pow2 k)) (modN b (pow2 k)))))=_;rw[X1,Ch];rfl
theorem xP(k:IntKind)(n:Nat):(bif Nat.ble n (J0 k)then n else J0 k)=min n (J0 k):=by
 grind [C0, zki]
theorem OO(fl:EqK)(k j:IntKind)(a:Int)(n:Nat):J1 .shl fl (.int k a) (.int j (n:Int))=zs (.int k (k.wrap (a*(2^(min n (J0 k)):Nat)))):=by
 show O5 k (a*Int.ofNat (Nat.pow 2 (bif Nat.ble n (J0 k)then n else J0 k)))=_
 rw[Z7,xP];rfl
theorem OP(fl:EqK)(k j:IntKind)(a:Int)(n:Nat):J1 .shr fl (.int k a) (.int j (n:Int))=zs (.int k (a.fdiv (2^(min n (J0 k)):Nat))):=by
 show x8 k (a.fdiv (Int.ofNat (Nat.pow 2 (bif Nat.ble n (J0 k)then n else J0 k))))=_
 rw[Ch,xP];rfl
theorem iA(b:Int)(e:Nat)(he:e<=32):mN .u64 (IntKind.wrap .u64 b) ((2^e-1:Nat):Int)=((b%(2^e:Nat)).toNat:Int):=by
 have hp:(0:Int)<18446744073709551616:=by omega
 have h2:(2:Nat)^e<=2^32:=Nat.pow_le_pow_right (by omega) he;have h3:0<2^e:=Nat.two_pow_pos e;have hdvd:(2^e) ∣ 18446744073709551616:=⟨2^(64-e),by rw[<-Nat.pow_add,show e+(64-e)=64 by omega]⟩
 have hw:IntKind.wrap .u64 b=b%18446744073709551616:=by simp[IntKind.wrap,IntKind.bits,IntKind.signed]
 have m1:(modN (IntKind.wrap .u64 b) (pow2 .u64):Int)=b%18446744073709551616:=by
  grind [pow2, Kz]
 have m2:(modN ((2^e-1:Nat):Int) (pow2 .u64):Int)=((2^e-1:Nat):Int):=by
  grind [pow2, Kz]
 unfold mN;have m2':modN ((2^e-1:Nat):Int) (pow2 .u64)=2^e-1:=by omega
 rw [m2'];have m3:Nat.land (modN (IntKind.wrap .u64 b) (pow2 .u64)) (2^e-1)=modN (IntKind.wrap .u64 b) (pow2 .u64)%2^e:=Nat.and_two_pow_sub_one_eq_mod _ _;rw[m3];have hlt:modN (IntKind.wrap .u64 b) (pow2 .u64)%2^e<2^e:=Nat.mod_lt _ h3;have hwr:∀m:Nat,m<18446744073709551616->An .u64 m=(m:Int):=fun m hm=>by
  unfold An;cases e:Nat.ble (half .u64) m with
  |false=>rfl
  |true=>
   have:=C0 e
   have hh:half .u64=18446744073709551616:=rfl;omega
 grind [pow2, Int.emod_emod_of_dvd, Int.natCast_dvd_natCast]
end Go.AM
namespace Go.Proofs.AmEnv
open Go Go.AM
variable {T:Nat->Option (List AV->Option (List AV))}
def f9(k:IntKind)(op:List UInt8)(a b:Int):Int×Int:=
 if b=0 then(0,1)
 else if op=[37]/\b=-1 then(0,0)
 else if op=[37]then(a.tmod b,0)
 else if b=-1 then(if a=0 then(k.wrap (a.tdiv b),0)else if k.wrap (0-a)=a then(0,2)else(k.wrap (a.tdiv b),0))else(k.wrap (a.tdiv b),0)
def z8(k:IntKind)(m:Int)(op:List UInt8)(a b:Int):Int:=
 if op=[43]then k.wrap (a+b)else if op=[45]then k.wrap (a-b)else if op=[42]then k.wrap (a*b)
 else if op=[38]then mN k a b else if op=[124]then orK k a b else if op=[94]then IM k a b
 else if op=[60,60]then k.wrap (a*(2^(min (b%m).toNat (J0 k)):Nat))else if op=[62,62]then a.fdiv (2^(min (b%m).toNat (J0 k)):Nat)
 else if op=[61,61]then(if a=b then 1 else 0)else if op=[33,61]then(if(!decide (a=b))=zt then 1 else 0)
 else if op=[60]then(if a<b then 1 else 0)else if op=[60,61]then(if a<=b then 1 else 0)
 else if op=[62]then(if b<a then 1 else 0)else if op=[62,61]then(if b<=a then 1 else 0)else 0
theorem OQ(b:Int):mN .u64 (IntKind.wrap .u64 b) (IntKind.wrap .u64 (IntKind.wrap .i64 (32-1)))=((b%32).toNat:Int):=by
 have:IntKind.wrap .u64 (IntKind.wrap .i64 (32-1))=((2^5-1:Nat):Int):=by decide
 rw[this];exact iA b 5 (by omega)
theorem OR(b:Int):mN .u64 (IntKind.wrap .u64 b) (IntKind.wrap .u64 (IntKind.wrap .i64 (64-1)))=((b%64).toNat:Int):=by
 have:IntKind.wrap .u64 (IntKind.wrap .i64 (64-1))=((2^6-1:Nat):Int):=by decide
 rw[this];exact iA b 6 (by omega)
variable {K:PK}{E:Env}
theorem Zs(t:Nat)(k:IntKind)(a:Int){b:Int}(h:¬b=0):Q6 E .quo t (.int k a) (.int k b) K=.val (.int k (k.wrap (a.tdiv b))) K:=by
 rw[bp _ _ rfl rfl];show Bp (a8 (.int k a) (.int k b) (fun k a b=>bif intEq b 0 then zn else O5 k (a.tdiv b))) K=_
 simp_all [Bp, X1, y0, beq_false_of_ne, Z7]
theorem xQ(t:Nat)(k:IntKind)(a:Int){b:Int}(h:¬b=0):Q6 E .rem t (.int k a) (.int k b) K=.val (.int k (a.tmod b)) K:=by
 rw[bp _ _ rfl rfl];show Bp (a8 (.int k a) (.int k b) (fun k a b=>bif intEq b 0 then zn else x8 k (a.tmod b))) K=_
 simp_all [Bp, X1, y0, beq_false_of_ne, Ch]
theorem pP(k:IntKind)(a:Int):Kp .neg (.int k a)=zs (.int k (k.wrap (0-a))):=Z7 k _
theorem J9(t:Nat)(k:IntKind)(a b:Int):Q6 E .and t (.int k a) (.int k b) K=.val (.int k (mN k a b)) K:=by rw[bp _ _ rfl rfl,OM];rfl
theorem b9(t:Nat)(k:IntKind)(a b:Int):Q6 E .or t (.int k a) (.int k b) K=.val (.int k (orK k a b)) K:=by rw[bp _ _ rfl rfl,A1g];rfl
theorem K5(t:Nat)(k:IntKind)(a b:Int):Q6 E .xor t (.int k a) (.int k b) K=.val (.int k (IM k a b)) K:=by rw[bp _ _ rfl rfl,ON];rfl
theorem K6(t:Nat)(k j:IntKind)(a:Int)(n:Nat):Q6 E .shl t (.int k a) (.int j (n:Int)) K=.val (.int k (k.wrap (a*(2^(min n (J0 k)):Nat)))) K:=by rw[bp _ _ rfl rfl,OO];rfl
theorem K7(t:Nat)(k j:IntKind)(a:Int)(n:Nat):Q6 E .shr t (.int k a) (.int j (n:Int)) K=.val (.int k (a.fdiv (2^(min n (J0 k)):Nat))) K:=by rw[bp _ _ rfl rfl,OP];rfl
theorem iB  {b:Bool}:AM.Comes ⟨A0,T,A2⟩ 77 [.bool b] [.int .i32 (if b=zt then 1 else 0)]:=by
 refine⟨[.int .i32 (if b=zt then 1 else 0)],⟨[],0,[]⟩,?_,back_of rfl zqb rfl rfl rfl⟩;rw[A4 (c:=US) (nt:=4) (rs:=[.tmp 2]) rfl (by simp)];unfold US;unfold K0;cases b<;>simp only[XP,seval]
def Va:=r9 (fun p:(Bool)=>[.bool p]) (fun p=>[.int .i32 (if p=zt then 1 else 0)]) (fun p=>True)
theorem IN(B:T 77=zs Va){b:Bool}{K:PK}:evP ⟨A0,T,A2⟩ (.call 77 [.bool b] K)=zs (.val (openTs K.os.length [.int .i32 (if b=zt then 1 else 0)]).1 ⟨K.os++(openTs K.os.length [.int .i32 (if b=zt then 1 else 0)]).2,K.ext,K.tch⟩):=B8 B (by simp_all [XP]) (C1 (a:=fun p:(Bool)=>[.bool p]) (r:=fun p=>[.int .i32 (if p=zt then 1 else 0)]) (by grind) (b) trivial) (by simp_all [XP])
theorem xR  (B:PEok ⟨A0,T,A2⟩):TC A0 77 Va:=C7 B fun p h=>iB
theorem Vb  {op:List UInt8} {a:Int} {b:Int}:AM.Comes ⟨A0,T,A2⟩ 71 [.str op,.int .i32 a,.int .i32 b] [.int .i32 (f9 .i32 op a b).1,.int .i64 (f9 .i32 op a b).2]:=by
 refine⟨[.int .i32 (f9 .i32 op a b).1,.int .i64 (f9 .i32 op a b).2],⟨[],0,[]⟩,?_,back_of rfl zqb rfl rfl rfl⟩;rw[A4 (c:=UN) (nt:=40) (rs:=[.tmp 6,.tmp 7]) rfl (by simp)];unfold UN;unfold K0;unfold f9;by_cases h0:b=0
 . simp_all [XP]
 by_cases D:op=[37]
 . by_cases B:b=-1
   . simp_all [XP]
   simp_all [XP, xQ]
 by_cases B:b=-1
 . by_cases G:a=0
   . simp_all [XP, Zs]
   . by_cases H:IntKind.wrap .i32 (0-a)=a
     . simp_all [XP, pP]
     simp_all [XP, pP, Zs]
 simp_all [XP, Zs]
def Cb:=r9 (fun p:(List UInt8)×(Int)×(Int)=>[.str p.1,.int .i32 p.2.1,.int .i32 p.2.2]) (fun p=>[.int .i32 (f9 .i32 p.1 p.2.1 p.2.2).1,.int .i64 (f9 .i32 p.1 p.2.1 p.2.2).2]) (fun p=>True)
theorem tF(B:T 71=zs Cb){op:List UInt8}{a:Int}{b:Int}{K:PK}:evP ⟨A0,T,A2⟩ (.call 71 [.str op,.int .i32 a,.int .i32 b] K)=zs (.val (openTs K.os.length [.int .i32 (f9 .i32 op a b).1,.int .i64 (f9 .i32 op a b).2]).1 ⟨K.os++(openTs K.os.length [.int .i32 (f9 .i32 op a b).1,.int .i64 (f9 .i32 op a b).2]).2,K.ext,K.tch⟩):=B8 B (by simp_all [XP]) (C1 (a:=fun p:(List UInt8)×(Int)×(Int)=>[.str p.1,.int .i32 p.2.1,.int .i32 p.2.2]) (r:=fun p=>[.int .i32 (f9 .i32 p.1 p.2.1 p.2.2).1,.int .i64 (f9 .i32 p.1 p.2.1 p.2.2).2]) (by grind) (op,a,b) trivial) (by simp_all [XP])
theorem iC  (B:PEok ⟨A0,T,A2⟩):TC A0 71 Cb:=C7 B fun p h=>Vb
theorem dD(V:T 77=zs Va){op:List UInt8}{a:Int}{b:Int}:AM.Comes ⟨A0,T,A2⟩ 72 [.str op,.int .i32 a,.int .i32 b,.int .i64 32] [.int .i32 (z8 .i32 32 op a b)]:=by
 refine⟨[.int .i32 (z8 .i32 32 op a b)],⟨[],0,[]⟩,?_,back_of rfl zqb rfl rfl rfl⟩;rw[A4 (c:=UO) (nt:=93) (rs:=[.tmp 8]) rfl (by simp)];unfold UO;unfold K0;have to:=fun b K=>IN (K:=K) (b:=b) V
 have B:=OQ b;unfold z8;by_cases D:op=[43]
 . simp_all [XP, B4, J9]
 by_cases G:op=[45]
 . simp_all [XP, B4, J9]
 by_cases H:op=[42]
 . simp_all [XP, B4, J9]
 by_cases J:op=[38]
 . simp_all [XP, B4, J9]
 by_cases N:op=[124]
 . simp_all [XP, B4, J9, b9]
 by_cases U:op=[94]
 . simp_all [XP, B4, J9, K5]
 by_cases X:op=[60,60]
 . simp only[B,B4,to,J9,b9,K5,K6,K7,D,G,H,J,N,U,eq_true X,XP,Nat.reduceAdd,Nat.reduceSub,Nat.reduceLT,Nat.reduceLeDiff,Nat.reduceEqDiff,Nat.reduceMul,↓reduceIte]
 by_cases h8:op=[62,62]
 . simp only[B,B4,to,J9,b9,K5,K6,K7,D,G,H,J,N,U,X,eq_true h8,XP,Nat.reduceAdd,Nat.reduceSub,Nat.reduceLT,Nat.reduceLeDiff,Nat.reduceEqDiff,Nat.reduceMul,↓reduceIte]
 by_cases h9:op=[61,61]
 . simp only[B,B4,to,J9,b9,K5,K6,K7,D,G,H,J,N,U,X,h8,eq_true h9,XP,Nat.reduceAdd,Nat.reduceSub,Nat.reduceLT,Nat.reduceLeDiff,Nat.reduceEqDiff,Nat.reduceMul,↓reduceIte]
 by_cases I:op=[33,61]
 . simp only[B,B4,to,J9,b9,K5,K6,K7,D,G,H,J,N,U,X,h8,h9,eq_true I,XP,Nat.reduceAdd,Nat.reduceSub,Nat.reduceLT,Nat.reduceLeDiff,Nat.reduceEqDiff,Nat.reduceMul,↓reduceIte]
 by_cases Q:op=[60]
 . simp only[B,B4,to,J9,b9,K5,K6,K7,D,G,H,J,N,U,X,h8,h9,I,eq_true Q,XP,Nat.reduceAdd,Nat.reduceSub,Nat.reduceLT,Nat.reduceLeDiff,Nat.reduceEqDiff,Nat.reduceMul,↓reduceIte]
 by_cases Y:op=[60,61]
 . simp only[B,B4,to,J9,b9,K5,K6,K7,D,G,H,J,N,U,X,h8,h9,I,Q,eq_true Y,XP,Nat.reduceAdd,Nat.reduceSub,Nat.reduceLT,Nat.reduceLeDiff,Nat.reduceEqDiff,Nat.reduceMul,↓reduceIte]
 by_cases aa:op=[62]
 . simp only[B,B4,to,J9,b9,K5,K6,K7,D,G,H,J,N,U,X,h8,h9,I,Q,Y,eq_true aa,XP,Nat.reduceAdd,Nat.reduceSub,Nat.reduceLT,Nat.reduceLeDiff,Nat.reduceEqDiff,Nat.reduceMul,↓reduceIte]
 by_cases ab:op=[62,61]
 . simp only[B,B4,to,J9,b9,K5,K6,K7,D,G,H,J,N,U,X,h8,h9,I,Q,Y,aa,eq_true ab,XP,Nat.reduceAdd,Nat.reduceSub,Nat.reduceLT,Nat.reduceLeDiff,Nat.reduceEqDiff,Nat.reduceMul,↓reduceIte]
 simp_all [XP, B4, J9]
def Me:=r9 (fun p:(List UInt8)×(Int)×(Int)=>[.str p.1,.int .i32 p.2.1,.int .i32 p.2.2,.int .i64 32]) (fun p=>[.int .i32 (z8 .i32 32 p.1 p.2.1 p.2.2)]) (fun p=>True)
theorem CE(B:T 72=zs Me){op:List UInt8}{a:Int}{b:Int}{K:PK}:evP ⟨A0,T,A2⟩ (.call 72 [.str op,.int .i32 a,.int .i32 b,.int .i64 32] K)=zs (.val (openTs K.os.length [.int .i32 (z8 .i32 32 op a b)]).1 ⟨K.os++(openTs K.os.length [.int .i32 (z8 .i32 32 op a b)]).2,K.ext,K.tch⟩):=B8 B (by simp_all [XP]) (C1 (a:=fun p:(List UInt8)×(Int)×(Int)=>[.str p.1,.int .i32 p.2.1,.int .i32 p.2.2,.int .i64 32]) (r:=fun p=>[.int .i32 (z8 .i32 32 p.1 p.2.1 p.2.2)]) (by grind) (op,a,b) trivial) (by simp_all [XP])
theorem tG(B:T 77=zs Va)(D:PEok ⟨A0,T,A2⟩):TC A0 72 Me:=C7 D fun p h=>dD B
theorem iD  {b:Bool}:AM.Comes ⟨A0,T,A2⟩ 78 [.bool b] [.int .i64 (if b=zt then 1 else 0)]:=by
 refine⟨[.int .i64 (if b=zt then 1 else 0)],⟨[],0,[]⟩,?_,back_of rfl zqb rfl rfl rfl⟩;rw[A4 (c:=UT) (nt:=4) (rs:=[.tmp 2]) rfl (by simp)];unfold UT;unfold K0;cases b<;>simp only[XP,seval]
def Vd:=r9 (fun p:(Bool)=>[.bool p]) (fun p=>[.int .i64 (if p=zt then 1 else 0)]) (fun p=>True)
theorem IP(B:T 78=zs Vd){b:Bool}{K:PK}:evP ⟨A0,T,A2⟩ (.call 78 [.bool b] K)=zs (.val (openTs K.os.length [.int .i64 (if b=zt then 1 else 0)]).1 ⟨K.os++(openTs K.os.length [.int .i64 (if b=zt then 1 else 0)]).2,K.ext,K.tch⟩):=B8 B (by simp_all [XP]) (C1 (a:=fun p:(Bool)=>[.bool p]) (r:=fun p=>[.int .i64 (if p=zt then 1 else 0)]) (by grind) (b) trivial) (by simp_all [XP])
theorem xS  (B:PEok ⟨A0,T,A2⟩):TC A0 78 Vd:=C7 B fun p h=>iD
theorem Ve  {op:List UInt8} {a:Int} {b:Int}:AM.Comes ⟨A0,T,A2⟩ 73 [.str op,.int .i64 a,.int .i64 b] [.int .i64 (f9 .i64 op a b).1,.int .i64 (f9 .i64 op a b).2]:=by
 refine⟨[.int .i64 (f9 .i64 op a b).1,.int .i64 (f9 .i64 op a b).2],⟨[],0,[]⟩,?_,back_of rfl zqb rfl rfl rfl⟩;rw[A4 (c:=UP) (nt:=40) (rs:=[.tmp 6,.tmp 7]) rfl (by simp)];unfold UP;unfold K0;unfold f9;by_cases h0:b=0
 . simp_all [XP]
 by_cases D:op=[37]
 . by_cases B:b=-1
   . simp_all [XP]
   simp_all [XP, xQ]
 by_cases B:b=-1
 . by_cases G:a=0
   . simp_all [XP, Zs]
   . by_cases H:IntKind.wrap .i64 (0-a)=a
     . simp_all [XP, pP]
     simp_all [XP, pP, Zs]
 simp_all [XP, Zs]
def Cc:=r9 (fun p:(List UInt8)×(Int)×(Int)=>[.str p.1,.int .i64 p.2.1,.int .i64 p.2.2]) (fun p=>[.int .i64 (f9 .i64 p.1 p.2.1 p.2.2).1,.int .i64 (f9 .i64 p.1 p.2.1 p.2.2).2]) (fun p=>True)
theorem tH(B:T 73=zs Cc){op:List UInt8}{a:Int}{b:Int}{K:PK}:evP ⟨A0,T,A2⟩ (.call 73 [.str op,.int .i64 a,.int .i64 b] K)=zs (.val (openTs K.os.length [.int .i64 (f9 .i64 op a b).1,.int .i64 (f9 .i64 op a b).2]).1 ⟨K.os++(openTs K.os.length [.int .i64 (f9 .i64 op a b).1,.int .i64 (f9 .i64 op a b).2]).2,K.ext,K.tch⟩):=B8 B (by simp_all [XP]) (C1 (a:=fun p:(List UInt8)×(Int)×(Int)=>[.str p.1,.int .i64 p.2.1,.int .i64 p.2.2]) (r:=fun p=>[.int .i64 (f9 .i64 p.1 p.2.1 p.2.2).1,.int .i64 (f9 .i64 p.1 p.2.1 p.2.2).2]) (by grind) (op,a,b) trivial) (by simp_all [XP])
theorem iE  (B:PEok ⟨A0,T,A2⟩):TC A0 73 Cc:=C7 B fun p h=>Ve
theorem dE(V:T 78=zs Vd){op:List UInt8}{a:Int}{b:Int}:AM.Comes ⟨A0,T,A2⟩ 74 [.str op,.int .i64 a,.int .i64 b,.int .i64 64] [.int .i64 (z8 .i64 64 op a b)]:=by
 refine⟨[.int .i64 (z8 .i64 64 op a b)],⟨[],0,[]⟩,?_,back_of rfl zqb rfl rfl rfl⟩;rw[A4 (c:=UQ) (nt:=93) (rs:=[.tmp 8]) rfl (by simp)];unfold UQ;unfold K0;have to:=fun b K=>IP (K:=K) (b:=b) V
 have B:=OR b;unfold z8;by_cases D:op=[43]
 . simp_all [XP, B4, J9]
 by_cases G:op=[45]
 . simp_all [XP, B4, J9]
 by_cases H:op=[42]
 . simp_all [XP, B4, J9]
 by_cases J:op=[38]
 . simp_all [XP, B4, J9]
 by_cases N:op=[124]
 . simp_all [XP, B4, J9, b9]
 by_cases U:op=[94]
 . simp_all [XP, B4, J9, K5]
 by_cases X:op=[60,60]
 . simp only[B,B4,to,J9,b9,K5,K6,K7,D,G,H,J,N,U,eq_true X,XP,Nat.reduceAdd,Nat.reduceSub,Nat.reduceLT,Nat.reduceLeDiff,Nat.reduceEqDiff,Nat.reduceMul,↓reduceIte]
 by_cases h8:op=[62,62]
 . simp only[B,B4,to,J9,b9,K5,K6,K7,D,G,H,J,N,U,X,eq_true h8,XP,Nat.reduceAdd,Nat.reduceSub,Nat.reduceLT,Nat.reduceLeDiff,Nat.reduceEqDiff,Nat.reduceMul,↓reduceIte]
 by_cases h9:op=[61,61]
 . simp only[B,B4,to,J9,b9,K5,K6,K7,D,G,H,J,N,U,X,h8,eq_true h9,XP,Nat.reduceAdd,Nat.reduceSub,Nat.reduceLT,Nat.reduceLeDiff,Nat.reduceEqDiff,Nat.reduceMul,↓reduceIte]
 by_cases I:op=[33,61]
 . simp only[B,B4,to,J9,b9,K5,K6,K7,D,G,H,J,N,U,X,h8,h9,eq_true I,XP,Nat.reduceAdd,Nat.reduceSub,Nat.reduceLT,Nat.reduceLeDiff,Nat.reduceEqDiff,Nat.reduceMul,↓reduceIte]
 by_cases Q:op=[60]
 . simp only[B,B4,to,J9,b9,K5,K6,K7,D,G,H,J,N,U,X,h8,h9,I,eq_true Q,XP,Nat.reduceAdd,Nat.reduceSub,Nat.reduceLT,Nat.reduceLeDiff,Nat.reduceEqDiff,Nat.reduceMul,↓reduceIte]
 by_cases Y:op=[60,61]
 . simp only[B,B4,to,J9,b9,K5,K6,K7,D,G,H,J,N,U,X,h8,h9,I,Q,eq_true Y,XP,Nat.reduceAdd,Nat.reduceSub,Nat.reduceLT,Nat.reduceLeDiff,Nat.reduceEqDiff,Nat.reduceMul,↓reduceIte]
 by_cases aa:op=[62]
 . simp only[B,B4,to,J9,b9,K5,K6,K7,D,G,H,J,N,U,X,h8,h9,I,Q,Y,eq_true aa,XP,Nat.reduceAdd,Nat.reduceSub,Nat.reduceLT,Nat.reduceLeDiff,Nat.reduceEqDiff,Nat.reduceMul,↓reduceIte]
 by_cases ab:op=[62,61]
 . simp only[B,B4,to,J9,b9,K5,K6,K7,D,G,H,J,N,U,X,h8,h9,I,Q,Y,aa,eq_true ab,XP,Nat.reduceAdd,Nat.reduceSub,Nat.reduceLT,Nat.reduceLeDiff,Nat.reduceEqDiff,Nat.reduceMul,↓reduceIte]
 simp_all [XP, B4, J9]
def Mf:=r9 (fun p:(List UInt8)×(Int)×(Int)=>[.str p.1,.int .i64 p.2.1,.int .i64 p.2.2,.int .i64 64]) (fun p=>[.int .i64 (z8 .i64 64 p.1 p.2.1 p.2.2)]) (fun p=>True)
theorem CF(B:T 74=zs Mf){op:List UInt8}{a:Int}{b:Int}{K:PK}:evP ⟨A0,T,A2⟩ (.call 74 [.str op,.int .i64 a,.int .i64 b,.int .i64 64] K)=zs (.val (openTs K.os.length [.int .i64 (z8 .i64 64 op a b)]).1 ⟨K.os++(openTs K.os.length [.int .i64 (z8 .i64 64 op a b)]).2,K.ext,K.tch⟩):=B8 B (by simp_all [XP]) (C1 (a:=fun p:(List UInt8)×(Int)×(Int)=>[.str p.1,.int .i64 p.2.1,.int .i64 p.2.2,.int .i64 64]) (r:=fun p=>[.int .i64 (z8 .i64 64 p.1 p.2.1 p.2.2)]) (by grind) (op,a,b) trivial) (by simp_all [XP])
theorem tI(B:T 78=zs Vd)(D:PEok ⟨A0,T,A2⟩):TC A0 74 Mf:=C7 D fun p h=>dE B
def K8(k:IntKind)(m:Int)(op:List UInt8)(a b:Int):Int×Int:=if op=[47]then f9 k op a b else if op=[37]then f9 k op a b else(z8 k m op a b,0)
def r6(t:Int)(op:List UInt8)(a b:Int):Int×Int:=
 if t=1 then(IntKind.wrap .i64 (K8 .i32 32 op (IntKind.wrap .i32 a) (IntKind.wrap .i32 b)).1,(K8 .i32 32 op (IntKind.wrap .i32 a) (IntKind.wrap .i32 b)).2)
 else if t=2 then K8 .i64 64 op a b else(0,0)
theorem iF(B:T 71=zs Cb)(D:T 72=zs Me){op:List UInt8}{a:Int}{b:Int}:AM.Comes ⟨A0,T,A2⟩ 62 [.str op,.int .i32 a,.int .i32 b,.int .i64 32] [.int .i64 (IntKind.wrap .i64 (K8 .i32 32 op a b).1),.int .i64 (K8 .i32 32 op a b).2]:=by
 refine⟨[.int .i64 (IntKind.wrap .i64 (K8 .i32 32 op a b).1),.int .i64 (K8 .i32 32 op a b).2],⟨[],0,[]⟩,?_,back_of rfl zqb rfl rfl rfl⟩;rw[A4 (c:=UF) (nt:=34) (rs:=[.tmp 8,.tmp 9]) rfl (by simp)];unfold UF;unfold K0;have G:=fun K=>tF (K:=K) (op:=op) (a:=a) (b:=b) B
 have te:=fun K=>CE (K:=K) (op:=op) (a:=a) (b:=b) D
 unfold K8;by_cases H:op=[47]
 . simp only[G,te,B4,eq_true H,XP,seval]
 by_cases I:op=[37]
 . simp only[G,te,B4,H,eq_true I,XP,seval]
 simp only[G,te,B4,H,I,XP,seval]
def Vf:=r9 (fun p:(List UInt8)×(Int)×(Int)=>[.str p.1,.int .i32 p.2.1,.int .i32 p.2.2,.int .i64 32]) (fun p=>[.int .i64 (IntKind.wrap .i64 (K8 .i32 32 p.1 p.2.1 p.2.2).1),.int .i64 (K8 .i32 32 p.1 p.2.1 p.2.2).2]) (fun p=>True)
theorem IR(B:T 62=zs Vf){op:List UInt8}{a:Int}{b:Int}{K:PK}:evP ⟨A0,T,A2⟩ (.call 62 [.str op,.int .i32 a,.int .i32 b,.int .i64 32] K)=zs (.val (openTs K.os.length [.int .i64 (IntKind.wrap .i64 (K8 .i32 32 op a b).1),.int .i64 (K8 .i32 32 op a b).2]).1 ⟨K.os++(openTs K.os.length [.int .i64 (IntKind.wrap .i64 (K8 .i32 32 op a b).1),.int .i64 (K8 .i32 32 op a b).2]).2,K.ext,K.tch⟩):=B8 B (by simp_all [XP]) (C1 (a:=fun p:(List UInt8)×(Int)×(Int)=>[.str p.1,.int .i32 p.2.1,.int .i32 p.2.2,.int .i64 32]) (r:=fun p=>[.int .i64 (IntKind.wrap .i64 (K8 .i32 32 p.1 p.2.1 p.2.2).1),.int .i64 (K8 .i32 32 p.1 p.2.1 p.2.2).2]) (by grind) (op,a,b) trivial) (by simp_all [XP])
theorem xT(B:T 71=zs Cb)(D:T 72=zs Me)(G:PEok ⟨A0,T,A2⟩):TC A0 62 Vf:=C7 G fun p h=>iF B D
theorem iG(B:T 73=zs Cc)(D:T 74=zs Mf){op:List UInt8}{a:Int}{b:Int}:AM.Comes ⟨A0,T,A2⟩ 63 [.str op,.int .i64 a,.int .i64 b,.int .i64 64] [.int .i64 (K8 .i64 64 op a b).1,.int .i64 (K8 .i64 64 op a b).2]:=by
 refine⟨[.int .i64 (K8 .i64 64 op a b).1,.int .i64 (K8 .i64 64 op a b).2],⟨[],0,[]⟩,?_,back_of rfl zqb rfl rfl rfl⟩;rw[A4 (c:=UG) (nt:=32) (rs:=[.tmp 8,.tmp 9]) rfl (by simp)];unfold UG;unfold K0;have G:=fun K=>tH (K:=K) (op:=op) (a:=a) (b:=b) B
 have te:=fun K=>CF (K:=K) (op:=op) (a:=a) (b:=b) D
 unfold K8;by_cases H:op=[47]
 . simp only[G,te,B4,eq_true H,XP,seval]
 by_cases I:op=[37]
 . simp only[G,te,B4,H,eq_true I,XP,seval]
 simp only[G,te,B4,H,I,XP,seval]
def Vh:=r9 (fun p:(List UInt8)×(Int)×(Int)=>[.str p.1,.int .i64 p.2.1,.int .i64 p.2.2,.int .i64 64]) (fun p=>[.int .i64 (K8 .i64 64 p.1 p.2.1 p.2.2).1,.int .i64 (K8 .i64 64 p.1 p.2.1 p.2.2).2]) (fun p=>True)
theorem IS(B:T 63=zs Vh){op:List UInt8}{a:Int}{b:Int}{K:PK}:evP ⟨A0,T,A2⟩ (.call 63 [.str op,.int .i64 a,.int .i64 b,.int .i64 64] K)=zs (.val (openTs K.os.length [.int .i64 (K8 .i64 64 op a b).1,.int .i64 (K8 .i64 64 op a b).2]).1 ⟨K.os++(openTs K.os.length [.int .i64 (K8 .i64 64 op a b).1,.int .i64 (K8 .i64 64 op a b).2]).2,K.ext,K.tch⟩):=B8 B (by simp_all [XP]) (C1 (a:=fun p:(List UInt8)×(Int)×(Int)=>[.str p.1,.int .i64 p.2.1,.int .i64 p.2.2,.int .i64 64]) (r:=fun p=>[.int .i64 (K8 .i64 64 p.1 p.2.1 p.2.2).1,.int .i64 (K8 .i64 64 p.1 p.2.1 p.2.2).2]) (by grind) (op,a,b) trivial) (by simp_all [XP])
theorem xU(B:T 73=zs Cc)(D:T 74=zs Mf)(G:PEok ⟨A0,T,A2⟩):TC A0 63 Vh:=C7 G fun p h=>iG B D
theorem Vi(B:T 62=zs Vf)(D:T 63=zs Vh){t:Int}{op:List UInt8}{a:Int}{b:Int}:AM.Comes ⟨A0,T,A2⟩ 52 [.int .i64 t,.str op,.int .i64 a,.int .i64 b] [.int .i64 (r6 t op a b).1,.int .i64 (r6 t op a b).2]:=by
 refine⟨[.int .i64 (r6 t op a b).1,.int .i64 (r6 t op a b).2],⟨[],0,[]⟩,?_,back_of rfl zqb rfl rfl rfl⟩;rw[A4 (c:=TX) (nt:=29) (rs:=[.tmp 8,.tmp 9]) rfl (by simp)];unfold TX;unfold K0;have G:=fun K=>IR (K:=K) (op:=op) (a:=IntKind.wrap .i32 a) (b:=IntKind.wrap .i32 b) B
 have H:=fun K=>IS (K:=K) (op:=op) (a:=a) (b:=b) D
 unfold r6;by_cases I:t=1
 . simp only[G,H,B4,eq_true I,XP,seval]
 by_cases J:t=2
 . simp only[G,H,B4,I,eq_true J,XP,seval]
 simp only[G,H,B4,I,J,XP,seval]
def Y8:=r9 (fun p:(Int)×(List UInt8)×(Int)×(Int)=>[.int .i64 p.1,.str p.2.1,.int .i64 p.2.2.1,.int .i64 p.2.2.2]) (fun p=>[.int .i64 (r6 p.1 p.2.1 p.2.2.1 p.2.2.2).1,.int .i64 (r6 p.1 p.2.1 p.2.2.1 p.2.2.2).2]) (fun p=>True)
theorem Zt(B:T 52=zs Y8){t:Int}{op:List UInt8}{a:Int}{b:Int}{K:PK}:evP ⟨A0,T,A2⟩ (.call 52 [.int .i64 t,.str op,.int .i64 a,.int .i64 b] K)=zs (.val (openTs K.os.length [.int .i64 (r6 t op a b).1,.int .i64 (r6 t op a b).2]).1 ⟨K.os++(openTs K.os.length [.int .i64 (r6 t op a b).1,.int .i64 (r6 t op a b).2]).2,K.ext,K.tch⟩):=B8 B (by simp_all [XP]) (C1 (a:=fun p:(Int)×(List UInt8)×(Int)×(Int)=>[.int .i64 p.1,.str p.2.1,.int .i64 p.2.2.1,.int .i64 p.2.2.2]) (r:=fun p=>[.int .i64 (r6 p.1 p.2.1 p.2.2.1 p.2.2.2).1,.int .i64 (r6 p.1 p.2.1 p.2.2.1 p.2.2.2).2]) (by grind) (t,op,a,b) trivial) (by simp_all [XP])
theorem iH(B:T 62=zs Vf)(D:T 63=zs Vh)(G:PEok ⟨A0,T,A2⟩):TC A0 52 Y8:=C7 G fun p h=>Vi B D
section
variable {K:PK}{fr:PF}{x:Operand}{v:AV}
theorem Zu:prim A0 (.makeInterface 73 x) fr K=.val (.iface 73 (opvP A0 x fr)) K:=rfl
theorem OS(u:Nat):prim A0 (.typeAssert x u 73 zf) fr K=Bp (Kt 73 (opvP A0 x fr)) K:=rfl
theorem A1h:Kt 73 (.iface 73 v)=zs v:=rfl
theorem GB(t:Nat):Q6 A0 .neq 20 (.iface t v) .niliface K=.val (.bool zt) K:=by rw[bp _ _ rfl rfl];rfl
theorem GC:Q6 A0 .neq 20 .niliface .niliface K=.val (.bool zf) K:=by rw[bp _ _ rfl rfl];rfl
theorem xV:opvP A0 (.const .nilIface) fr=.niliface:=rfl
end
structure Mst where
 steps:Int
 input:List Int
 data:List (List Int)
 out:List Int
 calls:Int
def mB(m:Modl)(s:Mst)(d o:AV):AV:=.agg [fslN (m.gs.map Glo.F),fslN (m.fs.map Cod.F),fslN (ints s.input),.int .i64 s.steps,d,o,.int .i64 0,.int .i64 0,.int .i64 s.calls]
def E2(st c:Int):AV:=.iface 73 (.agg [.int .i64 st,.int .i64 c])
theorem Aa{K:PK}{n:Nat}{l:List XOp}(B:(K.tch.all fun i=>decide (n<=i))=zf)(D:(l.all fun o=>!o.careful)=zf):r8 n l K=zf:=by grind [r8]
theorem Bc{n:Int}(h1:-9223372036854775808<=n)(h2:n<=9223372036854775807):IntKind.wrap .i64 n=n:=by
 rw[IntKind.wrap_i64];omega
theorem OT{K:PK}{n:Int}{l:List Int}:Bp (Oj A0 (.slice 3) (zs (.int .i64 1)) zn zn (fslN (ints (n::l)))) K=.val (fslN (ints l)) K:=by
 show Bp ((Ja 1 (ints (n::l)) zf (zs (.int .i64 1)) zn zn).map fun y=>match y with | .fsl l _=>AV.fsl l l.isEmpty|y=>y) K=_
 show Bp ((B3 (Nat.ble 1 (lenL (ints (n::l)))&&Nat.ble (lenL (ints (n::l))) (lenL (ints (n::l)))&&Nat.ble (lenL (ints (n::l))) (lenL (ints (n::l)))&&zt) (zs (AV.fsl (takeL (dropL (ints (n::l)) 1) (Nat.sub (lenL (ints (n::l))) 1)) (zf&&Nat.beq (lenL (ints (n::l))) (lenL (ints (n::l))))))).map fun y=>match y with | .fsl l _=>AV.fsl l l.isEmpty|y=>y) K=_
 rw[A5,zki (show 1<=(ints (n::l)).length by simp),zki (Nat.le_refl _),G8,G7];show OpS.val (.fsl (((ints (n::l)).drop 1).take ((ints (n::l)).length-1)) (((ints (n::l)).drop 1).take ((ints (n::l)).length-1)).isEmpty) K=_
 rw[zqs (by simp)];rfl
section
variable {m:Modl}{s:Mst}{d o:AV}{rest:List PO}{ext:Nat}{tch:List Nat}
theorem w6(hN:T 39=zn)(h:1<=s.steps)(hs:s.steps<=20000):evP ⟨A0,T,A2⟩ (.call 39 [.ptr 0 0 0] ⟨(.row 1 [mB m s d o] 9::rest),ext,tch⟩)=zs (.val [] ⟨.row 1 [mB m {s with steps:=s.steps-1} d o] 9::rest,ext,[0]++tch⟩):=by
 have B:¬s.steps<1:=by omega
 rw[Bh hN rfl];rw[A4 (c:=LI) (nt:=16) (rs:=[]) rfl (by simp)];unfold LI;unfold mB;have D:=Bc (n:=s.steps-1) (by omega) (by omega);simp only[B,D,Zu,XP,seval]
theorem pQ(hN:T 39=zn)(h:¬1<=s.steps):evP ⟨A0,T,A2⟩ (.call 39 [.ptr 0 0 0] ⟨(.row 1 [mB m s d o] 9::rest),ext,tch⟩)=zs (.pan (E2 3 0) ⟨(.row 1 [mB m s d o] 9::rest),ext,tch⟩):=by
 have B:s.steps<1:=by omega
 rw[Bh hN rfl];rw[A4 (c:=LI) (nt:=16) (rs:=[]) rfl (by simp)];simp_all [LI, mB, E2, XP, Zu]
theorem CG(hN:T 38=zn){K:PK}:evP ⟨A0,T,A2⟩ (.call 38 [.int .i64 0] K)=zs (.val [] K):=by
 rw[Bh hN rfl];rw[A4 (c:=LH) (nt:=7) (rs:=[]) rfl (by simp)];simp_all [LH, XP]
theorem Rn(hN:T 38=zn){K:PK}{t:Int}(h:¬t=0):evP ⟨A0,T,A2⟩ (.call 38 [.int .i64 t] K)=zs (.pan (E2 2 t) K):=by
 rw[Bh hN rfl];rw[A4 (c:=LH) (nt:=7) (rs:=[]) rfl (by simp)];simp_all [LH, E2, XP, Zu]
theorem IT(hN:T 55=zn)(h:s.input=[]):evP ⟨A0,T,A2⟩ (.call 55 [.ptr 0 0 0] ⟨(.row 1 [mB m s d o] 9::rest),ext,tch⟩)=zs (.val [.int .i64 0] ⟨(.row 1 [mB m s d o] 9::rest),ext,tch⟩):=by
 rw[Bh hN rfl];rw[A4 (c:=LK) (nt:=25) (rs:=[.tmp 2]) rfl (by simp)];unfold LK;unfold mB;have B:decide (((ints []).length:Int)=0)=zt:=rfl;simp_all [XP]
theorem IU(hN:T 55=zn){n:Int}{l:List Int}(h:s.input=n::l):evP ⟨A0,T,A2⟩ (.call 55 [.ptr 0 0 0] ⟨(.row 1 [mB m s d o] 9::rest),ext,tch⟩)=zs (.val [.int .i64 n] ⟨.row 1 [mB m {s with input:=l} d o] 9::rest,ext,[0]++tch⟩):=by
 rw[Bh hN rfl];rw[A4 (c:=LK) (nt:=25) (rs:=[.tmp 2]) rfl (by simp)];unfold LK;unfold mB;have B:decide (((ints (n::l)).length:Int)=0)=zf:=by simp;omega
 have hi:Pb ty3 (fslN (ints (n::l))) (.int .i64 0)=zs (.fptr (.int .i64 n) 0):=ix_fslN (i:=0) rfl rfl;simp only[h,B,hi,OT,Zu,XP,seval]
end
abbrev at'(l:List Int)(i:Int):Int:=l.getD i.toNat 0
abbrev put'(l:List Int)(i v:Int):List Int:=l.set i.toNat v
theorem N5{r:List Int}{d:Nat}{v:Int}:(ints r).set d (.int .i64 v)=ints (r.set d v):=by
 simp_all
def rowO(l:List Int):AV:=ownd 0 1 (ints l)
theorem iI{l:List (List Int)}{i:Nat}{v:List Int}:(l.map rowO).set i (ownd 0 1 (ints v))=(l.set i v).map rowO:=by rw[List.map_set];rfl
theorem Cd{l:List (List Int)}{i:Nat}(h:i<l.length):(l.map rowO)[i]?=zs (ownd 0 1 (ints l[i])):=by rw[zqj,zqd h];rfl
theorem thereD_iff{a n:Int}:thereD a n=zt↔0<=a/\a<n:=by unfold thereD;simp
theorem xW(k sz o:Nat)(es:List AV)(c:AV):putCl (ownd k sz es) o c=c:=rfl
theorem xX{l:List Int}{v:Int}:ints l++[.int .i64 v]=ints (l++[v]):=by simp[ints]
theorem gD{l:List Int}{i:Nat}(h:i<l.length):l.getD i 0=l[i]:=by simp[zqn,h]
theorem LM{l:List (List Int)}{i:Nat}(h:i<l.length):l.getD i []=l[i]:=by simp[zqn,h]
theorem GD{l:List Glo}{i:Nat}{g:Glo}(h:i<l.length):l.getD i g=l[i]:=by simp[zqn,h]
def dA(f:Bool)(i:Nat)(s:Mst):AV:=match f with|true=>.msl i 0 s.data.length 1|false=>.nilsl
def dR(f:Bool)(s:Mst):List PO:=match f with|true=>[.row 0 (s.data.map rowO) 1]|false=>[]
def oA(f n:Bool)(i:Nat)(o:List Int):AV:=match f,n with|false,zf=>.nilsl|false,zt=>.msl i 0 o.length 1|true,zf=>.msl i 0 o.length 1|true,zt=>.msl (i+1) 0 o.length 1
def oR(f n:Bool)(o:List Int):List PO:=match f,n with|false,zf=>[]|false,zt=>[.row 0 (ints o) 1]|true,zf=>[.row 0 (ints o) 1]|true,zt=>[.dead,.row 0 (ints o) 1]
def nB(f:Bool):Nat:=match f with|true=>1|false=>0
def u6(fd fo n:Bool)(m:Modl)(s:Mst)(r:List Int):List PO:=.row 1 [mB m s (dA fd 2 s) (oA fo n (2+nB fd) s.out)] 9::.row 0 (ints r) 1::(dR fd s++oR fo n s.out)
def gAt(m:Modl)(i:Int):Glo:=m.gs.getD i.toNat ⟨[],0,0,0⟩
def dAt(s:Mst)(i:Int):List Int:=s.data.getD i.toNat []
def doesI(m:Modl)(x:Ins)(r:List Int)(s:Mst):Int×Mst×List Int:=
 if x.op=1 then(0,s,put' r x.dst x.n)
 else if x.op=2 then(0,s,put' r x.dst (at' r x.a))
 else if x.op=3 then(if(r6 x.ty x.s (at' r x.a) (at' r x.b)).2=0 then(0,s,put' r x.dst (r6 x.ty x.s (at' r x.a) (at' r x.b)).1)else((r6 x.ty x.s (at' r x.a) (at' r x.b)).2,s,r))
 else if x.op=4 then(0,s,put' r x.dst (wrapD x.ty (at' r x.a)))
 else if x.op=5 then(if thereD (at' r x.a) (gAt m x.n).size=zt then(0,s,put' r x.dst (at' (dAt s x.n) (at' r x.a)))else(3,s,r))
 else if x.op=6 then(if thereD (at' r x.a) (gAt m x.n).size=zt then(0,{s with data:=s.data.set x.n.toNat (put' (dAt s x.n) (at' r x.a) (wrapD (gAt m x.n).ty (at' r x.b)))},r)else(3,s,r))
 else if x.op=7 then(0,s,put' r x.dst (at' (dAt s x.n) 0))
 else if x.op=8 then(0,{s with data:=s.data.set x.n.toNat (put' (dAt s x.n) 0 (at' r x.a))},r)
 else if x.op=10 then(0,{s with input:=s.input.tail},put' r x.dst (s.input.headD 0))
 else if x.op=11 then(0,{s with out:=s.out++[at' r x.a]},r)
 else(0,s,r)
structure InsOk(m:Modl)(x:Ins)(r:List Int)(s:Mst):Prop where
 dst:x.op=1\/x.op=2\/x.op=3\/x.op=4\/x.op=5\/x.op=7\/x.op=10->0<=x.dst/\x.dst<r.length
 a:x.op=2\/x.op=3\/x.op=4\/x.op=5\/x.op=6\/x.op=8\/x.op=11->0<=x.a/\x.a<r.length
 b:x.op=3\/x.op=6->0<=x.b/\x.b<r.length
 n:x.op=5\/x.op=6\/x.op=7\/x.op=8->0<=x.n/\x.n<m.gs.length
 d:s.data.length=m.gs.length/\∀(i:Nat) l g,s.data[i]?=zs l->m.gs[i]?=zs g->(l.length:Int)=max g.size 1
section
variable {m:Modl}{s:Mst}{fd fo:Bool}{r:List Int}{x:Ins}
theorem A1i(h:x.op=1)(ho:InsOk m x r s)(hd0:fd=zf->s.data=[])(hol:s.out.length<=30000):∃tch,evP ⟨A0,T,A2⟩ (.body 41 [.ptr 0 0 0,x.F,.msl 1 0 r.length 1] ⟨u6 fd fo zf m s r,2+nB fd+nB fo,[]⟩)=zs (.val [] ⟨u6 fd fo zf m s (put' r x.dst x.n),2+nB fd+nB fo,tch⟩):=by
 obtain⟨d,D,B⟩:∃d:Nat,x.dst=d/\d<r.length:=by have:=ho.dst (by omega);exact⟨x.dst.toNat,by omega,by omega⟩
 rw [A4 (c:=Ih) (nt:=173) (rs:=[]) rfl (by simp)];unfold Ih;unfold V4 V3 u5 u6 mB Ins.F;cases fd<;>cases fo<;>(
  simp only[dA,dR,oA,oR,nB,put',at',D];simp only[eq_true h,A8 B,B,N5,zqz,XP,seval];grind)
theorem A1j(h:x.op=2)(ho:InsOk m x r s)(hd0:fd=zf->s.data=[])(hol:s.out.length<=30000):∃tch,evP ⟨A0,T,A2⟩ (.body 41 [.ptr 0 0 0,x.F,.msl 1 0 r.length 1] ⟨u6 fd fo zf m s r,2+nB fd+nB fo,[]⟩)=zs (.val [] ⟨u6 fd fo zf m s (put' r x.dst (at' r x.a)),2+nB fd+nB fo,tch⟩):=by
 obtain⟨d,G,D⟩:∃d:Nat,x.dst=d/\d<r.length:=by have:=ho.dst (by omega);exact⟨x.dst.toNat,by omega,by omega⟩
 obtain⟨a,ha,B⟩:∃a:Nat,x.a=a/\a<r.length:=by have:=ho.a (by omega);exact⟨x.a.toNat,by omega,by omega⟩
 rw [A4 (c:=Ih) (nt:=173) (rs:=[]) rfl (by simp)];unfold Ih;unfold V4 V3 u5 y8 u6 mB Ins.F;cases fd<;>cases fo<;>(
  simp only[dA,dR,oA,oR,nB,put',at',G,ha];simp only[eq_true h,(show ¬x.op=1 by omega),A8 D,D,A8 B,B,gD B,N5,zqz,XP,seval];grind)
theorem A1k(hB:T 52=zs Y8)(hN:T 38=zn)(h:x.op=3)(ho:InsOk m x r s)(hd0:fd=zf->s.data=[])(hol:s.out.length<=30000)(H:(r6 x.ty x.s (at' r x.a) (at' r x.b)).2=0):∃tch,evP ⟨A0,T,A2⟩ (.body 41 [.ptr 0 0 0,x.F,.msl 1 0 r.length 1] ⟨u6 fd fo zf m s r,2+nB fd+nB fo,[]⟩)=zs (.val [] ⟨u6 fd fo zf m s (put' r x.dst (r6 x.ty x.s (at' r x.a) (at' r x.b)).1),2+nB fd+nB fo,tch⟩):=by
 obtain⟨d,J,G⟩:∃d:Nat,x.dst=d/\d<r.length:=by have:=ho.dst (by omega);exact⟨x.dst.toNat,by omega,by omega⟩
 obtain⟨a,ha,B⟩:∃a:Nat,x.a=a/\a<r.length:=by have:=ho.a (by omega);exact⟨x.a.toNat,by omega,by omega⟩
 obtain⟨b,hb,D⟩:∃b:Nat,x.b=b/\b<r.length:=by have:=ho.b (by omega);exact⟨x.b.toNat,by omega,by omega⟩
 have I:=fun K=>Zt (K:=K) (t:=x.ty) (op:=x.s) (a:=r[a]) (b:=r[b]) hB
 rw [at',at',ha,hb,zqz,zqz,gD B,gD D]at H;rw[H]at I;rw[A4 (c:=Ih) (nt:=173) (rs:=[]) rfl (by simp)];unfold Ih;unfold V4 V3 u5 y8 Ax u6 mB Ins.F;cases fd<;>cases fo<;>(
  simp only[dA,dR,oA,oR,nB,put',at',J,ha,hb];simp only[eq_true h,(show ¬x.op=1 by omega),(show ¬x.op=2 by omega),A8 G,G,A8 B,B,gD B,A8 D,D,gD D,N5,I,CG hN,zqz,XP,seval];exact⟨_,rfl⟩)
theorem OU(hB:T 52=zs Y8)(hN:T 38=zn)(h:x.op=3)(ho:InsOk m x r s)(hd0:fd=zf->s.data=[])(hol:s.out.length<=30000)(H:¬(r6 x.ty x.s (at' r x.a) (at' r x.b)).2=0):∃tch,evP ⟨A0,T,A2⟩ (.body 41 [.ptr 0 0 0,x.F,.msl 1 0 r.length 1] ⟨u6 fd fo zf m s r,2+nB fd+nB fo,[]⟩)=zs (.pan (E2 2 (r6 x.ty x.s (at' r x.a) (at' r x.b)).2) ⟨u6 fd fo zf m s r,2+nB fd+nB fo,tch⟩):=by
 obtain⟨d,J,G⟩:∃d:Nat,x.dst=d/\d<r.length:=by have:=ho.dst (by omega);exact⟨x.dst.toNat,by omega,by omega⟩
 obtain⟨a,ha,B⟩:∃a:Nat,x.a=a/\a<r.length:=by have:=ho.a (by omega);exact⟨x.a.toNat,by omega,by omega⟩
 obtain⟨b,hb,D⟩:∃b:Nat,x.b=b/\b<r.length:=by have:=ho.b (by omega);exact⟨x.b.toNat,by omega,by omega⟩
 have I:=fun K=>Zt (K:=K) (t:=x.ty) (op:=x.s) (a:=r[a]) (b:=r[b]) hB
 rw [at',at',ha,hb,zqz,zqz,gD B,gD D]at H;rw[A4 (c:=Ih) (nt:=173) (rs:=[]) rfl (by simp)];unfold Ih;unfold V4 V3 u5 y8 Ax u6 mB Ins.F;cases fd<;>cases fo<;>(
  simp only[dA,dR,oA,oR,nB,put',at',J,ha,hb];simp only[eq_true h,(show ¬x.op=1 by omega),(show ¬x.op=2 by omega),A8 G,G,A8 B,B,gD B,A8 D,D,gD D,N5,I,fun K=>Rn (K:=K) hN H,zqz,XP,seval];exact⟨_,rfl⟩)
theorem A1l(hW:T 53=zs G1)(h:x.op=4)(ho:InsOk m x r s)(hd0:fd=zf->s.data=[])(hol:s.out.length<=30000):∃tch,evP ⟨A0,T,A2⟩ (.body 41 [.ptr 0 0 0,x.F,.msl 1 0 r.length 1] ⟨u6 fd fo zf m s r,2+nB fd+nB fo,[]⟩)=zs (.val [] ⟨u6 fd fo zf m s (put' r x.dst (wrapD x.ty (at' r x.a))),2+nB fd+nB fo,tch⟩):=by
 obtain⟨d,H,D⟩:∃d:Nat,x.dst=d/\d<r.length:=by have:=ho.dst (by omega);exact⟨x.dst.toNat,by omega,by omega⟩
 obtain⟨a,ha,B⟩:∃a:Nat,x.a=a/\a<r.length:=by have:=ho.a (by omega);exact⟨x.a.toNat,by omega,by omega⟩
 have G:=fun K=>Di (K:=K) (t:=x.ty) (v:=r[a]) hW
 rw [A4 (c:=Ih) (nt:=173) (rs:=[]) rfl (by simp)];unfold Ih;unfold V4 V3 u5 y8 Ax Du u6 mB Ins.F;cases fd<;>cases fo<;>(
  simp only[dA,dR,oA,oR,nB,put',at',H,ha];simp only[eq_true h,(show ¬x.op=1 by omega),(show ¬x.op=2 by omega),(show ¬x.op=3 by omega),A8 D,D,A8 B,B,gD B,N5,G,zqz,XP,seval];grind)
theorem dF(hE:T 54=zn)(a b c:AV)(K:PK):evP ⟨A0,T,A2⟩ (.call 54 [a,b,c] K)=EP K (Xe A0 [.tmp 6] (evP ⟨A0,T,A2⟩ (.code FG (enterP 0 [a,b,c]) ⟨K.os,K.os.length,[]⟩))):=by
 rw[Bh hE rfl,A4 (c:=FG) (nt:=29) (rs:=[.tmp 6]) rfl (by simp)]
theorem A1m(hE:T 54=zn)(hN:T 38=zn)(hT:T 60=zs D6)(h:x.op=5)(ho:InsOk m x r s)(N:fd=zf->s.data=[])(hol:s.out.length<=30000)(J:thereD (at' r x.a) (gAt m x.n).size=zt):∃tch,evP ⟨A0,T,A2⟩ (.body 41 [.ptr 0 0 0,x.F,.msl 1 0 r.length 1] ⟨u6 fd fo zf m s r,2+nB fd+nB fo,[]⟩)=zs (.val [] ⟨u6 fd fo zf m s (put' r x.dst (at' (dAt s x.n) (at' r x.a))),2+nB fd+nB fo,tch⟩):=by
 obtain⟨d,X,I⟩:∃d:Nat,x.dst=d/\d<r.length:=by have:=ho.dst (by omega);exact⟨x.dst.toNat,by omega,by omega⟩
 obtain⟨a,ha,D⟩:∃a:Nat,x.a=a/\a<r.length:=by have:=ho.a (by omega);exact⟨x.a.toNat,by omega,by omega⟩
 obtain⟨n,hn,G⟩:∃n:Nat,x.n=n/\n<m.gs.length:=by have:=ho.n (by omega);exact⟨x.n.toNat,by omega,by omega⟩
 have B:n<s.data.length:=by have:=ho.d.1;omega
 have Q:fd=zt:=by cases fd with|true=>rfl|false=>have:=N rfl;rw[this]at B;simp at B
 subst Q;have hlen:=ho.d.2 n _ _ (zqd B) (zqd G);have hg:=A9 (F:=Glo.F) G;simp only[Glo.F]at hg;rw[at',gAt,ha,hn,zqz,zqz,gD D,GD G]at J;obtain⟨e,V,H⟩:∃e:Nat,r[a]=e/\e<s.data[n].length:=by have:=thereD_iff.1 J;exact⟨r[a].toNat,by omega,by omega⟩
 have U:=fun K=>Q9 (K:=K) (a:=(e:Int)) (n:=m.gs[n].size) hT
 rw [V]at J;rw[J]at U;rw[A4 (c:=Ih) (nt:=173) (rs:=[]) rfl (by simp)];unfold Ih;unfold V4 V3 u5 y8 Ax Du Fl u6 mB Ins.F;cases fo<;>(
  simp only[dA,dR,oA,oR,nB,put',at',X,ha,hn];simp only[eq_true h,(show ¬x.op=1 by omega),(show ¬x.op=2 by omega),(show ¬x.op=3 by omega),(show ¬x.op=4 by omega),A8 D,D,gD D,gAt,dAt,GD G,LM B,hg,Cd B,B,U,dF hE,FG,zqa,A8 I,I,N5,V,A8 H,H,gD H,zqz,XP,seval];exact⟨_,rfl⟩)
theorem OV(hE:T 54=zn)(hN:T 38=zn)(hT:T 60=zs D6)(h:x.op=5)(ho:InsOk m x r s)(I:fd=zf->s.data=[])(hol:s.out.length<=30000)(N:¬thereD (at' r x.a) (gAt m x.n).size=zt):∃tch,evP ⟨A0,T,A2⟩ (.body 41 [.ptr 0 0 0,x.F,.msl 1 0 r.length 1] ⟨u6 fd fo zf m s r,2+nB fd+nB fo,[]⟩)=zs (.pan (E2 2 3) ⟨u6 fd fo zf m s r,2+nB fd+nB fo,tch⟩):=by
 obtain⟨d,U,H⟩:∃d:Nat,x.dst=d/\d<r.length:=by have:=ho.dst (by omega);exact⟨x.dst.toNat,by omega,by omega⟩
 obtain⟨a,ha,D⟩:∃a:Nat,x.a=a/\a<r.length:=by have:=ho.a (by omega);exact⟨x.a.toNat,by omega,by omega⟩
 obtain⟨n,hn,G⟩:∃n:Nat,x.n=n/\n<m.gs.length:=by have:=ho.n (by omega);exact⟨x.n.toNat,by omega,by omega⟩
 have B:n<s.data.length:=by have:=ho.d.1;omega
 have J:fd=zt:=by cases fd with|true=>rfl|false=>have:=I rfl;rw[this]at B;simp at B
 subst J;have hlen:=ho.d.2 n _ _ (zqd B) (zqd G);have hg:=A9 (F:=Glo.F) G;simp only[Glo.F]at hg;rw[at',gAt,ha,hn,zqz,zqz,gD D,GD G]at N;have Q:=fun K=>Q9 (K:=K) (a:=r[a]) (n:=m.gs[n].size) hT
 rw [zkh.2 N]at Q;rw[A4 (c:=Ih) (nt:=173) (rs:=[]) rfl (by simp)];unfold Ih;unfold V4 V3 u5 y8 Ax Du Fl u6 mB Ins.F;cases fo<;>(
  simp only[dA,dR,oA,oR,nB,put',at',U,ha,hn];simp only[eq_true h,(show ¬x.op=1 by omega),(show ¬x.op=2 by omega),(show ¬x.op=3 by omega),(show ¬x.op=4 by omega),A8 D,D,gD D,gAt,dAt,GD G,LM B,hg,Cd B,B,Q,dF hE,FG,zqa,A8 H,H,N5,fun K=>Rn (K:=K) hN (t:=3) (by decide),zqz,XP,seval];exact⟨_,rfl⟩)
theorem A1n(hE:T 54=zn)(hN:T 38=zn)(hT:T 60=zs D6)(hW:T 53=zs G1)(h:x.op=6)(ho:InsOk m x r s)(N:fd=zf->s.data=[])(hol:s.out.length<=30000)(J:thereD (at' r x.a) (gAt m x.n).size=zt):∃tch,evP ⟨A0,T,A2⟩ (.body 41 [.ptr 0 0 0,x.F,.msl 1 0 r.length 1] ⟨u6 fd fo zf m s r,2+nB fd+nB fo,[]⟩)=zs (.val [] ⟨u6 fd fo zf m {s with data:=s.data.set x.n.toNat (put' (dAt s x.n) (at' r x.a) (wrapD (gAt m x.n).ty (at' r x.b)))} r,2+nB fd+nB fo,tch⟩):=by
 obtain⟨a,ha,D⟩:∃a:Nat,x.a=a/\a<r.length:=by have:=ho.a (by omega);exact⟨x.a.toNat,by omega,by omega⟩
 obtain⟨b,hb,H⟩:∃b:Nat,x.b=b/\b<r.length:=by have:=ho.b (by omega);exact⟨x.b.toNat,by omega,by omega⟩
 obtain⟨n,hn,G⟩:∃n:Nat,x.n=n/\n<m.gs.length:=by have:=ho.n (by omega);exact⟨x.n.toNat,by omega,by omega⟩
 have B:n<s.data.length:=by have:=ho.d.1;omega
 have Q:fd=zt:=by cases fd with|true=>rfl|false=>have:=N rfl;rw[this]at B;simp at B
 subst Q;have hlen:=ho.d.2 n _ _ (zqd B) (zqd G);have hg:=A9 (F:=Glo.F) G;simp only[Glo.F]at hg;rw[at',gAt,ha,hn,zqz,zqz,gD D,GD G]at J;obtain⟨e,V,I⟩:∃e:Nat,r[a]=e/\e<s.data[n].length:=by have:=thereD_iff.1 J;exact⟨r[a].toNat,by omega,by omega⟩
 have U:=fun K=>Q9 (K:=K) (a:=(e:Int)) (n:=m.gs[n].size) hT
 rw[V]at J;rw[J]at U;have X:=fun K=>Di (K:=K) (t:=m.gs[n].ty) (v:=r[b]) hW
 rw [A4 (c:=Ih) (nt:=173) (rs:=[]) rfl (by simp)];unfold Ih;unfold V4 V3 u5 y8 Ax Du Fl Lv u6 mB Ins.F;cases fo<;>(
  simp only[dA,dR,oA,oR,nB,put',at',ha,hb,hn];simp only[eq_true h,(show ¬x.op=1 by omega),(show ¬x.op=2 by omega),(show ¬x.op=3 by omega),(show ¬x.op=4 by omega),(show ¬x.op=5 by omega),A8 D,D,gD D,gAt,dAt,GD G,LM B,hg,Cd B,B,U,dF hE,FG,zqa,A8 H,H,gD H,X,iI,xW,N5,V,A8 I,I,gD I,zqt,zqz,XP,seval];exact⟨_,rfl⟩)
theorem OW(hE:T 54=zn)(hN:T 38=zn)(hT:T 60=zs D6)(hW:T 53=zs G1)(h:x.op=6)(ho:InsOk m x r s)(I:fd=zf->s.data=[])(hol:s.out.length<=30000)(N:¬thereD (at' r x.a) (gAt m x.n).size=zt):∃tch,evP ⟨A0,T,A2⟩ (.body 41 [.ptr 0 0 0,x.F,.msl 1 0 r.length 1] ⟨u6 fd fo zf m s r,2+nB fd+nB fo,[]⟩)=zs (.pan (E2 2 3) ⟨u6 fd fo zf m s r,2+nB fd+nB fo,tch⟩):=by
 obtain⟨a,ha,D⟩:∃a:Nat,x.a=a/\a<r.length:=by have:=ho.a (by omega);exact⟨x.a.toNat,by omega,by omega⟩
 obtain⟨b,hb,H⟩:∃b:Nat,x.b=b/\b<r.length:=by have:=ho.b (by omega);exact⟨x.b.toNat,by omega,by omega⟩
 obtain⟨n,hn,G⟩:∃n:Nat,x.n=n/\n<m.gs.length:=by have:=ho.n (by omega);exact⟨x.n.toNat,by omega,by omega⟩
 have B:n<s.data.length:=by have:=ho.d.1;omega
 have J:fd=zt:=by cases fd with|true=>rfl|false=>have:=I rfl;rw[this]at B;simp at B
 subst J;have hlen:=ho.d.2 n _ _ (zqd B) (zqd G);have hg:=A9 (F:=Glo.F) G;simp only[Glo.F]at hg;rw[at',gAt,ha,hn,zqz,zqz,gD D,GD G]at N;have Q:=fun K=>Q9 (K:=K) (a:=r[a]) (n:=m.gs[n].size) hT
 rw[zkh.2 N]at Q;have U:=fun K=>Di (K:=K) (t:=m.gs[n].ty) (v:=r[b]) hW
 rw [A4 (c:=Ih) (nt:=173) (rs:=[]) rfl (by simp)];unfold Ih;unfold V4 V3 u5 y8 Ax Du Fl Lv u6 mB Ins.F;cases fo<;>(
  simp only[dA,dR,oA,oR,nB,put',at',ha,hb,hn];simp only[eq_true h,(show ¬x.op=1 by omega),(show ¬x.op=2 by omega),(show ¬x.op=3 by omega),(show ¬x.op=4 by omega),(show ¬x.op=5 by omega),A8 D,D,gD D,gAt,dAt,GD G,LM B,hg,Cd B,B,Q,dF hE,FG,zqa,A8 H,H,gD H,U,fun K=>Rn (K:=K) hN (t:=3) (by decide),zqz,XP,seval];exact⟨_,rfl⟩)
theorem A1o(h:x.op=7)(ho:InsOk m x r s)(G:fd=zf->s.data=[])(hol:s.out.length<=30000):∃tch,evP ⟨A0,T,A2⟩ (.body 41 [.ptr 0 0 0,x.F,.msl 1 0 r.length 1] ⟨u6 fd fo zf m s r,2+nB fd+nB fo,[]⟩)=zs (.val [] ⟨u6 fd fo zf m s (put' r x.dst (at' (dAt s x.n) 0)),2+nB fd+nB fo,tch⟩):=by
 obtain⟨d,N,D⟩:∃d:Nat,x.dst=d/\d<r.length:=by have:=ho.dst (by omega);exact⟨x.dst.toNat,by omega,by omega⟩
 obtain⟨n,hn,I⟩:∃n:Nat,x.n=n/\n<m.gs.length:=by have:=ho.n (by omega);exact⟨x.n.toNat,by omega,by omega⟩
 have B:n<s.data.length:=by have:=ho.d.1;omega
 have H:fd=zt:=by grind
 subst H;have hlen:=ho.d.2 n _ _ (zqd B) (zqd I);have h0:0<s.data[n].length:=by omega
 have J:∀i,Pb ty3 (.msl i 0 s.data[n].length 1) (.int .i64 0)=zs (.ptr i 0 0):=fun i=>by have:=ix_msl (te:=ty3) (k:=.i64) (id:=i) (off:=0) (i:=0) (n:=s.data[n].length) (sz:=1) h0 rfl;grind
 rw [A4 (c:=Ih) (nt:=173) (rs:=[]) rfl (by simp)];unfold Ih;unfold V4 V3 u5 y8 Ax Du Fl Lv Tz u6 mB Ins.F;cases fo<;>(
  simp only[dA,dR,oA,oR,nB,put',at',N,hn];simp only[eq_true h,(show ¬x.op=1 by omega),(show ¬x.op=2 by omega),(show ¬x.op=3 by omega),(show ¬x.op=4 by omega),(show ¬x.op=5 by omega),(show ¬x.op=6 by omega),A8 D,D,N5,gD h0,dAt,LM B,Cd B,B,zqa,A8 h0,h0,Int.toNat_zero,J,zqz,XP,seval];grind)
theorem A1p(h:x.op=8)(ho:InsOk m x r s)(G:fd=zf->s.data=[])(hol:s.out.length<=30000):∃tch,evP ⟨A0,T,A2⟩ (.body 41 [.ptr 0 0 0,x.F,.msl 1 0 r.length 1] ⟨u6 fd fo zf m s r,2+nB fd+nB fo,[]⟩)=zs (.val [] ⟨u6 fd fo zf m {s with data:=s.data.set x.n.toNat (put' (dAt s x.n) 0 (at' r x.a))} r,2+nB fd+nB fo,tch⟩):=by
 obtain⟨a,ha,D⟩:∃a:Nat,x.a=a/\a<r.length:=by have:=ho.a (by omega);exact⟨x.a.toNat,by omega,by omega⟩
 obtain⟨n,hn,I⟩:∃n:Nat,x.n=n/\n<m.gs.length:=by have:=ho.n (by omega);exact⟨x.n.toNat,by omega,by omega⟩
 have B:n<s.data.length:=by have:=ho.d.1;omega
 have H:fd=zt:=by grind
 subst H;have hlen:=ho.d.2 n _ _ (zqd B) (zqd I);have h0:0<s.data[n].length:=by omega
 have J:∀i,Pb ty3 (.msl i 0 s.data[n].length 1) (.int .i64 0)=zs (.ptr i 0 0):=fun i=>by have:=ix_msl (te:=ty3) (k:=.i64) (id:=i) (off:=0) (i:=0) (n:=s.data[n].length) (sz:=1) h0 rfl;grind
 rw [A4 (c:=Ih) (nt:=173) (rs:=[]) rfl (by simp)];unfold Ih;unfold V4 V3 u5 y8 Ax Du Fl Lv Tz Zo u6 mB Ins.F;cases fo<;>(
  simp only[dA,dR,oA,oR,nB,put',at',ha,hn];simp only[eq_true h,(show ¬x.op=1 by omega),(show ¬x.op=2 by omega),(show ¬x.op=3 by omega),(show ¬x.op=4 by omega),(show ¬x.op=5 by omega),(show ¬x.op=6 by omega),(show ¬x.op=7 by omega),A8 D,D,gD D,N5,iI,xW,zqt,gD h0,dAt,LM B,Cd B,B,zqa,A8 h0,h0,Int.toNat_zero,J,zqz,XP,seval];grind)
theorem IV(hX:T 55=zn)(h:x.op=10)(ho:InsOk m x r s)(hd0:fd=zf->s.data=[])(hol:s.out.length<=30000)(hi:s.input=[]):∃tch,evP ⟨A0,T,A2⟩ (.body 41 [.ptr 0 0 0,x.F,.msl 1 0 r.length 1] ⟨u6 fd fo zf m s r,2+nB fd+nB fo,[]⟩)=zs (.val [] ⟨u6 fd fo zf m {s with input:=s.input.tail} (put' r x.dst (s.input.headD 0)),2+nB fd+nB fo,tch⟩):=by
 obtain⟨d,D,B⟩:∃d:Nat,x.dst=d/\d<r.length:=by have:=ho.dst (by omega);exact⟨x.dst.toNat,by omega,by omega⟩
 have nx:=fun d o rest ext tch=>IT (d:=d) (o:=o) (rest:=rest) (ext:=ext) (tch:=tch) (m:=m) hX hi
 unfold mB at nx;simp only[hi]at nx;rw[A4 (c:=Ih) (nt:=173) (rs:=[]) rfl (by simp)];unfold Ih;unfold V4 V3 u5 y8 Ax Du Fl Lv Tz Zo gQ u6 mB Ins.F;cases fd<;>cases fo<;>(
  simp only[dA,dR,oA,oR,nB,put',at',D];simp only[eq_true h,(show ¬x.op=1 by omega),(show ¬x.op=2 by omega),(show ¬x.op=3 by omega),(show ¬x.op=4 by omega),(show ¬x.op=5 by omega),(show ¬x.op=6 by omega),(show ¬x.op=7 by omega),(show ¬x.op=8 by omega),A8 B,B,N5,Aa,zqu,zqv,Nat.reduceBEq,hi,nx,List.tail_cons,List.tail_nil,zqw,List.headD_nil,zqz,XP,seval];exact⟨_,rfl⟩)
theorem OX(hX:T 55=zn)(h:x.op=10)(ho:InsOk m x r s)(hd0:fd=zf->s.data=[])(hol:s.out.length<=30000){v:Int}{t:List Int}(hi:s.input=v::t):∃tch,evP ⟨A0,T,A2⟩ (.body 41 [.ptr 0 0 0,x.F,.msl 1 0 r.length 1] ⟨u6 fd fo zf m s r,2+nB fd+nB fo,[]⟩)=zs (.val [] ⟨u6 fd fo zf m {s with input:=s.input.tail} (put' r x.dst (s.input.headD 0)),2+nB fd+nB fo,tch⟩):=by
 obtain⟨d,D,B⟩:∃d:Nat,x.dst=d/\d<r.length:=by have:=ho.dst (by omega);exact⟨x.dst.toNat,by omega,by omega⟩
 have nx:=fun d o rest ext tch=>IU (d:=d) (o:=o) (rest:=rest) (ext:=ext) (tch:=tch) (m:=m) hX hi
 unfold mB at nx;simp only[hi]at nx;rw[A4 (c:=Ih) (nt:=173) (rs:=[]) rfl (by simp)];unfold Ih;unfold V4 V3 u5 y8 Ax Du Fl Lv Tz Zo gQ u6 mB Ins.F;cases fd<;>cases fo<;>(
  simp only[dA,dR,oA,oR,nB,put',at',D];simp only[eq_true h,(show ¬x.op=1 by omega),(show ¬x.op=2 by omega),(show ¬x.op=3 by omega),(show ¬x.op=4 by omega),(show ¬x.op=5 by omega),(show ¬x.op=6 by omega),(show ¬x.op=7 by omega),(show ¬x.op=8 by omega),A8 B,B,N5,Aa,zqu,zqv,Nat.reduceBEq,hi,nx,List.tail_cons,List.tail_nil,zqw,List.headD_nil,zqz,XP,seval];exact⟨_,rfl⟩)
theorem OY(h:x.op=11)(ho:InsOk m x r s)(hd0:fd=zf->s.data=[])(hol:s.out.length<=30000)(hf:fo=zt):∃tch,evP ⟨A0,T,A2⟩ (.body 41 [.ptr 0 0 0,x.F,.msl 1 0 r.length 1] ⟨u6 fd fo zf m s r,2+nB fd+nB fo,[]⟩)=zs (.val [] ⟨u6 fd fo zt m {s with out:=s.out++[at' r x.a]} r,2+nB fd+nB fo,tch⟩):=by
 obtain⟨a,ha,B⟩:∃a:Nat,x.a=a/\a<r.length:=by have:=ho.a (by omega);exact⟨x.a.toNat,by omega,by omega⟩
 have hb:(s.out.length+1)*8<=140737488355328:=by omega
 subst hf;rw[A4 (c:=Ih) (nt:=173) (rs:=[]) rfl (by simp)];unfold Ih;unfold V4 V3 u5 y8 Ax Du Fl Lv Tz Zo gQ wM u6 mB Ins.F;cases fd<;>(
  simp only[dA,dR,oA,oR,nB,put',at',ha];simp only[eq_true h,(show ¬x.op=1 by omega),(show ¬x.op=2 by omega),(show ¬x.op=3 by omega),(show ¬x.op=4 by omega),(show ¬x.op=5 by omega),(show ¬x.op=6 by omega),(show ¬x.op=7 by omega),(show ¬x.op=8 by omega),(show ¬x.op=10 by omega),A8 B,B,gD B,zqa,zqx,hb,xX,zqz,XP,seval];grind)
theorem IW(h:x.op=11)(ho:InsOk m x r s)(hd0:fd=zf->s.data=[])(hol:s.out.length<=30000)(hf:fo=zf)(D:s.out=[]):∃tch,evP ⟨A0,T,A2⟩ (.body 41 [.ptr 0 0 0,x.F,.msl 1 0 r.length 1] ⟨u6 fd fo zf m s r,2+nB fd+nB fo,[]⟩)=zs (.val [] ⟨u6 fd fo zt m {s with out:=s.out++[at' r x.a]} r,2+nB fd+nB fo,tch⟩):=by
 obtain⟨a,ha,B⟩:∃a:Nat,x.a=a/\a<r.length:=by have:=ho.a (by omega);exact⟨x.a.toNat,by omega,by omega⟩
 have hb:(s.out.length+1)*8<=140737488355328:=by omega
 subst hf;rw[A4 (c:=Ih) (nt:=173) (rs:=[]) rfl (by simp)];unfold Ih;unfold V4 V3 u5 y8 Ax Du Fl Lv Tz Zo gQ wM u6 mB Ins.F;cases fd<;>(
  simp only[dA,dR,oA,oR,nB,put',at',ha];simp only[eq_true h,(show ¬x.op=1 by omega),(show ¬x.op=2 by omega),(show ¬x.op=3 by omega),(show ¬x.op=4 by omega),(show ¬x.op=5 by omega),(show ¬x.op=6 by omega),(show ¬x.op=7 by omega),(show ¬x.op=8 by omega),(show ¬x.op=10 by omega),A8 B,B,gD B,zqa,zqx,hb,D,List.map_cons,List.map_nil,zqz,XP,seval];grind)
end
end Go.Proofs.AmEnv
set_option maxRecDepth 100000
namespace Go.AM
section
variable {E:Env}{K K1 K' Kf:PK}{ids:List Nat}
theorem dG{T:Nat->Option (List AV->Option (List AV))}{F:Nat->Option PFn}{f:Nat}{args args':List AV}{v v':AV}(B:T f=zn)(D:inpOf (F f)=zf)(hi:focusIds args K=ids)(ha:renL (posOf ids) args=args')(G:focusK ids K=Kf)
 (hb:evP ⟨E,T,F⟩ (.body f args' Kf)=zs (.pan v K1))(hm:mergeK ids K K1=zs K')(hv:G6 (backN ids K.os.length) v=v'):evP ⟨E,T,F⟩ (.call f args K)=zs (.pan v' K'):=by
 rw[evP];show(match T f with|some g=>_|none=>_)=_
 grind
theorem Zw{t:Nat}{v:AV}:J3 (.iface t v)=J3 v:=by rw[J3]
theorem Zx{t:Nat}{v:AV}{σ:Nat->Option Nat}:G6 σ (.iface t v)=.iface t (G6 σ v):=by rw[G6]
end
end Go.AM
namespace Go.Proofs.AmEnv
open Go Go.AM
variable {T:Nat->Option (List AV->Option (List AV))}
structure RunT(T:Nat->Option (List AV->Option (List AV))):Prop where
 hB:T 52=zs Y8
 hW:T 53=zs G1
 hN:T 38=zn
 hE:T 54=zn
 hT:T 60=zs D6
 hX:T 55=zn
 hS:T 39=zn
 hD:T 41=zn
 hC:T 40=zn
 hL:T 25=zn
section
variable {m:Modl}{s:Mst}{fa fd fo n:Bool}{r a:List Int}{x:Ins}
theorem Zy(R:RunT T)(ho:InsOk m x r s)(hop:1<=x.op/\x.op<=11/\x.op≠9)(B:fd=zf->s.data=[])(H:fo=zf->s.out=[])(D:s.out.length<=30000):∃tch,evP ⟨A0,T,A2⟩ (.body 41 [.ptr 0 0 0,x.F,.msl 1 0 r.length 1] ⟨u6 fd fo zf m s r,2+nB fd+nB fo,[]⟩)=(if(doesI m x r s).1=0 then zs (.val [] ⟨u6 fd fo (decide (x.op=11)) m (doesI m x r s).2.1 (doesI m x r s).2.2,2+nB fd+nB fo,tch⟩)else zs (.pan (E2 2 (doesI m x r s).1) ⟨u6 fd fo zf m s r,2+nB fd+nB fo,tch⟩)):=by
 have hc:x.op=1\/x.op=2\/x.op=3\/x.op=4\/x.op=5\/x.op=6\/x.op=7\/x.op=8\/x.op=10\/x.op=11:=by omega
 rcases hc with h|h|h|h|h|h|h|h|h|h
 . obtain⟨tch,e⟩:=A1i (T:=T) h ho B D;exact⟨tch,by rw[e];simp only[doesI,h,Int.reduceEq,↓reduceIte,decide_true,decide_false]⟩
 . obtain⟨tch,e⟩:=A1j (T:=T) h ho B D;exact⟨tch,by rw[e];simp only[doesI,h,Int.reduceEq,↓reduceIte,decide_true,decide_false]⟩
 . by_cases G:(r6 x.ty x.s (at' r x.a) (at' r x.b)).2=0
   . obtain⟨tch,e⟩:=A1k R.hB R.hN h ho B D G;exact⟨tch,by rw[e];simp only[doesI,h,G,Int.reduceEq,↓reduceIte,decide_true,decide_false,zkc]⟩
   . obtain⟨tch,e⟩:=OU R.hB R.hN h ho B D G;exact⟨tch,by rw[e];simp only[doesI,h,G,Int.reduceEq,↓reduceIte,decide_true,decide_false,zkc]⟩
 . obtain⟨tch,e⟩:=A1l R.hW h ho B D;exact⟨tch,by rw[e];simp only[doesI,h,Int.reduceEq,↓reduceIte,decide_true,decide_false]⟩
 . by_cases G:thereD (at' r x.a) (gAt m x.n).size=zt
   . obtain⟨tch,e⟩:=A1m R.hE R.hN R.hT h ho B D G;exact⟨tch,by rw[e];simp only[doesI,h,G,Int.reduceEq,↓reduceIte,decide_true,decide_false,zkc]⟩
   . obtain⟨tch,e⟩:=OV R.hE R.hN R.hT h ho B D G;exact⟨tch,by rw[e];simp only[doesI,h,G,Int.reduceEq,↓reduceIte,decide_true,decide_false,zkc]⟩
 . by_cases G:thereD (at' r x.a) (gAt m x.n).size=zt
   . obtain⟨tch,e⟩:=A1n R.hE R.hN R.hT R.hW h ho B D G;exact⟨tch,by rw[e];simp only[doesI,h,G,Int.reduceEq,↓reduceIte,decide_true,decide_false,zkc]⟩
   . obtain⟨tch,e⟩:=OW R.hE R.hN R.hT R.hW h ho B D G;exact⟨tch,by rw[e];simp only[doesI,h,G,Int.reduceEq,↓reduceIte,decide_true,decide_false,zkc]⟩
 . obtain⟨tch,e⟩:=A1o (T:=T) h ho B D;exact⟨tch,by rw[e];simp only[doesI,h,Int.reduceEq,↓reduceIte,decide_true,decide_false]⟩
 . obtain⟨tch,e⟩:=A1p (T:=T) h ho B D;exact⟨tch,by rw[e];simp only[doesI,h,Int.reduceEq,↓reduceIte,decide_true,decide_false]⟩
 . cases hi:s.input with
   |nil=>obtain⟨tch,e⟩:=IV R.hX h ho B D hi;exact⟨tch,by rw[e];simp only[doesI,h,Int.reduceEq,↓reduceIte,decide_true,decide_false]⟩
   |cons v t=>obtain⟨tch,e⟩:=OX R.hX h ho B D hi;exact⟨tch,by rw[e];simp only[doesI,h,Int.reduceEq,↓reduceIte,decide_true,decide_false]⟩
 . cases hf:fo with
   |true=>obtain⟨tch,e⟩:=OY (T:=T) h ho B D hf;exact⟨tch,by rw[hf]at e;rw[e];simp only[doesI,h,Int.reduceEq,↓reduceIte,decide_true,decide_false]⟩
   |false=>obtain⟨tch,e⟩:=IW (T:=T) h ho B D hf (H hf);exact⟨tch,by rw[hf]at e;rw[e];simp only[doesI,h,Int.reduceEq,↓reduceIte,decide_true,decide_false]⟩
def aR(f:Bool)(a:List Int):List PO:=match f with|true=>[.row 0 (ints a) 1]|false=>[]
def F2(fa fd fo n:Bool)(m:Modl)(s:Mst)(a:List Int):List PO:=.row 1 [mB m s (dA fd (1+nB fa) s) (oA fo n (1+nB fa+nB fd) s.out)] 9::(aR fa a++(dR fd s++oR fo n s.out))
end
section
variable {m:Modl}{s:Mst}{fa fd fo n n':Bool}{r a:List Int}{x:Ins}{cs xs:List AV}{cz xz:Nat}
def nE(fa fd fo:Bool):Nat:=1+nB fa+nB fd+nB fo
def dd(f:Bool):List PO:=match f with|true=>[.dead]|false=>[]
def uT(fa fd fo n n':Bool)(m:Modl)(s:Mst)(a:List Int)(j:Nat):List PO:=match n' with
 |false=>F2 fa fd fo n m s a
 |true=>.row 1 [mB m s (dA fd (1+nB fa) s) (.msl j 0 s.out.length 1)] 9::(aR fa a++(dR fd s++(dd fo++dd n)))
def oG(n':Bool)(o:List Int):List PO:=match n' with|false=>[]|true=>[.row 0 (ints o) 1]
def Qv(fa fd fo n:Bool)(r:Nat):List Nat:=0::r::((match fd with|true=>[1+nB fa]|false=>[])++(match fo,n with|false,zf=>[]|true,zf=>[1+nB fa+nB fd]|false,zt=>[1+nB fa+nB fd]|true,zt=>[2+nB fa+nB fd]))
theorem tJ(R:RunT T)(ho:InsOk m x r s)(B:1<=x.op/\x.op<=11/\x.op≠9)(D:fd=zf->s.data=[])(hf0:fo=zf->n=zf->s.out=[])(G:s.out.length<=30000)(hn:decide (x.op=11)=n')(H:(doesI m x r s).1=0):
 ∃I,∀tch,evP ⟨A0,T,A2⟩ (.call 41 [.ptr 0 0 0,x.F,.msl (nE fa fd fo+nB n+1) 0 r.length 1] ⟨F2 fa fd fo n m s a++[.row 1 cs cz,.row 0 (ints r) 1,.row 1 xs xz],nE fa fd fo,tch⟩)=zs (.val [] ⟨uT fa fd fo n n' m (doesI m x r s).2.1 a (nE fa fd fo+nB n+3)++(.row 1 cs cz::.row 0 (ints (doesI m x r s).2.2) 1::.row 1 xs xz::oG n' (doesI m x r s).2.1.out),nE fa fd fo,I++tch⟩):=by
 obtain⟨t0,hb⟩:=Zy (T:=T) (fd:=fd) (fo:=fo||n) (m:=m) (s:=s) (r:=r) (x:=x) R ho B D (by grind) G;rw[if_pos H,hn]at hb;refine⟨((t0.filter (· < (Qv fa fd fo n (nE fa fd fo+nB n+1)).length)).map fun j=>(Qv fa fd fo n (nE fa fd fo+nB n+1)).getD j 0),fun tch=>rF (ids:=Qv fa fd fo n (nE fa fd fo+nB n+1)) (args':=[.ptr 0 0 0,x.F,.msl 1 0 r.length 1]) (Kf:=⟨u6 fd (fo||n) zf m s r,2+nB fd+nB (fo||n),[]⟩) R.hD rfl ?_ ?_ ?_ hb ?_ ?_⟩<;>cases fa<;>cases fd<;>cases fo<;>cases n<;>cases n'<;>rfl
theorem mO(R:RunT T)(ho:InsOk m x r s)(B:1<=x.op/\x.op<=11/\x.op≠9)(D:fd=zf->s.data=[])(hf0:fo=zf->n=zf->s.out=[])(G:s.out.length<=30000)(H:¬(doesI m x r s).1=0):
 ∃I,∀tch,evP ⟨A0,T,A2⟩ (.call 41 [.ptr 0 0 0,x.F,.msl (nE fa fd fo+nB n+1) 0 r.length 1] ⟨F2 fa fd fo n m s a++[.row 1 cs cz,.row 0 (ints r) 1,.row 1 xs xz],nE fa fd fo,tch⟩)=zs (.pan (E2 2 (doesI m x r s).1) ⟨F2 fa fd fo n m s a++[.row 1 cs cz,.row 0 (ints r) 1,.row 1 xs xz],nE fa fd fo,I++tch⟩):=by
 obtain⟨t0,hb⟩:=Zy (T:=T) (fd:=fd) (fo:=fo||n) (m:=m) (s:=s) (r:=r) (x:=x) R ho B D (by grind) G;rw[if_neg H]at hb;refine⟨((t0.filter (· < (Qv fa fd fo n (nE fa fd fo+nB n+1)).length)).map fun j=>(Qv fa fd fo n (nE fa fd fo+nB n+1)).getD j 0),fun tch=>dG (ids:=Qv fa fd fo n (nE fa fd fo+nB n+1)) (args':=[.ptr 0 0 0,x.F,.msl 1 0 r.length 1]) (Kf:=⟨u6 fd (fo||n) zf m s r,2+nB fd+nB (fo||n),[]⟩) R.hD rfl ?_ ?_ ?_ hb ?_ ?_⟩<;>cases fa<;>cases fd<;>cases fo<;>cases n<;>rfl
end
section
variable {m:Modl}{s:Mst}{fa fd fo n:Bool}{r a:List Int}{c:Cod}{l:List Ins}{k:Nat}{at0:Int}{tch:List Nat}
def Ro(c:Cod):PO:=.row 1 [c.F] 5
def msL(fa fd fo n:Bool)(m:Modl)(s:Mst)(a:List Int)(c:Cod)(r:List Int)(tch:List Nat):PK:=⟨F2 fa fd fo n m s a++[Ro c,.row 0 (ints r) 1],nE fa fd fo,tch⟩
def S8(fa fd fo n:Bool)(r:List Int)(at0:Int):PF:=[(0,.ptr 0 0 0),(7,.ptr (nE fa fd fo+nB n) 0 0),(8,.msl (nE fa fd fo+nB n+1) 0 r.length 1),(9,.int .i64 at0)]
def frI(l:List Ins)(k:Nat):PF:=[(46,fslN (l.map Ins.F)),(47,.int .i64 (l.length:Int)),(48,.int .i64 (k:Int))]
def stp(s:Mst):Mst:={s with steps:=s.steps-1}
theorem OZ(R:RunT T)(D:k<l.length)(hl:l.length<=2000000000000)(h:¬1<=s.steps):
 ∃G,evP ⟨A0,T,A2⟩ (.code f8 (S8 fa fd fo n r at0++frI l k) (msL fa fd fo n m s a c r tch))=zs (.pan (E2 3 0) ⟨F2 fa fd fo n m s a,nE fa fd fo,G⟩):=by
 have B:decide ((k:Int)<(l.length:Int))=zt:=by simp[D]
 have hi:=A9 (F:=Ins.F) D;have st:=fun d o rest ext tch=>pQ (T:=T) (m:=m) (s:=s) (d:=d) (o:=o) (rest:=rest) (ext:=ext) (tch:=tch) R.hS h
 unfold f8 Tu Tt Ts Tq Tp S8 frI msL F2 Ro;unfold mB at st|-;simp only[Ins.F,Cod.F,E2]at hi st|-;cases fa<;>cases fd<;>cases fo<;>cases n<;>(
  simp only[dA,dR,oA,oR,aR,nB,nE];simp only[B,hi,st,XP,seval];exact⟨_,rfl⟩)
theorem PA{n':Bool}(R:RunT T)(Q:k<l.length)(hl:l.length<=2000000000000)(h:1<=s.steps)(V:s.steps<=20000)(D:1<=l[k].op/\l[k].op<=11/\l[k].op≠9)(ho:InsOk m l[k] r (stp s))(G:fd=zf->s.data=[])(H:fo=zf->n=zf->s.out=[])(I:s.out.length<=30000)(hn:decide (l[k].op=11)=n')(X:(doesI m l[k] r (stp s)).1=0):
 ∃U,evP ⟨A0,T,A2⟩ (.code f8 (S8 fa fd fo n r at0++frI l k) (msL fa fd fo n m s a c r tch))=zs (.ok .normal (S8 fa fd fo (n||n') r at0++frI l (k+1)) (msL fa fd fo (n||n') m (doesI m l[k] r (stp s)).2.1 a c (doesI m l[k] r (stp s)).2.2 U)):=by
 have J:decide ((k:Int)<(l.length:Int))=zt:=by simp[Q]
 have hi:=A9 (F:=Ins.F) Q;have Y:=B7 (i:=k) (by omega);have st:=fun d o rest ext tch=>w6 (T:=T) (m:=m) (s:=s) (d:=d) (o:=o) (rest:=rest) (ext:=ext) (tch:=tch) R.hS h V
 have h9:(l[k].op=9)=False:=eq_false D.2.2;have N:=fun cs cz xs xz=>tJ (T:=T) (m:=m) (s:=stp s) (fa:=fa) (fd:=fd) (fo:=fo) (n:=n) (n':=n') (r:=r) (a:=a) (x:=l[k]) (cs:=cs) (cz:=cz) (xs:=xs) (xz:=xz) R ho D G H I hn X
 have B:=(N [c.F] 5 [l[k].F] 8).choose_spec;generalize (N [c.F] 5 [l[k].F] 8).choose=U at B;clear N;generalize doesI m l[k] r (stp s)=y at B|-;unfold f8 Tu Tt Ts Tq Tp S8 frI msL F2 Ro;unfold F2 at B;unfold mB at st B|-;simp only[Ins.F,Cod.F,stp]at hi st B|-;cases fa<;>cases fd<;>cases fo<;>cases n<;>cases n'<;>(
  simp only[dA,dR,oA,oR,aR,nB,nE,uT,oG,dd,F2,mB,Nat.reduceAdd,zqe,zqf,zqg,zkf,zkd]at B|-;simp only[J,hi,st,B,h9,Y,XP,seval];grind)
theorem IX(R:RunT T)(Q:k<l.length)(hl:l.length<=2000000000000)(h:1<=s.steps)(V:s.steps<=20000)(D:1<=l[k].op/\l[k].op<=11/\l[k].op≠9)(ho:InsOk m l[k] r (stp s))(G:fd=zf->s.data=[])(H:fo=zf->n=zf->s.out=[])(I:s.out.length<=30000)(X:¬(doesI m l[k] r (stp s)).1=0):
 ∃U,evP ⟨A0,T,A2⟩ (.code f8 (S8 fa fd fo n r at0++frI l k) (msL fa fd fo n m s a c r tch))=zs (.pan (E2 2 (doesI m l[k] r (stp s)).1) ⟨F2 fa fd fo n m (stp s) a,nE fa fd fo,U⟩):=by
 have J:decide ((k:Int)<(l.length:Int))=zt:=by simp[Q]
 have hi:=A9 (F:=Ins.F) Q;have Y:=B7 (i:=k) (by omega);have st:=fun d o rest ext tch=>w6 (T:=T) (m:=m) (s:=s) (d:=d) (o:=o) (rest:=rest) (ext:=ext) (tch:=tch) R.hS h V
 have h9:(l[k].op=9)=False:=eq_false D.2.2;have N:=fun cs cz xs xz=>mO (T:=T) (m:=m) (s:=stp s) (fa:=fa) (fd:=fd) (fo:=fo) (n:=n) (r:=r) (a:=a) (x:=l[k]) (cs:=cs) (cz:=cz) (xs:=xs) (xz:=xz) R ho D G H I X
 have B:=(N [c.F] 5 [l[k].F] 8).choose_spec;generalize (N [c.F] 5 [l[k].F] 8).choose=U at B;clear N;generalize doesI m l[k] r (stp s)=y at B|-;unfold E2 at B|-;unfold f8 Tu Tt Ts Tq Tp S8 frI msL F2 Ro;unfold F2 at B;unfold mB at st B|-;simp only[Ins.F,Cod.F,stp]at hi st B|-;cases fa<;>cases fd<;>cases fo<;>cases n<;>(
  simp only[dA,dR,oA,oR,aR,nB,nE,uT,oG,dd,F2,mB,Nat.reduceAdd,zqe,zqf,zqg,zkf,zkd]at B|-;simp only[J,hi,st,B,h9,Y,XP,seval];exact⟨_,rfl⟩)
end
section
variable {m:Modl}{s:Mst}{fd fo:Bool}{r:List Int}{x:Ins}{k:Nat}{n':Bool}
def argsI(x:Ins)(r:List Int):List Int:=x.args.map (at' r)
def w7(f:Bool)(j:Nat)(a:List Int):AV:=match f with|true=>.msl j 0 a.length 1|false=>.nilsl
def tK(fd fo:Bool)(r:List Int)(y:AV):PF:=[(0,.ptr 0 0 0),(2,.msl 1 0 r.length 1),(4,.ptr (nE zt fd fo) 0 0),(6,y)]
def tL(x:Ins)(k:Nat):PF:=[(11,fslN (ints x.args)),(12,.int .i64 (x.args.length:Int)),(13,.int .i64 (k:Int))]
def pR(fd fo f:Bool)(m:Modl)(s:Mst)(r:List Int)(x:Ins)(a:List Int):PK:=⟨F2 zt fd fo zf m s r++(.row 1 [x.F] 8::aR f a),nE zt fd fo,[]⟩
theorem PB(D:0<x.args.length)(I:∀y∈x.args,0<=y/\y<r.length):
 evP ⟨A0,T,A2⟩ (.code Lu (tK fd fo r .nilsl++tL x 0) (pR fd fo zf m s r x []))=zs (.ok .normal (tK fd fo r (.msl (nE zt fd fo+1) 0 1 1)++tL x 1) (pR fd fo zt m s r x ((argsI x r).take 1))):=by
 obtain⟨j,H,B⟩:∃j:Nat,x.args[0]=j/\j<r.length:=by have:=I _ (zqc D);exact⟨x.args[0].toNat,by omega,by omega⟩
 have J:ints ((argsI x r).take 1)=[.int .i64 r[j]]:=by
  unfold argsI;cases h:x.args with
  |nil=>grind
  |cons y l=>grind
 have hi:Pb ty3 (fslN (ints x.args)) (.int .i64 0)=zs (.fptr (.int .i64 x.args[0]) 0):=ix_fslN (i:=0) (A8 D) rfl;have G:decide ((0:Int)<(x.args.length:Int))=zt:=by simp[D]
 unfold Lu pC pB tK tL pR F2;unfold mB;simp only[Ins.F];cases fd<;>cases fo<;>(
  simp only[dA,dR,oA,oR,aR,nB,nE];simp only[G,hi,H,B,A8 B,J,show((0:Nat):Int)=0 from rfl,show IntKind.i64.wrap (0+1)=((1:Nat):Int)from rfl,XP,Nat.reduceAdd,Nat.reduceSub,Nat.reduceLT,Nat.reduceLeDiff,Nat.reduceEqDiff,Nat.reduceMul,↓reduceIte])
theorem PD(D:k<x.args.length)(h0:0<k)(N:∀y∈x.args,0<=y/\y<r.length)(hl:x.args.length<=100000):
 evP ⟨A0,T,A2⟩ (.code Lu (tK fd fo r (.msl (nE zt fd fo+1) 0 k 1)++tL x k) (pR fd fo zt m s r x ((argsI x r).take k)))=zs (.ok .normal (tK fd fo r (.msl (nE zt fd fo+1) 0 (k+1) 1)++tL x (k+1)) (pR fd fo zt m s r x ((argsI x r).take (k+1)))):=by
 obtain⟨j,J,B⟩:∃j:Nat,x.args[k]=j/\j<r.length:=by have:=N _ (zqc D);exact⟨x.args[k].toNat,by omega,by omega⟩
 have G:k<(argsI x r).length:=by grind [argsI]
 have hg:(argsI x r)[k]=r[j]:=by simp[argsI,J,B]
 have I:=Ns G;rw[hg]at I;have Q:(ints ((argsI x r).take k)).length=k:=by simp;omega
 have U:=B7 (i:=k) (by omega);have hz:(k+1)*8<=140737488355328:=by omega
 have hi:=A8 D;have H:decide ((k:Int)<(x.args.length:Int))=zt:=by simp[D]
 unfold Lu pC pB tK tL pR F2;unfold mB;simp only[Ins.F];cases fd<;>cases fo<;>(
  simp_all [dA, dR, oA, oR, aR, nB, nE, XP])
theorem GE{y:AV}{K:PK}:∃fr',evP ⟨A0,T,A2⟩ (.code Lu (tK fd fo r y++tL x x.args.length) K)=zs (.ok (.exit 0) fr' K)/\lookP fr' 0=.ptr 0 0 0/\lookP fr' 2=.msl 1 0 r.length 1/\lookP fr' 4=.ptr (nE zt fd fo) 0 0/\lookP fr' 6=y:=by
 unfold Lu pC pB tK tL;have B:decide ((x.args.length:Int)<(x.args.length:Int))=zf:=by simp
 simp only[B,XP,seval];exact⟨_,rfl,rfl,rfl,rfl,rfl⟩
def neE(l:List Int):Bool:=!l.isEmpty
theorem xY(D:∀y∈x.args,0<=y/\y<r.length)(hl:x.args.length<=100000):∃fr',evP ⟨A0,T,A2⟩ (.code (.loop Lu) (tK fd fo r .nilsl++tL x 0) (pR fd fo zf m s r x []))=zs (.ok (.exit 0) fr' (pR fd fo (neE (argsI x r)) m s r x (argsI x r)))/\lookP fr' 0=.ptr 0 0 0/\lookP fr' 2=.msl 1 0 r.length 1/\lookP fr' 4=.ptr (nE zt fd fo) 0 0/\lookP fr' 6=w7 (neE (argsI x r)) (nE zt fd fo+1) (argsI x r):=by
 by_cases h0:x.args.length=0
 . have G:x.args=[]:=zqy.1 h0
   obtain⟨fr',e,p⟩:=GE (T:=T) (fd:=fd) (fo:=fo) (r:=r) (x:=x) (y:=.nilsl) (K:=pR fd fo zf m s r x []);rw[h0]at e;have H:argsI x r=[]:=by grind [argsI]
   rw[H];exact⟨fr',E3 e,p⟩
 . have:=Xf (P:=⟨A0,T,A2⟩) (c:=Lu) (fun i=>(tK fd fo r (.msl (nE zt fd fo+1) 0 (i+1) 1)++tL x (i+1),pR fd fo zt m s r x ((argsI x r).take (i+1)))) (x.args.length-1) fun i hi=>PD (by omega) (by omega) D hl
   obtain ⟨fr',e,p⟩:=GE (T:=T) (fd:=fd) (fo:=fo) (r:=r) (x:=x) (y:=.msl (nE zt fd fo+1) 0 x.args.length 1) (K:=pR fd fo zt m s r x (argsI x r));have hn:neE (argsI x r)=zt:=by
    unfold neE argsI;simp_all
   grind [argsI, w7, loop_more, PB, E3]
end
inductive Rs where
 |ret (v:Int) (s:Mst)
 |stop (st c:Int) (s:Mst)
def Rs.st:Rs->Mst | .ret _ s=>s | .stop _ _ s=>s
def CH(x:Rs)(K:Mst->PK):PR:=match x with | .ret v s=>.val [.int .i64 v] (K s) | .stop st c s=>.pan (E2 st c) (K s)
def xZ(T:Nat->Option (List AV->Option (List AV)))(m:Modl)(C:Int->List Int->Mst->Rs)(B:Int->List Int->Mst->Prop):Prop:=
 ∀ (fa fd fo:Bool) (f:Int) (a:List Int) (s:Mst),B f a s->(fa=zf->a=[])->(fd=zf->s.data=[])->(fo=zf->s.out=[]) ->
   ∃n' D,(fo=zf->n'=zf->(C f a s).st.out=[])/\evP ⟨A0,T,A2⟩ (.body 25 [.ptr 0 0 0,.int .i64 f,w7 fa 1 a] ⟨F2 fa fd fo zf m s a,nE fa fd fo,[]⟩)=zs (CH (C f a s) fun s'=>⟨F2 fa fd fo n' m s' a,nE fa fd fo,D⟩)
section
variable {m:Modl}{s s':Mst}{fa fd fo n':Bool}{r a:List Int}{x:Ins}{xs:List AV}{xz:Nat}{f v:Int}{t0:List Nat}
def tM(fa fd fo:Bool):List Nat:=0::((match fa with|true=>[nE zt fd fo+1]|false=>[])++((match fd with|true=>[2]|false=>[])++(match fo with|true=>[2+nB fd]|false=>[])))
theorem yA(R:RunT T)(hb:evP ⟨A0,T,A2⟩ (.body 25 [.ptr 0 0 0,.int .i64 f,w7 fa 1 a] ⟨F2 fa fd fo zf m s a,nE fa fd fo,[]⟩)=zs (.val [.int .i64 v] ⟨F2 fa fd fo n' m s' a,nE fa fd fo,t0⟩)):
 ∃B,∀tch,evP ⟨A0,T,A2⟩ (.call 25 [.ptr 0 0 0,.int .i64 f,w7 fa (nE zt fd fo+1) a] ⟨F2 zt fd fo zf m s r++(.row 1 xs xz::aR fa a),nE zt fd fo,tch⟩)=zs (.val [.int .i64 v] ⟨uT zt fd fo zf n' m s' r (nE zt fd fo+1+nB fa)++(.row 1 xs xz::(aR fa a++oG n' s'.out)),nE zt fd fo,B++tch⟩):=by
 refine⟨((t0.filter (· < (tM fa fd fo).length)).map fun j=>(tM fa fd fo).getD j 0),fun tch=>rF (ids:=tM fa fd fo) (args':=[.ptr 0 0 0,.int .i64 f,w7 fa 1 a]) (Kf:=⟨F2 fa fd fo zf m s a,nE fa fd fo,[]⟩) R.hL rfl ?_ ?_ ?_ hb ?_ ?_⟩<;>cases fa<;>cases fd<;>cases fo<;>cases n'<;>rfl
theorem CI{st c:Int}(R:RunT T)(hb:evP ⟨A0,T,A2⟩ (.body 25 [.ptr 0 0 0,.int .i64 f,w7 fa 1 a] ⟨F2 fa fd fo zf m s a,nE fa fd fo,[]⟩)=zs (.pan (E2 st c) ⟨F2 fa fd fo n' m s' a,nE fa fd fo,t0⟩)):
 ∃B,∀tch,evP ⟨A0,T,A2⟩ (.call 25 [.ptr 0 0 0,.int .i64 f,w7 fa (nE zt fd fo+1) a] ⟨F2 zt fd fo zf m s r++(.row 1 xs xz::aR fa a),nE zt fd fo,tch⟩)=zs (.pan (E2 st c) ⟨uT zt fd fo zf n' m s' r (nE zt fd fo+1+nB fa)++(.row 1 xs xz::(aR fa a++oG n' s'.out)),nE zt fd fo,B++tch⟩):=by
 refine⟨((t0.filter (· < (tM fa fd fo).length)).map fun j=>(tM fa fd fo).getD j 0),fun tch=>dG (ids:=tM fa fd fo) (args':=[.ptr 0 0 0,.int .i64 f,w7 fa 1 a]) (Kf:=⟨F2 fa fd fo zf m s a,nE fa fd fo,[]⟩) R.hL rfl ?_ ?_ ?_ hb ?_ ?_⟩<;>cases fa<;>cases fd<;>cases fo<;>cases n'<;>rfl
theorem PG(R:RunT T)(U:∀y∈x.args,0<=y/\y<r.length)(hl:x.args.length<=100000)(hd:0<=x.dst)(hd2:x.dst<r.length)(hb:evP ⟨A0,T,A2⟩ (.body 25 [.ptr 0 0 0,.int .i64 x.n,w7 (neE (argsI x r)) 1 (argsI x r)] ⟨F2 (neE (argsI x r)) fd fo zf m s (argsI x r),nE (neE (argsI x r)) fd fo,[]⟩)=zs (.val [.int .i64 v] ⟨F2 (neE (argsI x r)) fd fo n' m s' (argsI x r),nE (neE (argsI x r)) fd fo,t0⟩)):∃I,evP ⟨A0,T,A2⟩ (.body 40 [.ptr 0 0 0,x.F,.msl 1 0 r.length 1] ⟨F2 zt fd fo zf m s r,nE zt fd fo,[]⟩)=zs (.val [] ⟨F2 zt fd fo n' m s' (put' r x.dst v),nE zt fd fo,I⟩):=by
 obtain⟨I,hc⟩:=yA (r:=r) (xs:=[x.F]) (xz:=8) R hb;obtain⟨fr',B,J,N,Q,H⟩:=xY (T:=T) (m:=m) (s:=s) (fd:=fd) (fo:=fo) U hl;obtain⟨d,D,G⟩:∃d:Nat,x.dst=d/\d<r.length:=⟨x.dst.toNat,by omega,by omega⟩
 have h0:decide ((d:Int)>=0)=zt:=by simp
 generalize neE (argsI x r)=fa at hc B H;generalize argsI x r=a at hc B H;rw[A4 (c:=FE) (nt:=38) (rs:=[]) rfl (by simp)];unfold FE;unfold pI pH pG pF pE pD;unfold tK tL pR F2 at B;unfold F2 at hc|-;unfold mB at hc B|-;simp only[Ins.F]at hc B|-;cases fa<;>cases fd<;>cases fo<;>cases n'<;>(
  simp only[dA,dR,oA,oR,aR,nB,nE,uT,oG,dd,F2,mB,w7,Nat.reduceAdd,zqe,zqf,zqg,put',D,zqz,show((0:Nat):Int)=0 from rfl]at hc B J N Q H|-;simp only[hc,B,J,N,Q,H,D,h0,A8 G,G,N5,zqa,show((0:Nat):Int)=0 from rfl,XP,Nat.reduceAdd,Nat.reduceSub,Nat.reduceLT,Nat.reduceLeDiff,Nat.reduceEqDiff,Nat.reduceMul,↓reduceIte];grind)
theorem PH(R:RunT T)(N:∀y∈x.args,0<=y/\y<r.length)(hl:x.args.length<=100000)(hd:¬0<=x.dst)(hb:evP ⟨A0,T,A2⟩ (.body 25 [.ptr 0 0 0,.int .i64 x.n,w7 (neE (argsI x r)) 1 (argsI x r)] ⟨F2 (neE (argsI x r)) fd fo zf m s (argsI x r),nE (neE (argsI x r)) fd fo,[]⟩)=zs (.val [.int .i64 v] ⟨F2 (neE (argsI x r)) fd fo n' m s' (argsI x r),nE (neE (argsI x r)) fd fo,t0⟩)):∃G,evP ⟨A0,T,A2⟩ (.body 40 [.ptr 0 0 0,x.F,.msl 1 0 r.length 1] ⟨F2 zt fd fo zf m s r,nE zt fd fo,[]⟩)=zs (.val [] ⟨F2 zt fd fo n' m s' r,nE zt fd fo,G⟩):=by
 obtain⟨G,hc⟩:=yA (r:=r) (xs:=[x.F]) (xz:=8) R hb;obtain⟨fr',B,H,I,J,D⟩:=xY (T:=T) (m:=m) (s:=s) (fd:=fd) (fo:=fo) N hl;have h0:decide (x.dst>=0)=zf:=by simp;omega
 generalize neE (argsI x r)=fa at hc B D;generalize argsI x r=a at hc B D;rw[A4 (c:=FE) (nt:=38) (rs:=[]) rfl (by simp)];unfold FE;unfold pI pH pG pF pE pD;unfold tK tL pR F2 at B;unfold F2 at hc|-;unfold mB at hc B|-;simp only[Ins.F]at hc B|-;cases fa<;>cases fd<;>cases fo<;>cases n'<;>(
  simp only[dA,dR,oA,oR,aR,nB,nE,uT,oG,dd,F2,mB,w7,Nat.reduceAdd,zqe,zqf,zqg,show((0:Nat):Int)=0 from rfl]at hc B H I J D|-;simp only[hc,B,H,I,J,D,h0,zqa,show((0:Nat):Int)=0 from rfl,XP,Nat.reduceAdd,Nat.reduceSub,Nat.reduceLT,Nat.reduceLeDiff,Nat.reduceEqDiff,Nat.reduceMul,↓reduceIte];grind)
theorem PI(R:RunT T)(N:∀y∈x.args,0<=y/\y<r.length)(hl:x.args.length<=100000){st c:Int}(hb:evP ⟨A0,T,A2⟩ (.body 25 [.ptr 0 0 0,.int .i64 x.n,w7 (neE (argsI x r)) 1 (argsI x r)] ⟨F2 (neE (argsI x r)) fd fo zf m s (argsI x r),nE (neE (argsI x r)) fd fo,[]⟩)=zs (.pan (E2 st c) ⟨F2 (neE (argsI x r)) fd fo n' m s' (argsI x r),nE (neE (argsI x r)) fd fo,t0⟩)):∃G,evP ⟨A0,T,A2⟩ (.body 40 [.ptr 0 0 0,x.F,.msl 1 0 r.length 1] ⟨F2 zt fd fo zf m s r,nE zt fd fo,[]⟩)=zs (.pan (E2 st c) ⟨F2 zt fd fo n' m s' r,nE zt fd fo,G⟩):=by
 obtain ⟨G,hc⟩:=CI (r:=r) (xs:=[x.F]) (xz:=8) R hb;obtain⟨fr',B,H,I,J,D⟩:=xY (T:=T) (m:=m) (s:=s) (fd:=fd) (fo:=fo) N hl;unfold E2 at hc|-;generalize neE (argsI x r)=fa at hc B D;generalize argsI x r=a at hc B D;rw[A4 (c:=FE) (nt:=38) (rs:=[]) rfl (by simp)];unfold FE;unfold pI pH pG pF pE pD;unfold tK tL pR F2 at B;unfold F2 at hc|-;unfold mB at hc B|-;simp only[Ins.F]at hc B|-;cases fa<;>cases fd<;>cases fo<;>cases n'<;>(
  simp only[dA,dR,oA,oR,aR,nB,nE,uT,oG,dd,F2,mB,w7,Nat.reduceAdd,zqe,zqf,zqg,show((0:Nat):Int)=0 from rfl]at hc B H I J D|-;simp only[hc,B,H,I,J,D,zqa,show((0:Nat):Int)=0 from rfl,XP,Nat.reduceAdd,Nat.reduceSub,Nat.reduceLT,Nat.reduceLeDiff,Nat.reduceEqDiff,Nat.reduceMul,↓reduceIte];exact⟨_,rfl⟩)
end
section
variable {m:Modl}{s s2:Mst}{fa fd fo n n':Bool}{r r2 a:List Int}{c:Cod}{l:List Ins}{k:Nat}{at0:Int}{tch t0:List Nat}{x:Ins}{cs xs:List AV}{cz xz:Nat}
theorem IY(R:RunT T)(hb:evP ⟨A0,T,A2⟩ (.body 40 [.ptr 0 0 0,x.F,.msl 1 0 r.length 1] ⟨F2 zt fd (fo||n) zf m s r,nE zt fd (fo||n),[]⟩)=zs (.val [] ⟨F2 zt fd (fo||n) n' m s2 r2,nE zt fd (fo||n),t0⟩)):
 ∃B,∀tch,evP ⟨A0,T,A2⟩ (.call 40 [.ptr 0 0 0,x.F,.msl (nE fa fd fo+nB n+1) 0 r.length 1] ⟨F2 fa fd fo n m s a++[.row 1 cs cz,.row 0 (ints r) 1,.row 1 xs xz],nE fa fd fo,tch⟩)=zs (.val [] ⟨uT fa fd fo n n' m s2 a (nE fa fd fo+nB n+3)++(.row 1 cs cz::.row 0 (ints r2) 1::.row 1 xs xz::oG n' s2.out),nE fa fd fo,B++tch⟩):=by
 refine⟨((t0.filter (· < (Qv fa fd fo n (nE fa fd fo+nB n+1)).length)).map fun j=>(Qv fa fd fo n (nE fa fd fo+nB n+1)).getD j 0),fun tch=>rF (ids:=Qv fa fd fo n (nE fa fd fo+nB n+1)) (args':=[.ptr 0 0 0,x.F,.msl 1 0 r.length 1]) (Kf:=⟨F2 zt fd (fo||n) zf m s r,nE zt fd (fo||n),[]⟩) R.hC rfl ?_ ?_ ?_ hb ?_ ?_⟩<;>cases fa<;>cases fd<;>cases fo<;>cases n<;>cases n'<;>rfl
theorem CJ{st e:Int}(R:RunT T)(hb:evP ⟨A0,T,A2⟩ (.body 40 [.ptr 0 0 0,x.F,.msl 1 0 r.length 1] ⟨F2 zt fd (fo||n) zf m s r,nE zt fd (fo||n),[]⟩)=zs (.pan (E2 st e) ⟨F2 zt fd (fo||n) n' m s2 r,nE zt fd (fo||n),t0⟩)):
 ∃B,∀tch,evP ⟨A0,T,A2⟩ (.call 40 [.ptr 0 0 0,x.F,.msl (nE fa fd fo+nB n+1) 0 r.length 1] ⟨F2 fa fd fo n m s a++[.row 1 cs cz,.row 0 (ints r) 1,.row 1 xs xz],nE fa fd fo,tch⟩)=zs (.pan (E2 st e) ⟨uT fa fd fo n n' m s2 a (nE fa fd fo+nB n+3)++(.row 1 cs cz::.row 0 (ints r) 1::.row 1 xs xz::oG n' s2.out),nE fa fd fo,B++tch⟩):=by
 refine⟨((t0.filter (· < (Qv fa fd fo n (nE fa fd fo+nB n+1)).length)).map fun j=>(Qv fa fd fo n (nE fa fd fo+nB n+1)).getD j 0),fun tch=>dG (ids:=Qv fa fd fo n (nE fa fd fo+nB n+1)) (args':=[.ptr 0 0 0,x.F,.msl 1 0 r.length 1]) (Kf:=⟨F2 zt fd (fo||n) zf m s r,nE zt fd (fo||n),[]⟩) R.hC rfl ?_ ?_ ?_ hb ?_ ?_⟩<;>cases fa<;>cases fd<;>cases fo<;>cases n<;>cases n'<;>rfl
theorem CK(R:RunT T)(H:k<l.length)(hl:l.length<=2000000000000)(h:1<=s.steps)(J:s.steps<=20000)(D:l[k].op=9)(hb:evP ⟨A0,T,A2⟩ (.body 40 [.ptr 0 0 0,l[k].F,.msl 1 0 r.length 1] ⟨F2 zt fd (fo||n) zf m (stp s) r,nE zt fd (fo||n),[]⟩)=zs (.val [] ⟨F2 zt fd (fo||n) n' m s2 r2,nE zt fd (fo||n),t0⟩)):
 ∃I,evP ⟨A0,T,A2⟩ (.code f8 (S8 fa fd fo n r at0++frI l k) (msL fa fd fo n m s a c r tch))=zs (.ok .normal (S8 fa fd fo (n||n') r at0++frI l (k+1)) (msL fa fd fo (n||n') m s2 a c r2 I)):=by
 have G:decide ((k:Int)<(l.length:Int))=zt:=by simp[H]
 have hi:=A9 (F:=Ins.F) H;have N:=B7 (i:=k) (by omega);have st:=fun d o rest ext tch=>w6 (T:=T) (m:=m) (s:=s) (d:=d) (o:=o) (rest:=rest) (ext:=ext) (tch:=tch) R.hS h J
 have Q:(l[k].op=9)=True:=eq_true D;obtain⟨I,B⟩:=IY (fa:=fa) (a:=a) (cs:=[c.F]) (cz:=5) (xs:=[l[k].F]) (xz:=8) R hb;clear hb;unfold f8 Tu Tt Ts Tq Tp S8 frI msL F2 Ro;unfold F2 at B;unfold mB at st B|-;simp only[Ins.F,Cod.F,stp]at hi st B|-;cases fa<;>cases fd<;>cases fo<;>cases n<;>cases n'<;>(
  simp only[dA,dR,oA,oR,aR,nB,nE,uT,oG,dd,F2,mB,Nat.reduceAdd,zqe,zqf,zqg,zkf,zkd]at B|-;simp only[G,hi,st,B,Q,N,XP,seval];grind)
theorem yB{z e:Int}(R:RunT T)(H:k<l.length)(hl:l.length<=2000000000000)(h:1<=s.steps)(J:s.steps<=20000)(D:l[k].op=9)(hb:evP ⟨A0,T,A2⟩ (.body 40 [.ptr 0 0 0,l[k].F,.msl 1 0 r.length 1] ⟨F2 zt fd (fo||n) zf m (stp s) r,nE zt fd (fo||n),[]⟩)=zs (.pan (E2 z e) ⟨F2 zt fd (fo||n) n' m s2 r,nE zt fd (fo||n),t0⟩)):
 ∃I,evP ⟨A0,T,A2⟩ (.code f8 (S8 fa fd fo n r at0++frI l k) (msL fa fd fo n m s a c r tch))=zs (.pan (E2 z e) ⟨F2 fa fd fo (n||n') m s2 a,nE fa fd fo,I⟩):=by
 have G:decide ((k:Int)<(l.length:Int))=zt:=by simp[H]
 have hi:=A9 (F:=Ins.F) H;have st:=fun d o rest ext tch=>w6 (T:=T) (m:=m) (s:=s) (d:=d) (o:=o) (rest:=rest) (ext:=ext) (tch:=tch) R.hS h J
 have N:(l[k].op=9)=True:=eq_true D;obtain⟨I,B⟩:=CJ (fa:=fa) (a:=a) (cs:=[c.F]) (cz:=5) (xs:=[l[k].F]) (xz:=8) R hb;clear hb;unfold E2 at B|-;unfold f8 Tu Tt Ts Tq Tp S8 frI msL F2 Ro;unfold F2 at B;unfold mB at st B|-;simp only[Ins.F,Cod.F,stp]at hi st B|-;cases fa<;>cases fd<;>cases fo<;>cases n<;>cases n'<;>(
  simp only[dA,dR,oA,oR,aR,nB,nE,uT,oG,dd,F2,mB,Nat.reduceAdd,zqe,zqf,zqg,zkf,zkd]at B|-;simp only[G,hi,st,B,N,XP,seval];exact⟨_,rfl⟩)
theorem A1q:evP ⟨A0,T,A2⟩ (.code f8 (S8 fa fd fo n r at0++frI l l.length) (msL fa fd fo n m s a c r2 tch))=zs (.ok (.exit 2) ((49,.bool zf)::(S8 fa fd fo n r at0++frI l l.length)) (msL fa fd fo n m s a c r2 tch)):=by
 have B:decide ((l.length:Int)<(l.length:Int))=zf:=by simp
 simp_all [f8, Tu, S8, frI, XP]
end
section
variable {m:Modl}{s:Mst}{fa fd fo n:Bool}{r a:List Int}{c:Cod}{i:Nat}{tch:List Nat}
theorem PL(R:RunT T)(hi:i<c.blocks.length)(h:¬1<=s.steps):∃B,evP ⟨A0,T,A2⟩ (.code R0 (S8 fa fd fo n r (i:Int)) (msL fa fd fo n m s a c r tch))=zs (.pan (E2 3 0) ⟨F2 fa fd fo n m s a++[Ro c,.row 0 (ints r) 1],nE fa fd fo,B⟩):=by
 have st:=fun d o rest ext tch=>pQ (T:=T) (m:=m) (s:=s) (d:=d) (o:=o) (rest:=rest) (ext:=ext) (tch:=tch) R.hS h
 unfold R0 Jo Jn Jm Tx Tw Tv S8 msL F2 Ro;unfold mB at st|-;simp only[Cod.F,E2]at st|-;cases fa<;>cases fd<;>cases fo<;>cases n<;>(
  simp only[dA,dR,oA,oR,aR,nB,nE];simp only[st,XP,seval];grind)
theorem PM(R:RunT T)(hi:i<c.blocks.length)(h:1<=s.steps)(B:s.steps<=20000)(D:c.blocks[i].e.kind=3)(ha:c.blocks[i].e.a<0)(h1:0<=s.calls)(h2:s.calls<=40):∃G,evP ⟨A0,T,A2⟩ (.code R0 (S8 fa fd fo n r (i:Int)) (msL fa fd fo n m s a c r tch))=zs (.ok .ret [(6,.int .i64 0)] ⟨F2 fa fd fo n m {stp s with calls:=s.calls-1} a,nE fa fd fo,G⟩):=by
 have st:=fun d o rest ext tch=>w6 (T:=T) (m:=m) (s:=s) (d:=d) (o:=o) (rest:=rest) (ext:=ext) (tch:=tch) R.hS h B
 have hb:=A9 (F:=Blk.F) hi;have hc:=Bc (n:=s.calls-1) (by omega) (by omega);unfold R0 Jo Jn Jm Tx Tw Tv S8 msL F2 Ro;unfold mB at st|-;simp only[Cod.F,Blk.F,stp]at hb st|-;cases fa<;>cases fd<;>cases fo<;>cases n<;>(
  simp only[dA,dR,oA,oR,aR,nB,nE,F2,mB,Nat.reduceAdd,zqe,zqf,zqg];simp only[st,hb,hc,eq_true D,eq_true ha,XP,seval];grind)
theorem PN(R:RunT T)(hi:i<c.blocks.length)(h:1<=s.steps)(H:s.steps<=20000)(I:c.blocks[i].e.kind=3)(ha:0<=c.blocks[i].e.a/\c.blocks[i].e.a<r.length)(h1:0<=s.calls)(h2:s.calls<=40):∃J,evP ⟨A0,T,A2⟩ (.code R0 (S8 fa fd fo n r (i:Int)) (msL fa fd fo n m s a c r tch))=zs (.ok .ret [(6,.int .i64 (at' r c.blocks[i].e.a))] ⟨F2 fa fd fo n m {stp s with calls:=s.calls-1} a,nE fa fd fo,J⟩):=by
 have st:=fun d o rest ext tch=>w6 (T:=T) (m:=m) (s:=s) (d:=d) (o:=o) (rest:=rest) (ext:=ext) (tch:=tch) R.hS h H
 have hb:=A9 (F:=Blk.F) hi;have hc:=Bc (n:=s.calls-1) (by omega) (by omega);obtain⟨d,G,B⟩:∃d:Nat,c.blocks[i].e.a=d/\d<r.length:=⟨c.blocks[i].e.a.toNat,by omega,by omega⟩
 have D:((d:Int)<0)=False:=eq_false (by omega);simp only[at',G,zqz,gD B];unfold R0 Jo Jn Jm Tx Tw Tv S8 msL F2 Ro;unfold mB at st|-;simp only[Cod.F,Blk.F,stp]at hb st|-;cases fa<;>cases fd<;>cases fo<;>cases n<;>(
  simp only[dA,dR,oA,oR,aR,nB,nE,F2,mB,Nat.reduceAdd,zqe,zqf,zqg];simp only[st,hb,hc,eq_true I,G,D,A8 B,B,XP,seval];grind)
theorem PP(R:RunT T)(hi:i<c.blocks.length)(h:1<=s.steps)(H:s.steps<=20000)(I:c.blocks[i].e.kind=2)(ha:0<=c.blocks[i].e.a/\c.blocks[i].e.a<r.length)(D:at' r c.blocks[i].e.a=0):∃J,evP ⟨A0,T,A2⟩ (.code R0 (S8 fa fd fo n r (i:Int)) (msL fa fd fo n m s a c r tch))=zs (.ok .normal (S8 fa fd fo n r c.blocks[i].e.els) (msL fa fd fo n m (stp s) a c r J)):=by
 have st:=fun d o rest ext tch=>w6 (T:=T) (m:=m) (s:=s) (d:=d) (o:=o) (rest:=rest) (ext:=ext) (tch:=tch) R.hS h H
 have hb:=A9 (F:=Blk.F) hi;obtain⟨d,G,B⟩:∃d:Nat,c.blocks[i].e.a=d/\d<r.length:=(by grind)
 simp only[at',G,zqz,gD B]at D;unfold R0 Jo Jn Jm Tx Tw Tv S8 msL F2 Ro;unfold mB at st|-;simp only[Cod.F,Blk.F,stp]at hb st|-;cases fa<;>cases fd<;>cases fo<;>cases n<;>(
  simp only[dA,dR,oA,oR,aR,nB,nE,F2,mB,Nat.reduceAdd,zqe,zqf,zqg];simp only[st,hb,eq_true I,(show ¬c.blocks[i].e.kind=3 by omega),G,A8 B,B,D,XP,seval];grind)
theorem PQ(R:RunT T)(hi:i<c.blocks.length)(h:1<=s.steps)(H:s.steps<=20000)(I:c.blocks[i].e.kind=2)(ha:0<=c.blocks[i].e.a/\c.blocks[i].e.a<r.length)(D:¬at' r c.blocks[i].e.a=0):∃J,evP ⟨A0,T,A2⟩ (.code R0 (S8 fa fd fo n r (i:Int)) (msL fa fd fo n m s a c r tch))=zs (.ok .normal (S8 fa fd fo n r c.blocks[i].e.to) (msL fa fd fo n m (stp s) a c r J)):=by
 have st:=fun d o rest ext tch=>w6 (T:=T) (m:=m) (s:=s) (d:=d) (o:=o) (rest:=rest) (ext:=ext) (tch:=tch) R.hS h H
 have hb:=A9 (F:=Blk.F) hi;obtain⟨d,G,B⟩:∃d:Nat,c.blocks[i].e.a=d/\d<r.length:=(by grind)
 simp only[at',G,zqz,gD B]at D;unfold R0 Jo Jn Jm Tx Tw Tv S8 msL F2 Ro;unfold mB at st|-;simp only[Cod.F,Blk.F,stp]at hb st|-;cases fa<;>cases fd<;>cases fo<;>cases n<;>(
  simp only[dA,dR,oA,oR,aR,nB,nE,F2,mB,Nat.reduceAdd,zqe,zqf,zqg];simp only[st,hb,eq_true I,(show ¬c.blocks[i].e.kind=3 by omega),G,A8 B,B,D,XP,seval];grind)
theorem PS(R:RunT T)(hi:i<c.blocks.length)(h:1<=s.steps)(B:s.steps<=20000)(hk:c.blocks[i].e.kind=1):∃D,evP ⟨A0,T,A2⟩ (.code R0 (S8 fa fd fo n r (i:Int)) (msL fa fd fo n m s a c r tch))=zs (.ok .normal (S8 fa fd fo n r c.blocks[i].e.to) (msL fa fd fo n m (stp s) a c r D)):=by
 have st:=fun d o rest ext tch=>w6 (T:=T) (m:=m) (s:=s) (d:=d) (o:=o) (rest:=rest) (ext:=ext) (tch:=tch) R.hS h B
 have hb:=A9 (F:=Blk.F) hi;unfold R0 Jo Jn Jm Tx Tw Tv S8 msL F2 Ro;unfold mB at st|-;simp only[Cod.F,Blk.F,stp]at hb st|-;cases fa<;>cases fd<;>cases fo<;>cases n<;>(
  simp only[dA,dR,oA,oR,aR,nB,nE,F2,mB,Nat.reduceAdd,zqe,zqf,zqg];simp only[st,hb,(show ¬c.blocks[i].e.kind=3 by omega),(show ¬c.blocks[i].e.kind=2 by omega),XP,seval];grind)
end
inductive I2 where
 |go (r:List Int) (s:Mst)
 |stop (st c:Int) (s:Mst)
def insF(m:Modl)(C:Int->List Int->Mst->Rs):List Ins->List Int->Mst->I2
 |[],r,s=>.go r s
 | x :: l,r,s=>if s.steps<1 then .stop 3 0 s else if x.op=9 then(match C x.n (argsI x r) (stp s)with
     |.ret v s2=>insF m C l (if 0<=x.dst then put' r x.dst v else r) s2
     |.stop st c s2=>.stop st c s2)
  else if(doesI m x r (stp s)).1=0 then insF m C l (doesI m x r (stp s)).2.2 (doesI m x r (stp s)).2.1 else .stop 2 (doesI m x r (stp s)).1 (stp s)
def blkAt(c:Cod)(i:Int):Blk:=c.blocks.getD i.toNat ⟨[],⟨0,0,0,0⟩⟩
def N6(m:Modl)(C:Int->List Int->Mst->Rs)(c:Cod):Nat->Int->List Int->Mst->Rs
 |0,_,_,s=>.stop 3 0 s
 | n+1,i,r,s=>match insF m C (blkAt c i).code r s with
  |.stop st e s=>.stop st e s
  | .go r s=>if s.steps<1 then .stop 3 0 s
   else if(blkAt c i).e.kind=3 then .ret (if(blkAt c i).e.a<0 then 0 else at' r (blkAt c i).e.a) {stp s with calls:=s.calls-1}
   else N6 m C c n (if(blkAt c i).e.kind=2/\at' r (blkAt c i).e.a=0 then(blkAt c i).e.els else(blkAt c i).e.to) r (stp s)
def Q4(m:Modl)(f:Int):Cod:=m.fs.getD f.toNat ⟨[],0,0,[],[]⟩
def initR(n:Nat)(a:List Int):List Int:=a.take n++List.replicate (n-a.length) 0
def M9(m:Modl):Nat->Int->List Int->Mst->Rs
 |0,_,_,s=>.stop 2 4 s
 | d+1,f,a,s=>if 32<=s.calls then .stop 2 4 s
  else N6 m (M9 m d) (Q4 m f) (s.steps.toNat+1) 0 (initR (Q4 m f).regs.length a) {s with calls:=s.calls+1}
def u4(m:Modl)(d:List (List Int)):Prop:=d.length=m.gs.length/\∀(i:Nat) l g,d[i]?=zs l->m.gs[i]?=zs g->(l.length:Int)=max g.size 1
structure Sok(m:Modl)(s:Mst):Prop where
 d:u4 m s.data
 st:s.steps<=20000
 ou:s.out.length+s.steps.toNat<=30000
 ca:0<=s.calls/\s.calls<=33
structure InsR(m:Modl)(nr:Nat)(x:Ins):Prop where
 op:1<=x.op/\x.op<=11
 dst:x.op=1\/x.op=2\/x.op=3\/x.op=4\/x.op=5\/x.op=7\/x.op=10->0<=x.dst/\x.dst<nr
 a:x.op=2\/x.op=3\/x.op=4\/x.op=5\/x.op=6\/x.op=8\/x.op=11->0<=x.a/\x.a<nr
 b:x.op=3\/x.op=6->0<=x.b/\x.b<nr
 n:x.op=5\/x.op=6\/x.op=7\/x.op=8->0<=x.n/\x.n<m.gs.length
 c:x.op=9->(0<=x.n/\x.n<m.fs.length)/\(∀y∈x.args,0<=y/\y<nr)/\x.args.length<=100000/\x.dst<nr
structure EndR(nb nr:Nat)(e:Endd):Prop where
 k:1<=e.kind/\e.kind<=3
 a3:e.kind=3->e.a<nr
 a2:e.kind=2->0<=e.a/\e.a<nr
 to:e.kind≠3->0<=e.to/\e.to<nb
 els:e.kind=2->0<=e.els/\e.els<nb
structure CodR(m:Modl)(c:Cod):Prop where
 nb:1<=c.blocks.length
 b:∀b∈c.blocks,b.code.length<=2000000000000/\(∀x∈b.code,InsR m c.regs.length x)/\EndR c.blocks.length c.regs.length b.e
 nr:c.regs.length<=100000
structure ModR'(m:Modl):Prop where
 f:∀c∈m.fs,CodR m c
theorem Sok.stp{m:Modl}{s:Mst}(h:Sok m s)(h1:1<=s.steps):Sok m (stp s)/\(stp s).out.length+(stp s).steps.toNat+1<=30000:=by
 have:=h.ou;have:=h.st
 refine⟨⟨h.d,?_,?_,h.ca⟩,?_⟩<;>simp only[AmEnv.stp]<;>omega
theorem InsR.ok{m:Modl}{s:Mst}{x:Ins}{r:List Int}(h:InsR m r.length x)(B:u4 m s.data):InsOk m x r s:=⟨h.dst,h.a,h.b,h.n,B⟩
theorem put_len(l:List Int)(i v:Int):(put' l i v).length=l.length:=by simp[put']
theorem u4.set{m:Modl}{d:List (List Int)}(h:u4 m d)(i:Nat)(j v:Int):u4 m (d.set i (put' (d.getD i []) j v)):=by
 refine⟨by simp[h.1],fun k l g B hg=>?_⟩;rw[List.getElem?_set]at B;split at B
 . rename_i e;subst e
   split at B
   . rename_i hl
     cases B;rw[put_len];exact h.2 i _ g (by simp[hl]) hg
   . cases B
 . exact h.2 k l g B hg
theorem tN{m:Modl}{s:Mst}{x:Ins}{r:List Int}(B:u4 m s.data):u4 m (doesI m x r s).2.1.data/\(doesI m x r s).2.1.steps=s.steps/\(doesI m x r s).2.1.calls=s.calls/\(doesI m x r s).2.1.out.length<=s.out.length+1/\(doesI m x r s).2.2.length=r.length/\(x.op≠11->(doesI m x r s).2.1.out=s.out):=by
 unfold doesI
 repeat' split
 all_goals first
  |exact⟨B,rfl,rfl,Nat.le_succ _,by grind,fun _=>rfl⟩
  |exact⟨B.set _ _ _,rfl,rfl,Nat.le_succ _,rfl,fun _=>rfl⟩
  |grind
def tO(m:Modl)(cl:Int)(f:Int)(a:List Int)(s:Mst):Prop:=(0<=f/\f<m.fs.length)/\Sok m s/\s.calls=cl
def yC(m:Modl)(cl:Int)(C:Int->List Int->Mst->Rs):Prop:=∀f a s,tO m cl f a s->Sok m (C f a s).st/\(C f a s).st.steps<=s.steps/\∀v s',C f a s=.ret v s'->s'.calls=s.calls
theorem Fv{P:PE}{c:PC}{fr:PF}{K K':PK}{v:AV}(h:evP P (.code c fr K)=zs (.pan v K')):evP P (.code (.loop c) fr K)=zs (.pan v K'):=by rw[eM,h];rfl
theorem pS{fa fd fo n:Bool}{r r2:List Int}{at0:Int}(h:r2.length=r.length):S8 fa fd fo n r2 at0=S8 fa fd fo n r at0:=by unfold S8;rw[h]
theorem u4.nil{m:Modl}{s:Mst}(h:u4 m s.data)(hg:m.gs=[]):s.data=[]:=zqy.1 (by rw[h.1,hg];rfl)
def I2.st:I2->Mst | .go _ s=>s | .stop _ _ s=>s
section
variable {m:Modl}{C:Int->List Int->Mst->Rs}{fa fd fo:Bool}{a:List Int}{c:Cod}{l:List Ins}{at0 cl:Int}{nr:Nat}
def inP(fa fd fo:Bool)(m:Modl)(a:List Int)(c:Cod)(l:List Ins)(at0:Int)(y:I2)(B:Bool)(D:List Nat):PR:=match y with
 |.go r2 s2=>.ok (.exit 2) ((49,.bool zf)::(S8 fa fd fo B r2 at0++frI l l.length)) (msL fa fd fo B m s2 a c r2 D)
 | .stop st e s2=>.pan (E2 st e) ⟨F2 fa fd fo B m s2 a,nE fa fd fo,D⟩
structure InE(m:Modl)(nr:Nat)(s:Mst)(y:I2):Prop where
 ok:Sok m y.st
 st:y.st.steps<=s.steps
 go:∀r2 s2,y=.go r2 s2->r2.length=nr/\s2.calls=s.calls
theorem InE.of{s B:Mst}{y:I2}(h:InE m nr B y)(D:B.steps<=s.steps)(G:B.calls=s.calls):InE m nr s y:=⟨h.ok,zka h.st D,fun r2 s2 e=>⟨(h.go r2 s2 e).1,(h.go r2 s2 e).2.trans G⟩⟩
theorem IZ(R:RunT T)(hc:xZ T m C (tO m cl))(hp:yC m cl C)(hl:l.length<=2000000000000)(hx:∀x∈l,InsR m nr x)(D:fd=zf->m.gs=[]):
 ∀ (j k:Nat) (n:Bool) (r:List Int) (s:Mst) (tch:List Nat),l.length=k+j->r.length=nr->Sok m s->s.calls=cl->(fo=zf->n=zf->s.out=[]) ->
   InE m nr s (insF m C (l.drop k) r s)/\∃G N,evP ⟨A0,T,A2⟩ (.code (.loop f8) (S8 fa fd fo n r at0++frI l k) (msL fa fd fo n m s a c r tch))=zs (inP fa fd fo m a c l at0 (insF m C (l.drop k) r s) G N)/\(fo=zf->G=zf->(insF m C (l.drop k) r s).st.out=[])
 |0,k,n,r,s,tch,e,hr,hs,hcl,ho=>by
  obtain rfl:k=l.length:=by omega
  rw[zqh];exact⟨⟨hs,Int.le_refl _,fun _ _ e=>by cases e;grind⟩,n,tch,E3 A1q,ho⟩
 |j + 1,k,n,r,s,tch,e,hr,hs,hcl,ho=>by
  have Q:k<l.length:=by omega
  have H:InsR m r.length l[k]:=hr▸hx _ (zqc Q);rw[zqi Q,insF];by_cases h1:s.steps<1
  . rw[if_pos h1]
    obtain⟨N,h⟩:=OZ (T:=T) (m:=m) (s:=s) (fa:=fa) (fd:=fd) (fo:=fo) (n:=n) (r:=r) (a:=a) (c:=c) (at0:=at0) (tch:=tch) R Q hl (by omega);exact⟨⟨hs,Int.le_refl _,fun _ _ e=>by cases e⟩,n,N,Fv h,ho⟩
  . rw [if_neg h1]
    have B:=hs.stp (by omega);have I:(stp s).steps<=s.steps:=by grind [stp]
    have ag:(fo||n)=zf->(stp s).out=[]:=fun e=>by
     rw[zkg]at e;exact ho e.1 e.2
    by_cases X:l[k].op=9
    . rw [if_pos X]
      obtain⟨hn,hy,U,af⟩:=H.c X;have aa:tO m cl l[k].n (argsI l[k] r) (stp s):=⟨hn,B.1,hcl⟩
      obtain ⟨p1,p2,p3⟩:=hp _ _ _ aa;obtain⟨n',t0,q1,q2⟩:=hc (neE (argsI l[k] r)) fd (fo||n) l[k].n (argsI l[k] r) (stp s) aa (fun e=>by
       revert e;cases argsI l[k] r with|nil=>intro _;rfl|cons _ _=>intro e;cases e) (fun e=>B.1.d.nil (D e)) ag
      have hq:fo=zf->(n||n')=zf->(C l[k].n (argsI l[k] r) (stp s)).st.out=[]:=(by grind)
      cases hC:C l[k].n (argsI l[k] r) (stp s)with
      |stop z e s2=>
       rw[hC]at p1 p2 q1 q2 hq;obtain⟨t2,b⟩:=PI R hy U q2;obtain⟨V,b⟩:=yB (fa:=fa) (a:=a) (c:=c) (at0:=at0) (tch:=tch) R Q hl (by omega) hs.st X b;exact⟨⟨p1,zka p2 I,fun _ _ e=>by cases e⟩,n||n',V,Fv b,hq⟩
      |ret v s2=>
       rw [hC]at p1 p2 q1 q2 hq;have p3:=p3 v s2 hC;have ab:∀(r2:List Int),r2.length=r.length->(∃N,evP ⟨A0,T,A2⟩ (.body 40 [.ptr 0 0 0,l[k].F,.msl 1 0 r.length 1] ⟨F2 zt fd (fo||n) zf m (stp s) r,nE zt fd (fo||n),[]⟩)=zs (.val [] ⟨F2 zt fd (fo||n) n' m s2 r2,nE zt fd (fo||n),N⟩)) ->
        InE m nr s (insF m C (l.drop (k+1)) r2 s2)/\∃G N,evP ⟨A0,T,A2⟩ (.code (.loop f8) (S8 fa fd fo n r at0++frI l k) (msL fa fd fo n m s a c r tch))=zs (inP fa fd fo m a c l at0 (insF m C (l.drop (k+1)) r2 s2) G N)/\(fo=zf->G=zf->(insF m C (l.drop (k+1)) r2 s2).st.out=[]):=by
        intro r2 Y ⟨N,b⟩;obtain⟨V,b⟩:=CK (fa:=fa) (a:=a) (c:=c) (at0:=at0) (tch:=tch) R Q hl (by omega) hs.st X b;obtain⟨g1,G,t4,g2,g3⟩:=IZ R hc hp hl hx D j (k+1) (n||n') r2 s2 V (by omega) (Y.trans hr) p1 (p3.trans hcl) hq;refine⟨g1.of (zka p2 I) p3,G,t4,?_,g3⟩;grind [loop_more, pS]
       by_cases J:0<=l[k].dst
       . simp only[if_pos J]
         exact ab _ (put_len _ _ _) (PG R hy U J af q2)
       . simp only[if_neg J]
         exact ab _ rfl (PH R hy U J q2)
    . rw [if_neg X]
      have ac:1<=l[k].op/\l[k].op<=11/\l[k].op≠9:=⟨H.op.1,H.op.2,X⟩
      have ad:=H.ok B.1.d;obtain⟨k1,k2,k3,k4,k5,k6⟩:=tN (x:=l[k]) (r:=r) B.1.d;have ae:s.out.length<=30000:=by have:=hs.ou;omega
      by_cases hv:(doesI m l[k] r (stp s)).1=0
      . rw [if_pos hv]
        obtain⟨V,b⟩:=PA (T:=T) (fa:=fa) (fd:=fd) (fo:=fo) (n:=n) (n':=decide (l[k].op=11)) (a:=a) (c:=c) (at0:=at0) (tch:=tch) R Q hl (by omega) hs.st ac ad (fun e=>B.1.d.nil (D e)) ho ae rfl hv;have ah:Sok m (doesI m l[k] r (stp s)).2.1:=⟨k1,by rw[k2];exact B.1.st,by grind,by rw[k3];exact B.1.ca⟩
        obtain ⟨g1,G,t4,g2,g3⟩:=IZ R hc hp hl hx D j (k+1) (n||decide (l[k].op=11)) _ _ V (by omega) (k5.trans hr) ah (k3.trans hcl) (by grind)
        refine⟨g1.of (by grind) k3,G,t4,?_,g3⟩;grind [loop_more, pS]
      . rw[if_neg hv]
        obtain⟨V,b⟩:=IX (T:=T) (fa:=fa) (fd:=fd) (fo:=fo) (n:=n) (a:=a) (c:=c) (at0:=at0) (tch:=tch) R Q hl (by omega) hs.st ac ad (fun e=>B.1.d.nil (D e)) ho ae hv;exact⟨⟨B.1,I,fun _ _ e=>by cases e⟩,n,V,Fv b,fun e1 e2=>ho e1 e2⟩
end
end Go.Proofs.AmEnv
