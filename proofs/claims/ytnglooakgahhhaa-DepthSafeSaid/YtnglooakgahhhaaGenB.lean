/- What this program's functions do, at any data. Conditions: none. -/
import Derived.Test.YtnglooakgahhhaaGenA
import Derived.KernelRfl
set_option linter.unusedVariables false
set_option linter.unusedSimpArgs false
set_option linter.unusedSectionVars false
set_option linter.defProp false
set_option maxRecDepth 100000
set_option maxHeartbeats 4000000
open Option renaming some→zsq,none→zn
open Bool renaming true→zt,false→zf
open List renaming getD_eq_getElem?_getD→zqa,length_map→zqb,replicate→zqc,getElem_mem→zqd,nil_append→zqe,append_nil→zqf,length_nil→zqg,cons_append→zqh,length_cons→zqi,getElem?_eq_getElem→zqj,map_nil→zqk,map_cons→zql,mem_cons→zqm,mem_cons_of_mem→zqn,range→zqo,append_assoc→zqp,mem_cons_self→zqq,length_append→zqr,mem_map_of_mem→zqs,nodup_nil→zqt,sum_cons→zqu,sum_nil→zqv,not_mem_nil→zqw,getElem?_map→zqx,drop_length→zqy,zip_cons_cons→zqz,zip_nil_left→zka,drop_eq_getElem_cons→zkb,mem_or_eq_of_mem_set→zkc,drop_zero→zkd,take_succ_eq_append_getElem→zke,length_replicate→zkf,map_append→zkg,contains_cons→zkh,contains_nil→zki,flatMap_cons→zkj,set_set→zkk,length_set→zkl,mem_of_getElem?→zkm,length_eq_zero_iff→zkn,all_eq_true→zko,flatMap_nil→zkp,countP_set→zkq,count_cons→zkr,getElem?_set_self→zks,getElem?_set→zkt,countP_cons→zku,mem_replicate→zkv,mem_append→zkw,mem_flatMap→zkx,mem_filter→zky
open Bool renaming and_eq_true_iff→zkz
open Int renaming le_refl→zja,max_eq_left→zjb,max_eq_right→zjc,eq_ofNat_of_zero_le→zjd
open Nat renaming le_refl→zje,not_lt_zero→zjf,lt_of_le_of_lt→zjg,add_sub_cancel→zjh,mul_le_mul_right→zji
noncomputable section
namespace Go.Proofs.AmEnv
open Go Go.AM
variable {T:Nat->Option (List AV->Option (List AV))}
theorem uI{c:Cod}{i:Nat}(h:i<c.blocks.length):blkAt c (i:Int)=c.blocks[i]:=by simp[blkAt,zqa,h]
theorem uJ{m:Modl}{i:Nat}(h:i<m.fs.length):To m (i:Int)=m.fs[i]:=by simp[To,zqa,h]
section
variable {m:Modl}{C:Int->List Int->Mst->Rs}{fa fd fo:Bool}{a:List Int}{c:Cod}{cl:Int}
def RH(fa fd fo:Bool)(m:Modl)(a:List Int)(y:Rs)(B:Bool)(D:List Nat):PR:=match y with
 |.ret v s2=>.ok .ret [(6,.int .i64 v)] ⟨E6 fa fd fo B m s2 a,nE fa fd fo,D⟩
 | .stop st e s2=>.pan (D8 st e) ⟨E6 fa fd fo B m s2 a,nE fa fd fo,D⟩
structure OutE(m:Modl)(s:Mst)(y:Rs):Prop where
 ok:Sok m y.st
 st:y.st.steps<=s.steps
 rt:∀v s2,y=.ret v s2->s2.calls=s.calls-1
theorem OutE.of{s s1:Mst}{y:Rs}(h:OutE m s1 y)(h1:s1.steps<=s.steps)(h2:s1.calls=s.calls):OutE m s y:=⟨h.ok,Int.le_trans h.st h1,fun v s2 e=>by rw[h.rt v s2 e,h2]⟩
theorem BI(R:RunT T)(hc:uD T m C (pZ m cl))(hp:uG m cl C)(hC:CodR m c)(ab:fd=zf->m.gs=[]):
 ∀ (f i:Nat) (n:Bool) (r:List Int) (s:Mst) (tch:List Nat),i<c.blocks.length->r.length=c.regs.length->Sok m s->1<=s.calls->s.calls=cl->s.steps.toNat<f->(fo=zf->n=zf->s.out=[]) ->
   OutE m s (U1 m C c f i r s)/\∃D O,evP ⟨env,T,A1⟩ (.code (.loop Ad) (U0 fa fd fo n r (i:Int)) (msL fa fd fo n m s a c r tch))=zsq (RH fa fd fo m a (U1 m C c f i r s) D O)/\(fo=zf->D=zf->(U1 m C c f i r s).st.out=[])
 |0,i,n,r,s,tch,hi,hr,hs,hca,hcl,hf,ho=>absurd hf (zjf _)
 |f + 1,i,n,r,s,tch,hi,hr,hs,hca,hcl,hf,ho=>by
  obtain⟨b1,b2,Q⟩:=hC.b _ (zqd hi);obtain⟨U,D,O,X,Y⟩:=EM (fa:=fa) (fo:=fo) (a:=a) (c:=c) (at0:=(i:Int)) R hc hp b1 b2 ab c.blocks[i].code.length 0 n r s (HL (nE fa fd fo) tch) (by omega) hr hs hcl ho;rw[zkd]at U X Y;rw[U1,uI hi];cases hy:insF m C c.blocks[i].code r s with
  |stop z e s2=>
   rw[hy]at U X Y;obtain⟨t2,q⟩:=ZX (tch:=tch) hi X;exact⟨⟨U.ok,U.st,fun _ _ e=>by cases e⟩,D,t2,Gk q,Y⟩
  |go r2 s2=>
   rw[hy]at U X Y;obtain⟨ae,aa⟩:=U.go _ _ rfl;have N:Sok m s2:=U.ok;have k2:s2.steps<=s.steps:=U.st;dsimp only;by_cases h1:s2.steps<1
   . rw[if_pos h1]
     have K:=fun t=>MG (T:=T) (m:=m) (s:=s2) (fa:=fa) (fd:=fd) (fo:=fo) (n:=D) (r:=r2) (a:=a) (c:=c) (tch:=t) R hi (by omega)
     obtain⟨t2,q⟩:=ZW (tch:=tch) (F:=fun t=>(K t).choose) hi X (fun t=>(K t).choose_spec);exact⟨⟨N,k2,fun _ _ e=>by cases e⟩,D,t2,Gk q,Y⟩
   . rw [if_neg h1]
     have k3:=N.stp (by omega);have ac:(stp s2).steps<=s.steps:=by simp only[stp];omega
     have ad:(stp s2).steps.toNat<f:=by simp only[stp];omega
     by_cases B:c.blocks[i].e.kind=3
     . rw [if_pos B]
       have J:∀v,(∀t,∃O,evP ⟨env,T,A1⟩ (.code Q9 (U0 fa fd fo D r2 (i:Int)) (msL fa fd fo D m s2 a c r2 t))=zsq (.ok .ret [(6,.int .i64 v)] ⟨E6 fa fd fo D m {stp s2 with calls:=s2.calls-1} a,nE fa fd fo,O⟩)) ->
        OutE m s (.ret v {stp s2 with calls:=s2.calls-1})/\∃V O,evP ⟨env,T,A1⟩ (.code (.loop Ad) (U0 fa fd fo n r (i:Int)) (msL fa fd fo n m s a c r tch))=zsq (RH fa fd fo m a (.ret v {stp s2 with calls:=s2.calls-1}) V O)/\(fo=zf->V=zf->(Rs.ret v {stp s2 with calls:=s2.calls-1}).st.out=[]):=by
        intro v K;obtain⟨t2,q⟩:=ZV (tch:=tch) (F:=fun t=>(K t).choose) hi X (fun t=>(K t).choose_spec);have hca2:=N.ca;refine⟨⟨⟨k3.1.d,k3.1.st,k3.1.ou,?_⟩,ac,fun _ _ e=>by cases e;rw[<-aa]⟩,D,t2,Dh q,Y⟩;show 0<=s2.calls-1/\s2.calls-1<=33
        omega
       by_cases ha:c.blocks[i].e.a<0
       . rw[if_pos ha]
         exact J 0 fun t=>MH R hi (by omega) N.st B ha N.ca.1 (by have:=N.ca;omega)
       . rw[if_neg ha]
         exact J _ fun t=>MI R hi (by omega) N.st B ⟨by omega,by have:=Q.a3 B;omega⟩ N.ca.1 (by have:=N.ca;omega)
     . rw [if_neg B]
       have J:∀(j:Int),0<=j->j<c.blocks.length->(∀t,∃O,evP ⟨env,T,A1⟩ (.code Q9 (U0 fa fd fo D r2 (i:Int)) (msL fa fd fo D m s2 a c r2 t))=zsq (.ok .normal (U0 fa fd fo D r2 j) (msL fa fd fo D m (stp s2) a c r2 O))) ->
        OutE m s (U1 m C c f j r2 (stp s2))/\∃V O,evP ⟨env,T,A1⟩ (.code (.loop Ad) (U0 fa fd fo n r (i:Int)) (msL fa fd fo n m s a c r tch))=zsq (RH fa fd fo m a (U1 m C c f j r2 (stp s2)) V O)/\(fo=zf->V=zf->(U1 m C c f j r2 (stp s2)).st.out=[]):=by
        intro j h0 hj K;obtain⟨j,rfl⟩:∃k:Nat,j=k:=⟨j.toNat,by omega⟩
        obtain⟨t2,q⟩:=ZU (tch:=tch) (F:=fun t=>(K t).choose) hi X (fun t=>(K t).choose_spec);obtain⟨u1,V,t3,u2,u3⟩:=BI R hc hp hC ab f j D r2 (stp s2) t2 (by omega) ae k3.1 (by show 1<=s2.calls;omega) (aa.trans hcl) ad Y;exact⟨u1.of ac aa,V,t3,by rw[H9 q];exact u2,u3⟩
       by_cases I:c.blocks[i].e.kind=2
       . obtain ⟨a1,a2⟩:=Q.a2 I
         by_cases hv:at' r2 c.blocks[i].e.a=0
         . rw[if_pos ⟨I,hv⟩]
           exact J _ (Q.els I).1 (Q.els I).2 fun t=>MJ R hi (by omega) N.st I ⟨a1,by omega⟩ hv
         . rw[if_neg (fun e=>hv e.2)]
           exact J _ (Q.to B).1 (Q.to B).2 fun t=>MK R hi (by omega) N.st I ⟨a1,by omega⟩ hv
       . rw[if_neg (fun e=>I e.1)]
         exact J _ (Q.to B).1 (Q.to B).2 fun t=>ML R hi (by omega) N.st (by have:=Q.k;omega)
theorem s5.len0{s:Mst}(h:s5 m s.data)(e:s.data=[]):m.gs=[]:=zkn.1 (by rw[<-h.1,e];rfl)
theorem eT(R:RunT T)(hM:ModR' m):∀(d:Nat)(cl:Int),33-cl<=d->0<=cl->uG m cl (V1 m d)/\uD T m (V1 m d) (pZ m cl)
 |0,cl,h,h0=>by
  refine⟨fun f a s D=>?_,fun fa fd fo f a s D hz X ho=>?_⟩
  . exact⟨D.2.1,zja _,fun _ _ e=>by cases e⟩
  . obtain⟨N,e⟩:=BH (T:=T) (m:=m) (s:=s) (fa:=fa) (fd:=fd) (fo:=fo) (a:=a) (f:=f.toNat) R (by have:=D.2.2;omega)
    rw[Int.toNat_of_nonneg D.1.1]at e;exact⟨zf,N,fun e _=>ho e,e⟩
 |d + 1,cl,h,h0=>by
  obtain⟨i1,i2⟩:=eT R hM d (cl+1) (by omega) (by omega);have V:∀(fa fd fo:Bool)(f:Int)(a:List Int)(s:Mst),pZ m cl f a s->(fa=zf->a=[])->(fd=zf->s.data=[])->(fo=zf->s.out=[]) ->
   (Sok m (V1 m (d+1) f a s).st/\(V1 m (d+1) f a s).st.steps<=s.steps/\∀v J,V1 m (d+1) f a s=.ret v J->J.calls=s.calls)/\
   ∃n' N,(fo=zf->n'=zf->(V1 m (d+1) f a s).st.out=[])/\evP ⟨env,T,A1⟩ (.body 18 [.ptr 0 0 0,.int .i64 f,x7 fa 1 a] ⟨E6 fa fd fo zf m s a,nE fa fd fo,[]⟩)=zsq (xW (V1 m (d+1) f a s) fun J=>⟨E6 fa fd fo n' m J a,nE fa fd fo,N⟩):=by
   intro fa fd fo f a s D hz X ho;obtain⟨⟨f0,f1⟩,O,hcl⟩:=D;obtain⟨f,rfl⟩:∃k:Nat,f=k:=⟨f.toNat,by omega⟩
   have hf:f<m.fs.length:=by omega
   rw[V1];by_cases B:32<=s.calls
   . rw[if_pos B]
     obtain⟨N,e⟩:=BH (T:=T) (m:=m) (s:=s) (fa:=fa) (fd:=fd) (fo:=fo) (a:=a) (f:=f) R B;exact⟨⟨O,zja _,fun _ _ e=>by cases e⟩,zf,N,fun e _=>ho e,e⟩
   . rw [if_neg B,uJ hf]
     have hC:=hM.f _ (zqd hf);have aa:Sok m (aW s):=⟨O.d,O.st,O.ou,by show 0<=s.calls+1/\s.calls+1<=33;have:=O.ca;omega⟩
     obtain⟨I,Y,N,U,Q⟩:=BI (fa:=fa) (fd:=fd) (fo:=fo) (a:=a) R i2 i1 hC (fun e=>O.d.len0 (X e)) (s.steps.toNat+1) 0 zf (initR m.fs[f].regs.length a) (aW s) [0] hC.nb (Nn _ _) aa (by show 1<=s.calls+1;have:=O.ca;omega) (by show s.calls+1=cl+1;omega) (by show s.steps.toNat<s.steps.toNat+1;omega) (fun e _=>ho e);have hb:=O.ca.1;show(Sok m (U1 m (V1 m d) m.fs[f] (s.steps.toNat+1) 0 (initR m.fs[f].regs.length a) (aW s)).st/\(U1 m (V1 m d) m.fs[f] (s.steps.toNat+1) 0 (initR m.fs[f].regs.length a) (aW s)).st.steps<=s.steps/\∀v J,U1 m (V1 m d) m.fs[f] (s.steps.toNat+1) 0 (initR m.fs[f].regs.length a) (aW s)=.ret v J->J.calls=s.calls)/\∃n' N,(fo=zf->n'=zf->(U1 m (V1 m d) m.fs[f] (s.steps.toNat+1) 0 (initR m.fs[f].regs.length a) (aW s)).st.out=[])/\_=zsq (xW (U1 m (V1 m d) m.fs[f] (s.steps.toNat+1) 0 (initR m.fs[f].regs.length a) (aW s)) _)
     replace I:OutE m (aW s) (U1 m (V1 m d) m.fs[f] (s.steps.toNat+1) 0 (initR m.fs[f].regs.length a) (aW s)):=I
     replace Q:fo=zf->Y=zf->(U1 m (V1 m d) m.fs[f] (s.steps.toNat+1) 0 (initR m.fs[f].regs.length a) (aW s)).st.out=[]:=Q
     replace U:evP ⟨env,T,A1⟩ (.code (.loop Ad) (U0 fa fd fo zf (initR m.fs[f].regs.length a) 0) (msL fa fd fo zf m (aW s) a m.fs[f] (initR m.fs[f].regs.length a) [0]))=zsq (RH fa fd fo m a (U1 m (V1 m d) m.fs[f] (s.steps.toNat+1) 0 (initR m.fs[f].regs.length a) (aW s)) Y N):=U
     cases hy:U1 m (V1 m d) m.fs[f] (s.steps.toNat+1) 0 (initR m.fs[f].regs.length a) (aW s)with
     |ret v s2=>
      rw[hy]at I U Q;obtain⟨t2,e⟩:=MN B hb hf hC.nr hz U;refine⟨⟨I.ok,I.st,fun v' J e=>?_⟩,Y,t2,Q,e⟩;cases e
      have:s2.calls=s.calls+1-1:=I.rt _ _ rfl
      omega
     |stop z e s2=>
      rw[hy]at I U Q;obtain⟨t2,e⟩:=MO B hb hf hC.nr hz U;exact⟨⟨I.ok,I.st,fun _ _ e=>by cases e⟩,Y,t2,Q,e⟩
  refine⟨fun f a s D=>?_,fun fa fd fo f a s D hz X ho=>(V fa fd fo f a s D hz X ho).2⟩;exact(V zt zt zt f a s D (fun e=>by cases e) (fun e=>by cases e) (fun e=>by cases e)).1
end
def Lu(g:Glo):Nat:=(max g.size 1).toNat
def Et(l:List Glo):List (List Int):=l.map fun g=>zqc (Lu g) 0
section
variable {m:Modl}{input:List Int}{steps:Int}{i:Nat}{K:PK}
def sI(steps:Int)(input:List Int)(l:List Glo):Mst:=⟨steps,input,Et l,[],0⟩
theorem MP{a:Int}:E9 env .max [3,3] [.int .i64 a,.int .i64 1] K=zsq (.int .i64 (max a 1),K):=by
 have e:E9 env .max [3,3] [.int .i64 a,.int .i64 1] K=zsq (.int .i64 (bif intLe 1 a then a else 1),K):=rfl;rw[e,N7];by_cases h:1<=a
 . rw[decide_eq_true h,cond_true,zjb h]
 . rw[decide_eq_false h,cond_false,zjc (by omega)]
theorem uK{x:AV}:AV.withCells .nilptr 0 [x]=x:=rfl
theorem mH(a b d e:Nat):Iq (.msl a b d e)=zf:=rfl
theorem mI:Iq .nilsl=zf:=rfl
def dV(d:List (List Int)):AV:=match d with|[]=>.nilsl|_::_=>.msl 4 0 d.length 1
def dW(d:List (List Int)):List PO:=match d with|[]=>[]|_::_=>[.row 0 (d.map rowO) 1]
def jR(m:Modl)(s:Mst):PK:=⟨.row 1 [m.F] 2::.row 1 [.agg [.nilsl,.int .i64 0,.int .i64 0]] 3::.row 1 [.ptr 3 0 0] 1::.row 1 [mB m s (dV s.data) .nilsl] 9::dW s.data,0,[]⟩
theorem uL{d:List (List Int)}(h:d≠[]):dV d=.msl 4 0 d.length 1:=by cases d with|nil=>exact absurd rfl h|cons _ _=>rfl
theorem uM{d:List (List Int)}(h:d≠[]):dW d=[.row 0 (d.map rowO) 1]:=by cases d with|nil=>exact absurd rfl h|cons _ _=>rfl
theorem ZY(h:0<m.gs.length)(hz:∀g∈m.gs,g.size<=100000):evP ⟨env,T,A1⟩ (.code Zs [(3,.ptr 0 0 0),(6,.ptr 1 0 0),(7,.ptr 2 0 0),(17,fslN (m.gs.map Glo.F)),(18,.int .i64 (m.gs.length:Int)),(19,.int .i64 0)] (jR m (sI steps input [])))=zsq (.ok .normal [(3,.ptr 0 0 0),(6,.ptr 1 0 0),(7,.ptr 2 0 0),(17,fslN (m.gs.map Glo.F)),(18,.int .i64 (m.gs.length:Int)),(19,.int .i64 ((1:Nat):Int))] (jR m (sI steps input (m.gs.take 1)))):=by
 have hzi:=hz _ (zqd h);have hlt:decide ((0:Int)<(m.gs.length:Int))=zt:=by simp[h]
 have hi:Vd Pl (fslN (m.gs.map Glo.F)) (.int .i64 0)=zsq (.fptr m.gs[0].F 0):=ix_fslN (i:=0) (A7 (F:=Glo.F) h) rfl;have hm:max m.gs[0].size 1=(Lu m.gs[0]:Int):=by unfold Lu;omega
 have mk:=fun k k' K=>RG (k:=k) (k':=k') (n:=Lu m.gs[0]) (K:=K) (by unfold Lu;omega)
 have ht:m.gs.take 1=[m.gs[0]]:=by
  rw[zke h];rfl
 rw[ht];unfold Zs jR sI;unfold mB Modl.F;simp only[Glo.F]at hi|-;simp only[dV,dW,Et,zqg,zqk,zql,zqi,Nat.zero_add];simp -implicitDefEqProofs only[hlt,hi,hm,aV,mk,mH,mI,zkf,zqb,MP,show IntKind.i64.wrap (0+1)=((1:Nat):Int)from rfl,XP,Nat.reduceAdd,Nat.reduceSub,Nat.reduceLT,Nat.reduceLeDiff,Nat.reduceEqDiff,Nat.reduceMul,↓reduceIte];rfl
theorem ZZ(h:i<m.gs.length)(h0:0<i)(hz:∀g∈m.gs,g.size<=100000)(hl:m.gs.length<=100000):evP ⟨env,T,A1⟩ (.code Zs [(3,.ptr 0 0 0),(6,.ptr 1 0 0),(7,.ptr 2 0 0),(17,fslN (m.gs.map Glo.F)),(18,.int .i64 (m.gs.length:Int)),(19,.int .i64 (i:Int))] (jR m (sI steps input (m.gs.take i))))=zsq (.ok .normal [(3,.ptr 0 0 0),(6,.ptr 1 0 0),(7,.ptr 2 0 0),(17,fslN (m.gs.map Glo.F)),(18,.int .i64 (m.gs.length:Int)),(19,.int .i64 ((i+1:Nat):Int))] (jR m (sI steps input (m.gs.take (i+1))))):=by
 have hzi:=hz _ (zqd h);have hlt:decide ((i:Int)<(m.gs.length:Int))=zt:=by simp[h]
 have hw:=B5 (i:=i) (by omega);have hi:=A7 (F:=Glo.F) h;have hm:max m.gs[i].size 1=(Lu m.gs[i]:Int):=by unfold Lu;omega
 have mk:=fun k k' K=>RG (k:=k) (k':=k') (n:=Lu m.gs[i]) (K:=K) (by unfold Lu;omega)
 have hz8:(i+1)*24<=140737488355328:=by omega
 have hd:Et (m.gs.take (i+1))=Et (m.gs.take i)++[zqc (Lu m.gs[i]) 0]:=by
  rw[zke h];unfold Et;rw[zkg];rfl
 have hdl:(Et (m.gs.take i)).length=i:=by simp[Et];omega
 unfold sI;rw[hd];have hne:Et (m.gs.take i)≠[]:=fun e=>by rw[e]at hdl;simp at hdl;omega
 have hne2:Et (m.gs.take i)++[zqc (Lu m.gs[i]) 0]≠[]:=by simp
 have hv:=uL hne;have hwv:=uM hne;have hv2:=uL hne2;have hwv2:=uM hne2;rw[zkg,show [zqc (Lu m.gs[i]) (0:Int)].map rowO=[ownd 0 1 (ints (zqc (Lu m.gs[i]) 0))]from rfl]at hwv2;rw[zqr,List.length_singleton,hdl]at hv2;rw[hdl]at hv;unfold Zs jR;dsimp only;rw[hv,hwv,hv2,hwv2];unfold mB Modl.F;simp only[Glo.F]at hi|-;simp -implicitDefEqProofs only[hlt,hi,hw,hm,hdl,hz8,aV,mk,mH,mI,zkf,zqb,MP,Tn,zkh,zki,Nat.reduceBEq,XP,Nat.reduceAdd,Nat.reduceSub,Nat.reduceLT,Nat.reduceLeDiff,Nat.reduceEqDiff,Nat.reduceMul,↓reduceIte]
theorem MQ:∃fr',evP ⟨env,T,A1⟩ (.code Zs [(3,.ptr 0 0 0),(6,.ptr 1 0 0),(7,.ptr 2 0 0),(17,fslN (m.gs.map Glo.F)),(18,.int .i64 (m.gs.length:Int)),(19,.int .i64 (m.gs.length:Int))] K)=zsq (.ok (.exit 0) fr' K)/\lookP fr' 3=.ptr 0 0 0/\lookP fr' 6=.ptr 1 0 0/\lookP fr' 7=.ptr 2 0 0:=by
 unfold Zs;have B:decide ((m.gs.length:Int)<(m.gs.length:Int))=zf:=by simp
 simp only[B,XP,seval];exact⟨_,rfl,rfl,rfl,rfl⟩
theorem A0A(hz:∀g∈m.gs,g.size<=100000)(hl:m.gs.length<=100000):∃fr',evP ⟨env,T,A1⟩ (.code (.loop Zs) [(3,.ptr 0 0 0),(6,.ptr 1 0 0),(7,.ptr 2 0 0),(17,fslN (m.gs.map Glo.F)),(18,.int .i64 (m.gs.length:Int)),(19,.int .i64 0)] (jR m (sI steps input [])))=zsq (.ok (.exit 0) fr' (jR m (sI steps input m.gs)))/\lookP fr' 3=.ptr 0 0 0/\lookP fr' 6=.ptr 1 0 0/\lookP fr' 7=.ptr 2 0 0:=by
 by_cases h0:m.gs.length=0
 . have h1:m.gs=[]:=zkn.1 h0
   obtain⟨fr',e,p⟩:=MQ (T:=T) (m:=m) (K:=jR m (sI steps input []));rw[h1]at e|-;exact⟨fr',J5 e,p⟩
 . have:=Ve (P:=⟨env,T,A1⟩) (c:=Zs) (fun i=>([(3,.ptr 0 0 0),(6,.ptr 1 0 0),(7,.ptr 2 0 0),(17,fslN (m.gs.map Glo.F)),(18,.int .i64 (m.gs.length:Int)),(19,.int .i64 ((i+1:Nat):Int))],jR m (sI steps input (m.gs.take (i+1))))) (m.gs.length-1) fun i hi=>ZZ (by omega) (by omega) hz hl
   obtain⟨fr',e,p⟩:=MQ (T:=T) (m:=m) (K:=jR m (sI steps input m.gs));refine⟨fr',?_,p⟩;rw[H9 (ZY (by omega) hz),this];simp only[show m.gs.length-1+1=m.gs.length by omega];rw[List.take_of_length_le (by omega)];exact J5 e
theorem MR(hz:∀g∈m.gs,g.size<=100000)(hl:m.gs.length<=100000):evP ⟨env,T,A1⟩ (.code IG (enterP 0 [m.F,fslN (ints input),.int .i64 steps]) ⟨[],0,[]⟩)=zsq (.ok .normal [(3,.ptr 0 0 0),(6,.ptr 1 0 0),(7,.ptr 2 0 0),(37,.fn (.func 17) [] [.ptr 2 0 0,.ptr 1 0 0])] (jR m (sI steps input m.gs))):=by
 obtain⟨fr',h,h1,h2,B⟩:=A0A (T:=T) (steps:=steps) (input:=input) hz hl;unfold IG;unfold jR at h|-;cases D:Et m.gs with
 |nil=>
  simp only[sI,D,dV,dW,show Et []=[]from rfl]at h|-;unfold mB Modl.F at h|-;dsimp only at h|-;simp only[h,h1,h2,B,uK,zqb,XP,Nat.reduceAdd,Nat.reduceSub,Nat.reduceLT,Nat.reduceLeDiff,Nat.reduceEqDiff,Nat.reduceMul,↓reduceIte]
 |cons y ys=>
  simp only[sI,D,dV,dW,show Et []=[]from rfl]at h|-;unfold mB Modl.F at h|-;dsimp only at h|-;simp only[h,h1,h2,B,uK,zqb,XP,Nat.reduceAdd,Nat.reduceSub,Nat.reduceLT,Nat.reduceLeDiff,Nat.reduceEqDiff,Nat.reduceMul,↓reduceIte]
end
section
variable {m:Modl}{s s2:Mst}{fd n':Bool}{f v st e:Int}{t0:List Nat}
def oQ(n':Bool)(i:Nat)(o:List Int):AV:=match n' with|true=>.msl i 0 o.length 1|false=>.nilsl
def Eb:AV:=.agg [.nilsl,.int .i64 0,.int .i64 0]
def Ec(fd n':Bool)(m:Modl)(x:AV)(s:Mst):List PO:=.row 1 [m.F] 2::.row 1 [x] 3::.row 1 [.ptr 3 0 0] 1::.row 1 [mB m s (dA fd 4 s) (oQ n' (4+nB fd) s.out)] 9::(dR fd s++oG n' s.out)
def qA(fd:Bool):List Nat:=3::(match fd with|true=>[4]|false=>[])
theorem MS(R:RunT T)(hb:evP ⟨env,T,A1⟩ (.body 18 [.ptr 0 0 0,.int .i64 f,.nilsl] ⟨E6 zf fd zf zf m s [],nE zf fd zf,[]⟩)=zsq (.val [.int .i64 v] ⟨E6 zf fd zf n' m s2 [],nE zf fd zf,t0⟩)):
 ∃B,∀tch,evP ⟨env,T,A1⟩ (.call 18 [.ptr 3 0 0,.int .i64 f,.nilsl] ⟨Ec fd zf m Eb s,4+nB fd,tch⟩)=zsq (.val [.int .i64 v] ⟨Ec fd n' m Eb s2,4+nB fd,B++tch⟩):=by
 refine⟨((t0.filter (· < (qA fd).length)).map fun j=>(qA fd).getD j 0),fun tch=>nQ (ids:=qA fd) (args':=[.ptr 0 0 0,.int .i64 f,.nilsl]) (Kf:=⟨E6 zf fd zf zf m s [],nE zf fd zf,[]⟩) R.hL rfl ?_ ?_ ?_ hb ?_ ?_⟩<;>cases fd<;>cases n'<;>rfl
theorem EN(R:RunT T)(hb:evP ⟨env,T,A1⟩ (.body 18 [.ptr 0 0 0,.int .i64 f,.nilsl] ⟨E6 zf fd zf zf m s [],nE zf fd zf,[]⟩)=zsq (.pan (D8 st e) ⟨E6 zf fd zf n' m s2 [],nE zf fd zf,t0⟩)):
 ∃B,∀tch,evP ⟨env,T,A1⟩ (.call 18 [.ptr 3 0 0,.int .i64 f,.nilsl] ⟨Ec fd zf m Eb s,4+nB fd,tch⟩)=zsq (.pan (D8 st e) ⟨Ec fd n' m Eb s2,4+nB fd,B++tch⟩):=by
 refine⟨((t0.filter (· < (qA fd).length)).map fun j=>(qA fd).getD j 0),fun tch=>aT (ids:=qA fd) (args':=[.ptr 0 0 0,.int .i64 f,.nilsl]) (Kf:=⟨E6 zf fd zf zf m s [],nE zf fd zf,[]⟩) R.hL rfl ?_ ?_ ?_ hb ?_ ?_⟩<;>cases fd<;>cases n'<;>rfl
def Cl(m:Modl):Int:=idxOf (fun c:Cod=>decide (c.name=B6)) m.fs
def Aw(fd n':Bool)(o:List Int)(st e:Int):AV:=.agg [oQ n' (4+nB fd) o,.int .i64 st,.int .i64 e]
theorem MT(R:RunT T)(I:T 19=zsq M3)(J:m.fs.length<=bigN)(hb:evP ⟨env,T,A1⟩ (.body 18 [.ptr 0 0 0,.int .i64 (Cl m),.nilsl] ⟨E6 zf fd zf zf m s [],nE zf fd zf,[]⟩)=zsq (.val [.int .i64 v] ⟨E6 zf fd zf n' m s2 [],nE zf fd zf,t0⟩)):
 ∃B,evP ⟨env,T,A1⟩ (.code DH [(3,.ptr 0 0 0),(6,.ptr 1 0 0),(7,.ptr 2 0 0),(37,.fn (.func 17) [] [.ptr 2 0 0,.ptr 1 0 0])] ⟨Ec fd zf m Eb s,4+nB fd,[]⟩)=zsq (.ok .ret [(6,.ptr 1 0 0)] ⟨Ec fd n' m (Aw fd n' s2.out 1 v) s2,4+nB fd,B⟩):=by
 obtain⟨B,hc⟩:=MS R hb;have D:=fun K=>Jk (K:=K) (m:=m) I J
 unfold Cl at hc;unfold DH Ec Aw;unfold Ec at hc;unfold mB Modl.F Eb at hc|-;unfold Modl.F at D;cases fd<;>cases n'<;>(
  simp only[dA,dR,nB,oQ,oG,Nat.reduceAdd,zqh,zqe,zqf]at hc|-;simp only[hc,D,Tn,zkh,zki,Nat.reduceBEq,XP,seval];exact⟨_,rfl⟩)
theorem EO(R:RunT T)(I:T 19=zsq M3)(J:m.fs.length<=bigN)(hb:evP ⟨env,T,A1⟩ (.body 18 [.ptr 0 0 0,.int .i64 (Cl m),.nilsl] ⟨E6 zf fd zf zf m s [],nE zf fd zf,[]⟩)=zsq (.pan (D8 st e) ⟨E6 zf fd zf n' m s2 [],nE zf fd zf,t0⟩)):
 ∃B,evP ⟨env,T,A1⟩ (.code DH [(3,.ptr 0 0 0),(6,.ptr 1 0 0),(7,.ptr 2 0 0),(37,.fn (.func 17) [] [.ptr 2 0 0,.ptr 1 0 0])] ⟨Ec fd zf m Eb s,4+nB fd,[]⟩)=zsq (.pan (D8 st e) ⟨Ec fd n' m Eb s2,4+nB fd,B⟩):=by
 obtain⟨B,hc⟩:=EN R hb;have D:=fun K=>Jk (K:=K) (m:=m) I J
 unfold Cl at hc;unfold DH Ec;unfold Ec at hc;unfold mB Modl.F Eb D8 at hc|-;unfold Modl.F at D;cases fd<;>cases n'<;>(
  simp only[dA,dR,nB,oQ,oG,Nat.reduceAdd,zqh,zqe,zqf]at hc|-;simp only[hc,D,Xm,Xn,Tn,zkh,zki,Nat.reduceBEq,XP,seval];exact⟨_,rfl⟩)
theorem EP:∃B D,evP ⟨env,T,A1⟩ (.rcv (.fn (.func 17) [] [.ptr 2 0 0,.ptr 1 0 0]) .niliface ⟨Ec fd n' m (Aw fd n' s.out st e) s,(Ec fd n' m (Aw fd n' s.out st e) s).length,[]⟩)=zsq (.ok .normal B ⟨Ec fd n' m (Aw fd n' s.out st e) s,(Ec fd n' m (Aw fd n' s.out st e) s).length,D⟩):=by
 have I:∃B D,evP ⟨env,T,A1⟩ (.code sR (setPs' [4,2] [.niliface,.niliface] (enterP 0 [.ptr 2 0 0,.ptr 1 0 0])) ⟨Ec fd n' m (Aw fd n' s.out st e) s,(Ec fd n' m (Aw fd n' s.out st e) s).length,[]⟩)=zsq (.ok .normal B ⟨Ec fd n' m (Aw fd n' s.out st e) s,(Ec fd n' m (Aw fd n' s.out st e) s).length,D⟩):=by
  unfold sR Ec Aw;unfold mB Modl.F;cases fd<;>cases n'<;>(
   simp only[dA,dR,nB,oQ,oG,setPs',Nat.reduceAdd,zqh,zqe,zqf];simp only[BD,BE,tZ,XP,seval];exact⟨_,_,rfl⟩)
 obtain⟨B,D,h⟩:=I;exact⟨B,D,CL (b:=zf) rfl (by decide) h⟩
theorem yA:∃B D,evP ⟨env,T,A1⟩ (.rcv (.fn (.func 17) [] [.ptr 2 0 0,.ptr 1 0 0]) (D8 st e) ⟨Ec fd n' m Eb s,(Ec fd n' m Eb s).length,[]⟩)=zsq (.ok .normal B ⟨Ec fd n' m (Aw fd n' s.out st e) s,(Ec fd n' m Eb s).length,D⟩):=by
 have I:∃B D,evP ⟨env,T,A1⟩ (.code sR (setPs' [4,2] [D8 st e,D8 st e] (enterP 0 [.ptr 2 0 0,.ptr 1 0 0])) ⟨Ec fd n' m Eb s,(Ec fd n' m Eb s).length,[]⟩)=zsq (.ok .normal B ⟨Ec fd n' m (Aw fd n' s.out st e) s,(Ec fd n' m Eb s).length,D⟩):=by
  unfold sR Ec Aw D8 Eb;unfold mB Modl.F;cases fd<;>cases n'<;>(
   simp only[dA,dR,nB,oQ,oG,setPs',Nat.reduceAdd,zqh,zqe,zqf];simp only[BD,BE,tZ,LR,ZK,Xm,Xn,XP,seval];exact⟨_,_,rfl⟩)
 obtain⟨B,D,h⟩:=I;exact⟨B,D,CL (b:=zf) rfl (by decide) h⟩
end
section
variable {m:Modl}{input:List Int}{steps:Int}
def Cm(m:Modl)(input:List Int)(steps:Int):Rs:=V1 m 33 (Cl m) [] (sI steps input m.gs)
def Rs.sc:Rs->Int×Int | .ret v _=>(1,v) | .stop st c _=>(st,c)
def runO(m:Modl)(input:List Int)(steps:Int):List Int:=(Cm m input steps).st.out
structure RunOk(m:Modl)(steps:Int):Prop where
 mr:ModR' m
 gz:∀g∈m.gs,g.size<=100000
 gl:m.gs.length<=100000
 fl:m.fs.length<=bigN
 mn:0<=Cl m/\Cl m<m.fs.length
 st:steps<=20000
theorem yB(l:List Glo):s5 ⟨l,m.fs⟩ (Et l):=by
 refine⟨by simp[Et],fun i r g B hg=>?_⟩;unfold Et at B;rw[zqx]at B
 replace hg:l[i]?=zsq g:=hg
 rw[hg]at B;cases B;rw[zkf];unfold Lu;omega
theorem MU(h:RunOk m steps):Sok m (sI steps input m.gs):=⟨yB (m:=m) m.gs,h.st,by have:=h.st;show 0+steps.toNat<=30000;omega,by show(0:Int)<=0/\(0:Int)<=33;decide⟩
def gsB(m:Modl):Bool:=!m.gs.isEmpty
theorem EQ(s:Mst)(h:gsB m=zf->s.data=[])(h2:gsB m=zt->s.data≠[])(ho:s.out=[]):jR m s=⟨Ec (gsB m) zf m Eb s,0,[]⟩:=by
 unfold jR Ec Eb;cases hb:gsB m with
 |false=>rw[h hb];rfl
 |true=>rw[uL (h2 hb),uM (h2 hb)];rfl
def aX(o:List Int)(st e:Int):AV:=.agg [ownd 0 1 (ints o),.int .i64 st,.int .i64 e]
theorem eU{fd n':Bool}{s:Mst}{st e:Int}(hz:n'=zf->s.out=[]):backOk [Aw fd n' s.out st e] [aX s.out st e] (Ec fd n' m (Aw fd n' s.out st e) s):=by
 have hl:(ints s.out).length=s.out.length:=by simp[ints]
 cases n' with
 |true=>
  unfold Aw Ec aX oQ;cases fd<;>(
   refine back_of (vs':=[.agg [.msl _ 0 s.out.length 1,.int .i64 st,.int .i64 e]]) rfl (by simp[E1,J4]) (us:=[.agg [.msl 0 0 (ints s.out).length 1,.int .i64 st,.int .i64 e]]) (ps:=[.row 0 (ints s.out) 1]) rfl ?_ ?_
   . rw[hl];rfl
   . rfl)
 |false=>
  rw[hz rfl];unfold Aw Ec aX oQ;cases fd<;>exact back_of (vs':=[.agg [.msl _ 0 0 1,.int .i64 st,.int .i64 e]]) rfl (by simp[E1,J4]) rfl rfl rfl
theorem mJ(h:gsB m=zf):(sI steps input m.gs).data=[]:=by
 have:m.gs=[]:=by unfold gsB at h;simpa using h
 show Et m.gs=[];rw[this];rfl
theorem MV(h:gsB m=zt):(sI steps input m.gs).data≠[]:=by
 show Et m.gs≠[]
 unfold gsB at h;unfold Et;cases hg:m.gs with|nil=>rw[hg]at h;cases h|cons _ _=>simp
theorem qB(R:RunT T)(U:T 19=zsq M3)(h:RunOk m steps):AM.Comes ⟨env,T,A1⟩ 7 [m.F,fslN (ints input),.int .i64 steps] [aX (runO m input steps) (Cm m input steps).sc.1 (Cm m input steps).sc.2]:=by
 have Y:=MU (input:=input) h;obtain⟨n',t0,I,D⟩:=(eT R h.mr 33 0 (by decide) (by decide)).2 zf (gsB m) zf (Cl m) [] (sI steps input m.gs) ⟨h.mn,Y,rfl⟩ (fun _=>rfl) (fun e=>mJ e) (fun _=>rfl)
 replace D:evP ⟨env,T,A1⟩ (.body 18 [.ptr 0 0 0,.int .i64 (Cl m),.nilsl] ⟨E6 zf (gsB m) zf zf m (sI steps input m.gs) [],nE zf (gsB m) zf,[]⟩)=zsq (xW (Cm m input steps) fun X=>⟨E6 zf (gsB m) zf n' m X [],nE zf (gsB m) zf,t0⟩):=D
 replace I:zf=zf->n'=zf->(Cm m input steps).st.out=[]:=I
 have ha:=MR (T:=T) (steps:=steps) (input:=input) h.gz h.gl;rw[EQ _ (fun e=>mJ e) (fun e=>MV e) rfl]at ha;have B:(Ec (gsB m) zf m Eb (sI steps input m.gs)).length=4+nB (gsB m):=by unfold Ec dR oG nB;cases gsB m<;>rfl
 unfold runO;cases V:Cm m input steps with
 |ret v s2=>
  rw[V]at I D;obtain⟨N,hc⟩:=MT R U h.fl D;rw[<-B]at hc;obtain⟨O,Q,J⟩:=EP (T:=T) (m:=m) (fd:=gsB m) (n':=n') (s:=s2) (st:=1) (e:=v);refine⟨[Aw (gsB m) n' s2.out 1 v],⟨Ec (gsB m) n' m (Aw (gsB m) n' s2.out 1 v) s2,0,Q++(N++[])⟩,?_,eU fun e=>I rfl e⟩;rw[nM (a:=IG) (g:=.tmp 37) (c:=DH) (nt:=49) (rs:=[.cell 6 32]) rfl (by simp),show K0=(⟨[],0,[]⟩:PK)from rfl,OR (g:=.tmp 37) ha hc J];clear hc J ha B D;generalize gsB m=fd;cases fd<;>cases n'<;>rfl
 |stop st e s2=>
  rw[V]at I D;obtain⟨N,hc⟩:=EO R U h.fl D;rw[<-B]at hc;obtain⟨O,Q,J⟩:=yA (T:=T) (m:=m) (fd:=gsB m) (n':=n') (s:=s2) (st:=st) (e:=e);refine⟨[Aw (gsB m) n' s2.out st e],⟨Ec (gsB m) n' m (Aw (gsB m) n' s2.out st e) s2,0,Q++(N++[])⟩,?_,eU fun e=>I rfl e⟩;rw[nM (a:=IG) (g:=.tmp 37) (c:=DH) (nt:=49) (rs:=[.cell 6 32]) rfl (by simp),show K0=(⟨[],0,[]⟩:PK)from rfl,GR (g:=.tmp 37) ha hc J];clear hc J ha B D;generalize gsB m=fd;cases fd<;>cases n'<;>rfl
end
theorem Tp{l:List Int}(h:G1 l=0):∀e∈l,e=0:=by
 induction l with
 |nil=>intro e B;cases B
 |cons a l D=>
  unfold G1 at h;by_cases q:a=0
  . rw[if_pos q]at h
    intro e B;rcases zqm.1 B with rfl|B
    . exact q
    . exact D h e B
  . rw[if_neg q]at h;exact absurd h q
theorem eV{m:Modl}(h:R0 m=0):(∀c∈m.fs,V0 m c=0)/\Xi m=0:=by
 unfold R0 at h;by_cases q:G1 (m.gs.map Td)=0
 . rw [if_pos q]at h
   by_cases B:G1 (m.fs.map (V0 m))=0
   . rw[if_pos B]at h
     exact⟨fun c hc=>Tp B _ (zqs hc),h⟩
   . rw[if_neg B]at h;exact absurd h B
 . rw[if_neg q]at h;exact absurd h q
theorem mK{m:Modl}{c:Cod}(h:V0 m c=0):(1<=c.blocks.length/\c.regs.length<=4096/\c.ps<=c.regs.length)/\∀b∈c.blocks,Nm m c b=0:=by
 unfold V0 at h;split at h
 . cases h
 . rename_i h1
   split at h
   . cases h
   . split at h
     . cases h
     . exact⟨by omega,fun b hb=>Tp h _ (zqs hb)⟩
theorem ER{m:Modl}{c:Cod}{b:Blk}(h:Nm m c b=0):(∀x∈b.code,L3 m c x=0)/\Pq c b.e=0:=by
 unfold Nm at h;split at h
 . rename_i q;exact⟨fun x B=>Tp q _ (zqs B),h⟩
 . rename_i q;exact absurd h q
theorem ES{m:Modl}{n:Int}{b:Bool}(h:R3 m n b=zt):0<=n/\n<m.gs.length:=by
 unfold R3 at h;exact thereD_iff.1 (zkz.1 h).1
theorem yC{x:Ins}(h:Gf x=zt):1<=x.op/\x.op<=11:=by
 unfold Gf at h;by_cases B:x.op=3
 . omega
 . rw [if_neg B]at h
   by_cases D:x.op=4
   . omega
   . rw[if_neg D,Bool.and_eq_true]at h
     exact⟨of_decide_eq_true h.1,of_decide_eq_true h.2⟩
theorem ET{c:Cod}{x:Ins}(h:Ag x=zf)(B:cE c x=zt)(ho:x.op=1\/x.op=2\/x.op=3\/x.op=4\/x.op=5\/x.op=7\/x.op=10):0<=x.dst/\x.dst<c.regs.length:=by
 have D:writesD x=x.dst:=by unfold writesD;rcases ho with e|e|e|e|e|e|e<;>simp[e]
 have I:¬x.op=9:=by omega
 have hd:¬x.dst<0:=by
  intro hn;unfold Ag at h;rw[decide_eq_true hn,Bool.and_true]at h
  have:(Nk.any fun n=>decide (x.op=n))=zt:=by
   rw[List.any_eq_true];refine⟨x.op,?_,by simp⟩;rcases ho with e|e|e|e|e|e|e<;>rw[e]<;>decide
  rw[this]at h;cases h
 unfold cE at B;rw[D,decide_eq_false I,decide_eq_false (show ¬x.dst=-1 by omega)]at B;simp only[Bool.not_false,Bool.true_or,Bool.true_and,Bool.not_not]at B;exact thereD_iff.1 B
theorem EU{m:Modl}{c:Cod}{x:Ins}(U:∀c∈m.fs,c.ps<=c.regs.length/\c.regs.length<=4096)(h:L3 m c x=0):InsR m c.regs.length x:=by
 unfold L3 at h;split at h
 . rename_i hf
   split at h
   . rename_i I
     have N:=yC hf;unfold E3 at I;obtain⟨h1,h2⟩:=zkz.1 I;obtain⟨h2,J⟩:=zkz.1 h2;obtain⟨J,D⟩:=zkz.1 J;have J:Ag x=zf:=by simpa using J
     have B:∀r∈readsD x,0<=r/\r<(c.regs.length:Int):=fun r V=>thereD_iff.1 (zko.1 h1 r V)
     refine⟨N,ET J h2,fun ho=>B _ ?_,fun ho=>B _ ?_,fun ho=>?_,fun ho=>?_⟩
     . unfold readsD;rcases ho with e|e|e|e|e|e|e<;>simp[e]
     . unfold readsD;rcases ho with e|e<;>simp[e]
     . unfold jK at D
       rcases ho with e|e|e|e<;>(simp only[e,Int.reduceEq,↓reduceIte]at D;exact ES D)
     . unfold jK at D
       simp only[ho,Int.reduceEq,↓reduceIte]at D;obtain⟨O,h6⟩:=zkz.1 D;have O:=thereD_iff.1 O;rw[if_pos ho]at h;split at h
       . rename_i hl
         have Y:codI m.fs x.n∈m.fs:=by
          unfold codI;rw[zqa,zqj (show x.n.toNat<m.fs.length by omega)];exact zqd _
         have:=U _ Y
         refine⟨O,fun y X=>B _ ?_,by omega,?_⟩
         . unfold readsD;simp only[ho,Int.reduceEq,↓reduceIte];exact X
         . by_cases hd:0<=x.dst
           . have Q:writesD x=x.dst:=by unfold writesD;simp only[ho,Int.reduceEq,↓reduceIte];rw[if_pos (by omega)]
             unfold cE at h2;rw[Q,decide_eq_true ho,decide_eq_true hd,decide_eq_false (show ¬x.dst=-1 by omega)]at h2;simp only[Bool.not_true,Bool.not_false,Bool.or_true,Bool.true_and,Bool.not_not]at h2;exact(thereD_iff.1 h2).2
           . omega
       . cases h
   . cases h
 . cases h
theorem EV{c:Cod}{e:Endd}(h:Pq c e=0):EndR c.blocks.length c.regs.length e:=by
 unfold Pq at h;by_cases B:e.kind=1
 . rw [if_pos B]at h
   split at h
   . rename_i q
     exact⟨by omega,fun k=>by omega,fun k=>by omega,fun _=>thereD_iff.1 q,fun k=>by omega⟩
   . cases h
 . rw [if_neg B]at h
   by_cases D:e.kind=2
   . rw [if_pos D]at h
     split at h
     . rename_i I
       split at h
       . rename_i J
         split at h
         . rename_i N
           exact⟨by omega,fun k=>by omega,fun _=>thereD_iff.1 N,fun _=>thereD_iff.1 I,fun _=>thereD_iff.1 J⟩
         . cases h
       . cases h
     . cases h
   . rw [if_neg D]at h
     split at h
     . rename_i k3
       refine⟨by omega,fun _=>?_,fun k=>by omega,fun k=>by omega,fun k=>by omega⟩;split at h
       . omega
       . split at h
         . rename_i q;exact(thereD_iff.1 q).2
         . cases h
     . cases h
theorem EW{m:Modl}(D:m.ok)(h:R0 m=0):ModR' m:=by
 obtain⟨h1,h2⟩:=eV h;have J:∀c∈m.fs,c.ps<=c.regs.length/\c.regs.length<=4096:=fun c hc=>by have:=(mK (h1 c hc)).1;omega
 refine⟨fun c hc=>?_⟩;obtain⟨N,O⟩:=mK (h1 c hc);refine⟨N.1,fun b hb=>?_,by omega⟩;obtain⟨Q,U⟩:=ER (O b hb);have B:=((D.1 c hc).1.2.1 b hb).2;exact⟨by simp only[bigN]at B;omega,fun x I=>EU J (Q x I),EV U⟩
theorem EX{α:Type}{p:α->Bool}{l:List α}:idxOf p l<l.length:=by
 unfold idxOf;split
 . rename_i i h
   obtain⟨h1,_⟩:=List.findIdx?_eq_some_iff_getElem.1 h;omega
 . omega
theorem EY{m:Modl}{steps:Int}(I:m.ok)(hb:s4 m=zf)(h:R0 m=0)(J:steps<=20000):RunOk m steps:=by
 obtain⟨h1,h2⟩:=eV h;unfold s4 at hb;split at hb
 . cases hb
 . rename_i hg
   split at hb
   . cases hb
   . rename_i hf
     split at hb
     . rename_i ha
       refine⟨EW I h,fun g B=>?_,by omega,by simp only[bigN];omega,?_,J⟩
       . have:=zko.1 ha g B
         simp at this;omega
       . have D:R4 m=Cl m:=rfl
         rw[<-D];unfold Xi at h2;split at h2
         . cases h2
         . rename_i hn
           exact⟨by omega,EX⟩
     . cases hb
section
variable {m:Modl}{c:Cod}{i j k:Nat}{n:Int}
theorem EZ(hi:i<m.fs.length)(D:j<m.fs[i].blocks.length)(I:m.fs[i].ok):evP ⟨env,T,A1⟩ (.code jB [(1,.ptr 0 0 0),(3,.int .i64 n),(4,.int .i64 (i:Int)),(5,.int .i64 (j:Int))] ⟨[.row 1 [m.F] 2],0,[]⟩)=zsq (.ok .normal [(1,.ptr 0 0 0),(3,.int .i64 (Q4 n m.fs[i].blocks[j].code.length)),(4,.int .i64 (i:Int)),(5,.int .i64 ((j+1:Nat):Int))] ⟨[.row 1 [m.F] 2],0,[]⟩):=by
 unfold jB Q4;have B:decide ((j:Int)<(m.fs[i].blocks.length:Int))=zt:=by simp[D]
 have J:=B5 (i:=j) (by have:=I.2.2;simp only[bigN]at this;omega);have h1:=A7 (F:=Cod.F) hi;have h2:=A7 (F:=Blk.F) D;simp only[Blk.F,Modl.F,Cod.F]at h1 h2|-;simp only[B,h1,h2,J,zqb,XP,seval]
theorem FA(hi:i<m.fs.length):∃fr',evP ⟨env,T,A1⟩ (.code jB [(1,.ptr 0 0 0),(3,.int .i64 n),(4,.int .i64 (i:Int)),(5,.int .i64 (m.fs[i].blocks.length:Int))] ⟨[.row 1 [m.F] 2],0,[]⟩)=zsq (.ok (.exit 2) fr' ⟨[.row 1 [m.F] 2],0,[]⟩)/\(lookP fr' 1=.ptr 0 0 0/\lookP fr' 3=.int .i64 n/\lookP fr' 4=.int .i64 (i:Int)):=by
 unfold jB;have B:decide ((m.fs[i].blocks.length:Int)<(m.fs[i].blocks.length:Int))=zf:=by simp
 have h1:=A7 (F:=Cod.F) hi;simp only[Modl.F,Cod.F]at h1|-;simp only[B,h1,zqb,XP,seval];exact⟨_,rfl,rfl,rfl,rfl⟩
theorem FB(hi:i<m.fs.length)(D:m.ok):evP ⟨env,T,A1⟩ (.code jC [(1,.ptr 0 0 0),(3,.int .i64 n),(4,.int .i64 (i:Int))] ⟨[.row 1 [m.F] 2],0,[]⟩)=zsq (.ok .normal [(1,.ptr 0 0 0),(3,.int .i64 (tS n m.fs[i])),(4,.int .i64 ((i+1:Nat):Int))] ⟨[.row 1 [m.F] 2],0,[]⟩):=by
 have hc:=(D.1 _ (zqd hi)).1;have B:decide ((i:Int)<(m.fs.length:Int))=zt:=by simp[hi]
 have J:=B5 (i:=i) (by have:=D.2.1;simp only[bigN]at this;omega);have hg:=A7 (F:=Cod.F) hi;obtain⟨fr',h1,h2,I,N⟩:=Hh (P:=⟨env,T,A1⟩) (c:=jB) (f:=fun a (b:Blk)=>Q4 a b.code.length) (l:=m.fs[i].blocks) (S:=fun j n=>[(1,.ptr 0 0 0),(3,.int .i64 n),(4,.int .i64 (i:Int)),(5,.int .i64 (j:Int))]) (K:=fun _=>⟨[.row 1 [m.F] 2],0,[]⟩) (x:=2) (Q:=fun n fr'=>lookP fr' 1=.ptr 0 0 0/\lookP fr' 3=.int .i64 n/\lookP fr' 4=.int .i64 (i:Int)) (fun k a h=>EZ hi h hc) (fun a=>FA hi) (Q4 (Q4 n m.fs[i].regs.length) m.fs[i].blocks.length);have h1:evP ⟨env,T,A1⟩ (.code (.loop jB) [(1,.ptr 0 0 0),(3,.int .i64 (Q4 (Q4 n m.fs[i].regs.length) m.fs[i].blocks.length)),(4,.int .i64 (i:Int)),(5,.int .i64 0)] ⟨[.row 1 [m.F] 2],0,[]⟩)=_:=h1;have hn:tS n m.fs[i]=m.fs[i].blocks.foldl (fun a (b:Blk)=>Q4 a b.code.length) (Q4 (Q4 n m.fs[i].regs.length) m.fs[i].blocks.length):=rfl;rw[<-hn]at I;unfold jC;unfold Q4 at h1;simp only[Modl.F,Cod.F]at hg h1|-;simp only[B,hg,h1,h2,I,N,J,zqb,XP,seval]
theorem FC:∃fr',evP ⟨env,T,A1⟩ (.code jC [(1,.ptr 0 0 0),(3,.int .i64 n),(4,.int .i64 (m.fs.length:Int))] ⟨[.row 1 [m.F] 2],0,[]⟩)=zsq (.ok (.exit 0) fr' ⟨[.row 1 [m.F] 2],0,[]⟩)/\(lookP fr' 1=.ptr 0 0 0/\lookP fr' 3=.int .i64 n):=by
 unfold jC;have B:decide ((m.fs.length:Int)<(m.fs.length:Int))=zf:=by simp
 simp only[Modl.F];simp only[B,zqb,XP,seval];exact⟨_,rfl,rfl,rfl⟩
theorem Pt(B:T 9=zsq Ai)(D:T 10=zsq Ch){m:Modl}(U:m.ok):AM.Comes ⟨env,T,A1⟩ 4 [m.F] [.bool (l9 m)]:=by
 refine⟨[.bool (l9 m)],⟨[],0,[]⟩,?_,back_of rfl zqt rfl rfl rfl⟩;rw[A5 (c:=p4) (nt:=71) (rs:=[.tmp 2]) rfl (by simp)];unfold p4;unfold K0;have V:=fun K=>jO (K:=K) B U
 have tc:=fun K=>pP (K:=K) D U
 obtain⟨fr',h1,h2,N⟩:=Hh (P:=⟨env,T,A1⟩) (c:=jC) (f:=tS) (l:=m.fs) (S:=fun i n=>[(1,.ptr 0 0 0),(3,.int .i64 n),(4,.int .i64 (i:Int))]) (K:=fun _=>⟨[.row 1 [m.F] 2],0,[]⟩) (x:=0) (Q:=fun n fr'=>lookP fr' 1=.ptr 0 0 0/\lookP fr' 3=.int .i64 n) (fun k a h=>FB h U) (fun a=>FC) 0;have h1:evP ⟨env,T,A1⟩ (.code (.loop jC) [(1,.ptr 0 0 0),(3,.int .i64 0),(4,.int .i64 0)] ⟨[.row 1 [m.F] 2],0,[]⟩)=_:=h1;have I:decide ((12:Int)<(m.fs.length:Int))=decide (12<m.fs.length):=decide_eq_decide.2 (by omega);unfold l9;simp only[Modl.F]at V tc h1|-;by_cases O:1000<m.fs.foldl tS 0
 . simp only[h1,h2,N,I,eq_true O,zqb,XP,seval]
 by_cases J:12<m.fs.length
 . simp only[h1,h2,N,I,O,eq_true J,zqb,XP,seval]
 cases hb:s4 m with
 |true=>simp only[h1,h2,N,I,O,J,V,hb,zqb,XP,seval]
 |false=>simp only[h1,h2,N,I,O,J,V,hb,tc,zqb,XP,seval]
def Ed:=Bs (fun p:(Modl)=>[p.F]) (fun p=>[.bool (l9 p)]) (fun p=>p.ok)
theorem jS(B:T 4=zsq Ed){m:Modl}{K:PK}(D:m.ok):evP ⟨env,T,A1⟩ (.call 4 [m.F] K)=zsq (.val (openTs K.os.length [.bool (l9 m)]).1 ⟨K.os++(openTs K.os.length [.bool (l9 m)]).2,K.ext,K.tch⟩):=C9 B (by simp only[VV,XP,seval]) (D4 (a:=fun p:(Modl)=>[p.F]) (r:=fun p=>[.bool (l9 p)]) (fun x y e=>by simp only[VJ]at e;simp only[e]) (m) D) (by simp only[VN,XP,seval])
theorem aY(B:T 9=zsq Ai)(D:T 10=zsq Ch)(hP:PEok ⟨env,T,A1⟩):TC env 4 Ed:=D6 hP fun p h=>Pt B D h
end
theorem aZ(V:T 44=zsq Z8)(Q:T 45=zsq F5)(Y:T 30=zn)(B:T 46=zn)(X:T 52=zsq D2)(I:T 47=zn)(J:T 31=zn)(N:T 33=zn)(D:T 32=zn)(O:T 18=zn)(U:T 19=zsq M3){m:Modl}{input:List Int}{steps:Int}(hk:RunOk m steps):AM.Comes ⟨env,T,A1⟩ 7 [m.F,fslN (ints input),.int .i64 steps] [.agg [ownd 0 1 (ints (runO m input steps)),.int .i64 (Cm m input steps).sc.1,.int .i64 (Cm m input steps).sc.2]]:=by
 exact qB ⟨V,Q,Y,B,X,I,J,N,D,O⟩ U hk
def Qm:=Bs (fun p:(Modl)×(List Int)×(Int)=>[p.1.F,fslN (ints p.2.1),.int .i64 p.2.2]) (fun p=>[.agg [ownd 0 1 (ints (runO p.1 p.2.1 p.2.2)),.int .i64 (Cm p.1 p.2.1 p.2.2).sc.1,.int .i64 (Cm p.1 p.2.1 p.2.2).sc.2]]) (fun p=>RunOk p.1 p.2.2)
theorem yD(B:T 7=zsq Qm){m:Modl}{input:List Int}{steps:Int}{K:PK}(D:RunOk m steps):evP ⟨env,T,A1⟩ (.call 7 [m.F,fslN (ints input),.int .i64 steps] K)=zsq (.val (openTs K.os.length [.agg [ownd 0 1 (ints (runO m input steps)),.int .i64 (Cm m input steps).sc.1,.int .i64 (Cm m input steps).sc.2]]).1 ⟨K.os++(openTs K.os.length [.agg [ownd 0 1 (ints (runO m input steps)),.int .i64 (Cm m input steps).sc.1,.int .i64 (Cm m input steps).sc.2]]).2,K.ext,K.tch⟩):=C9 B (by simp only[VV,XP,seval]) (D4 (a:=fun p:(Modl)×(List Int)×(Int)=>[p.1.F,fslN (ints p.2.1),.int .i64 p.2.2]) (r:=fun p=>[.agg [ownd 0 1 (ints (runO p.1 p.2.1 p.2.2)),.int .i64 (Cm p.1 p.2.1 p.2.2).sc.1,.int .i64 (Cm p.1 p.2.1 p.2.2).sc.2]]) (fun x y e=>by simp only[VJ]at e;simp only[e]) (m,input,steps) D) (by simp only[VN,XP,seval])
theorem qC(V:T 44=zsq Z8)(Q:T 45=zsq F5)(Y:T 30=zn)(B:T 46=zn)(X:T 52=zsq D2)(I:T 47=zn)(J:T 31=zn)(N:T 33=zn)(D:T 32=zn)(O:T 18=zn)(U:T 19=zsq M3)(hP:PEok ⟨env,T,A1⟩):TC env 7 Qm:=D6 hP fun p h=>aZ V Q Y B X I J N D O U h
def pickD(v n:Int):Int:=if n<1 then 0 else if v.tmod n<0 then v.tmod n+n else v.tmod n
theorem jT  {v:Int} {n:Int} (hk:n<=1000000):AM.Comes ⟨env,T,A1⟩ 8 [.int .i64 v,.int .i64 n] [.int .i64 (pickD v n)]:=by
 refine⟨[.int .i64 (pickD v n)],⟨[],0,[]⟩,?_,back_of rfl zqt rfl rfl rfl⟩;rw[A5 (c:=p8) (nt:=16) (rs:=[.tmp 4]) rfl (by simp)];unfold p8;unfold K0;unfold pickD;by_cases h1:n<1
 . simp only[eq_true h1,XP,seval]
 . have h0:¬n=0:=by omega
   have B:=fun t K=>tU (K:=K) (E:=env) t .i64 v h0
   by_cases h2:v.tmod n<0
   . have D:=Ea (n:=v.tmod n+n) (by have:=Int.lt_tmod_of_pos v (show 0<n by omega);omega) (by omega)
     simp only[h1,eq_true h2,B,D,XP,seval]
   . simp only[h1,h2,B,XP,seval]
def mL:=Bs (fun p:(Int)×(Int)=>[.int .i64 p.1,.int .i64 p.2]) (fun p=>[.int .i64 (pickD p.1 p.2)]) (fun p=>p.2<=1000000)
theorem MW(B:T 8=zsq mL){v:Int}{n:Int}{K:PK}(D:n<=1000000):evP ⟨env,T,A1⟩ (.call 8 [.int .i64 v,.int .i64 n] K)=zsq (.val (openTs K.os.length [.int .i64 (pickD v n)]).1 ⟨K.os++(openTs K.os.length [.int .i64 (pickD v n)]).2,K.ext,K.tch⟩):=C9 B (by simp only[VV,XP,seval]) (D4 (a:=fun p:(Int)×(Int)=>[.int .i64 p.1,.int .i64 p.2]) (r:=fun p=>[.int .i64 (pickD p.1 p.2)]) (fun x y e=>by simp only[VJ]at e;simp only[e]) (v,n) D) (by simp only[VN,XP,seval])
theorem yE  (hP:PEok ⟨env,T,A1⟩):TC env 8 mL:=D6 hP fun p h=>jT  h
section
variable {m M:Modl}{os:List PO}{K:PK}{inp o:List Int}{st s1 x y:Int}
theorem b15(h:l9 m=zf):s4 m=zf/\R0 m=0/\m.fs.length<=12:=by
 unfold l9 at h;split at h
 . cases h
 . split at h
   . cases h
   . rename_i h2
     split at h
     . cases h
     . rename_i B
       exact⟨by simpa using B,by simpa using h,by omega⟩
end
theorem Cn:zqo 3=[0,1,2]:=rfl
theorem Co:zqo 4=[0,1,2,3]:=rfl
theorem Cp:zqo 5=[0,1,2,3,4]:=rfl
theorem Cq:zqo 6=[0,1,2,3,4,5]:=rfl
theorem Cr:zqo 7=[0,1,2,3,4,5,6]:=rfl
theorem Cs:zqo 8=[0,1,2,3,4,5,6,7]:=rfl
theorem Ct:zqo 9=[0,1,2,3,4,5,6,7,8]:=rfl
theorem Z9:zqo 10=[0,1,2,3,4,5,6,7,8,9]:=rfl
section
variable (P:PE)(c:RC)(m:Nat)(g:Option Tmp×Bool)(yt yd:Tmp)(p1 p2:PC)(args:List Operand)
def RI(r:Option PR):Option PR:=match r with|some (.ok .normal fr K)=>zsq (.itr .normal zn fr K)|_=>zn
def RJ(b:Option Bool)(fr:PF)(K:PK):Option PR:=match b with|some zf=>RI (evP P (.code p2 ((yd,skipped)::fr) K))|_=>zn
def RK(r:Option PR):Option PR:=match r with|some (.ok .normal fr K)=>RJ P yd p2 (guardP (zsq g) fr) fr K|_=>zn
def RL(b:Option Bool)(fr:PF)(K:PK):Option PR:=match b with|some zt=>nO P p2 yd fr K (evP P (.round c (opvL P.E args fr) ⟨K.os,K.os.length,[]⟩))|_=>zn
def RM(r:Option PR):Option PR:=match r with|some (.ok .normal fr K)=>RL P c yd p2 args (guardP (zsq g) fr) fr K|_=>zn
def MX(b:Option Bool)(fr:PF)(K:PK):Option PR:=match b with|some zt=>RM P c g yd p2 args (evP P (.code p1 ((yt,.any)::fr) K))|some zf=>RK P g yd p2 (evP P (.code p1 ((yt,skipped)::fr) K))|none=>zn
def yG0(r:Option PR):Option PR:=match r with|some (.ok .normal fr K)=>MX P c g yt yd p1 p2 args (guardP (zsq g) fr) fr K|_=>zn
variable {P c m g yt yd p1 p2 args}{fr:PF}{K:PK}{e:Ex}
theorem t8:RI (zsq (.ok .normal fr K))=zsq (.itr .normal zn fr K):=rfl
theorem u4:RJ P yd p2 (zsq zf) fr K=RI (evP P (.code p2 ((yd,skipped)::fr) K)):=rfl
theorem u5:RK P g yd p2 (zsq (.ok .normal fr K))=RJ P yd p2 (guardP (zsq g) fr) fr K:=rfl
theorem u6:RL P c yd p2 args (zsq zt) fr K=nO P p2 yd fr K (evP P (.round c (opvL P.E args fr) ⟨K.os,K.os.length,[]⟩)):=rfl
theorem u7:RM P c g yd p2 args (zsq (.ok .normal fr K))=RL P c yd p2 args (guardP (zsq g) fr) fr K:=rfl
theorem u9:MX P c g yt yd p1 p2 args (zsq zt) fr K=RM P c g yd p2 args (evP P (.code p1 ((yt,.any)::fr) K)):=rfl
theorem v6:MX P c g yt yd p1 p2 args (zsq zf) fr K=RK P g yd p2 (evP P (.code p1 ((yt,skipped)::fr) K)):=rfl
theorem v7:yG0 P c g yt yd p1 p2 args (zsq (.ok .normal fr K))=MX P c g yt yd p1 p2 args (guardP (zsq g) fr) fr K:=rfl
theorem M5{t:Tmp}{w:Bool}:guardP (zsq (zsq t,w)) fr=g0 w (lookP fr t):=rfl
theorem M6{p0:PC}:evP P (.iter c (m+1) (.yreg p0 (zsq g) yt p1 yd args p2) zn fr K)=yG0 P c g yt yd p1 p2 args (evP P (.code p0 fr K)):=by
 have B:∀(e:Ex)(x:Option PR),(x >>= fun r=>match r with | .ok .normal fr K=>pure (PR.itr .normal (M4 e) fr K)|_=>zn)=RP e x:=fun e x=>by
  cases x with
  |none=>rfl
  | some r=>cases r with
   |ok e fr K=>cases e<;>rfl
   |_=>rfl
 rw[evP,evG];cases evP P (.code p0 fr K)with
 |none=>rfl
 | some r => cases r with
  |ok e fr K=>
   cases e with
   |normal=>
    show(match guardP (zsq g) fr with|some zt=>_|some zf=>_|none=>_)=MX P c g yt yd p1 p2 args (guardP (zsq g) fr) fr K
    cases guardP (zsq g) fr with
    |none=>rfl
    | some b => cases b with
     |true=>
      show(evP P (.code p1 ((yt,.any)::fr) K) >>= _)=RM P c g yd p2 args (evP P (.code p1 ((yt,.any)::fr) K))
      cases evP P (.code p1 ((yt,.any)::fr) K)with
      |none=>rfl
      | some r => cases r with
       |ok e fr K=>
        cases e with
        |normal=>
         show(match guardP (zsq g) fr with|some zt=>_|_=>_)=RL P c yd p2 args (guardP (zsq g) fr) fr K
         cases guardP (zsq g) fr with
         |none=>rfl
         | some b=>cases b with
          |false=>rfl
          |true=>
           show(evP P (.round c (opvL P.E args fr) ⟨K.os,K.os.length,[]⟩) >>= _)=nO P p2 yd fr K (evP P (.round c (opvL P.E args fr) ⟨K.os,K.os.length,[]⟩))
           cases evP P (.round c (opvL P.E args fr) ⟨K.os,K.os.length,[]⟩)with
           |none=>rfl
           | some r=>cases r with
            |ok e fr1 K1=>exact B e _
            |_=>rfl
        |_=>rfl
       |_=>rfl
     |false=>
      show(evP P (.code p1 ((yt,skipped)::fr) K) >>= _)=RK P g yd p2 (evP P (.code p1 ((yt,skipped)::fr) K))
      cases evP P (.code p1 ((yt,skipped)::fr) K)with
      |none=>rfl
      | some r => cases r with
       |ok e fr K=>
        cases e with
        |normal=>
         show(match guardP (zsq g) fr with|some zf=>_|_=>_)=RJ P yd p2 (guardP (zsq g) fr) fr K
         cases guardP (zsq g) fr with
         |none=>rfl
         | some b=>cases b with
          |true=>rfl
          |false=>
           show(evP P (.code p2 ((yd,skipped)::fr) K) >>= _)=RI (evP P (.code p2 ((yd,skipped)::fr) K))
           cases evP P (.code p2 ((yd,skipped)::fr) K)with
           |none=>rfl
           | some r=>cases r with
            |ok e fr K=>cases e<;>rfl
            |_=>rfl
        |_=>rfl
       |_=>rfl
   |_=>rfl
  |_=>rfl
end
def callsI(l:List Ins):List Int:=(l.filter fun x=>x.op=9).map (·.n)
def callsD(c:Cod):List Int:=c.blocks.flatMap fun b=>callsI b.code
section
variable {c:Cod}{b:Blk}{gs fs G:List AV}{k i m n ex:Nat}{a:List Int}{fr:PF}{tch:List Nat}{x:Ins}{f:Bool}{xs:List AV}
def y5(pre:List PO)(c:Cod)(a:List Int)(t:List PO):List PO:=pre++(match a with|[]=>.row 1 [.nilsl] 1::.row 1 [c.F] 5::t|x::l=>.row 1 [.msl (pre.length+2) 0 (x::l).length 1] 1::.row 1 [c.F] 5::.row 0 (ints (x::l)) 1::t)
def rD(a:List Int):Nat:=match a with|[]=>0|_::_=>1
theorem eW{l:List Ins}{x:Ins}:callsI (x::l)=callsI [x]++callsI l:=by
 unfold callsI;by_cases h:x.op=9<;>simp[h]
theorem Ow{l:List Ins}{k:Nat}(h:k<l.length):callsI (l.drop k)=callsI [l[k]]++callsI (l.drop (k+1)):=by
 rw[zkb h,eW]
theorem Al(l:List Ins):(callsI l).length<=l.length:=by unfold callsI;rw[zqb];exact List.length_filter_le _ _
theorem Tq{x:Ins}(h:x.op=9):callsI [x]=[x.n]:=by unfold callsI;simp[h]
theorem Xp{x:Ins}(h:¬x.op=9):callsI [x]=[]:=by unfold callsI;simp[h]
theorem Lv{v:AV}{o:Nat}:Y8 (.fptr v o)=zsq (.fptr v o):=rfl
theorem MY(B:lookP fr 7=.ptr 2 0 0):∃fr' tch',evP ⟨env,T,A1⟩ (.round ⟨[18],p15q0,p15r0,fr⟩ [.fptr x.F 0] ⟨[.row 1 [.agg [fslN gs,fslN fs]] 2,.row 1 [c.F] 5,.row 1 [.nilsl] 1,.row 1 [c.F] 5,.row 1 [b.F] 5],5,tch⟩)=zsq (.ok .normal fr' ⟨[.row 1 [.agg [fslN gs,fslN fs]] 2,.row 1 [c.F] 5,.row 1 [.msl 5 0 1 1] 1,.row 1 [c.F] 5,.row 1 [b.F] 5,.row 0 [.int .i64 x.n] 1],5,tch'⟩):=by
 rw[Qt (by rfl)];unfold p15q0 p15r0;simp only[Ins.F,Blk.F,Cod.F];simp only[Eh,Hr,bZ,B,Lv,Cn,Co,Cp,Cq,Cr,Cs,Ct,Z9,XP,seval];exact⟨_,_,rfl⟩
theorem MZ(B:lookP fr 7=.ptr 2 0 0)(ha:a.length+1<=10000000):∃fr' tch',evP ⟨env,T,A1⟩ (.round ⟨[18],p15q0,p15r0,fr⟩ [.fptr x.F 0] ⟨[.row 1 [.agg [fslN gs,fslN fs]] 2,.row 1 [c.F] 5,.row 1 [.msl 4 0 a.length 1] 1,.row 1 [c.F] 5,.row 0 (ints a) 1,.row 1 [b.F] 5],6,tch⟩)=zsq (.ok .normal fr' ⟨[.row 1 [.agg [fslN gs,fslN fs]] 2,.row 1 [c.F] 5,.row 1 [.msl 6 0 (a.length+1) 1] 1,.row 1 [c.F] 5,.dead,.row 1 [b.F] 5,.row 0 (ints (a++[x.n])) 1],6,tch'⟩):=by
 rw[Qt (by rfl)];unfold p15q0 p15r0;have hl:(ints a).length=a.length:=by simp[ints]
 have hz:(a.length+1)*8<=140737488355328:=by omega
 have D:ints (a++[x.n])=ints a++[.int .i64 x.n]:=by simp[ints]
 rw[D];simp only[Ins.F,Blk.F,Cod.F];simp only[Eh,Hr,bZ,B,Lv,hl,hz,Cn,Co,Cp,Cq,Cr,Cs,Ct,Z9,XP,seval];exact⟨_,_,rfl⟩
theorem FD(N:lookP fr 7=.ptr 2 0 0)(J:k<b.code.length)(B:b.code[k].op=9)(O:b.code.length*88<=bigN):∃tch',evP ⟨env,T,A1⟩ (.iter (⟨[18],p15q0,p15r0,fr⟩:RC) (m+1+1+1+1+1+1+1+1+1+1+1+1+1+1+1+1) p43b0 zn [(4,.ptr 4 0 0),(8,.fsl xs f),(9,.int .i64 n),(10,.int .i64 i),(16,.int .i64 b.code.length),(17,.int .i64 (k:Nat))] ⟨[.row 1 [.agg [fslN gs,fslN fs]] 2,.row 1 [c.F] 5,.row 1 [.nilsl] 1,.row 1 [c.F] 5,.row 1 [b.F] 5],4,tch⟩)=zsq (.itr .normal zn [(4,.ptr 5 0 0),(8,.fsl xs f),(9,.int .i64 n),(10,.int .i64 i),(16,.int .i64 b.code.length),(17,.int .i64 (k+1:Nat))] ⟨[.row 1 [.agg [fslN gs,fslN fs]] 2,.row 1 [c.F] 5,.row 1 [.msl 4 0 1 1] 1,.row 1 [c.F] 5,.row 0 (ints [b.code[k].n]) 1,.row 1 [b.F] 5],4,tch'⟩):=by
 have hg:=A7 (F:=Ins.F) J;have I:decide ((k:Int)<(b.code.length:Int))=zt:=by simp[J]
 have Q:=B5 (i:=k) (by simp only[bigN]at O;omega);obtain⟨fr1,t1,D⟩:=MY (T:=T) (c:=c) (b:=b) (gs:=gs) (fs:=fs) (x:=b.code[k]) (tch:=[]) N;unfold p43b0;simp only[Ins.F,Blk.F,Cod.F]at hg D|-;generalize p15q0=q0 at D|-;generalize p15r0=r0 at D|-;have U:decide (b.code[k].op=9)=zt:=by simp[B]
 simp only[V9,v8,M7,M8,M9,N0,w4,V8,I6,I7,N4,N1,N2,N3,W6,w5,J1,w7,M6,t8,u4,u5,u6,u7,u9,v6,v7,M5,w6,W7,I8,I9,J0,wentOn,M4,hg,I,Q,U,D,Lv,eq_true B,Cn,Co,Cp,Cq,Cr,Cs,Ct,Z9,ints,zql,zqk,XP,seval];exact⟨_,rfl⟩
theorem FE(N:lookP fr 7=.ptr 2 0 0)(ha:a.length+1<=10000000)(J:k<b.code.length)(B:b.code[k].op=9)(O:b.code.length*88<=bigN):∃tch',evP ⟨env,T,A1⟩ (.iter (⟨[18],p15q0,p15r0,fr⟩:RC) (m+1+1+1+1+1+1+1+1+1+1+1+1+1+1+1+1) p43b0 zn [(4,.ptr 5 0 0),(8,.fsl xs f),(9,.int .i64 n),(10,.int .i64 i),(16,.int .i64 b.code.length),(17,.int .i64 (k:Nat))] ⟨[.row 1 [.agg [fslN gs,fslN fs]] 2,.row 1 [c.F] 5,.row 1 [.msl 4 0 a.length 1] 1,.row 1 [c.F] 5,.row 0 (ints a) 1,.row 1 [b.F] 5],4,tch⟩)=zsq (.itr .normal zn [(4,.ptr 5 0 0),(8,.fsl xs f),(9,.int .i64 n),(10,.int .i64 i),(16,.int .i64 b.code.length),(17,.int .i64 (k+1:Nat))] ⟨[.row 1 [.agg [fslN gs,fslN fs]] 2,.row 1 [c.F] 5,.row 1 [.msl 4 0 (a.length+1) 1] 1,.row 1 [c.F] 5,.row 0 (ints (a++[b.code[k].n])) 1,.row 1 [b.F] 5],4,tch'⟩):=by
 have hg:=A7 (F:=Ins.F) J;have I:decide ((k:Int)<(b.code.length:Int))=zt:=by simp[J]
 have Q:=B5 (i:=k) (by simp only[bigN]at O;omega);obtain⟨fr1,t1,D⟩:=MZ (T:=T) (c:=c) (b:=b) (gs:=gs) (fs:=fs) (x:=b.code[k]) (a:=a) (tch:=[]) N ha;unfold p43b0;simp only[Ins.F,Blk.F,Cod.F]at hg D|-;generalize p15q0=q0 at D|-;generalize p15r0=r0 at D|-;generalize ints (a++[b.code[k].n])=ia at D|-;have U:decide (b.code[k].op=9)=zt:=by simp[B]
 simp only[V9,v8,M7,M8,M9,N0,w4,V8,I6,I7,N4,N1,N2,N3,W6,w5,J1,w7,M6,t8,u4,u5,u6,u7,u9,v6,v7,M5,w6,W7,I8,I9,J0,wentOn,M4,hg,I,Q,U,D,Lv,eq_true B,Cn,Co,Cp,Cq,Cr,Cs,Ct,Z9,XP,seval];exact⟨_,rfl⟩
theorem FF(I:k<b.code.length)(B:¬b.code[k].op=9)(J:b.code.length*88<=bigN):∃tch',evP ⟨env,T,A1⟩ (.iter (⟨[18],p15q0,p15r0,fr⟩:RC) (m+1+1+1+1+1+1+1+1+1+1+1+1+1+1+1+1) p43b0 zn [(4,.ptr 4 0 0),(8,.fsl xs f),(9,.int .i64 n),(10,.int .i64 i),(16,.int .i64 b.code.length),(17,.int .i64 (k:Nat))] ⟨[.row 1 [.agg [fslN gs,fslN fs]] 2,.row 1 [c.F] 5,.row 1 [.nilsl] 1,.row 1 [c.F] 5,.row 1 [b.F] 5],4,tch⟩)=zsq (.itr .normal zn [(4,.ptr 4 0 0),(8,.fsl xs f),(9,.int .i64 n),(10,.int .i64 i),(16,.int .i64 b.code.length),(17,.int .i64 (k+1:Nat))] ⟨[.row 1 [.agg [fslN gs,fslN fs]] 2,.row 1 [c.F] 5,.row 1 [.nilsl] 1,.row 1 [c.F] 5,.row 1 [b.F] 5],4,tch'⟩):=by
 have hg:=A7 (F:=Ins.F) I;have D:decide ((k:Int)<(b.code.length:Int))=zt:=by simp[I]
 have N:=B5 (i:=k) (by simp only[bigN]at J;omega);unfold p43b0;simp only[Ins.F,Blk.F,Cod.F]at hg|-;have O:decide (b.code[k].op=9)=zf:=by simp[B]
 simp only[V9,v8,M7,M8,M9,N0,w4,V8,I6,I7,N4,N1,N2,N3,W6,w5,J1,w7,M6,t8,u4,u5,u6,u7,u9,v6,v7,M5,w6,W7,I8,I9,J0,wentOn,M4,hg,D,N,O,Lv,B,Cn,Co,Cp,Cq,Cr,Cs,Ct,Z9,XP,seval];exact⟨_,rfl⟩
theorem FG(I:k<b.code.length)(B:¬b.code[k].op=9)(J:b.code.length*88<=bigN):∃tch',evP ⟨env,T,A1⟩ (.iter (⟨[18],p15q0,p15r0,fr⟩:RC) (m+1+1+1+1+1+1+1+1+1+1+1+1+1+1+1+1) p43b0 zn [(4,.ptr 5 0 0),(8,.fsl xs f),(9,.int .i64 n),(10,.int .i64 i),(16,.int .i64 b.code.length),(17,.int .i64 (k:Nat))] ⟨[.row 1 [.agg [fslN gs,fslN fs]] 2,.row 1 [c.F] 5,.row 1 [.msl 4 0 a.length 1] 1,.row 1 [c.F] 5,.row 0 (ints a) 1,.row 1 [b.F] 5],4,tch⟩)=zsq (.itr .normal zn [(4,.ptr 5 0 0),(8,.fsl xs f),(9,.int .i64 n),(10,.int .i64 i),(16,.int .i64 b.code.length),(17,.int .i64 (k+1:Nat))] ⟨[.row 1 [.agg [fslN gs,fslN fs]] 2,.row 1 [c.F] 5,.row 1 [.msl 4 0 a.length 1] 1,.row 1 [c.F] 5,.row 0 (ints a) 1,.row 1 [b.F] 5],4,tch'⟩):=by
 have hg:=A7 (F:=Ins.F) I;have D:decide ((k:Int)<(b.code.length:Int))=zt:=by simp[I]
 have N:=B5 (i:=k) (by simp only[bigN]at J;omega);unfold p43b0;simp only[Ins.F,Blk.F,Cod.F]at hg|-;have O:decide (b.code[k].op=9)=zf:=by simp[B]
 simp only[V9,v8,M7,M8,M9,N0,w4,V8,I6,I7,N4,N1,N2,N3,W6,w5,J1,w7,M6,t8,u4,u5,u6,u7,u9,v6,v7,M5,w6,W7,I8,I9,J0,wentOn,M4,hg,D,N,O,Lv,B,Cn,Co,Cp,Cq,Cr,Cs,Ct,Z9,XP,seval];exact⟨_,rfl⟩
theorem ita(J:lookP fr 7=.ptr 2 0 0)(ha:a.length+1<=10000000)(D:k<b.code.length)(I:b.code.length*88<=bigN):∃tch',evP ⟨env,T,A1⟩ (.iter (⟨[18],p15q0,p15r0,fr⟩:RC) (m+1+1+1+1+1+1+1+1+1+1+1+1+1+1+1+1) p43b0 zn [(4,.ptr (4+rD a) 0 0),(8,.fsl xs f),(9,.int .i64 n),(10,.int .i64 i),(16,.int .i64 b.code.length),(17,.int .i64 (k:Nat))] ⟨y5 [.row 1 [.agg [fslN gs,fslN fs]] 2,.row 1 [c.F] 5] c a [.row 1 [b.F] 5],4,tch⟩)=zsq (.itr .normal zn [(4,.ptr (4+rD (a++callsI [b.code[k]])) 0 0),(8,.fsl xs f),(9,.int .i64 n),(10,.int .i64 i),(16,.int .i64 b.code.length),(17,.int .i64 (k+1:Nat))] ⟨y5 [.row 1 [.agg [fslN gs,fslN fs]] 2,.row 1 [c.F] 5] c (a++callsI [b.code[k]]) [.row 1 [b.F] 5],4,tch'⟩):=by
 by_cases B:b.code[k].op=9
 . rw [Tq B]
   cases a with
   |nil=>exact FD J D B I
   |cons y l=>
    have:=FE (T:=T) (c:=c) (gs:=gs) (fs:=fs) (a:=y::l) (tch:=tch) (m:=m) (n:=n) (i:=i) (xs:=xs) (f:=f) J ha D B I
    rw[show(y::l).length+1=(y::(l++[b.code[k].n])).length by simp]at this;exact this
 . rw[Xp B,zqf]
   cases a with
   |nil=>exact FF D B I
   |cons y l=>exact FG (a:=y::l) D B I
theorem NA{e:Nat}{K:PK}:∃fr',evP ⟨env,T,A1⟩ (.iter (⟨[18],p15q0,p15r0,fr⟩:RC) (m+1+1+1+1+1+1+1+1+1+1+1+1+1+1+1+1) p43b0 zn [(4,.ptr (e) 0 0),(8,.fsl xs f),(9,.int .i64 n),(10,.int .i64 i),(16,.int .i64 b.code.length),(17,.int .i64 (b.code.length:Nat))] K)=zsq (.itr (.exit 2) zn fr' K)/\lookP fr' 8=.fsl xs f/\lookP fr' 9=.int .i64 n/\lookP fr' 10=.int .i64 i:=by
 unfold p43b0;have B:decide ((b.code.length:Int)<(b.code.length:Int))=zf:=by simp
 simp only[V9,v8,M7,M8,M9,N0,w4,V8,I6,I7,N4,N1,N2,N3,W6,w5,J1,w7,M6,t8,u4,u5,u6,u7,u9,v6,v7,M5,w6,W7,I8,I9,J0,wentOn,M4,B,XP,seval];exact⟨_,rfl,rfl,rfl,rfl⟩
theorem BJ(B:lookP fr 7=.ptr 2 0 0)(D:b.code.length*88<=bigN):∀(q k m:Nat)(a:List Int)(tch:List Nat),b.code.length=k+q->q+20<=m->a.length+q<=10000000 ->
 ∃fr' tch',evP ⟨env,T,A1⟩ (.iter (⟨[18],p15q0,p15r0,fr⟩:RC) m (.loop p43b0) zn [(4,.ptr (4+rD a) 0 0),(8,.fsl xs f),(9,.int .i64 n),(10,.int .i64 i),(16,.int .i64 b.code.length),(17,.int .i64 (k:Nat))] ⟨y5 [.row 1 [.agg [fslN gs,fslN fs]] 2,.row 1 [c.F] 5] c a [.row 1 [b.F] 5],4,tch⟩)=zsq (.itr (.exit 2) zn fr' ⟨y5 [.row 1 [.agg [fslN gs,fslN fs]] 2,.row 1 [c.F] 5] c (a++callsI (b.code.drop k)) [.row 1 [b.F] 5],4,tch'⟩)/\lookP fr' 8=.fsl xs f/\lookP fr' 9=.int .i64 n/\lookP fr' 10=.int .i64 i
 |0,k,m,a,tch,e,hm,ha=>by
  obtain rfl:k=b.code.length:=by omega
  obtain⟨r,rfl⟩:∃r,m=r+1+1+1+1+1+1+1+1+1+1+1+1+1+1+1+1+1:=⟨m-17,by omega⟩
  obtain⟨fr',h1,h2⟩:=NA (T:=T) (fr:=fr) (b:=b) (xs:=xs) (f:=f) (n:=n) (i:=i) (m:=r) (e:=4+rD a) (K:=⟨y5 [.row 1 [.agg [fslN gs,fslN fs]] 2,.row 1 [c.F] 5] c a [.row 1 [b.F] 5],4,tch⟩);refine⟨fr',tch,?_,h2⟩;rw[Gy,h1,zqy,show callsI []=[]from rfl,zqf];rfl
 |q+1,k,m,a,tch,e,hm,ha=>by
  have I:k<b.code.length:=by omega
  obtain⟨r,rfl⟩:∃r,m=r+1+1+1+1+1+1+1+1+1+1+1+1+1+1+1+1+1:=⟨m-17,by omega⟩
  obtain⟨J,h1⟩:=ita (T:=T) (c:=c) (gs:=gs) (fs:=fs) (a:=a) (tch:=tch) (m:=r) (n:=n) (i:=i) (xs:=xs) (f:=f) (b:=b) B (by omega) I D;obtain⟨fr',N,h2,O⟩:=BJ B D q (k+1) (r+1+1+1+1+1+1+1+1+1+1+1+1+1+1+1+1) (a++callsI [b.code[k]]) J (by omega) (by omega) (by have:=Al [b.code[k]];simp only[zqr,zqi,zqg]at this|-;omega);refine⟨fr',N,?_,O⟩;rw[Gy,h1,Ow I,<-zqp];exact h2
theorem NB(B:lookP fr 7=.ptr 3 0 0):∃fr' tch',evP ⟨env,T,A1⟩ (.round ⟨[18],p15q0,p15r0,fr⟩ [.fptr x.F 0] ⟨[.row 1 [.agg [fslN gs,fslN fs]] 2,.row 0 G 1,.row 1 [c.F] 5,.row 1 [.nilsl] 1,.row 1 [c.F] 5,.row 1 [b.F] 5],6,tch⟩)=zsq (.ok .normal fr' ⟨[.row 1 [.agg [fslN gs,fslN fs]] 2,.row 0 G 1,.row 1 [c.F] 5,.row 1 [.msl 6 0 1 1] 1,.row 1 [c.F] 5,.row 1 [b.F] 5,.row 0 [.int .i64 x.n] 1],6,tch'⟩):=by
 rw[Qt (by rfl)];unfold p15q0 p15r0;simp only[Ins.F,Blk.F,Cod.F];simp only[Eh,Hr,bZ,B,Lv,Cn,Co,Cp,Cq,Cr,Cs,Ct,Z9,XP,seval];exact⟨_,_,rfl⟩
theorem NC(B:lookP fr 7=.ptr 3 0 0)(ha:a.length+1<=10000000):∃fr' tch',evP ⟨env,T,A1⟩ (.round ⟨[18],p15q0,p15r0,fr⟩ [.fptr x.F 0] ⟨[.row 1 [.agg [fslN gs,fslN fs]] 2,.row 0 G 1,.row 1 [c.F] 5,.row 1 [.msl 5 0 a.length 1] 1,.row 1 [c.F] 5,.row 0 (ints a) 1,.row 1 [b.F] 5],7,tch⟩)=zsq (.ok .normal fr' ⟨[.row 1 [.agg [fslN gs,fslN fs]] 2,.row 0 G 1,.row 1 [c.F] 5,.row 1 [.msl 7 0 (a.length+1) 1] 1,.row 1 [c.F] 5,.dead,.row 1 [b.F] 5,.row 0 (ints (a++[x.n])) 1],7,tch'⟩):=by
 rw[Qt (by rfl)];unfold p15q0 p15r0;have hl:(ints a).length=a.length:=by simp[ints]
 have hz:(a.length+1)*8<=140737488355328:=by omega
 have D:ints (a++[x.n])=ints a++[.int .i64 x.n]:=by simp[ints]
 rw[D];simp only[Ins.F,Blk.F,Cod.F];simp only[Eh,Hr,bZ,B,Lv,hl,hz,Cn,Co,Cp,Cq,Cr,Cs,Ct,Z9,XP,seval];exact⟨_,_,rfl⟩
theorem FH(N:lookP fr 7=.ptr 3 0 0)(J:k<b.code.length)(B:b.code[k].op=9)(O:b.code.length*88<=bigN):∃tch',evP ⟨env,T,A1⟩ (.iter (⟨[18],p15q0,p15r0,fr⟩:RC) (m+1+1+1+1+1+1+1+1+1+1+1+1+1+1+1+1) p43b0 zn [(4,.ptr 5 0 0),(8,.fsl xs f),(9,.int .i64 n),(10,.int .i64 i),(16,.int .i64 b.code.length),(17,.int .i64 (k:Nat))] ⟨[.row 1 [.agg [fslN gs,fslN fs]] 2,.row 0 G 1,.row 1 [c.F] 5,.row 1 [.nilsl] 1,.row 1 [c.F] 5,.row 1 [b.F] 5],5,tch⟩)=zsq (.itr .normal zn [(4,.ptr 6 0 0),(8,.fsl xs f),(9,.int .i64 n),(10,.int .i64 i),(16,.int .i64 b.code.length),(17,.int .i64 (k+1:Nat))] ⟨[.row 1 [.agg [fslN gs,fslN fs]] 2,.row 0 G 1,.row 1 [c.F] 5,.row 1 [.msl 5 0 1 1] 1,.row 1 [c.F] 5,.row 0 (ints [b.code[k].n]) 1,.row 1 [b.F] 5],5,tch'⟩):=by
 have hg:=A7 (F:=Ins.F) J;have I:decide ((k:Int)<(b.code.length:Int))=zt:=by simp[J]
 have Q:=B5 (i:=k) (by simp only[bigN]at O;omega);obtain⟨fr1,t1,D⟩:=NB (T:=T) (c:=c) (b:=b) (gs:=gs) (fs:=fs) (G:=G) (x:=b.code[k]) (tch:=[]) N;unfold p43b0;simp only[Ins.F,Blk.F,Cod.F]at hg D|-;generalize p15q0=q0 at D|-;generalize p15r0=r0 at D|-;have U:decide (b.code[k].op=9)=zt:=by simp[B]
 simp only[V9,v8,M7,M8,M9,N0,w4,V8,I6,I7,N4,N1,N2,N3,W6,w5,J1,w7,M6,t8,u4,u5,u6,u7,u9,v6,v7,M5,w6,W7,I8,I9,J0,wentOn,M4,hg,I,Q,U,D,Lv,eq_true B,Cn,Co,Cp,Cq,Cr,Cs,Ct,Z9,ints,zql,zqk,XP,seval];exact⟨_,rfl⟩
theorem FJ(N:lookP fr 7=.ptr 3 0 0)(ha:a.length+1<=10000000)(J:k<b.code.length)(B:b.code[k].op=9)(O:b.code.length*88<=bigN):∃tch',evP ⟨env,T,A1⟩ (.iter (⟨[18],p15q0,p15r0,fr⟩:RC) (m+1+1+1+1+1+1+1+1+1+1+1+1+1+1+1+1) p43b0 zn [(4,.ptr 6 0 0),(8,.fsl xs f),(9,.int .i64 n),(10,.int .i64 i),(16,.int .i64 b.code.length),(17,.int .i64 (k:Nat))] ⟨[.row 1 [.agg [fslN gs,fslN fs]] 2,.row 0 G 1,.row 1 [c.F] 5,.row 1 [.msl 5 0 a.length 1] 1,.row 1 [c.F] 5,.row 0 (ints a) 1,.row 1 [b.F] 5],5,tch⟩)=zsq (.itr .normal zn [(4,.ptr 6 0 0),(8,.fsl xs f),(9,.int .i64 n),(10,.int .i64 i),(16,.int .i64 b.code.length),(17,.int .i64 (k+1:Nat))] ⟨[.row 1 [.agg [fslN gs,fslN fs]] 2,.row 0 G 1,.row 1 [c.F] 5,.row 1 [.msl 5 0 (a.length+1) 1] 1,.row 1 [c.F] 5,.row 0 (ints (a++[b.code[k].n])) 1,.row 1 [b.F] 5],5,tch'⟩):=by
 have hg:=A7 (F:=Ins.F) J;have I:decide ((k:Int)<(b.code.length:Int))=zt:=by simp[J]
 have Q:=B5 (i:=k) (by simp only[bigN]at O;omega);obtain⟨fr1,t1,D⟩:=NC (T:=T) (c:=c) (b:=b) (gs:=gs) (fs:=fs) (G:=G) (x:=b.code[k]) (a:=a) (tch:=[]) N ha;unfold p43b0;simp only[Ins.F,Blk.F,Cod.F]at hg D|-;generalize p15q0=q0 at D|-;generalize p15r0=r0 at D|-;generalize ints (a++[b.code[k].n])=ia at D|-;have U:decide (b.code[k].op=9)=zt:=by simp[B]
 simp only[V9,v8,M7,M8,M9,N0,w4,V8,I6,I7,N4,N1,N2,N3,W6,w5,J1,w7,M6,t8,u4,u5,u6,u7,u9,v6,v7,M5,w6,W7,I8,I9,J0,wentOn,M4,hg,I,Q,U,D,Lv,eq_true B,Cn,Co,Cp,Cq,Cr,Cs,Ct,Z9,XP,seval];exact⟨_,rfl⟩
theorem FK(I:k<b.code.length)(B:¬b.code[k].op=9)(J:b.code.length*88<=bigN):∃tch',evP ⟨env,T,A1⟩ (.iter (⟨[18],p15q0,p15r0,fr⟩:RC) (m+1+1+1+1+1+1+1+1+1+1+1+1+1+1+1+1) p43b0 zn [(4,.ptr 5 0 0),(8,.fsl xs f),(9,.int .i64 n),(10,.int .i64 i),(16,.int .i64 b.code.length),(17,.int .i64 (k:Nat))] ⟨[.row 1 [.agg [fslN gs,fslN fs]] 2,.row 0 G 1,.row 1 [c.F] 5,.row 1 [.nilsl] 1,.row 1 [c.F] 5,.row 1 [b.F] 5],5,tch⟩)=zsq (.itr .normal zn [(4,.ptr 5 0 0),(8,.fsl xs f),(9,.int .i64 n),(10,.int .i64 i),(16,.int .i64 b.code.length),(17,.int .i64 (k+1:Nat))] ⟨[.row 1 [.agg [fslN gs,fslN fs]] 2,.row 0 G 1,.row 1 [c.F] 5,.row 1 [.nilsl] 1,.row 1 [c.F] 5,.row 1 [b.F] 5],5,tch'⟩):=by
 have hg:=A7 (F:=Ins.F) I;have D:decide ((k:Int)<(b.code.length:Int))=zt:=by simp[I]
 have N:=B5 (i:=k) (by simp only[bigN]at J;omega);unfold p43b0;simp only[Ins.F,Blk.F,Cod.F]at hg|-;have O:decide (b.code[k].op=9)=zf:=by simp[B]
 simp only[V9,v8,M7,M8,M9,N0,w4,V8,I6,I7,N4,N1,N2,N3,W6,w5,J1,w7,M6,t8,u4,u5,u6,u7,u9,v6,v7,M5,w6,W7,I8,I9,J0,wentOn,M4,hg,D,N,O,Lv,B,Cn,Co,Cp,Cq,Cr,Cs,Ct,Z9,XP,seval];exact⟨_,rfl⟩
theorem FL(I:k<b.code.length)(B:¬b.code[k].op=9)(J:b.code.length*88<=bigN):∃tch',evP ⟨env,T,A1⟩ (.iter (⟨[18],p15q0,p15r0,fr⟩:RC) (m+1+1+1+1+1+1+1+1+1+1+1+1+1+1+1+1) p43b0 zn [(4,.ptr 6 0 0),(8,.fsl xs f),(9,.int .i64 n),(10,.int .i64 i),(16,.int .i64 b.code.length),(17,.int .i64 (k:Nat))] ⟨[.row 1 [.agg [fslN gs,fslN fs]] 2,.row 0 G 1,.row 1 [c.F] 5,.row 1 [.msl 5 0 a.length 1] 1,.row 1 [c.F] 5,.row 0 (ints a) 1,.row 1 [b.F] 5],5,tch⟩)=zsq (.itr .normal zn [(4,.ptr 6 0 0),(8,.fsl xs f),(9,.int .i64 n),(10,.int .i64 i),(16,.int .i64 b.code.length),(17,.int .i64 (k+1:Nat))] ⟨[.row 1 [.agg [fslN gs,fslN fs]] 2,.row 0 G 1,.row 1 [c.F] 5,.row 1 [.msl 5 0 a.length 1] 1,.row 1 [c.F] 5,.row 0 (ints a) 1,.row 1 [b.F] 5],5,tch'⟩):=by
 have hg:=A7 (F:=Ins.F) I;have D:decide ((k:Int)<(b.code.length:Int))=zt:=by simp[I]
 have N:=B5 (i:=k) (by simp only[bigN]at J;omega);unfold p43b0;simp only[Ins.F,Blk.F,Cod.F]at hg|-;have O:decide (b.code[k].op=9)=zf:=by simp[B]
 simp only[V9,v8,M7,M8,M9,N0,w4,V8,I6,I7,N4,N1,N2,N3,W6,w5,J1,w7,M6,t8,u4,u5,u6,u7,u9,v6,v7,M5,w6,W7,I8,I9,J0,wentOn,M4,hg,D,N,O,Lv,B,Cn,Co,Cp,Cq,Cr,Cs,Ct,Z9,XP,seval];exact⟨_,rfl⟩
theorem itb(J:lookP fr 7=.ptr 3 0 0)(ha:a.length+1<=10000000)(D:k<b.code.length)(I:b.code.length*88<=bigN):∃tch',evP ⟨env,T,A1⟩ (.iter (⟨[18],p15q0,p15r0,fr⟩:RC) (m+1+1+1+1+1+1+1+1+1+1+1+1+1+1+1+1) p43b0 zn [(4,.ptr (5+rD a) 0 0),(8,.fsl xs f),(9,.int .i64 n),(10,.int .i64 i),(16,.int .i64 b.code.length),(17,.int .i64 (k:Nat))] ⟨y5 [.row 1 [.agg [fslN gs,fslN fs]] 2,.row 0 G 1,.row 1 [c.F] 5] c a [.row 1 [b.F] 5],5,tch⟩)=zsq (.itr .normal zn [(4,.ptr (5+rD (a++callsI [b.code[k]])) 0 0),(8,.fsl xs f),(9,.int .i64 n),(10,.int .i64 i),(16,.int .i64 b.code.length),(17,.int .i64 (k+1:Nat))] ⟨y5 [.row 1 [.agg [fslN gs,fslN fs]] 2,.row 0 G 1,.row 1 [c.F] 5] c (a++callsI [b.code[k]]) [.row 1 [b.F] 5],5,tch'⟩):=by
 by_cases B:b.code[k].op=9
 . rw [Tq B]
   cases a with
   |nil=>exact FH J D B I
   |cons y l=>
    have:=FJ (T:=T) (c:=c) (gs:=gs) (fs:=fs) (G:=G) (a:=y::l) (tch:=tch) (m:=m) (n:=n) (i:=i) (xs:=xs) (f:=f) J ha D B I
    rw[show(y::l).length+1=(y::(l++[b.code[k].n])).length by simp]at this;exact this
 . rw[Xp B,zqf]
   cases a with
   |nil=>exact FK D B I
   |cons y l=>exact FL (a:=y::l) D B I
theorem ND{e:Nat}{K:PK}:∃fr',evP ⟨env,T,A1⟩ (.iter (⟨[18],p15q0,p15r0,fr⟩:RC) (m+1+1+1+1+1+1+1+1+1+1+1+1+1+1+1+1) p43b0 zn [(4,.ptr (e) 0 0),(8,.fsl xs f),(9,.int .i64 n),(10,.int .i64 i),(16,.int .i64 b.code.length),(17,.int .i64 (b.code.length:Nat))] K)=zsq (.itr (.exit 2) zn fr' K)/\lookP fr' 8=.fsl xs f/\lookP fr' 9=.int .i64 n/\lookP fr' 10=.int .i64 i:=by
 unfold p43b0;have B:decide ((b.code.length:Int)<(b.code.length:Int))=zf:=by simp
 simp only[V9,v8,M7,M8,M9,N0,w4,V8,I6,I7,N4,N1,N2,N3,W6,w5,J1,w7,M6,t8,u4,u5,u6,u7,u9,v6,v7,M5,w6,W7,I8,I9,J0,wentOn,M4,B,XP,seval];exact⟨_,rfl,rfl,rfl,rfl⟩
theorem BK(B:lookP fr 7=.ptr 3 0 0)(D:b.code.length*88<=bigN):∀(q k m:Nat)(a:List Int)(tch:List Nat),b.code.length=k+q->q+20<=m->a.length+q<=10000000 ->
 ∃fr' tch',evP ⟨env,T,A1⟩ (.iter (⟨[18],p15q0,p15r0,fr⟩:RC) m (.loop p43b0) zn [(4,.ptr (5+rD a) 0 0),(8,.fsl xs f),(9,.int .i64 n),(10,.int .i64 i),(16,.int .i64 b.code.length),(17,.int .i64 (k:Nat))] ⟨y5 [.row 1 [.agg [fslN gs,fslN fs]] 2,.row 0 G 1,.row 1 [c.F] 5] c a [.row 1 [b.F] 5],5,tch⟩)=zsq (.itr (.exit 2) zn fr' ⟨y5 [.row 1 [.agg [fslN gs,fslN fs]] 2,.row 0 G 1,.row 1 [c.F] 5] c (a++callsI (b.code.drop k)) [.row 1 [b.F] 5],5,tch'⟩)/\lookP fr' 8=.fsl xs f/\lookP fr' 9=.int .i64 n/\lookP fr' 10=.int .i64 i
 |0,k,m,a,tch,e,hm,ha=>by
  obtain rfl:k=b.code.length:=by omega
  obtain⟨r,rfl⟩:∃r,m=r+1+1+1+1+1+1+1+1+1+1+1+1+1+1+1+1+1:=⟨m-17,by omega⟩
  obtain⟨fr',h1,h2⟩:=ND (T:=T) (fr:=fr) (b:=b) (xs:=xs) (f:=f) (n:=n) (i:=i) (m:=r) (e:=5+rD a) (K:=⟨y5 [.row 1 [.agg [fslN gs,fslN fs]] 2,.row 0 G 1,.row 1 [c.F] 5] c a [.row 1 [b.F] 5],5,tch⟩);refine⟨fr',tch,?_,h2⟩;rw[Gy,h1,zqy,show callsI []=[]from rfl,zqf];rfl
 |q+1,k,m,a,tch,e,hm,ha=>by
  have I:k<b.code.length:=by omega
  obtain⟨r,rfl⟩:∃r,m=r+1+1+1+1+1+1+1+1+1+1+1+1+1+1+1+1+1:=⟨m-17,by omega⟩
  obtain⟨J,h1⟩:=itb (T:=T) (c:=c) (gs:=gs) (fs:=fs) (G:=G) (a:=a) (tch:=tch) (m:=r) (n:=n) (i:=i) (xs:=xs) (f:=f) (b:=b) B (by omega) I D;obtain⟨fr',N,h2,O⟩:=BK B D q (k+1) (r+1+1+1+1+1+1+1+1+1+1+1+1+1+1+1+1) (a++callsI [b.code[k]]) J (by omega) (by omega) (by have:=Al [b.code[k]];simp only[zqr,zqi,zqg]at this|-;omega);refine⟨fr',N,?_,O⟩;rw[Gy,h1,Ow I,<-zqp];exact h2
end
section
variable {c:Cod}{gs fs G:List AV}{k i m n ex:Nat}{a:List Int}{fr:PF}{tch:List Nat}{g:Operand}
theorem iba(J:lookP fr 7=.ptr 2 0 0)(hi:i<c.blocks.length)(N:c.blocks[i].code.length*88<=bigN)(hl:c.blocks.length*56<=bigN)(hm:c.blocks[i].code.length+20<=m)(ha:a.length+c.blocks[i].code.length<=10000000):∃tch',evP ⟨env,T,A1⟩ (.iter (⟨[18],p15q0,p15r0,fr⟩:RC) (m+1+1+1+1+1+1+1+1+1+1+1+1+1+1+1+1) p43b1 zn [(8,fslN (c.blocks.map Blk.F)),(9,.int .i64 c.blocks.length),(10,.int .i64 (i:Nat))] ⟨y5 [.row 1 [.agg [fslN gs,fslN fs]] 2,.row 1 [c.F] 5] c a [],4,tch⟩)=zsq (.itr .normal zn [(8,fslN (c.blocks.map Blk.F)),(9,.int .i64 c.blocks.length),(10,.int .i64 (i+1:Nat))] ⟨y5 [.row 1 [.agg [fslN gs,fslN fs]] 2,.row 1 [c.F] 5] c (a++callsI c.blocks[i].code) [],4,tch'⟩):=by
 have hg:=A7 (F:=Blk.F) hi;have I:decide ((i:Int)<(c.blocks.length:Int))=zt:=by simp[hi]
 have O:=B5 (i:=i) (by simp only[bigN]at hl;omega);have B:∀tch:List Nat,∃fr' tch',_:=fun tch=>BJ (T:=T) (c:=c) (gs:=gs) (fs:=fs) (fr:=fr) (b:=c.blocks[i]) (n:=c.blocks.length) (i:=i) (xs:=c.blocks.map Blk.F) (f:=(c.blocks.map Blk.F).isEmpty) J N c.blocks[i].code.length 0 (m+1+1+1+1+1+1+1+1+1) a tch (by omega) (by omega) ha
 simp only[zkd]at B;obtain⟨F1,D⟩:∃F:List Nat->PF×List Nat,∀t,evP ⟨env,T,A1⟩ (.iter (⟨[18],p15q0,p15r0,fr⟩:RC) (m+1+1+1+1+1+1+1+1+1) (.loop p43b0) zn [(4,.ptr (4+rD a) 0 0),(8,fslN (c.blocks.map Blk.F)),(9,.int .i64 c.blocks.length),(10,.int .i64 i),(16,.int .i64 c.blocks[i].code.length),(17,.int .i64 0)] ⟨y5 [.row 1 [.agg [fslN gs,fslN fs]] 2,.row 1 [c.F] 5] c a [.row 1 [c.blocks[i].F] 5],4,t⟩)=zsq (.itr (.exit 2) zn (F t).1 ⟨y5 [.row 1 [.agg [fslN gs,fslN fs]] 2,.row 1 [c.F] 5] c (a++callsI c.blocks[i].code) [.row 1 [c.blocks[i].F] 5],4,(F t).2⟩)/\lookP (F t).1 8=fslN (c.blocks.map Blk.F)/\lookP (F t).1 9=.int .i64 c.blocks.length/\lookP (F t).1 10=.int .i64 i:=⟨fun t=>((B t).choose,(B t).choose_spec.choose),fun t=>(B t).choose_spec.choose_spec⟩
 clear B;have h1:=fun t=>(D t).1
 have h2:=fun t=>(D t).2.1
 have Q:=fun t=>(D t).2.2.1
 have U:=fun t=>(D t).2.2.2
 generalize a++callsI c.blocks[i].code=V at h1|-;unfold p43b1;generalize p43b0=b0 at h1|-;generalize p15q0=q0 at h1|-;generalize p15r0=r0 at h1|-;cases a<;>cases V <;>
 . simp only[y5,rD,zqh,zqe,zqi,zqg,Nat.add_zero,Nat.reduceAdd]at h1|-
   generalize c.blocks[i]=b at hg h1;simp only[Blk.F,Cod.F]at hg h1|-;simp only[V9,v8,M7,M8,M9,N0,w4,V8,I6,I7,N4,N1,N2,N3,W6,w5,J1,w7,M6,t8,u4,u5,u6,u7,u9,v6,v7,M5,w6,W7,I8,I9,J0,wentOn,M4,hg,I,O,h1,h2,Q,U,Lv,zqb,Cn,Co,Cp,Cq,Cr,Cs,Ct,Z9,XP,seval];exact⟨_,rfl⟩
theorem NE{K:PK}:∃fr',evP ⟨env,T,A1⟩ (.iter (⟨[18],p15q0,p15r0,fr⟩:RC) (m+1+1+1+1+1+1+1+1+1+1+1+1+1+1+1+1) p43b1 zn [(8,fslN (c.blocks.map Blk.F)),(9,.int .i64 c.blocks.length),(10,.int .i64 (c.blocks.length:Nat))] K)=zsq (.itr (.exit 0) zn fr' K):=by
 unfold p43b1;have B:decide ((c.blocks.length:Int)<(c.blocks.length:Int))=zf:=by simp
 simp only[V9,v8,M7,M8,M9,N0,w4,V8,I6,I7,N4,N1,N2,N3,W6,w5,J1,w7,M6,t8,u4,u5,u6,u7,u9,v6,v7,M5,w6,W7,I8,I9,J0,wentOn,M4,B,XP,seval];exact⟨_,rfl⟩
theorem BL(B:lookP fr 7=.ptr 2 0 0)(hc:∀b∈c.blocks,b.code.length<=1000)(hl:c.blocks.length*56<=bigN):∀(q i m:Nat)(a:List Int)(tch:List Nat),c.blocks.length=i+q->q+1100<=m->a.length+q*1000<=9000000 ->
 ∃fr' tch',evP ⟨env,T,A1⟩ (.iter (⟨[18],p15q0,p15r0,fr⟩:RC) m (.loop p43b1) zn [(8,fslN (c.blocks.map Blk.F)),(9,.int .i64 c.blocks.length),(10,.int .i64 (i:Nat))] ⟨y5 [.row 1 [.agg [fslN gs,fslN fs]] 2,.row 1 [c.F] 5] c a [],4,tch⟩)=zsq (.itr (.exit 0) zn fr' ⟨y5 [.row 1 [.agg [fslN gs,fslN fs]] 2,.row 1 [c.F] 5] c (a++(c.blocks.drop i).flatMap fun b=>callsI b.code) [],4,tch'⟩)
 |0,i,m,a,tch,e,hm,ha=>by
  obtain rfl:i=c.blocks.length:=by omega
  obtain⟨r,rfl⟩:∃r,m=r+1+1+1+1+1+1+1+1+1+1+1+1+1+1+1+1+1:=⟨m-17,by omega⟩
  obtain⟨fr',h1⟩:=NE (T:=T) (c:=c) (fr:=fr) (m:=r) (K:=⟨y5 [.row 1 [.agg [fslN gs,fslN fs]] 2,.row 1 [c.F] 5] c a [],4,tch⟩);refine⟨fr',tch,?_⟩;rw[Gy,h1,zqy,zkp,zqf];rfl
 |q+1,i,m,a,tch,e,hm,ha=>by
  have hi:i<c.blocks.length:=by omega
  have hci:=hc _ (zqd hi);obtain⟨r,rfl⟩:∃r,m=r+1+1+1+1+1+1+1+1+1+1+1+1+1+1+1+1+1:=⟨m-17,by omega⟩
  obtain⟨D,h1⟩:=iba (T:=T) (c:=c) (gs:=gs) (fs:=fs) (a:=a) (tch:=tch) (m:=r) (i:=i) B hi (by simp only[bigN];omega) hl (by omega) (by omega);have hcl:=Al c.blocks[i].code;obtain⟨fr',I,h2⟩:=BL B hc hl q (i+1) (r+1+1+1+1+1+1+1+1+1+1+1+1+1+1+1+1) (a++callsI c.blocks[i].code) D (by omega) (by omega) (by rw[zqr];omega);refine⟨fr',I,?_⟩;rw[Gy,h1,zkb hi,zkj,<-zqp];exact h2
theorem rfa(B:lookP fr 7=.ptr 2 0 0)(hg:opvP env g fr=.fn (.func 43) [] [.ptr 3 0 0])(hc:∀b∈c.blocks,b.code.length<=1000)(hl:c.blocks.length<=1000):∃tch',evP ⟨env,T,A1⟩ (.code (.rfn g [18] p15q0 p15r0) fr ⟨y5 [.row 1 [.agg [fslN gs,fslN fs]] 2,.row 1 [c.F] 5] c [] [],ex,tch⟩)=zsq (.ok .normal fr ⟨y5 [.row 1 [.agg [fslN gs,fslN fs]] 2,.row 1 [c.F] 5] c (callsD c) [],ex,tch'⟩):=by
 obtain⟨fr',D,h1⟩:=BL (T:=T) (c:=c) (gs:=gs) (fs:=fs) (fr:=fr) B hc (by simp only[bigN];omega) c.blocks.length 0 (itMax-2) [] [] (by omega) (by simp only[itMax];omega) (by simp only[zqg];omega);rw[CM (x:=VG) (nt:=37) (rs:=[]) (i:=zf) hg rfl (by simp)];rw[show itMax=65534+1+1 from rfl];have h1:evP ⟨env,T,A1⟩ (.iter (⟨[18],p15q0,p15r0,fr⟩:RC) 65534 (.loop p43b1) zn [(8,fslN (c.blocks.map Blk.F)),(9,.int .i64 c.blocks.length),(10,.int .i64 0)] ⟨y5 [.row 1 [.agg [fslN gs,fslN fs]] 2,.row 1 [c.F] 5] c [] [],4,[]⟩)=zsq (.itr (.exit 0) zn fr' ⟨y5 [.row 1 [.agg [fslN gs,fslN fs]] 2,.row 1 [c.F] 5] c (callsD c) [],4,D⟩):=h1;generalize callsD c=I at h1|-;generalize p43b1=b1 at h1|-;generalize p15q0=q0 at h1|-;generalize p15r0=r0 at h1|-;cases I <;>
 . simp only[y5,zqh,zqe,zqi,zqg,Nat.reduceAdd,Cod.F]at h1|-
   simp only[V9,v8,M7,M8,M9,N0,w4,V8,I6,I7,N4,N1,N2,N3,W6,w5,J1,w7,M6,t8,u4,u5,u6,u7,u9,v6,v7,M5,w6,W7,I8,I9,J0,wentOn,M4,h1,zqb,wN,rB,Cn,Co,Cp,Cq,Cr,Cs,Ct,Z9,XP,seval];exact⟨_,rfl⟩
theorem ibb(J:lookP fr 7=.ptr 3 0 0)(hi:i<c.blocks.length)(N:c.blocks[i].code.length*88<=bigN)(hl:c.blocks.length*56<=bigN)(hm:c.blocks[i].code.length+20<=m)(ha:a.length+c.blocks[i].code.length<=10000000):∃tch',evP ⟨env,T,A1⟩ (.iter (⟨[18],p15q0,p15r0,fr⟩:RC) (m+1+1+1+1+1+1+1+1+1+1+1+1+1+1+1+1) p43b1 zn [(8,fslN (c.blocks.map Blk.F)),(9,.int .i64 c.blocks.length),(10,.int .i64 (i:Nat))] ⟨y5 [.row 1 [.agg [fslN gs,fslN fs]] 2,.row 0 G 1,.row 1 [c.F] 5] c a [],5,tch⟩)=zsq (.itr .normal zn [(8,fslN (c.blocks.map Blk.F)),(9,.int .i64 c.blocks.length),(10,.int .i64 (i+1:Nat))] ⟨y5 [.row 1 [.agg [fslN gs,fslN fs]] 2,.row 0 G 1,.row 1 [c.F] 5] c (a++callsI c.blocks[i].code) [],5,tch'⟩):=by
 have hg:=A7 (F:=Blk.F) hi;have I:decide ((i:Int)<(c.blocks.length:Int))=zt:=by simp[hi]
 have O:=B5 (i:=i) (by simp only[bigN]at hl;omega);have B:∀tch:List Nat,∃fr' tch',_:=fun tch=>BK (T:=T) (c:=c) (gs:=gs) (fs:=fs) (G:=G) (fr:=fr) (b:=c.blocks[i]) (n:=c.blocks.length) (i:=i) (xs:=c.blocks.map Blk.F) (f:=(c.blocks.map Blk.F).isEmpty) J N c.blocks[i].code.length 0 (m+1+1+1+1+1+1+1+1+1) a tch (by omega) (by omega) ha
 simp only[zkd]at B;obtain⟨F1,D⟩:∃F:List Nat->PF×List Nat,∀t,evP ⟨env,T,A1⟩ (.iter (⟨[18],p15q0,p15r0,fr⟩:RC) (m+1+1+1+1+1+1+1+1+1) (.loop p43b0) zn [(4,.ptr (5+rD a) 0 0),(8,fslN (c.blocks.map Blk.F)),(9,.int .i64 c.blocks.length),(10,.int .i64 i),(16,.int .i64 c.blocks[i].code.length),(17,.int .i64 0)] ⟨y5 [.row 1 [.agg [fslN gs,fslN fs]] 2,.row 0 G 1,.row 1 [c.F] 5] c a [.row 1 [c.blocks[i].F] 5],5,t⟩)=zsq (.itr (.exit 2) zn (F t).1 ⟨y5 [.row 1 [.agg [fslN gs,fslN fs]] 2,.row 0 G 1,.row 1 [c.F] 5] c (a++callsI c.blocks[i].code) [.row 1 [c.blocks[i].F] 5],5,(F t).2⟩)/\lookP (F t).1 8=fslN (c.blocks.map Blk.F)/\lookP (F t).1 9=.int .i64 c.blocks.length/\lookP (F t).1 10=.int .i64 i:=⟨fun t=>((B t).choose,(B t).choose_spec.choose),fun t=>(B t).choose_spec.choose_spec⟩
 clear B;have h1:=fun t=>(D t).1
 have h2:=fun t=>(D t).2.1
 have Q:=fun t=>(D t).2.2.1
 have U:=fun t=>(D t).2.2.2
 generalize a++callsI c.blocks[i].code=V at h1|-;unfold p43b1;generalize p43b0=b0 at h1|-;generalize p15q0=q0 at h1|-;generalize p15r0=r0 at h1|-;cases a<;>cases V <;>
 . simp only[y5,rD,zqh,zqe,zqi,zqg,Nat.add_zero,Nat.reduceAdd]at h1|-
   generalize c.blocks[i]=b at hg h1;simp only[Blk.F,Cod.F]at hg h1|-;simp only[V9,v8,M7,M8,M9,N0,w4,V8,I6,I7,N4,N1,N2,N3,W6,w5,J1,w7,M6,t8,u4,u5,u6,u7,u9,v6,v7,M5,w6,W7,I8,I9,J0,wentOn,M4,hg,I,O,h1,h2,Q,U,Lv,zqb,Cn,Co,Cp,Cq,Cr,Cs,Ct,Z9,XP,seval];exact⟨_,rfl⟩
theorem NF{K:PK}:∃fr',evP ⟨env,T,A1⟩ (.iter (⟨[18],p15q0,p15r0,fr⟩:RC) (m+1+1+1+1+1+1+1+1+1+1+1+1+1+1+1+1) p43b1 zn [(8,fslN (c.blocks.map Blk.F)),(9,.int .i64 c.blocks.length),(10,.int .i64 (c.blocks.length:Nat))] K)=zsq (.itr (.exit 0) zn fr' K):=by
 unfold p43b1;have B:decide ((c.blocks.length:Int)<(c.blocks.length:Int))=zf:=by simp
 simp only[V9,v8,M7,M8,M9,N0,w4,V8,I6,I7,N4,N1,N2,N3,W6,w5,J1,w7,M6,t8,u4,u5,u6,u7,u9,v6,v7,M5,w6,W7,I8,I9,J0,wentOn,M4,B,XP,seval];exact⟨_,rfl⟩
theorem BM(B:lookP fr 7=.ptr 3 0 0)(hc:∀b∈c.blocks,b.code.length<=1000)(hl:c.blocks.length*56<=bigN):∀(q i m:Nat)(a:List Int)(tch:List Nat),c.blocks.length=i+q->q+1100<=m->a.length+q*1000<=9000000 ->
 ∃fr' tch',evP ⟨env,T,A1⟩ (.iter (⟨[18],p15q0,p15r0,fr⟩:RC) m (.loop p43b1) zn [(8,fslN (c.blocks.map Blk.F)),(9,.int .i64 c.blocks.length),(10,.int .i64 (i:Nat))] ⟨y5 [.row 1 [.agg [fslN gs,fslN fs]] 2,.row 0 G 1,.row 1 [c.F] 5] c a [],5,tch⟩)=zsq (.itr (.exit 0) zn fr' ⟨y5 [.row 1 [.agg [fslN gs,fslN fs]] 2,.row 0 G 1,.row 1 [c.F] 5] c (a++(c.blocks.drop i).flatMap fun b=>callsI b.code) [],5,tch'⟩)
 |0,i,m,a,tch,e,hm,ha=>by
  obtain rfl:i=c.blocks.length:=by omega
  obtain⟨r,rfl⟩:∃r,m=r+1+1+1+1+1+1+1+1+1+1+1+1+1+1+1+1+1:=⟨m-17,by omega⟩
  obtain⟨fr',h1⟩:=NF (T:=T) (c:=c) (fr:=fr) (m:=r) (K:=⟨y5 [.row 1 [.agg [fslN gs,fslN fs]] 2,.row 0 G 1,.row 1 [c.F] 5] c a [],5,tch⟩);refine⟨fr',tch,?_⟩;rw[Gy,h1,zqy,zkp,zqf];rfl
 |q+1,i,m,a,tch,e,hm,ha=>by
  have hi:i<c.blocks.length:=by omega
  have hci:=hc _ (zqd hi);obtain⟨r,rfl⟩:∃r,m=r+1+1+1+1+1+1+1+1+1+1+1+1+1+1+1+1+1:=⟨m-17,by omega⟩
  obtain⟨D,h1⟩:=ibb (T:=T) (c:=c) (gs:=gs) (fs:=fs) (G:=G) (a:=a) (tch:=tch) (m:=r) (i:=i) B hi (by simp only[bigN];omega) hl (by omega) (by omega);have hcl:=Al c.blocks[i].code;obtain⟨fr',I,h2⟩:=BM B hc hl q (i+1) (r+1+1+1+1+1+1+1+1+1+1+1+1+1+1+1+1) (a++callsI c.blocks[i].code) D (by omega) (by omega) (by rw[zqr];omega);refine⟨fr',I,?_⟩;rw[Gy,h1,zkb hi,zkj,<-zqp];exact h2
theorem rfb(B:lookP fr 7=.ptr 3 0 0)(hg:opvP env g fr=.fn (.func 43) [] [.ptr 4 0 0])(hc:∀b∈c.blocks,b.code.length<=1000)(hl:c.blocks.length<=1000):∃tch',evP ⟨env,T,A1⟩ (.code (.rfn g [18] p15q0 p15r0) fr ⟨y5 [.row 1 [.agg [fslN gs,fslN fs]] 2,.row 0 G 1,.row 1 [c.F] 5] c [] [],ex,tch⟩)=zsq (.ok .normal fr ⟨y5 [.row 1 [.agg [fslN gs,fslN fs]] 2,.row 0 G 1,.row 1 [c.F] 5] c (callsD c) [],ex,tch'⟩):=by
 obtain⟨fr',D,h1⟩:=BM (T:=T) (c:=c) (gs:=gs) (fs:=fs) (G:=G) (fr:=fr) B hc (by simp only[bigN];omega) c.blocks.length 0 (itMax-2) [] [] (by omega) (by simp only[itMax];omega) (by simp only[zqg];omega);rw[CM (x:=VG) (nt:=37) (rs:=[]) (i:=zf) hg rfl (by simp)];rw[show itMax=65534+1+1 from rfl];have h1:evP ⟨env,T,A1⟩ (.iter (⟨[18],p15q0,p15r0,fr⟩:RC) 65534 (.loop p43b1) zn [(8,fslN (c.blocks.map Blk.F)),(9,.int .i64 c.blocks.length),(10,.int .i64 0)] ⟨y5 [.row 1 [.agg [fslN gs,fslN fs]] 2,.row 0 G 1,.row 1 [c.F] 5] c [] [],5,[]⟩)=zsq (.itr (.exit 0) zn fr' ⟨y5 [.row 1 [.agg [fslN gs,fslN fs]] 2,.row 0 G 1,.row 1 [c.F] 5] c (callsD c) [],5,D⟩):=h1;generalize callsD c=I at h1|-;generalize p43b1=b1 at h1|-;generalize p15q0=q0 at h1|-;generalize p15r0=r0 at h1|-;cases I <;>
 . simp only[y5,zqh,zqe,zqi,zqg,Nat.reduceAdd,Cod.F]at h1|-
   simp only[V9,v8,M7,M8,M9,N0,w4,V8,I6,I7,N4,N1,N2,N3,W6,w5,J1,w7,M6,t8,u4,u5,u6,u7,u9,v6,v7,M5,w6,W7,I8,I9,J0,wentOn,M4,h1,zqb,wN,rB,Cn,Co,Cp,Cq,Cr,Cs,Ct,Z9,XP,seval];exact⟨_,rfl⟩
end
theorem eX(hN:T 27=zn){s:List UInt8}{p q:Int}{u w:AV}{K:PK}(B:Ev u=zt)(D:Ev w=zt):evP ⟨env,T,A1⟩ (.call 27 [.agg [.str s,.int .i64 p,.int .i64 q,u,w]] K)=zsq (.val [.fn (.func 43) [] [.ptr K.os.length 0 0]] ⟨K.os++[.row 1 [.agg [.str s,.int .i64 p,.int .i64 q,u,w]] 5],K.ext,K.tch⟩):=by
 rw[Di hN rfl,A5 (c:=QB) (nt:=4) (rs:=[.tmp 2]) rfl (by simp)];unfold QB;simp only[B,D,XP,seval]
theorem uN(a b c d:Nat):Iq (.msl a b c d)=zf:=rfl
def rowG(a:List Int):AV:=match a with|[]=>.nilsl|x::l=>ownd 0 1 (ints (x::l))
def graD(fs:List Cod):List AV:=fs.map fun c=>rowG (callsD c)
structure GOk(c:Cod):Prop where
 ok:c.ok
 code:∀b∈c.blocks,b.code.length<=1000
 blocks:c.blocks.length<=1000
section
variable {c:Cod}{gs fs G:List AV}{l:List Cod}{k i m n:Nat}
theorem A0B(hc:GOk c):∃F:PF->List Nat->List Nat,∀(fr:PF)(tch:List Nat),lookP fr 7=.ptr 2 0 0->opvP env (.tmp 17) fr=.fn (.func 43) [] [.ptr 3 0 0]->evP ⟨env,T,A1⟩ (.code (.rfn (.tmp 17) [18] p15q0 p15r0) fr ⟨y5 [.row 1 [.agg [fslN gs,fslN fs]] 2,.row 1 [c.F] 5] c [] [],0,tch⟩)=zsq (.ok .normal fr ⟨y5 [.row 1 [.agg [fslN gs,fslN fs]] 2,.row 1 [c.F] 5] c (callsD c) [],0,F fr tch⟩):=by
 have B:∀x:PF×List Nat,∃t,lookP x.1 7=.ptr 2 0 0->opvP env (.tmp 17) x.1=.fn (.func 43) [] [.ptr 3 0 0]->evP ⟨env,T,A1⟩ (.code (.rfn (.tmp 17) [18] p15q0 p15r0) x.1 ⟨y5 [.row 1 [.agg [fslN gs,fslN fs]] 2,.row 1 [c.F] 5] c [] [],0,x.2⟩)=zsq (.ok .normal x.1 ⟨y5 [.row 1 [.agg [fslN gs,fslN fs]] 2,.row 1 [c.F] 5] c (callsD c) [],0,t⟩):=fun x=>by
  by_cases h:lookP x.1 7=.ptr 2 0 0/\opvP env (.tmp 17) x.1=.fn (.func 43) [] [.ptr 3 0 0]
  . obtain⟨t,D⟩:=rfa (T:=T) (gs:=gs) (fs:=fs) (ex:=0) (tch:=x.2) h.1 h.2 hc.code hc.blocks
    exact⟨t,fun _ _=>D⟩
  . exact⟨[],fun a b=>absurd ⟨a,b⟩ h⟩
 exact⟨fun fr t=>(B (fr,t)).choose,fun fr t=>(B (fr,t)).choose_spec⟩
theorem A0C(hc:GOk c):∃F:PF->List Nat->List Nat,∀(fr:PF)(tch:List Nat),lookP fr 7=.ptr 3 0 0->opvP env (.tmp 17) fr=.fn (.func 43) [] [.ptr 4 0 0]->evP ⟨env,T,A1⟩ (.code (.rfn (.tmp 17) [18] p15q0 p15r0) fr ⟨y5 [.row 1 [.agg [fslN gs,fslN fs]] 2,.row 0 G 1,.row 1 [c.F] 5] c [] [],0,tch⟩)=zsq (.ok .normal fr ⟨y5 [.row 1 [.agg [fslN gs,fslN fs]] 2,.row 0 G 1,.row 1 [c.F] 5] c (callsD c) [],0,F fr tch⟩):=by
 have B:∀x:PF×List Nat,∃t,lookP x.1 7=.ptr 3 0 0->opvP env (.tmp 17) x.1=.fn (.func 43) [] [.ptr 4 0 0]->evP ⟨env,T,A1⟩ (.code (.rfn (.tmp 17) [18] p15q0 p15r0) x.1 ⟨y5 [.row 1 [.agg [fslN gs,fslN fs]] 2,.row 0 G 1,.row 1 [c.F] 5] c [] [],0,x.2⟩)=zsq (.ok .normal x.1 ⟨y5 [.row 1 [.agg [fslN gs,fslN fs]] 2,.row 0 G 1,.row 1 [c.F] 5] c (callsD c) [],0,t⟩):=fun x=>by
  by_cases h:lookP x.1 7=.ptr 3 0 0/\opvP env (.tmp 17) x.1=.fn (.func 43) [] [.ptr 4 0 0]
  . obtain⟨t,D⟩:=rfb (T:=T) (gs:=gs) (fs:=fs) (G:=G) (ex:=0) (tch:=x.2) h.1 h.2 hc.code hc.blocks
    exact⟨t,fun _ _=>D⟩
  . exact⟨[],fun a b=>absurd ⟨a,b⟩ h⟩
 exact⟨fun fr t=>(B (fr,t)).choose,fun fr t=>(B (fr,t)).choose_spec⟩
def HM(l:List Cod)(i:Nat):PF:=[(1,.ptr 0 0 0),(4,.msl 1 0 i 1),(10,fslN (l.map Cod.F)),(11,.int .i64 (l.length:Int)),(12,.int .i64 (i:Int))]
theorem A0D(hN:T 27=zn)(h:0<l.length)(hc:GOk l[0]):evP ⟨env,T,A1⟩ (.code Ov [(1,.ptr 0 0 0),(4,.nilsl),(10,fslN (l.map Cod.F)),(11,.int .i64 (l.length:Int)),(12,.int .i64 0)] ⟨[.row 1 [.agg [fslN gs,fslN (l.map Cod.F)]] 2],0,[]⟩)=zsq (.ok .normal (HM l 1) ⟨[.row 1 [.agg [fslN gs,fslN (l.map Cod.F)]] 2,.row 0 (graD (l.take 1)) 1],0,[]⟩):=by
 have hi:Vd Dw (fslN (l.map Cod.F)) (.int .i64 0)=zsq (.fptr (Cod.F l[0]) 0):=ix_fslN (te:=Dw) (k:=.i64) (i:=0) (A7 (F:=Cod.F) h) rfl;have hlt:decide ((0:Int)<(l.length:Int))=zt:=by simp[h]
 have hx:graD (l.take 1)=[rowG (callsD l[0])]:=by unfold graD;rw[List.take_one,List.head?_eq_getElem?,zqj h];rfl
 have hci:=fun K=>eX (T:=T) (K:=K) hN (s:=l[0].name) (p:=l[0].ty) (q:=l[0].ps) (u:=fslN (ints l[0].regs)) (w:=fslN (l[0].blocks.map Blk.F)) rfl rfl
 obtain⟨F,hF⟩:=A0B (T:=T) (gs:=gs) (fs:=l.map Cod.F) hc;rw[hx];generalize callsD l[0]=a' at hF|-;unfold Ov HM;generalize p15q0=q0 at hF|-;generalize p15r0=r0 at hF|-;generalize hfs:l.map Cod.F=fs at *;rcases a' with _|⟨y,r⟩
 . simp only[y5,rowG,zqh,zqe,zqi,zqg,Nat.reduceAdd,Cod.F]at hi hF|-
   simp -implicitDefEqProofs only[hi,hlt,hci,hF,Cn,Co,Cp,Cq,Cr,Cs,Ct,Z9,show IntKind.i64.wrap (0+1)=((1:Nat):Int)from rfl,XP,Nat.reduceAdd,Nat.reduceSub,Nat.reduceLT,Nat.reduceLeDiff,Nat.reduceEqDiff,Nat.reduceMul,↓reduceIte]
 . simp only[y5,rowG,zqh,zqe,zqi,zqg,Nat.reduceAdd,Cod.F]at hi hF|-
   have hl:(ints (y::r)).length=r.length+1:=by simp[ints]
   generalize ints (y::r)=ia at *;simp -implicitDefEqProofs only[hi,hlt,hci,hF,hl,uN,Cn,Co,Cp,Cq,Cr,Cs,Ct,Z9,show IntKind.i64.wrap (0+1)=((1:Nat):Int)from rfl,XP,Nat.reduceAdd,Nat.reduceSub,Nat.reduceLT,Nat.reduceLeDiff,Nat.reduceEqDiff,Nat.reduceMul,↓reduceIte]
theorem A0E(hN:T 27=zn)(h:i<l.length)(h0:0<i)(hs:l.length<=10000)(hc:GOk l[i]):evP ⟨env,T,A1⟩ (.code Ov (HM l i) ⟨[.row 1 [.agg [fslN gs,fslN (l.map Cod.F)]] 2,.row 0 (graD (l.take i)) 1],0,[]⟩)=zsq (.ok .normal (HM l (i+1)) ⟨[.row 1 [.agg [fslN gs,fslN (l.map Cod.F)]] 2,.row 0 (graD (l.take (i+1))) 1],0,[]⟩):=by
 have hi:Vd Dw (fslN (l.map Cod.F)) (.int .i64 i)=zsq (.fptr (Cod.F l[i]) 0):=ix_fslN (te:=Dw) (k:=.i64) (i:=i) (A7 (F:=Cod.F) h) rfl;have hlt:decide ((i:Int)<(l.length:Int))=zt:=by simp[h]
 have hw:=B5 (i:=i) (by omega);have hm:(graD (l.take i)).length=i:=by unfold graD;simp;omega
 have hz:(i+1)*24<=140737488355328:=by omega
 have hx:graD (l.take (i+1))=graD (l.take i)++[rowG (callsD l[i])]:=by unfold graD;rw[zke h,zkg];rfl
 have hci:=fun K=>eX (T:=T) (K:=K) hN (s:=l[i].name) (p:=l[i].ty) (q:=l[i].ps) (u:=fslN (ints l[i].regs)) (w:=fslN (l[i].blocks.map Blk.F)) rfl rfl
 obtain⟨F,hF⟩:=A0C (T:=T) (gs:=gs) (fs:=l.map Cod.F) (G:=graD (l.take i)) hc;rw[hx];generalize graD (l.take i)=G at *;generalize callsD l[i]=a' at hF|-;unfold Ov HM;generalize p15q0=q0 at hF|-;generalize p15r0=r0 at hF|-;generalize hfs:l.map Cod.F=fs at *;rcases a' with _|⟨y,r⟩
 . simp only[y5,rowG,zqh,zqe,zqi,zqg,Nat.reduceAdd,Cod.F]at hi hF|-
   simp -implicitDefEqProofs only[hi,hlt,hci,hF,hm,hz,hw,Cn,Co,Cp,Cq,Cr,Cs,Ct,Z9,XP,seval]
 . simp only[y5,rowG,zqh,zqe,zqi,zqg,Nat.reduceAdd,Cod.F]at hi hF|-
   have hl:(ints (y::r)).length=r.length+1:=by simp[ints]
   generalize ints (y::r)=ia at *;simp -implicitDefEqProofs only[hi,hlt,hci,hF,hl,hm,hz,hw,uN,Cn,Co,Cp,Cq,Cr,Cs,Ct,Z9,XP,seval]
theorem A0F{v:AV}{K:PK}{p:AV}:∃fr',evP ⟨env,T,A1⟩ (.code Ov [(1,p),(4,v),(10,fslN (l.map Cod.F)),(11,.int .i64 (l.length:Int)),(12,.int .i64 (l.length:Int))] K)=zsq (.ok (.exit 0) fr' K)/\lookP fr' 1=p/\lookP fr' 4=v:=by
 unfold Ov;have B:decide ((l.length:Int)<(l.length:Int))=zf:=by simp
 simp only[B,XP,seval];exact⟨_,rfl,rfl,rfl⟩
theorem NG(hN:T 27=zn)(B:l.length<=10000)(hc:∀c∈l,GOk c):∀(q i:Nat),l.length=i+q->0<i->∃fr',evP ⟨env,T,A1⟩ (.code (.loop Ov) (HM l i) ⟨[.row 1 [.agg [fslN gs,fslN (l.map Cod.F)]] 2,.row 0 (graD (l.take i)) 1],0,[]⟩)=zsq (.ok (.exit 0) fr' ⟨[.row 1 [.agg [fslN gs,fslN (l.map Cod.F)]] 2,.row 0 (graD l) 1],0,[]⟩)/\lookP fr' 1=.ptr 0 0 0/\lookP fr' 4=.msl 1 0 l.length 1
 |0,i,e,h0=>by
  obtain rfl:i=l.length:=by omega
  rw[List.take_length];obtain⟨fr',h1,h2⟩:=A0F (T:=T) (l:=l) (v:=.msl 1 0 l.length 1) (p:=.ptr 0 0 0) (K:=⟨[.row 1 [.agg [fslN gs,fslN (l.map Cod.F)]] 2,.row 0 (graD l) 1],0,[]⟩);exact⟨fr',J5 h1,h2⟩
 |q+1,i,e,h0=>by
  have hi:i<l.length:=by omega
  rw[H9 (A0E hN hi h0 B (hc _ (zqd hi)))];exact NG hN B hc q (i+1) (by omega) (by omega)
end
section
variable {l:List Cod}{c:Cod}{i:Nat}{K:PK}
theorem No  {c:Cod} (hk:True):AM.Comes ⟨env,T,A1⟩ 29 [c.F] [.bool (decide (c.name=B6))]:=by
 refine⟨[.bool (decide (c.name=B6))],⟨[],0,[]⟩,?_,back_of rfl zqt rfl rfl rfl⟩;rw[A5 (c:=QC) (nt:=6) (rs:=[.tmp 2]) rfl (by simp)];unfold QC;unfold K0;unfold Cod.F B6;simp only[XP,seval]
def O5:=Bs (fun p:(Cod)=>[p.F]) (fun p=>[.bool (decide (p.name=B6))]) (fun p=>True)
theorem Ox(B:T 29=zsq O5){c:Cod}{K:PK}(D:True):evP ⟨env,T,A1⟩ (.call 29 [c.F] K)=zsq (.val (openTs K.os.length [.bool (decide (c.name=B6))]).1 ⟨K.os++(openTs K.os.length [.bool (decide (c.name=B6))]).2,K.ext,K.tch⟩):=C9 B (by simp only[VV,XP,seval]) (D4 (a:=fun p:(Cod)=>[p.F]) (r:=fun p=>[.bool (decide (p.name=B6))]) (fun x y e=>by simp only[VJ]at e;simp only[e]) (c) D) (by simp only[VN,XP,seval])
theorem Wa  (hP:PEok ⟨env,T,A1⟩):TC env 29 O5:=D6 hP fun p h=>No  h
theorem NH(hN:T 29=zsq O5)(h:i<l.length)(D:l.length<=bigN)(I:decide (l[i].name=B6)=zf):evP ⟨env,T,A1⟩ (.code i7 [(0,fslN (l.map Cod.F)),(1,.fn (.func 29) [] []),(7,.int .i64 (l.length:Int)),(8,.int .i64 (i:Int))] ⟨[],0,[]⟩)=zsq (.ok .normal [(0,fslN (l.map Cod.F)),(1,.fn (.func 29) [] []),(7,.int .i64 (l.length:Int)),(8,.int .i64 ((i+1:Nat):Int))] ⟨[],0,[]⟩):=by
 unfold i7;have B:decide ((i:Int)<(l.length:Int))=zt:=by simp[h]
 have J:=B5 (i:=i) (by simp only[bigN]at D;omega);have hi:=A7 (F:=Cod.F) h;have t:=fun K=>Ox (K:=K) (c:=l[i]) hN trivial
 simp only[Cod.F]at hi t;simp only[B,hi,J,t,I,XP,seval]
theorem NI(hN:T 29=zsq O5)(h:i<l.length)(D:decide (l[i].name=B6)=zt):∃fr',evP ⟨env,T,A1⟩ (.code i7 [(0,fslN (l.map Cod.F)),(1,.fn (.func 29) [] []),(7,.int .i64 (l.length:Int)),(8,.int .i64 (i:Int))] ⟨[],0,[]⟩)=zsq (.ok .ret fr' ⟨[],0,[]⟩)/\lookP fr' 4=.int .i64 (i:Int):=by
 unfold i7;have B:decide ((i:Int)<(l.length:Int))=zt:=by simp[h]
 have hi:=A7 (F:=Cod.F) h;have t:=fun K=>Ox (K:=K) (c:=l[i]) hN trivial
 simp only[Cod.F]at hi t;simp only[B,hi,t,D,XP,seval];exact⟨_,rfl,rfl⟩
theorem NJ:∃fr',evP ⟨env,T,A1⟩ (.code i7 [(0,fslN (l.map Cod.F)),(1,.fn (.func 29) [] []),(7,.int .i64 (l.length:Int)),(8,.int .i64 (l.length:Int))] ⟨[],0,[]⟩)=zsq (.ok (.exit 0) fr' ⟨[],0,[]⟩):=by
 unfold i7;have B:decide ((l.length:Int)<(l.length:Int))=zf:=by simp
 simp only[B,XP,seval];exact⟨_,rfl⟩
theorem eY(hN:T 29=zsq O5)(D:T 28=zn)(I:l.length<=bigN)(K:PK):evP ⟨env,T,A1⟩ (.call 28 [fslN (l.map Cod.F),.fn (.func 29) [] []] K)=zsq (.val [.int .i64 (idxOf (fun c:Cod=>decide (c.name=B6)) l)] K):=by
 refine cB (tch:=[]) D rfl rfl rfl ?_ rfl;rw[A5 (c:=HF) (nt:=19) (rs:=[.tmp 4]) rfl (by simp)];unfold HF;rcases idx_loop (P:=⟨env,T,A1⟩) (c:=i7) (p:=fun c:Cod=>decide (c.name=B6)) (l:=l) (S:=fun i=>[(0,fslN (l.map Cod.F)),(1,.fn (.func 29) [] []),(7,.int .i64 (l.length:Int)),(8,.int .i64 (i:Int))]) (K:=⟨[],0,[]⟩) (fun i h B=>NH hN h I B) (fun i h B=>NI hN h B) NJ with⟨i,e,fr',h1,h2⟩|⟨e,fr',h1⟩
 . have h1:evP ⟨env,T,A1⟩ (.code (.loop i7) [(0,fslN (l.map Cod.F)),(1,.fn (.func 29) [] []),(7,.int .i64 (l.length:Int)),(8,.int .i64 0)] ⟨[],0,[]⟩)=_:=h1
   simp only[h1,h2,e,zqb,XP,seval]
 . have h1:evP ⟨env,T,A1⟩ (.code (.loop i7) [(0,fslN (l.map Cod.F)),(1,.fn (.func 29) [] []),(7,.int .i64 (l.length:Int)),(8,.int .i64 0)] ⟨[],0,[]⟩)=_:=h1
   simp only[h1,e,zqb,XP,seval]
theorem uO(a:List Int):noF (rowG a)=zt:=by
 cases a with
 |nil=>rfl
 |cons x l=>unfold rowG ownd noF;exact Xh _
theorem uP(l:List Cod):noFL (graD l)=zt:=by
 induction l with
 |nil=>rfl
 |cons c l B=>show(noF (rowG (callsD c))&&noFL (graD l))=zt;rw[uO,B];rfl
theorem Ts(B:T 27=zn)(D:T 29=zsq O5)(I:T 28=zn){m:Modl}(J:(0<m.fs.length/\m.fs.length<=10000)/\∀c∈m.fs,GOk c):AM.Comes ⟨env,T,A1⟩ 15 [m.F] [ownd 0 1 (graD m.fs),.int .i64 (idxOf (fun c:Cod=>decide (c.name=B6)) m.fs)]:=by
 obtain⟨⟨h0,O⟩,hc⟩:=J;obtain⟨fr',h1,h2,Q⟩:=NG (gs:=m.gs.map Glo.F) B O hc (m.fs.length-1) 1 (by omega) (by decide);have N:=(H9 (A0D (gs:=m.gs.map Glo.F) B h0 (hc _ (zqd h0)))).trans h1;have t:=fun K=>eY (l:=m.fs) D I (by simp only[bigN];omega) K
 have hl:(graD m.fs).length=m.fs.length:=by unfold graD;simp
 refine⟨[.msl 0 0 m.fs.length 1,.int .i64 (idxOf (fun c:Cod=>decide (c.name=B6)) m.fs)],⟨[.row 0 (graD m.fs) 1],0,[]⟩,?_,?_⟩
 . rw[A5 (c:=PX) (nt:=35) (rs:=[.tmp 2,.tmp 3]) rfl (by simp)];unfold PX
   unfold K0 Modl.F;simp only[N,h2,Q,t,zqb,XP,seval]
 . refine back_of rfl ?_ rfl ?_ ?_
   all_goals simp only[hl,XP,seval]
def Cu:=Bs (fun p:(Modl)=>[p.F]) (fun p=>[ownd 0 1 (graD p.fs),.int .i64 (idxOf (fun c:Cod=>decide (c.name=B6)) p.fs)]) (fun p=>(0<p.fs.length/\p.fs.length<=10000)/\∀c∈p.fs,GOk c)
theorem qD(B:T 15=zsq Cu){m:Modl}{K:PK}(D:(0<m.fs.length/\m.fs.length<=10000)/\∀c∈m.fs,GOk c):evP ⟨env,T,A1⟩ (.call 15 [m.F] K)=zsq (.val (openTs K.os.length [ownd 0 1 (graD m.fs),.int .i64 (idxOf (fun c:Cod=>decide (c.name=B6)) m.fs)]).1 ⟨K.os++(openTs K.os.length [ownd 0 1 (graD m.fs),.int .i64 (idxOf (fun c:Cod=>decide (c.name=B6)) m.fs)]).2,K.ext,K.tch⟩):=C9 B (by simp only[VV,XP,seval]) (D4 (a:=fun p:(Modl)=>[p.F]) (r:=fun p=>[ownd 0 1 (graD p.fs),.int .i64 (idxOf (fun c:Cod=>decide (c.name=B6)) p.fs)]) (fun x y e=>by simp only[VJ]at e;simp only[e]) (m) D) (by simp only[VN,uP,XP,seval])
theorem eZ(B:T 27=zn)(D:T 29=zsq O5)(I:T 28=zn)(hP:PEok ⟨env,T,A1⟩):TC env 15 Cu:=D6 hP fun p h=>Ts B D I h
end
def lonL(rec:Nat->List Int->(Int×Bool)×List Int):List Int->Int->List Int->Option Int×List Int
 |[],most,k=>(zsq most,k)
 | t::l,most,k=>match rec t.toNat k with
  |((n,zt),k')=>lonL rec l (max most n) k'
  |((_,zf),k')=>(zn,k')
def lonD(g:List (List Int)):Nat->Nat->List Int->(Int×Bool)×List Int
 |0,_,k=>((0,zf),k)
 | f + 1,v,k=>if k.getD v 0=0 then
     match lonL (lonD g f) (g.getD v []) 0 (k.set v (-1))with
     |(zsq most,k')=>((most+1,zt),k'.set v (most+1))
     |(zn,k')=>((0,zf),k')
  else((k.getD v 0,decide (¬k.getD v 0=-1)),k)
def dn(k:List Int):Nat:=k.countP (0 < ·)
structure KInv(n:Nat)(k:List Int):Prop where
 len:k.length=n
 bd:∀v∈k,v<=dn k
 lo:∀v∈k,-1<=v
theorem BN(k:List Int):dn k<=k.length:=List.countP_le_length
theorem uQ{k:List Int}{v:Nat}{x:Int}(h:v<k.length)(h0:k[v]<=0):dn (k.set v x)=dn k+if 0<x then 1 else 0:=by
 unfold dn;rw[zkq h];have e:decide (0<k[v])=zf:=by simp;omega
 rw[e];by_cases B:0<x<;>simp[B]
theorem FN{k:List Int}{v:Nat}{x:Int}(h:v<k.length)(h0:k[v]=0)(B:x≠0):(k.set v x).count 0+1=k.count 0:=by
 have hp:0<k.count 0:=List.count_pos_iff.2 (h0▸zqd h);unfold List.count at *;rw[zkq h];have e:(k[v]==0)=zt:=by simp[h0]
 have e2:(x==0)=zf:=by simp[B]
 rw[e,e2];simp;omega
theorem NK{k k':List Int}(hl:k'.length=k.length)(h:∀i,k.getD i 0≠0->k'.getD i 0=k.getD i 0):k'.count 0<=k.count 0:=by
 induction k generalizing k' with
 |nil=>cases k' with|nil=>exact zje _|cons _ _=>simp at hl
 | cons x l B=>cases k' with
  |nil=>simp at hl
  |cons y D=>
   have h1:=h 0;have h2:=B (k':=D) (by simpa using hl) (fun i hi=>by have:=h (i+1);simp at this|-;exact this (by simpa using hi));simp at h1;rw[zkr,zkr];by_cases e:x=0
   . subst e;simp;split<;>omega
   . rw[h1 e];simp[e];exact h2
structure Lft(n:Nat)(k k':List Int):Prop where
 inv:KInv n k'
 st:∀i,k.getD i 0≠0->k'.getD i 0=k.getD i 0
theorem Lft.tr{n:Nat}{a b c:List Int}(h1:Lft n a b)(h2:Lft n b c):Lft n a c:=⟨h2.inv,fun i hi=>by rw[h2.st i (by rw[h1.st i hi];exact hi),h1.st i hi]⟩
theorem Lft.cz{n:Nat}{a b:List Int}(ha:a.length=n)(h:Lft n a b):b.count 0<=a.count 0:=NK (by rw[h.inv.len,ha]) h.st
theorem KInv.open{n:Nat}{k:List Int}{v:Nat}(h:KInv n k)(hv:v<n)(h0:k.getD v 0=0):KInv n (k.set v (-1))/\(k.set v (-1)).getD v 0=-1/\(k.set v (-1)).count 0+1=k.count 0/\Lft n k (k.set v (-1)):=by
 have hl:=h.len;have D:k[v]'(by omega)=0:=by rw[zqa,zqj (by omega)]at h0;exact h0
 have I:dn (k.set v (-1))=dn k:=by rw[uQ (by omega) (by omega)];simp
 have hi:KInv n (k.set v (-1)):=⟨by simp[hl],fun x B=>by
  rw[I];rcases zkc B with B|rfl
  . exact h.bd x B
  . omega,fun x B=>by
  rcases zkc B with B|rfl
  . exact h.lo x B
  . omega⟩
 refine⟨hi,?_,FN (by omega) D (by decide),hi,fun i hi=>?_⟩
 . rw[zqa,zks (by omega)];rfl
 . rw[zqa,zqa,zkt]
   split
   . rename_i e;subst e;exact absurd h0 hi
   . rfl
theorem Lw{n:Nat}{rec:Nat->List Int->(Int×Bool)×List Int}{f:Nat}(I:∀v k,v<n->KInv n k->k.count 0<f->Lft n k (rec v k).2/\((rec v k).1.2=zt->0<(rec v k).1.1/\(rec v k).1.1<=dn (rec v k).2)):
 ∀(l:List Int)(most:Int)(k:List Int),(∀t∈l,0<=t/\t<n)->KInv n k->k.count 0<f->0<=most/\most<=dn k->Lft n k (lonL rec l most k).2/\∀x,(lonL rec l most k).1=zsq x->0<=x/\x<=dn (lonL rec l most k).2
 |[],most,k,hl,hk,hc,hm=>⟨⟨hk,fun _ _=>rfl⟩,fun x e=>by unfold lonL at e|-;cases e;exact hm⟩
 |t :: l,most,k,hl,hk,hc,hm=>by
  obtain⟨h1,h2⟩:=I t.toNat k (by have:=hl t (zqq ..);omega) hk hc;unfold lonL;rcases O:rec t.toNat k with⟨⟨a,b⟩,k'⟩
  rw[O]at h1 h2;cases b with
  |false=>exact⟨h1,fun x e=>by cases e⟩
  |true=>
   have J:=h2 rfl;simp only at J h1|-;have hd:dn k<=dn k':=by
    clear O h2 J;have B:k'.length=k.length:=by rw[h1.inv.len,hk.len]
    have D:=h1.st;clear h1 hc hm hk;unfold dn
    induction k generalizing k' with
    |nil=>exact Nat.zero_le _
    | cons x l X=>cases k' with
     |nil=>simp at B
     |cons y Y=>
      have N:=D 0;have a2:=X (k':=Y) (by simpa using B) (fun i hi=>by have:=D (i+1);simp at this|-;exact this (by simpa using hi));simp at N;rw[zku,zku];by_cases e:x=0
      . subst e;simp;omega
      . rw[N e];split<;>omega
   obtain⟨U,V⟩:=Lw I l (max most a) k' (fun t Q=>hl t (zqn _ Q)) h1.inv (by have:=h1.cz hk.len;omega) (by omega);exact⟨h1.tr U,V⟩
theorem Cv{g:List (List Int)}{n:Nat}(hg:∀v,∀t∈g.getD v [],0<=t/\t<n):∀(f v:Nat)(k:List Int),v<n->KInv n k->k.count 0<f->Lft n k (lonD g f v k).2/\((lonD g f v k).1.2=zt->0<(lonD g f v k).1.1/\(lonD g f v k).1.1<=dn (lonD g f v k).2)
 |0,v,k,hv,hk,hc=>absurd hc (zjf _)
 |f + 1,v,k,hv,hk,hc=>by
  have hl:=hk.len;have I:k.getD v 0∈k:=by rw[zqa,zqj (by omega)];exact zqd _
  rw[lonD];by_cases h0:k.getD v 0=0
  . rw [if_pos h0]
    obtain⟨p1,p2,p3,p4⟩:=hk.open hv h0;obtain⟨D,O⟩:=Lw (Cv hg f) (g.getD v []) 0 (k.set v (-1)) (hg v) p1 (by omega) ⟨zja _,by omega⟩;rcases B:lonL (lonD g f) (g.getD v []) 0 (k.set v (-1))with⟨o,k'⟩
    rw[B]at D O;have J:=D.st v (by rw[p2];decide);rw[p2]at J;have hl':=D.inv.len;simp only at D O J hl';cases o with
    |none=>exact⟨p4.tr D,fun e=>by cases e⟩
    |some most=>
     obtain⟨q4,q5⟩:=O most rfl;have hkv:k'[v]'(by omega)=-1:=by rw[zqa,zqj (by omega)]at J;exact J
     have Q:dn (k'.set v (most+1))=dn k'+1:=by rw[uQ (by omega) (by omega),if_pos (by omega)]
     refine⟨⟨⟨by simp[hl'],fun x B=>?_,fun x B=>?_⟩,fun i hi=>?_⟩,fun _=>?_⟩
     . rw[Q]
       rcases zkc B with B|rfl
       . have:=D.inv.bd x B;omega
       . omega
     . rcases zkc B with B|rfl
       . exact D.inv.lo x B
       . omega
     . have N:¬v=i:=fun e=>by subst e;exact hi h0
       rw[<-(p4.tr D).st i hi,zqa,zqa,List.getElem?_set_ne N]
     . exact⟨by show 0<most+1;omega,by show most+1<=(dn (k'.set v (most+1)):Int);rw[Q];omega⟩
  . rw[if_neg h0]
    refine⟨⟨hk,fun _ _=>rfl⟩,fun e=>?_⟩;have h1:=hk.lo _ I;have h2:=hk.bd _ I;have e:¬k.getD v 0=-1:=by simpa using e
    exact⟨by show 0<k.getD v 0;omega,h2⟩
theorem mxx{K:PK}(a b:Int):E9 env .max [3,3] [.int .i64 a,.int .i64 b] K=zsq (.int .i64 (max a b),K):=by
 have e:E9 env .max [3,3] [.int .i64 a,.int .i64 b] K=zsq (.int .i64 (bif intLe b a then a else b),K):=rfl;rw[e,N7];by_cases h:b<=a
 . rw[decide_eq_true h,cond_true,zjb h]
 . rw[decide_eq_false h,cond_false,zjc (by omega)]
theorem y6{k:List Int}{v:Nat}(h:v<k.length):(ints k)[v]?=zsq (.int .i64 (k.getD v 0)):=by
 unfold ints;rw[zqx,zqa,zqj h];rfl
theorem Lx(k:List Int):(ints k).length=k.length:=by simp[ints]
theorem bA{α:Type}{l:List α}{i:Nat}{v:α}(h:i<l.length):(l.set i v)[i]?=zsq v:=zks h
section
variable {A:PO}{g:List (List Int)}{k k':List Int}{xs ys:List PO}{v n q i ex:Nat}{r most:Int}{l:List Int}{fr:PF}{tch tch':List Nat}
theorem NL(h33:lookP fr 35=.int .i64 (l.length:Int))(h34:lookP fr 34=.int .i64 (l.length:Int)){K:PK}:∃fr',evP ⟨env,T,A1⟩ (.code p16b0 fr K)=zsq (.ok (.exit 0) fr' K)/\lookP fr' 1=lookP fr 1/\lookP fr' 2=lookP fr 2/\lookP fr' 8=lookP fr 8:=by
 unfold p16b0;have B:decide ((l.length:Int)<(l.length:Int))=zf:=by simp
 simp only[B,h33,h34,XP,seval];exact⟨_,rfl,by simp only[XP,seval]⟩
structure LgF(fr:PF)(n v q len i:Nat)(most:Int):Prop where
 h0:lookP fr 0=.msl 1 0 n 1
 h1:lookP fr 1=.int .i64 (v:Int)
 h2:lookP fr 2=.msl 2 0 n 1
 h8:lookP fr 8=.int .i64 most
 h33:lookP fr 33=.msl (q+3) 0 len 1
 h34:lookP fr 34=.int .i64 (len:Int)
 h35:lookP fr 35=.int .i64 (i:Int)
theorem qE{x:Int}{l:List Int}:rowG (x::l)=ownd 0 1 (ints (x::l)):=rfl
theorem A0G{t:Nat}(D:LgF fr n v q l.length i most)(hi:i<l.length)(I:l[i]=(t:Int))(hl:l.length<=10000000)(hg:(g.map rowG)[v]?=zsq (ownd 0 1 (ints l)))(J:xs[q]?=zsq (.sub 1 v 0))
 (hr:evP ⟨env,T,A1⟩ (.call 16 [.msl 1 0 n 1,.int .i64 (t:Int),.msl 2 0 n 1] ⟨A::.row 0 (g.map rowG) 1::.row 0 (ints k) 1::xs,ex,tch⟩)=zsq (.val [.int .i64 r,.bool zt] ⟨A::.row 0 (g.map rowG) 1::.row 0 (ints k') 1::ys,ex,tch'⟩)):
 ∃fr',evP ⟨env,T,A1⟩ (.code p16b0 fr ⟨A::.row 0 (g.map rowG) 1::.row 0 (ints k) 1::xs,ex,tch⟩)=zsq (.ok .normal fr' ⟨A::.row 0 (g.map rowG) 1::.row 0 (ints k') 1::ys,ex,tch'⟩)/\LgF fr' n v q l.length (i+1) (max most r):=by
 have B:decide ((i:Int)<(l.length:Int))=zt:=by simp[hi]
 have N:=B5 (i:=i) (by omega);have O:(ints l)[i]?=zsq (.int .i64 (t:Int)):=by rw[y6 hi,zqa,zqj hi,Option.getD_some,I]
 obtain⟨h0,h1,h2,h8,h33,h34,h35⟩:=D;unfold p16b0;generalize g.map rowG=G at *;simp only[B,N,hi,O,hg,J,h0,h1,h2,h8,h33,h34,h35,hr,mxx,XP,seval];exact⟨_,rfl,by simp only[h0,XP,seval],by simp only[h1,XP,seval],by simp only[h2,XP,seval],by simp only[XP,seval],by simp only[h33,XP,seval],by simp only[h34,XP,seval],by simp only[XP,seval]⟩
theorem A0H{t:Nat}(D:LgF fr n v q l.length i most)(hi:i<l.length)(I:l[i]=(t:Int))(hl:l.length<=10000000)(hg:(g.map rowG)[v]?=zsq (ownd 0 1 (ints l)))(J:xs[q]?=zsq (.sub 1 v 0))
 (hr:evP ⟨env,T,A1⟩ (.call 16 [.msl 1 0 n 1,.int .i64 (t:Int),.msl 2 0 n 1] ⟨A::.row 0 (g.map rowG) 1::.row 0 (ints k) 1::xs,ex,tch⟩)=zsq (.val [.int .i64 r,.bool zf] ⟨A::.row 0 (g.map rowG) 1::.row 0 (ints k') 1::ys,ex,tch'⟩)):
 ∃fr',evP ⟨env,T,A1⟩ (.code p16b0 fr ⟨A::.row 0 (g.map rowG) 1::.row 0 (ints k) 1::xs,ex,tch⟩)=zsq (.ok .ret fr' ⟨A::.row 0 (g.map rowG) 1::.row 0 (ints k') 1::ys,ex,tch'⟩)/\lookP fr' 6=.int .i64 0/\lookP fr' 7=.bool zf:=by
 have B:decide ((i:Int)<(l.length:Int))=zt:=by simp[hi]
 have N:(ints l)[i]?=zsq (.int .i64 (t:Int)):=by rw[y6 hi,zqa,zqj hi,Option.getD_some,I]
 obtain⟨h0,h1,h2,h8,h33,h34,h35⟩:=D;unfold p16b0;generalize g.map rowG=G at *;simp only[B,hi,N,hg,J,h0,h1,h2,h8,h33,h34,h35,hr,XP,seval];exact⟨_,rfl,by simp only[XP,seval],by simp only[XP,seval]⟩
end
def NM(T:Nat->Option (List AV->Option (List AV)))(A:PO)(g:List (List Int))(n v:Nat)(k:List Int)(r:(Int×Bool)×List Int):Prop:=∀(xs:List PO)(ex:Nat)(tch:List Nat),∃ys tch',evP ⟨env,T,A1⟩ (.call 16 [.msl 1 0 n 1,.int .i64 (v:Int),.msl 2 0 n 1] ⟨A::.row 0 (g.map rowG) 1::.row 0 (ints k) 1::xs,ex,tch⟩)=zsq (.val [.int .i64 r.1.1,.bool r.1.2] ⟨A::.row 0 (g.map rowG) 1::.row 0 (ints r.2) 1::(xs++ys),ex,tch'⟩)
structure GrOk(n:Nat)(g:List (List Int)):Prop where
 len:g.length=n
 sz:n<=10000
 rows:∀v,(g.getD v []).length<=10000000
 tg:∀v,∀t∈g.getD v [],0<=t/\t<n
section
variable {A:PO}{g:List (List Int)}{n v f:Nat}
theorem NN(G:GrOk n g)(hC:∀v k,v<n->KInv n k->k.count 0<f->NM T A g n v k (lonD g f v k)){l:List Int}{q:Nat}(B:g.getD v []=l)(X:v<n)(hg:(g.map rowG)[v]?=zsq (ownd 0 1 (ints l))):
 ∀ (m i:Nat) (most:Int) (k:List Int) (xs:List PO) (ex:Nat) (tch:List Nat) (fr:PF),l.length=i+m->LgF fr n v q l.length i most->xs[q]?=zsq (.sub 1 v 0)->KInv n k->k.count 0<f ->
   ∃ fr' ys tch',evP ⟨env,T,A1⟩ (.code (.loop p16b0) fr ⟨A::.row 0 (g.map rowG) 1::.row 0 (ints k) 1::xs,ex,tch⟩)=zsq (.ok (match(lonL (lonD g f) (l.drop i) most k).1 with|some _=>.exit 0|none=>.ret) fr' ⟨A::.row 0 (g.map rowG) 1::.row 0 (ints (lonL (lonD g f) (l.drop i) most k).2) 1::(xs++ys),ex,tch'⟩)/\
     match(lonL (lonD g f) (l.drop i) most k).1 with|some x=>lookP fr' 1=.int .i64 (v:Int)/\lookP fr' 2=.msl 2 0 n 1/\lookP fr' 8=.int .i64 x|none=>lookP fr' 6=.int .i64 0/\lookP fr' 7=.bool zf
 |0,i,most,k,xs,ex,tch,fr,e,hF,hq,hk,hc=>by
  obtain rfl:i=l.length:=by omega
  obtain⟨fr',h1,h2,J,N⟩:=NL (T:=T) hF.h35 hF.h34 (K:=⟨A::.row 0 (g.map rowG) 1::.row 0 (ints k) 1::xs,ex,tch⟩);rw[zqy];exact⟨fr',[],tch,by rw[zqf];exact J5 h1,h2.trans hF.h1,J.trans hF.h2,N.trans hF.h8⟩
 |m+1,i,most,k,xs,ex,tch,fr,e,hF,hq,hk,hc=>by
  have hi:i<l.length:=by omega
  obtain⟨t0,t1⟩:=G.tg v l[i] (by rw[B];exact zqd hi);obtain⟨t,U⟩:=zjd t0;have D:t<n:=by omega
  have I:l.length<=10000000:=by rw[<-B];exact G.rows v
  obtain⟨ys,V,O⟩:=hC t k D hk hc xs ex tch;obtain⟨p1,p2⟩:=Cv G.tg f t k D hk hc;rw[zkb hi,lonL,show l[i].toNat=t by omega];rcases hx:lonD g f t k with⟨⟨a,b⟩,k'⟩
  rw[hx]at O p1 p2;cases b with
  |false=>
   obtain⟨fr',h1,h2,J⟩:=A0H hF hi U I hg hq O;exact⟨fr',ys,V,Dh h1,h2,J⟩
  |true=>
   obtain⟨Q,h1,h2⟩:=A0G hF hi U I hg hq O;obtain⟨fr',zs,Y,J,N⟩:=NN G hC B X hg m (i+1) (max most a) k' (xs++ys) ex V Q (by omega) h2 (by rw[List.getElem?_append_left (List.getElem?_eq_some_iff.1 hq).1];exact hq) p1.inv (zjg (p1.cz hk.len) hc);refine⟨fr',ys++zs,Y,?_,N⟩;rw[<-zqp];exact(H9 h1).trans J
theorem fA(G:GrOk n g)(B:v<n):(g.map rowG)[v]?=zsq (rowG (g.getD v [])):=by
 rw[zqx,zqa,zqj (by rw[G.len];exact B)];rfl
theorem yF(hN:T 16=zn)(G:GrOk n g){k:List Int}(B:v<n)(D:KInv n k)(h0:¬k.getD v 0=0)(xs:List PO)(ex:Nat)(tch:List Nat):∃tch',evP ⟨env,T,A1⟩ (.call 16 [.msl 1 0 n 1,.int .i64 (v:Int),.msl 2 0 n 1] ⟨A::.row 0 (g.map rowG) 1::.row 0 (ints k) 1::xs,ex,tch⟩)=zsq (.val [.int .i64 (k.getD v 0),.bool (decide (¬k.getD v 0=-1))] ⟨A::.row 0 (g.map rowG) 1::.row 0 (ints k) 1::xs,ex,tch'⟩):=by
 rw[Di hN rfl,A5 (c:=AF) (nt:=61) (rs:=[.tmp 6,.tmp 7]) rfl (by simp)];have I:=y6 (k:=k) (v:=v) (by rw[D.len];exact B);generalize k.getD v 0=y at *;have e1:(!decide (y=0))=zt:=by simp[h0]
 have e2:(!decide (y=-1))=decide (¬y=-1):=by simp
 unfold AF;simp only[I,B,h0,e2,XP,seval];exact⟨_,rfl⟩
end
section
variable {A:PO}{g:List (List Int)}{n v f:Nat}
theorem NO:∃F:PF->PK->PF,∀fr K,lookP fr 35=.int .i64 0->lookP fr 34=.int .i64 0->evP ⟨env,T,A1⟩ (.code (.loop p16b0) fr K)=zsq (.ok (.exit 0) (F fr K) K)/\lookP (F fr K) 1=lookP fr 1/\lookP (F fr K) 2=lookP fr 2/\lookP (F fr K) 8=lookP fr 8:=by
 have B:∀x:PF×PK,∃y,lookP x.1 35=.int .i64 0->lookP x.1 34=.int .i64 0->evP ⟨env,T,A1⟩ (.code (.loop p16b0) x.1 x.2)=zsq (.ok (.exit 0) y x.2)/\lookP y 1=lookP x.1 1/\lookP y 2=lookP x.1 2/\lookP y 8=lookP x.1 8:=fun x=>by
  by_cases h:lookP x.1 35=.int .i64 0/\lookP x.1 34=.int .i64 0
  . obtain⟨fr',h1,h2⟩:=NL (T:=T) (l:=[]) (K:=x.2) h.1 h.2
    exact⟨fr',fun _ _=>⟨J5 h1,h2⟩⟩
  . exact⟨[],fun a b=>absurd ⟨a,b⟩ h⟩
 exact⟨fun fr K=>(B (fr,K)).choose,fun fr K=>(B (fr,K)).choose_spec⟩
theorem FO(hN:T 16=zn)(G:GrOk n g){k:List Int}(D:v<n)(J:KInv n k)(h0:k.getD v 0=0)(O:g.getD v []=[])(xs:List PO)(ex:Nat)(tch:List Nat):∃tch',evP ⟨env,T,A1⟩ (.call 16 [.msl 1 0 n 1,.int .i64 (v:Int),.msl 2 0 n 1] ⟨A::.row 0 (g.map rowG) 1::.row 0 (ints k) 1::xs,ex,tch⟩)=zsq (.val [.int .i64 1,.bool zt] ⟨A::.row 0 (g.map rowG) 1::.row 0 (ints ((k.set v (-1)).set v 1)) 1::xs,ex,tch'⟩):=by
 rw[Di hN rfl,A5 (c:=AF) (nt:=61) (rs:=[.tmp 6,.tmp 7]) rfl (by simp)];have B:v<(ints k).length:=by rw[Lx,J.len];exact D
 have N:=y6 (k:=k) (v:=v) (by rw[J.len];exact D);rw[h0]at N;have hg:=fA G D;rw[O]at hg
 replace hg:(g.map rowG)[v]?=zsq .nilsl:=hg
 generalize g.map rowG=Gr at *;rw[<-H4,<-H4];generalize ints k=ik at *;have Q:=fun y:AV=>bA (v:=y) B
 obtain⟨F,I⟩:=NO (T:=T);have U:=fun fr K a b=>(I fr K a b).1
 have V:=fun fr K a b=>(I fr K a b).2.1
 have X:=fun fr K a b=>(I fr K a b).2.2.1
 have Y:=fun fr K a b=>(I fr K a b).2.2.2
 unfold AF;generalize p16b0=b0 at *;simp only[N,D,hg,B,Q,U,V,X,Y,zkk,zkl,show IntKind.i64.wrap (0+1)=1 from rfl,XP,seval];exact⟨_,rfl⟩
def NP(fr:PF)(n v q len:Nat):Prop:=lookP fr 0=.msl 1 0 n 1/\lookP fr 1=.int .i64 (v:Int)/\lookP fr 2=.msl 2 0 n 1/\lookP fr 8=.int .i64 0/\lookP fr 33=.msl (q+3) 0 len 1/\lookP fr 34=.int .i64 (len:Int)/\lookP fr 35=.int .i64 0
theorem NQ(G:GrOk n g)(hC:∀v k,v<n->KInv n k->k.count 0<f->NM T A g n v k (lonD g f v k)){l:List Int}(D:g.getD v []=l)(I:v<n)(hg:(g.map rowG)[v]?=zsq (ownd 0 1 (ints l))){k:List Int}(J:KInv n k)(hc:k.count 0<f)(xs:List PO):
 ∃ F:PF->Nat->List Nat->PF×List PO×List Nat,∀fr ex tch,NP fr n v xs.length l.length->evP ⟨env,T,A1⟩ (.code (.loop p16b0) fr ⟨A::.row 0 (g.map rowG) 1::.row 0 (ints k) 1::(xs++[.sub 1 v 0]),ex,tch⟩)=zsq (.ok (match(lonL (lonD g f) l 0 k).1 with|some _=>.exit 0|none=>.ret) (F fr ex tch).1 ⟨A::.row 0 (g.map rowG) 1::.row 0 (ints (lonL (lonD g f) l 0 k).2) 1::((xs++[.sub 1 v 0])++(F fr ex tch).2.1),ex,(F fr ex tch).2.2⟩)/\
    match(lonL (lonD g f) l 0 k).1 with|some x=>lookP (F fr ex tch).1 1=.int .i64 (v:Int)/\lookP (F fr ex tch).1 2=.msl 2 0 n 1/\lookP (F fr ex tch).1 8=.int .i64 x|none=>lookP (F fr ex tch).1 6=.int .i64 0/\lookP (F fr ex tch).1 7=.bool zf:=by
 have B:∀x:PF×Nat×List Nat,∃y:PF×List PO×List Nat,NP x.1 n v xs.length l.length->evP ⟨env,T,A1⟩ (.code (.loop p16b0) x.1 ⟨A::.row 0 (g.map rowG) 1::.row 0 (ints k) 1::(xs++[.sub 1 v 0]),x.2.1,x.2.2⟩)=zsq (.ok (match(lonL (lonD g f) l 0 k).1 with|some _=>.exit 0|none=>.ret) y.1 ⟨A::.row 0 (g.map rowG) 1::.row 0 (ints (lonL (lonD g f) l 0 k).2) 1::((xs++[.sub 1 v 0])++y.2.1),x.2.1,y.2.2⟩)/\
       match(lonL (lonD g f) l 0 k).1 with|some x=>lookP y.1 1=.int .i64 (v:Int)/\lookP y.1 2=.msl 2 0 n 1/\lookP y.1 8=.int .i64 x|none=>lookP y.1 6=.int .i64 0/\lookP y.1 7=.bool zf:=fun x=>by
  by_cases h:NP x.1 n v xs.length l.length
  . obtain⟨h0,h1,h2,h8,h33,h34,h35⟩:=h
    obtain⟨fr',ys,N,O,Q⟩:=NN (T:=T) (A:=A) G hC D I hg l.length 0 0 k (xs++[.sub 1 v 0]) x.2.1 x.2.2 x.1 (by omega) ⟨h0,h1,h2,h8,h33,h34,h35⟩ (by rw[List.getElem?_append_right (zje _),Nat.sub_self];rfl) J hc;exact⟨(fr',ys,N),fun _=>⟨O,Q⟩⟩
  . exact⟨([],[],[]),fun a=>absurd a h⟩
 exact⟨fun fr ex t=>(B (fr,ex,t)).choose,fun fr ex t=>(B (fr,ex,t)).choose_spec⟩
theorem yG(hN:T 16=zn)(G:GrOk n g)(hC:∀v k,v<n->KInv n k->k.count 0<f->NM T A g n v k (lonD g f v k)){k:List Int}(B:v<n)(hk:KInv n k)(hc:k.count 0<f+1)(h0:k.getD v 0=0){y:Int}{r:List Int}(Y:g.getD v []=y::r):NM T A g n v k (lonD g (f+1) v k):=by
 intro xs ex tch;obtain⟨p1,p2,p3,p4⟩:=hk.open B h0;obtain⟨q1,q2⟩:=Lw (Cv G.tg f) (g.getD v []) 0 (k.set v (-1)) (G.tg v) p1 (by omega) ⟨zja _,by omega⟩;have hg:=fA G B;rw[Y,qE]at hg;obtain⟨F,D⟩:=NQ (T:=T) (A:=A) G hC Y B hg p1 (by omega) xs;rw[lonD,if_pos h0,Y];rw[Y]at q1 q2;have Q:=Lx (y::r);generalize y::r=l at *;rcases hx:lonL (lonD g f) l 0 (k.set v (-1))with⟨o,k'⟩
 rw[hx]at D q1 q2;have J:v<(ints k).length:=by rw[Lx,hk.len];exact B
 have N:=y6 (k:=k) (v:=v) (by rw[hk.len];exact B);rw[h0]at N;rw[Di hN rfl,A5 (c:=AF) (nt:=61) (rs:=[.tmp 6,.tmp 7]) rfl (by simp)];rw[<-H4]at D;generalize g.map rowG=Gr at *;have g1:=fun y:AV=>bA (v:=y) J
 unfold AF;generalize p16b0=b0 at *;generalize ints l=il at *;cases o with
 |none=>
  have U:=fun fr ex tch h=>(D fr ex tch h).1
  have V:=fun fr ex tch h=>(D fr ex tch h).2.1
  have X:=fun fr ex tch h=>(D fr ex tch h).2.2
  simp only[NP]at U V X;simp only[N,B,hg,J,g1,U,V,X,Q,zkk,zkl,XP,seval];rw[zqp];exact⟨_,_,rfl⟩
 |some most=>
  have U:=fun fr ex tch h=>(D fr ex tch h).1
  have V:=fun fr ex tch h=>(D fr ex tch h).2.1
  have X:=fun fr ex tch h=>(D fr ex tch h).2.2.1
  have f4:=fun fr ex tch h=>(D fr ex tch h).2.2.2
  simp only[NP]at U V X f4;obtain⟨q3,q4⟩:=q2 most rfl;have O:=q1.inv.len;simp only at O q4;have hsz:=G.sz
  have:=BN k'
  have hw:=Ea (n:=most+1) (by omega) (by omega);have I:v<(ints k').length:=by rw[Lx,O];exact B
  have g2:=fun y:AV=>bA (v:=y) I
  have aa:=y6 (k:=k') (v:=v) (by rw[O];exact B);rw[<-H4];simp only[N,B,hg,J,g1,g2,I,aa,U,V,X,f4,Q,hw,zkk,zkl,XP,seval];rw[zqp];exact⟨_,_,rfl⟩
theorem uR(hN:T 16=zn)(G:GrOk n g):∀(f v:Nat)(k:List Int),v<n->KInv n k->k.count 0<f->NM T A g n v k (lonD g f v k)
 |0,v,k,hv,hk,hc=>absurd hc (zjf _)
 |f + 1,v,k,hv,hk,hc=>by
  by_cases h0:k.getD v 0=0
  . cases D:g.getD v []with
    |nil=>
     intro xs ex tch;obtain⟨B,h⟩:=FO (A:=A) hN G hv hk h0 D xs ex tch;refine⟨[],B,?_⟩;rw[lonD,if_pos h0,D,zqf];exact h
    |cons y r=>exact yG hN G (uR hN G f) hv hk hc h0 D
  . intro xs ex tch
    obtain⟨B,h⟩:=yF (A:=A) hN G hv hk h0 xs ex tch;refine⟨[],B,?_⟩;rw[lonD,if_neg h0,zqf];exact h
end
def grM(m:Modl):List (List Int):=m.fs.map callsD
structure DpOk(m:Modl):Prop where
 n0:0<m.fs.length
 sz:m.fs.length<=10000
 ok:∀c∈m.fs,GOk c
 mn:0<=R4 m/\R4 m<m.fs.length
 tg:∀c∈m.fs,∀t∈callsD c,0<=t/\t<m.fs.length
theorem jU{c:Cod}(h:GOk c):(callsD c).length<=10000000:=by
 have:∀l:List Blk,(∀b∈l,b.code.length<=1000)->(l.flatMap fun b=>callsI b.code).length<=l.length*1000:=fun l=>by
  induction l with
  |nil=>exact fun _=>zje _
  |cons b l B=>
   intro h;have h1:=Al b.code;have h2:=h b (zqq ..);have h3:=B fun b hb=>h b (zqn _ hb)
   rw[zkj,zqr,zqi];omega
 have h1:=this c.blocks h.code;have h2:=h.blocks;unfold callsD;omega
theorem fB{m:Modl}(P:List Int->Prop)(h0:P [])(h:∀c∈m.fs,P (callsD c))(v:Nat):P ((grM m).getD v []):=by
 unfold grM;rw[zqa,zqx];cases B:m.fs[v]? with
 |none=>exact h0
 |some c=>exact h c (zkm B)
theorem DpOk.gr{m:Modl}(h:DpOk m):GrOk m.fs.length (grM m):=⟨by simp[grM],h.sz,fun v=>fB (fun l=>l.length<=10000000) (by simp) (fun c hc=>jU (h.ok c hc)) v,fun v=>fB (fun l=>∀t∈l,0<=t/\t<m.fs.length) (by simp) h.tg v⟩
theorem yH(m:Modl):graD m.fs=(grM m).map rowG:=by unfold graD grM;rw[List.map_map];rfl
theorem jV(n:Nat):KInv n (zqc n 0):=⟨by simp,fun v B=>by rw[(zkv.1 B).2];omega,fun v B=>by rw[(zkv.1 B).2];decide⟩
def yI(m:Modl):Int×Bool:=(lonD (grM m) (m.fs.length+1) (R4 m).toNat (zqc m.fs.length 0)).1
def s8(m:Modl):Int×Bool:=if(yI m).2=zt then yI m else(0,zf)
theorem yJ{n:Nat}{K:PK}(h:n*8<=140737488355328):Mc env Ca (.int .i64 (n:Int)) (.int .i64 (n:Int)) K=.val (.msl K.os.length 0 n 1) ⟨K.os++[.row 0 (ints (zqc n 0)) 1],K.ext,K.tch⟩:=by
 unfold Mc;rw[show elemOfT env (Ca).desc=zsq ty3 from rfl,as_nat];dsimp only;rw[if_pos ⟨zje _,h,by decide⟩];unfold ints;rw[List.map_replicate];rfl
theorem uS(t:TypeId)(l c:Operand)(fr:PF)(K:PK):prim env (.makeSlice t l c) fr K=j4 env t fun ti=>Mc env ti (opvP env l fr) (opvP env c fr) K:=rfl
theorem Ly(D:T 15=zsq Cu)(B:T 16=zn){m:Modl}(I:DpOk m):AM.Comes ⟨env,T,A1⟩ 6 [m.F] [.int .i64 (s8 m).1,.bool (s8 m).2]:=by
 have t:=fun K=>qD (K:=K) D ⟨⟨I.n0,I.sz⟩,I.ok⟩
 have hz:=fun K=>yJ (n:=m.fs.length) (K:=K) (by have:=I.sz;omega)
 obtain⟨V,a2⟩:=I.mn;obtain⟨J,O⟩:=zjd V;have Q:J<m.fs.length:=by omega
 obtain ⟨ys,t2,hl⟩:=uR (T:=T) (A:=.row 1 [.agg [fslN (m.gs.map Glo.F),fslN (m.fs.map Cod.F)]] 2) B I.gr (m.fs.length+1) J (zqc m.fs.length 0) Q (jV _) (by simp) [] 0 [];have e:s8 m=if(lonD (grM m) (m.fs.length+1) J (zqc m.fs.length 0)).1.2=zt then(lonD (grM m) (m.fs.length+1) J (zqc m.fs.length 0)).1 else(0,zf):=by
  unfold s8 yI;rw[O];rfl
 have U:idxOf (fun c:Cod=>decide (c.name=B6)) m.fs=(J:Int):=O;have N:((grM m).map rowG).length=m.fs.length:=by unfold grM;simp
 rw[e];unfold Modl.F at t;simp only[yH,U]at t;rcases X:lonD (grM m) (m.fs.length+1) J (zqc m.fs.length 0)with⟨⟨r,b⟩,k'⟩
 rw[X]at hl;generalize (grM m).map rowG=G at *;cases b with
 |true=>
  refine⟨[.int .i64 r,.bool zt],⟨[],0,[]⟩,?_,back_of rfl zqt rfl rfl rfl⟩;rw[A5 (c:=p6) (nt:=25) (rs:=[.tmp 2,.tmp 3]) rfl (by simp)];unfold p6;unfold K0 Modl.F;simp only[t,hl,hz,N,uS,XP,seval]
  done
 |false=>
  refine⟨[.int .i64 0,.bool zf],⟨[],0,[]⟩,?_,back_of rfl zqt rfl rfl rfl⟩;rw[A5 (c:=p6) (nt:=25) (rs:=[.tmp 2,.tmp 3]) rfl (by simp)];unfold p6;unfold K0 Modl.F;simp only[t,hl,hz,N,uS,XP,seval]
  done
def x8:=Bs (fun p:(Modl)=>[p.F]) (fun p=>[.int .i64 (s8 p).1,.bool (s8 p).2]) (fun p=>DpOk p)
theorem bB(B:T 6=zsq x8){m:Modl}{K:PK}(D:DpOk m):evP ⟨env,T,A1⟩ (.call 6 [m.F] K)=zsq (.val (openTs K.os.length [.int .i64 (s8 m).1,.bool (s8 m).2]).1 ⟨K.os++(openTs K.os.length [.int .i64 (s8 m).1,.bool (s8 m).2]).2,K.ext,K.tch⟩):=C9 B (by simp only[VV,XP,seval]) (D4 (a:=fun p:(Modl)=>[p.F]) (r:=fun p=>[.int .i64 (s8 p).1,.bool (s8 p).2]) (fun x y e=>by simp only[VJ]at e;simp only[e]) (m) D) (by simp only[VN,XP,seval])
theorem Tt(D:T 15=zsq Cu)(B:T 16=zn)(hP:PEok ⟨env,T,A1⟩):TC env 6 x8:=D6 hP fun p h=>Ly D B h
def Wk(g:List (List Int)):Nat->Nat->Prop
 |0,_=>True
 |n+1,v=>∃t∈g.getD v [],Wk g n t.toNat
inductive Rch(g:List (List Int))(u:Nat):Nat->Prop
 |one {t:Int}:t∈g.getD u []->Rch g u t.toNat
 |step {v:Nat} {t:Int}:Rch g u v->t∈g.getD v []->Rch g u t.toNat
section
variable {g:List (List Int)}
theorem bC:∀(n v:Nat),Wk g (n+1) v->Wk g n v
 |0,_,_=>trivial
 |n+1,v,h=>by obtain⟨t,B,h⟩:=h;exact⟨t,B,bC n _ h⟩
theorem mM{v:Nat}:∀(d n:Nat),Wk g (n+d) v->Wk g n v
 |0,_,h=>h
 |d+1,n,h=>mM d n (bC _ _ h)
theorem FP{u v:Nat}(h:Rch g u v):∀n,Wk g n v->Wk g (n+1) u:=by
 induction h with
 |one D=>exact fun n B=>⟨_,D,B⟩
 |step _ D I=>exact fun n B=>bC _ _ (I (n+1) ⟨_,D,B⟩)
theorem mN{v:Nat}(h:Rch g v v):∀n,Wk g n v
 |0=>trivial
 |n+1=>FP h n (mN h n)
def qF(g:List (List Int))(k:List Int):Prop:=∀v,0<k.getD v 0->Wk g ((k.getD v 0).toNat-1) v/\¬Wk g (k.getD v 0).toNat v
def Opn(k k':List Int):Prop:=∀u,k'.getD u 0=-1↔k.getD u 0=-1
structure LSem(g:List (List Int))(v:Nat)(k:List Int)(r:(Int×Bool)×List Int):Prop where
 yes:r.1.2=zt->qF g r.2/\Opn k r.2/\0<r.1.1/\Wk g (r.1.1.toNat-1) v/\¬Wk g r.1.1.toNat v
 no:r.1.2=zf->∀n,Wk g n v
theorem fC{n f:Nat}{rec:Nat->List Int->(Int×Bool)×List Int}(hi:∀v k,v<n->KInv n k->k.count 0<f->Lft n k (rec v k).2/\((rec v k).1.2=zt->0<(rec v k).1.1/\(rec v k).1.1<=dn (rec v k).2))
 (hr:∀t k,t<n->KInv n k->k.count 0<f->qF g k->(∀u,k.getD u 0=-1->Rch g u t)->LSem g t k (rec t k)):
 ∀ (l D:List Int) (most:Int) (k:List Int),(∀t∈l,0<=t/\t<n)->KInv n k->k.count 0<f->qF g k->(∀t∈l,∀u,k.getD u 0=-1->Rch g u t.toNat)->0<=most->(most=0\/∃t∈D,Wk g (most.toNat-1) t.toNat)->(∀t∈D,¬Wk g most.toNat t.toNat) ->
   (∀x,(lonL rec l most k).1=zsq x->qF g (lonL rec l most k).2/\Opn k (lonL rec l most k).2/\0<=x/\(x=0\/∃t∈D++l,Wk g (x.toNat-1) t.toNat)/\∀t∈D++l,¬Wk g x.toNat t.toNat)/\
   ((lonL rec l most k).1=zn->∃t∈l,∀n,Wk g n t.toNat)
 |[],D,most,k,hl,hk,hc,hG,hS,h0,hA,hB=>by
  unfold lonL;refine⟨fun x e=>?_,fun e=>by cases e⟩;cases e;rw[zqf];exact⟨hG,fun _=>Iff.rfl,h0,hA,hB⟩
 |t :: l,D,most,k,hl,hk,hc,hG,hS,h0,hA,hB=>by
  have B:t.toNat<n:=by have:=hl t (zqq ..);omega
  have s1:=hr t.toNat k B hk hc hG (hS t (zqq ..));obtain⟨p1,p2⟩:=hi t.toNat k B hk hc;unfold lonL;rcases hx:rec t.toNat k with⟨⟨a,b⟩,k'⟩
  rw[hx]at s1 p1 p2;cases b with
  |false=>exact⟨fun x e=>(by cases e),fun _=>⟨t,zqq ..,s1.no rfl⟩⟩
  |true=>
   obtain⟨V,Q,q3,X,Y⟩:=s1.yes rfl;simp only at V Q q3 X Y p1|-;have O:(max most a).toNat=max most.toNat a.toNat:=by omega
   have h1:=fC hi hr l (D++[t]) (max most a) k' (fun t J=>hl t (zqn _ J)) p1.inv (zjg (p1.cz hk.len) hc) V (fun t J u hu=>hS t (zqn _ J) u ((Q u).1 hu)) (by omega) (by
    right
    by_cases U:most<=a
    . rw[zjc U]
      exact⟨t,by simp,X⟩
    . rw[zjb (by omega)]
      rcases hA with e|⟨t',h1,h2⟩
      . omega
      . exact⟨t',zkw.2 (.inl h1),h2⟩) (by
    intro t' N I;rw[O]at I;rcases zkw.1 N with h|h
    . refine hB t' h (mM (max most.toNat a.toNat-most.toNat) _ ?_)
      rw[show most.toNat+(max most.toNat a.toNat-most.toNat)=max most.toNat a.toNat by omega];exact I
    . rw[List.mem_singleton.1 h]at I
      refine Y (mM (max most.toNat a.toNat-a.toNat) _ ?_);rw[show a.toNat+(max most.toNat a.toNat-a.toNat)=max most.toNat a.toNat by omega];exact I)
   simp only[zqp,zqh,zqe]at h1;refine⟨fun x e=>?_,fun e=>?_⟩
   . obtain⟨r1,r2,r3⟩:=h1.1 x e
     exact⟨r1,fun u=>(r2 u).trans (Q u),r3⟩
   . obtain⟨t',h2,h3⟩:=h1.2 e
     exact⟨t',zqn _ h2,h3⟩
theorem Gl{k:List Int}{v u:Nat}{x:Int}(h:v<k.length):(k.set v x).getD u 0=if v=u then x else k.getD u 0:=by
 rw[zqa,zqa,zkt];split
 . first|rfl|(rw[if_pos h];rfl)
 . rfl
theorem fD{n:Nat}(hg:∀v,∀t∈g.getD v [],0<=t/\t<n):∀(f v:Nat)(k:List Int),v<n->KInv n k->k.count 0<f->qF g k->(∀u,k.getD u 0=-1->Rch g u v)->LSem g v k (lonD g f v k)
 |0,v,k,hv,hk,hc,_,_=>absurd hc (zjf _)
 |f + 1,v,k,hv,hk,hc,hG,hS=>by
  have hl:=hk.len;have V:k.getD v 0∈k:=by rw[zqa,zqj (by omega)];exact zqd _
  rw[lonD];by_cases h0:k.getD v 0=0
  . rw [if_pos h0]
    obtain⟨p1,p2,p3,p4⟩:=hk.open hv h0;have N:v<k.length:=by omega
    have X:qF g (k.set v (-1)):=fun u B=>by
     rw[Gl N]at B|-;split at B
     . omega
     . rename_i e;rw[if_neg e];exact hG u B
    have Y:∀t∈g.getD v [],∀u,(k.set v (-1)).getD u 0=-1->Rch g u t.toNat:=fun t D u B=>by
     rw[Gl N]at B;split at B
     . rename_i e;subst e;exact .one D
     . exact .step (hS u B) D
    have h1:=fC (g:=g) (Cv hg f) (fD hg f) (g.getD v []) [] 0 (k.set v (-1)) (hg v) p1 (by omega) X Y (zja _) (.inl rfl) (fun t D=>by cases D);have h2:=Lw (Cv hg f) (g.getD v []) 0 (k.set v (-1)) (hg v) p1 (by omega) ⟨zja _,by omega⟩;rcases hx:lonL (lonD g f) (g.getD v []) 0 (k.set v (-1))with⟨o,k'⟩
    rw[hx]at h1 h2;cases o with
    |none=>
     refine⟨fun e=>(by cases e),fun _ m=>?_⟩;obtain⟨t,D,O⟩:=h1.2 rfl;cases m with
     |zero=>trivial
     |succ m=>exact⟨t,D,O m⟩
    |some most=>
     obtain⟨r1,r2,r3,r4,r5⟩:=h1.1 most rfl;simp only[zqe]at r1 r2 r4 r5;have hl':=h2.1.inv.len;simp only at hl';have I:v<k'.length:=by omega
     have Q:(most+1).toNat=most.toNat+1:=by omega
     have J:Wk g ((most+1).toNat-1) v:=by
      rw[Q,zjh];rcases r4 with e|⟨t,D,O⟩
      . subst e;trivial
      . cases hm:most.toNat with
        |zero=>trivial
        |succ q=>rw[hm]at O;exact⟨t,D,O⟩
     have U:¬Wk g (most+1).toNat v:=by
      rw[Q]
      rintro⟨t,D,O⟩
      exact r5 t D O
     refine⟨fun _=>⟨fun u B=>?_,fun u=>?_,by show 0<most+1;omega,J,U⟩,fun e=>(by cases e)⟩
     . rw[Gl I]at B|-
       split
       . rename_i e;subst e;exact⟨J,U⟩
       . rename_i e;rw[if_neg e]at B;exact r1 u B
     . show (k'.set v (most+1)).getD u 0=-1↔_
       rw[Gl I];split
       . rename_i e;subst e;rw[h0];omega
       . rename_i e
         rw[r2 u,Gl N,if_neg e]
  . rw [if_neg h0]
    have h1:=hk.lo _ V;refine⟨fun e=>?_,fun e=>?_⟩
    . have e:¬k.getD v 0=-1:=by simpa using e
      have hp:0<k.getD v 0:=by omega
      exact⟨hG,fun _=>Iff.rfl,hp,hG v hp⟩
    . have e:k.getD v 0=-1:=by simpa using e
      exact mN (hS v e)
end
section
variable {m:Modl}
theorem jW(x:Ins)(r:List Int)(s:Mst):(doesI m x r s).2.1.calls=s.calls:=by
 unfold doesI
 repeat' split
 all_goals rfl
theorem bin_trap(t:Int)(op:List UInt8)(a b:Int):(Ak t op a b).2≠4:=by
 unfold Ak K9 j1
 repeat' split
 all_goals simp
theorem qG(x:Ins)(r:List Int)(s:Mst):(doesI m x r s).1≠4:=by
 unfold doesI
 repeat' split
 all_goals first|exact bin_trap _ _ _ _|(show(0:Int)≠4;decide)|(show(3:Int)≠4;decide)
def FQ(m:Modl)(C:Int->List Int->Mst->Rs)(K:Int)(D:Int->Prop):Prop:=∀(f:Int)(a:List Int)(s:Mst),s.calls=K->(∀v s2,C f a s=.ret v s2->s2.calls=K)/\(∀s2,C f a s=.stop 2 4 s2->D f)
theorem bD{C:Int->List Int->Mst->Rs}{K:Int}{D:Int->Prop}(hC:FQ m C K D):∀(l:List Ins)(r:List Int)(s:Mst),s.calls=K->(∀r2 s2,insF m C l r s=.go r2 s2->s2.calls=K)/\(∀s2,insF m C l r s=.stop 2 4 s2->∃x∈l,x.op=9/\D x.n)
 |[],r,s,hs=>⟨fun r2 s2 e=>(by unfold insF at e;cases e;exact hs),fun s2 e=>(by unfold insF at e;cases e)⟩
 |x :: l,r,s,hs=>by
  have I:(stp s).calls=K:=hs;unfold insF;split
  . exact⟨fun r2 s2 e=>(by cases e),fun s2 e=>(by cases e)⟩
  . split
    . rename_i Q
      obtain⟨c1,c2⟩:=hC x.n (argsI x r) (stp s) I;cases O:C x.n (argsI x r) (stp s)with
      |ret v s2=>
       obtain⟨i1,J⟩:=bD hC l (if 0<=x.dst then put' r x.dst v else r) s2 (c1 v s2 O);exact⟨i1,fun B e=>by obtain⟨y,N,h⟩:=J B e;exact⟨y,zqn _ N,h⟩⟩
      |stop st c s2=>
       refine⟨fun r2 B e=>(by cases e),fun B e=>?_⟩;simp only[I2.stop.injEq]at e;obtain⟨rfl,rfl,rfl⟩:=e;exact⟨x,zqq ..,Q,c2 _ O⟩
    . split
      . obtain⟨i1,J⟩:=bD hC l (doesI m x r (stp s)).2.2 (doesI m x r (stp s)).2.1 (by rw[jW];exact I)
        exact⟨i1,fun B e=>by obtain⟨y,N,h⟩:=J B e;exact⟨y,zqn _ N,h⟩⟩
      . refine⟨fun r2 B e=>(by cases e),fun B e=>?_⟩
        simp only[I2.stop.injEq]at e;exact absurd e.2.1 (qG x r (stp s))
theorem fE{C:Int->List Int->Mst->Rs}{K:Int}{D:Int->Prop}(hC:FQ m C K D){c:Cod}:∀(n:Nat)(i:Int)(r:List Int)(s:Mst),s.calls=K->(∀v s2,U1 m C c n i r s=.ret v s2->s2.calls=K-1)/\(∀s2,U1 m C c n i r s=.stop 2 4 s2->∃t∈callsD c,D t)
 |0,i,r,s,hs=>⟨fun v s2 e=>(by unfold U1 at e;cases e),fun s2 e=>(by unfold U1 at e;cases e)⟩
 |n + 1,i,r,s,hs=>by
  obtain⟨i1,N⟩:=bD hC (blkAt c i).code r s hs;unfold U1;cases B:insF m C (blkAt c i).code r s with
  |stop st e s2=>
   refine⟨fun v I e=>(by cases e),fun I e=>?_⟩;simp only[Rs.stop.injEq]at e;obtain⟨rfl,rfl,rfl⟩:=e;obtain⟨x,B,O,hD⟩:=N _ B;refine⟨x.n,?_,hD⟩;unfold blkAt at B;rw[zqa]at B;cases hb:c.blocks[i.toNat]? with
   |none=>rw[hb]at B;cases B
   |some b=>
    rw[hb]at B;exact zkx.2 ⟨b,zkm hb,List.mem_map.2 ⟨x,zky.2 ⟨B,by simp[O]⟩,rfl⟩⟩
  |go r2 s2=>
   have J:=i1 r2 s2 B;dsimp only;split
   . exact⟨fun v I e=>(by cases e),fun I e=>(by cases e)⟩
   . split
     . refine⟨fun v I e=>?_,fun I e=>(by cases e)⟩
       cases e;show s2.calls-1=K-1
       rw[J]
     . exact fE hC n _ r2 (stp s2) J
theorem fF:∀(d:Nat),d<=33->FQ m (V1 m d) (33-d) (fun f=>Wk (grM m) (d-1) f.toNat)
 |0,hd=>fun f a s I=>⟨fun v s2 e=>(by unfold V1 at e;cases e),fun s2 e=>trivial⟩
 |d + 1,hd=>fun f a s I=>by
  have J:=fF d (by omega);rw[show((33:Int)-((d:Nat):Int))=(33-((d+1:Nat):Int))+1 by omega]at J;have hl:=fE J (c:=To m f) (s.steps.toNat+1) 0 (initR (To m f).regs.length a) {s with calls:=s.calls+1} (by show s.calls+1=_;rw[I]);unfold V1;by_cases D:32<=s.calls
  . rw[if_pos D]
    refine⟨fun v s2 e=>(by cases e),fun s2 e=>?_⟩
    have:d=0:=by omega
    subst this
    trivial
  . rw [if_neg D]
    refine⟨fun v s2 e=>?_,fun s2 e=>?_⟩
    . have:=hl.1 v s2 e
      omega
    . obtain ⟨t,B,N⟩:=hl.2 s2 e
      show Wk (grM m) (d+1-1) f.toNat
      rw[zjh];cases d with
      |zero=>trivial
      |succ q=>
       refine⟨t,?_,N⟩;unfold To at B;rw[zqa]at B;unfold grM;rw[zqa,zqx];cases hc:m.fs[f.toNat]? with
       |none=>rw[hc]at B;cases B
       |some c=>rw[hc]at B;exact B
theorem run_deep{inp:List Int}{st:Int}{s2:Mst}(h:Cm m inp st=.stop 2 4 s2):Wk (grM m) 32 (Cl m).toNat:=(fF (m:=m) 33 (zje _) (Cl m) [] (sI st inp m.gs) rfl).2 s2 h
end
theorem Tu{l:List Int}(h:G1 l=0):∀e∈l,e=0:=by
 induction l with
 |nil=>intro e B;cases B
 |cons a l D=>
  unfold G1 at h;intro e B;by_cases q:a=0
  . rw[if_pos q]at h
    rcases zqm.1 B with rfl|B
    . exact q
    . exact D h e B
  . rw[if_neg q]at h;exact absurd h q
theorem uT{a n:Int}:thereD a n=zt↔0<=a/\a<n:=by unfold thereD;simp
theorem uU{m:Modl}(h:R0 m=0):∀c∈m.fs,V0 m c=0:=by
 unfold R0 at h;by_cases q:G1 (m.gs.map Td)=0
 . rw[if_pos q]at h
   by_cases B:G1 (m.fs.map (V0 m))=0
   . exact fun c hc=>Tu B _ (zqs hc)
   . rw[if_neg B]at h;exact absurd h B
 . rw[if_neg q]at h;exact absurd h q
theorem mO{m:Modl}{c:Cod}(h:V0 m c=0):(1<=c.blocks.length/\c.blocks.length<=400/\c.regs.length<=4096)/\∀b∈c.blocks,Nm m c b=0:=by
 unfold V0 at h;split at h
 . cases h
 . rename_i h1
   split at h
   . cases h
   . split at h
     . cases h
     . exact⟨by omega,fun b hb=>Tu h _ (zqs hb)⟩
theorem FR{m:Modl}{c:Cod}{b:Blk}(h:Nm m c b=0):(∀x∈b.code,L3 m c x=0)/\Pq c b.e=0:=by
 unfold Nm at h;split at h
 . rename_i q;exact⟨fun x B=>Tu q _ (zqs B),h⟩
 . rename_i q;exact absurd h q
theorem bE{a:Int}{n:Nat}(h0:0<=a)(h:a+n<9223372036854775808):Q4 a n=a+n:=by
 unfold Q4;rw[IntKind.wrap_i64];omega
def Em(l:List Blk):Nat:=(l.map fun b=>b.code.length).sum
theorem mP{M:Nat}:∀l:List Blk,(∀b∈l,b.code.length<=M)->Em l<=l.length*M
 |[],_=>by simp[Em]
 |b::l,h=>by
  have h1:=h b (zqq ..);have h2:=mP l fun b hb=>h b (zqn _ hb)
  show b.code.length+Em l<=(l.length+1)*M
  rw[Nat.add_mul];omega
theorem fG:∀{l:List Blk}{b:Blk},b∈l->b.code.length<=Em l
 |a::l,b,h=>by
  show b.code.length<=a.code.length+Em l
  rcases zqm.1 h with rfl|h
  . omega
  . have:=fG h;omega
theorem BO:∀(l:List Blk)(a:Int),0<=a->a+Em l<9223372036854775808->l.foldl (fun a b=>Q4 a b.code.length) a=a+Em l
 |[],a,_,_=>by simp[Em]
 |b::l,a,h0,h=>by
  have h:a+((b.code.length+Em l:Nat):Int)<9223372036854775808:=h;show l.foldl (fun a b=>Q4 a b.code.length) (Q4 a b.code.length)=a+((b.code.length+Em l:Nat):Int)
  rw[bE h0 (by omega),BO l _ (by omega) (by omega)];omega
def Lz(c:Cod):Nat:=c.regs.length+c.blocks.length+Em c.blocks
theorem NR{a:Int}{c:Cod}(h0:0<=a)(h:a+Lz c<9223372036854775808):tS a c=a+Lz c:=by
 unfold Lz at h|-;unfold tS;rw[bE h0 (by omega),bE (by omega) (by omega),BO _ _ (by omega) (by omega)];omega
def Wb(l:List Cod):Nat:=(l.map Lz).sum
theorem BP:∀(l:List Cod)(a:Int),0<=a->a+Wb l<9223372036854775808->l.foldl tS a=a+Wb l
 |[],a,_,_=>by simp[Wb]
 |c::l,a,h0,h=>by
  have h:a+((Lz c+Wb l:Nat):Int)<9223372036854775808:=h;show l.foldl tS (tS a c)=a+((Lz c+Wb l:Nat):Int)
  rw[NR h0 (by omega),BP l _ (by omega) (by omega)];omega
theorem mQ{M:Nat}:∀l:List Cod,(∀c∈l,Lz c<=M)->Wb l<=l.length*M
 |[],_=>by simp[Wb]
 |b::l,h=>by
  have h1:=h b (zqq ..);have h2:=mQ l fun b hb=>h b (zqn _ hb)
  show Lz b+Wb l<=(l.length+1)*M
  rw[Nat.add_mul];omega
theorem fH:∀{l:List Cod}{b:Cod},b∈l->Lz b<=Wb l
 |a::l,b,h=>by
  show Lz b<=Lz a+Wb l
  rcases zqm.1 h with rfl|h
  . omega
  . have:=fH h;omega
theorem fI{m:Modl}(h:l9 m=zf):¬1000<m.fs.foldl tS 0/\m.fs.length<=12/\R0 m=0:=by
 unfold l9 at h;split at h
 . cases h
 . rename_i h1
   split at h
   . cases h
   . rename_i h2
     split at h
     . cases h
     . exact⟨h1,by omega,by simpa using h⟩
theorem yK{m:Modl}{c:Cod}{x:Ins}(h:L3 m c x=0)(I:x.op=9):0<=x.n/\x.n<m.fs.length:=by
 unfold L3 at h;split at h
 . split at h
   . rename_i _ D
     unfold E3 at D;obtain⟨_,h2⟩:=zkz.1 D;obtain⟨_,J⟩:=zkz.1 h2;obtain⟨_,B⟩:=zkz.1 J;unfold jK at B;simp only[I,Int.reduceEq,↓reduceIte]at B;exact uT.1 (zkz.1 B).1
   . cases h
 . cases h
theorem yL{m:Modl}(h:R0 m=0):0<=R4 m/\R4 m<m.fs.length:=by
 have hE:Xi m=0:=by
  unfold R0 at h;by_cases q:G1 (m.gs.map Td)=0
  . rw[if_pos q]at h
    by_cases B:G1 (m.fs.map (V0 m))=0
    . rw[if_pos B]at h;exact h
    . rw[if_neg B]at h;exact absurd h B
  . rw[if_neg q]at h;exact absurd h q
 unfold Xi at hE;by_cases hn:R4 m<0
 . rw[if_pos hn]at hE;cases hE
 . obtain⟨k,h1,hk,_⟩:=eI (p:=fun c:Cod=>decide (c.name=B6)) (l:=m.fs) hn
   have h1:R4 m=(k:Int):=h1;omega
theorem yM{m:Modl}(Q:m.ok)(h:l9 m=zf):DpOk m:=by
 obtain ⟨h1,h2,U⟩:=fI h;have B:=uU U;have I:∀c∈m.fs,Lz c<=640000000000000:=fun c hc=>by
  obtain⟨⟨q1,X,q3⟩,q4⟩:=mO (B c hc);have V:=(Q.1 c hc).1
  have:Em c.blocks<=c.blocks.length*1599289640416:=mP c.blocks fun b hb=>by
   have:=(V.2.1 b hb).2
   simp only[bigN]at this;omega
  unfold Lz;have h5:c.blocks.length*1599289640416<=400*1599289640416:=zji _ X;omega
 have hmo:=mQ m.fs I;have hmo2:m.fs.length*640000000000000<=12*640000000000000:=zji _ h2;rw[BP m.fs 0 (by omega) (by omega)]at h1;have J:=yL U;refine⟨by omega,by omega,fun c hc=>?_,J,fun c hc t D=>?_⟩
 . have N:=fH hc
   unfold Lz at N;refine⟨(Q.1 c hc).1,fun b hb=>?_,by omega⟩
   have:=fG hb
   omega
 . obtain⟨b,hb,D⟩:=zkx.1 D
   obtain⟨x,O,rfl⟩:=List.mem_map.1 D;obtain⟨O,Y⟩:=zky.1 O;exact yK ((FR ((mO (B c hc)).2 b hb)).1 x O) (of_decide_eq_true Y)
section
variable {m:Modl}
theorem bF(h:DpOk m):((s8 m).2=zt->1<=(s8 m).1/\(s8 m).1<=m.fs.length/\¬Wk (grM m) (s8 m).1.toNat (R4 m).toNat)/\((s8 m).2=zf->(s8 m).1=0):=by
 have B:(R4 m).toNat<m.fs.length:=by have:=h.mn;omega
 have h0:∀u,(zqc m.fs.length (0:Int)).getD u 0=0:=fun u=>by
  rw[zqa,List.getElem?_replicate];split<;>rfl
 have s:=fD (g:=grM m) h.gr.tg (m.fs.length+1) (R4 m).toNat (zqc m.fs.length 0) B (jV _) (by simp) (fun v I=>by rw[h0]at I;omega) (fun u J=>by rw[h0]at J;omega);have i:=Cv h.gr.tg (m.fs.length+1) (R4 m).toNat (zqc m.fs.length 0) B (jV _) (by simp);unfold s8 yI;rcases U:lonD (grM m) (m.fs.length+1) (R4 m).toNat (zqc m.fs.length 0)with⟨⟨n,b⟩,k'⟩
 rw[U]at s i;cases b with
 |false=>
  rw[if_neg (by simp)];exact⟨fun e=>(by cases e),fun _=>rfl⟩
 |true=>
  obtain⟨_,_,O,Q,D⟩:=s.yes rfl;have N:=(i.2 rfl).2;simp only at O Q D N;have hd:=BN k';have hl:=i.1.inv.len;simp only at hl;rw[if_pos rfl];exact⟨fun _=>⟨by show 1<=n;omega,by show n<=_;omega,D⟩,fun e=>(by cases e)⟩
theorem uV(h:DpOk m){inp:List Int}{st:Int}(e:(Cm m inp st).sc=(2,4))(hb:(s8 m).2=zt):32<(s8 m).1:=by
 obtain⟨a,b,c⟩:=(bF h).1 hb;refine Classical.byContradiction fun hn=>c ?_
 have D:Wk (grM m) 32 (Cl m).toNat:=by
  cases B:Cm m inp st with
  |ret v s=>rw[B]at e;cases e
  |stop s1 c1 s2=>rw[B]at e;cases e;exact run_deep B
 refine mM (32-(s8 m).1.toNat) _ ?_;rw[show(s8 m).1.toNat+(32-(s8 m).1.toNat)=32 by omega];exact D
end
def S0(k:Nat):Option (List AV->Option (List AV)):=zn
def S1:=wS S0 40 (HS ⟨env,S0,A1⟩ 300 40)
def S2:=wS S1 42 (HS ⟨env,S1,A1⟩ 300 42)
def S3:=wS S2 41 (HS ⟨env,S2,A1⟩ 300 41)
def S4:=wS S3 25 (HS ⟨env,S3,A1⟩ 300 25)
def S5:=wS S4 12 (gG ⟨env,S4,A1⟩ 300 12)
def S6:=wS S5 15 (gG ⟨env,S5,A1⟩ 500 15)
def S7:=wS S6 6 (gG ⟨env,S6,A1⟩ 500 6)
def S8:=wS S7 26 (gG ⟨env,S7,A1⟩ 500 26)
def S9:=wS S8 14 (gG ⟨env,S8,A1⟩ 1000 14)
def S10:=wS S9 13 (gG ⟨env,S9,A1⟩ 1000 13)
theorem fJ:AM.Comes ⟨env,S10,A1⟩ 5 [] [.bool zt]:=kX (n:=3000) (by kernel_rfl)
def x9:=Bs (fun p:Unit=>[]) (fun p=>[.bool zt]) (fun p=>True)
theorem bG(B:T 5=zsq x9){K:PK}:evP ⟨env,T,A1⟩ (.call 5 [] K)=zsq (.val (openTs K.os.length [.bool zt]).1 ⟨K.os++(openTs K.os.length [.bool zt]).2,K.ext,K.tch⟩):=C9 B rfl (D4 (a:=fun p:Unit=>[]) (r:=fun p=>[.bool zt]) (fun x y e=>rfl) () trivial) rfl
section
variable (hP:PEok ⟨env,S0,A1⟩)
include hP
theorem BQ:PEok ⟨env,S1,A1⟩:=Bt hP (cC hP _ _)
theorem BR:PEok ⟨env,S2,A1⟩:=Bt (BQ hP) (cC (BQ hP) _ _)
theorem BS:PEok ⟨env,S3,A1⟩:=Bt (BR hP) (cC (BR hP) _ _)
theorem BT:PEok ⟨env,S4,A1⟩:=Bt (BS hP) (cC (BS hP) _ _)
theorem BU:PEok ⟨env,S5,A1⟩:=Bt (BT hP) (Ym (BT hP) _ _)
theorem BV:PEok ⟨env,S6,A1⟩:=Bt (BU hP) (Ym (BU hP) _ _)
theorem BW:PEok ⟨env,S7,A1⟩:=Bt (BV hP) (Ym (BV hP) _ _)
theorem BX:PEok ⟨env,S8,A1⟩:=Bt (BW hP) (Ym (BW hP) _ _)
theorem BY:PEok ⟨env,S9,A1⟩:=Bt (BX hP) (Ym (BX hP) _ _)
theorem FS:PEok ⟨env,S10,A1⟩:=Bt (BY hP) (Ym (BY hP) _ _)
theorem Tv:TC env 5 x9:=D6 (FS hP) fun p h=>fJ
end
theorem Eu(I:T 4=zsq Ed)(B:T 5=zsq x9)(D:T 6=zsq x8)(O:T 7=zsq Qm)(aa:T 8=zsq mL){m:Modl}{inp:List Int}{st:Int}(hk:m.ok):AM.Comes ⟨env,T,A1⟩ 3 [m.F,fslN (ints inp),.int .i64 st] [.bool zt]:=by
 refine⟨[.bool zt],⟨[],0,[]⟩,?_,back_of rfl zqt rfl rfl rfl⟩;have J:=fun K=>jS (K:=K) I hk
 have Y:=fun K=>bG (K:=K) B
 have hl:(ints inp).length=inp.length:=by simp[ints]
 cases hb:l9 m with
 |true=>
  rw[hb]at J;rw[A5 (c:=p3) (nt:=72) (rs:=[.tmp 6]) rfl (by simp)];unfold p3;unfold K0 Zr Zq;simp only[Modl.F]at J|-;simp only[J,Y,XP,seval]
 |false=>
  rw[hb]at J;by_cases h2:1000<inp.length
  . have h2:decide ((inp.length:Int)>1000)=zt:=decide_eq_true (by omega)
    rw[A5 (c:=p3) (nt:=72) (rs:=[.tmp 6]) rfl (by simp)];unfold p3;unfold K0 Zr Zq;simp only[Modl.F]at J|-;simp only[J,Y,hl,h2,XP,seval]
  . have h2:decide ((inp.length:Int)>1000)=zf:=decide_eq_false (by omega)
    have hd:=yM hk hb;obtain⟨b1,b2,b3⟩:=b15 hb;have hs:pickD st 4000<=20000:=by
     unfold pickD
     have:=Int.tmod_lt_of_pos st (show(0:Int)<4000 by decide)
     repeat' split
     all_goals omega
    have V:=fun K=>bB (K:=K) D hd
    have t2:=fun K=>MW (K:=K) aa (v:=st) (n:=4000) (by decide)
    have Q:=fun K=>yD (K:=K) (input:=inp) O (EY (steps:=pickD st 4000) hk b1 b2 hs)
    have q1:=(bF hd).1;have q2:=(bF hd).2;have q3:=uV (inp:=inp) (st:=pickD st 4000) hd;rcases hx:(Cm m inp (pickD st 4000)).sc with⟨x,y⟩
    rcases hy:s8 m with⟨n,ok⟩
    rw[hx]at Q q3;rw[hy]at V q1 q2 q3;generalize runO m inp (pickD st 4000)=oo at Q;generalize pickD st 4000=s1 at t2 Q;simp only[Modl.F]at J V Q|-;have N:(m.fs.map Cod.F).length=m.fs.length:=by simp
    simp only at q1 q2 q3 V Q;by_cases U:x=2
    . by_cases X:y=4
      . subst U X
        cases ok with
        |true=>
         obtain⟨a1,a2,_⟩:=q1 rfl;have a3:=q3 rfl rfl;have d1:decide (n>32)=zt:=decide_eq_true (by omega);have d2:decide (n>=1)=zt:=decide_eq_true (by omega);have d3:decide (n<=(m.fs.length:Int))=zt:=decide_eq_true (by omega);rw[A5 (c:=p3) (nt:=72) (rs:=[.tmp 6]) rfl (by simp)];unfold p3;unfold K0 Zr Zq;simp only[J,Y,hl,h2,V,t2,Q,d1,d2,d3,N,XP,seval]
         done
        |false=>
         obtain rfl:=q2 rfl;rw[A5 (c:=p3) (nt:=72) (rs:=[.tmp 6]) rfl (by simp)];unfold p3;unfold K0 Zr Zq;simp only[J,Y,hl,h2,V,t2,Q,N,XP,seval]
         done
      . have e2:decide (y=4)=zf:=decide_eq_false X
        subst U;cases ok with
        |true=>
         obtain⟨a1,a2,_⟩:=q1 rfl;have d2:decide (n>=1)=zt:=decide_eq_true (by omega);have d3:decide (n<=(m.fs.length:Int))=zt:=decide_eq_true (by omega);rw[A5 (c:=p3) (nt:=72) (rs:=[.tmp 6]) rfl (by simp)];unfold p3;unfold K0 Zr Zq;simp only[J,Y,hl,h2,V,t2,Q,e2,d2,d3,N,X,XP,seval]
         done
        |false=>
         obtain rfl:=q2 rfl;rw[A5 (c:=p3) (nt:=72) (rs:=[.tmp 6]) rfl (by simp)];unfold p3;unfold K0 Zr Zq;simp only[J,Y,hl,h2,V,t2,Q,e2,N,X,XP,seval]
         done
    . have e2:decide (x=2)=zf:=decide_eq_false U
      cases ok with
      |true=>
       obtain⟨a1,a2,_⟩:=q1 rfl;have d2:decide (n>=1)=zt:=decide_eq_true (by omega);have d3:decide (n<=(m.fs.length:Int))=zt:=decide_eq_true (by omega);rw[A5 (c:=p3) (nt:=72) (rs:=[.tmp 6]) rfl (by simp)];unfold p3;unfold K0 Zr Zq;simp only[J,Y,hl,h2,V,t2,Q,e2,d2,d3,N,U,XP,seval]
       done
      |false=>
       obtain rfl:=q2 rfl;rw[A5 (c:=p3) (nt:=72) (rs:=[.tmp 6]) rfl (by simp)];unfold p3;unfold K0 Zr Zq;simp only[J,Y,hl,h2,V,t2,Q,e2,N,U,XP,seval]
       done
open Go.ChangeShapes Go.WideShapes Go.ChangeAt
section
variable {H:Type}{enc:TypeId×Value->H}{P:Program}{W:World}{base:Nat}{spare:Nat->Bool}{held:Bool}
theorem O0{E:Env}(hE:EnvOk E P){t:Nat}{x:TI}(B:E.ti t=zsq x):P.cellsOf t=x.size:=by
 obtain⟨i,z,h1,h2,_⟩:=(hE.ti t x B).info;unfold Program.cellsOf;rw[h1];exact h2
theorem Gm{E:Env}(hE:EnvOk E P){t:Nat}{x:TI}(B:E.ti t=zsq x):P.bytesOf t=x.bytes:=by
 obtain⟨i,z,h1,_,h2,_⟩:=(hE.ti t x B).info;unfold Program.bytesOf;rw[h1];exact h2
variable (hE:EnvOk env P)
include hE
theorem uW:P.underlying 3=zsq (.int .i64):=(hE.ti 3 ty3 rfl).desc
theorem BZ:P.underlying 9=zsq .string:=(hE.ti 9 JT rfl).desc
theorem FT:P.underlying 26=zsq (.slice 3):=(hE.ti 26 Ca rfl).desc
theorem uX:P.underlying 39=zsq (.slice 65):=(hE.ti 39 pH rfl).desc
theorem uY:P.underlying 36=zsq (.slice 43):=(hE.ti 36 pG rfl).desc
theorem yN:P.underlying 23=zsq (.slice 38):=(hE.ti 23 pF rfl).desc
theorem yO:P.underlying 22=zsq (.slice 59):=(hE.ti 22 pE rfl).desc
theorem Gp:P.cellsOf 3=1:=O0 hE ti3
theorem Tw:P.cellsOf 9=1:=O0 hE ti9
theorem Tx:P.cellsOf 26=1:=O0 hE YY
theorem Ty:P.cellsOf 39=1:=O0 hE ZA
theorem fK:P.cellsOf 36=1:=O0 hE YZ
theorem mR:P.cellsOf 23=1:=O0 hE YW
theorem bH:P.cellsOf 22=1:=O0 hE YV
theorem mS:P.cellsOf 65=8:=O0 hE DY
theorem CA:P.cellsOf 41=4:=O0 hE ZB
theorem mT:P.cellsOf 43=5:=O0 hE DU
theorem uZ:P.cellsOf 38=5:=O0 hE DT
theorem vA:P.cellsOf 59=4:=O0 hE DV
theorem NS:P.cellsOf 25=2:=O0 hE YX
theorem Ee{m n:Nat}{cs:List Value}{d:DataW H}{ps:List MemPlace}(h:DataW.trod enc P W base spare held n 3 cs=zsq (d,ps))(hw:Wt P 3 d):∃s,V2 P (m+1) 3 d=zsq s/\s.length=P.cellsOf 3/\∃z,s=[.int .i64 z]:=by
 obtain⟨z,rfl,e,_⟩:=DataW.trod_int (uW hE) h;cases e;refine⟨[.int .i64 z],?_,by rw[Gp hE];rfl,z,rfl⟩;unfold V2;rw[uW hE]
theorem bI{m n:Nat}{cs:List Value}{d:DataW H}{ps:List MemPlace}(h:DataW.trod enc P W base spare held n 9 cs=zsq (d,ps))(B:Wt P 9 d):∃s,V2 P (m+1) 9 d=zsq s/\s.length=P.cellsOf 9/\∃b,s=[.str b]/\b.length<=140737488355328:=by
 obtain⟨b,rfl,e,_⟩:=DataW.trod_string (BZ hE) h;cases e;refine⟨[.str b.data.toList],?_,by rw[Tw hE];rfl,_,rfl,?_⟩
 . unfold V2
   rw[BZ hE]
 . have:=B b.data.toList.length (by unfold DataW.weights;simp)
   exact Nat.le_trans this (by decide)
omit hE in
def jX(B:List AV)(z:Int):Prop:=B=[.int .i64 z]
theorem Tz{m n:Nat}{cs:List Value}{d:DataW H}{ps:List MemPlace}(h:DataW.trod enc P W base spare held n 26 cs=zsq (d,ps))(B:Wt P 26 d):∃s,V2 P (m+2) 26 d=zsq s/\s.length=P.cellsOf 26/\∃v l,s=[v]/\Wf P 3 jX v l:=by
 obtain ⟨v,l,h1,h2⟩:=Ar (Q:=jX) (m:=m+1) (FT hE) (by rw[Gp hE];decide) (fun n cs d ps h B=>by
  obtain⟨s,h1,h2,z,rfl⟩:=Ee hE (m:=m) h B;exact⟨_,z,h1,⟨h2,.inr rfl⟩,rfl⟩) h B
 exact⟨[v],h1,by rw[Tx hE];rfl,v,l,rfl,h2⟩
omit hE in
def Jo(P:Program)(B:List AV)(I:Ins):Prop:=∃D,B=[.int .i64 I.op,.int .i64 I.ty,.int .i64 I.dst,.int .i64 I.a,.int .i64 I.b,.int .i64 I.n,.str I.s,D]/\Wf P 3 jX D I.args/\I.s.length<=140737488355328
omit hE in
theorem A0I{B:List (List AV)}(h:B.length=8):∃a b c d e f g i,B=[a,b,c,d,e,f,g,i]:=by
 match B,h with
 |[a,b,c,d,e,f,g,i],_=>exact⟨a,b,c,d,e,f,g,i,rfl⟩
theorem qH{m n:Nat}{cs:List Value}{d:DataW H}{ps:List MemPlace}(h:DataW.trod enc P W base spare held n 65 cs=zsq (d,ps))(J:Wt P 65 d):∃B I,V2 P (m+3) 65 d=zsq B/\(B.length=P.cellsOf 65/\(Au P 65=zt\/B.length=1))/\Jo P B I:=by
 obtain ⟨fs,X,U,_⟩:=(hE.ti 65 Hv rfl).desc;have U:fs.toList.map (fun f=>(f.type,f.offset))=[(3,0),(3,1),(3,2),(3,3),(3,4),(3,5),(9,6),(26,7)]:=U;obtain⟨ss,h1,h2,Y,D⟩:=m5 (m:=m+2) (Qs:=fun i s=>(i<6->∃z,s=[.int .i64 z])/\(i=6->∃b,s=[.str b]/\b.length<=140737488355328)/\(i=7->∃v l,s=[v]/\Wf P 3 jX v l)) X U
  (by simp only[Mr,Gp hE,Tw hE,Tx hE,and_self]) (by simp only[mS hE,zql,zqk,zqu,zqv,Nat.reduceAdd,Gp hE,Tw hE,Tx hE])
  (fun i ty off hL n cs d ps h J=>by
    rcases i with _|_|_|_|_|_|_|_|i
    iterate 6
     . cases hL
       obtain⟨s,N,O,Q⟩:=Ee hE (m:=m+1) h J;exact⟨s,N,O,fun _=>Q,fun hh=>by omega,fun hh=>by omega⟩
    . cases hL
      obtain⟨s,N,O,Q⟩:=bI hE (m:=m+1) h J;exact⟨s,N,O,fun hh=>by omega,fun _=>Q,fun hh=>by omega⟩
    . cases hL
      obtain⟨s,N,O,Q⟩:=Tz hE (m:=m) h J;exact⟨s,N,O,fun hh=>by omega,fun hh=>by omega,fun _=>Q⟩
    . simp at hL) h J
 obtain⟨a,b,c,e,f,g,s6,s7,rfl⟩:=A0I Y;obtain⟨z0,rfl⟩:=(D 0 _ rfl).1 (by omega);obtain⟨z1,rfl⟩:=(D 1 _ rfl).1 (by omega);obtain⟨z2,rfl⟩:=(D 2 _ rfl).1 (by omega);obtain⟨z3,rfl⟩:=(D 3 _ rfl).1 (by omega);obtain⟨z4,rfl⟩:=(D 4 _ rfl).1 (by omega);obtain⟨z5,rfl⟩:=(D 5 _ rfl).1 (by omega);obtain⟨b6,rfl,V⟩:=(D 6 _ rfl).2.1 rfl;obtain⟨v,l,rfl,hv⟩:=(D 7 _ rfl).2.2 rfl;exact⟨_,⟨z0,z1,z2,z3,z4,z5,b6,l⟩,h1,⟨h2,.inl (by unfold Au;rw[X])⟩,v,rfl,hv,V⟩
omit hE in
def Jp(P:Program)(D:List AV)(B:Blk):Prop:=∃I,D=[I,.int .i64 B.e.kind,.int .i64 B.e.a,.int .i64 B.e.to,.int .i64 B.e.els]/\Wf P 65 (Jo P) I B.code
theorem jY{m n:Nat}{cs:List Value}{d:DataW H}{ps:List MemPlace}(h:DataW.trod enc P W base spare held n 39 cs=zsq (d,ps))(B:Wt P 39 d):∃s,V2 P (m+4) 39 d=zsq s/\s.length=P.cellsOf 39/\∃v l,s=[v]/\Wf P 65 (Jo P) v l:=by
 obtain⟨v,l,h1,h2⟩:=Ar (Q:=Jo P) (m:=m+3) (uX hE) (by rw[mS hE];decide) (fun n cs d ps h B=>qH hE h B) h B;exact⟨[v],h1,by rw[Ty hE];rfl,v,l,rfl,h2⟩
theorem yP{m n:Nat}{cs:List Value}{d:DataW H}{ps:List MemPlace}(h:DataW.trod enc P W base spare held n 41 cs=zsq (d,ps))(D:Wt P 41 d):∃s,V2 P (m+2) 41 d=zsq s/\s.length=P.cellsOf 41/\∃x y z w,s=[.int .i64 x,.int .i64 y,.int .i64 z,.int .i64 w]:=by
 obtain ⟨fs,J,I,_⟩:=(hE.ti 41 Ss rfl).desc;have I:fs.toList.map (fun f=>(f.type,f.offset))=[(3,0),(3,1),(3,2),(3,3)]:=I;obtain⟨N,h1,h2,O,B⟩:=m5 (m:=m+1) (Qs:=fun i s=>∃z,s=[.int .i64 z]) J I
  (by simp only[Mr,Gp hE,and_self]) (by simp only[CA hE,zql,zqk,zqu,zqv,Nat.reduceAdd,Gp hE])
  (fun i ty off hL n cs d ps h D=>by
    rcases i with _|_|_|_|i
    iterate 4
     . cases hL
       exact Ee hE (m:=m) h D
    . simp at hL) h D
 match N,O with
 |[a,b,c,e],_=>
  obtain⟨Q,rfl⟩:=B 0 _ rfl;obtain⟨U,rfl⟩:=B 1 _ rfl;obtain⟨V,rfl⟩:=B 2 _ rfl;obtain⟨X,rfl⟩:=B 3 _ rfl;exact⟨_,h1,h2,Q,U,V,X,rfl⟩
theorem qI{m n:Nat}{cs:List Value}{d:DataW H}{ps:List MemPlace}(h:DataW.trod enc P W base spare held n 43 cs=zsq (d,ps))(I:Wt P 43 d):∃D B,V2 P (m+5) 43 d=zsq D/\(D.length=P.cellsOf 43/\(Au P 43=zt\/D.length=1))/\Jp P D B:=by
 obtain ⟨fs,U,J,_⟩:=(hE.ti 43 Vt rfl).desc;have J:fs.toList.map (fun f=>(f.type,f.offset))=[(39,0),(41,1)]:=J;obtain⟨X,h1,h2,Y,V⟩:=m5 (m:=m+4) (Qs:=fun i s=>(i=0->∃v l,s=[v]/\Wf P 65 (Jo P) v l)/\(i=1->∃x y z w,s=[.int .i64 x,.int .i64 y,.int .i64 z,.int .i64 w])) U J
  (by simp only[Mr,Ty hE,and_self]) (by simp only[mT hE,zql,zqk,zqu,zqv,Nat.reduceAdd,Ty hE,CA hE])
  (fun i ty off hL n cs d ps h I=>by
    rcases i with _|_|i
    . cases hL
      obtain⟨s,N,O,Q⟩:=jY hE (m:=m) h I;exact⟨s,N,O,fun _=>Q,fun hh=>by omega⟩
    . cases hL
      obtain⟨s,N,O,Q⟩:=yP hE (m:=m+2) h I;exact⟨s,N,O,fun hh=>by omega,fun _=>Q⟩
    . simp at hL) h I
 match X,Y with
 |[a,b],_=>
  obtain⟨v,l,rfl,hv⟩:=(V 0 _ rfl).1 rfl;obtain⟨x,y,z,w,rfl⟩:=(V 1 _ rfl).2 rfl;exact⟨_,⟨l,⟨x,y,z,w⟩⟩,h1,⟨h2,.inl (by unfold Au;rw[U])⟩,v,rfl,hv⟩
theorem jZ{m n:Nat}{cs:List Value}{d:DataW H}{ps:List MemPlace}(h:DataW.trod enc P W base spare held n 36 cs=zsq (d,ps))(B:Wt P 36 d):∃s,V2 P (m+6) 36 d=zsq s/\s.length=P.cellsOf 36/\∃v l,s=[v]/\Wf P 43 (Jp P) v l:=by
 obtain⟨v,l,h1,h2⟩:=Ar (Q:=Jp P) (m:=m+5) (uY hE) (by rw[mT hE];decide) (fun n cs d ps h B=>qI hE h B) h B;exact⟨[v],h1,by rw[fK hE];rfl,v,l,rfl,h2⟩
omit hE in
def Xq(P:Program)(B:List AV)(C:Cod):Prop:=∃D I,B=[.str C.name,.int .i64 C.ty,.int .i64 C.ps,D,I]/\Wf P 3 jX D C.regs/\Wf P 43 (Jp P) I C.blocks
theorem vB{m n:Nat}{cs:List Value}{d:DataW H}{ps:List MemPlace}(h:DataW.trod enc P W base spare held n 38 cs=zsq (d,ps))(N:Wt P 38 d):∃B C,V2 P (m+7) 38 d=zsq B/\(B.length=P.cellsOf 38/\(Au P 38=zt\/B.length=1))/\Xq P B C:=by
 obtain ⟨fs,X,Q,_⟩:=(hE.ti 38 Dw rfl).desc;have Q:fs.toList.map (fun f=>(f.type,f.offset))=[(9,0),(3,1),(3,2),(26,3),(36,4)]:=Q;obtain⟨Y,h1,h2,h3,O⟩:=m5 (m:=m+6) (Qs:=fun i s=>(i=0->∃b,s=[.str b]/\b.length<=140737488355328)/\((i=1\/i=2)->∃z,s=[.int .i64 z])/\(i=3->∃v l,s=[v]/\Wf P 3 jX v l)/\(i=4->∃v l,s=[v]/\Wf P 43 (Jp P) v l)) X Q
  (by simp only[Mr,Gp hE,Tw hE,Tx hE,and_self]) (by simp only[uZ hE,zql,zqk,zqu,zqv,Nat.reduceAdd,Gp hE,Tw hE,Tx hE,fK hE])
  (fun i ty off hL n cs d ps h N=>by
    rcases i with _|_|_|_|_|i
    . cases hL
      obtain⟨s,D,I,J⟩:=bI hE (m:=m+5) h N;exact⟨s,D,I,fun _=>J,fun hh=>by omega,fun hh=>by omega,fun hh=>by omega⟩
    . cases hL
      obtain⟨s,D,I,J⟩:=Ee hE (m:=m+5) h N;exact⟨s,D,I,fun hh=>by omega,fun _=>J,fun hh=>by omega,fun hh=>by omega⟩
    . cases hL
      obtain⟨s,D,I,J⟩:=Ee hE (m:=m+5) h N;exact⟨s,D,I,fun hh=>by omega,fun _=>J,fun hh=>by omega,fun hh=>by omega⟩
    . cases hL
      obtain⟨s,D,I,J⟩:=Tz hE (m:=m+4) h N;exact⟨s,D,I,fun hh=>by omega,fun hh=>by omega,fun _=>J,fun hh=>by omega⟩
    . cases hL
      obtain⟨s,D,I,J⟩:=jZ hE (m:=m) h N;exact⟨s,D,I,fun hh=>by omega,fun hh=>by omega,fun hh=>by omega,fun _=>J⟩
    . simp at hL) h N
 match Y,h3 with
 |[a,b,c,e,f],_=>
  obtain⟨b0,rfl,_⟩:=(O 0 _ rfl).1 rfl;obtain⟨z1,rfl⟩:=(O 1 _ rfl).2.1 (.inl rfl);obtain⟨z2,rfl⟩:=(O 2 _ rfl).2.1 (.inr rfl);obtain⟨v3,l3,rfl,U⟩:=(O 3 _ rfl).2.2.1 rfl;obtain⟨v4,l4,rfl,V⟩:=(O 4 _ rfl).2.2.2 rfl;exact⟨_,⟨b0,z1,z2,l3,l4⟩,h1,⟨h2,.inl (by unfold Au;rw[X])⟩,v3,v4,rfl,U,V⟩
omit hE in
def fL(B:List AV)(G:Glo):Prop:=B=[.str G.name,.int .i64 G.ty,.int .i64 G.size,.int .i64 G.at_]
theorem vC{m n:Nat}{cs:List Value}{d:DataW H}{ps:List MemPlace}(h:DataW.trod enc P W base spare held n 59 cs=zsq (d,ps))(D:Wt P 59 d):∃B G,V2 P (m+2) 59 d=zsq B/\(B.length=P.cellsOf 59/\(Au P 59=zt\/B.length=1))/\fL B G:=by
 obtain ⟨fs,U,J,_⟩:=(hE.ti 59 Pl rfl).desc;have J:fs.toList.map (fun f=>(f.type,f.offset))=[(9,0),(3,1),(3,2),(3,3)]:=J;obtain⟨V,h1,h2,X,I⟩:=m5 (m:=m+1) (Qs:=fun i s=>(i=0->∃b,s=[.str b]/\b.length<=140737488355328)/\(0<i->∃z,s=[.int .i64 z])) U J
  (by simp only[Mr,Gp hE,Tw hE,and_self]) (by simp only[vA hE,zql,zqk,zqu,zqv,Nat.reduceAdd,Gp hE,Tw hE])
  (fun i ty off hL n cs d ps h D=>by
    rcases i with _|_|_|_|i
    . cases hL
      obtain⟨s,N,O,Q⟩:=bI hE (m:=m) h D;exact⟨s,N,O,fun _=>Q,fun hh=>by omega⟩
    iterate 3
     . cases hL
       obtain⟨s,N,O,Q⟩:=Ee hE (m:=m) h D;exact⟨s,N,O,fun hh=>by omega,fun _=>Q⟩
    . simp at hL) h D
 match V,X with
 |[a,b,c,e],_=>
  obtain⟨Y,rfl,_⟩:=(I 0 _ rfl).1 rfl;obtain⟨z1,rfl⟩:=(I 1 _ rfl).2 (by omega);obtain⟨z2,rfl⟩:=(I 2 _ rfl).2 (by omega);obtain⟨z3,rfl⟩:=(I 3 _ rfl).2 (by omega);exact⟨_,⟨Y,z1,z2,z3⟩,h1,⟨h2,.inl (by unfold Au;rw[U])⟩,rfl⟩
theorem yQ{n:Nat}{cs:List Value}{d:DataW H}{ps:List MemPlace}(h:DataW.trod enc P W base spare held n 25 cs=zsq (d,ps))(B:Wt P 25 d):∃U V,∃M:Modl,V2 P 9 25 d=zsq [U,V]/\Wf P 59 fL U M.gs/\Wf P 38 (Xq P) V M.fs:=by
 obtain ⟨fs,Y,D,_⟩:=(hE.ti 25 eD rfl).desc;have D:fs.toList.map (fun f=>(f.type,f.offset))=[(22,0),(23,1)]:=D;obtain⟨ss,h1,h2,h3,X⟩:=m5 (m:=8) (Qs:=fun i s=>(i=0->∃v l,s=[v]/\Wf P 59 fL v l)/\(i=1->∃v l,s=[v]/\Wf P 38 (Xq P) v l)) Y D
  (by simp only[Mr,bH hE,and_self]) (by simp only[NS hE,zql,zqk,zqu,zqv,Nat.reduceAdd,bH hE,mR hE])
  (fun i ty off hL n cs d ps h B=>by
    rcases i with _|_|i
    . cases hL
      obtain⟨v,l,I,J⟩:=Ar (Q:=fL) (m:=7) (yO hE) (by rw[vA hE];decide) (fun n cs d ps h B=>vC hE (m:=5) h B) h B;exact⟨[v],I,by rw[bH hE];rfl,fun _=>⟨v,l,rfl,J⟩,fun hh=>by omega⟩
    . cases hL
      obtain⟨v,l,I,J⟩:=Ar (Q:=Xq P) (m:=7) (yN hE) (by rw[uZ hE];decide) (fun n cs d ps h B=>vB hE (m:=0) h B) h B;exact⟨[v],I,by rw[mR hE];rfl,fun hh=>by omega,fun _=>⟨v,l,rfl,J⟩⟩
    . simp at hL) h B
 match ss,h3 with
 |[a,b],_=>
  obtain⟨v0,l0,rfl,N⟩:=(X 0 _ rfl).1 rfl;obtain⟨v1,l1,rfl,O⟩:=(X 1 _ rfl).2 rfl;exact⟨v0,v1,⟨l0,l1⟩,h1,N,O⟩
omit hE in
theorem bJ{t:TypeId}{B:List AV}(h:Au P t=zt):seeV P t B=.agg B:=by unfold seeV;rw[h];rfl
theorem vD:P.bytesOf 3=8:=Gm hE ti3
theorem yR:P.bytesOf 65=88:=Gm hE DY
theorem yS:P.bytesOf 43=56:=Gm hE DU
theorem FU:P.bytesOf 38=80:=Gm hE DT
theorem FV:P.bytesOf 59=40:=Gm hE DV
theorem yT{t:TypeId}{x:TI}{L:List (Nat×Nat)}{fl:Bool}(B:env.ti t=zsq x)(D:x.desc=.struct L fl):Au P t=zt:=by
 have h:=(hE.ti t x B).desc;unfold H3 at h;rw[D]at h;obtain⟨fs,I,_⟩:=h;unfold Au;rw[I]
theorem A0J:Au P 3=zf:=by unfold Au;rw[uW hE]
theorem kA{v:AV}{l:List Int}(D:Wf P 3 jX v l){Z:Nat->Prop}{h:Heap}:Fz Z h v (fslN (ints l)):=D.fz fun r X B=>by
 have B:r=[.int .i64 X]:=B;subst B
 have:seeV P 3 [.int .i64 X]=.int .i64 X:=by unfold seeV;rw[A0J hE];rfl
 rw[this];exact .int _ _
omit hE in
theorem fM{Z:Nat->Prop}{h:Heap}{xs ys:List AV}(hl:xs.length=ys.length)(hc:ys.all clo=zt)(hz:∀p∈xs.zip ys,Fz Z h p.1 p.2):Fz Z h (.agg xs) (.agg ys):=by
 refine .agg hl (fun i x y B D=>hz (x,y) ?_) hc;exact zkm (i:=i) (by rw[List.getElem?_zip_eq_some];exact⟨B,D⟩)
theorem yU{B:List AV}{I:Ins}(J:Jo P B I){Z:Nat->Prop}{h:Heap}:Fz Z h (seeV P 65 B) I.F:=by
 obtain⟨av,rfl,h1,_⟩:=J;rw[bJ (yT hE DY rfl)];refine fM rfl rfl fun p D=>?_
 simp only[zqz,zka,zqm,zqw,or_false]at D;rcases D with rfl|rfl|rfl|rfl|rfl|rfl|rfl|rfl
 iterate 6
  . exact .int _ _
 . exact .str _
 . exact kA hE h1
theorem yV{D:List AV}{B:Blk}(J:Jp P D B){Z:Nat->Prop}{h:Heap}:Fz Z h (seeV P 43 D) B.F:=by
 obtain⟨av,rfl,h1⟩:=J;rw[bJ (yT hE DU rfl)];refine fM rfl rfl fun p I=>?_
 simp only[zqz,zka,zqm,zqw,or_false]at I;rcases I with rfl|rfl|rfl|rfl|rfl
 . exact h1.fz fun r X N=>yU hE N
 iterate 4
  . exact .int _ _
theorem FW{B:List AV}{C:Cod}(I:Xq P B C){Z:Nat->Prop}{h:Heap}:Fz Z h (seeV P 38 B) C.F:=by
 obtain⟨rv,bv,rfl,h1,h2⟩:=I;rw[bJ (yT hE DT rfl)];refine fM rfl rfl fun p D=>?_
 simp only[zqz,zka,zqm,zqw,or_false]at D;rcases D with rfl|rfl|rfl|rfl|rfl
 . exact .str _
 . exact .int _ _
 . exact .int _ _
 . exact kA hE h1
 . exact h2.fz fun r X J=>yV hE J
theorem FX{B:List AV}{G:Glo}(D:fL B G){Z:Nat->Prop}{h:Heap}:Fz Z h (seeV P 59 B) G.F:=by
 have D:B=_:=D;subst D;rw[bJ (yT hE DV rfl)];refine fM rfl rfl fun p I=>?_
 simp only[zqz,zka,zqm,zqw,or_false]at I;rcases I with rfl|rfl|rfl|rfl
 . exact .str _
 iterate 3
  . exact .int _ _
theorem Jq{n b k:Nat}(h:n*b<=reachBytes)(hb:b=k):n*k<=bigN:=by
 subst hb;exact Nat.le_trans h (by decide)
theorem vE{B:List AV}{I:Ins}(D:Jo P B I):I.sok:=by
 obtain⟨av,_,h1,h2⟩:=D;exact⟨Jq hE h1.2 (vD hE),h2⟩
theorem vF{I:List AV}{B:Blk}(J:Jp P I B):B.sok:=by
 obtain ⟨av,_,h1⟩:=J;have D:∀x∈B.code,x.sok:=fun x D=>by
  obtain⟨r,N⟩:=h1.mem D;exact vE hE N
 exact⟨⟨fun x h=>(D x h).1,Jq hE h1.2 (yR hE)⟩,D⟩
theorem yW{D:List AV}{C:Cod}(I:Xq P D C):C.sok:=by
 obtain ⟨rv,bv,_,h1,h2⟩:=I;have B:∀x∈C.blocks,x.sok:=fun x B=>by
  obtain⟨r,J⟩:=h2.mem B;exact vF hE J
 exact⟨⟨Jq hE h1.2 (vD hE),fun x h=>(B x h).1,Jq hE h2.2 (yS hE)⟩,B⟩
theorem mod_see{n:Nat}{cs:List Value}{d:DataW H}{ps:List MemPlace}(h:DataW.trod enc P W base spare held n 25 cs=zsq (d,ps))(N:Wt P 25 d):∃B,∃M:Modl,V2 P 9 25 d=zsq B/\B.length=2/\(∀Z h,Fz Z h (.agg B) M.F)/\M.ok:=by
 obtain⟨O,Q,M,h1,h2,I⟩:=yQ hE h N;refine⟨[O,Q],M,h1,rfl,fun Z h=>?_,fun C hC=>?_,?_,Jq hE h2.2 (FV hE)⟩
 . refine fM rfl rfl fun p J=>?_
   simp only[zqz,zka,zqm,zqw,or_false]at J;rcases J with rfl|rfl
   . exact h2.fz fun r X D=>FX hE D
   . exact I.fz fun r X D=>FW hE D
 . obtain⟨r,D⟩:=I.mem hC
   exact yW hE D
 . have:=Jq hE I.2 (FU hE)
   simp only[bigN]at this|-;omega
end
end Go.Proofs.AmEnv
namespace Go.AM
theorem vG{E:Env}{f:Nat}{args:List AV}{h:Heap}(hg:E.gc f=zf)(B:E.told f=zt):callω E f args h=toldA args h:=by
 refine (Cw (E:=E) f args h).unique ?_;have e:∀m,F9 E (ev E m) f args h=toldA args h:=fun m=>by
  unfold F9;rw[hg];show P0 E (ev E m) f args h=_
  unfold P0;rw[B];rfl
 simp only[e];exact .const
end Go.AM
namespace Go.Proofs.AmEnv
open Go Go.AM
theorem fN(hg:env.gc 57=zf)(I:env.told 57=zt):TC env 57 U5:=by
 intro args rs B Z h xs hl hz hb;unfold U5 at B;split at B
 . rename_i s p
   split at B
   . rename_i D
     cases B
     match xs,hl with
     |[x,y],_=>
      have h0:=hz 0 x (.str s) rfl rfl;have h1:=hz 1 y (.str p) rfl rfl;cases h0;cases h1;refine⟨[.bool (contS p s)],h,Z,fun _=>zn,?_,OP hb,VL.cons (.fz (.bool _)) VL.nil,zje _,fun id hz=>⟨hz,rfl⟩,fun id hz=>.inl hz,fun id _=>rfl,fun id L e=>(by cases e),[],rfl,fun id hi=>(zqw hi).elim⟩;rw[vG hg I];show(bif Nat.ble (r6 s) 4000000000||oneB p then(match contS p s with|true=>Res.ok (.bool zt) h|false=>.ok (.bool zf) h)else .bad)=_
      have D:(Nat.ble (r6 s) 4000000000||oneB p)=zt:=D;rw[D];cases contS p s<;>rfl
   . cases B
 . cases B
def Q2(T:Nat->Option (List AV->Option (List AV)))(f:Nat)(g:List AV->Option (List AV))(k:Nat):Option (List AV->Option (List AV)):=bif Nat.beq k f then zsq g else T k
theorem C8{E:Env}{T:Nat->Option (List AV->Option (List AV))}{F:Nat->Option PFn}{f:Nat}{g:List AV->Option (List AV)}(hP:PEok ⟨E,T,F⟩)(h:TC E f g):PEok ⟨E,Q2 T f g,F⟩:=by
 refine⟨hP.gl,hP.ti,fun k q e=>?_,hP.fn⟩;have e:(bif Nat.beq k f then zsq g else T k)=zsq q:=e;cases hb:Nat.beq k f with
 |true=>rw[hb]at e;cases e;rw[Nat.eq_of_beq_eq_true hb];exact h
 |false=>rw[hb]at e;exact hP.T k q e
def T0(k:Nat):Option (List AV->Option (List AV)):=zn
section
variable (hP:PEok ⟨env,T0,A1⟩)
include hP
omit hP in
def T1:=Q2 T0 40 y0
theorem P1:PEok ⟨env,T1,A1⟩:=C8 hP (tL hP rfl)
omit hP in
def T2:=Q2 T1 57 U5
theorem P2:PEok ⟨env,T2,A1⟩:=C8 (P1 hP) (fN rfl rfl)
omit hP in
def T3:=Q2 T2 20 Q1
theorem P3:PEok ⟨env,T3,A1⟩:=C8 (P2 hP) (aI (P2 hP))
omit hP in
def T4:=Q2 T3 52 D2
theorem P4:PEok ⟨env,T4,A1⟩:=C8 (P3 hP) (eF (P3 hP))
omit hP in
def T5:=Q2 T4 63 Gc
theorem P5:PEok ⟨env,T5,A1⟩:=C8 (P4 hP) (jG (P4 hP))
omit hP in
def T6:=Q2 T5 45 F5
theorem P6:PEok ⟨env,T6,A1⟩:=C8 (P5 hP) (aJ (P5 hP))
omit hP in
def T7:=Q2 T6 36 C6
theorem P7:PEok ⟨env,T7,A1⟩:=C8 (P6 hP) (Gd rfl (P6 hP))
omit hP in
def T8:=Q2 T7 34 L9
theorem P8:PEok ⟨env,T8,A1⟩:=C8 (P7 hP) (Sv (P7 hP))
omit hP in
def T9:=Q2 T8 59 l8
theorem P9:PEok ⟨env,T9,A1⟩:=C8 (P8 hP) (aK (P8 hP))
omit hP in
def T10:=Q2 T9 58 Cc
theorem P10:PEok ⟨env,T10,A1⟩:=C8 (P9 hP) (eG rfl (P9 hP))
omit hP in
def T11:=Q2 T10 71 Ge
theorem P11:PEok ⟨env,T11,A1⟩:=C8 (P10 hP) (jI (P10 hP))
omit hP in
def T12:=Q2 T11 60 y3
theorem P12:PEok ⟨env,T12,A1⟩:=C8 (P11 hP) (eH rfl (P11 hP))
omit hP in
def T13:=Q2 T12 19 M3
theorem P13:PEok ⟨env,T13,A1⟩:=C8 (P12 hP) (aL rfl rfl (P12 hP))
omit hP in
def T14:=Q2 T13 49 Gg
theorem P14:PEok ⟨env,T14,A1⟩:=C8 (P13 hP) (jJ rfl (P13 hP))
omit hP in
def T15:=Q2 T14 61 E0
theorem P15:PEok ⟨env,T15,A1⟩:=C8 (P14 hP) (Gh rfl (P14 hP))
omit hP in
def T16:=Q2 T15 50 J8
theorem P16:PEok ⟨env,T16,A1⟩:=C8 (P15 hP) (Gi rfl rfl rfl rfl rfl rfl (P15 hP))
omit hP in
def T17:=Q2 T16 51 M0
theorem P17:PEok ⟨env,T17,A1⟩:=C8 (P16 hP) (Hw rfl rfl rfl rfl (P16 hP))
omit hP in
def T18:=Q2 T17 37 C5
theorem P18:PEok ⟨env,T18,A1⟩:=C8 (P17 hP) (Hx rfl rfl rfl (P17 hP))
omit hP in
def T19:=Q2 T18 38 I1
theorem P19:PEok ⟨env,T19,A1⟩:=C8 (P18 hP) (Lr rfl (P18 hP))
omit hP in
def T20:=Q2 T19 21 G8
theorem P20:PEok ⟨env,T20,A1⟩:=C8 (P19 hP) (Jn rfl rfl rfl rfl rfl (P19 hP))
omit hP in
def T21:=Q2 T20 10 Ch
theorem P21:PEok ⟨env,T21,A1⟩:=C8 (P20 hP) (eJ rfl rfl rfl (P20 hP))
omit hP in
def T22:=Q2 T21 9 Ai
theorem P22:PEok ⟨env,T22,A1⟩:=C8 (P21 hP) (aO (P21 hP))
omit hP in
def T23:=Q2 T22 4 Ed
theorem P23:PEok ⟨env,T23,A1⟩:=C8 (P22 hP) (aY rfl rfl (P22 hP))
omit hP in
def T24:=Q2 T23 73 Tg
theorem P24:PEok ⟨env,T24,A1⟩:=C8 (P23 hP) (tV (P23 hP))
omit hP in
def T25:=Q2 T24 66 Ci
theorem P25:PEok ⟨env,T25,A1⟩:=C8 (P24 hP) (eM (P24 hP))
omit hP in
def T26:=Q2 T25 67 Ls
theorem P26:PEok ⟨env,T26,A1⟩:=C8 (P25 hP) (pR rfl (P25 hP))
omit hP in
def T27:=Q2 T26 74 Ti
theorem P27:PEok ⟨env,T27,A1⟩:=C8 (P26 hP) (tW (P26 hP))
omit hP in
def T28:=Q2 T27 68 Cj
theorem P28:PEok ⟨env,T28,A1⟩:=C8 (P27 hP) (eO (P27 hP))
omit hP in
def T29:=Q2 T28 69 Lt
theorem P29:PEok ⟨env,T29,A1⟩:=C8 (P28 hP) (pT rfl (P28 hP))
omit hP in
def T30:=Q2 T29 55 Tk
theorem P30:PEok ⟨env,T30,A1⟩:=C8 (P29 hP) (tX rfl rfl (P29 hP))
omit hP in
def T31:=Q2 T30 56 Tl
theorem P31:PEok ⟨env,T31,A1⟩:=C8 (P30 hP) (tY rfl rfl (P30 hP))
omit hP in
def T32:=Q2 T31 44 Z8
theorem P32:PEok ⟨env,T32,A1⟩:=C8 (P31 hP) (eR rfl rfl (P31 hP))
omit hP in
def T33:=Q2 T32 7 Qm
theorem P33:PEok ⟨env,T33,A1⟩:=C8 (P32 hP) (qC rfl rfl rfl rfl rfl rfl rfl rfl rfl rfl rfl (P32 hP))
omit hP in
def T34:=Q2 T33 8 mL
theorem P34:PEok ⟨env,T34,A1⟩:=C8 (P33 hP) (yE (P33 hP))
omit hP in
def T35:=Q2 T34 29 O5
theorem P35:PEok ⟨env,T35,A1⟩:=C8 (P34 hP) (Wa (P34 hP))
omit hP in
def T36:=Q2 T35 15 Cu
theorem P36:PEok ⟨env,T36,A1⟩:=C8 (P35 hP) (eZ rfl rfl rfl (P35 hP))
omit hP in
def T37:=Q2 T36 6 x8
theorem P37:PEok ⟨env,T37,A1⟩:=C8 (P36 hP) (Tt rfl rfl (P36 hP))
omit hP in
def T38:=Q2 T37 5 x9
theorem P38:PEok ⟨env,T38,A1⟩:=C8 (P37 hP) (Tv hP)
end
section
variable {H:Type}{enc:TypeId×Value->H}{P:Program}{W:World}{base:Nat}{spare:Nat->Bool}{held:Bool}
variable (hE:EnvOk env P)
include hE
theorem ints_see{n:Nat}{cs:List Value}{d:DataW H}{ps:List MemPlace}(h:DataW.trod enc P W base spare held n 26 cs=zsq (d,ps))(B:Wt P 26 d):∃v l,V2 P 9 26 d=zsq [v]/\(∀Z h,Fz Z h v (fslN (ints l)))/\l.length*8<=bigN:=by
 obtain⟨s,h1,_,v,l,rfl,h2⟩:=Tz hE (m:=7) h B;exact⟨v,l,h1,fun Z h=>kA hE h2,Jq hE h2.2 (vD hE)⟩
theorem int_see{n:Nat}{cs:List Value}{d:DataW H}{ps:List MemPlace}(h:DataW.trod enc P W base spare held n 3 cs=zsq (d,ps))(B:Wt P 3 d):∃z,V2 P 9 3 d=zsq [.int .i64 z]:=by
 obtain⟨s,h1,_,z,rfl⟩:=Ee hE (m:=8) h B;exact⟨z,h1⟩
end
theorem vH{f:Nat}{T:Nat->Option (List AV->Option (List AV))}(hP:PEok ⟨env,T,A1⟩){as1 xs:List AV}(H:AM.Comes ⟨env,T,A1⟩ f as1 [.bool zt])(hl:xs.length=as1.length)(hz:∀(i:Nat) u v,xs[i]?=zsq u->as1[i]?=zsq v->Fz (fun _=>False) Heap.empty u v):∃h',callω env f xs Heap.empty=.ok (.bool zt) h':=by
 obtain⟨B,h1,I,ow1,e,_,l,_⟩:=Gx hP H (Z:=fun _=>False) (h:=Heap.empty) (xs:=xs) hl hz (fun id h=>h.elim);have l:VL I ow1 h1 (openTs 0 [AV.bool zt]).2 B [.bool zt]:=l
 match B,l.1 with
 |[v],_=>
  have D:=l.2 0 v (.bool zt) rfl rfl
  have:v=.bool zt:=by
   cases D with
   |fz h=>cases h;rfl
  subst this;exact⟨h1,e⟩
theorem DepthSafe_ok(hP:PEok ⟨env,T0,A1⟩){m:Modl}{inp:List Int}{st:Int}(I:m.ok){x y:AV}(J:∀Z h,Fz Z h x m.F)(N:∀Z h,Fz Z h y (fslN (ints inp))):∃h',callω env 3 [x,y,.int .i64 st] Heap.empty=.ok (.bool zt) h':=by
 refine vH (P38 hP) (Eu (T:=T38) (m:=m) (inp:=inp) (st:=st) rfl rfl rfl rfl rfl I) rfl fun i u v B D=>?_
 rcases i with _|_|_|i
 . cases B;cases D;exact J _ _
 . cases B;cases D;exact N _ _
 . cases B;cases D;exact .int _ _
 . simp at B
end Go.Proofs.AmEnv
