/- What this program's functions do, at any data. Conditions: none. -/
import Derived.Test.YthoghikipmifeaaDoorGenA
set_option linter.unusedVariables false
set_option linter.unusedSimpArgs false
set_option linter.unusedSectionVars false
set_option linter.defProp false
set_option maxRecDepth 100000
set_option maxHeartbeats 4000000
open List renaming length_map→zqa,getElem_mem→zqb,replicate→zqc,nil_append→zqd,cons_append→zqe,append_nil→zqf,getD_eq_getElem?_getD→zqg,map_nil→zqh,contains_cons→zqi,contains_nil→zqj,prefix_rfl→zqk,mem_map→zql,take_of_length_le→zqm,map_cons→zqn,nodup_nil→zqo,mem_cons→zqp,not_mem_nil→zqq,take_zero→zqr,drop_zero→zqs,sum_cons→zqt,sum_nil→zqu,getElem?_map→zqv,map_map→zqw,zip_cons_cons→zqx,zip_nil_left→zqy,map_append→zqz,length_replicate→zka,length_eq_zero_iff→zkb,length_take→zkc,take_succ_eq_append_getElem→zkd,mem_map_of_mem→zke,find?_cons→zkf,take_length→zkg,drop_eq_getElem_cons→zkh,length_append→zki,length_nil→zkj,length_cons→zkk,all_eq_true→zkl,getElem?_eq_getElem→zkm,mem_singleton→zkn
open Int renaming le_refl→zko,le_trans→zkp,lt_tmod_of_pos→zkq
open Nat renaming not_lt_zero→zkr,succ_pos→zks,le_refl→zkt,le_trans→zku,le_succ→zkv,lt_succ_self→zkw
open Bool renaming and_eq_true_iff→zkx,or_eq_false_iff→zky
noncomputable section
namespace Go.Proofs.AmEnv
open Go Go.AM
variable {T:Nat->Option (List AV->Option (List AV))}
def oU(m:Modl)(cl:Int)(f:Int)(a:List Int)(s:Mst):Prop:=(0<=f/\f<m.fs.length)/\Sok m s/\s.calls=cl
def sY(m:Modl)(cl:Int)(C:Int->List Int->Mst->Rs):Prop:=∀f a s,oU m cl f a s->Sok m (C f a s).st/\(C f a s).st.steps<=s.steps/\∀v s',C f a s=.ret v s'->s'.calls=s.calls
theorem Dw{P:PE}{c:PC}{fr:PF}{K K':PK}{v:AV}(h:evP P (.code c fr K)=some (.pan v K')):evP P (.code (.loop c) fr K)=some (.pan v K'):=by rw[bN,h];rfl
theorem lG{fa fd fo n:Bool}{r r2:List Int}{at0:Int}(h:r2.length=r.length):Q3 fa fd fo n r2 at0=Q3 fa fd fo n r at0:=by unfold Q3;rw[h]
theorem j6.nil{m:Modl}{s:Mst}(h:j6 m s.data)(hg:m.gs=[]):s.data=[]:=zkb.1 (by rw[h.1,hg];rfl)
def I2.st:I2->Mst | .go _ s=>s | .stop _ _ s=>s
section
variable {m:Modl}{C:Int->List Int->Mst->Rs}{fa fd fo:Bool}{a:List Int}{c:Cod}{l:List Ins}{at0 cl:Int}{nr:Nat}
def YJ(fa fd fo:Bool)(m:Modl)(a:List Int)(c:Cod)(l:List Ins)(at0:Int)(y:I2)(n2:Bool)(t1:List Nat):PR:=match y with
 | .go r2 s2=>.ok (.exit 2) ((49,.bool false)::(Q3 fa fd fo n2 r2 at0++frI l l.length)) (msL fa fd fo n2 m s2 a c r2 t1)
 | .stop st e s2=>.pan (D8 st e) ⟨E7 fa fd fo n2 m s2 a,nE fa fd fo,t1⟩
structure InE(m:Modl)(nr:Nat)(s:Mst)(y:I2):Prop where
 ok:Sok m y.st
 st:y.st.steps<=s.steps
 go:∀r2 s2,y=.go r2 s2->r2.length=nr/\s2.calls=s.calls
theorem InE.of{s s1:Mst}{y:I2}(h:InE m nr s1 y)(h1:s1.steps<=s.steps)(h2:s1.calls=s.calls):InE m nr s y:=⟨h.ok,zkp h.st h1,fun r2 s2 e=>⟨(h.go r2 s2 e).1,(h.go r2 s2 e).2.trans h2⟩⟩
theorem CJ(R:RunT T)(hc:sV T m C (oU m cl))(hp:sY m cl C)(hl:l.length<=2000000000000)(hx:∀x∈l,InsR m nr x)(hd0:fd=false->m.gs=[]):
 ∀ (j k:Nat) (n:Bool) (r:List Int) (s:Mst) (tch:List Nat),l.length=k+j->r.length=nr->Sok m s->s.calls=cl->(fo=false->n=false->s.out=[]) ->
   InE m nr s (insF m C (l.drop k) r s)/\∃n2 t1,evP ⟨env,T,A1⟩ (.code (.loop W8) (Q3 fa fd fo n r at0++frI l k) (msL fa fd fo n m s a c r tch))=some (YJ fa fd fo m a c l at0 (insF m C (l.drop k) r s) n2 t1)/\(fo=false->n2=false->(insF m C (l.drop k) r s).st.out=[])
 | 0,k,n,r,s,tch,e,hr,hs,hcl,ho=>by
  obtain rfl:k=l.length:=by omega
  rw[List.drop_length];exact⟨⟨hs,zko _,fun _ _ e=>by cases e;exact⟨hr,rfl⟩⟩,n,tch,C6 WV,ho⟩
 | j + 1,k,n,r,s,tch,e,hr,hs,hcl,ho=>by
  have hk:k<l.length:=by omega
  have hxk:InsR m r.length l[k]:=hr▸hx _ (zqb hk);rw[zkh hk,insF];by_cases h1:s.steps<1
  . rw[if_pos h1]
    obtain⟨t1,h⟩:=IT (T:=T) (m:=m) (s:=s) (fa:=fa) (fd:=fd) (fo:=fo) (n:=n) (r:=r) (a:=a) (c:=c) (at0:=at0) (tch:=tch) R hk hl (by omega);exact⟨⟨hs,zko _,fun _ _ e=>by cases e⟩,n,t1,Dw h,ho⟩
  . rw [if_neg h1]
    have hs1:=hs.stp (by omega);have hst:(stp s).steps<=s.steps:=by simp only[stp];omega
    have hfo:(fo||n)=false->(stp s).out=[]:=fun e=>by
     rw[zky]at e;exact ho e.1 e.2
    by_cases h9:l[k].op=9
    . rw [if_pos h9]
      obtain⟨hn,hy,hal,hdst⟩:=hxk.c h9;have hpr:oU m cl l[k].n (argsI l[k] r) (stp s):=⟨hn,hs1.1,hcl⟩
      obtain ⟨p1,p2,p3⟩:=hp _ _ _ hpr;obtain⟨n',t0,q1,q2⟩:=hc (neE (argsI l[k] r)) fd (fo||n) l[k].n (argsI l[k] r) (stp s) hpr (fun e=>by
       revert e;cases argsI l[k] r with|nil=>intro _;rfl|cons _ _=>intro e;cases e) (fun e=>hs1.1.d.nil (hd0 e)) hfo
      have hq:fo=false->(n||n')=false->(C l[k].n (argsI l[k] r) (stp s)).st.out=[]:=fun e1 e2=>by
       rw[zky]at e2;exact q1 (by rw[e1,e2.1];rfl) e2.2
      cases hC:C l[k].n (argsI l[k] r) (stp s)with
      | stop z e s2 =>
       rw[hC]at p1 p2 q1 q2 hq;obtain⟨t2,b⟩:=IZ R hy hal q2;obtain⟨t3,b⟩:=sX (fa:=fa) (a:=a) (c:=c) (at0:=at0) (tch:=tch) R hk hl (by omega) hs.st h9 b;exact⟨⟨p1,zkp p2 hst,fun _ _ e=>by cases e⟩,n||n',t3,Dw b,hq⟩
      | ret v s2 =>
       rw [hC]at p1 p2 q1 q2 hq;have p3:=p3 v s2 hC;have fin:∀(r2:List Int),r2.length=r.length->(∃t1,evP ⟨env,T,A1⟩ (.body 39 [.ptr 0 0 0,l[k].F,.msl 1 0 r.length 1] ⟨E7 true fd (fo||n) false m (stp s) r,nE true fd (fo||n),[]⟩)=some (.val [] ⟨E7 true fd (fo||n) n' m s2 r2,nE true fd (fo||n),t1⟩)) ->
        InE m nr s (insF m C (l.drop (k+1)) r2 s2)/\∃n2 t1,evP ⟨env,T,A1⟩ (.code (.loop W8) (Q3 fa fd fo n r at0++frI l k) (msL fa fd fo n m s a c r tch))=some (YJ fa fd fo m a c l at0 (insF m C (l.drop (k+1)) r2 s2) n2 t1)/\(fo=false->n2=false->(insF m C (l.drop (k+1)) r2 s2).st.out=[]):=by
        intro r2 hr2 ⟨t1,b⟩;obtain⟨t3,b⟩:=wZ (fa:=fa) (a:=a) (c:=c) (at0:=at0) (tch:=tch) R hk hl (by omega) hs.st h9 b;obtain⟨g1,n2,t4,g2,g3⟩:=CJ R hc hp hl hx hd0 j (k+1) (n||n') r2 s2 t3 (by omega) (hr2.trans hr) p1 (p3.trans hcl) hq;refine⟨g1.of (zkp p2 hst) p3,n2,t4,?_,g3⟩;rw[loop_more b,<-lG hr2];exact g2
       by_cases hdd:0<=l[k].dst
       . simp only[if_pos hdd]
         exact fin _ (put_len _ _ _) (IX R hy hal hdd hdst q2)
       . simp only[if_neg hdd]
         exact fin _ rfl (IY R hy hal hdd q2)
    . rw [if_neg h9]
      have hop:1<=l[k].op/\l[k].op<=11/\l[k].op≠9:=⟨hxk.op.1,hxk.op.2,h9⟩
      have hio:=hxk.ok hs1.1.d;obtain⟨k1,k2,k3,k4,k5,k6⟩:=oT (x:=l[k]) (r:=r) hs1.1.d;have hol:s.out.length<=30000:=by have:=hs.ou;omega
      by_cases hv:(doesI m l[k] r (stp s)).1=0
      . rw [if_pos hv]
        obtain⟨t3,b⟩:=IU (T:=T) (fa:=fa) (fd:=fd) (fo:=fo) (n:=n) (n':=decide (l[k].op=11)) (a:=a) (c:=c) (at0:=at0) (tch:=tch) R hk hl (by omega) hs.st hop hio (fun e=>hs1.1.d.nil (hd0 e)) ho hol rfl hv;have hs2:Sok m (doesI m l[k] r (stp s)).2.1:=⟨k1,by rw[k2];exact hs1.1.st,by rw[k2];have:=hs1.2;omega,by rw[k3];exact hs1.1.ca⟩
        obtain ⟨g1,n2,t4,g2,g3⟩:=CJ R hc hp hl hx hd0 j (k+1) (n||decide (l[k].op=11)) _ _ t3 (by omega) (k5.trans hr) hs2 (k3.trans hcl) (fun e1 e2=>by
         rw[zky]at e2;rw[k6 (of_decide_eq_false e2.2)];exact ho e1 e2.1)
        refine⟨g1.of (by rw[k2];exact hst) k3,n2,t4,?_,g3⟩;rw[loop_more b,<-lG k5];exact g2
      . rw[if_neg hv]
        obtain⟨t3,b⟩:=CH (T:=T) (fa:=fa) (fd:=fd) (fo:=fo) (n:=n) (a:=a) (c:=c) (at0:=at0) (tch:=tch) R hk hl (by omega) hs.st hop hio (fun e=>hs1.1.d.nil (hd0 e)) ho hol hv;exact⟨⟨hs1.1,hst,fun _ _ e=>by cases e⟩,n,t3,Dw b,fun e1 e2=>ho e1 e2⟩
end
def EZ(e:Nat)(l:List Nat):List Nat:=l.filter fun x=>decide (x<e)
theorem aA(e:Nat)(l:List Nat):l.filter (fun x=>decide (x<e))=EZ e l:=rfl
section
variable {m:Modl}{s s2 s3:Mst}{fa fd fo n n2:Bool}{r r2 a:List Int}{c:Cod}{i:Nat}{tch t1:List Nat}{F:List Nat->List Nat}{j:Int}
theorem WW(hi:i<c.blocks.length)(hin:evP ⟨env,T,A1⟩ (.code (.loop W8) (Q3 fa fd fo n r (i:Int)++frI c.blocks[i].code 0) (msL fa fd fo n m s a c r (EZ (nE fa fd fo) tch)))=some (.ok (.exit 2) ((49,.bool false)::(Q3 fa fd fo n2 r2 (i:Int)++frI c.blocks[i].code c.blocks[i].code.length)) (msL fa fd fo n2 m s2 a c r2 t1)))(hF:∀t,evP ⟨env,T,A1⟩ (.code O3 (Q3 fa fd fo n2 r2 (i:Int)) (msL fa fd fo n2 m s2 a c r2 t))=some (.ok .normal (Q3 fa fd fo n2 r2 j) (msL fa fd fo n2 m s3 a c r2 (F t)))):∃t',evP ⟨env,T,A1⟩ (.code o5 (Q3 fa fd fo n r (i:Int)) (msL fa fd fo n m s a c r tch))=some (.ok .normal (Q3 fa fd fo n2 r2 j) (msL fa fd fo n2 m s3 a c r2 t')):=by
 have hb:=A6 (F:=Blk.F) hi;unfold o5 dM;unfold Q3 frI msL E7 Pm at hin;unfold Q3 msL E7 Pm at hF|-;unfold mB at hin hF|-;simp only[Cod.F,Blk.F]at hb hin hF|-;cases fa<;>cases fd<;>cases fo<;>cases n<;>cases n2<;>(
  simp only[dA,dR,oA,oR,aR,nB,nE,Nat.reduceAdd,zqe,zqd,zqf,show((0:Nat):Int)=0 from rfl]at hin hF|-;simp -implicitDefEqProofs only[hb,hin,hF,aA,zqa,XP,Nat.reduceAdd,Nat.reduceSub,Nat.reduceLT,Nat.reduceLeDiff,Nat.reduceEqDiff,Nat.reduceMul,↓reduceIte];exact⟨_,rfl⟩)
theorem WX{v:Int}(hi:i<c.blocks.length)(hin:evP ⟨env,T,A1⟩ (.code (.loop W8) (Q3 fa fd fo n r (i:Int)++frI c.blocks[i].code 0) (msL fa fd fo n m s a c r (EZ (nE fa fd fo) tch)))=some (.ok (.exit 2) ((49,.bool false)::(Q3 fa fd fo n2 r2 (i:Int)++frI c.blocks[i].code c.blocks[i].code.length)) (msL fa fd fo n2 m s2 a c r2 t1)))(hF:∀t,evP ⟨env,T,A1⟩ (.code O3 (Q3 fa fd fo n2 r2 (i:Int)) (msL fa fd fo n2 m s2 a c r2 t))=some (.ok .ret [(6,.int .i64 v)] ⟨E7 fa fd fo n2 m s3 a,nE fa fd fo,F t⟩)):∃t',evP ⟨env,T,A1⟩ (.code o5 (Q3 fa fd fo n r (i:Int)) (msL fa fd fo n m s a c r tch))=some (.ok .ret [(6,.int .i64 v)] ⟨E7 fa fd fo n2 m s3 a,nE fa fd fo,t'⟩):=by
 have hb:=A6 (F:=Blk.F) hi;unfold o5 dM;unfold Q3 frI msL E7 Pm at hin;unfold Q3 msL E7 Pm at hF|-;unfold mB at hin hF|-;simp only[Cod.F,Blk.F]at hb hin hF|-;cases fa<;>cases fd<;>cases fo<;>cases n<;>cases n2<;>(
  simp only[dA,dR,oA,oR,aR,nB,nE,Nat.reduceAdd,zqe,zqd,zqf,show((0:Nat):Int)=0 from rfl]at hin hF|-;simp -implicitDefEqProofs only[hb,hin,hF,aA,zqa,XP,Nat.reduceAdd,Nat.reduceSub,Nat.reduceLT,Nat.reduceLeDiff,Nat.reduceEqDiff,Nat.reduceMul,↓reduceIte];exact⟨_,rfl⟩)
theorem WY{z e:Int}(hi:i<c.blocks.length)(hin:evP ⟨env,T,A1⟩ (.code (.loop W8) (Q3 fa fd fo n r (i:Int)++frI c.blocks[i].code 0) (msL fa fd fo n m s a c r (EZ (nE fa fd fo) tch)))=some (.ok (.exit 2) ((49,.bool false)::(Q3 fa fd fo n2 r2 (i:Int)++frI c.blocks[i].code c.blocks[i].code.length)) (msL fa fd fo n2 m s2 a c r2 t1)))(hF:∀t,evP ⟨env,T,A1⟩ (.code O3 (Q3 fa fd fo n2 r2 (i:Int)) (msL fa fd fo n2 m s2 a c r2 t))=some (.pan (D8 z e) ⟨E7 fa fd fo n2 m s2 a++[Pm c,.row 0 (ints r2) 1],nE fa fd fo,F t⟩)):∃t',evP ⟨env,T,A1⟩ (.code o5 (Q3 fa fd fo n r (i:Int)) (msL fa fd fo n m s a c r tch))=some (.pan (D8 z e) ⟨E7 fa fd fo n2 m s2 a,nE fa fd fo,t'⟩):=by
 have hb:=A6 (F:=Blk.F) hi;unfold D8 at hF|-;unfold o5 dM;unfold Q3 frI msL E7 Pm at hin;unfold Q3 msL E7 Pm at hF|-;unfold mB at hin hF|-;simp only[Cod.F,Blk.F]at hb hin hF|-;cases fa<;>cases fd<;>cases fo<;>cases n<;>cases n2<;>(
  simp only[dA,dR,oA,oR,aR,nB,nE,Nat.reduceAdd,zqe,zqd,zqf,show((0:Nat):Int)=0 from rfl]at hin hF|-;simp -implicitDefEqProofs only[hb,hin,hF,aA,Xa,Xb,zqa,XP,Nat.reduceAdd,Nat.reduceSub,Nat.reduceLT,Nat.reduceLeDiff,Nat.reduceEqDiff,Nat.reduceMul,↓reduceIte];exact⟨_,rfl⟩)
theorem WZ{z e:Int}(hi:i<c.blocks.length)(hin:evP ⟨env,T,A1⟩ (.code (.loop W8) (Q3 fa fd fo n r (i:Int)++frI c.blocks[i].code 0) (msL fa fd fo n m s a c r (EZ (nE fa fd fo) tch)))=some (.pan (D8 z e) ⟨E7 fa fd fo n2 m s2 a,nE fa fd fo,t1⟩)):∃t',evP ⟨env,T,A1⟩ (.code o5 (Q3 fa fd fo n r (i:Int)) (msL fa fd fo n m s a c r tch))=some (.pan (D8 z e) ⟨E7 fa fd fo n2 m s2 a,nE fa fd fo,t'⟩):=by
 have hb:=A6 (F:=Blk.F) hi;unfold D8 at hin|-;unfold o5 dM;unfold Q3 frI msL E7 Pm at hin;unfold Q3 msL E7 Pm at|-;unfold mB at hin|-;simp only[Cod.F,Blk.F]at hb hin|-;cases fa<;>cases fd<;>cases fo<;>cases n<;>cases n2<;>(
  simp only[dA,dR,oA,oR,aR,nB,nE,Nat.reduceAdd,zqe,zqd,zqf,show((0:Nat):Int)=0 from rfl]at hin|-;simp -implicitDefEqProofs only[hb,hin,aA,Xa,Xb,zqa,XP,Nat.reduceAdd,Nat.reduceSub,Nat.reduceLT,Nat.reduceLeDiff,Nat.reduceEqDiff,Nat.reduceMul,↓reduceIte];exact⟨_,rfl⟩)
end
theorem aB(l c:Operand)(fr:PF)(K:PK):prim env (.makeSlice 26 l c) fr K=Ka env Fe (opvP env l fr) (opvP env c fr) K:=rfl
theorem NZ{k k':IntKind}{n:Nat}{K:PK}(h:n*8<=140737488355328):Ka env Fe (.int k (n:Int)) (.int k' (n:Int)) K=.val (.msl K.os.length 0 n 1) ⟨K.os++[.row 0 (ints (zqc n 0)) 1],K.ext,K.tch⟩:=by
 have e:ints (zqc n 0)=zqc n (AV.int .i64 0):=by simp[ints]
 rw[e];show(match some ty3,some n,some n with|some te,some n,some m=>(if n<=m/\m*te.bytes<=140737488355328/\0<te.size then OpS.val (.msl K.os.length 0 n te.size) (AM.newRow 0 (zqc n te.zero) te.size K)else .bad)|_,_,_=>.bad)=_
 exact if_pos ⟨zkt _,h,by decide⟩
theorem sZ{os:List PO}{id N ext:Nat}{tch:List Nat}{x:AV}{a:List Int}{os2:List PO}(hr:os[id]?=some (.row 0 (ints (zqc N 0)) 1))(hx:takeE ty3 x ext [] os=some (ints a,os2)):
 E9 env .copy [26,26] [.msl id 0 N 1,x] ⟨os,ext,tch⟩=some (.int .i64 (Int.ofNat (min N a.length)),⟨os.set id (.row 0 (ints (initR N a)) 1),ext,id::tch⟩):=by
 show(match takeE ty3 x ext [] os with|some q=>lU 1 id 0 N q.1 ⟨os,ext,tch⟩|none=>none)=_
 rw[hx];show(match os[id]? with|some (.row 0 es z)=>if z=1/\0+N<=es.length/\Az es=true/\Az (ints a)=true then some (AV.int .i64 (Int.ofNat (min N (ints a).length)),(⟨os.set id (.row 0 (es.take 0++((ints a).take (min N (ints a).length)++es.drop (0+min N (ints a).length))) z),ext,id::tch⟩:PK))else none|_=>none)=_
 rw[hr];show(if 1=1/\_ then _ else _)=_
 rw[if_pos ⟨rfl,by simp[ints],Zm _,Zm _⟩];have hl:(ints a).length=a.length:=by simp[ints]
 have:(ints (zqc N 0)).take 0++((ints a).take (min N (ints a).length)++(ints (zqc N 0)).drop (0+min N (ints a).length))=ints (initR N a):=by
  rw[hl];unfold initR ints;rw[zqr,zqd,zqz,<-List.map_take,<-List.map_drop,List.drop_replicate]
  congr 1
  . congr 1
    rw[Nat.min_def];split
    . rfl
    . rw[zqm (zkt _),zqm (by omega)]
  . congr 2;omega
 rw[this,hl]
section
variable {m:Modl}{s s2:Mst}{fa fd fo n2:Bool}{a:List Int}{f:Nat}{t1:List Nat}
theorem AI(R:RunT T)(h:32<=s.calls):∃t1,evP ⟨env,T,A1⟩ (.body 25 [.ptr 0 0 0,.int .i64 (f:Int),l9 fa 1 a] ⟨E7 fa fd fo false m s a,nE fa fd fo,[]⟩)=some (.pan (D8 2 4) ⟨E7 fa fd fo false m s a,nE fa fd fo,t1⟩):=by
 have hg:decide (s.calls>=32)=true:=by simp;omega
 have tn:=fun K=>Pk (T:=T) (K:=K) R.hN (t:=4) (by decide)
 unfold D8 at tn|-;rw[A3 (c:=zJ) (nt:=109) (rs:=[.tmp 6]) rfl (by simp)];unfold zJ;unfold Zh Zg Zf Ze Zd Zc Zb kQ E7;unfold mB;cases fa<;>cases fd<;>cases fo<;>(
  simp only[dA,dR,oA,oR,aR,nB,nE,l9,Nat.reduceAdd,zqe,zqd,zqf];simp -implicitDefEqProofs only[hg,tn,Xa,Xb,XP,seval];exact⟨_,rfl⟩)
theorem JG{N:Nat}{C:PO}{tch:List Nat}(hz:fa=false->a=[]):E9 env .copy [26,26] [.msl (nE fa fd fo+1) 0 N 1,l9 fa 1 a] ⟨E7 fa fd fo false m s a++[C,.row 0 (ints (zqc N 0)) 1],nE fa fd fo,tch⟩=some (.int .i64 (Int.ofNat (min N a.length)),⟨E7 fa fd fo false m s a++[C,.row 0 (ints (initR N a)) 1],nE fa fd fo,(nE fa fd fo+1)::tch⟩):=by
 cases fa with
 | false =>
  rw[hz rfl];rw[sZ (a:=[]) (os2:=E7 false fd fo false m s []++[C,.row 0 (ints (zqc N 0)) 1]) (by cases fd<;>cases fo<;>rfl) (by cases fd<;>cases fo<;>rfl)];cases fd<;>cases fo<;>rfl
 | true =>
  rw[sZ (a:=a) (os2:=E7 true fd fo false m s a++[C,.row 0 (ints (zqc N 0)) 1]) (by cases fd<;>cases fo<;>rfl) ?_]
  . cases fd<;>cases fo<;>rfl
  . unfold E7 l9 aR
    have hl:(ints a).length=a.length:=by simp[ints]
    cases fd<;>cases fo<;>(
     simp only[dA,dR,oA,oR,nB,Nat.reduceAdd,zqe,zqd,zqf];simp -implicitDefEqProofs only[hl,Zm,XP,seval])
def aC(s:Mst):Mst:={s with calls:=s.calls+1}
theorem Lt(n:Nat)(a:List Int):(initR n a).length=n:=by unfold initR;rw[zki,zkc,zka];omega
theorem JH{v:Int}(h:¬32<=s.calls)(h0:0<=s.calls)(hf:f<m.fs.length)(hn:m.fs[f].regs.length<=100000)(hz:fa=false->a=[])(hl:evP ⟨env,T,A1⟩ (.code (.loop o5) (Q3 fa fd fo false (initR m.fs[f].regs.length a) 0) (msL fa fd fo false m (aC s) a m.fs[f] (initR m.fs[f].regs.length a) [0]))=some (.ok .ret [(6,.int .i64 v)] ⟨E7 fa fd fo n2 m s2 a,nE fa fd fo,t1⟩)):∃t1,evP ⟨env,T,A1⟩ (.body 25 [.ptr 0 0 0,.int .i64 (f:Int),l9 fa 1 a] ⟨E7 fa fd fo false m s a,nE fa fd fo,[]⟩)=some (.val [.int .i64 v] ⟨E7 fa fd fo n2 m s2 a,nE fa fd fo,t1⟩):=by
 have hg:decide (s.calls>=32)=false:=by simp;omega
 have hc:=Er (n:=s.calls+1) (by omega) (by omega);have hi:=A6 (F:=Cod.F) hf;have cp:=fun tch=>JG (m:=m) (s:=aC s) (fd:=fd) (fo:=fo) (N:=m.fs[f].regs.length) (C:=.row 1 [m.fs[f].F] 5) (tch:=tch) hz
 have mk:=fun k k' K=>NZ (k:=k) (k':=k') (n:=m.fs[f].regs.length) (K:=K) (by omega)
 have hil:=Lt m.fs[f].regs.length a;generalize initR m.fs[f].regs.length a=r0 at cp hl hil;unfold Q3 msL Pm at hl;rw[hil]at hl;rw[A3 (c:=zJ) (nt:=109) (rs:=[.tmp 6]) rfl (by simp)];unfold zJ;unfold Zh Zg Zf Ze Zd Zc Zb kQ;unfold E7 at cp hl|-;unfold mB at cp hl|-;simp only[Cod.F,aC]at hi cp hl|-;cases fa<;>cases fd<;>cases fo<;>(
  simp only[dA,dR,oA,oR,aR,nB,nE,l9,Nat.reduceAdd,zqe,zqd,zqf]at cp hl|-;simp -implicitDefEqProofs only[hg,hc,hi,cp,hl,aB,mk,zqa,XP,Nat.reduceAdd,Nat.reduceSub,Nat.reduceLT,Nat.reduceLeDiff,Nat.reduceEqDiff,Nat.reduceMul,↓reduceIte];exact⟨_,rfl⟩)
theorem JI{z e:Int}(h:¬32<=s.calls)(h0:0<=s.calls)(hf:f<m.fs.length)(hn:m.fs[f].regs.length<=100000)(hz:fa=false->a=[])(hl:evP ⟨env,T,A1⟩ (.code (.loop o5) (Q3 fa fd fo false (initR m.fs[f].regs.length a) 0) (msL fa fd fo false m (aC s) a m.fs[f] (initR m.fs[f].regs.length a) [0]))=some (.pan (D8 z e) ⟨E7 fa fd fo n2 m s2 a,nE fa fd fo,t1⟩)):∃t1,evP ⟨env,T,A1⟩ (.body 25 [.ptr 0 0 0,.int .i64 (f:Int),l9 fa 1 a] ⟨E7 fa fd fo false m s a,nE fa fd fo,[]⟩)=some (.pan (D8 z e) ⟨E7 fa fd fo n2 m s2 a,nE fa fd fo,t1⟩):=by
 have hg:decide (s.calls>=32)=false:=by simp;omega
 have hc:=Er (n:=s.calls+1) (by omega) (by omega);have hi:=A6 (F:=Cod.F) hf;have cp:=fun tch=>JG (m:=m) (s:=aC s) (fd:=fd) (fo:=fo) (N:=m.fs[f].regs.length) (C:=.row 1 [m.fs[f].F] 5) (tch:=tch) hz
 have mk:=fun k k' K=>NZ (k:=k) (k':=k') (n:=m.fs[f].regs.length) (K:=K) (by omega)
 have hil:=Lt m.fs[f].regs.length a;generalize initR m.fs[f].regs.length a=r0 at cp hl hil;unfold D8 at hl|-;unfold Q3 msL Pm at hl;rw[hil]at hl;rw[A3 (c:=zJ) (nt:=109) (rs:=[.tmp 6]) rfl (by simp)];unfold zJ;unfold Zh Zg Zf Ze Zd Zc Zb kQ;unfold E7 at cp hl|-;unfold mB at cp hl|-;simp only[Cod.F,aC]at hi cp hl|-;cases fa<;>cases fd<;>cases fo<;>cases n2<;>(
  simp only[dA,dR,oA,oR,aR,nB,nE,l9,Nat.reduceAdd,zqe,zqd,zqf]at cp hl|-;simp -implicitDefEqProofs only[hg,hc,hi,cp,hl,aB,mk,Xa,Xb,zqa,XP,Nat.reduceAdd,Nat.reduceSub,Nat.reduceLT,Nat.reduceLeDiff,Nat.reduceEqDiff,Nat.reduceMul,↓reduceIte];exact⟨_,rfl⟩)
end
theorem tA{c:Cod}{i:Nat}(h:i<c.blocks.length):blkAt c (i:Int)=c.blocks[i]:=by simp[blkAt,zqg,h]
theorem tB{m:Modl}{i:Nat}(h:i<m.fs.length):Dv m (i:Int)=m.fs[i]:=by simp[Dv,zqg,h]
section
variable {m:Modl}{C:Int->List Int->Mst->Rs}{fa fd fo:Bool}{a:List Int}{c:Cod}{cl:Int}
def OA(fa fd fo:Bool)(m:Modl)(a:List Int)(y:Rs)(n2:Bool)(t1:List Nat):PR:=match y with
 | .ret v s2=>.ok .ret [(6,.int .i64 v)] ⟨E7 fa fd fo n2 m s2 a,nE fa fd fo,t1⟩
 | .stop st e s2=>.pan (D8 st e) ⟨E7 fa fd fo n2 m s2 a,nE fa fd fo,t1⟩
structure OutE(m:Modl)(s:Mst)(y:Rs):Prop where
 ok:Sok m y.st
 st:y.st.steps<=s.steps
 rt:∀v s2,y=.ret v s2->s2.calls=s.calls-1
theorem OutE.of{s s1:Mst}{y:Rs}(h:OutE m s1 y)(h1:s1.steps<=s.steps)(h2:s1.calls=s.calls):OutE m s y:=⟨h.ok,zkp h.st h1,fun v s2 e=>by rw[h.rt v s2 e,h2]⟩
theorem AJ(R:RunT T)(hc:sV T m C (oU m cl))(hp:sY m cl C)(hC:CodR m c)(hd0:fd=false->m.gs=[]):
 ∀ (f i:Nat) (n:Bool) (r:List Int) (s:Mst) (tch:List Nat),i<c.blocks.length->r.length=c.regs.length->Sok m s->1<=s.calls->s.calls=cl->s.steps.toNat<f->(fo=false->n=false->s.out=[]) ->
   OutE m s (J7 m C c f i r s)/\∃n2 t1,evP ⟨env,T,A1⟩ (.code (.loop o5) (Q3 fa fd fo n r (i:Int)) (msL fa fd fo n m s a c r tch))=some (OA fa fd fo m a (J7 m C c f i r s) n2 t1)/\(fo=false->n2=false->(J7 m C c f i r s).st.out=[])
 |0,i,n,r,s,tch,hi,hr,hs,hca,hcl,hf,ho=>absurd hf (zkr _)
 | f + 1,i,n,r,s,tch,hi,hr,hs,hca,hcl,hf,ho=>by
  obtain⟨b1,b2,b3⟩:=hC.b _ (zqb hi);obtain⟨g1,n2,t1,g2,g3⟩:=CJ (fa:=fa) (fo:=fo) (a:=a) (c:=c) (at0:=(i:Int)) R hc hp b1 b2 hd0 c.blocks[i].code.length 0 n r s (EZ (nE fa fd fo) tch) (by omega) hr hs hcl ho;rw[zqs]at g1 g2 g3;rw[J7,tA hi];cases hy:insF m C c.blocks[i].code r s with
  | stop z e s2 =>
   rw[hy]at g1 g2 g3;obtain⟨t2,q⟩:=WZ (tch:=tch) hi g2;exact⟨⟨g1.ok,g1.st,fun _ _ e=>by cases e⟩,n2,t2,Dw q,g3⟩
  | go r2 s2 =>
   rw[hy]at g1 g2 g3;obtain⟨hr2,hc2⟩:=g1.go _ _ rfl;have k1:Sok m s2:=g1.ok;have k2:s2.steps<=s.steps:=g1.st;dsimp only;by_cases h1:s2.steps<1
   . rw[if_pos h1]
     have K:=fun t=>JA (T:=T) (m:=m) (s:=s2) (fa:=fa) (fd:=fd) (fo:=fo) (n:=n2) (r:=r2) (a:=a) (c:=c) (tch:=t) R hi (by omega)
     obtain⟨t2,q⟩:=WY (tch:=tch) (F:=fun t=>(K t).choose) hi g2 (fun t=>(K t).choose_spec);exact⟨⟨k1,k2,fun _ _ e=>by cases e⟩,n2,t2,Dw q,g3⟩
   . rw [if_neg h1]
     have k3:=k1.stp (by omega);have hst:(stp s2).steps<=s.steps:=by simp only[stp];omega
     have hst2:(stp s2).steps.toNat<f:=by simp only[stp];omega
     by_cases hk3:c.blocks[i].e.kind=3
     . rw [if_pos hk3]
       have fin:∀v,(∀t,∃t1,evP ⟨env,T,A1⟩ (.code O3 (Q3 fa fd fo n2 r2 (i:Int)) (msL fa fd fo n2 m s2 a c r2 t))=some (.ok .ret [(6,.int .i64 v)] ⟨E7 fa fd fo n2 m {stp s2 with calls:=s2.calls-1} a,nE fa fd fo,t1⟩)) ->
        OutE m s (.ret v {stp s2 with calls:=s2.calls-1})/\∃n3 t1,evP ⟨env,T,A1⟩ (.code (.loop o5) (Q3 fa fd fo n r (i:Int)) (msL fa fd fo n m s a c r tch))=some (OA fa fd fo m a (.ret v {stp s2 with calls:=s2.calls-1}) n3 t1)/\(fo=false->n3=false->(Rs.ret v {stp s2 with calls:=s2.calls-1}).st.out=[]):=by
        intro v K;obtain⟨t2,q⟩:=WX (tch:=tch) (F:=fun t=>(K t).choose) hi g2 (fun t=>(K t).choose_spec);have hca2:=k1.ca;refine⟨⟨⟨k3.1.d,k3.1.st,k3.1.ou,?_⟩,hst,fun _ _ e=>by cases e;rw[<-hc2]⟩,n2,t2,u7 q,g3⟩;show 0<=s2.calls-1/\s2.calls-1<=33
        omega
       by_cases ha:c.blocks[i].e.a<0
       . rw[if_pos ha]
         exact fin 0 fun t=>JB R hi (by omega) k1.st hk3 ha k1.ca.1 (by have:=k1.ca;omega)
       . rw[if_neg ha]
         exact fin _ fun t=>JC R hi (by omega) k1.st hk3 ⟨by omega,by have:=b3.a3 hk3;omega⟩ k1.ca.1 (by have:=k1.ca;omega)
     . rw [if_neg hk3]
       have fin:∀(j:Int),0<=j->j<c.blocks.length->(∀t,∃t1,evP ⟨env,T,A1⟩ (.code O3 (Q3 fa fd fo n2 r2 (i:Int)) (msL fa fd fo n2 m s2 a c r2 t))=some (.ok .normal (Q3 fa fd fo n2 r2 j) (msL fa fd fo n2 m (stp s2) a c r2 t1))) ->
        OutE m s (J7 m C c f j r2 (stp s2))/\∃n3 t1,evP ⟨env,T,A1⟩ (.code (.loop o5) (Q3 fa fd fo n r (i:Int)) (msL fa fd fo n m s a c r tch))=some (OA fa fd fo m a (J7 m C c f j r2 (stp s2)) n3 t1)/\(fo=false->n3=false->(J7 m C c f j r2 (stp s2)).st.out=[]):=by
        intro j h0 hj K;obtain⟨j,rfl⟩:∃k:Nat,j=k:=⟨j.toNat,by omega⟩
        obtain⟨t2,q⟩:=WW (tch:=tch) (F:=fun t=>(K t).choose) hi g2 (fun t=>(K t).choose_spec);obtain⟨u1,n3,t3,u2,u3⟩:=AJ R hc hp hC hd0 f j n2 r2 (stp s2) t2 (by omega) hr2 k3.1 (by show 1<=s2.calls;omega) (hc2.trans hcl) hst2 g3;exact⟨u1.of hst hc2,n3,t3,by rw[loop_more q];exact u2,u3⟩
       by_cases hk2:c.blocks[i].e.kind=2
       . obtain ⟨a1,a2⟩:=b3.a2 hk2
         by_cases hv:at' r2 c.blocks[i].e.a=0
         . rw[if_pos ⟨hk2,hv⟩]
           exact fin _ (b3.els hk2).1 (b3.els hk2).2 fun t=>JD R hi (by omega) k1.st hk2 ⟨a1,by omega⟩ hv
         . rw[if_neg (fun e=>hv e.2)]
           exact fin _ (b3.to hk3).1 (b3.to hk3).2 fun t=>JE R hi (by omega) k1.st hk2 ⟨a1,by omega⟩ hv
       . rw[if_neg (fun e=>hk2 e.1)]
         exact fin _ (b3.to hk3).1 (b3.to hk3).2 fun t=>JF R hi (by omega) k1.st (by have:=b3.k;omega)
theorem j6.len0{s:Mst}(h:j6 m s.data)(e:s.data=[]):m.gs=[]:=zkb.1 (by rw[<-h.1,e];rfl)
theorem eJ(R:RunT T)(hM:ModR' m):∀(d:Nat)(cl:Int),33-cl<=d->0<=cl->sY m cl (I3 m d)/\sV T m (I3 m d) (oU m cl)
 | 0,cl,h,h0=>by
  refine⟨fun f a s hp=>?_,fun fa fd fo f a s hp hz hd ho=>?_⟩
  . exact⟨hp.2.1,zko _,fun _ _ e=>by cases e⟩
  . obtain⟨t1,e⟩:=AI (T:=T) (m:=m) (s:=s) (fa:=fa) (fd:=fd) (fo:=fo) (a:=a) (f:=f.toNat) R (by have:=hp.2.2;omega)
    rw[Int.toNat_of_nonneg hp.1.1]at e;exact⟨false,t1,fun e _=>ho e,e⟩
 | d + 1,cl,h,h0=>by
  obtain⟨i1,i2⟩:=eJ R hM d (cl+1) (by omega) (by omega);have key:∀(fa fd fo:Bool)(f:Int)(a:List Int)(s:Mst),oU m cl f a s->(fa=false->a=[])->(fd=false->s.data=[])->(fo=false->s.out=[]) ->
   (Sok m (I3 m (d+1) f a s).st/\(I3 m (d+1) f a s).st.steps<=s.steps/\∀v s',I3 m (d+1) f a s=.ret v s'->s'.calls=s.calls)/\
   ∃n' t1,(fo=false->n'=false->(I3 m (d+1) f a s).st.out=[])/\evP ⟨env,T,A1⟩ (.body 25 [.ptr 0 0 0,.int .i64 f,l9 fa 1 a] ⟨E7 fa fd fo false m s a,nE fa fd fo,[]⟩)=some (wW (I3 m (d+1) f a s) fun s'=>⟨E7 fa fd fo n' m s' a,nE fa fd fo,t1⟩):=by
   intro fa fd fo f a s hp hz hd ho;obtain⟨⟨f0,f1⟩,hs,hcl⟩:=hp;obtain⟨f,rfl⟩:∃k:Nat,f=k:=⟨f.toNat,by omega⟩
   have hf:f<m.fs.length:=by omega
   rw[I3];by_cases h32:32<=s.calls
   . rw[if_pos h32]
     obtain⟨t1,e⟩:=AI (T:=T) (m:=m) (s:=s) (fa:=fa) (fd:=fd) (fo:=fo) (a:=a) (f:=f) R h32;exact⟨⟨hs,zko _,fun _ _ e=>by cases e⟩,false,t1,fun e _=>ho e,e⟩
   . rw [if_neg h32,tB hf]
     have hC:=hM.f _ (zqb hf);have hs':Sok m (aC s):=⟨hs.d,hs.st,hs.ou,by show 0<=s.calls+1/\s.calls+1<=33;have:=hs.ca;omega⟩
     obtain⟨g1,n2,t1,g2,g3⟩:=AJ (fa:=fa) (fd:=fd) (fo:=fo) (a:=a) R i2 i1 hC (fun e=>hs.d.len0 (hd e)) (s.steps.toNat+1) 0 false (initR m.fs[f].regs.length a) (aC s) [0] hC.nb (Lt _ _) hs' (by show 1<=s.calls+1;have:=hs.ca;omega) (by show s.calls+1=cl+1;omega) (by show s.steps.toNat<s.steps.toNat+1;omega) (fun e _=>ho e);have hb:=hs.ca.1;show(Sok m (J7 m (I3 m d) m.fs[f] (s.steps.toNat+1) 0 (initR m.fs[f].regs.length a) (aC s)).st/\(J7 m (I3 m d) m.fs[f] (s.steps.toNat+1) 0 (initR m.fs[f].regs.length a) (aC s)).st.steps<=s.steps/\∀v s',J7 m (I3 m d) m.fs[f] (s.steps.toNat+1) 0 (initR m.fs[f].regs.length a) (aC s)=.ret v s'->s'.calls=s.calls)/\∃n' t1,(fo=false->n'=false->(J7 m (I3 m d) m.fs[f] (s.steps.toNat+1) 0 (initR m.fs[f].regs.length a) (aC s)).st.out=[])/\_=some (wW (J7 m (I3 m d) m.fs[f] (s.steps.toNat+1) 0 (initR m.fs[f].regs.length a) (aC s)) _)
     replace g1:OutE m (aC s) (J7 m (I3 m d) m.fs[f] (s.steps.toNat+1) 0 (initR m.fs[f].regs.length a) (aC s)):=g1
     replace g3:fo=false->n2=false->(J7 m (I3 m d) m.fs[f] (s.steps.toNat+1) 0 (initR m.fs[f].regs.length a) (aC s)).st.out=[]:=g3
     replace g2:evP ⟨env,T,A1⟩ (.code (.loop o5) (Q3 fa fd fo false (initR m.fs[f].regs.length a) 0) (msL fa fd fo false m (aC s) a m.fs[f] (initR m.fs[f].regs.length a) [0]))=some (OA fa fd fo m a (J7 m (I3 m d) m.fs[f] (s.steps.toNat+1) 0 (initR m.fs[f].regs.length a) (aC s)) n2 t1):=g2
     cases hy:J7 m (I3 m d) m.fs[f] (s.steps.toNat+1) 0 (initR m.fs[f].regs.length a) (aC s)with
     | ret v s2 =>
      rw[hy]at g1 g2 g3;obtain⟨t2,e⟩:=JH h32 hb hf hC.nr hz g2;refine⟨⟨g1.ok,g1.st,fun v' s' e=>?_⟩,n2,t2,g3,e⟩;cases e
      have:s2.calls=s.calls+1-1:=g1.rt _ _ rfl
      omega
     | stop z e s2 =>
      rw[hy]at g1 g2 g3;obtain⟨t2,e⟩:=JI h32 hb hf hC.nr hz g2;exact⟨⟨g1.ok,g1.st,fun _ _ e=>by cases e⟩,n2,t2,g3,e⟩
  refine⟨fun f a s hp=>?_,fun fa fd fo f a s hp hz hd ho=>(key fa fd fo f a s hp hz hd ho).2⟩;exact(key true true true f a s hp (fun e=>by cases e) (fun e=>by cases e) (fun e=>by cases e)).1
end
def Jo(g:Glo):Nat:=(max g.size 1).toNat
def Ci(l:List Glo):List (List Int):=l.map fun g=>zqc (Jo g) 0
section
variable {m:Modl}{input:List Int}{steps:Int}{i:Nat}{K:PK}
def sI(steps:Int)(input:List Int)(l:List Glo):Mst:=⟨steps,input,Ci l,[],0⟩
theorem JJ{a:Int}:E9 env .max [3,3] [.int .i64 a,.int .i64 1] K=some (.int .i64 (max a 1),K):=by
 have e:E9 env .max [3,3] [.int .i64 a,.int .i64 1] K=some (.int .i64 (bif intLe 1 a then a else 1),K):=rfl;rw[e,N6];by_cases h:1<=a
 . rw[decide_eq_true h,cond_true,Int.max_eq_left h]
 . rw[decide_eq_false h,cond_false,Int.max_eq_right (by omega)]
theorem tC{x:AV}:AV.withCells .nilptr 0 [x]=x:=rfl
theorem lH(a b d e:Nat):Jx (.msl a b d e)=false:=rfl
theorem lI:Jx .nilsl=false:=rfl
def dV(d:List (List Int)):AV:=match d with|[]=>.nilsl|_::_=>.msl 4 0 d.length 1
def dW(d:List (List Int)):List PO:=match d with|[]=>[]|_::_=>[.row 0 (d.map rowO) 1]
def iU(m:Modl)(s:Mst):PK:=⟨.row 1 [m.F] 2::.row 1 [.agg [.nilsl,.int .i64 0,.int .i64 0]] 3::.row 1 [.ptr 3 0 0] 1::.row 1 [mB m s (dV s.data) .nilsl] 9::dW s.data,0,[]⟩
theorem tD{d:List (List Int)}(h:d≠[]):dV d=.msl 4 0 d.length 1:=by cases d with|nil=>exact absurd rfl h|cons _ _=>rfl
theorem tE{d:List (List Int)}(h:d≠[]):dW d=[.row 0 (d.map rowO) 1]:=by cases d with|nil=>exact absurd rfl h|cons _ _=>rfl
theorem XA(h:0<m.gs.length)(hz:∀g∈m.gs,g.size<=100000):evP ⟨env,T,A1⟩ (.code Iw [(3,.ptr 0 0 0),(6,.ptr 1 0 0),(7,.ptr 2 0 0),(17,fslN (m.gs.map Glo.F)),(18,.int .i64 (m.gs.length:Int)),(19,.int .i64 0)] (iU m (sI steps input [])))=some (.ok .normal [(3,.ptr 0 0 0),(6,.ptr 1 0 0),(7,.ptr 2 0 0),(17,fslN (m.gs.map Glo.F)),(18,.int .i64 (m.gs.length:Int)),(19,.int .i64 ((1:Nat):Int))] (iU m (sI steps input (m.gs.take 1)))):=by
 have hzi:=hz _ (zqb h);have hlt:decide ((0:Int)<(m.gs.length:Int))=true:=by simp[h]
 have hi:Hs Cg (fslN (m.gs.map Glo.F)) (.int .i64 0)=some (.fptr m.gs[0].F 0):=ix_fslN (i:=0) (A6 (F:=Glo.F) h) rfl;have hm:max m.gs[0].size 1=(Jo m.gs[0]:Int):=by unfold Jo;omega
 have mk:=fun k k' K=>NZ (k:=k) (k':=k') (n:=Jo m.gs[0]) (K:=K) (by unfold Jo;omega)
 have ht:m.gs.take 1=[m.gs[0]]:=by
  rw[zkd h];rfl
 rw[ht];unfold Iw iU sI;unfold mB Modl.F;simp only[Glo.F]at hi|-;simp only[dV,dW,Ci,zkj,zqh,zqn,zkk,Nat.zero_add];simp -implicitDefEqProofs only[hlt,hi,hm,aB,mk,lH,lI,zka,zqa,JJ,show IntKind.i64.wrap (0+1)=((1:Nat):Int)from rfl,XP,Nat.reduceAdd,Nat.reduceSub,Nat.reduceLT,Nat.reduceLeDiff,Nat.reduceEqDiff,Nat.reduceMul,↓reduceIte];rfl
theorem XB(h:i<m.gs.length)(h0:0<i)(hz:∀g∈m.gs,g.size<=100000)(hl:m.gs.length<=100000):evP ⟨env,T,A1⟩ (.code Iw [(3,.ptr 0 0 0),(6,.ptr 1 0 0),(7,.ptr 2 0 0),(17,fslN (m.gs.map Glo.F)),(18,.int .i64 (m.gs.length:Int)),(19,.int .i64 (i:Int))] (iU m (sI steps input (m.gs.take i))))=some (.ok .normal [(3,.ptr 0 0 0),(6,.ptr 1 0 0),(7,.ptr 2 0 0),(17,fslN (m.gs.map Glo.F)),(18,.int .i64 (m.gs.length:Int)),(19,.int .i64 ((i+1:Nat):Int))] (iU m (sI steps input (m.gs.take (i+1))))):=by
 have hzi:=hz _ (zqb h);have hlt:decide ((i:Int)<(m.gs.length:Int))=true:=by simp[h]
 have hw:=B2 (i:=i) (by omega);have hi:=A6 (F:=Glo.F) h;have hm:max m.gs[i].size 1=(Jo m.gs[i]:Int):=by unfold Jo;omega
 have mk:=fun k k' K=>NZ (k:=k) (k':=k') (n:=Jo m.gs[i]) (K:=K) (by unfold Jo;omega)
 have hz8:(i+1)*24<=140737488355328:=by omega
 have hd:Ci (m.gs.take (i+1))=Ci (m.gs.take i)++[zqc (Jo m.gs[i]) 0]:=by
  rw[zkd h];unfold Ci;rw[zqz];rfl
 have hdl:(Ci (m.gs.take i)).length=i:=by simp[Ci];omega
 unfold sI;rw[hd];have hne:Ci (m.gs.take i)≠[]:=fun e=>by rw[e]at hdl;simp at hdl;omega
 have hne2:Ci (m.gs.take i)++[zqc (Jo m.gs[i]) 0]≠[]:=by simp
 have hv:=tD hne;have hwv:=tE hne;have hv2:=tD hne2;have hwv2:=tE hne2;rw[zqz,show [zqc (Jo m.gs[i]) (0:Int)].map rowO=[ownd 0 1 (ints (zqc (Jo m.gs[i]) 0))]from rfl]at hwv2;rw[zki,List.length_singleton,hdl]at hv2;rw[hdl]at hv;unfold Iw iU;dsimp only;rw[hv,hwv,hv2,hwv2];unfold mB Modl.F;simp only[Glo.F]at hi|-;simp -implicitDefEqProofs only[hlt,hi,hw,hm,hdl,hz8,aB,mk,lH,lI,zka,zqa,JJ,s4,zqi,zqj,Nat.reduceBEq,XP,Nat.reduceAdd,Nat.reduceSub,Nat.reduceLT,Nat.reduceLeDiff,Nat.reduceEqDiff,Nat.reduceMul,↓reduceIte]
theorem JK:∃fr',evP ⟨env,T,A1⟩ (.code Iw [(3,.ptr 0 0 0),(6,.ptr 1 0 0),(7,.ptr 2 0 0),(17,fslN (m.gs.map Glo.F)),(18,.int .i64 (m.gs.length:Int)),(19,.int .i64 (m.gs.length:Int))] K)=some (.ok (.exit 0) fr' K)/\lookP fr' 3=.ptr 0 0 0/\lookP fr' 6=.ptr 1 0 0/\lookP fr' 7=.ptr 2 0 0:=by
 unfold Iw;have hlt:decide ((m.gs.length:Int)<(m.gs.length:Int))=false:=by simp
 simp -implicitDefEqProofs only[hlt,XP,seval];exact⟨_,rfl,rfl,rfl,rfl⟩
theorem XD(hz:∀g∈m.gs,g.size<=100000)(hl:m.gs.length<=100000):∃fr',evP ⟨env,T,A1⟩ (.code (.loop Iw) [(3,.ptr 0 0 0),(6,.ptr 1 0 0),(7,.ptr 2 0 0),(17,fslN (m.gs.map Glo.F)),(18,.int .i64 (m.gs.length:Int)),(19,.int .i64 0)] (iU m (sI steps input [])))=some (.ok (.exit 0) fr' (iU m (sI steps input m.gs)))/\lookP fr' 3=.ptr 0 0 0/\lookP fr' 6=.ptr 1 0 0/\lookP fr' 7=.ptr 2 0 0:=by
 by_cases h0:m.gs.length=0
 . have h1:m.gs=[]:=zkb.1 h0
   obtain⟨fr',e,p⟩:=JK (T:=T) (m:=m) (K:=iU m (sI steps input []));rw[h1]at e|-;exact⟨fr',C6 e,p⟩
 . have:=U5 (P:=⟨env,T,A1⟩) (c:=Iw) (fun i=>([(3,.ptr 0 0 0),(6,.ptr 1 0 0),(7,.ptr 2 0 0),(17,fslN (m.gs.map Glo.F)),(18,.int .i64 (m.gs.length:Int)),(19,.int .i64 ((i+1:Nat):Int))],iU m (sI steps input (m.gs.take (i+1))))) (m.gs.length-1) fun i hi=>XB (by omega) (by omega) hz hl
   obtain⟨fr',e,p⟩:=JK (T:=T) (m:=m) (K:=iU m (sI steps input m.gs));refine⟨fr',?_,p⟩;rw[loop_more (XA (by omega) hz),this];simp only[show m.gs.length-1+1=m.gs.length by omega];rw[zqm (by omega)];exact C6 e
theorem JL(hz:∀g∈m.gs,g.size<=100000)(hl:m.gs.length<=100000):evP ⟨env,T,A1⟩ (.code rE (enterP 0 [m.F,fslN (ints input),.int .i64 steps]) ⟨[],0,[]⟩)=some (.ok .normal [(3,.ptr 0 0 0),(6,.ptr 1 0 0),(7,.ptr 2 0 0),(37,.fn (.func 24) [] [.ptr 2 0 0,.ptr 1 0 0])] (iU m (sI steps input m.gs))):=by
 obtain⟨fr',h,h1,h2,h3⟩:=XD (T:=T) (steps:=steps) (input:=input) hz hl;unfold rE;unfold iU at h|-;cases hd:Ci m.gs with
 | nil =>
  simp only[sI,hd,dV,dW,show Ci []=[]from rfl]at h|-;unfold mB Modl.F at h|-;dsimp only at h|-;simp -implicitDefEqProofs only[h,h1,h2,h3,tC,zqa,XP,Nat.reduceAdd,Nat.reduceSub,Nat.reduceLT,Nat.reduceLeDiff,Nat.reduceEqDiff,Nat.reduceMul,↓reduceIte]
 | cons y ys =>
  simp only[sI,hd,dV,dW,show Ci []=[]from rfl]at h|-;unfold mB Modl.F at h|-;dsimp only at h|-;simp -implicitDefEqProofs only[h,h1,h2,h3,tC,zqa,XP,Nat.reduceAdd,Nat.reduceSub,Nat.reduceLT,Nat.reduceLeDiff,Nat.reduceEqDiff,Nat.reduceMul,↓reduceIte]
end
section
variable {m:Modl}{s s2:Mst}{fd n':Bool}{f v st e:Int}{t0:List Nat}
def oQ(n':Bool)(i:Nat)(o:List Int):AV:=match n' with|true=>.msl i 0 o.length 1|false=>.nilsl
def Bv:AV:=.agg [.nilsl,.int .i64 0,.int .i64 0]
def Bw(fd n':Bool)(m:Modl)(x:AV)(s:Mst):List PO:=.row 1 [m.F] 2::.row 1 [x] 3::.row 1 [.ptr 3 0 0] 1::.row 1 [mB m s (dA fd 4 s) (oQ n' (4+nB fd) s.out)] 9::(dR fd s++oG n' s.out)
def oV(fd:Bool):List Nat:=3::(match fd with|true=>[4]|false=>[])
theorem JM(R:RunT T)(hb:evP ⟨env,T,A1⟩ (.body 25 [.ptr 0 0 0,.int .i64 f,.nilsl] ⟨E7 false fd false false m s [],nE false fd false,[]⟩)=some (.val [.int .i64 v] ⟨E7 false fd false n' m s2 [],nE false fd false,t0⟩)):
 ∃t1,∀tch,evP ⟨env,T,A1⟩ (.call 25 [.ptr 3 0 0,.int .i64 f,.nilsl] ⟨Bw fd false m Bv s,4+nB fd,tch⟩)=some (.val [.int .i64 v] ⟨Bw fd n' m Bv s2,4+nB fd,t1++tch⟩):=by
 refine⟨((t0.filter (· < (oV fd).length)).map fun j=>(oV fd).getD j 0),fun tch=>mH (ids:=oV fd) (args':=[.ptr 0 0 0,.int .i64 f,.nilsl]) (Kf:=⟨E7 false fd false false m s [],nE false fd false,[]⟩) R.hL rfl ?_ ?_ ?_ hb ?_ ?_⟩<;>cases fd<;>cases n'<;>rfl
theorem CK(R:RunT T)(hb:evP ⟨env,T,A1⟩ (.body 25 [.ptr 0 0 0,.int .i64 f,.nilsl] ⟨E7 false fd false false m s [],nE false fd false,[]⟩)=some (.pan (D8 st e) ⟨E7 false fd false n' m s2 [],nE false fd false,t0⟩)):
 ∃t1,∀tch,evP ⟨env,T,A1⟩ (.call 25 [.ptr 3 0 0,.int .i64 f,.nilsl] ⟨Bw fd false m Bv s,4+nB fd,tch⟩)=some (.pan (D8 st e) ⟨Bw fd n' m Bv s2,4+nB fd,t1++tch⟩):=by
 refine⟨((t0.filter (· < (oV fd).length)).map fun j=>(oV fd).getD j 0),fun tch=>Zz (ids:=oV fd) (args':=[.ptr 0 0 0,.int .i64 f,.nilsl]) (Kf:=⟨E7 false fd false false m s [],nE false fd false,[]⟩) R.hL rfl ?_ ?_ ?_ hb ?_ ?_⟩<;>cases fd<;>cases n'<;>rfl
def s5(m:Modl):Int:=idxOf (fun c:Cod=>decide (c.name=E2)) m.fs
def w4(fd n':Bool)(o:List Int)(st e:Int):AV:=.agg [oQ n' (4+nB fd) o,.int .i64 st,.int .i64 e]
theorem JN(R:RunT T)(hm:T 20=some L3)(hs:m.fs.length<=bigN)(hb:evP ⟨env,T,A1⟩ (.body 25 [.ptr 0 0 0,.int .i64 (s5 m),.nilsl] ⟨E7 false fd false false m s [],nE false fd false,[]⟩)=some (.val [.int .i64 v] ⟨E7 false fd false n' m s2 [],nE false fd false,t0⟩)):
 ∃t1,evP ⟨env,T,A1⟩ (.code iG [(3,.ptr 0 0 0),(6,.ptr 1 0 0),(7,.ptr 2 0 0),(37,.fn (.func 24) [] [.ptr 2 0 0,.ptr 1 0 0])] ⟨Bw fd false m Bv s,4+nB fd,[]⟩)=some (.ok .ret [(6,.ptr 1 0 0)] ⟨Bw fd n' m (w4 fd n' s2.out 1 v) s2,4+nB fd,t1⟩):=by
 obtain⟨t1,hc⟩:=JM R hb;have hq:=fun K=>Gx (K:=K) (m:=m) hm hs
 unfold s5 at hc;unfold iG Bw w4;unfold Bw at hc;unfold mB Modl.F Bv at hc|-;unfold Modl.F at hq;cases fd<;>cases n'<;>(
  simp only[dA,dR,nB,oQ,oG,Nat.reduceAdd,zqe,zqd,zqf]at hc|-;simp -implicitDefEqProofs only[hc,hq,s4,zqi,zqj,Nat.reduceBEq,XP,seval];exact⟨_,rfl⟩)
theorem CL(R:RunT T)(hm:T 20=some L3)(hs:m.fs.length<=bigN)(hb:evP ⟨env,T,A1⟩ (.body 25 [.ptr 0 0 0,.int .i64 (s5 m),.nilsl] ⟨E7 false fd false false m s [],nE false fd false,[]⟩)=some (.pan (D8 st e) ⟨E7 false fd false n' m s2 [],nE false fd false,t0⟩)):
 ∃t1,evP ⟨env,T,A1⟩ (.code iG [(3,.ptr 0 0 0),(6,.ptr 1 0 0),(7,.ptr 2 0 0),(37,.fn (.func 24) [] [.ptr 2 0 0,.ptr 1 0 0])] ⟨Bw fd false m Bv s,4+nB fd,[]⟩)=some (.pan (D8 st e) ⟨Bw fd n' m Bv s2,4+nB fd,t1⟩):=by
 obtain⟨t1,hc⟩:=CK R hb;have hq:=fun K=>Gx (K:=K) (m:=m) hm hs
 unfold s5 at hc;unfold iG Bw;unfold Bw at hc;unfold mB Modl.F Bv D8 at hc|-;unfold Modl.F at hq;cases fd<;>cases n'<;>(
  simp only[dA,dR,nB,oQ,oG,Nat.reduceAdd,zqe,zqd,zqf]at hc|-;simp -implicitDefEqProofs only[hc,hq,Xa,Xb,s4,zqi,zqj,Nat.reduceBEq,XP,seval];exact⟨_,rfl⟩)
theorem CM:∃fr3 t1,evP ⟨env,T,A1⟩ (.rcv (.fn (.func 24) [] [.ptr 2 0 0,.ptr 1 0 0]) .niliface ⟨Bw fd n' m (w4 fd n' s.out st e) s,(Bw fd n' m (w4 fd n' s.out st e) s).length,[]⟩)=some (.ok .normal fr3 ⟨Bw fd n' m (w4 fd n' s.out st e) s,(Bw fd n' m (w4 fd n' s.out st e) s).length,t1⟩):=by
 have key:∃fr3 t1,evP ⟨env,T,A1⟩ (.code rF (setPs' [4,2] [.niliface,.niliface] (enterP 0 [.ptr 2 0 0,.ptr 1 0 0])) ⟨Bw fd n' m (w4 fd n' s.out st e) s,(Bw fd n' m (w4 fd n' s.out st e) s).length,[]⟩)=some (.ok .normal fr3 ⟨Bw fd n' m (w4 fd n' s.out st e) s,(Bw fd n' m (w4 fd n' s.out st e) s).length,t1⟩):=by
  unfold rF Bw w4;unfold mB Modl.F;cases fd<;>cases n'<;>(
   simp only[dA,dR,nB,oQ,oG,setPs',Nat.reduceAdd,zqe,zqd,zqf];simp -implicitDefEqProofs only[AE,AF,sR,XP,seval];exact⟨_,_,rfl⟩)
 obtain⟨fr3,t1,h⟩:=key;exact⟨fr3,t1,AX (b:=false) rfl (by decide) h⟩
theorem xA:∃fr3 t1,evP ⟨env,T,A1⟩ (.rcv (.fn (.func 24) [] [.ptr 2 0 0,.ptr 1 0 0]) (D8 st e) ⟨Bw fd n' m Bv s,(Bw fd n' m Bv s).length,[]⟩)=some (.ok .normal fr3 ⟨Bw fd n' m (w4 fd n' s.out st e) s,(Bw fd n' m Bv s).length,t1⟩):=by
 have key:∃fr3 t1,evP ⟨env,T,A1⟩ (.code rF (setPs' [4,2] [D8 st e,D8 st e] (enterP 0 [.ptr 2 0 0,.ptr 1 0 0])) ⟨Bw fd n' m Bv s,(Bw fd n' m Bv s).length,[]⟩)=some (.ok .normal fr3 ⟨Bw fd n' m (w4 fd n' s.out st e) s,(Bw fd n' m Bv s).length,t1⟩):=by
  unfold rF Bw w4 D8 Bv;unfold mB Modl.F;cases fd<;>cases n'<;>(
   simp only[dA,dR,nB,oQ,oG,setPs',Nat.reduceAdd,zqe,zqd,zqf];simp -implicitDefEqProofs only[AE,AF,sR,IL,WM,Xa,Xb,XP,seval];exact⟨_,_,rfl⟩)
 obtain⟨fr3,t1,h⟩:=key;exact⟨fr3,t1,AX (b:=false) rfl (by decide) h⟩
end
section
variable {m:Modl}{input:List Int}{steps:Int}
def O4(m:Modl)(input:List Int)(steps:Int):Rs:=I3 m 33 (s5 m) [] (sI steps input m.gs)
def Rs.sc:Rs->Int×Int | .ret v _=>(1,v) | .stop st c _=>(st,c)
def Oh(m:Modl)(input:List Int)(steps:Int):List Int:=(O4 m input steps).st.out
structure RunOk(m:Modl)(steps:Int):Prop where
 mr:ModR' m
 gz:∀g∈m.gs,g.size<=100000
 gl:m.gs.length<=100000
 fl:m.fs.length<=bigN
 mn:0<=s5 m/\s5 m<m.fs.length
 st:steps<=20000
theorem xB(l:List Glo):j6 ⟨l,m.fs⟩ (Ci l):=by
 refine⟨by simp[Ci],fun i r g hr hg=>?_⟩;unfold Ci at hr;rw[zqv]at hr
 replace hg:l[i]?=some g:=hg
 rw[hg]at hr;cases hr;rw[zka];unfold Jo;omega
theorem JO(h:RunOk m steps):Sok m (sI steps input m.gs):=⟨xB (m:=m) m.gs,h.st,by have:=h.st;show 0+steps.toNat<=30000;omega,by show(0:Int)<=0/\(0:Int)<=33;decide⟩
def gsB(m:Modl):Bool:=!m.gs.isEmpty
theorem CN(s:Mst)(h:gsB m=false->s.data=[])(h2:gsB m=true->s.data≠[])(ho:s.out=[]):iU m s=⟨Bw (gsB m) false m Bv s,0,[]⟩:=by
 unfold iU Bw Bv;cases hb:gsB m with
 |false=>rw[h hb];rfl
 |true=>rw[tD (h2 hb),tE (h2 hb)];rfl
def aD(o:List Int)(st e:Int):AV:=.agg [ownd 0 1 (ints o),.int .i64 st,.int .i64 e]
theorem eK{fd n':Bool}{s:Mst}{st e:Int}(hz:n'=false->s.out=[]):backOk [w4 fd n' s.out st e] [aD s.out st e] (Bw fd n' m (w4 fd n' s.out st e) s):=by
 have hl:(ints s.out).length=s.out.length:=by simp[ints]
 cases n' with
 | true =>
  unfold w4 Bw aD oQ;cases fd<;>(
   refine back_of (vs':=[.agg [.msl _ 0 s.out.length 1,.int .i64 st,.int .i64 e]]) rfl (by simp[refsL,I4]) (us:=[.agg [.msl 0 0 (ints s.out).length 1,.int .i64 st,.int .i64 e]]) (ps:=[.row 0 (ints s.out) 1]) rfl ?_ ?_
   . rw[hl];rfl
   . rfl)
 | false =>
  rw[hz rfl];unfold w4 Bw aD oQ;cases fd<;>exact back_of (vs':=[.agg [.msl _ 0 0 1,.int .i64 st,.int .i64 e]]) rfl (by simp[refsL,I4]) rfl rfl rfl
theorem lJ(h:gsB m=false):(sI steps input m.gs).data=[]:=by
 have:m.gs=[]:=by unfold gsB at h;simpa using h
 show Ci m.gs=[];rw[this];rfl
theorem JP(h:gsB m=true):(sI steps input m.gs).data≠[]:=by
 show Ci m.gs≠[]
 unfold gsB at h;unfold Ci;cases hg:m.gs with|nil=>rw[hg]at h;cases h|cons _ _=>simp
theorem oW(R:RunT T)(hm:T 20=some L3)(h:RunOk m steps):AM.Comes ⟨env,T,A1⟩ 11 [m.F,fslN (ints input),.int .i64 steps] [aD (Oh m input steps) (O4 m input steps).sc.1 (O4 m input steps).sc.2]:=by
 have hs:=JO (input:=input) h;obtain⟨n',t0,q1,q2⟩:=(eJ R h.mr 33 0 (by decide) (by decide)).2 false (gsB m) false (s5 m) [] (sI steps input m.gs) ⟨h.mn,hs,rfl⟩ (fun _=>rfl) (fun e=>lJ e) (fun _=>rfl)
 replace q2:evP ⟨env,T,A1⟩ (.body 25 [.ptr 0 0 0,.int .i64 (s5 m),.nilsl] ⟨E7 false (gsB m) false false m (sI steps input m.gs) [],nE false (gsB m) false,[]⟩)=some (wW (O4 m input steps) fun s'=>⟨E7 false (gsB m) false n' m s' [],nE false (gsB m) false,t0⟩):=q2
 replace q1:false=false->n'=false->(O4 m input steps).st.out=[]:=q1
 have ha:=JL (T:=T) (steps:=steps) (input:=input) h.gz h.gl;rw[CN _ (fun e=>lJ e) (fun e=>JP e) rfl]at ha;have hlen:(Bw (gsB m) false m Bv (sI steps input m.gs)).length=4+nB (gsB m):=by unfold Bw dR oG nB;cases gsB m<;>rfl
 unfold Oh;cases hy:O4 m input steps with
 | ret v s2 =>
  rw[hy]at q1 q2;obtain⟨t1,hc⟩:=JN R hm h.fl q2;rw[<-hlen]at hc;obtain⟨fr3,t2,hr⟩:=CM (T:=T) (m:=m) (fd:=gsB m) (n':=n') (s:=s2) (st:=1) (e:=v);refine⟨[w4 (gsB m) n' s2.out 1 v],⟨Bw (gsB m) n' m (w4 (gsB m) n' s2.out 1 v) s2,0,t2++(t1++[])⟩,?_,eK fun e=>q1 rfl e⟩;rw[mE (a:=rE) (g:=.tmp 37) (c:=iG) (nt:=49) (rs:=[.cell 6 36]) rfl (by simp),show K0=(⟨[],0,[]⟩:PK)from rfl,LJ (g:=.tmp 37) ha hc hr];clear hc hr ha hlen q2;generalize gsB m=fd;cases fd<;>cases n'<;>rfl
 | stop st e s2 =>
  rw[hy]at q1 q2;obtain⟨t1,hc⟩:=CL R hm h.fl q2;rw[<-hlen]at hc;obtain⟨fr3,t2,hr⟩:=xA (T:=T) (m:=m) (fd:=gsB m) (n':=n') (s:=s2) (st:=st) (e:=e);refine⟨[w4 (gsB m) n' s2.out st e],⟨Bw (gsB m) n' m (w4 (gsB m) n' s2.out st e) s2,0,t2++(t1++[])⟩,?_,eK fun e=>q1 rfl e⟩;rw[mE (a:=rE) (g:=.tmp 37) (c:=iG) (nt:=49) (rs:=[.cell 6 36]) rfl (by simp),show K0=(⟨[],0,[]⟩:PK)from rfl,EF (g:=.tmp 37) ha hc hr];clear hc hr ha hlen q2;generalize gsB m=fd;cases fd<;>cases n'<;>rfl
end
theorem Sx{l:List Int}(h:G0 l=0):∀e∈l,e=0:=by
 induction l with
 |nil=>intro e he;cases he
 | cons a l ih =>
  unfold G0 at h;by_cases q:a=0
  . rw[if_pos q]at h
    intro e he;rcases zqp.1 he with rfl|he
    . exact q
    . exact ih h e he
  . rw[if_neg q]at h;exact absurd h q
theorem Dx{m:Modl}(h:N3 m=0):(∀c∈m.fs,R6 m c=0)/\Sm m=0:=by
 unfold N3 at h;by_cases q:G0 (m.gs.map Sl)=0
 . rw [if_pos q]at h
   by_cases q2:G0 (m.fs.map (R6 m))=0
   . rw[if_pos q2]at h
     exact⟨fun c hc=>Sx q2 _ (zke hc),h⟩
   . rw[if_neg q2]at h;exact absurd h q2
 . rw[if_neg q]at h;exact absurd h q
theorem Pn{m:Modl}{c:Cod}(h:R6 m c=0):(1<=c.blocks.length/\c.regs.length<=4096/\c.ps<=c.regs.length)/\∀b∈c.blocks,Oe m c b=0:=by
 unfold R6 at h;split at h
 . cases h
 . rename_i h1
   split at h
   . cases h
   . split at h
     . cases h
     . exact⟨by omega,fun b hb=>Sx h _ (zke hb)⟩
theorem tF{m:Modl}{c:Cod}{b:Blk}(h:Oe m c b=0):(∀x∈b.code,H9 m c x=0)/\Jk c b.e=0:=by
 unfold Oe at h;split at h
 . rename_i q;exact⟨fun x hx=>Sx q _ (zke hx),h⟩
 . rename_i q;exact absurd h q
theorem CO{m:Modl}{n:Int}{b:Bool}(h:N2 m n b=true):0<=n/\n<m.gs.length:=by
 unfold N2 at h;exact thereD_iff.1 (zkx.1 h).1
theorem xC{x:Ins}(h:r7 x=true):1<=x.op/\x.op<=11:=by
 unfold r7 at h;by_cases h3:x.op=3
 . omega
 . rw [if_neg h3]at h
   by_cases h4:x.op=4
   . omega
   . rw[if_neg h4,Bool.and_eq_true]at h
     exact⟨of_decide_eq_true h.1,of_decide_eq_true h.2⟩
theorem CP{c:Cod}{x:Ins}(h:r8 x=false)(hw:bR c x=true)(ho:x.op=1\/x.op=2\/x.op=3\/x.op=4\/x.op=5\/x.op=7\/x.op=10):0<=x.dst/\x.dst<c.regs.length:=by
 have hwd:writesD x=x.dst:=by unfold writesD;rcases ho with e|e|e|e|e|e|e<;>simp[e]
 have h9:¬x.op=9:=by omega
 have hd:¬x.dst<0:=by
  intro hn;unfold r8 at h;rw[decide_eq_true hn,Bool.and_true]at h
  have:(Lr.any fun n=>decide (x.op=n))=true:=by
   rw[List.any_eq_true];refine⟨x.op,?_,by simp⟩;rcases ho with e|e|e|e|e|e|e<;>rw[e]<;>decide
  rw[this]at h;cases h
 unfold bR at hw;rw[hwd,decide_eq_false h9,decide_eq_false (show ¬x.dst=-1 by omega)]at hw;simp only[Bool.not_false,Bool.true_or,Bool.true_and,Bool.not_not]at hw;exact thereD_iff.1 hw
theorem CQ{m:Modl}{c:Cod}{x:Ins}(hp:∀c∈m.fs,c.ps<=c.regs.length/\c.regs.length<=4096)(h:H9 m c x=0):InsR m c.regs.length x:=by
 unfold H9 at h;split at h
 . rename_i hf
   split at h
   . rename_i hpl
     have hop:=xC hf;unfold C8 at hpl;obtain⟨h1,h2⟩:=zkx.1 hpl;obtain⟨h2,h3⟩:=zkx.1 h2;obtain⟨h3,h4⟩:=zkx.1 h3;have h3:r8 x=false:=by simpa using h3
     have hrd:∀r∈readsD x,0<=r/\r<(c.regs.length:Int):=fun r hr=>thereD_iff.1 (zkl.1 h1 r hr)
     refine⟨hop,CP h3 h2,fun ho=>hrd _ ?_,fun ho=>hrd _ ?_,fun ho=>?_,fun ho=>?_⟩
     . unfold readsD;rcases ho with e|e|e|e|e|e|e<;>simp[e]
     . unfold readsD;rcases ho with e|e<;>simp[e]
     . unfold iO at h4
       rcases ho with e|e|e|e<;>(simp only[e,Int.reduceEq,↓reduceIte]at h4;exact CO h4)
     . unfold iO at h4
       simp only[ho,Int.reduceEq,↓reduceIte]at h4;obtain⟨h5,h6⟩:=zkx.1 h4;have h5:=thereD_iff.1 h5;rw[if_pos ho]at h;split at h
       . rename_i hl
         have hm:codI m.fs x.n∈m.fs:=by
          unfold codI;rw[zqg,zkm (show x.n.toNat<m.fs.length by omega)];exact zqb _
         have:=hp _ hm
         refine⟨h5,fun y hy=>hrd _ ?_,by omega,?_⟩
         . unfold readsD;simp only[ho,Int.reduceEq,↓reduceIte];exact hy
         . by_cases hd:0<=x.dst
           . have hwd:writesD x=x.dst:=by unfold writesD;simp only[ho,Int.reduceEq,↓reduceIte];rw[if_pos (by omega)]
             unfold bR at h2;rw[hwd,decide_eq_true ho,decide_eq_true hd,decide_eq_false (show ¬x.dst=-1 by omega)]at h2;simp only[Bool.not_true,Bool.not_false,Bool.or_true,Bool.true_and,Bool.not_not]at h2;exact(thereD_iff.1 h2).2
           . omega
       . cases h
   . cases h
 . cases h
theorem CS{c:Cod}{e:Endd}(h:Jk c e=0):EndR c.blocks.length c.regs.length e:=by
 unfold Jk at h;by_cases k1:e.kind=1
 . rw [if_pos k1]at h
   split at h
   . rename_i q
     exact⟨by omega,fun k=>by omega,fun k=>by omega,fun _=>thereD_iff.1 q,fun k=>by omega⟩
   . cases h
 . rw [if_neg k1]at h
   by_cases k2:e.kind=2
   . rw [if_pos k2]at h
     split at h
     . rename_i q1
       split at h
       . rename_i q2
         split at h
         . rename_i q3
           exact⟨by omega,fun k=>by omega,fun _=>thereD_iff.1 q3,fun _=>thereD_iff.1 q1,fun _=>thereD_iff.1 q2⟩
         . cases h
       . cases h
     . cases h
   . rw [if_neg k2]at h
     split at h
     . rename_i k3
       refine⟨by omega,fun _=>?_,fun k=>by omega,fun k=>by omega,fun k=>by omega⟩;split at h
       . omega
       . split at h
         . rename_i q;exact(thereD_iff.1 q).2
         . cases h
     . cases h
theorem tG{m:Modl}(hm:m.ok)(h:N3 m=0):ModR' m:=by
 obtain⟨h1,h2⟩:=Dx h;have hp:∀c∈m.fs,c.ps<=c.regs.length/\c.regs.length<=4096:=fun c hc=>by have:=(Pn (h1 c hc)).1;omega
 refine⟨fun c hc=>?_⟩;obtain⟨q1,q2⟩:=Pn (h1 c hc);refine⟨q1.1,fun b hb=>?_,by omega⟩;obtain⟨q3,q4⟩:=tF (q2 b hb);have hb':=((hm.1 c hc).1.2.1 b hb).2;exact⟨by simp only[bigN]at hb';omega,fun x hx=>CQ hp (q3 x hx),CS q4⟩
theorem CT{α:Type}{p:α->Bool}{l:List α}:idxOf p l<l.length:=by
 unfold idxOf;split
 . rename_i i h
   obtain⟨h1,_⟩:=List.findIdx?_eq_some_iff_getElem.1 h;omega
 . omega
theorem aE{m:Modl}{steps:Int}(hm:m.ok)(hb:j5 m=false)(h:N3 m=0)(hs:steps<=20000):RunOk m steps:=by
 obtain⟨h1,h2⟩:=Dx h;unfold j5 at hb;split at hb
 . cases hb
 . rename_i hg
   split at hb
   . cases hb
   . rename_i hf
     split at hb
     . rename_i ha
       refine⟨tG hm h,fun g hgm=>?_,by omega,by simp only[bigN];omega,?_,hs⟩
       . have:=zkl.1 ha g hgm
         simp at this;omega
       . have hmi:z6 m=s5 m:=rfl
         rw[<-hmi];unfold Sm at h2;split at h2
         . cases h2
         . rename_i hn
           exact⟨by omega,CT⟩
     . cases hb
end Go.Proofs.AmEnv
set_option maxRecDepth 100000
namespace Go.AM
section
variable {K:PK}{os:List PO}{es cs:List AV}{c v:AV}{t te:TI}
theorem xD{ext r id i o q m sz z:Nat}(h:¬ext<=q):YC ext r id i o os cs q m sz (some (.row 0 es z))=none:=if_neg fun e=>h e.2.2.1
theorem tH:LQ c none=none:=rfl
theorem tI(id i off:Nat):LO t id i off K es v none=none:=rfl
theorem tJ(id:Nat)(l:List (Nat×AV)):YF te id l none=none:=rfl
def YK(te:TI)(n:Nat)(K:PK)(r:Option (List AV)):Option (AV×PK):=match r with|some es=>some (.msl K.os.length 0 n te.size,newRow 2 es te.size K)|none=>none
theorem tK(n:Nat)(ps:List (Nat×AV)):YE te n ps K none=YK te n K (placeR te.size ps (zqc n te.zero)):=rfl
theorem tL(n:Nat):YK te n K (some es)=some (.msl K.os.length 0 n te.size,newRow 2 es te.size K):=rfl
theorem xE(sz:Nat):placeR sz [] es=some es:=rfl
theorem tM{sz i:Nat}{l:List (Nat×AV)}(h1:i<es.length)(h2:v.cells.length=sz)(h3:v.cells.all Eb=true):placeR sz ((i,v)::l) es=placeR sz l (es.set i v):=if_pos ⟨h1,h2,h3⟩
end
end Go.AM
namespace Go.Proofs.AmEnv
open Go Go.AM
variable {T:Nat->Option (List AV->Option (List AV))}
theorem aF(hword_Bin:T 48=some V2)(hword_Wrap:T 49=some F2)(nir_trap:T 37=none)(nir_machine_element:T 50=none)(hir_there:T 46=some D4)(nir_machine_next:T 51=none)(nir_machine_step:T 38=none)(nir_machine_does:T 40=none)(nir_machine_calling:T 39=none)(nir_machine_call:T 25=none)(hir_mainOf:T 20=some L3){m:Modl}{input:List Int}{steps:Int}(hk:RunOk m steps):AM.Comes ⟨env,T,A1⟩ 11 [m.F,fslN (ints input),.int .i64 steps] [.agg [ownd 0 1 (ints (Oh m input steps)),.int .i64 (O4 m input steps).sc.1,.int .i64 (O4 m input steps).sc.2]]:=by
 exact oW ⟨hword_Bin,hword_Wrap,nir_trap,nir_machine_element,hir_there,nir_machine_next,nir_machine_step,nir_machine_does,nir_machine_calling,nir_machine_call⟩ hir_mainOf hk
def z7:=W3 (fun p:(Modl)×(List Int)×(Int)=>[p.1.F,fslN (ints p.2.1),.int .i64 p.2.2]) (fun p=>[.agg [ownd 0 1 (ints (Oh p.1 p.2.1 p.2.2)),.int .i64 (O4 p.1 p.2.1 p.2.2).sc.1,.int .i64 (O4 p.1 p.2.1 p.2.2).sc.2]]) (fun p=>RunOk p.1 p.2.2)
theorem xF(hir_Run:T 11=some z7){m:Modl}{input:List Int}{steps:Int}{K:PK}(hk:RunOk m steps):evP ⟨env,T,A1⟩ (.call 11 [m.F,fslN (ints input),.int .i64 steps] K)=some (.val (openTs K.os.length [.agg [ownd 0 1 (ints (Oh m input steps)),.int .i64 (O4 m input steps).sc.1,.int .i64 (O4 m input steps).sc.2]]).1 ⟨K.os++(openTs K.os.length [.agg [ownd 0 1 (ints (Oh m input steps)),.int .i64 (O4 m input steps).sc.1,.int .i64 (O4 m input steps).sc.2]]).2,K.ext,K.tch⟩):=B3 hir_Run (by simp -implicitDefEqProofs only[VV,XP,seval]) (B5 (a:=fun p:(Modl)×(List Int)×(Int)=>[p.1.F,fslN (ints p.2.1),.int .i64 p.2.2]) (r:=fun p=>[.agg [ownd 0 1 (ints (Oh p.1 p.2.1 p.2.2)),.int .i64 (O4 p.1 p.2.1 p.2.2).sc.1,.int .i64 (O4 p.1 p.2.1 p.2.2).sc.2]]) (fun x y e=>by simp only[VJ]at e;simp only[e]) (m,input,steps) hk) (by simp -implicitDefEqProofs only[VN,XP,seval])
theorem oX(hword_Bin:T 48=some V2)(hword_Wrap:T 49=some F2)(nir_trap:T 37=none)(nir_machine_element:T 50=none)(hir_there:T 46=some D4)(nir_machine_next:T 51=none)(nir_machine_step:T 38=none)(nir_machine_does:T 40=none)(nir_machine_calling:T 39=none)(nir_machine_call:T 25=none)(hir_mainOf:T 20=some L3)(hP:PEok ⟨env,T,A1⟩):TC env 11 z7:=B8 hP fun p h=>aF hword_Bin hword_Wrap nir_trap nir_machine_element hir_there nir_machine_next nir_machine_step nir_machine_does nir_machine_calling nir_machine_call hir_mainOf h
theorem Vm(hSameInts:T 23=some Z5){o1:List Int}{o2:List Int}{a:Int}{b:Int}{c:Int}{d:Int}(hk:o1.length*8<=bigN):AM.Comes ⟨env,T,A1⟩ 10 [.agg [fslN (ints o1),.int .i64 a,.int .i64 b],.agg [fslN (ints o2),.int .i64 c,.int .i64 d]] [.bool (decide (a=c/\b=d/\o1=o2))]:=by
 refine⟨[.bool (decide (a=c/\b=d/\o1=o2))],⟨[],0,[]⟩,?_,back_of rfl zqo rfl rfl rfl⟩;rw[A3 (c:=EQ) (nt:=24) (rs:=[.tmp 4]) rfl (by simp)];unfold EQ;unfold K0;have ts:=fun K=>Ww (K:=K) hSameInts (m:=o2) hk
 by_cases h1:a=c
 . by_cases h2:b=d
   . have e:decide (a=c/\b=d/\o1=o2)=decide (o1=o2):=by simp[h1,h2]
     rw[e];simp -implicitDefEqProofs only[eq_true h1,eq_true h2,ts,XP,seval]
   . rw[decide_eq_false (show ¬(a=c/\b=d/\o1=o2)from fun e=>h2 e.2.1)]
     simp -implicitDefEqProofs only[eq_true h1,h2,XP,seval]
 . rw[decide_eq_false (show ¬(a=c/\b=d/\o1=o2)from fun e=>h1 e.1)]
   simp -implicitDefEqProofs only[h1,XP,seval]
def s8:=W3 (fun p:(List Int)×(List Int)×(Int)×(Int)×(Int)×(Int)=>[.agg [fslN (ints p.1),.int .i64 p.2.2.1,.int .i64 p.2.2.2.1],.agg [fslN (ints p.2.1),.int .i64 p.2.2.2.2.1,.int .i64 p.2.2.2.2.2]]) (fun p=>[.bool (decide (p.2.2.1=p.2.2.2.2.1/\p.2.2.2.1=p.2.2.2.2.2/\p.1=p.2.1))]) (fun p=>p.1.length*8<=bigN)
theorem iV(hSameInts:T 23=some Z5)(hP:PEok ⟨env,T,A1⟩):TC env 10 s8:=B8 hP fun p h=>Vm hSameInts h
section
variable {m:Modl}{d:Int}{C:Int->List Int->Mst->Rs}
def Es(d:Int)(s:Mst):Mst:={s with steps:=s.steps+d}
structure Pl(s r:Mst):Prop where
 pre:s.out <+: r.out
 me:r.out.length+r.steps.toNat<=s.out.length+s.steps.toNat
theorem Pl.refl(s:Mst):Pl s s:=⟨zqk,zkt _⟩
theorem Pl.trans{a b c:Mst}(h:Pl a b)(k:Pl b c):Pl a c:=⟨h.pre.trans k.pre,zku k.me h.me⟩
theorem Pl.stp{s:Mst}(h:1<=s.steps):Pl s (stp s)/\(AmEnv.stp s).out.length+(AmEnv.stp s).steps.toNat+1<=s.out.length+s.steps.toNat:=by
 refine⟨⟨zqk,?_⟩,?_⟩<;>(simp only[AmEnv.stp];omega)
def aG(st c:Int):Prop:=(st=3/\c=0)\/(st=2/\1<=c/\c<=4)
def Rs.so:Rs->Prop | .ret _ _=>True | .stop st c _=>aG st c
def I2.so:I2->Prop | .go _ _=>True | .stop st c _=>aG st c
theorem tN(t:Int)(op:List UInt8)(a b:Int):(X0 t op a b).2=0\/(1<=(X0 t op a b).2/\(X0 t op a b).2<=4):=by
 unfold X0 H4 W9
 repeat' split
 all_goals simp
theorem xG{x:Ins}{r:List Int}{s:Mst}:s.out <+: (doesI m x r s).2.1.out/\(doesI m x r s).2.1.out.length<=s.out.length+1/\(doesI m x r s).2.1.steps=s.steps/\((doesI m x r s).1=0\/(1<=(doesI m x r s).1/\(doesI m x r s).1<=4)):=by
 have hb:=tN x.ty x.s (at' r x.a) (at' r x.b);unfold doesI
 repeat' split
 all_goals first
  |exact⟨zqk,zkv _,rfl,.inl rfl⟩
  |exact⟨zqk,zkv _,rfl,.inr ⟨(by decide:(1:Int)<=3),(by decide:(3:Int)<=4)⟩⟩
  |exact⟨zqk,zkv _,rfl,hb⟩
  |exact⟨List.prefix_append _ _,by simp,rfl,.inl rfl⟩
theorem tO(x:Ins)(r:List Int)(s:Mst):doesI m x r (Es d s)=((doesI m x r s).1,Es d (doesI m x r s).2.1,(doesI m x r s).2.2):=by
 unfold doesI Es dAt;dsimp only;by_cases h1:x.op=1
 . simp only[if_pos h1]
 simp only[if_neg h1];by_cases h2:x.op=2
 . simp only[if_pos h2]
 simp only[if_neg h2];by_cases h3:x.op=3
 . simp only[if_pos h3]
   by_cases hv:(X0 x.ty x.s (at' r x.a) (at' r x.b)).2=0
   . simp only[if_pos hv]
   . simp only[if_neg hv]
 simp only[if_neg h3];by_cases h4:x.op=4
 . simp only[if_pos h4]
 simp only[if_neg h4];by_cases h5:x.op=5
 . simp only[if_pos h5]
   by_cases hv:thereD (at' r x.a) (gAt m x.n).size=true
   . simp only[if_pos hv]
   . simp only[if_neg hv]
 simp only[if_neg h5];by_cases h6:x.op=6
 . simp only[if_pos h6]
   by_cases hv:thereD (at' r x.a) (gAt m x.n).size=true
   . simp only[if_pos hv]
   . simp only[if_neg hv]
 simp only[if_neg h6];by_cases h7:x.op=7
 . simp only[if_pos h7]
 simp only[if_neg h7];by_cases h8:x.op=8
 . simp only[if_pos h8]
 simp only[if_neg h8];by_cases h10:x.op=10
 . simp only[if_pos h10]
 simp only[if_neg h10];by_cases h11:x.op=11
 . simp only[if_pos h11]
 simp only[if_neg h11]
theorem lK(s:Mst):stp (Es d s)=Es d (stp s):=by
 unfold stp Es;simp only
 congr 1;omega
theorem Hb(hC:∀f a s,Pl s (C f a s).st/\(C f a s).so):∀(l:List Ins)(r:List Int)(s:Mst),Pl s (insF m C l r s).st/\(insF m C l r s).so
 |[],r,s=>⟨Pl.refl s,trivial⟩
 | x :: l,r,s=>by
  rw[insF];by_cases h1:s.steps<1
  . rw[if_pos h1];exact⟨Pl.refl s,.inl ⟨rfl,rfl⟩⟩
  . rw [if_neg h1]
    obtain⟨p1,p2⟩:=Pl.stp (s:=s) (by omega);by_cases h9:x.op=9
    . rw [if_pos h9]
      obtain⟨q1,q2⟩:=hC x.n (argsI x r) (stp s);cases hy:C x.n (argsI x r) (stp s)with
      |stop z e s2=>rw[hy]at q1 q2;exact⟨p1.trans q1,q2⟩
      | ret v s2 =>
       rw[hy]at q1;obtain⟨t1,t2⟩:=Hb hC l (if 0<=x.dst then put' r x.dst v else r) s2;exact⟨(p1.trans q1).trans t1,t2⟩
    . rw [if_neg h9]
      obtain⟨k1,k2,k3,k4⟩:=xG (m:=m) (x:=x) (r:=r) (s:=stp s);by_cases hv:(doesI m x r (stp s)).1=0
      . rw[if_pos hv]
        obtain⟨t1,t2⟩:=Hb hC l (doesI m x r (stp s)).2.2 (doesI m x r (stp s)).2.1;exact⟨Pl.trans ⟨p1.pre.trans k1,by rw[k3];omega⟩ t1,t2⟩
      . rw[if_neg hv]
        refine⟨p1,.inr ⟨rfl,?_⟩⟩;rcases k4 with k4|k4
        . exact absurd k4 hv
        . exact k4
theorem Jp{c:Cod}(hC:∀f a s,Pl s (C f a s).st/\(C f a s).so):∀(n:Nat)(i:Int)(r:List Int)(s:Mst),Pl s (J7 m C c n i r s).st/\(J7 m C c n i r s).so
 |0,i,r,s=>⟨Pl.refl s,.inl ⟨rfl,rfl⟩⟩
 | n + 1,i,r,s=>by
  rw[J7];obtain⟨q1,q2⟩:=Hb (m:=m) hC (blkAt c i).code r s;cases hy:insF m C (blkAt c i).code r s with
  |stop z e s2=>rw[hy]at q1 q2;exact⟨q1,q2⟩
  | go r2 s2 =>
   rw[hy]at q1;dsimp only;by_cases h1:s2.steps<1
   . rw[if_pos h1];exact⟨q1,.inl ⟨rfl,rfl⟩⟩
   . rw [if_neg h1]
     obtain⟨p1,p2⟩:=Pl.stp (s:=s2) (by omega);by_cases h3:(blkAt c i).e.kind=3
     . rw[if_pos h3];exact⟨q1.trans ⟨p1.pre,p1.me⟩,trivial⟩
     . rw[if_neg h3]
       obtain⟨t1,t2⟩:=Jp hC n (if(blkAt c i).e.kind=2/\at' r2 (blkAt c i).e.a=0 then(blkAt c i).e.els else(blkAt c i).e.to) r2 (stp s2);exact⟨(Pl.trans q1 p1).trans t1,t2⟩
theorem aH:∀(k:Nat)(f:Int)(a:List Int)(s:Mst),Pl s (I3 m k f a s).st/\(I3 m k f a s).so
 |0,f,a,s=>⟨Pl.refl s,.inr ⟨rfl,by decide⟩⟩
 | k + 1,f,a,s=>by
  rw[I3];by_cases h:32<=s.calls
  . rw[if_pos h];exact⟨Pl.refl s,.inr ⟨rfl,by decide⟩⟩
  . rw[if_neg h]
    obtain⟨q1,q2⟩:=Jp (m:=m) (c:=Dv m f) (aH k) (s.steps.toNat+1) 0 (initR (Dv m f).regs.length a) {s with calls:=s.calls+1};exact⟨⟨q1.pre,q1.me⟩,q2⟩
def Oi(d:Int)(x y:Rs):Prop:=match x with
 | .ret v s=>y=.ret v (Es d s)
 | .stop st c s=>if st=3 then s.out <+: y.st.out else y=.stop st c (Es d s)
def xH(d:Int)(x y:I2):Prop:=match x with
 | .go r s=>y=.go r (Es d s)
 | .stop st c s=>if st=3 then s.out <+: y.st.out else y=.stop st c (Es d s)
theorem aI(hd:0<=d)(hC:∀f a s,Pl s (C f a s).st/\(C f a s).so)(hS:∀f a s,Oi d (C f a s) (C f a (Es d s))):∀(l:List Ins)(r:List Int)(s:Mst),xH d (insF m C l r s) (insF m C l r (Es d s))
 |[],r,s=>rfl
 | x :: l,r,s=>by
  have hpl:=(Hb (m:=m) hC (x::l) r (Es d s)).1.pre;rw[insF];by_cases h1:s.steps<1
  . rw[if_pos h1];exact hpl
  . rw [if_neg h1]
    rw[insF];have h1':¬(Es d s).steps<1:=by show ¬s.steps+d<1;omega
    rw[if_neg h1',lK];by_cases h9:x.op=9
    . rw [if_pos h9,if_pos h9]
      have q:=hS x.n (argsI x r) (stp s);have ql:=hC x.n (argsI x r) (Es d (stp s));cases hy:C x.n (argsI x r) (stp s)with
      | stop z e s2 =>
       rw[hy]at q;unfold Oi at q;unfold xH;dsimp only at q|-;by_cases hz:z=3
       . rw [if_pos hz]at q|-
         cases hy2:C x.n (argsI x r) (Es d (stp s))with
         |stop z2 e2 s3=>rw[hy2]at q;exact q
         | ret v s3 =>
          rw[hy2]at q;exact q.trans (Hb (m:=m) hC l (if 0<=x.dst then put' r x.dst v else r) s3).1.pre
       . rw[if_neg hz]at q|-
         rw[q]
      | ret v s2 =>
       rw[hy]at q;have q:C x.n (argsI x r) (Es d (stp s))=.ret v (Es d s2):=q;rw[q];exact aI hd hC hS l (if 0<=x.dst then put' r x.dst v else r) s2
    . rw [if_neg h9,if_neg h9,tO]
      by_cases hv:(doesI m x r (stp s)).1=0
      . rw[if_pos hv,if_pos hv]
        exact aI hd hC hS l (doesI m x r (stp s)).2.2 (doesI m x r (stp s)).2.1
      . rw[if_neg hv,if_neg hv]
        unfold xH;dsimp only;rw[if_neg (by decide)]
theorem eL{c:Cod}(hd:0<=d)(hC:∀f a s,Pl s (C f a s).st/\(C f a s).so)(hS:∀f a s,Oi d (C f a s) (C f a (Es d s))):∀(n n':Nat)(i:Int)(r:List Int)(s:Mst),s.steps.toNat<n->(Es d s).steps.toNat<n'->Oi d (J7 m C c n i r s) (J7 m C c n' i r (Es d s))
 |0,n',i,r,s,h,h'=>absurd h (zkr _)
 |n+1,0,i,r,s,h,h'=>absurd h' (zkr _)
 | n + 1,n'+1,i,r,s,h,h'=>by
  have hpl:=(Jp (m:=m) (c:=c) hC (n'+1) i r (Es d s)).1.pre;have q:=aI (m:=m) hd hC hS (blkAt c i).code r s;have pp:=(Hb (m:=m) hC (blkAt c i).code r s).1;have pq:=(Hb (m:=m) hC (blkAt c i).code r (Es d s)).1;rw[J7,J7];cases hy:insF m C (blkAt c i).code r s with
  | stop z e s2 =>
   rw[hy]at q;unfold xH at q;unfold Oi;dsimp only at q|-;by_cases hz:z=3
   . rw [if_pos hz]at q|-
     rw[J7]at hpl;cases hy2:insF m C (blkAt c i).code r (Es d s)with
     |stop z2 e2 s3=>rw[hy2]at q;exact q
     | go r3 s3 =>
      rw[hy2]at q;have q:s2.out <+: s3.out:=q;dsimp only;by_cases h1:s3.steps<1
      . rw[if_pos h1];exact q
      . rw [if_neg h1]
        by_cases h3:(blkAt c i).e.kind=3
        . rw[if_pos h3];exact q
        . rw[if_neg h3]
          exact q.trans (Jp (m:=m) (c:=c) hC n' _ r3 (stp s3)).1.pre
   . rw[if_neg hz]at q|-
     rw[q]
  | go r2 s2 =>
   rw[hy]at q pp;have q:insF m C (blkAt c i).code r (Es d s)=.go r2 (Es d s2):=q;rw[q];rw[q]at pq;have hm1:s2.out.length+s2.steps.toNat<=s.out.length+s.steps.toNat:=pp.me;have hle1:s.out.length<=s2.out.length:=pp.pre.length_le;have hm2:s2.out.length+(s2.steps+d).toNat<=s.out.length+(s.steps+d).toNat:=pq.me;dsimp only;by_cases h1:s2.steps<1
   . rw [if_pos h1]
     show Oi d (.stop 3 0 s2) _
     unfold Oi;dsimp only;rw[if_pos rfl];by_cases h1':(Es d s2).steps<1
     . rw[if_pos h1'];exact zqk
     . rw [if_neg h1']
       by_cases h3:(blkAt c i).e.kind=3
       . rw[if_pos h3];exact zqk
       . rw[if_neg h3]
         exact(Jp (m:=m) (c:=c) hC n' _ r2 (stp (Es d s2))).1.pre
   . have h1':¬(Es d s2).steps<1:=by show ¬s2.steps+d<1;omega
     rw[if_neg h1,if_neg h1',lK];by_cases h3:(blkAt c i).e.kind=3
     . rw[if_pos h3,if_pos h3];rfl
     . rw[if_neg h3,if_neg h3]
       have h':(s.steps+d).toNat<n'+1:=h';exact eL hd hC hS n n' _ r2 (stp s2) (by show(s2.steps-1).toNat<n;omega) (by show(s2.steps-1+d).toNat<n';omega)
theorem eM(hd:0<=d):∀(k:Nat)(f:Int)(a:List Int)(s:Mst),Oi d (I3 m k f a s) (I3 m k f a (Es d s))
 |0,f,a,s=>by unfold Oi I3;dsimp only;rw[if_neg (by decide)]
 | k + 1,f,a,s=>by
  rw[I3,I3];by_cases h:32<=s.calls
  . rw[if_pos h,if_pos (show 32<=(Es d s).calls from h)]
    unfold Oi;dsimp only;rw[if_neg (by decide)]
  . rw[if_neg h,if_neg (show ¬32<=(Es d s).calls from h)]
    exact eL (m:=m) (c:=Dv m f) hd (aH k) (eM hd k) (s.steps.toNat+1) ((Es d s).steps.toNat+1) 0 (initR (Dv m f).regs.length a) {s with calls:=s.calls+1} (zkw _) (zkw _)
structure More(x y:Rs)(steps:Int):Prop where
 st:1<=x.sc.1/\x.sc.1<=3
 le:(x.st.out.length:Int)<=steps
 pre:x.st.out <+: y.st.out
 eq:x.sc.1≠3->x.sc=y.sc/\x.st.out=y.st.out
 go:x.sc.1=3->x.sc.2=0
 tr:x.sc.1=2->1<=x.sc.2/\x.sc.2<=4
theorem tP{input:List Int}{steps:Int}(hs:0<=steps)(hd:0<=d):More (O4 m input steps) (O4 m input (steps+d)) steps:=by
 obtain⟨p1,p2⟩:=aH (m:=m) 33 (s5 m) [] (sI steps input m.gs);have q:Oi d (O4 m input steps) (O4 m input (steps+d)):=eM (m:=m) hd 33 (s5 m) [] (sI steps input m.gs)
 replace p1:Pl (sI steps input m.gs) (O4 m input steps).st:=p1
 replace p2:(O4 m input steps).so:=p2
 have hle:((O4 m input steps).st.out.length:Int)<=steps:=by
  have:(O4 m input steps).st.out.length+(O4 m input steps).st.steps.toNat<=0+steps.toNat:=p1.me
  omega
 cases hy:O4 m input steps with
 | ret v s =>
  rw[hy]at q p2 hle;have q:O4 m input (steps+d)=.ret v (Es d s):=q;rw[q];exact⟨⟨(by decide:(1:Int)<=1),(by decide:(1:Int)<=3)⟩,hle,zqk,fun _=>⟨rfl,rfl⟩,fun h=>absurd h (by show ¬(1:Int)=3;decide),fun h=>absurd h (by show ¬(1:Int)=2;decide)⟩
 | stop st c s =>
  rw[hy]at q p2 hle;unfold Oi at q;dsimp only at q
  replace p2:aG st c:=p2
  unfold aG at p2;by_cases h3:st=3
  . rw[if_pos h3]at q
    exact⟨by show 1<=st/\st<=3;omega,hle,q,fun h=>absurd h3 h,fun _=>by show c=0;omega,fun h=>by have h:st=2:=h;omega⟩
  . rw[if_neg h3]at q
    rw[q];exact⟨by show 1<=st/\st<=3;omega,hle,zqk,fun _=>⟨rfl,rfl⟩,fun h=>absurd h h3,fun _=>by show 1<=c/\c<=4;omega⟩
end
def mirs:List (List UInt8×List UInt8):=[([43],[43]),([42],[42]),([38],[38]),([124],[124]),([94],[94]),([61,61],[61,61]),([33,61],[33,61]),([60],[62]),([62],[60]),([60,61],[62,61]),([62,61],[60,61])]
def Fh:AV:=.agg (mirs.flatMap fun p=>[.str p.1,.str p.2])
def mirC(s:List UInt8):Option (List UInt8):=(mirs.find? fun p=>decide (p.1=s)).map (·.2)
def G8(x:Ins):Ins:=if x.op=3/\¬x.a<=x.b then(match mirC x.s with|some t=>{x with a:=x.b,b:=x.a,s:=t}|none=>x)else x
theorem tQ(i:Nat)(h:i<mirs.length):yM env rW Fh (.int .i64 (i:Int))=some (.agg [.str mirs[i].1,.str mirs[i].2]):=by
 have:i<11:=h
 match i,this with
 |0,_|1,_|2,_|3,_|4,_|5,_|6,_|7,_|8,_|9,_|10,_=>rfl
theorem tR{K:PK}:loadP rW (.fptr Fh 0) K=some (Fh,K):=rfl
theorem Sy(hT:T 28=some G5){l:List Int}(h:l.length*8<=bigN){K:PK}:evP ⟨env,T,A1⟩ (.call 28 [fslN (ints l)] K)=some (.val (openTs K.os.length [ownd 0 1 (ints l)]).1 ⟨K.os++(openTs K.os.length [ownd 0 1 (ints l)]).2,K.ext,K.tch⟩):=B3 hT (by simp -implicitDefEqProofs only[frzL_ints,XP,seval]) (l6 h) rfl
theorem Sz:I4 Fh=[]:=rfl
theorem Ta(f:Nat->Option Nat):F7 f Fh=Fh:=rfl
theorem tS:partOf rW Fh.cells 0=some Fh:=rfl
theorem AK{fr:PF}:opvP env (.global 0) fr=.fptr Fh 0:=rfl
theorem JQ(k:Nat):Ec env nT (.ptr k 0 0) (.int .i64 0)=some (.ptr k 0 0):=rfl
theorem XE(k:Nat):Ec env nT (.ptr k 0 0) (.int .i64 1)=some (.ptr k 0 1):=rfl
theorem JR{x:Ins}{i:Nat}(h:i<mirs.length)(hn:¬mirs[i].1=x.s):evP ⟨env,T,A1⟩ (.code Ja [(1,.ptr 0 0 0),(2,.ptr 1 0 0),(20,Fh),(21,.int .i64 (i:Int))] ⟨[.row 1 [.agg [.int .i64 x.op,.int .i64 x.ty,.int .i64 x.dst,.int .i64 x.a,.int .i64 x.b,.int .i64 x.n,.str x.s,.msl 2 0 (ints x.args).length 1]] 8,.row 1 [.agg [.int .i64 0,.int .i64 0,.int .i64 0,.int .i64 0,.int .i64 0,.int .i64 0,.str [],.nilsl]] 8,.row 0 (ints x.args) 1],0,[]⟩)=some (.ok .normal [(1,.ptr 0 0 0),(2,.ptr 1 0 0),(20,Fh),(21,.int .i64 ((i+1:Nat):Int))] ⟨[.row 1 [.agg [.int .i64 x.op,.int .i64 x.ty,.int .i64 x.dst,.int .i64 x.a,.int .i64 x.b,.int .i64 x.n,.str x.s,.msl 2 0 (ints x.args).length 1]] 8,.row 1 [.agg [.int .i64 0,.int .i64 0,.int .i64 0,.int .i64 0,.int .i64 0,.int .i64 0,.str [],.nilsl]] 8,.row 0 (ints x.args) 1],0,[]⟩):=by
 unfold Ja;have hi:=tQ i h;have hlt:decide ((i:Int)<11)=true:=by have:i<11:=h;simp;omega
 have hw:=B2 (i:=i) (by have:i<11:=h;omega);simp -implicitDefEqProofs only[hlt,hi,decide_eq_false hn,hw,JQ,Sz,Ta,XP,seval]
theorem CU{x:Ins}{i:Nat}(h:i<mirs.length)(hn:mirs[i].1=x.s):∃fr',evP ⟨env,T,A1⟩ (.code Ja [(1,.ptr 0 0 0),(2,.ptr 1 0 0),(20,Fh),(21,.int .i64 (i:Int))] ⟨[.row 1 [.agg [.int .i64 x.op,.int .i64 x.ty,.int .i64 x.dst,.int .i64 x.a,.int .i64 x.b,.int .i64 x.n,.str x.s,.msl 2 0 (ints x.args).length 1]] 8,.row 1 [.agg [.int .i64 0,.int .i64 0,.int .i64 0,.int .i64 0,.int .i64 0,.int .i64 0,.str [],.nilsl]] 8,.row 0 (ints x.args) 1],0,[]⟩)=some (.ok (.exit 0) fr' ⟨[.row 1 [.agg [.int .i64 x.op,.int .i64 x.ty,.int .i64 x.dst,.int .i64 x.b,.int .i64 x.a,.int .i64 x.n,.str mirs[i].2,.msl 2 0 (ints x.args).length 1]] 8,.row 1 [.agg [.int .i64 0,.int .i64 0,.int .i64 0,.int .i64 0,.int .i64 0,.int .i64 0,.str [],.nilsl]] 8,.row 0 (ints x.args) 1,.row 1 [.agg [.str mirs[i].1,.str mirs[i].2]] 2],0,[0,0,0,3]⟩)/\lookP fr' 1=.ptr 0 0 0/\lookP fr' 2=.ptr 1 0 0:=by
 unfold Ja;have hi:=tQ i h;have hlt:decide ((i:Int)<11)=true:=by have:i<11:=h;simp;omega
 simp -implicitDefEqProofs only[hlt,hi,decide_eq_true hn,JQ,XE,Sz,Ta,s4,zqi,zqj,Nat.reduceBEq,XP,seval];exact⟨_,rfl,rfl,rfl⟩
theorem CV{x:Ins}:∃fr',evP ⟨env,T,A1⟩ (.code Ja [(1,.ptr 0 0 0),(2,.ptr 1 0 0),(20,Fh),(21,.int .i64 ((mirs.length:Nat):Int))] ⟨[.row 1 [.agg [.int .i64 x.op,.int .i64 x.ty,.int .i64 x.dst,.int .i64 x.a,.int .i64 x.b,.int .i64 x.n,.str x.s,.msl 2 0 (ints x.args).length 1]] 8,.row 1 [.agg [.int .i64 0,.int .i64 0,.int .i64 0,.int .i64 0,.int .i64 0,.int .i64 0,.str [],.nilsl]] 8,.row 0 (ints x.args) 1],0,[]⟩)=some (.ok (.exit 0) fr' ⟨[.row 1 [.agg [.int .i64 x.op,.int .i64 x.ty,.int .i64 x.dst,.int .i64 x.a,.int .i64 x.b,.int .i64 x.n,.str x.s,.msl 2 0 (ints x.args).length 1]] 8,.row 1 [.agg [.int .i64 0,.int .i64 0,.int .i64 0,.int .i64 0,.int .i64 0,.int .i64 0,.str [],.nilsl]] 8,.row 0 (ints x.args) 1],0,[]⟩)/\lookP fr' 1=.ptr 0 0 0/\lookP fr' 2=.ptr 1 0 0:=by
 unfold Ja;simp -implicitDefEqProofs only[show decide (((mirs.length:Nat):Int)<11)=false from rfl,Sz,Ta,XP,seval];exact⟨_,rfl,rfl,rfl⟩
theorem find_cases(s:List UInt8):∀l:List (List UInt8×List UInt8),(l.find? (fun p=>decide (p.1=s))=none/\∀i (h:i<l.length),¬l[i].1=s)\/∃k,∃h:k<l.length,l[k].1=s/\(∀i (hi:i<l.length),i<k->¬l[i].1=s)/\l.find? (fun p=>decide (p.1=s))=some l[k]
 |[]=>.inl ⟨rfl,fun i h=>absurd h (zkr i)⟩
 | a :: l=>by
  by_cases ha:a.1=s
  . exact .inr ⟨0,zks _,ha,fun i _ hi=>absurd hi (zkr i),by rw[zkf,decide_eq_true ha];rfl⟩
  . rcases find_cases s l with⟨h1,h2⟩|⟨k,hk,h1,h2,h3⟩
    . refine .inl ⟨by rw[zkf,decide_eq_false ha];exact h1,fun i hi=>?_⟩
      cases i with
      |zero=>exact ha
      |succ i=>exact h2 i (by simpa using hi)
    . refine .inr ⟨k+1,by simpa using hk,h1,fun i hi hk=>?_,by rw[zkf,decide_eq_false ha];exact h3⟩
      cases i with
      |zero=>exact ha
      |succ i=>exact h2 i (by simpa using hi) (by omega)
theorem xI{x:Ins}:∃fr' K',evP ⟨env,T,A1⟩ (.code (.loop Ja) [(1,.ptr 0 0 0),(2,.ptr 1 0 0),(20,Fh),(21,.int .i64 0)] ⟨[.row 1 [.agg [.int .i64 x.op,.int .i64 x.ty,.int .i64 x.dst,.int .i64 x.a,.int .i64 x.b,.int .i64 x.n,.str x.s,.msl 2 0 (ints x.args).length 1]] 8,.row 1 [.agg [.int .i64 0,.int .i64 0,.int .i64 0,.int .i64 0,.int .i64 0,.int .i64 0,.str [],.nilsl]] 8,.row 0 (ints x.args) 1],0,[]⟩)=some (.ok (.exit 0) fr' K')/\lookP fr' 1=.ptr 0 0 0/\lookP fr' 2=.ptr 1 0 0/\((mirC x.s=none/\K'=⟨[.row 1 [.agg [.int .i64 x.op,.int .i64 x.ty,.int .i64 x.dst,.int .i64 x.a,.int .i64 x.b,.int .i64 x.n,.str x.s,.msl 2 0 (ints x.args).length 1]] 8,.row 1 [.agg [.int .i64 0,.int .i64 0,.int .i64 0,.int .i64 0,.int .i64 0,.int .i64 0,.str [],.nilsl]] 8,.row 0 (ints x.args) 1],0,[]⟩)\/∃a b,mirC x.s=some b/\K'=⟨[.row 1 [.agg [.int .i64 x.op,.int .i64 x.ty,.int .i64 x.dst,.int .i64 x.b,.int .i64 x.a,.int .i64 x.n,.str b,.msl 2 0 (ints x.args).length 1]] 8,.row 1 [.agg [.int .i64 0,.int .i64 0,.int .i64 0,.int .i64 0,.int .i64 0,.int .i64 0,.str [],.nilsl]] 8,.row 0 (ints x.args) 1,.row 1 [.agg [.str a,.str b]] 2],0,[0,0,0,3]⟩):=by
 have st:=fun n (hn:∀i,i<n->∃h:i<mirs.length,¬mirs[i].1=x.s)=>U5 (P:=⟨env,T,A1⟩) (c:=Ja) (fun i=>([(1,.ptr 0 0 0),(2,.ptr 1 0 0),(20,Fh),(21,.int .i64 (i:Int))],⟨[.row 1 [.agg [.int .i64 x.op,.int .i64 x.ty,.int .i64 x.dst,.int .i64 x.a,.int .i64 x.b,.int .i64 x.n,.str x.s,.msl 2 0 (ints x.args).length 1]] 8,.row 1 [.agg [.int .i64 0,.int .i64 0,.int .i64 0,.int .i64 0,.int .i64 0,.int .i64 0,.str [],.nilsl]] 8,.row 0 (ints x.args) 1],0,[]⟩)) n fun i hi=>by obtain⟨h1,h2⟩:=hn i hi;exact JR h1 h2
 simp only[show((0:Nat):Int)=0 from rfl]at st;rcases find_cases x.s mirs with⟨h1,h2⟩|⟨k,hk,h1,h2,h3⟩
 . obtain⟨fr',e,p1,p2⟩:=CV (T:=T) (x:=x)
   exact⟨fr',_,by rw[st mirs.length fun i hi=>⟨hi,h2 i hi⟩];exact C6 e,p1,p2,.inl ⟨by unfold mirC;rw[h1];rfl,rfl⟩⟩
 . obtain⟨fr',e,p1,p2⟩:=CU (T:=T) (x:=x) hk h1
   exact⟨fr',_,by rw[st k fun i hi=>⟨by omega,h2 i (by omega) hi⟩];exact C6 e,p1,p2,.inr ⟨_,_,by unfold mirC;rw[h3];rfl,rfl⟩⟩
theorem Ins.okO(x:Ins):(x.O.cells.all fun c=>(ownOf c).isSome||clo c)=true:=rfl
theorem Hc(hCloneInts:T 28=some G5){x:Ins}(hk:x.ok):AM.Comes ⟨env,T,A1⟩ 29 [x.F] [(G8 x).O]:=by
 have ht:=fun K=>Sy (K:=K) hCloneInts hk
 have one:∀y:Ins,y.args=x.args->G8 x=y->evP ⟨env,T,A1⟩ (.body 29 [x.F] K0)=some (.val [.agg (y.cs (.msl 1 0 (ints x.args).length 1))] ⟨[.row 1 [.agg (y.cs (.msl 1 0 (ints x.args).length 1))] 8,.row 0 (ints x.args) 1],0,[]⟩)->AM.Comes ⟨env,T,A1⟩ 29 [x.F] [(G8 x).O]:=fun y ha hy he=>by
  refine⟨_,_,he,?_⟩;rw[hy];refine back_of (vs':=[.agg (y.cs (.msl 1 0 (ints x.args).length 1))]) (os':=[.row 1 [.agg (y.cs (.msl 1 0 (ints x.args).length 1))] 8,.row 0 (ints x.args) 1]) ?_ ?_ (us:=[.agg (y.cs (.msl 0 0 (ints x.args).length 1))]) (ps:=[.row 0 (ints x.args) 1]) ?_ ?_ ?_
  all_goals simp -implicitDefEqProofs only[Ins.cs,Ins.O,ha,XP,seval]
 by_cases h1:x.op=3
 . by_cases h2:x.a<=x.b
   . refine one x rfl (by unfold G8;rw[if_neg (fun e=>e.2 h2)]) ?_
     rw[A3 (c:=vX) (nt:=40) (rs:=[.cell 2 49]) rfl (by simp)];unfold vX;unfold K0 Ins.F;simp -implicitDefEqProofs only[ht,eq_true h1,eq_true h2,Ins.cs,XP,seval]
   . obtain ⟨fr',K',e,p1,p2,q⟩:=xI (T:=T) (x:=x)
     rcases q with⟨q1,rfl⟩|⟨a,b,q1,rfl⟩
     . refine one x rfl (by unfold G8;rw[if_pos ⟨h1,h2⟩,q1]) ?_
       rw[A3 (c:=vX) (nt:=40) (rs:=[.cell 2 49]) rfl (by simp)];unfold vX;unfold K0 Ins.F;simp -implicitDefEqProofs only[ht,eq_true h1,h2,tS,tR,AK,Sz,Ta,e,p1,p2,Ins.cs,XP,seval]
     . refine one {x with a:=x.b,b:=x.a,s:=b} rfl (by unfold G8;rw[if_pos ⟨h1,h2⟩,q1]) ?_
       rw[A3 (c:=vX) (nt:=40) (rs:=[.cell 2 49]) rfl (by simp)];unfold vX;unfold K0 Ins.F;simp -implicitDefEqProofs only[ht,eq_true h1,h2,tS,tR,AK,Sz,Ta,e,p1,p2,Ins.cs,XP,seval]
 . refine one x rfl (by unfold G8;rw[if_neg (fun e=>h1 e.1)]) ?_
   rw[A3 (c:=vX) (nt:=40) (rs:=[.cell 2 49]) rfl (by simp)];unfold vX;unfold K0 Ins.F;simp -implicitDefEqProofs only[ht,h1,Ins.cs,XP,seval]
def E0:=W3 (fun p:(Ins)=>[p.F]) (fun p=>[(G8 p).O]) (fun p=>p.ok)
theorem Gb(hcanon_turned:T 29=some E0){x:Ins}{K:PK}(hk:x.ok):evP ⟨env,T,A1⟩ (.call 29 [x.F] K)=some (.val (openTs K.os.length [(G8 x).O]).1 ⟨K.os++(openTs K.os.length [(G8 x).O]).2,K.ext,K.tch⟩):=B3 hcanon_turned (by simp -implicitDefEqProofs only[VV,XP,seval]) (B5 (a:=fun p:(Ins)=>[p.F]) (r:=fun p=>[(G8 p).O]) (fun x y e=>by simp only[VJ]at e;simp only[e]) (x) hk) (by simp -implicitDefEqProofs only[VN,Ins.okO,XP,seval])
theorem Oj(hCloneInts:T 28=some G5)(hP:PEok ⟨env,T,A1⟩):TC env 29 E0:=B8 hP fun p h=>Hc hCloneInts h
def canB(b:Blk):Blk:=⟨b.code.map G8,b.e⟩
def canC(c:Cod):Cod:={c with blocks:=c.blocks.map canB}
theorem tT(l c:Operand)(fr:PF)(K:PK):prim env (.makeSlice 42 l c) fr K=Ka env Vd (opvP env l fr) (opvP env c fr) K:=rfl
theorem YL{n:Nat}{K:PK}(h:n*88<=140737488355328):Ka env Vd (.int .i64 0) (.int .i64 (n:Int)) K=.val (.msl K.os.length 0 0 8) ⟨K.os++[.row 0 [] 8],K.ext,K.tch⟩:=by
 unfold Ka;rw[show elemOfT env (Vd).desc=some Z4 from rfl,as_nat,show asNat (AV.int .i64 0)=some 0 from rfl];dsimp only;rw[if_pos ⟨Nat.zero_le _,h,by decide⟩];rfl
def aJ(x:Ins):AV:=(G8 x).O
section
variable {nm:List UInt8}{ty ps:Int}{nr q k i n:Nat}{R Q L:List AV}{b:Blk}
def Fi(L:List AV)(n i:Nat)(b:Blk)(k:Nat):PF:=[(2,.ptr 0 0 0),(3,.ptr 1 0 0),(5,.ptr 2 0 0),(6,.msl 3 0 k 8),(20,fslN L),(21,.int .i64 (n:Int)),(22,.int .i64 (i:Int)),(31,fslN (b.code.map Ins.F)),(32,.int .i64 (b.code.length:Int)),(33,.int .i64 (k:Int))]
theorem JS(hT:T 29=some E0)(h:k<b.code.length)(hb:b.ok):evP ⟨env,T,A1⟩ (.code Am (Fi L n i b k) ⟨[.row 1 [.agg [.str [],.int .i64 0,.int .i64 0,.nilsl,.nilsl]] 5,.row 1 [.agg [.str nm,.int .i64 ty,.int .i64 ps,.msl 4 0 nr 1,.nilsl]] 5,.row 1 [.agg [fslN (b.code.map Ins.F),.int .i64 b.e.kind,.int .i64 b.e.a,.int .i64 b.e.to,.int .i64 b.e.els]] 5,.row 0 ((b.code.take k).map aJ) 8,.row 0 R 1],0,[]⟩)=some (.ok .normal (Fi L n i b (k+1)) ⟨[.row 1 [.agg [.str [],.int .i64 0,.int .i64 0,.nilsl,.nilsl]] 5,.row 1 [.agg [.str nm,.int .i64 ty,.int .i64 ps,.msl 4 0 nr 1,.nilsl]] 5,.row 1 [.agg [fslN (b.code.map Ins.F),.int .i64 b.e.kind,.int .i64 b.e.a,.int .i64 b.e.to,.int .i64 b.e.els]] 5,.row 0 ((b.code.take (k+1)).map aJ) 8,.row 0 R 1],0,[]⟩):=by
 have hlt:decide ((k:Int)<(b.code.length:Int))=true:=by simp[h]
 have hi:=A6 (F:=Ins.F) h;have hs:=hb.2;have hm:((b.code.take k).map aJ).length=k:=by simp;omega
 have hw:=B2 (i:=k) (by simp only[bigN]at hs;omega);have hz:(k+1)*88<=140737488355328:=by simp only[bigN]at hs;omega
 have hx:=map_take (F:=aJ) h;have ht:=fun K=>Gb (K:=K) hT (hb.1 _ (zqb h))
 unfold Am Fi;simp only[Ins.F,Ins.O]at hi ht;simp only[aJ,Ins.O]at hx;simp -implicitDefEqProofs only[hlt,hi,hw,hz,hm,ht,hx,XP,seval]
theorem JT:∃fr',evP ⟨env,T,A1⟩ (.code Am (Fi L n i b b.code.length) ⟨[.row 1 [.agg [.str [],.int .i64 0,.int .i64 0,.nilsl,.nilsl]] 5,.row 1 [.agg [.str nm,.int .i64 ty,.int .i64 ps,.msl 4 0 nr 1,.nilsl]] 5,.row 1 [.agg [fslN (b.code.map Ins.F),.int .i64 b.e.kind,.int .i64 b.e.a,.int .i64 b.e.to,.int .i64 b.e.els]] 5,.row 0 (b.code.map aJ) 8,.row 0 R 1],0,[]⟩)=some (.ok (.exit 2) fr' ⟨[.row 1 [.agg [.str [],.int .i64 0,.int .i64 0,.nilsl,.nilsl]] 5,.row 1 [.agg [.str nm,.int .i64 ty,.int .i64 ps,.msl 4 0 nr 1,.nilsl]] 5,.row 1 [.agg [fslN (b.code.map Ins.F),.int .i64 b.e.kind,.int .i64 b.e.a,.int .i64 b.e.to,.int .i64 b.e.els]] 5,.row 0 (b.code.map aJ) 8,.row 0 R 1],0,[]⟩)/\lookP fr' 2=.ptr 0 0 0/\lookP fr' 3=.ptr 1 0 0/\lookP fr' 5=.ptr 2 0 0/\lookP fr' 6=.msl 3 0 b.code.length 8/\lookP fr' 20=fslN L/\lookP fr' 21=.int .i64 (n:Int)/\lookP fr' 22=.int .i64 (i:Int):=by
 have hlt:decide ((b.code.length:Int)<(b.code.length:Int))=false:=by simp
 unfold Am Fi;simp -implicitDefEqProofs only[hlt,XP,seval];exact⟨_,rfl,rfl,rfl,rfl,rfl,rfl,rfl,rfl⟩
theorem JU(hT:T 29=some E0)(hb:b.ok):∃fr',evP ⟨env,T,A1⟩ (.code (.loop Am) (Fi L n i b 0) ⟨[.row 1 [.agg [.str [],.int .i64 0,.int .i64 0,.nilsl,.nilsl]] 5,.row 1 [.agg [.str nm,.int .i64 ty,.int .i64 ps,.msl 4 0 nr 1,.nilsl]] 5,.row 1 [.agg [fslN (b.code.map Ins.F),.int .i64 b.e.kind,.int .i64 b.e.a,.int .i64 b.e.to,.int .i64 b.e.els]] 5,.row 0 [] 8,.row 0 R 1],0,[]⟩)=some (.ok (.exit 2) fr' ⟨[.row 1 [.agg [.str [],.int .i64 0,.int .i64 0,.nilsl,.nilsl]] 5,.row 1 [.agg [.str nm,.int .i64 ty,.int .i64 ps,.msl 4 0 nr 1,.nilsl]] 5,.row 1 [.agg [fslN (b.code.map Ins.F),.int .i64 b.e.kind,.int .i64 b.e.a,.int .i64 b.e.to,.int .i64 b.e.els]] 5,.row 0 (b.code.map aJ) 8,.row 0 R 1],0,[]⟩)/\lookP fr' 2=.ptr 0 0 0/\lookP fr' 3=.ptr 1 0 0/\lookP fr' 5=.ptr 2 0 0/\lookP fr' 6=.msl 3 0 b.code.length 8/\lookP fr' 20=fslN L/\lookP fr' 21=.int .i64 (n:Int)/\lookP fr' 22=.int .i64 (i:Int):=by
 have:=U5 (P:=⟨env,T,A1⟩) (c:=Am) (fun k=>(Fi L n i b k,⟨[.row 1 [.agg [.str [],.int .i64 0,.int .i64 0,.nilsl,.nilsl]] 5,.row 1 [.agg [.str nm,.int .i64 ty,.int .i64 ps,.msl 4 0 nr 1,.nilsl]] 5,.row 1 [.agg [fslN (b.code.map Ins.F),.int .i64 b.e.kind,.int .i64 b.e.a,.int .i64 b.e.to,.int .i64 b.e.els]] 5,.row 0 ((b.code.take k).map aJ) 8,.row 0 R 1],0,[]⟩)) b.code.length fun k hk=>JS hT hk hb
 simp only[zqr,zkg,zqh]at this;obtain⟨fr',e,p⟩:=JT (T:=T) (nm:=nm) (ty:=ty) (ps:=ps) (nr:=nr) (R:=R) (L:=L) (n:=n) (i:=i) (b:=b);exact⟨fr',by rw[this];exact C6 e,p⟩
theorem JV(hT:T 29=some E0)(h:k<b.code.length)(hb:b.ok):evP ⟨env,T,A1⟩ (.code Am (Fi L n i b k) ⟨[.row 1 [.agg [.str [],.int .i64 0,.int .i64 0,.nilsl,.nilsl]] 5,.row 1 [.agg [.str nm,.int .i64 ty,.int .i64 ps,.msl 4 0 nr 1,.msl 5 0 q 5]] 5,.row 1 [.agg [fslN (b.code.map Ins.F),.int .i64 b.e.kind,.int .i64 b.e.a,.int .i64 b.e.to,.int .i64 b.e.els]] 5,.row 0 ((b.code.take k).map aJ) 8,.row 0 R 1,.row 0 Q 5],0,[]⟩)=some (.ok .normal (Fi L n i b (k+1)) ⟨[.row 1 [.agg [.str [],.int .i64 0,.int .i64 0,.nilsl,.nilsl]] 5,.row 1 [.agg [.str nm,.int .i64 ty,.int .i64 ps,.msl 4 0 nr 1,.msl 5 0 q 5]] 5,.row 1 [.agg [fslN (b.code.map Ins.F),.int .i64 b.e.kind,.int .i64 b.e.a,.int .i64 b.e.to,.int .i64 b.e.els]] 5,.row 0 ((b.code.take (k+1)).map aJ) 8,.row 0 R 1,.row 0 Q 5],0,[]⟩):=by
 have hlt:decide ((k:Int)<(b.code.length:Int))=true:=by simp[h]
 have hi:=A6 (F:=Ins.F) h;have hs:=hb.2;have hm:((b.code.take k).map aJ).length=k:=by simp;omega
 have hw:=B2 (i:=k) (by simp only[bigN]at hs;omega);have hz:(k+1)*88<=140737488355328:=by simp only[bigN]at hs;omega
 have hx:=map_take (F:=aJ) h;have ht:=fun K=>Gb (K:=K) hT (hb.1 _ (zqb h))
 unfold Am Fi;simp only[Ins.F,Ins.O]at hi ht;simp only[aJ,Ins.O]at hx;simp -implicitDefEqProofs only[hlt,hi,hw,hz,hm,ht,hx,XP,seval]
theorem JW:∃fr',evP ⟨env,T,A1⟩ (.code Am (Fi L n i b b.code.length) ⟨[.row 1 [.agg [.str [],.int .i64 0,.int .i64 0,.nilsl,.nilsl]] 5,.row 1 [.agg [.str nm,.int .i64 ty,.int .i64 ps,.msl 4 0 nr 1,.msl 5 0 q 5]] 5,.row 1 [.agg [fslN (b.code.map Ins.F),.int .i64 b.e.kind,.int .i64 b.e.a,.int .i64 b.e.to,.int .i64 b.e.els]] 5,.row 0 (b.code.map aJ) 8,.row 0 R 1,.row 0 Q 5],0,[]⟩)=some (.ok (.exit 2) fr' ⟨[.row 1 [.agg [.str [],.int .i64 0,.int .i64 0,.nilsl,.nilsl]] 5,.row 1 [.agg [.str nm,.int .i64 ty,.int .i64 ps,.msl 4 0 nr 1,.msl 5 0 q 5]] 5,.row 1 [.agg [fslN (b.code.map Ins.F),.int .i64 b.e.kind,.int .i64 b.e.a,.int .i64 b.e.to,.int .i64 b.e.els]] 5,.row 0 (b.code.map aJ) 8,.row 0 R 1,.row 0 Q 5],0,[]⟩)/\lookP fr' 2=.ptr 0 0 0/\lookP fr' 3=.ptr 1 0 0/\lookP fr' 5=.ptr 2 0 0/\lookP fr' 6=.msl 3 0 b.code.length 8/\lookP fr' 20=fslN L/\lookP fr' 21=.int .i64 (n:Int)/\lookP fr' 22=.int .i64 (i:Int):=by
 have hlt:decide ((b.code.length:Int)<(b.code.length:Int))=false:=by simp
 unfold Am Fi;simp -implicitDefEqProofs only[hlt,XP,seval];exact⟨_,rfl,rfl,rfl,rfl,rfl,rfl,rfl,rfl⟩
theorem JX(hT:T 29=some E0)(hb:b.ok):∃fr',evP ⟨env,T,A1⟩ (.code (.loop Am) (Fi L n i b 0) ⟨[.row 1 [.agg [.str [],.int .i64 0,.int .i64 0,.nilsl,.nilsl]] 5,.row 1 [.agg [.str nm,.int .i64 ty,.int .i64 ps,.msl 4 0 nr 1,.msl 5 0 q 5]] 5,.row 1 [.agg [fslN (b.code.map Ins.F),.int .i64 b.e.kind,.int .i64 b.e.a,.int .i64 b.e.to,.int .i64 b.e.els]] 5,.row 0 [] 8,.row 0 R 1,.row 0 Q 5],0,[]⟩)=some (.ok (.exit 2) fr' ⟨[.row 1 [.agg [.str [],.int .i64 0,.int .i64 0,.nilsl,.nilsl]] 5,.row 1 [.agg [.str nm,.int .i64 ty,.int .i64 ps,.msl 4 0 nr 1,.msl 5 0 q 5]] 5,.row 1 [.agg [fslN (b.code.map Ins.F),.int .i64 b.e.kind,.int .i64 b.e.a,.int .i64 b.e.to,.int .i64 b.e.els]] 5,.row 0 (b.code.map aJ) 8,.row 0 R 1,.row 0 Q 5],0,[]⟩)/\lookP fr' 2=.ptr 0 0 0/\lookP fr' 3=.ptr 1 0 0/\lookP fr' 5=.ptr 2 0 0/\lookP fr' 6=.msl 3 0 b.code.length 8/\lookP fr' 20=fslN L/\lookP fr' 21=.int .i64 (n:Int)/\lookP fr' 22=.int .i64 (i:Int):=by
 have:=U5 (P:=⟨env,T,A1⟩) (c:=Am) (fun k=>(Fi L n i b k,⟨[.row 1 [.agg [.str [],.int .i64 0,.int .i64 0,.nilsl,.nilsl]] 5,.row 1 [.agg [.str nm,.int .i64 ty,.int .i64 ps,.msl 4 0 nr 1,.msl 5 0 q 5]] 5,.row 1 [.agg [fslN (b.code.map Ins.F),.int .i64 b.e.kind,.int .i64 b.e.a,.int .i64 b.e.to,.int .i64 b.e.els]] 5,.row 0 ((b.code.take k).map aJ) 8,.row 0 R 1,.row 0 Q 5],0,[]⟩)) b.code.length fun k hk=>JV hT hk hb
 simp only[zqr,zkg,zqh]at this;obtain⟨fr',e,p⟩:=JW (T:=T) (nm:=nm) (ty:=ty) (ps:=ps) (nr:=nr) (q:=q) (R:=R) (Q:=Q) (L:=L) (n:=n) (i:=i) (b:=b);exact⟨fr',by rw[this];exact C6 e,p⟩
end
def eN(b:Blk):AV:=.agg [ownd 0 8 (b.code.map aJ),.int .i64 b.e.kind,.int .i64 b.e.a,.int .i64 b.e.to,.int .i64 b.e.els]
theorem CW(b:Blk):eN b=(canB b).O:=by
 unfold eN Blk.O canB;rw[zqw];rfl
section
variable {nm:List UInt8}{ty ps:Int}{nr i:Nat}{R:List AV}{l:List Blk}
def tU(l:List Blk)(i:Nat):PF:=[(2,.ptr 0 0 0),(3,.ptr 1 0 0),(20,fslN (l.map Blk.F)),(21,.int .i64 (l.length:Int)),(22,.int .i64 (i:Int))]
def oK(nm:List UInt8)(ty ps:Int)(nr:Nat)(R:List AV)(l:List Blk)(i:Nat):PK:=⟨[.row 1 [.agg [.str [],.int .i64 0,.int .i64 0,.nilsl,.nilsl]] 5,.row 1 [.agg [.str nm,.int .i64 ty,.int .i64 ps,.msl 2 0 nr 1,.msl 3 0 i 5]] 5,.row 0 R 1,.row 0 ((l.take i).map eN) 5],0,[]⟩
theorem XF(hT:T 29=some E0)(h:0<l.length)(hs:l.length*56<=bigN)(hk:l[0].ok):evP ⟨env,T,A1⟩ (.code Iz (tU l 0) ⟨[.row 1 [.agg [.str [],.int .i64 0,.int .i64 0,.nilsl,.nilsl]] 5,.row 1 [.agg [.str nm,.int .i64 ty,.int .i64 ps,.msl 2 0 nr 1,.nilsl]] 5,.row 0 R 1],0,[]⟩)=some (.ok .normal (tU l 1) (oK nm ty ps nr R l 1)):=by
 have hlt:decide ((0:Int)<(l.length:Int))=true:=by simp[h]
 have hi:Hs l5 (fslN (l.map Blk.F)) (.int .i64 0)=some (.fptr (Blk.F l[0]) 0):=ix_fslN (te:=l5) (k:=.i64) (i:=0) (A6 (F:=Blk.F) h) rfl;have hm:=fun K=>YL (n:=l[0].code.length) (K:=K) hk.2
 obtain⟨fr',e,p1,p2,p3,p4,p5,p6,p7⟩:=JU (T:=T) (nm:=nm) (ty:=ty) (ps:=ps) (nr:=nr) (R:=R) (L:=l.map Blk.F) (n:=l.length) (i:=0) (b:=l[0]) hT hk;have hx:=map_take (F:=eN) h;rw[zqr]at hx;have hx:[eN l[0]]=(l.take 1).map eN:=hx;unfold Fi at e;unfold Iz tU oK;rw[<-hx];simp only[Blk.F,eN]at hi|-;simp only[show((0:Nat):Int)=0 from rfl]at e p7|-;simp -implicitDefEqProofs only[hlt,hi,tT,hm,zqa,e,p1,p2,p3,p4,p5,p6,p7,show IntKind.i64.wrap (0+1)=((1:Nat):Int)from rfl,XP,Nat.reduceAdd,Nat.reduceSub,Nat.reduceLT,Nat.reduceLeDiff,Nat.reduceEqDiff,Nat.reduceMul,↓reduceIte]
theorem XG(hT:T 29=some E0)(h:i<l.length)(h0:0<i)(hs:l.length*56<=bigN)(hk:l[i].ok):evP ⟨env,T,A1⟩ (.code Iz (tU l i) (oK nm ty ps nr R l i))=some (.ok .normal (tU l (i+1)) (oK nm ty ps nr R l (i+1))):=by
 have hlt:decide ((i:Int)<(l.length:Int))=true:=by simp[h]
 have hi:Hs l5 (fslN (l.map Blk.F)) (.int .i64 i)=some (.fptr (Blk.F l[i]) 0):=ix_fslN (te:=l5) (k:=.i64) (i:=i) (A6 (F:=Blk.F) h) rfl;have hm:=fun K=>YL (n:=l[i].code.length) (K:=K) hk.2
 have hz:(i+1)*56<=140737488355328:=by simp only[bigN]at hs;omega
 have hw:=B2 (i:=i) (by simp only[bigN]at hs;omega);have hl:((l.take i).map eN).length=i:=by simp;omega
 obtain⟨fr',e,p1,p2,p3,p4,p5,p6,p7⟩:=JX (T:=T) (nm:=nm) (ty:=ty) (ps:=ps) (nr:=nr) (q:=i) (R:=R) (Q:=(l.take i).map eN) (L:=l.map Blk.F) (n:=l.length) (i:=i) (b:=l[i]) hT hk;have hx:=map_take (F:=eN) h;unfold Fi at e;unfold Iz tU oK;simp only[Blk.F]at hi;simp only[eN]at hx;simp only[show((0:Nat):Int)=0 from rfl]at e;simp -implicitDefEqProofs only[hlt,hi,tT,hm,zqa,e,p1,p2,p3,p4,p5,p6,p7,hz,hw,hl,hx,XP,seval]
end
section
variable {nm:List UInt8}{ty ps:Int}{nr i:Nat}{R:List AV}{l:List Blk}
theorem XH(h:0<l.length):∃fr',evP ⟨env,T,A1⟩ (.code Iz (tU l l.length) (oK nm ty ps nr R l l.length))=some (.ok (.exit 0) fr' (oK nm ty ps nr R l l.length))/\lookP fr' 2=.ptr 0 0 0/\lookP fr' 3=.ptr 1 0 0:=by
 have hlt:decide ((l.length:Int)<(l.length:Int))=false:=by simp
 unfold Iz tU oK;simp -implicitDefEqProofs only[hlt,XP,seval];exact⟨_,rfl,rfl,rfl⟩
theorem XI(hT:T 29=some E0)(h:0<l.length)(hs:l.length*56<=bigN)(hk:∀b∈l,b.ok):∃fr',evP ⟨env,T,A1⟩ (.code (.loop Iz) (tU l 0) ⟨[.row 1 [.agg [.str [],.int .i64 0,.int .i64 0,.nilsl,.nilsl]] 5,.row 1 [.agg [.str nm,.int .i64 ty,.int .i64 ps,.msl 2 0 nr 1,.nilsl]] 5,.row 0 R 1],0,[]⟩)=some (.ok (.exit 0) fr' (oK nm ty ps nr R l l.length))/\lookP fr' 2=.ptr 0 0 0/\lookP fr' 3=.ptr 1 0 0:=by
 have:=U5 (P:=⟨env,T,A1⟩) (c:=Iz) (fun i=>(tU l (i+1),oK nm ty ps nr R l (i+1))) (l.length-1) fun i hi=>XG hT (show i+1<l.length by omega) (zks _) hs (hk _ (zqb _))
 obtain⟨fr',e,p⟩:=XH (T:=T) (nm:=nm) (ty:=ty) (ps:=ps) (nr:=nr) (R:=R) h;rw[Nat.sub_add_cancel h]at this;exact⟨fr',by rw[loop_more (XF hT h hs (hk _ (zqb _)))];exact this.trans (C6 e),p⟩
end
theorem Jq(hCloneInts:T 28=some G5)(hcanon_turned:T 29=some E0){c:Cod}(hk:c.ok/\0<c.blocks.length):AM.Comes ⟨env,T,A1⟩ 17 [c.F] [(canC c).O]:=by
 have ht:=fun K=>Sy (K:=K) hCloneInts hk.1.1
 have eO:((canC c).blocks.map Blk.O)=c.blocks.map eN:=by
  show(c.blocks.map canB).map Blk.O=_
  rw[zqw];exact List.map_congr_left fun b _=>(CW b).symm
 obtain⟨fr',e,p1,p2⟩:=XI (T:=T) (nm:=c.name) (ty:=c.ty) (ps:=c.ps) (nr:=c.regs.length) (R:=ints c.regs) (l:=c.blocks) hcanon_turned hk.2 hk.1.2.2 hk.1.2.1;refine⟨[.agg [.str c.name,.int .i64 c.ty,.int .i64 c.ps,.msl 1 0 c.regs.length 1,.msl 2 0 c.blocks.length 5]],⟨[.row 1 [.agg [.str c.name,.int .i64 c.ty,.int .i64 c.ps,.msl 1 0 c.regs.length 1,.msl 2 0 c.blocks.length 5]] 5,.row 0 (ints c.regs) 1,.row 0 (c.blocks.map eN) 5],0,[]⟩,?_,?_⟩
 . unfold tU oK at e
   rw[zkg]at e;have hl:(ints c.regs).length=c.regs.length:=by simp[ints]
   simp only[show((0:Nat):Int)=0 from rfl]at e;rw[A3 (c:=MG) (nt:=54) (rs:=[.cell 2 41]) rfl (by simp)];unfold MG;unfold K0 Cod.F;simp -implicitDefEqProofs only[ht,e,p1,p2,hl,zqa,XP,seval]
 . have hl:(ints c.regs).length=c.regs.length:=by simp[ints]
   have hl2:(c.blocks.map eN).length=c.blocks.length:=zqa ..;have eC:(canC c).O=.agg [.str c.name,.int .i64 c.ty,.int .i64 c.ps,ownd 0 1 (ints c.regs),ownd 0 5 (c.blocks.map eN)]:=by unfold Cod.O;rw[eO];rfl
   rw[eC];refine back_of (vs':=[.agg [.str c.name,.int .i64 c.ty,.int .i64 c.ps,.msl 1 0 c.regs.length 1,.msl 2 0 c.blocks.length 5]]) (os':=[.row 1 [.agg [.str c.name,.int .i64 c.ty,.int .i64 c.ps,.msl 1 0 c.regs.length 1,.msl 2 0 c.blocks.length 5]] 5,.row 0 (ints c.regs) 1,.row 0 (c.blocks.map eN) 5]) ?_ ?_ (us:=[.agg [.str c.name,.int .i64 c.ty,.int .i64 c.ps,.msl 0 0 c.regs.length 1,.msl 1 0 c.blocks.length 5]]) (ps:=[.row 0 (ints c.regs) 1,.row 0 (c.blocks.map eN) 5]) ?_ ?_ ?_
   all_goals simp -implicitDefEqProofs only[hl,hl2,XP,seval]
def F3:=W3 (fun p:(Cod)=>[p.F]) (fun p=>[(canC p).O]) (fun p=>p.ok/\0<p.blocks.length)
theorem Tb(hcanon_Canon:T 17=some F3){c:Cod}{K:PK}{args:List AV}(hv:viewAs K.os args=some [c.F])(hk:c.ok/\0<c.blocks.length):evP ⟨env,T,A1⟩ (.call 17 args K)=some (.val (openTs K.os.length [(canC c).O]).1 ⟨K.os++(openTs K.os.length [(canC c).O]).2,K.ext,K.tch⟩):=B3 hcanon_Canon hv (B5 (a:=fun p:(Cod)=>[p.F]) (r:=fun p=>[(canC p).O]) (fun x y e=>by simp only[VJ]at e;simp only[e]) (c) hk) (by generalize (refsL args).isEmpty=z;simp -implicitDefEqProofs only[VN,XP,seval])
theorem Tc(hCloneInts:T 28=some G5)(hcanon_turned:T 29=some E0)(hP:PEok ⟨env,T,A1⟩):TC env 17 F3:=B8 hP fun p h=>Jq hCloneInts hcanon_turned h
def m5:=W3 (fun x:Cod=>[x.F]) (fun x=>[x.O]) Cod.ok
def V3:=W3 (fun p:Cod×Cod=>[p.1.F,p.2.F]) (fun p=>[.bool (decide (p.1=p.2))]) (fun p=>p.1.ok)
theorem Xd(hT:T 41=some m5){x:Cod}(h:x.ok){K:PK}:evP ⟨env,T,A1⟩ (.call 41 [x.F] K)=some (.val (openTs K.os.length [x.O]).1 ⟨K.os++(openTs K.os.length [x.O]).2,K.ext,K.tch⟩):=B3 hT (by simp -implicitDefEqProofs only[Cod.viewF,XP,seval]) (B5 (a:=fun x:Cod=>[x.F]) (r:=fun x=>[x.O]) (fun x y e=>by simp only[List.cons.injEq,Cod.F_iff,and_true]at e;simp only[e]) x h) (by
 simp -implicitDefEqProofs only[Cod.okO,Cod.noF,XP,seval])
section
variable {l:List Glo}{i:Nat}
theorem JY(hl:i<l.length)(hs:l.length*40<=bigN):
 evP ⟨env,T,A1⟩ (.code Nd [(0,fslN (l.map Glo.F)),(3,.msl 0 0 i 4),(4,.int .i64 i)] ⟨[.row 0 ((l.take i).map Glo.F) 4],0,[]⟩)=some (.ok .normal [(0,fslN (l.map Glo.F)),(3,.msl 0 0 (i+1) 4),(4,.int .i64 ((i+1:Nat):Int))] ⟨[.row 0 ((l.take (i+1)).map Glo.F) 4],0,[]⟩):=by
 unfold Nd;have hlt:decide ((i:Int)<((l.map Glo.F).length:Int))=true:=by simp[hl]
 have hi:=A6 (F:=Glo.F) hl;have hm:((l.take i).map Glo.F).length=i:=by simp;omega
 have hw:=B2 (i:=i) (by simp only[bigN]at hs;omega);have hz:(i+1)*40<=140737488355328:=by simp only[bigN]at hs;omega
 have hx:=map_take (F:=Glo.F) hl;simp only[Glo.F]at hi hx;simp -implicitDefEqProofs only[hlt,hi,hm,hw,hz,Glo.F,hx,XP,seval]
theorem JZ(hl:0<l.length):
 evP ⟨env,T,A1⟩ (.code Nd [(0,fslN (l.map Glo.F)),(3,.nilsl),(4,.int .i64 0)] ⟨[],0,[]⟩)=some (.ok .normal [(0,fslN (l.map Glo.F)),(3,.msl 0 0 1 4),(4,.int .i64 ((1:Nat):Int))] ⟨[.row 0 ((l.take 1).map Glo.F) 4],0,[]⟩):=by
 unfold Nd;have hlt:decide ((0:Int)<((l.map Glo.F).length:Int))=true:=by simp[hl]
 have hi:Hs Cg (fslN (l.map Glo.F)) (.int .i64 0)=some (.fptr (Glo.F l[0]) 0):=ix_fslN (te:=Cg) (k:=.i64) (i:=0) (A6 (F:=Glo.F) hl) rfl;have hx:=map_take (F:=Glo.F) hl;rw[zqr]at hx;have hx:[Glo.F l[0]]=(l.take 1).map Glo.F:=hx;simp only[Glo.F]at hi;rw[<-hx];simp -implicitDefEqProofs only[hlt,hi,Glo.F,show IntKind.i64.wrap (0+1)=((1:Nat):Int)from rfl,XP,Nat.reduceAdd,Nat.reduceSub,Nat.reduceLT,Nat.reduceLeDiff,Nat.reduceEqDiff,Nat.reduceMul,↓reduceIte]
theorem KA{y:AV}{K:PK}:∃fr',evP ⟨env,T,A1⟩ (.code Nd [(0,fslN (l.map Glo.F)),(3,y),(4,.int .i64 l.length)] K)=some (.ok (.exit 0) fr' K)/\lookP fr' 3=y:=by
 unfold Nd;have hlt:decide ((l.length:Int)<((l.map Glo.F).length:Int))=false:=by simp
 simp -implicitDefEqProofs only[hlt,XP,seval];exact⟨_,rfl,rfl⟩
theorem Jr  {l:List Glo} (hk:l.length*40<=bigN):AM.Comes ⟨env,T,A1⟩ 26 [fslN (l.map Glo.F)] [ownd 0 4 (l.map Glo.F)]:=by
 obtain⟨fr',y,os,h1,h2,h3⟩:=Fc (P:=⟨env,T,A1⟩) (c:=Nd) (A:=fslN (l.map Glo.F)) (O:=Glo.F) (sz:=4) (l:=l) (fun h=>JZ h) (fun i h=>JY h hk) (fun y K=>KA);refine⟨[y],⟨os,0,[]⟩,?_,J2 h3⟩;rw[A3 (c:=MN) (nt:=19) (rs:=[.tmp 2]) rfl (by simp)];unfold MN;unfold K0;rcases h3 with⟨_,rfl,rfl⟩|⟨rfl,rfl⟩
 . simp -implicitDefEqProofs only[h1,h2,XP,seval]
 . simp -implicitDefEqProofs only[h1,h2,XP,seval]
def X1:=W3 (fun p:(List Glo)=>[fslN (p.map Glo.F)]) (fun p=>[ownd 0 4 (p.map Glo.F)]) (fun p=>p.length*40<=bigN)
theorem aK(hCopyGlobals:T 26=some X1){l:List Glo}{K:PK}(hk:l.length*40<=bigN):evP ⟨env,T,A1⟩ (.call 26 [fslN (l.map Glo.F)] K)=some (.val (openTs K.os.length [ownd 0 4 (l.map Glo.F)]).1 ⟨K.os++(openTs K.os.length [ownd 0 4 (l.map Glo.F)]).2,K.ext,K.tch⟩):=B3 hCopyGlobals (by simp -implicitDefEqProofs only[VV,XP,seval]) (B5 (a:=fun p:(List Glo)=>[fslN (p.map Glo.F)]) (r:=fun p=>[ownd 0 4 (p.map Glo.F)]) (fun x y e=>by simp only[VJ]at e;simp only[e]) (l) hk) (by simp -implicitDefEqProofs only[VN,XP,seval])
theorem Td  (hP:PEok ⟨env,T,A1⟩):TC env 26 X1:=B8 hP fun p h=>Jr  h
end
section
variable {l:List Cod}{i:Nat}
theorem KB(hT:T 41=some m5)(hl:i<l.length)(hk:l[i].ok)(hs:l.length*80<=bigN):
 evP ⟨env,T,A1⟩ (.code Nf [(0,fslN (l.map Cod.F)),(3,.msl 0 0 i 5),(4,.int .i64 i)] ⟨[.row 0 ((l.take i).map Cod.O) 5],0,[]⟩)=some (.ok .normal [(0,fslN (l.map Cod.F)),(3,.msl 0 0 (i+1) 5),(4,.int .i64 ((i+1:Nat):Int))] ⟨[.row 0 ((l.take (i+1)).map Cod.O) 5],0,[]⟩):=by
 unfold Nf;have hlt:decide ((i:Int)<((l.map Cod.F).length:Int))=true:=by simp[hl]
 have hi:=A6 (F:=Cod.F) hl;have hm:((l.take i).map Cod.O).length=i:=by simp;omega
 have hw:=B2 (i:=i) (by simp only[bigN]at hs;omega);have hz:(i+1)*80<=140737488355328:=by simp only[bigN]at hs;omega
 have ht:=fun K=>Xd (K:=K) hT hk
 have hx:=map_take (F:=Cod.O) hl;simp only[Cod.F]at hi ht;simp only[Cod.O]at hx;simp -implicitDefEqProofs only[hlt,hi,hm,hw,hz,Cod.O,ht,hx,XP,seval]
theorem KC(hT:T 41=some m5)(hl:0<l.length)(hk:l[0].ok):
 evP ⟨env,T,A1⟩ (.code Nf [(0,fslN (l.map Cod.F)),(3,.nilsl),(4,.int .i64 0)] ⟨[],0,[]⟩)=some (.ok .normal [(0,fslN (l.map Cod.F)),(3,.msl 0 0 1 5),(4,.int .i64 ((1:Nat):Int))] ⟨[.row 0 ((l.take 1).map Cod.O) 5],0,[]⟩):=by
 unfold Nf;have hlt:decide ((0:Int)<((l.map Cod.F).length:Int))=true:=by simp[hl]
 have hi:Hs o7 (fslN (l.map Cod.F)) (.int .i64 0)=some (.fptr (Cod.F l[0]) 0):=ix_fslN (te:=o7) (k:=.i64) (i:=0) (A6 (F:=Cod.F) hl) rfl;have ht:=fun K=>Xd (K:=K) hT hk
 have hx:=map_take (F:=Cod.O) hl;rw[zqr]at hx;have hx:[Cod.O l[0]]=(l.take 1).map Cod.O:=hx;simp only[Cod.F]at hi ht;rw[<-hx];simp -implicitDefEqProofs only[hlt,hi,Cod.O,ht,show IntKind.i64.wrap (0+1)=((1:Nat):Int)from rfl,XP,Nat.reduceAdd,Nat.reduceSub,Nat.reduceLT,Nat.reduceLeDiff,Nat.reduceEqDiff,Nat.reduceMul,↓reduceIte]
theorem KD{y:AV}{K:PK}:∃fr',evP ⟨env,T,A1⟩ (.code Nf [(0,fslN (l.map Cod.F)),(3,y),(4,.int .i64 l.length)] K)=some (.ok (.exit 0) fr' K)/\lookP fr' 3=y:=by
 unfold Nf;have hlt:decide ((l.length:Int)<((l.map Cod.F).length:Int))=false:=by simp
 simp -implicitDefEqProofs only[hlt,XP,seval];exact⟨_,rfl,rfl⟩
end
theorem Ok(hCopyCode:T 41=some m5){l:List Cod}(hk:(∀x∈l,x.ok)/\l.length*80<=bigN):AM.Comes ⟨env,T,A1⟩ 27 [fslN (l.map Cod.F)] [ownd 0 5 (l.map Cod.O)]:=by
 obtain⟨fr',y,os,h1,h2,h3⟩:=Fc (P:=⟨env,T,A1⟩) (c:=Nf) (A:=fslN (l.map Cod.F)) (O:=Cod.O) (sz:=5) (l:=l) (fun h=>KC hCopyCode h (hk.1 _ (zqb h))) (fun i h=>KB hCopyCode h (hk.1 _ (zqb h)) hk.2) (fun y K=>KD);refine⟨[y],⟨os,0,[]⟩,?_,J2 h3⟩;rw[A3 (c:=MO) (nt:=20) (rs:=[.tmp 2]) rfl (by simp)];unfold MO;unfold K0;rcases h3 with⟨_,rfl,rfl⟩|⟨rfl,rfl⟩
 . simp -implicitDefEqProofs only[h1,h2,XP,seval]
 . simp -implicitDefEqProofs only[h1,h2,XP,seval]
def s9:=W3 (fun p:(List Cod)=>[fslN (p.map Cod.F)]) (fun p=>[ownd 0 5 (p.map Cod.O)]) (fun p=>(∀x∈p,x.ok)/\p.length*80<=bigN)
theorem iW(hCopyCodes:T 27=some s9){l:List Cod}{K:PK}(hk:(∀x∈l,x.ok)/\l.length*80<=bigN):evP ⟨env,T,A1⟩ (.call 27 [fslN (l.map Cod.F)] K)=some (.val (openTs K.os.length [ownd 0 5 (l.map Cod.O)]).1 ⟨K.os++(openTs K.os.length [ownd 0 5 (l.map Cod.O)]).2,K.ext,K.tch⟩):=B3 hCopyCodes (by simp -implicitDefEqProofs only[VV,XP,seval]) (B5 (a:=fun p:(List Cod)=>[fslN (p.map Cod.F)]) (r:=fun p=>[ownd 0 5 (p.map Cod.O)]) (fun x y e=>by simp only[VJ]at e;simp only[e]) (l) hk) (by simp -implicitDefEqProofs only[VN,XP,seval])
theorem aL(hCopyCode:T 41=some m5)(hP:PEok ⟨env,T,A1⟩):TC env 27 s9:=B8 hP fun p h=>Ok hCopyCode h
theorem Modl.copied{m:Modl}(h:m.ok):m.gs.length*40<=bigN/\(∀x∈m.fs,x.ok):=⟨h.2.2,fun c hc=>(h.1 c hc).1⟩
theorem Lu(hCopyGlobals:T 26=some X1)(hCopyCodes:T 27=some s9){m:Modl}(hk:m.ok/\m.fs.length*80<=bigN):AM.Comes ⟨env,T,A1⟩ 16 [m.F] [m.O]:=by
 have t1:=fun K=>aK (K:=K) hCopyGlobals (Modl.copied hk.1).1
 have t2:=fun K=>iW (K:=K) hCopyCodes ⟨(Modl.copied hk.1).2,hk.2⟩
 refine⟨[.agg [.msl 1 0 m.gs.length 4,.msl 2 0 m.fs.length 5]],⟨[.row 1 [.agg [.msl 1 0 m.gs.length 4,.msl 2 0 m.fs.length 5]] 2,.row 0 (m.gs.map Glo.F) 4,.row 0 (m.fs.map Cod.O) 5],0,[]⟩,?_,?_⟩
 . rw[A3 (c:=MF) (nt:=10) (rs:=[.cell 2 25]) rfl (by simp)];unfold MF
   unfold K0 Modl.F;simp -implicitDefEqProofs only[t1,t2,zqa,s4,zqi,zqj,Nat.reduceBEq,XP,seval]
 . refine back_of (vs':=[.agg [.msl 1 0 m.gs.length 4,.msl 2 0 m.fs.length 5]]) (os':=[.row 1 [.agg [.msl 1 0 m.gs.length 4,.msl 2 0 m.fs.length 5]] 2,.row 0 (m.gs.map Glo.F) 4,.row 0 (m.fs.map Cod.O) 5]) ?_ ?_ (us:=[.agg [.msl 0 0 (m.gs.map Glo.F).length 4,.msl 1 0 (m.fs.map Cod.O).length 5]]) (ps:=[.row 0 (m.gs.map Glo.F) 4,.row 0 (m.fs.map Cod.O) 5]) ?_ ?_ ?_
   all_goals simp -implicitDefEqProofs only[Modl.O,zqa,XP,seval]
def i7:=W3 (fun p:(Modl)=>[p.F]) (fun p=>[p.O]) (fun p=>p.ok/\p.fs.length*80<=bigN)
theorem eP(hCopyModule:T 16=some i7){m:Modl}{K:PK}(hk:m.ok/\m.fs.length*80<=bigN):evP ⟨env,T,A1⟩ (.call 16 [m.F] K)=some (.val (openTs K.os.length [m.O]).1 ⟨K.os++(openTs K.os.length [m.O]).2,K.ext,K.tch⟩):=B3 hCopyModule (by simp -implicitDefEqProofs only[VV,XP,seval]) (B5 (a:=fun p:(Modl)=>[p.F]) (r:=fun p=>[p.O]) (fun x y e=>by simp only[VJ]at e;simp only[e]) (m) hk) (by simp -implicitDefEqProofs only[VN,XP,seval])
theorem Vn(hCopyGlobals:T 26=some X1)(hCopyCodes:T 27=some s9)(hP:PEok ⟨env,T,A1⟩):TC env 16 i7:=B8 hP fun p h=>Lu hCopyGlobals hCopyCodes h
def Av(v n:Int):Int:=if n<1 then 0 else if v.tmod n<0 then v.tmod n+n else v.tmod n
theorem iX  {v:Int} {n:Int} (hk:n<=1000000):AM.Comes ⟨env,T,A1⟩ 7 [.int .i64 v,.int .i64 n] [.int .i64 (Av v n)]:=by
 refine⟨[.int .i64 (Av v n)],⟨[],0,[]⟩,?_,back_of rfl zqo rfl rfl rfl⟩;rw[A3 (c:=p7) (nt:=16) (rs:=[.tmp 4]) rfl (by simp)];unfold p7;unfold K0;unfold Av;by_cases h1:n<1
 . simp -implicitDefEqProofs only[eq_true h1,XP,seval]
 . have h0:¬n=0:=by omega
   have hr:=fun t K=>sM (K:=K) (E:=env) t .i64 v h0
   by_cases h2:v.tmod n<0
   . have hw:=Er (n:=v.tmod n+n) (by have:=zkq v (show 0<n by omega);omega) (by omega)
     simp -implicitDefEqProofs only[h1,eq_true h2,hr,hw,XP,seval]
   . simp -implicitDefEqProofs only[h1,h2,hr,XP,seval]
def Xe:=W3 (fun p:(Int)×(Int)=>[.int .i64 p.1,.int .i64 p.2]) (fun p=>[.int .i64 (Av p.1 p.2)]) (fun p=>p.2<=1000000)
theorem KE(hPick:T 7=some Xe){v:Int}{n:Int}{K:PK}(hk:n<=1000000):evP ⟨env,T,A1⟩ (.call 7 [.int .i64 v,.int .i64 n] K)=some (.val (openTs K.os.length [.int .i64 (Av v n)]).1 ⟨K.os++(openTs K.os.length [.int .i64 (Av v n)]).2,K.ext,K.tch⟩):=B3 hPick (by simp -implicitDefEqProofs only[VV,XP,seval]) (B5 (a:=fun p:(Int)×(Int)=>[.int .i64 p.1,.int .i64 p.2]) (r:=fun p=>[.int .i64 (Av p.1 p.2)]) (fun x y e=>by simp only[VJ]at e;simp only[e]) (v,n) hk) (by simp -implicitDefEqProofs only[VN,XP,seval])
theorem xJ  (hP:PEok ⟨env,T,A1⟩):TC env 7 Xe:=B8 hP fun p h=>iX  h
def Cod.tok(c:Cod):Prop:=c.ok/\0<c.blocks.length
def canM(m:Modl):Modl:=⟨m.gs,m.fs.map canC⟩
section
variable {m:Modl}{i:Nat}{os:List PO}{c:Cod}
theorem oY{p q:Nat}(h1:rowOf os 6 p=some (0,ints c.regs,1))(h2:rowOf os 6 q=some (0,c.blocks.map Blk.O,5)):viewAs os [.agg [.str c.name,.int .i64 c.ty,.int .i64 c.ps,.msl p 0 c.regs.length 1,.msl q 0 c.blocks.length 5]]=some [c.F]:=by
 have v1:viewV os (.msl p 0 c.regs.length 1)=some (fslN (ints c.regs)):=by
  rw[wv_msl,h1];show(if 0=0/\1=1/\0+c.regs.length<=(ints c.regs).length then(match frzL (((ints c.regs).drop 0).take c.regs.length)with|some es=>some (fslN es)|none=>none)else none)=_
  rw[if_pos ⟨rfl,rfl,by simp[ints]⟩,zqs,zqm (by simp[ints]),frzL_ints]
 have v2:viewV os (.msl q 0 c.blocks.length 5)=some (fslN (c.blocks.map Blk.F)):=by
  rw[wv_msl,h2];show(if 0=0/\5=5/\0+c.blocks.length<=(c.blocks.map Blk.O).length then(match frzL (((c.blocks.map Blk.O).drop 0).take c.blocks.length)with|some es=>some (fslN es)|none=>none)else none)=_
  rw[if_pos ⟨rfl,rfl,by simp⟩,zqs,zqm (by simp),Wv]
 rw[va_cons,va_nil];show consO (match viewL os [.str c.name,.int .i64 c.ty,.int .i64 c.ps,.msl p 0 c.regs.length 1,.msl q 0 c.blocks.length 5]with|some cs=>some (AV.agg cs)|none=>none) _=_
 rw[vl_cons,vl_cons,vl_cons,vl_cons,vl_cons,v1,v2];rfl
def trTo(l:List Cod)(i:Nat):List Cod:=(l.take i).map canC++l.drop i
theorem tV(l:List Cod)(i:Nat):(trTo l i).length=l.length:=by unfold trTo;simp;omega
theorem tW{l:List Cod}(h:i<l.length):(trTo l i)[i]?=some l[i]:=by
 unfold trTo;rw[List.getElem?_append_right (by rw[zqa,zkc];omega),zqa,zkc,Nat.min_eq_left (by omega),Nat.sub_self,List.getElem?_drop,Nat.add_zero,zkm h]
theorem tX{l:List Cod}(h:i<l.length):(trTo l i).set i (canC l[i])=trTo l (i+1):=by
 unfold trTo;have hl:((l.take i).map canC).length=i:=by simp;omega
 rw[List.set_append_right _ _ (by omega),hl,Nat.sub_self,zkd h,zqz,List.append_assoc,zkh h];rfl
def vY(m:Modl)(l:List Cod):PK:=⟨[.row 1 [.agg [.msl 2 0 m.gs.length 4,.msl 3 0 m.fs.length 5]] 2,.row 1 [.agg [.nilsl,.nilsl]] 2,.row 0 (m.gs.map Glo.F) 4,.row 0 (l.map Cod.O) 5],0,[]⟩
theorem XJ(hT:T 17=some F3)(h:i<m.fs.length)(hs:m.fs.length*80<=bigN)(hk:m.fs[i].tok):evP ⟨env,T,A1⟩ (.code iF [(1,.ptr 0 0 0),(2,.ptr 1 0 0),(3,.int .i64 (i:Int))] (vY m (trTo m.fs i)))=some (.ok .normal [(1,.ptr 0 0 0),(2,.ptr 1 0 0),(3,.int .i64 ((i+1:Nat):Int))] (vY m (trTo m.fs (i+1)))):=by
 have hlt:decide ((i:Int)<(m.fs.length:Int))=true:=by simp[h]
 have hw:=B2 (i:=i) (by simp only[bigN]at hs;omega);have hg:((trTo m.fs i).map Cod.O)[i]?=some m.fs[i].O:=by rw[zqv,tW h];rfl
 have hl:((trTo m.fs i).map Cod.O).length=m.fs.length:=by rw[zqa,tV]
 have hset:((trTo m.fs i).map Cod.O).set i (canC m.fs[i]).O=(trTo m.fs (i+1)).map Cod.O:=by rw[<-tX h,List.map_set]
 have ht:=fun K p q (h1:rowOf K.os 6 p=some (0,ints m.fs[i].regs,1)) (h2:rowOf K.os 6 q=some (0,m.fs[i].blocks.map Blk.O,5))=>Tb (K:=K) hT (oY h1 h2) hk
 unfold iF vY;rw[<-hset];simp only[Cod.O]at hg ht|-;simp -implicitDefEqProofs only[hlt,hw,hg,hl,ht,h,s4,zqi,zqj,Nat.reduceBEq,zqa,XP,seval]
end
section
variable {m:Modl}{K:PK}
theorem XK(l:List Cod)(hl:l.length=m.fs.length):∃fr',evP ⟨env,T,A1⟩ (.code iF [(1,.ptr 0 0 0),(2,.ptr 1 0 0),(3,.int .i64 (m.fs.length:Int))] (vY m l))=some (.ok (.exit 0) fr' (vY m l))/\lookP fr' 1=.ptr 0 0 0/\lookP fr' 2=.ptr 1 0 0:=by
 unfold iF vY;have hlt:decide ((m.fs.length:Int)<(m.fs.length:Int))=false:=by simp
 simp -implicitDefEqProofs only[hlt,XP,seval];exact⟨_,rfl,rfl,rfl⟩
theorem XL(hT:T 17=some F3)(hs:m.fs.length*80<=bigN)(hk:∀c∈m.fs,c.tok):∃fr',evP ⟨env,T,A1⟩ (.code (.loop iF) [(1,.ptr 0 0 0),(2,.ptr 1 0 0),(3,.int .i64 0)] (vY m m.fs))=some (.ok (.exit 0) fr' (vY m (m.fs.map canC)))/\lookP fr' 1=.ptr 0 0 0/\lookP fr' 2=.ptr 1 0 0:=by
 have:=U5 (P:=⟨env,T,A1⟩) (c:=iF) (fun i=>([(1,.ptr 0 0 0),(2,.ptr 1 0 0),(3,.int .i64 (i:Int))],vY m (trTo m.fs i))) m.fs.length fun i hi=>XJ hT hi hs (hk _ (zqb hi))
 have e0:trTo m.fs 0=m.fs:=by unfold trTo;simp
 have e1:trTo m.fs m.fs.length=m.fs.map canC:=by unfold trTo;simp
 simp only[e0,e1,show((0:Nat):Int)=0 from rfl]at this;obtain⟨fr',h,p⟩:=XK (T:=T) (m:=m) (m.fs.map canC) (zqa ..);exact⟨fr',by rw[this];exact C6 h,p⟩
end
theorem Hd(hCopyModule:T 16=some i7)(hcanon_Canon:T 17=some F3){m:Modl}(hk:(m.ok/\m.fs.length*80<=bigN)/\∀c∈m.fs,c.tok):AM.Comes ⟨env,T,A1⟩ 6 [m.F] [(canM m).O]:=by
 have tc:=fun K=>eP (K:=K) hCopyModule hk.1
 obtain⟨fr',h1,h2,h3⟩:=XL hcanon_Canon hk.1.2 hk.2;refine⟨[.agg [.msl 1 0 m.gs.length 4,.msl 2 0 m.fs.length 5]],⟨[.row 1 [.agg [.msl 1 0 m.gs.length 4,.msl 2 0 m.fs.length 5]] 2,.row 0 (m.gs.map Glo.F) 4,.row 0 ((m.fs.map canC).map Cod.O) 5],0,[]⟩,?_,?_⟩
 . rw[A3 (c:=p6) (nt:=24) (rs:=[.cell 2 25]) rfl (by simp)];unfold p6
   unfold K0;unfold vY at h1;simp only[Modl.F,Modl.O]at tc|-;simp -implicitDefEqProofs only[tc,h1,h2,h3,zqa,XP,seval]
 . refine back_of (vs':=[.agg [.msl 1 0 m.gs.length 4,.msl 2 0 m.fs.length 5]]) (os':=[.row 1 [.agg [.msl 1 0 m.gs.length 4,.msl 2 0 m.fs.length 5]] 2,.row 0 (m.gs.map Glo.F) 4,.row 0 ((m.fs.map canC).map Cod.O) 5]) ?_ ?_ (us:=[.agg [.msl 0 0 (m.gs.map Glo.F).length 4,.msl 1 0 ((m.fs.map canC).map Cod.O).length 5]]) (ps:=[.row 0 (m.gs.map Glo.F) 4,.row 0 ((m.fs.map canC).map Cod.O) 5]) ?_ ?_ ?_
   all_goals simp -implicitDefEqProofs only[Modl.O,canM,zqa,XP,seval]
def I7:=W3 (fun p:(Modl)=>[p.F]) (fun p=>[(canM p).O]) (fun p=>(p.ok/\p.fs.length*80<=bigN)/\∀c∈p.fs,c.tok)
theorem Vo(hlaw21_turned:T 6=some I7){m:Modl}{K:PK}(hk:(m.ok/\m.fs.length*80<=bigN)/\∀c∈m.fs,c.tok):evP ⟨env,T,A1⟩ (.call 6 [m.F] K)=some (.val (openTs K.os.length [(canM m).O]).1 ⟨K.os++(openTs K.os.length [(canM m).O]).2,K.ext,K.tch⟩):=B3 hlaw21_turned (by simp -implicitDefEqProofs only[VV,XP,seval]) (B5 (a:=fun p:(Modl)=>[p.F]) (r:=fun p=>[(canM p).O]) (fun x y e=>by simp only[VJ]at e;simp only[e]) (m) hk) (by simp -implicitDefEqProofs only[VN,XP,seval])
theorem Ol(hlaw21_turned:T 6=some I7){m:Modl}{K:PK}{args:List AV}(hv:viewAs K.os args=some [m.F])(hk:(m.ok/\m.fs.length*80<=bigN)/\∀c∈m.fs,c.tok):evP ⟨env,T,A1⟩ (.call 6 args K)=some (.val (openTs K.os.length [(canM m).O]).1 ⟨K.os++(openTs K.os.length [(canM m).O]).2,K.ext,K.tch⟩):=B3 hlaw21_turned hv (B5 (a:=fun p:(Modl)=>[p.F]) (r:=fun p=>[(canM p).O]) (fun x y e=>by simp only[VJ]at e;simp only[e]) (m) hk) (by generalize (refsL args).isEmpty=z;simp -implicitDefEqProofs only[VN,XP,seval])
theorem Om(hCopyModule:T 16=some i7)(hcanon_Canon:T 17=some F3)(hP:PEok ⟨env,T,A1⟩):TC env 6 I7:=B8 hP fun p h=>Hd hCopyModule hcanon_Canon h
section
variable {l m:List Glo}{i:Nat}
theorem lL{e e':Glo}{K:PK}:N4 env .eql 54 e.F e'.F K=.val (.bool (decide (e=e'))) K:=by
 have h:∀a b:Int,gC (.int .i64 a) (.int .i64 b)=some (decide (a=b)):=fun a b=>by
  show some (intEq a b)=_
  rw[S6];by_cases e:a=b<;>simp[e]
 have hs:∀a b:List UInt8,gC (.str a) (.str b)=some (decide (a=b)):=fun a b=>by
  show some (Hw a b)=_
  rw[Ak];by_cases e:a=b<;>simp[e]
 unfold Glo.F;rw[bp _ _ rfl rfl];show z8 (A4 (onOB (gC (.str e.name) (.str e'.name)) none (onOB (gC (.int .i64 e.ty) (.int .i64 e'.ty)) none (onOB (gC (.int .i64 e.size) (.int .i64 e'.size)) none (onOB (gC (.int .i64 e.at_) (.int .i64 e'.at_)) none (some true) (some false)) (some false)) (some false)) (some false)) E3) K=_
 simp only[h,hs];obtain⟨a,b,c,d⟩:=e;obtain⟨a',b',c',d'⟩:=e';simp only[Glo.mk.injEq];by_cases h1:a=a'
 . by_cases h2:b=b'
   . by_cases h3:c=c'
     . by_cases h4:d=d'
       . rw[B9 h1,B9 h2,B9 h3,B9 h4,B9 (p:=a=a'/\b=b'/\c=c'/\d=d') ⟨h1,h2,h3,h4⟩];rfl
       . rw[B9 h1,B9 h2,B9 h3,C9 h4,C9 (p:=a=a'/\b=b'/\c=c'/\d=d') (fun h=>h4 h.2.2.2)];rfl
     . rw[B9 h1,B9 h2,C9 h3,C9 (p:=a=a'/\b=b'/\c=c'/\d=d') (fun h=>h3 h.2.2.1)];rfl
   . rw[B9 h1,C9 h2,C9 (p:=a=a'/\b=b'/\c=c'/\d=d') (fun h=>h2 h.2.1)];rfl
 . rw[C9 h1,C9 (p:=a=a'/\b=b'/\c=c'/\d=d') (fun h=>h1 h.1)];rfl
end
section
variable {l m:List Glo}{i:Nat}
theorem XM(hl:i<l.length)(hm:i<m.length)(hs:l.length*40<=bigN)(he:l[i]=m[i]):
 evP ⟨env,T,A1⟩ (.code Nb [(0,fslN (l.map Glo.F)),(1,fslN (m.map Glo.F)),(5,.int .i64 i)] ⟨[],0,[]⟩)=some (.ok .normal [(0,fslN (l.map Glo.F)),(1,fslN (m.map Glo.F)),(5,.int .i64 ((i+1:Nat):Int))] ⟨[],0,[]⟩):=by
 unfold Nb;have hlt:decide ((i:Int)<((l.map Glo.F).length:Int))=true:=by simp[hl]
 have h1:=A6 (F:=Glo.F) hl;have h2:=A6 (F:=Glo.F) hm;have hw:=B2 (i:=i) (by simp only[bigN]at hs;omega);have ht:=fun K=>lL (e:=l[i]) (e':=m[i]) (K:=K)
 rw[B9 he]at ht;simp only[Glo.F]at h1 h2 ht;simp -implicitDefEqProofs only[hlt,h1,h2,hw,ht,u_not,XP,seval]
theorem XN(hl:i<l.length)(hm:i<m.length)(he:¬l[i]=m[i]):
 ∃fr',evP ⟨env,T,A1⟩ (.code Nb [(0,fslN (l.map Glo.F)),(1,fslN (m.map Glo.F)),(5,.int .i64 i)] ⟨[],0,[]⟩)=some (.ok .ret fr' ⟨[],0,[]⟩)/\lookP fr' 4=.bool false:=by
 unfold Nb;have hlt:decide ((i:Int)<((l.map Glo.F).length:Int))=true:=by simp[hl]
 have h1:=A6 (F:=Glo.F) hl;have h2:=A6 (F:=Glo.F) hm;have ht:=fun K=>lL (e:=l[i]) (e':=m[i]) (K:=K)
 rw[C9 he]at ht;simp only[Glo.F]at h1 h2 ht;simp -implicitDefEqProofs only[hlt,h1,h2,ht,u_not,XP,seval];exact⟨_,rfl,rfl⟩
theorem XO:∃fr',evP ⟨env,T,A1⟩ (.code Nb [(0,fslN (l.map Glo.F)),(1,fslN (m.map Glo.F)),(5,.int .i64 l.length)] ⟨[],0,[]⟩)=some (.ok (.exit 0) fr' ⟨[],0,[]⟩):=by
 unfold Nb;have hlt:decide ((l.length:Int)<((l.map Glo.F).length:Int))=false:=by simp
 simp -implicitDefEqProofs only[hlt,XP,seval];exact⟨_,rfl⟩
end
theorem Js  {l:List Glo} {m:List Glo} (hk:l.length*40<=bigN):AM.Comes ⟨env,T,A1⟩ 21 [fslN (l.map Glo.F),fslN (m.map Glo.F)] [.bool (decide (l=m))]:=by
 refine⟨[.bool (decide (l=m))],⟨[],0,[]⟩,?_,back_of rfl zqo rfl rfl rfl⟩;rw[A3 (c:=MK) (nt:=27) (rs:=[.tmp 4]) rfl (by simp)];unfold MK;unfold K0;by_cases hm:l.length=m.length
 . have hn:(!decide (((l.map Glo.F).length:Int)=((m.map Glo.F).length:Int)))=false:=by simp[hm]
   rcases same_loop (P:=⟨env,T,A1⟩) (c:=Nb) (A:=fslN (l.map Glo.F)) (B:=fslN (m.map Glo.F)) hm (fun i h h' e=>XM h h' hk e) (fun i h h' e=>XN h h' e) XO with⟨h1,fr',h2⟩|⟨h1,fr',h2,h3⟩
   . simp -implicitDefEqProofs only[hn,B9 h1,h2,XP,seval]
   . simp -implicitDefEqProofs only[hn,C9 h1,h2,h3,XP,seval]
 . have hn:(!decide (((l.map Glo.F).length:Int)=((m.map Glo.F).length:Int)))=true:=by simp;omega
   have h1:¬l=m:=fun h=>hm (by rw[h])
   simp -implicitDefEqProofs only[hn,C9 h1,XP,seval]
def X2:=W3 (fun p:(List Glo)×(List Glo)=>[fslN (p.1.map Glo.F),fslN (p.2.map Glo.F)]) (fun p=>[.bool (decide (p.1=p.2))]) (fun p=>p.1.length*40<=bigN)
theorem aM(hSameGlobals:T 21=some X2){l:List Glo}{m:List Glo}{K:PK}(hk:l.length*40<=bigN):evP ⟨env,T,A1⟩ (.call 21 [fslN (l.map Glo.F),fslN (m.map Glo.F)] K)=some (.val (openTs K.os.length [.bool (decide (l=m))]).1 ⟨K.os++(openTs K.os.length [.bool (decide (l=m))]).2,K.ext,K.tch⟩):=B3 hSameGlobals (by simp -implicitDefEqProofs only[VV,XP,seval]) (B5 (a:=fun p:(List Glo)×(List Glo)=>[fslN (p.1.map Glo.F),fslN (p.2.map Glo.F)]) (r:=fun p=>[.bool (decide (p.1=p.2))]) (fun x y e=>by simp only[VJ]at e;simp only[e]) (l,m) hk) (by simp -implicitDefEqProofs only[VN,XP,seval])
theorem Te  (hP:PEok ⟨env,T,A1⟩):TC env 21 X2:=B8 hP fun p h=>Js  h
section
variable {c d:Cod}{K:PK}
theorem aN(h:c.ok):V3 [c.F,d.F]=some [.bool (decide (c=d))]:=B5 (a:=fun p:Cod×Cod=>[p.1.F,p.2.F]) (r:=fun p=>[.bool (decide (p.1=p.2))]) (fun x y e=>by simp only[List.cons.injEq,Cod.F_iff,and_true]at e;simp only[e]) (c,d) h
theorem eQ(hT:T 36=some V3)(h:c.ok){args:List AV}(hv:viewAs K.os args=some [c.F,d.F]):evP ⟨env,T,A1⟩ (.call 36 args K)=some (.val [.bool (decide (c=d))] ⟨K.os++[],K.ext,K.tch⟩):=B3 hT hv (aN h) (by show(true&&(_||true))=true;simp)
theorem Xf(hT:T 36=some V3)(h:c.ok):evP ⟨env,T,A1⟩ (.call 36 [c.F,d.F] K)=some (.val [.bool (decide (c=d))] ⟨K.os++[],K.ext,K.tch⟩):=eQ hT h (by simp -implicitDefEqProofs only[Cod.viewF,XP,seval])
end
section
variable {l m:List Cod}{i:Nat}
theorem XR(hT:T 36=some V3)(hl:i<l.length)(hm:i<m.length)(hk:l[i].ok)(hs:l.length*80<=bigN)(he:l[i]=m[i]):
 evP ⟨env,T,A1⟩ (.code Nc [(0,fslN (l.map Cod.F)),(1,fslN (m.map Cod.F)),(5,.int .i64 i)] ⟨[],0,[]⟩)=some (.ok .normal [(0,fslN (l.map Cod.F)),(1,fslN (m.map Cod.F)),(5,.int .i64 ((i+1:Nat):Int))] ⟨[],0,[]⟩):=by
 unfold Nc;have hlt:decide ((i:Int)<((l.map Cod.F).length:Int))=true:=by simp[hl]
 have h1:=A6 (F:=Cod.F) hl;have h2:=A6 (F:=Cod.F) hm;have hw:=B2 (i:=i) (by simp only[bigN]at hs;omega);have ht:=fun K=>Xf (K:=K) (d:=m[i]) hT hk
 rw[B9 he]at ht;simp only[Cod.F]at h1 h2 ht;simp -implicitDefEqProofs only[hlt,h1,h2,hw,ht,u_not,XP,seval]
theorem XS(hT:T 36=some V3)(hl:i<l.length)(hm:i<m.length)(hk:l[i].ok)(he:¬l[i]=m[i]):
 ∃fr',evP ⟨env,T,A1⟩ (.code Nc [(0,fslN (l.map Cod.F)),(1,fslN (m.map Cod.F)),(5,.int .i64 i)] ⟨[],0,[]⟩)=some (.ok .ret fr' ⟨[],0,[]⟩)/\lookP fr' 4=.bool false:=by
 unfold Nc;have hlt:decide ((i:Int)<((l.map Cod.F).length:Int))=true:=by simp[hl]
 have h1:=A6 (F:=Cod.F) hl;have h2:=A6 (F:=Cod.F) hm;have ht:=fun K=>Xf (K:=K) (d:=m[i]) hT hk
 rw[C9 he]at ht;simp only[Cod.F]at h1 h2 ht;simp -implicitDefEqProofs only[hlt,h1,h2,ht,u_not,XP,seval];exact⟨_,rfl,rfl⟩
theorem XT:∃fr',evP ⟨env,T,A1⟩ (.code Nc [(0,fslN (l.map Cod.F)),(1,fslN (m.map Cod.F)),(5,.int .i64 l.length)] ⟨[],0,[]⟩)=some (.ok (.exit 0) fr' ⟨[],0,[]⟩):=by
 unfold Nc;have hlt:decide ((l.length:Int)<((l.map Cod.F).length:Int))=false:=by simp
 simp -implicitDefEqProofs only[hlt,XP,seval];exact⟨_,rfl⟩
end
theorem On(hSameCode:T 36=some V3){l:List Cod}{m:List Cod}(hk:(∀x∈l,x.ok)/\l.length*80<=bigN):AM.Comes ⟨env,T,A1⟩ 22 [fslN (l.map Cod.F),fslN (m.map Cod.F)] [.bool (decide (l=m))]:=by
 refine⟨[.bool (decide (l=m))],⟨[],0,[]⟩,?_,back_of rfl zqo rfl rfl rfl⟩;rw[A3 (c:=ML) (nt:=27) (rs:=[.tmp 4]) rfl (by simp)];unfold ML;unfold K0;by_cases hm:l.length=m.length
 . have hn:(!decide (((l.map Cod.F).length:Int)=((m.map Cod.F).length:Int)))=false:=by simp[hm]
   rcases same_loop (P:=⟨env,T,A1⟩) (c:=Nc) (A:=fslN (l.map Cod.F)) (B:=fslN (m.map Cod.F)) hm (fun i h h' e=>XR hSameCode h h' (hk.1 _ (zqb h)) hk.2 e) (fun i h h' e=>XS hSameCode h h' (hk.1 _ (zqb h)) e) XT with⟨h1,fr',h2⟩|⟨h1,fr',h2,h3⟩
   . simp -implicitDefEqProofs only[hn,B9 h1,h2,XP,seval]
   . simp -implicitDefEqProofs only[hn,C9 h1,h2,h3,XP,seval]
 . have hn:(!decide (((l.map Cod.F).length:Int)=((m.map Cod.F).length:Int)))=true:=by simp;omega
   have h1:¬l=m:=fun h=>hm (by rw[h])
   simp -implicitDefEqProofs only[hn,C9 h1,XP,seval]
def t7:=W3 (fun p:(List Cod)×(List Cod)=>[fslN (p.1.map Cod.F),fslN (p.2.map Cod.F)]) (fun p=>[.bool (decide (p.1=p.2))]) (fun p=>(∀x∈p.1,x.ok)/\p.1.length*80<=bigN)
theorem iY(hSameCodes:T 22=some t7){l:List Cod}{m:List Cod}{K:PK}(hk:(∀x∈l,x.ok)/\l.length*80<=bigN):evP ⟨env,T,A1⟩ (.call 22 [fslN (l.map Cod.F),fslN (m.map Cod.F)] K)=some (.val (openTs K.os.length [.bool (decide (l=m))]).1 ⟨K.os++(openTs K.os.length [.bool (decide (l=m))]).2,K.ext,K.tch⟩):=B3 hSameCodes (by simp -implicitDefEqProofs only[VV,XP,seval]) (B5 (a:=fun p:(List Cod)×(List Cod)=>[fslN (p.1.map Cod.F),fslN (p.2.map Cod.F)]) (r:=fun p=>[.bool (decide (p.1=p.2))]) (fun x y e=>by simp only[VJ]at e;simp only[e]) (l,m) hk) (by simp -implicitDefEqProofs only[VN,XP,seval])
theorem aO(hSameCode:T 36=some V3)(hP:PEok ⟨env,T,A1⟩):TC env 22 t7:=B8 hP fun p h=>On hSameCode h
theorem Modl.eq_iff{a b:Modl}:a=b↔a.gs=b.gs/\a.fs=b.fs:=by cases a;cases b;simp
theorem Lv(hSameGlobals:T 21=some X2)(hSameCodes:T 22=some t7){a:Modl}{b:Modl}(hk:a.gs.length*40<=bigN/\(∀x∈a.fs,x.ok)/\a.fs.length*80<=bigN):AM.Comes ⟨env,T,A1⟩ 9 [a.F,b.F] [.bool (decide (a=b))]:=by
 refine⟨[.bool (decide (a=b))],⟨[],0,[]⟩,?_,back_of rfl zqo rfl rfl rfl⟩;rw[A3 (c:=p9) (nt:=17) (rs:=[.tmp 4]) rfl (by simp)];unfold p9;unfold K0;have t1:=fun K=>aM (K:=K) (l:=a.gs) (m:=b.gs) hSameGlobals hk.1
 have t2:=fun K=>iY (K:=K) (l:=a.fs) (m:=b.fs) hSameCodes hk.2
 unfold Modl.F;by_cases h1:a.gs=b.gs
 . have e:decide (a=b)=decide (a.fs=b.fs):=by simp[Modl.eq_iff,h1]
   rw[B9 h1]at t1;simp -implicitDefEqProofs only[t1,t2,e,XP,seval]
 . have e:decide (a=b)=false:=C9 fun e=>h1 (Modl.eq_iff.1 e).1
   rw[C9 h1]at t1;simp -implicitDefEqProofs only[t1,e,XP,seval]
def Q4:=W3 (fun p:(Modl)×(Modl)=>[p.1.F,p.2.F]) (fun p=>[.bool (decide (p.1=p.2))]) (fun p=>p.1.gs.length*40<=bigN/\(∀x∈p.1.fs,x.ok)/\p.1.fs.length*80<=bigN)
theorem Vp(hSameModule:T 9=some Q4){a:Modl}{b:Modl}{K:PK}{args:List AV}(hv:viewAs K.os args=some [a.F,b.F])(hk:a.gs.length*40<=bigN/\(∀x∈a.fs,x.ok)/\a.fs.length*80<=bigN):evP ⟨env,T,A1⟩ (.call 9 args K)=some (.val (openTs K.os.length [.bool (decide (a=b))]).1 ⟨K.os++(openTs K.os.length [.bool (decide (a=b))]).2,K.ext,K.tch⟩):=B3 hSameModule hv (B5 (a:=fun p:(Modl)×(Modl)=>[p.1.F,p.2.F]) (r:=fun p=>[.bool (decide (p.1=p.2))]) (fun x y e=>by simp only[VJ]at e;simp only[e]) (a,b) hk) (by generalize (refsL args).isEmpty=z;simp -implicitDefEqProofs only[VN,XP,seval])
theorem Vq(hSameGlobals:T 21=some X2)(hSameCodes:T 22=some t7)(hP:PEok ⟨env,T,A1⟩):TC env 9 Q4:=B8 hP fun p h=>Lv hSameGlobals hSameCodes h
def Bx(s:List UInt8)(a b:Int):Ins:=⟨3,1,0,a,b,0,s,[]⟩
def He(s:List UInt8)(a b:Int):AV:=.agg [.int .i64 3,.int .i64 1,.int .i64 0,.int .i64 a,.int .i64 b,.int .i64 0,.str s,.nilsl]
theorem Oo  {s:List UInt8} {a:Int} {b:Int}:AM.Comes ⟨env,T,A1⟩ 15 [.str s,.int .i64 a,.int .i64 b] [.agg [.int .i64 3,.int .i64 1,.int .i64 0,.int .i64 a,.int .i64 b,.int .i64 0,.str s,.nilsl]]:=by
 refine⟨[He s a b],⟨[.row 1 [He s a b] 8],0,[]⟩,?_,?_⟩
 . rw[A3 (c:=ME) (nt:=11) (rs:=[.cell 6 49]) rfl (by simp)];unfold ME
   unfold K0 He;simp -implicitDefEqProofs only[XP,seval]
 . unfold He
   refine back_of (vs':=[He s a b]) (os':=[.row 1 [He s a b] 8]) ?_ ?_ (us:=[He s a b]) (ps:=[]) ?_ ?_ ?_
   all_goals unfold He
   all_goals simp -implicitDefEqProofs only[XP,seval]
def t8:=W3 (fun p:(List UInt8)×(Int)×(Int)=>[.str p.1,.int .i64 p.2.1,.int .i64 p.2.2]) (fun p=>[.agg [.int .i64 3,.int .i64 1,.int .i64 0,.int .i64 p.2.1,.int .i64 p.2.2,.int .i64 0,.str p.1,.nilsl]]) (fun p=>True)
theorem iZ(hlaw21_bin:T 15=some t8){s:List UInt8}{a:Int}{b:Int}{K:PK}:evP ⟨env,T,A1⟩ (.call 15 [.str s,.int .i64 a,.int .i64 b] K)=some (.val (openTs K.os.length [.agg [.int .i64 3,.int .i64 1,.int .i64 0,.int .i64 a,.int .i64 b,.int .i64 0,.str s,.nilsl]]).1 ⟨K.os++(openTs K.os.length [.agg [.int .i64 3,.int .i64 1,.int .i64 0,.int .i64 a,.int .i64 b,.int .i64 0,.str s,.nilsl]]).2,K.ext,K.tch⟩):=B3 hlaw21_bin (by simp -implicitDefEqProofs only[VV,XP,seval]) (B5 (a:=fun p:(List UInt8)×(Int)×(Int)=>[.str p.1,.int .i64 p.2.1,.int .i64 p.2.2]) (r:=fun p=>[.agg [.int .i64 3,.int .i64 1,.int .i64 0,.int .i64 p.2.1,.int .i64 p.2.2,.int .i64 0,.str p.1,.nilsl]]) (fun x y e=>by simp only[VJ]at e;simp only[e]) (s,a,b) trivial) (by simp -implicitDefEqProofs only[VN,XP,seval])
theorem aP  (hP:PEok ⟨env,T,A1⟩):TC env 15 t8:=B8 hP fun p h=>Oo
def oneC(x:Ins):Cod:=⟨E2,1,0,[1,1,1],[⟨[x],⟨3,0,0,0⟩⟩]⟩
theorem xK(hS:T 14=none)(a:AV)(K:PK):evP ⟨env,T,A1⟩ (.call 14 [a] K)=vV K (Nr env [.cell 2 49] (evP ⟨env,T,A1⟩ (.code FY (enterP 0 [a]) ⟨K.os,K.os.length,[]⟩))):=by
 rw[Gc hS rfl,A3 (c:=FY) (nt:=33) (rs:=[.cell 2 49]) rfl (by simp)]
theorem KF(id n:Nat):Hs l5 (.msl id 0 (n+1) 5) (.int .i64 0)=some (.ptr id 0 0):=ix_msl (k:=.i64) (i:=0) (zks _) rfl
theorem KG(id n:Nat):Hs Z4 (.msl id 0 (n+1) 8) (.int .i64 0)=some (.ptr id 0 0):=ix_msl (k:=.i64) (i:=0) (zks _) rfl
def tY(b:Nat)(s:List UInt8)(p q:Int):List PO:=[.row 1 [He s p q] 8,.row 1 [.agg [.int .i64 0,.int .i64 0,.int .i64 0,.int .i64 0,.int .i64 0,.int .i64 0,.str [],.nilsl]] 8,.row 0 [.int .i64 1,.int .i64 1,.int .i64 1] 1,.sub (b+4) 0 0,.row 0 [.agg [ownd 0 8 [He s p q],.int .i64 3,.int .i64 0,.int .i64 0,.int .i64 0]] 5]
theorem CX(s:List UInt8)(p q:Int):(oneC (Bx s p q)).ok/\0<(oneC (Bx s p q)).blocks.length:=⟨⟨by show 3*8<=bigN;decide,fun b hb=>by rw[zkn.1 hb];exact⟨fun y hy=>by rw[zkn.1 hy];show 0*8<=bigN;decide,by show 1*88<=bigN;decide⟩,by show 1*56<=bigN;decide⟩,zks _⟩
theorem aQ(hC:T 17=some F3){os:List PO}{b ext:Nat}{tch:List Nat}{s:List UInt8}{p q:Int}{y:Ins}(hy:G8 (Bx s p q)=y)(ha:y.args=[])(hv:viewX os [.agg [.str [109,97,105,110],.int .i64 1,.int .i64 0,.msl (b+2) 0 3 1,.msl (b+4) 0 1 5]]=some [(oneC (Bx s p q)).F]):
 evP ⟨env,T,A1⟩ (.call 17 [.agg [.str [109,97,105,110],.int .i64 1,.int .i64 0,.msl (b+2) 0 3 1,.msl (b+4) 0 1 5]] ⟨os,ext,tch⟩)=some (.val [.agg [.str [109,97,105,110],.int .i64 1,.int .i64 0,.msl os.length 0 3 1,.msl (os.length+1) 0 1 5]] ⟨os++[.row 0 [.int .i64 1,.int .i64 1,.int .i64 1] 1,.row 0 [.agg [ownd 0 8 [.agg [.int .i64 y.op,.int .i64 y.ty,.int .i64 y.dst,.int .i64 y.a,.int .i64 y.b,.int .i64 y.n,.str y.s,ownd 0 1 []]],.int .i64 3,.int .i64 0,.int .i64 0,.int .i64 0]] 5],ext,tch⟩):=by
 have hg:F3 [(oneC (Bx s p q)).F]=some [(canC (oneC (Bx s p q))).O]:=B5 (a:=fun p:Cod=>[p.F]) (r:=fun p=>[(canC p).O]) (fun x y e=>by simp only[Cod.F_iff,List.cons.injEq,and_true]at e;rw[e]) (oneC (Bx s p q)) (CX s p q);have e:(canC (oneC (Bx s p q))).O=.agg [.str [109,97,105,110],.int .i64 1,.int .i64 0,ownd 0 1 [.int .i64 1,.int .i64 1,.int .i64 1],ownd 0 5 [.agg [ownd 0 8 [.agg [.int .i64 y.op,.int .i64 y.ty,.int .i64 y.dst,.int .i64 y.a,.int .i64 y.b,.int .i64 y.n,.str y.s,ownd 0 1 []]],.int .i64 3,.int .i64 0,.int .i64 0,.int .i64 0]]]:=by
  have:(canC (oneC (Bx s p q))).O=.agg [.str [109,97,105,110],.int .i64 1,.int .i64 0,ownd 0 1 [.int .i64 1,.int .i64 1,.int .i64 1],ownd 0 5 [.agg [ownd 0 8 [(G8 (Bx s p q)).O],.int .i64 3,.int .i64 0,.int .i64 0,.int .i64 0]]]:=rfl
  rw[this,hy];unfold Ins.O;rw[ha];rfl
 rw[e]at hg;rw[mF (K:=⟨os,ext,tch⟩) hC hv hg rfl];rfl
def Tf(b:Nat)(s:List UInt8)(p q:Int)(s':List UInt8)(p' q':Int):List PO:=[.row 1 [He s p q] 8,.row 1 [.agg [.int .i64 3,.int .i64 1,.int .i64 0,.int .i64 p',.int .i64 q',.int .i64 0,.str s',.msl (b+10) 0 0 1]] 8,.row 0 [.int .i64 1,.int .i64 1,.int .i64 1] 1,.sub (b+4) 0 0,.row 0 [.agg [ownd 0 8 [He s p q],.int .i64 3,.int .i64 0,.int .i64 0,.int .i64 0]] 5,.row 0 [.int .i64 1,.int .i64 1,.int .i64 1] 1,.row 0 [.agg [ownd 0 8 [.agg [.int .i64 3,.int .i64 1,.int .i64 0,.int .i64 p',.int .i64 q',.int .i64 0,.str s',ownd 0 1 []]],.int .i64 3,.int .i64 0,.int .i64 0,.int .i64 0]] 5,.row 1 [.agg [.str [109,97,105,110],.int .i64 1,.int .i64 0,.msl (b+5) 0 3 1,.msl (b+6) 0 1 5]] 5,.sub (b+6) 0 0,.sub (b+6) 0 0,.sub (b+9) 0 7]
theorem jA(hE:T 13=some N0){os:List PO}{b ext:Nat}{tch:List Nat}{s:List UInt8}{p q:Int}(hv:viewX os [.agg [.int .i64 3,.int .i64 1,.int .i64 0,.int .i64 p,.int .i64 q,.int .i64 0,.str s,.msl (b+10) 0 0 1],.agg [.int .i64 3,.int .i64 1,.int .i64 0,.int .i64 p,.int .i64 q,.int .i64 0,.str s,.nilsl]]=some [(Bx s p q).F,(Bx s p q).F]):
 evP ⟨env,T,A1⟩ (.call 13 [.agg [.int .i64 3,.int .i64 1,.int .i64 0,.int .i64 p,.int .i64 q,.int .i64 0,.str s,.msl (b+10) 0 0 1],.agg [.int .i64 3,.int .i64 1,.int .i64 0,.int .i64 p,.int .i64 q,.int .i64 0,.str s,.nilsl]] ⟨os,ext,tch⟩)=some (.val [.bool true] ⟨os++[],ext,tch⟩):=by
 have hg:=Fy (x:=Bx s p q) (y:=Bx s p q) (show 0*8<=bigN by decide);rw[decide_eq_true rfl]at hg;rw[mF (K:=⟨os,ext,tch⟩) hE hv hg rfl];rfl
theorem Jt(nlaw21_turns:T 14=none)(hlaw21_bin:T 15=some t8)(hcanon_Canon:T 17=some F3)(hSameInstr:T 13=some N0):AM.Comes ⟨env,T,A1⟩ 5 [] [.bool true]:=by
 refine⟨[.bool true],⟨[],0,[]⟩,?_,back_of rfl zqo rfl rfl rfl⟩;rw[A3 (c:=p5) (nt:=17) (rs:=[.tmp 0]) rfl (by simp)];unfold p5;unfold K0;have tb:=fun s a b K=>iZ (K:=K) (s:=s) (a:=a) (b:=b) hlaw21_bin
 have r1:=fun ext tch=>aQ (b:=0) (os:=tY 0 [43] 2 1) (ext:=ext) (tch:=tch) (s:=[43]) (p:=2) (q:=1) (y:=Bx [43] 1 2) hcanon_Canon rfl rfl rfl
 have s1:=fun ext tch=>jA (b:=0) (os:=Tf 0 [43] 2 1 [43] 1 2) (ext:=ext) (tch:=tch) (s:=[43]) (p:=1) (q:=2) hSameInstr rfl
 have r2:=fun ext tch=>aQ (b:=11) (os:=Tf 0 [43] 2 1 [43] 1 2++tY 11 [60] 2 1) (ext:=ext) (tch:=tch) (s:=[60]) (p:=2) (q:=1) (y:=Bx [62] 1 2) hcanon_Canon rfl rfl rfl
 have s2:=fun ext tch=>jA (b:=11) (os:=Tf 0 [43] 2 1 [43] 1 2++Tf 11 [60] 2 1 [62] 1 2) (ext:=ext) (tch:=tch) (s:=[62]) (p:=1) (q:=2) hSameInstr rfl
 have r3:=fun ext tch=>aQ (b:=22) (os:=Tf 0 [43] 2 1 [43] 1 2++(Tf 11 [60] 2 1 [62] 1 2++tY 22 [45] 2 1)) (ext:=ext) (tch:=tch) (s:=[45]) (p:=2) (q:=1) (y:=Bx [45] 2 1) hcanon_Canon rfl rfl rfl
 have s3:=fun ext tch=>jA (b:=22) (os:=Tf 0 [43] 2 1 [43] 1 2++(Tf 11 [60] 2 1 [62] 1 2++Tf 22 [45] 2 1 [45] 2 1)) (ext:=ext) (tch:=tch) (s:=[45]) (p:=2) (q:=1) hSameInstr rfl
 unfold tY He Bx at r1;unfold Tf He at s1 s2 s3;unfold Tf tY He Bx at r2 r3;simp only[Nat.zero_add,Nat.reduceAdd,zqe,zqd,zqf,zkk,zkj]at r1 s1 r2 s2 r3 s3;simp -implicitDefEqProofs only[xK nlaw21_turns,xD,tH,tI,tJ,tK,tL,xE,tM,FY,tb,r1,s1,r2,s2,r3,s3,show decide (((1:Nat):Int)=1)=true from rfl,u_not,show ∀id,Hs l5 (.msl id 0 1 5) (.int .i64 0)=some (.ptr id 0 0)from fun id=>KF id 0,show ∀id,Hs Z4 (.msl id 0 1 8) (.int .i64 0)=some (.ptr id 0 0)from fun id=>KG id 0,XP,seval]
def R1:=W3 (fun p:Unit=>[]) (fun p=>[.bool true]) (fun p=>True)
theorem Ju(hlaw21_works:T 5=some R1)  {K:PK}:evP ⟨env,T,A1⟩ (.call 5 [] K)=some (.val (openTs K.os.length [.bool true]).1 ⟨K.os++(openTs K.os.length [.bool true]).2,K.ext,K.tch⟩):=B3 hlaw21_works (by simp -implicitDefEqProofs only[VV,XP,seval]) (B5 (a:=fun p:Unit=>[]) (r:=fun p=>[.bool true]) (fun x y e=>by simp only[VJ]at e;simp only[e]) () trivial) (by simp -implicitDefEqProofs only[VN,XP,seval])
theorem Tg(nlaw21_turns:T 14=none)(hlaw21_bin:T 15=some t8)(hcanon_Canon:T 17=some F3)(hSameInstr:T 13=some N0)(hP:PEok ⟨env,T,A1⟩):TC env 5 R1:=B8 hP fun p h=>Jt nlaw21_turns hlaw21_bin hcanon_Canon hSameInstr
theorem xL{s t:List UInt8}(h:mirC s=some t):(s,t)∈mirs:=by
 unfold mirC at h;cases q:mirs.find? fun p=>decide (p.1=s)with
 |none=>rw[q]at h;cases h
 | some p =>
  rw[q]at h;cases h;have h1:=List.mem_of_find?_eq_some q;have h2:=List.find?_some q;have h2:p.1=s:=by simpa using h2
  rw[<-h2];exact h1
theorem Lw{P:List UInt8->List UInt8->Prop}{s t:List UInt8}(h:(s,t)∈mirs)(h1:P [43] [43])(h2:P [42] [42])(h3:P [38] [38])(h4:P [124] [124])(h5:P [94] [94])(h6:P [61,61] [61,61])(h7:P [33,61] [33,61])(h8:P [60] [62])(h9:P [62] [60])(h10:P [60,61] [62,61])(h11:P [62,61] [60,61]):P s t:=by
 simp only[mirs,zqp,Prod.mk.injEq,zqq,or_false]at h;rcases h with⟨rfl,rfl⟩|⟨rfl,rfl⟩|⟨rfl,rfl⟩|⟨rfl,rfl⟩|⟨rfl,rfl⟩|⟨rfl,rfl⟩|⟨rfl,rfl⟩|⟨rfl,rfl⟩|⟨rfl,rfl⟩|⟨rfl,rfl⟩|⟨rfl,rfl⟩<;>assumption
theorem oZ(k:IntKind)(a b:Int):Vl k b a=Vl k a b:=by unfold Vl;rw[show Nat.land (modN b (pow2 k)) (modN a (pow2 k))=Nat.land (modN a (pow2 k)) (modN b (pow2 k))from Nat.and_comm _ _]
theorem tZ(k:IntKind)(a b:Int):EX k b a=EX k a b:=by unfold EX;rw[show Nat.lor (modN b (pow2 k)) (modN a (pow2 k))=Nat.lor (modN a (pow2 k)) (modN b (pow2 k))from Nat.or_comm _ _]
theorem pA(k:IntKind)(a b:Int):oH k b a=oH k a b:=by unfold oH;rw[show Nat.xor (modN b (pow2 k)) (modN a (pow2 k))=Nat.xor (modN a (pow2 k)) (modN b (pow2 k))from Nat.xor_comm _ _]
theorem eR{k:IntKind}{m a b:Int}{s t:List UInt8}(h:(s,t)∈mirs):H4 k m t b a=H4 k m s a b:=by
 refine Lw (P:=fun s t=>H4 k m t b a=H4 k m s a b) h ?_ ?_ ?_ ?_ ?_ ?_ ?_ ?_ ?_ ?_ ?_<;>unfold H4 j8
 . simp[Int.add_comm]
 . simp[Int.mul_comm]
 . simp[oZ k a b]
 . simp[tZ k a b]
 . simp[pA k a b]
 iterate 2
  . by_cases e:a=b
    . subst e;rfl
    . have e':¬b=a:=fun h=>e h.symm
      simp[e,e']
 all_goals simp
theorem xM{k a b:Int}{s t:List UInt8}(h:(s,t)∈mirs):X0 k t b a=X0 k s a b:=by
 unfold X0;rw[eR h,eR h]
section
variable {x:Ins}
theorem tu_or(x:Ins):G8 x=x\/(x.op=3/\¬x.a<=x.b/\∃t,(x.s,t)∈mirs/\G8 x={x with a:=x.b,b:=x.a,s:=t}):=by
 unfold G8;by_cases h:x.op=3/\¬x.a<=x.b
 . rw[if_pos h]
   cases q:mirC x.s with
   |none=>exact .inl rfl
   |some t=>exact .inr ⟨h.1,h.2,t,xL q,rfl⟩
 . rw[if_neg h];exact .inl rfl
theorem tu_tu(x:Ins):G8 (G8 x)=G8 x:=by
 rcases tu_or x with h|⟨h1,h2,t,h3,h4⟩
 . rw[h,h]
 . rw[h4]
   unfold G8;rw[if_neg (fun e=>e.2 (by show x.b<=x.a;omega))]
theorem xN(x:Ins):(G8 x).op=x.op/\(G8 x).ty=x.ty/\(G8 x).dst=x.dst/\(G8 x).n=x.n/\(G8 x).args=x.args:=by
 rcases tu_or x with h|⟨h1,h2,t,h3,h4⟩
 . rw[h];exact⟨rfl,rfl,rfl,rfl,rfl⟩
 . rw[h4];exact⟨rfl,rfl,rfl,rfl,rfl⟩
theorem jB(m:Modl):canM (canM m)=canM m:=by
 have hb:∀b,canB (canB b)=canB b:=fun b=>by
  unfold canB;show Blk.mk ((b.code.map G8).map G8) b.e=_
  rw[zqw,show G8∘G8=G8 from funext tu_tu]
 have hc:∀c,canC (canC c)=canC c:=fun c=>by
  unfold canC;show Cod.mk c.name c.ty c.ps c.regs ((c.blocks.map canB).map canB)=_
  rw[zqw,show canB∘canB=canB from funext hb]
 unfold canM;rw[zqw,show canC∘canC=canC from funext hc]
end
section
variable {m m':Modl}{C:Int->List Int->Mst->Rs}{c:Cod}
theorem xO(h:m'.gs=m.gs)(x:Ins)(r:List Int)(s:Mst):doesI m' x r s=doesI m x r s:=by unfold doesI gAt;rw[h]
theorem xP(x:Ins)(r:List Int)(s:Mst):doesI m (G8 x) r s=doesI m x r s:=by
 rcases tu_or x with h|⟨h1,h2,t,h3,h4⟩
 . rw[h]
 . rw[h4]
   unfold doesI;dsimp only;rw[if_neg (show ¬x.op=1 by omega),if_neg (show ¬x.op=2 by omega),if_pos h1,if_neg (show ¬x.op=1 by omega),if_neg (show ¬x.op=2 by omega),if_pos h1,xM h3]
theorem uA(h:m'.gs=m.gs):∀(l:List Ins)(r:List Int)(s:Mst),insF m' C (l.map G8) r s=insF m C l r s
 |[],r,s=>rfl
 | x::l,r,s=>by
  have ih:=uA h l;obtain⟨e1,_,e2,e3,e4⟩:=xN x;rw[zqn,insF,insF];simp only[xO h,xP,ih,e1,e2,e3,argsI,e4]
theorem xQ(i:Int):blkAt (canC c) i=canB (blkAt c i):=by
 unfold blkAt canC;rw[zqg,zqg];show((c.blocks.map canB)[i.toNat]?).getD _=_
 rw[zqv];cases c.blocks[i.toNat]? with
 |none=>rfl
 |some b=>rfl
theorem eS(h:m'.gs=m.gs):∀(n:Nat)(i:Int)(r:List Int)(s:Mst),J7 m' C (canC c) n i r s=J7 m C c n i r s
 |0,i,r,s=>rfl
 | n+1,i,r,s=>by
  have ih:=eS h n;rw[J7,J7,xQ];unfold canB;simp only[uA h,ih]
theorem xR(f:Int):Dv (canM m) f=canC (Dv m f):=by
 unfold Dv canM;rw[zqg,zqg,zqv];cases m.fs[f.toNat]? with
 |none=>rfl
 |some b=>rfl
theorem call_can:∀(k:Nat)(f:Int)(a:List Int)(s:Mst),I3 (canM m) k f a s=I3 m k f a s
 |0,f,a,s=>rfl
 | k+1,f,a,s=>by
  have ih:I3 (canM m) k=I3 m k:=by funext f a s;exact call_can k f a s
  rw[I3,I3,ih,xR,eS (m':=canM m) (m:=m) rfl];rfl
theorem Th:s5 (canM m)=s5 m:=by
 unfold s5 canM idxOf
 have:∀l:List Cod,(l.map canC).findIdx? (fun c=>decide (c.name=E2))=l.findIdx? fun c=>decide (c.name=E2):=fun l=>by
  rw[List.findIdx?_map];rfl
 rw[this]
theorem xS(input:List Int)(steps:Int):O4 (canM m) input steps=O4 m input steps:=by
 unfold O4;rw[Th,call_can];rfl
theorem Jv(n:Int):codI (canM m).fs n=canC (codI m.fs n):=by
 unfold codI canM;rw[zqg,zqg];show((m.fs.map canC)[n.toNat]?).getD _=_
 rw[zqv];cases m.fs[n.toNat]? with
 |none=>rfl
 |some b=>rfl
theorem pB(x:Ins):H9 (canM m) (canC c) x=H9 m c x:=by
 have hl:(canM m).fs.length=m.fs.length:=zqa ..;have h1:C8 (canM m) (canC c) x=C8 m c x:=by
  unfold C8 iO N2;rw[Jv,hl];rfl
 have h2:Q2 (canM m) (canC c) x=Q2 m c x:=by
  unfold Q2 y7;rw[Jv];rfl
 unfold H9;rw[h1,h2,Jv];rfl
theorem uB{s t:List UInt8}(h:(s,t)∈mirs):((!decide (s=[])&&(!contS [32] s&&contS (32::(s++[32])) o9))=true/\(!decide (t=[])&&(!contS [32] t&&contS (32::(t++[32])) o9))=true)/\contS (32::(t++[32])) r6=contS (32::(s++[32])) r6:=by
 refine Lw (P:=fun s t=>((!decide (s=[])&&(!contS [32] s&&contS (32::(s++[32])) o9))=true/\(!decide (t=[])&&(!contS [32] t&&contS (32::(t++[32])) o9))=true)/\contS (32::(t++[32])) r6=contS (32::(s++[32])) r6) h ?_ ?_ ?_ ?_ ?_ ?_ ?_ ?_ ?_ ?_ ?_<;>exact⟨⟨by decide +kernel,by decide +kernel⟩,by decide +kernel⟩
theorem uC(x:Ins):H9 m c (G8 x)=H9 m c x:=by
 rcases tu_or x with h|⟨h1,h2,t,h3,h4⟩
 . rw[h]
 . obtain ⟨⟨s1,s2⟩,s3⟩:=uB h3
   have f1:r7 x=true:=by unfold r7;rw[if_pos h1];exact s1
   have f2:r7 {x with a:=x.b,b:=x.a,s:=t}=true:=by unfold r7;rw[if_pos h1];exact s2
   have hp:C8 m c {x with a:=x.b,b:=x.a,s:=t}=C8 m c x:=by
    have hr:(readsD {x with a:=x.b,b:=x.a,s:=t}).all (fun r=>thereD r c.regs.length)=(readsD x).all fun r=>thereD r c.regs.length:=by
     unfold readsD;dsimp only;rw[if_neg (show ¬x.op=2 by omega),if_neg (show ¬x.op=4 by omega),if_neg (show ¬x.op=5 by omega),if_neg (show ¬x.op=8 by omega),if_neg (show ¬x.op=11 by omega),if_pos h1,if_neg (show ¬x.op=2 by omega),if_neg (show ¬x.op=4 by omega),if_neg (show ¬x.op=5 by omega),if_neg (show ¬x.op=8 by omega),if_neg (show ¬x.op=11 by omega),if_pos h1];simp[Bool.and_comm]
    unfold C8;rw[hr];rfl
   have ht:Q2 m c {x with a:=x.b,b:=x.a,s:=t}=Q2 m c x:=by
    have ho:sJ {x with a:=x.b,b:=x.a,s:=t}=sJ x:=by unfold sJ;rw[s3]
    unfold Q2;rw[ho];dsimp only;rw[if_neg (show ¬x.op=2 by omega),if_pos h1,if_neg (show ¬x.op=2 by omega),if_pos h1,Bool.and_left_comm]
   rw[h4];unfold H9;rw[f1,f2,hp,ht]
theorem aS{l:List Int}(h:∀e∈l,e=0):G0 l=0:=by
 induction l with
 |nil=>rfl
 | cons a l ih =>
  unfold G0;rw[if_pos (h a (List.mem_cons_self ..))];exact ih fun e he=>h e (List.mem_cons_of_mem _ he)
theorem uD(h:R6 m c=0):R6 (canM m) (canC c)=0:=by
 obtain ⟨_,q2⟩:=Pn h;have hlen:(canC c).blocks.length=c.blocks.length:=zqa ..;have hz:G0 ((canC c).blocks.map (Oe (canM m) (canC c)))=0:=aS fun e he=>by
  obtain⟨b',hb',rfl⟩:=zql.1 he;obtain⟨b,hb,rfl⟩:=zql.1 hb';obtain⟨g1,g2⟩:=tF (q2 b hb);have e2:Jk (canC c) b.e=Jk c b.e:=by unfold Jk;rw[hlen];rfl
  unfold Oe;rw[if_pos (aS fun e he=>by
   obtain⟨y,hy,rfl⟩:=zql.1 he;obtain⟨x,hx,rfl⟩:=zql.1 hy;rw[pB,uC];exact g1 x hx)]
  exact e2.trans g2
 unfold R6 at h|-;rw[hlen];split at h
 . cases h
 . rename_i h1
   rw[if_neg (show ¬(c.blocks.length<1\/400<c.blocks.length\/4096<(canC c).regs.length)from h1)];split at h
   . cases h
   . rename_i h2
     rw[if_neg (show ¬((canC c).ps<0\/((canC c).regs.length:Int)<(canC c).ps)from h2)];split at h
     . cases h
     . rename_i h3
       rw[if_neg (show ¬((canC c).ty<0\/2<(canC c).ty\/((canC c).regs.any fun n=>!F0 n)=true)from h3)];exact hz
theorem Lx(h:N3 m=0):N3 (canM m)=0:=by
 obtain ⟨h1,h2⟩:=Dx h;have hf:G0 ((canM m).fs.map (R6 (canM m)))=0:=aS fun e he=>by
  obtain⟨c',hc',rfl⟩:=zql.1 he;obtain⟨c,hc,rfl⟩:=zql.1 hc';exact uD (h1 c hc)
 have hm:Sm (canM m)=Sm m:=by
  have:z6 (canM m)=z6 m:=Th
  unfold Sm;rw[this,Jv];rfl
 unfold N3 at h|-;by_cases q:G0 (m.gs.map Sl)=0
 . rw[if_pos (show G0 ((canM m).gs.map Sl)=0 from q),if_pos hf,hm];exact h2
 . rw[if_neg q]at h;exact absurd h q
theorem CY{x:Ins}(h:x.sok):(G8 x).sok:=by
 rcases tu_or x with e|⟨h1,h2,t,h3,h4⟩
 . rw[e];exact h
 . rw[h4]
   refine⟨h.1,?_⟩;exact Lw (P:=fun _ t=>t.length<=bigN) h3 (by decide) (by decide) (by decide) (by decide) (by decide) (by decide) (by decide) (by decide) (by decide) (by decide) (by decide)
theorem xT{c:Cod}(h:c.sok):(canC c).sok:=by
 have hb:∀b∈(canC c).blocks,b.sok:=fun b hb=>by
  obtain⟨b0,h0,rfl⟩:=zql.1 hb
  have:=h.2 b0 h0
  have hx:∀x∈(canB b0).code,x.sok:=fun x hx=>by
   obtain⟨x0,hx0,rfl⟩:=zql.1 hx;exact CY (this.2 x0 hx0)
  exact⟨⟨fun x h'=>(hx x h').1,by rw[show(canB b0).code.length=b0.code.length from zqa ..];exact this.1.2⟩,hx⟩
 exact⟨⟨h.1.1,fun b h'=>(hb b h').1,by rw[show(canC c).blocks.length=c.blocks.length from zqa ..];exact h.1.2.2⟩,hb⟩
theorem Po(h:m.ok):(canM m).ok:=by
 refine⟨fun c hc=>?_,by rw[show(canM m).fs.length=m.fs.length from zqa ..];exact h.2.1,h.2.2⟩;obtain⟨c0,h0,rfl⟩:=zql.1 hc;exact xT (h.1 c0 h0)
theorem Cod.toks{m:Modl}{c:Cod}(hs:c.sok)(h:R6 m c=0):c.tok:=⟨hs.1,(Pn h).1.1⟩
end
section
variable {m:Modl}{c:Cod}{i j k:Nat}{n:Int}
theorem CZ(hi:i<m.fs.length)(hj:j<m.fs[i].blocks.length)(hs:m.fs[i].ok):evP ⟨env,T,A1⟩ (.code iD [(1,.ptr 0 0 0),(3,.int .i64 n),(4,.int .i64 (i:Int)),(5,.int .i64 (j:Int))] ⟨[.row 1 [m.F] 2],0,[]⟩)=some (.ok .normal [(1,.ptr 0 0 0),(3,.int .i64 (S2 n m.fs[i].blocks[j].code.length)),(4,.int .i64 (i:Int)),(5,.int .i64 ((j+1:Nat):Int))] ⟨[.row 1 [m.F] 2],0,[]⟩):=by
 unfold iD S2;have hlt:decide ((j:Int)<(m.fs[i].blocks.length:Int))=true:=by simp[hj]
 have hw:=B2 (i:=j) (by have:=hs.2.2;simp only[bigN]at this;omega);have h1:=A6 (F:=Cod.F) hi;have h2:=A6 (F:=Blk.F) hj;simp only[Blk.F,Modl.F,Cod.F]at h1 h2|-;simp -implicitDefEqProofs only[hlt,h1,h2,hw,zqa,XP,seval]
theorem DA(hi:i<m.fs.length):∃fr',evP ⟨env,T,A1⟩ (.code iD [(1,.ptr 0 0 0),(3,.int .i64 n),(4,.int .i64 (i:Int)),(5,.int .i64 (m.fs[i].blocks.length:Int))] ⟨[.row 1 [m.F] 2],0,[]⟩)=some (.ok (.exit 2) fr' ⟨[.row 1 [m.F] 2],0,[]⟩)/\(lookP fr' 1=.ptr 0 0 0/\lookP fr' 3=.int .i64 n/\lookP fr' 4=.int .i64 (i:Int)):=by
 unfold iD;have hlt:decide ((m.fs[i].blocks.length:Int)<(m.fs[i].blocks.length:Int))=false:=by simp
 have h1:=A6 (F:=Cod.F) hi;simp only[Modl.F,Cod.F]at h1|-;simp -implicitDefEqProofs only[hlt,h1,zqa,XP,seval];exact⟨_,rfl,rfl,rfl,rfl⟩
theorem DB(hi:i<m.fs.length)(hs:m.ok):evP ⟨env,T,A1⟩ (.code iE [(1,.ptr 0 0 0),(3,.int .i64 n),(4,.int .i64 (i:Int))] ⟨[.row 1 [m.F] 2],0,[]⟩)=some (.ok .normal [(1,.ptr 0 0 0),(3,.int .i64 (HU n m.fs[i])),(4,.int .i64 ((i+1:Nat):Int))] ⟨[.row 1 [m.F] 2],0,[]⟩):=by
 have hc:=(hs.1 _ (zqb hi)).1;have hlt:decide ((i:Int)<(m.fs.length:Int))=true:=by simp[hi]
 have hw:=B2 (i:=i) (by have:=hs.2.1;simp only[bigN]at this;omega);have hg:=A6 (F:=Cod.F) hi;obtain⟨fr',h1,h2,h3,h4⟩:=Ep (P:=⟨env,T,A1⟩) (c:=iD) (f:=fun a (b:Blk)=>S2 a b.code.length) (l:=m.fs[i].blocks) (S:=fun j n=>[(1,.ptr 0 0 0),(3,.int .i64 n),(4,.int .i64 (i:Int)),(5,.int .i64 (j:Int))]) (K:=fun _=>⟨[.row 1 [m.F] 2],0,[]⟩) (x:=2) (Q:=fun n fr'=>lookP fr' 1=.ptr 0 0 0/\lookP fr' 3=.int .i64 n/\lookP fr' 4=.int .i64 (i:Int)) (fun k a h=>CZ hi h hc) (fun a=>DA hi) (S2 (S2 n m.fs[i].regs.length) m.fs[i].blocks.length);have h1:evP ⟨env,T,A1⟩ (.code (.loop iD) [(1,.ptr 0 0 0),(3,.int .i64 (S2 (S2 n m.fs[i].regs.length) m.fs[i].blocks.length)),(4,.int .i64 (i:Int)),(5,.int .i64 0)] ⟨[.row 1 [m.F] 2],0,[]⟩)=_:=h1;have hn:HU n m.fs[i]=m.fs[i].blocks.foldl (fun a (b:Blk)=>S2 a b.code.length) (S2 (S2 n m.fs[i].regs.length) m.fs[i].blocks.length):=rfl;rw[<-hn]at h3;unfold iE;unfold S2 at h1;simp only[Modl.F,Cod.F]at hg h1|-;simp -implicitDefEqProofs only[hlt,hg,h1,h2,h3,h4,hw,zqa,XP,seval]
theorem DC:∃fr',evP ⟨env,T,A1⟩ (.code iE [(1,.ptr 0 0 0),(3,.int .i64 n),(4,.int .i64 (m.fs.length:Int))] ⟨[.row 1 [m.F] 2],0,[]⟩)=some (.ok (.exit 0) fr' ⟨[.row 1 [m.F] 2],0,[]⟩)/\(lookP fr' 1=.ptr 0 0 0/\lookP fr' 3=.int .i64 n):=by
 unfold iE;have hlt:decide ((m.fs.length:Int)<(m.fs.length:Int))=false:=by simp
 simp only[Modl.F];simp -implicitDefEqProofs only[hlt,zqa,XP,seval];exact⟨_,rfl,rfl,rfl⟩
theorem Oq(hlaw06_Big:T 12=some r9)(hir_Check:T 8=some O1){m:Modl}(hk:m.ok):AM.Comes ⟨env,T,A1⟩ 4 [m.F] [.bool (Z8 m)]:=by
 refine⟨[.bool (Z8 m)],⟨[],0,[]⟩,?_,back_of rfl zqo rfl rfl rfl⟩;rw[A3 (c:=p4) (nt:=71) (rs:=[.tmp 2]) rfl (by simp)];unfold p4;unfold K0;have tb:=fun K=>iS (K:=K) hlaw06_Big hk
 have tc:=fun K=>oF (K:=K) hir_Check hk
 obtain⟨fr',h1,h2,h3⟩:=Ep (P:=⟨env,T,A1⟩) (c:=iE) (f:=HU) (l:=m.fs) (S:=fun i n=>[(1,.ptr 0 0 0),(3,.int .i64 n),(4,.int .i64 (i:Int))]) (K:=fun _=>⟨[.row 1 [m.F] 2],0,[]⟩) (x:=0) (Q:=fun n fr'=>lookP fr' 1=.ptr 0 0 0/\lookP fr' 3=.int .i64 n) (fun k a h=>DB h hk) (fun a=>DC) 0;have h1:evP ⟨env,T,A1⟩ (.code (.loop iE) [(1,.ptr 0 0 0),(3,.int .i64 0),(4,.int .i64 0)] ⟨[.row 1 [m.F] 2],0,[]⟩)=_:=h1;have q12:decide ((12:Int)<(m.fs.length:Int))=decide (12<m.fs.length):=decide_eq_decide.2 (by omega);unfold Z8;simp only[Modl.F]at tb tc h1|-;by_cases h5:1000<m.fs.foldl HU 0
 . simp -implicitDefEqProofs only[h1,h2,h3,q12,eq_true h5,zqa,XP,seval]
 by_cases h12:12<m.fs.length
 . simp -implicitDefEqProofs only[h1,h2,h3,q12,h5,eq_true h12,zqa,XP,seval]
 cases hb:j5 m with
 |true=>simp -implicitDefEqProofs only[h1,h2,h3,q12,h5,h12,tb,hb,zqa,XP,seval]
 |false=>simp -implicitDefEqProofs only[h1,h2,h3,q12,h5,h12,tb,hb,tc,zqa,XP,seval]
def Z9:=W3 (fun p:(Modl)=>[p.F]) (fun p=>[.bool (Z8 p)]) (fun p=>p.ok)
theorem Ti(hlaw15_Big:T 4=some Z9){m:Modl}{K:PK}(hk:m.ok):evP ⟨env,T,A1⟩ (.call 4 [m.F] K)=some (.val (openTs K.os.length [.bool (Z8 m)]).1 ⟨K.os++(openTs K.os.length [.bool (Z8 m)]).2,K.ext,K.tch⟩):=B3 hlaw15_Big (by simp -implicitDefEqProofs only[VV,XP,seval]) (B5 (a:=fun p:(Modl)=>[p.F]) (r:=fun p=>[.bool (Z8 p)]) (fun x y e=>by simp only[VJ]at e;simp only[e]) (m) hk) (by simp -implicitDefEqProofs only[VN,XP,seval])
theorem aT(hlaw06_Big:T 12=some r9)(hir_Check:T 8=some O1)(hP:PEok ⟨env,T,A1⟩):TC env 4 Z9:=B8 hP fun p h=>Oq hlaw06_Big hir_Check h
end
section
variable {m M:Modl}{K:PK}{inp o:List Int}{st s1 x y:Int}
variable {os:List PO}
theorem Aw{p q:Nat}{ng nf:Nat}(hg:M.gs.length=ng)(hf:M.fs.length=nf)(h1:rowOf os 6 p=some (0,M.gs.map Glo.F,4))(h2:rowOf os 6 q=some (0,M.fs.map Cod.O,5)):viewA os (.agg [.msl p 0 ng 4,.msl q 0 nf 5])=some M.F:=by
 have v1:viewV os (.msl p 0 ng 4)=some (fslN (M.gs.map Glo.F)):=by
  rw[wv_msl,h1];show(if 0=0/\4=4/\0+ng<=(M.gs.map Glo.F).length then(match frzL (((M.gs.map Glo.F).drop 0).take ng)with|some es=>some (fslN es)|none=>none)else none)=_
  rw[if_pos ⟨rfl,rfl,by simp;omega⟩,zqs,zqm (by simp;omega),frzL_gloF]
 have v2:viewV os (.msl q 0 nf 5)=some (fslN (M.fs.map Cod.F)):=by
  rw[wv_msl,h2];show(if 0=0/\5=5/\0+nf<=(M.fs.map Cod.O).length then(match frzL (((M.fs.map Cod.O).drop 0).take nf)with|some es=>some (fslN es)|none=>none)else none)=_
  rw[if_pos ⟨rfl,rfl,by simp;omega⟩,zqs,zqm (by simp;omega),oB]
 show(match viewL os [.msl p 0 ng 4,.msl q 0 nf 5]with|some cs=>some (AV.agg cs)|none=>none)=_
 rw[vl_cons,vl_cons,v1,v2];rfl
theorem KH{p q ng nf:Nat}(hC:T 8=some O1)(hM:M.ok)(hc:N3 M=0)(hg:M.gs.length=ng)(hf:M.fs.length=nf)(h1:rowOf K.os 6 p=some (0,M.gs.map Glo.F,4))(h2:rowOf K.os 6 q=some (0,M.fs.map Cod.O,5)):
 evP ⟨env,T,A1⟩ (.call 8 [.agg [.msl p 0 ng 4,.msl q 0 nf 5]] K)=some (.val [.int .i64 0] ⟨K.os++[],K.ext,K.tch⟩):=by
 have hv:viewAs K.os [.agg [.msl p 0 ng 4,.msl q 0 nf 5]]=some [M.F]:=by rw[va_cons,va_nil,Aw hg hf h1 h2];rfl
 have hgc:O1 [M.F]=some [.int .i64 (N3 M)]:=B5 (a:=fun m:Modl=>[m.F]) (r:=fun m=>[.int .i64 (N3 m)]) (fun x y e=>by simp only[Modl.F_iff,List.cons.injEq,and_true]at e;rw[e]) M hM;rw[hc]at hgc;rw[B3 hC hv hgc rfl];rfl
theorem KI{p q ng nf:Nat}(hR:T 11=some z7)(hk:RunOk M s1)(hx:(O4 M inp s1).sc=(x,y))(ho:Oh M inp s1=o)(hg:M.gs.length=ng)(hf:M.fs.length=nf)(h1:rowOf K.os 6 p=some (0,M.gs.map Glo.F,4))(h2:rowOf K.os 6 q=some (0,M.fs.map Cod.O,5)):
 evP ⟨env,T,A1⟩ (.call 11 [.agg [.msl p 0 ng 4,.msl q 0 nf 5],fslN (ints inp),.int .i64 s1] K)=some (.val [.agg [.msl K.os.length 0 o.length 1,.int .i64 x,.int .i64 y]] ⟨K.os++[.row 0 (ints o) 1],K.ext,K.tch⟩):=by
 have hv:viewAs K.os [.agg [.msl p 0 ng 4,.msl q 0 nf 5],fslN (ints inp),.int .i64 s1]=some [M.F,fslN (ints inp),.int .i64 s1]:=by
  rw[va_cons,va_cons,va_cons,va_nil,Aw hg hf h1 h2];show consO _ (consO (match frzL (ints inp)with|some es=>some (fslN es)|none=>none) _)=_
  rw[frzL_ints];rfl
 have hg:z7 [M.F,fslN (ints inp),.int .i64 s1]=some [.agg [ownd 0 1 (ints (Oh M inp s1)),.int .i64 (O4 M inp s1).sc.1,.int .i64 (O4 M inp s1).sc.2]]:=B5 (a:=fun p:Modl×List Int×Int=>[p.1.F,fslN (ints p.2.1),.int .i64 p.2.2]) (r:=fun p=>[.agg [ownd 0 1 (ints (Oh p.1 p.2.1 p.2.2)),.int .i64 (O4 p.1 p.2.1 p.2.2).sc.1,.int .i64 (O4 p.1 p.2.1 p.2.2).sc.2]]) (fun x y e=>by simp only[Modl.F_iff,fslN_iff,ints_iff,List.cons.injEq,AV.int.injEq,and_true,true_and]at e;obtain⟨x1,x2,x3⟩:=x;obtain⟨y1,y2,y3⟩:=y;simp only at e|-;obtain⟨rfl,rfl,rfl⟩:=e;rfl) (M,inp,s1) hk;rw[hx,ho]at hg;have hol:(ints o).length=o.length:=by simp[ints]
 rw[B3 hR hv hg (by simp[okRs,ownOf,ownd,clo,AV.cells,noFL,noF,noFL_ints]),<-hol];rfl
theorem DD{p q:Nat}(hE:T 10=some s8)(hk:o.length*8<=bigN)(r1:rowOf K.os 6 p=some (0,ints o,1))(r2:rowOf K.os 6 q=some (0,ints o,1)):
 evP ⟨env,T,A1⟩ (.call 10 [.agg [.msl p 0 o.length 1,.int .i64 x,.int .i64 y],.agg [.msl q 0 o.length 1,.int .i64 x,.int .i64 y]] K)=some (.val [.bool true] ⟨K.os++[],K.ext,K.tch⟩):=by
 have v:∀i,rowOf K.os 6 i=some (0,ints o,1)->viewA K.os (.agg [.msl i 0 o.length 1,.int .i64 x,.int .i64 y])=some (.agg [fslN (ints o),.int .i64 x,.int .i64 y]):=fun i r2=>by
  have w:viewV K.os (.msl i 0 o.length 1)=some (fslN (ints o)):=by
   rw[wv_msl,r2];show(if 0=0/\1=1/\0+o.length<=(ints o).length then(match frzL (((ints o).drop 0).take o.length)with|some es=>some (fslN es)|none=>none)else none)=_
   rw[if_pos ⟨rfl,rfl,by simp[ints]⟩,zqs,zqm (by simp[ints]),frzL_ints]
  show(match consO (viewV K.os (.msl i 0 o.length 1)) _ with|some cs=>some (AV.agg cs)|none=>none)=_
  rw[w];rfl
 have hv:viewAs K.os [.agg [.msl p 0 o.length 1,.int .i64 x,.int .i64 y],.agg [.msl q 0 o.length 1,.int .i64 x,.int .i64 y]]=some [.agg [fslN (ints o),.int .i64 x,.int .i64 y],.agg [fslN (ints o),.int .i64 x,.int .i64 y]]:=by
  rw[va_cons,va_cons,va_nil,v p r1,v q r2];rfl
 have hg:s8 [.agg [fslN (ints o),.int .i64 x,.int .i64 y],.agg [fslN (ints o),.int .i64 x,.int .i64 y]]=some [.bool (decide (x=x/\y=y/\o=o))]:=B5 (a:=fun p:List Int×List Int×Int×Int×Int×Int=>[.agg [fslN (ints p.1),.int .i64 p.2.2.1,.int .i64 p.2.2.2.1],.agg [fslN (ints p.2.1),.int .i64 p.2.2.2.2.1,.int .i64 p.2.2.2.2.2]]) (r:=fun p=>[.bool (decide (p.2.2.1=p.2.2.2.2.1/\p.2.2.2.1=p.2.2.2.2.2/\p.1=p.2.1))]) (fun x y e=>by simp only[List.cons.injEq,AV.agg.injEq,AV.int.injEq,true_and,fslN_iff,ints_iff,and_true]at e;simp only[e]) (o,o,x,y,x,y) hk;rw[B3 hE hv hg rfl,decide_eq_true ⟨rfl,rfl,rfl⟩];rfl
theorem KJ{p q ng nf:Nat}(hU:T 6=some I7)(hk:(m.ok/\m.fs.length*80<=bigN)/\∀c∈m.fs,c.tok)(hg:m.gs.length=ng)(hf:m.fs.length=nf)(h1:rowOf K.os 6 p=some (0,m.gs.map Glo.F,4))(h2:rowOf K.os 6 q=some (0,m.fs.map Cod.O,5)):
 evP ⟨env,T,A1⟩ (.call 6 [.agg [.msl p 0 ng 4,.msl q 0 nf 5]] K)=some (.val (openTs K.os.length [(canM m).O]).1 ⟨K.os++(openTs K.os.length [(canM m).O]).2,K.ext,K.tch⟩):=
 Ol hU (by rw[va_cons,va_nil,Aw hg hf h1 h2];rfl) hk
theorem KK{p q ng nf p' q':Nat}(hE:T 9=some Q4)(hk:m.gs.length*40<=bigN/\(∀x∈m.fs,x.ok)/\m.fs.length*80<=bigN)(hg:m.gs.length=ng)(hf:m.fs.length=nf)(h1:rowOf K.os 6 p=some (0,m.gs.map Glo.F,4))(h2:rowOf K.os 6 q=some (0,m.fs.map Cod.O,5))(h3:rowOf K.os 6 p'=some (0,m.gs.map Glo.F,4))(h4:rowOf K.os 6 q'=some (0,m.fs.map Cod.O,5)):
 evP ⟨env,T,A1⟩ (.call 9 [.agg [.msl p 0 ng 4,.msl q 0 nf 5],.agg [.msl p' 0 ng 4,.msl q' 0 nf 5]] K)=some (.val [.bool true] ⟨K.os++[],K.ext,K.tch⟩):=by
 have:=Vp (K:=K) (a:=m) (b:=m) hE (args:=[.agg [.msl p 0 ng 4,.msl q 0 nf 5],.agg [.msl p' 0 ng 4,.msl q' 0 nf 5]]) (by rw[va_cons,va_cons,va_nil,Aw hg hf h1 h2,Aw hg hf h3 h4];rfl) hk
 rw[this,decide_eq_true rfl];rfl
theorem b15(h:Z8 m=false):j5 m=false/\N3 m=0/\m.fs.length<=12:=by
 unfold Z8 at h;split at h
 . cases h
 . split at h
   . cases h
   . rename_i h2
     split at h
     . cases h
     . rename_i h3
       exact⟨by simpa using h3,by simpa using h,by omega⟩
theorem uE(hB:T 4=some Z9)(hW:T 5=some R1)(hU:T 6=some I7)(hP:T 7=some Xe)(hC:T 8=some O1)(hR:T 11=some z7)(hE:T 10=some s8)(hM:T 9=some Q4)(hm:m.ok)(h:Z8 m=true\/(Z8 m=false/\1000<inp.length)):evP ⟨env,T,A1⟩ (.body 3 [m.F,fslN (ints inp),.int .i64 st] K0)=some (.val [.bool true] ⟨[],0,[]⟩):=by
 have tb:=fun K=>Ti (K:=K) hB hm
 have tk:=fun K=>Ju (K:=K) hW
 simp only[Modl.F]at tb;have hl:(ints inp).length=inp.length:=by simp[ints]
 rw[A3 (c:=p3) (nt:=43) (rs:=[.tmp 6]) rfl (by simp)];unfold p3;unfold K0 Modl.F;rcases h with h|⟨h,h2⟩
 . rw[h]at tb
   simp -implicitDefEqProofs only[tb,tk,hl,s4,zqi,zqj,Nat.reduceBEq,XP,seval]
 . rw[h]at tb
   have h2:decide ((inp.length:Int)>1000)=true:=decide_eq_true (by omega);simp -implicitDefEqProofs only[tb,tk,hl,h2,s4,zqi,zqj,Nat.reduceBEq,XP,seval]
theorem KL(hB:T 4=some Z9)(hW:T 5=some R1)(hU:T 6=some I7)(hP:T 7=some Xe)(hC:T 8=some O1)(hR:T 11=some z7)(hE:T 10=some s8)(hM:T 9=some Q4)(hm:m.ok)(h:Z8 m=false)(h2:¬1000<inp.length)(e1:Av st 3000=s1)(hs:s1<=20000)(hx:(O4 m inp s1).sc=(x,y))(ho:Oh m inp s1=o)(hol:o.length<=30000):evP ⟨env,T,A1⟩ (.body 3 [m.F,fslN (ints inp),.int .i64 st] K0)=some (.val [.bool true] ⟨[],0,[]⟩):=by
 obtain⟨g1,g2,g3⟩:=b15 h;have tb:=fun K=>Ti (K:=K) hB hm
 have tk:=fun K=>Ju (K:=K) hW
 have tt:=fun K=>Vo (K:=K) hU ⟨⟨hm,by simp only[bigN];omega⟩,fun c hc=>Cod.toks (hm.1 c hc) ((Dx g2).1 c hc)⟩
 have tp:=fun K=>KE (K:=K) hP (v:=st) (n:=3000) (by decide)
 rw[e1]at tp;rw[h]at tb;have hl:(ints inp).length=inp.length:=by simp[ints]
 have lo':(ints o).length=o.length:=by simp[ints]
 have h2d:decide ((inp.length:Int)>1000)=false:=decide_eq_false (by omega);have ra:=fun K=>xF (K:=K) (input:=inp) hR (aE (steps:=s1) hm g1 g2 hs)
 rw[hx,ho]at ra;have kM:RunOk (canM m) s1:=⟨tG (Po hm) (Lx g2),(aE (steps:=s1) hm g1 g2 hs).gz,(aE (steps:=s1) hm g1 g2 hs).gl,by show(m.fs.map canC).length<=bigN;simp only[bigN,zqa];omega,by rw[Th];have:=(aE (steps:=s1) hm g1 g2 hs).mn;show _/\_<((m.fs.map canC).length:Int);rw[zqa];exact this,hs⟩
 have rt:=xS (m:=m) inp s1;have rb:=fun K p q=>KI (K:=K) (M:=canM m) (p:=p) (q:=q) (inp:=inp) (ng:=m.gs.length) (nf:=m.fs.length) (x:=x) (y:=y) (o:=o) hR kM (by rw[rt];exact hx) (by unfold Oh;rw[rt];exact ho) rfl (zqa ..)
 have ck:=fun K p q=>KH (K:=K) (M:=canM m) (p:=p) (q:=q) (ng:=m.gs.length) (nf:=m.fs.length) hC (Po hm) (Lx g2) rfl (zqa ..)
 have kC:∀c∈(canM m).fs,c.tok:=fun c hc=>Cod.toks ((Po hm).1 c hc) ((Dx (Lx g2)).1 c hc)
 have kB:(canM m).fs.length*80<=bigN:=by rw[show(canM m).fs.length=m.fs.length from zqa ..];simp only[bigN];omega
 have t2:=fun K p q=>KJ (K:=K) (m:=canM m) (p:=p) (q:=q) (ng:=m.gs.length) (nf:=m.fs.length) hU ⟨⟨Po hm,kB⟩,kC⟩ rfl (zqa ..)
 have sm:=fun K p q p' q'=>KK (K:=K) (m:=canM m) (p:=p) (q:=q) (p':=p') (q':=q') (ng:=m.gs.length) (nf:=m.fs.length) hM ⟨hm.2.2,fun c hc=>(kC c hc).1,kB⟩ rfl (zqa ..)
 rw[jB]at t2;have se:=fun K p q=>DD (K:=K) (p:=p) (q:=q) (o:=o) (x:=x) (y:=y) hE (by simp only[bigN];omega)
 simp only[Modl.F,Modl.O,canM]at tb tt ra rb ck t2 sm;rw[A3 (c:=p3) (nt:=43) (rs:=[.tmp 6]) rfl (by simp)];unfold p3;unfold K0 Modl.F;simp -implicitDefEqProofs only[tb,tk,tt,tp,t2,sm,ra,rb,ck,se,hl,lo',h2d,s4,zqi,zqj,Nat.reduceBEq,zqa,show decide ((0:Int)=0)=true from rfl,XP,seval]
end
theorem xU(v:Int):0<=Av v 3000/\Av v 3000<=3000:=by
 have h1:=zkq v (show(0:Int)<3000 by decide);have h2:=Int.tmod_lt_of_pos v (show(0:Int)<3000 by decide);unfold Av;rw[if_neg (by decide)];split<;>omega
theorem Cj(hlaw15_Big:T 4=some Z9)(hlaw21_works:T 5=some R1)(hlaw21_turned:T 6=some I7)(hPick:T 7=some Xe)(hir_Check:T 8=some O1)(hir_Run:T 11=some z7)(hSameRun:T 10=some s8)(hSameModule:T 9=some Q4){m:Modl}{inp:List Int}{st:Int}(hk:m.ok):AM.Comes ⟨env,T,A1⟩ 3 [m.F,fslN (ints inp),.int .i64 st] [.bool true]:=by
 refine⟨[.bool true],⟨[],0,[]⟩,?_,back_of rfl zqo rfl rfl rfl⟩;cases h1:Z8 m with
 |true=>exact uE hlaw15_Big hlaw21_works hlaw21_turned hPick hir_Check hir_Run hSameRun hSameModule hk (.inl h1)
 | false =>
  by_cases h2:1000<inp.length
  . exact uE hlaw15_Big hlaw21_works hlaw21_turned hPick hir_Check hir_Run hSameRun hSameModule hk (.inr ⟨h1,h2⟩)
  . obtain⟨p1,p2⟩:=xU st
    have q:=tP (m:=m) (input:=inp) (steps:=Av st 3000) (d:=0) p1 (zko _);refine KL hlaw15_Big hlaw21_works hlaw21_turned hPick hir_Check hir_Run hSameRun hSameModule hk h1 h2 rfl (by omega) rfl rfl ?_
    have:=q.le
    show(O4 m inp (Av st 3000)).st.out.length<=30000
    omega
open Go.ChangeShapes Go.WideShapes Go.ChangeAt
section
variable {H:Type}{enc:TypeId×Value->H}{P:Program}{W:World}{base:Nat}{spare:Nat->Bool}{held:Bool}
theorem M0{E:Env}(hE:EnvOk E P){t:Nat}{x:TI}(ht:E.ti t=some x):P.cellsOf t=x.size:=by
 obtain⟨i,z,h1,h2,_⟩:=(hE.ti t x ht).info;unfold Program.cellsOf;rw[h1];exact h2
theorem Dy{E:Env}(hE:EnvOk E P){t:Nat}{x:TI}(ht:E.ti t=some x):P.bytesOf t=x.bytes:=by
 obtain⟨i,z,h1,_,h2,_⟩:=(hE.ti t x ht).info;unfold Program.bytesOf;rw[h1];exact h2
variable (hE:EnvOk env P)
include hE
theorem uF:P.underlying 3=some (.int .i64):=(hE.ti 3 ty3 rfl).desc
theorem AL:P.underlying 9=some .string:=(hE.ti 9 EV rfl).desc
theorem DF:P.underlying 26=some (.slice 3):=(hE.ti 26 Fe rfl).desc
theorem uG:P.underlying 42=some (.slice 49):=(hE.ti 42 Vd rfl).desc
theorem uH:P.underlying 39=some (.slice 46):=(hE.ti 39 dO rfl).desc
theorem xV:P.underlying 23=some (.slice 41):=(hE.ti 23 iI rfl).desc
theorem xW:P.underlying 22=some (.slice 54):=(hE.ti 22 iH rfl).desc
theorem Dz:P.cellsOf 3=1:=M0 hE YI
theorem Tj:P.cellsOf 9=1:=M0 hE ti9
theorem Tk:P.cellsOf 26=1:=M0 hE VU
theorem Tl:P.cellsOf 42=1:=M0 hE VX
theorem eT:P.cellsOf 39=1:=M0 hE VW
theorem lM:P.cellsOf 23=1:=M0 hE VS
theorem aU:P.cellsOf 22=1:=M0 hE VP
theorem lN:P.cellsOf 49=8:=M0 hE BU
theorem AN:P.cellsOf 44=4:=M0 hE VY
theorem lO:P.cellsOf 46=5:=M0 hE BS
theorem uI:P.cellsOf 41=5:=M0 hE BR
theorem uJ:P.cellsOf 54=4:=M0 hE BV
theorem KM:P.cellsOf 25=2:=M0 hE VT
theorem By{m n:Nat}{cs:List Value}{d:DataW H}{ps:List MemPlace}(h:DataW.trod enc P W base spare held n 3 cs=some (d,ps))(hw:Wt P 3 d):∃s,O7 P (m+1) 3 d=some s/\s.length=P.cellsOf 3/\∃z,s=[.int .i64 z]:=by
 obtain⟨z,rfl,e,_⟩:=DataW.trod_int (uF hE) h;cases e;refine⟨[.int .i64 z],?_,by rw[Dz hE];rfl,z,rfl⟩;unfold O7;rw[uF hE]
theorem aV{m n:Nat}{cs:List Value}{d:DataW H}{ps:List MemPlace}(h:DataW.trod enc P W base spare held n 9 cs=some (d,ps))(hw:Wt P 9 d):∃s,O7 P (m+1) 9 d=some s/\s.length=P.cellsOf 9/\∃b,s=[.str b]/\b.length<=140737488355328:=by
 obtain⟨b,rfl,e,_⟩:=DataW.trod_string (AL hE) h;cases e;refine⟨[.str b.data.toList],?_,by rw[Tj hE];rfl,_,rfl,?_⟩
 . unfold O7
   rw[AL hE]
 . have:=hw b.data.toList.length (by unfold DataW.weights;simp)
   exact zku this (by decide)
omit hE in
def jC(acs:List AV)(z:Int):Prop:=acs=[.int .i64 z]
theorem Tm{m n:Nat}{cs:List Value}{d:DataW H}{ps:List MemPlace}(h:DataW.trod enc P W base spare held n 26 cs=some (d,ps))(hw:Wt P 26 d):∃s,O7 P (m+2) 26 d=some s/\s.length=P.cellsOf 26/\∃v l,s=[v]/\Up P 3 jC v l:=by
 obtain ⟨v,l,h1,h2⟩:=u9 (Q:=jC) (m:=m+1) (DF hE) (by rw[Dz hE];decide) (fun n cs d ps h hw=>by
  obtain⟨s,h1,h2,z,rfl⟩:=By hE (m:=m) h hw;exact⟨_,z,h1,⟨h2,.inr rfl⟩,rfl⟩) h hw
 exact⟨[v],h1,by rw[Tk hE];rfl,v,l,rfl,h2⟩
omit hE in
def Hf(P:Program)(acs:List AV)(I:Ins):Prop:=∃av,acs=[.int .i64 I.op,.int .i64 I.ty,.int .i64 I.dst,.int .i64 I.a,.int .i64 I.b,.int .i64 I.n,.str I.s,av]/\Up P 3 jC av I.args/\I.s.length<=140737488355328
omit hE in
theorem XU{ss:List (List AV)}(h:ss.length=8):∃a b c d e f g i,ss=[a,b,c,d,e,f,g,i]:=by
 match ss,h with
 |[a,b,c,d,e,f,g,i],_=>exact⟨a,b,c,d,e,f,g,i,rfl⟩
theorem pC{m n:Nat}{cs:List Value}{d:DataW H}{ps:List MemPlace}(h:DataW.trod enc P W base spare held n 49 cs=some (d,ps))(hw:Wt P 49 d):∃acs I,O7 P (m+3) 49 d=some acs/\(acs.length=P.cellsOf 49/\(v8 P 49=true\/acs.length=1))/\Hf P acs I:=by
 obtain ⟨fs,hu,hm,_⟩:=(hE.ti 49 Z4 rfl).desc;have hm:fs.toList.map (fun f=>(f.type,f.offset))=[(3,0),(3,1),(3,2),(3,3),(3,4),(3,5),(9,6),(26,7)]:=hm;obtain⟨ss,h1,h2,h3,h4⟩:=c7 (m:=m+2) (Qs:=fun i s=>(i<6->∃z,s=[.int .i64 z])/\(i=6->∃b,s=[.str b]/\b.length<=140737488355328)/\(i=7->∃v l,s=[v]/\Up P 3 jC v l)) hu hm
  (by simp only[Kp,Dz hE,Tj hE,Tk hE,and_self]) (by simp only[lN hE,zqn,zqh,zqt,zqu,Nat.reduceAdd,Dz hE,Tj hE,Tk hE])
  (fun i ty off hL n cs d ps h hw=>by
    rcases i with _|_|_|_|_|_|_|_|i
    iterate 6
     . cases hL
       obtain⟨s,k1,k2,k3⟩:=By hE (m:=m+1) h hw;exact⟨s,k1,k2,fun _=>k3,fun hh=>by omega,fun hh=>by omega⟩
    . cases hL
      obtain⟨s,k1,k2,k3⟩:=aV hE (m:=m+1) h hw;exact⟨s,k1,k2,fun hh=>by omega,fun _=>k3,fun hh=>by omega⟩
    . cases hL
      obtain⟨s,k1,k2,k3⟩:=Tm hE (m:=m) h hw;exact⟨s,k1,k2,fun hh=>by omega,fun hh=>by omega,fun _=>k3⟩
    . simp at hL) h hw
 obtain⟨a,b,c,e,f,g,s6,s7,rfl⟩:=XU h3;obtain⟨z0,rfl⟩:=(h4 0 _ rfl).1 (by omega);obtain⟨z1,rfl⟩:=(h4 1 _ rfl).1 (by omega);obtain⟨z2,rfl⟩:=(h4 2 _ rfl).1 (by omega);obtain⟨z3,rfl⟩:=(h4 3 _ rfl).1 (by omega);obtain⟨z4,rfl⟩:=(h4 4 _ rfl).1 (by omega);obtain⟨z5,rfl⟩:=(h4 5 _ rfl).1 (by omega);obtain⟨b6,rfl,hb6⟩:=(h4 6 _ rfl).2.1 rfl;obtain⟨v,l,rfl,hv⟩:=(h4 7 _ rfl).2.2 rfl;exact⟨_,⟨z0,z1,z2,z3,z4,z5,b6,l⟩,h1,⟨h2,.inl (by unfold v8;rw[hu])⟩,v,rfl,hv,hb6⟩
omit hE in
def Hg(P:Program)(acs:List AV)(B:Blk):Prop:=∃cv,acs=[cv,.int .i64 B.e.kind,.int .i64 B.e.a,.int .i64 B.e.to,.int .i64 B.e.els]/\Up P 49 (Hf P) cv B.code
theorem jD{m n:Nat}{cs:List Value}{d:DataW H}{ps:List MemPlace}(h:DataW.trod enc P W base spare held n 42 cs=some (d,ps))(hw:Wt P 42 d):∃s,O7 P (m+4) 42 d=some s/\s.length=P.cellsOf 42/\∃v l,s=[v]/\Up P 49 (Hf P) v l:=by
 obtain⟨v,l,h1,h2⟩:=u9 (Q:=Hf P) (m:=m+3) (uG hE) (by rw[lN hE];decide) (fun n cs d ps h hw=>pC hE h hw) h hw;exact⟨[v],h1,by rw[Tl hE];rfl,v,l,rfl,h2⟩
theorem xX{m n:Nat}{cs:List Value}{d:DataW H}{ps:List MemPlace}(h:DataW.trod enc P W base spare held n 44 cs=some (d,ps))(hw:Wt P 44 d):∃s,O7 P (m+2) 44 d=some s/\s.length=P.cellsOf 44/\∃x y z w,s=[.int .i64 x,.int .i64 y,.int .i64 z,.int .i64 w]:=by
 obtain ⟨fs,hu,hm,_⟩:=(hE.ti 44 Lg rfl).desc;have hm:fs.toList.map (fun f=>(f.type,f.offset))=[(3,0),(3,1),(3,2),(3,3)]:=hm;obtain⟨ss,h1,h2,h3,h4⟩:=c7 (m:=m+1) (Qs:=fun i s=>∃z,s=[.int .i64 z]) hu hm
  (by simp only[Kp,Dz hE,and_self]) (by simp only[AN hE,zqn,zqh,zqt,zqu,Nat.reduceAdd,Dz hE])
  (fun i ty off hL n cs d ps h hw=>by
    rcases i with _|_|_|_|i
    iterate 4
     . cases hL
       exact By hE (m:=m) h hw
    . simp at hL) h hw
 match ss,h3 with
 | [a,b,c,e],_ =>
  obtain⟨z0,rfl⟩:=h4 0 _ rfl;obtain⟨z1,rfl⟩:=h4 1 _ rfl;obtain⟨z2,rfl⟩:=h4 2 _ rfl;obtain⟨z3,rfl⟩:=h4 3 _ rfl;exact⟨_,h1,h2,z0,z1,z2,z3,rfl⟩
theorem pD{m n:Nat}{cs:List Value}{d:DataW H}{ps:List MemPlace}(h:DataW.trod enc P W base spare held n 46 cs=some (d,ps))(hw:Wt P 46 d):∃acs B,O7 P (m+5) 46 d=some acs/\(acs.length=P.cellsOf 46/\(v8 P 46=true\/acs.length=1))/\Hg P acs B:=by
 obtain ⟨fs,hu,hm,_⟩:=(hE.ti 46 l5 rfl).desc;have hm:fs.toList.map (fun f=>(f.type,f.offset))=[(42,0),(44,1)]:=hm;obtain⟨ss,h1,h2,h3,h4⟩:=c7 (m:=m+4) (Qs:=fun i s=>(i=0->∃v l,s=[v]/\Up P 49 (Hf P) v l)/\(i=1->∃x y z w,s=[.int .i64 x,.int .i64 y,.int .i64 z,.int .i64 w])) hu hm
  (by simp only[Kp,Tl hE,and_self]) (by simp only[lO hE,zqn,zqh,zqt,zqu,Nat.reduceAdd,Tl hE,AN hE])
  (fun i ty off hL n cs d ps h hw=>by
    rcases i with _|_|i
    . cases hL
      obtain⟨s,k1,k2,k3⟩:=jD hE (m:=m) h hw;exact⟨s,k1,k2,fun _=>k3,fun hh=>by omega⟩
    . cases hL
      obtain⟨s,k1,k2,k3⟩:=xX hE (m:=m+2) h hw;exact⟨s,k1,k2,fun hh=>by omega,fun _=>k3⟩
    . simp at hL) h hw
 match ss,h3 with
 | [a,b],_ =>
  obtain⟨v,l,rfl,hv⟩:=(h4 0 _ rfl).1 rfl;obtain⟨x,y,z,w,rfl⟩:=(h4 1 _ rfl).2 rfl;exact⟨_,⟨l,⟨x,y,z,w⟩⟩,h1,⟨h2,.inl (by unfold v8;rw[hu])⟩,v,rfl,hv⟩
theorem jE{m n:Nat}{cs:List Value}{d:DataW H}{ps:List MemPlace}(h:DataW.trod enc P W base spare held n 39 cs=some (d,ps))(hw:Wt P 39 d):∃s,O7 P (m+6) 39 d=some s/\s.length=P.cellsOf 39/\∃v l,s=[v]/\Up P 46 (Hg P) v l:=by
 obtain⟨v,l,h1,h2⟩:=u9 (Q:=Hg P) (m:=m+5) (uH hE) (by rw[lO hE];decide) (fun n cs d ps h hw=>pD hE h hw) h hw;exact⟨[v],h1,by rw[eT hE];rfl,v,l,rfl,h2⟩
omit hE in
def Tn(P:Program)(acs:List AV)(C:Cod):Prop:=∃rv bv,acs=[.str C.name,.int .i64 C.ty,.int .i64 C.ps,rv,bv]/\Up P 3 jC rv C.regs/\Up P 46 (Hg P) bv C.blocks
theorem uK{m n:Nat}{cs:List Value}{d:DataW H}{ps:List MemPlace}(h:DataW.trod enc P W base spare held n 41 cs=some (d,ps))(hw:Wt P 41 d):∃acs C,O7 P (m+7) 41 d=some acs/\(acs.length=P.cellsOf 41/\(v8 P 41=true\/acs.length=1))/\Tn P acs C:=by
 obtain ⟨fs,hu,hm,_⟩:=(hE.ti 41 o7 rfl).desc;have hm:fs.toList.map (fun f=>(f.type,f.offset))=[(9,0),(3,1),(3,2),(26,3),(39,4)]:=hm;obtain⟨ss,h1,h2,h3,h4⟩:=c7 (m:=m+6) (Qs:=fun i s=>(i=0->∃b,s=[.str b]/\b.length<=140737488355328)/\((i=1\/i=2)->∃z,s=[.int .i64 z])/\(i=3->∃v l,s=[v]/\Up P 3 jC v l)/\(i=4->∃v l,s=[v]/\Up P 46 (Hg P) v l)) hu hm
  (by simp only[Kp,Dz hE,Tj hE,Tk hE,and_self]) (by simp only[uI hE,zqn,zqh,zqt,zqu,Nat.reduceAdd,Dz hE,Tj hE,Tk hE,eT hE])
  (fun i ty off hL n cs d ps h hw=>by
    rcases i with _|_|_|_|_|i
    . cases hL
      obtain⟨s,k1,k2,k3⟩:=aV hE (m:=m+5) h hw;exact⟨s,k1,k2,fun _=>k3,fun hh=>by omega,fun hh=>by omega,fun hh=>by omega⟩
    . cases hL
      obtain⟨s,k1,k2,k3⟩:=By hE (m:=m+5) h hw;exact⟨s,k1,k2,fun hh=>by omega,fun _=>k3,fun hh=>by omega,fun hh=>by omega⟩
    . cases hL
      obtain⟨s,k1,k2,k3⟩:=By hE (m:=m+5) h hw;exact⟨s,k1,k2,fun hh=>by omega,fun _=>k3,fun hh=>by omega,fun hh=>by omega⟩
    . cases hL
      obtain⟨s,k1,k2,k3⟩:=Tm hE (m:=m+4) h hw;exact⟨s,k1,k2,fun hh=>by omega,fun hh=>by omega,fun _=>k3,fun hh=>by omega⟩
    . cases hL
      obtain⟨s,k1,k2,k3⟩:=jE hE (m:=m) h hw;exact⟨s,k1,k2,fun hh=>by omega,fun hh=>by omega,fun hh=>by omega,fun _=>k3⟩
    . simp at hL) h hw
 match ss,h3 with
 | [a,b,c,e,f],_ =>
  obtain⟨b0,rfl,_⟩:=(h4 0 _ rfl).1 rfl;obtain⟨z1,rfl⟩:=(h4 1 _ rfl).2.1 (.inl rfl);obtain⟨z2,rfl⟩:=(h4 2 _ rfl).2.1 (.inr rfl);obtain⟨v3,l3,rfl,hv3⟩:=(h4 3 _ rfl).2.2.1 rfl;obtain⟨v4,l4,rfl,hv4⟩:=(h4 4 _ rfl).2.2.2 rfl;exact⟨_,⟨b0,z1,z2,l3,l4⟩,h1,⟨h2,.inl (by unfold v8;rw[hu])⟩,v3,v4,rfl,hv3,hv4⟩
omit hE in
def Xg(acs:List AV)(G:Glo):Prop:=acs=[.str G.name,.int .i64 G.ty,.int .i64 G.size,.int .i64 G.at_]
theorem uL{m n:Nat}{cs:List Value}{d:DataW H}{ps:List MemPlace}(h:DataW.trod enc P W base spare held n 54 cs=some (d,ps))(hw:Wt P 54 d):∃acs G,O7 P (m+2) 54 d=some acs/\(acs.length=P.cellsOf 54/\(v8 P 54=true\/acs.length=1))/\Xg acs G:=by
 obtain ⟨fs,hu,hm,_⟩:=(hE.ti 54 Cg rfl).desc;have hm:fs.toList.map (fun f=>(f.type,f.offset))=[(9,0),(3,1),(3,2),(3,3)]:=hm;obtain⟨ss,h1,h2,h3,h4⟩:=c7 (m:=m+1) (Qs:=fun i s=>(i=0->∃b,s=[.str b]/\b.length<=140737488355328)/\(0<i->∃z,s=[.int .i64 z])) hu hm
  (by simp only[Kp,Dz hE,Tj hE,and_self]) (by simp only[uJ hE,zqn,zqh,zqt,zqu,Nat.reduceAdd,Dz hE,Tj hE])
  (fun i ty off hL n cs d ps h hw=>by
    rcases i with _|_|_|_|i
    . cases hL
      obtain⟨s,k1,k2,k3⟩:=aV hE (m:=m) h hw;exact⟨s,k1,k2,fun _=>k3,fun hh=>by omega⟩
    iterate 3
     . cases hL
       obtain⟨s,k1,k2,k3⟩:=By hE (m:=m) h hw;exact⟨s,k1,k2,fun hh=>by omega,fun _=>k3⟩
    . simp at hL) h hw
 match ss,h3 with
 | [a,b,c,e],_ =>
  obtain⟨b0,rfl,_⟩:=(h4 0 _ rfl).1 rfl;obtain⟨z1,rfl⟩:=(h4 1 _ rfl).2 (by omega);obtain⟨z2,rfl⟩:=(h4 2 _ rfl).2 (by omega);obtain⟨z3,rfl⟩:=(h4 3 _ rfl).2 (by omega);exact⟨_,⟨b0,z1,z2,z3⟩,h1,⟨h2,.inl (by unfold v8;rw[hu])⟩,rfl⟩
theorem xY{n:Nat}{cs:List Value}{d:DataW H}{ps:List MemPlace}(h:DataW.trod enc P W base spare held n 25 cs=some (d,ps))(hw:Wt P 25 d):∃gv fv,∃M:Modl,O7 P 9 25 d=some [gv,fv]/\Up P 54 Xg gv M.gs/\Up P 41 (Tn P) fv M.fs:=by
 obtain ⟨fs,hu,hm,_⟩:=(hE.ti 25 Rt rfl).desc;have hm:fs.toList.map (fun f=>(f.type,f.offset))=[(22,0),(23,1)]:=hm;obtain⟨ss,h1,h2,h3,h4⟩:=c7 (m:=8) (Qs:=fun i s=>(i=0->∃v l,s=[v]/\Up P 54 Xg v l)/\(i=1->∃v l,s=[v]/\Up P 41 (Tn P) v l)) hu hm
  (by simp only[Kp,aU hE,and_self]) (by simp only[KM hE,zqn,zqh,zqt,zqu,Nat.reduceAdd,aU hE,lM hE])
  (fun i ty off hL n cs d ps h hw=>by
    rcases i with _|_|i
    . cases hL
      obtain⟨v,l,k1,k2⟩:=u9 (Q:=Xg) (m:=7) (xW hE) (by rw[uJ hE];decide) (fun n cs d ps h hw=>uL hE (m:=5) h hw) h hw;exact⟨[v],k1,by rw[aU hE];rfl,fun _=>⟨v,l,rfl,k2⟩,fun hh=>by omega⟩
    . cases hL
      obtain⟨v,l,k1,k2⟩:=u9 (Q:=Tn P) (m:=7) (xV hE) (by rw[uI hE];decide) (fun n cs d ps h hw=>uK hE (m:=0) h hw) h hw;exact⟨[v],k1,by rw[lM hE];rfl,fun hh=>by omega,fun _=>⟨v,l,rfl,k2⟩⟩
    . simp at hL) h hw
 match ss,h3 with
 | [a,b],_ =>
  obtain⟨v0,l0,rfl,hv0⟩:=(h4 0 _ rfl).1 rfl;obtain⟨v1,l1,rfl,hv1⟩:=(h4 1 _ rfl).2 rfl;exact⟨v0,v1,⟨l0,l1⟩,h1,hv0,hv1⟩
omit hE in
theorem aW{t:TypeId}{acs:List AV}(h:v8 P t=true):seeV P t acs=.agg acs:=by unfold seeV;rw[h];rfl
theorem uM:P.bytesOf 3=8:=Dy hE YI
theorem xZ:P.bytesOf 49=88:=Dy hE BU
theorem yA:P.bytesOf 46=56:=Dy hE BS
theorem DG:P.bytesOf 41=80:=Dy hE BR
theorem DH:P.bytesOf 54=40:=Dy hE BV
theorem yB{t:TypeId}{x:TI}{L:List (Nat×Nat)}{fl:Bool}(ht:env.ti t=some x)(hd:x.desc=.struct L fl):v8 P t=true:=by
 have h:=(hE.ti t x ht).desc;unfold H3 at h;rw[hd]at h;obtain⟨fs,hu,_⟩:=h;unfold v8;rw[hu]
theorem XV:v8 P 3=false:=by unfold v8;rw[uF hE]
theorem jF{v:AV}{l:List Int}(hq:Up P 3 jC v l){Z:Nat->Prop}{h:Heap}:Fz Z h v (fslN (ints l)):=hq.fz fun r X hr=>by
 have hr:r=[.int .i64 X]:=hr;subst hr
 have:seeV P 3 [.int .i64 X]=.int .i64 X:=by unfold seeV;rw[XV hE];rfl
 rw[this];exact .int _ _
omit hE in
theorem eU{Z:Nat->Prop}{h:Heap}{xs ys:List AV}(hl:xs.length=ys.length)(hc:ys.all clo=true)(hz:∀p∈xs.zip ys,Fz Z h p.1 p.2):Fz Z h (.agg xs) (.agg ys):=by
 refine .agg hl (fun i x y hx hy=>hz (x,y) ?_) hc;exact List.mem_of_getElem? (i:=i) (by rw[List.getElem?_zip_eq_some];exact⟨hx,hy⟩)
theorem yC{acs:List AV}{I:Ins}(hq:Hf P acs I){Z:Nat->Prop}{h:Heap}:Fz Z h (seeV P 49 acs) I.F:=by
 obtain⟨av,rfl,h1,_⟩:=hq;rw[aW (yB hE BU rfl)];refine eU rfl rfl fun p hp=>?_
 simp only[zqx,zqy,zqp,zqq,or_false]at hp;rcases hp with rfl|rfl|rfl|rfl|rfl|rfl|rfl|rfl
 iterate 6
  . exact .int _ _
 . exact .str _
 . exact jF hE h1
theorem yD{acs:List AV}{B:Blk}(hq:Hg P acs B){Z:Nat->Prop}{h:Heap}:Fz Z h (seeV P 46 acs) B.F:=by
 obtain⟨av,rfl,h1⟩:=hq;rw[aW (yB hE BS rfl)];refine eU rfl rfl fun p hp=>?_
 simp only[zqx,zqy,zqp,zqq,or_false]at hp;rcases hp with rfl|rfl|rfl|rfl|rfl
 . exact h1.fz fun r X hr=>yC hE hr
 iterate 4
  . exact .int _ _
theorem DI{acs:List AV}{C:Cod}(hq:Tn P acs C){Z:Nat->Prop}{h:Heap}:Fz Z h (seeV P 41 acs) C.F:=by
 obtain⟨rv,bv,rfl,h1,h2⟩:=hq;rw[aW (yB hE BR rfl)];refine eU rfl rfl fun p hp=>?_
 simp only[zqx,zqy,zqp,zqq,or_false]at hp;rcases hp with rfl|rfl|rfl|rfl|rfl
 . exact .str _
 . exact .int _ _
 . exact .int _ _
 . exact jF hE h1
 . exact h2.fz fun r X hr=>yD hE hr
theorem DJ{acs:List AV}{G:Glo}(hq:Xg acs G){Z:Nat->Prop}{h:Heap}:Fz Z h (seeV P 54 acs) G.F:=by
 have hq:acs=_:=hq;subst hq;rw[aW (yB hE BV rfl)];refine eU rfl rfl fun p hp=>?_
 simp only[zqx,zqy,zqp,zqq,or_false]at hp;rcases hp with rfl|rfl|rfl|rfl
 . exact .str _
 iterate 3
  . exact .int _ _
theorem Hh{n b k:Nat}(h:n*b<=reachBytes)(hb:b=k):n*k<=bigN:=by
 subst hb;exact zku h (by decide)
theorem uN{acs:List AV}{I:Ins}(hq:Hf P acs I):I.sok:=by
 obtain⟨av,_,h1,h2⟩:=hq;exact⟨Hh hE h1.2 (uM hE),h2⟩
theorem uO{acs:List AV}{B:Blk}(hq:Hg P acs B):B.sok:=by
 obtain ⟨av,_,h1⟩:=hq;have hx:∀x∈B.code,x.sok:=fun x hx=>by
  obtain⟨r,hr⟩:=h1.mem hx;exact uN hE hr
 exact⟨⟨fun x h=>(hx x h).1,Hh hE h1.2 (xZ hE)⟩,hx⟩
theorem yE{acs:List AV}{C:Cod}(hq:Tn P acs C):C.sok:=by
 obtain ⟨rv,bv,_,h1,h2⟩:=hq;have hx:∀x∈C.blocks,x.sok:=fun x hx=>by
  obtain⟨r,hr⟩:=h2.mem hx;exact uO hE hr
 exact⟨⟨Hh hE h1.2 (uM hE),fun x h=>(hx x h).1,Hh hE h2.2 (yA hE)⟩,hx⟩
theorem DK{gv fv:AV}{M:Modl}(h2:Up P 54 Xg gv M.gs)(h3:Up P 41 (Tn P) fv M.fs):M.ok:=by
 refine⟨fun C hC=>?_,?_,Hh hE h2.2 (DH hE)⟩
 . obtain⟨r,hr⟩:=h3.mem hC
   exact yE hE hr
 . have:=Hh hE h3.2 (DG hE)
   simp only[bigN]at this|-;omega
end
end Go.Proofs.AmEnv
namespace Go.AM
theorem uP{E:Env}{f:Nat}{args:List AV}{h:Heap}(hg:E.gc f=false)(ht:E.told f=true):callω E f args h=toldA args h:=by
 refine (Ax (E:=E) f args h).unique ?_;have e:∀m,F8 E (ev E m) f args h=toldA args h:=fun m=>by
  unfold F8;rw[hg];show M9 E (ev E m) f args h=_
  unfold M9;rw[ht];rfl
 simp only[e];exact .const
end Go.AM
namespace Go.Proofs.AmEnv
open Go Go.AM
theorem eV(hg:env.gc 54=false)(ht:env.told 54=true):TC env 54 R0:=by
 intro args rs hgc Z h xs hl hz hb;unfold R0 at hgc;split at hgc
 . rename_i s p
   split at hgc
   . rename_i hs
     cases hgc
     match xs,hl with
     | [x,y],_ =>
      have h0:=hz 0 x (.str s) rfl rfl;have h1:=hz 1 y (.str p) rfl rfl;cases h0;cases h1;refine⟨[.bool (contS p s)],h,Z,fun _=>none,?_,LF hb,VL.cons (.fz (.bool _)) VL.nil,zkt _,fun id hz=>⟨hz,rfl⟩,fun id hz=>.inl hz,fun id _=>rfl,fun id L e=>(by cases e),[],rfl,fun id hi=>(zqq hi).elim⟩;rw[uP hg ht];show(bif Nat.ble (j1 s) 4000000000||oneB p then(match contS p s with|true=>Res.ok (.bool true) h|false=>.ok (.bool false) h)else .bad)=_
      have hs:(Nat.ble (j1 s) 4000000000||oneB p)=true:=hs;rw[hs];cases contS p s<;>rfl
   . cases hgc
 . cases hgc
def G1(T:Nat->Option (List AV->Option (List AV)))(f:Nat)(g:List AV->Option (List AV))(k:Nat):Option (List AV->Option (List AV)):=bif Nat.beq k f then some g else T k
theorem B6{E:Env}{T:Nat->Option (List AV->Option (List AV))}{F:Nat->Option PFn}{f:Nat}{g:List AV->Option (List AV)}(hP:PEok ⟨E,T,F⟩)(h:TC E f g):PEok ⟨E,G1 T f g,F⟩:=by
 refine⟨hP.gl,hP.ti,fun k q e=>?_,hP.fn⟩;have e:(bif Nat.beq k f then some g else T k)=some q:=e;cases hb:Nat.beq k f with
 |true=>rw[hb]at e;cases e;rw[Nat.eq_of_beq_eq_true hb];exact h
 |false=>rw[hb]at e;exact hP.T k q e
def T0(k:Nat):Option (List AV->Option (List AV)):=none
section
variable (hP:PEok ⟨env,T0,A1⟩)
include hP
omit hP in
def T1:=G1 T0 52 G5
theorem P1:PEok ⟨env,T1,A1⟩:=B6 hP (B8 hP fun l h=>Ru h)
omit hP in
def T2:=G1 T1 23 Z5
theorem P2:PEok ⟨env,T2,A1⟩:=B6 (P1 hP) (B8 (P1 hP) fun p h=>Rv (by simp only[bigN]at h|-;omega))
omit hP in
def T3:=G1 T2 72 Z6
theorem P3:PEok ⟨env,T3,A1⟩:=B6 (P2 hP) (B8 (P2 hP) fun x h=>Ny rfl h)
omit hP in
def T4:=G1 T3 13 N0
theorem P4:PEok ⟨env,T4,A1⟩:=B6 (P3 hP) (B8 (P3 hP) fun p h=>Nz rfl h)
omit hP in
def T5:=G1 T4 65 V0
theorem P5:PEok ⟨env,T5,A1⟩:=B6 (P4 hP) (B8 (P4 hP) fun l h=>Li rfl h.1 h.2)
omit hP in
def T6:=G1 T5 62 V1
theorem P6:PEok ⟨env,T6,A1⟩:=B6 (P5 hP) (B8 (P5 hP) fun p h=>Lj rfl h.1 h.2)
omit hP in
def T7:=G1 T6 53 y5
theorem P7:PEok ⟨env,T7,A1⟩:=B6 (P6 hP) (B8 (P6 hP) fun l h=>Ll rfl h.1 h.2)
omit hP in
def T8:=G1 T7 47 y6
theorem P8:PEok ⟨env,T8,A1⟩:=B6 (P7 hP) (B8 (P7 hP) fun p h=>Lm rfl h.1 h.2)
omit hP in
def T9:=G1 T8 41 m5
theorem P9:PEok ⟨env,T9,A1⟩:=B6 (P8 hP) (B8 (P8 hP) fun x h=>Sc rfl rfl h)
omit hP in
def YM:=G1 T9 36 V3
theorem YN:PEok ⟨env,YM,A1⟩:=B6 (P9 hP) (B8 (P9 hP) fun p h=>Sd rfl rfl h)
omit hP in
def YO:=G1 YM 28 G5
theorem P11:PEok ⟨env,YO,A1⟩:=B6 (YN hP) (sB (YN hP) rfl)
omit hP in
def YP:=G1 YO 54 R0
theorem YQ:PEok ⟨env,YP,A1⟩:=B6 (P11 hP) (eV rfl rfl)
omit hP in
def YR:=G1 YP 18 N1
theorem YS:PEok ⟨env,YR,A1⟩:=B6 (YQ hP) (Zo (YQ hP))
omit hP in
def YT:=G1 YR 46 D4
theorem YU:PEok ⟨env,YT,A1⟩:=B6 (YS hP) (dT (YS hP))
omit hP in
def YV:=G1 YT 60 Do
theorem YW:PEok ⟨env,YV,A1⟩:=B6 (YU hP) (iK (YU hP))
omit hP in
def YX:=G1 YV 49 F2
theorem YY:PEok ⟨env,YX,A1⟩:=B6 (YW hP) (Zp (YW hP))
omit hP in
def YZ:=G1 YX 31 C7
theorem ZA:PEok ⟨env,YZ,A1⟩:=B6 (YY hP) (Dp rfl (YY hP))
omit hP in
def ZB:=G1 YZ 35 K6
theorem ZC:PEok ⟨env,ZB,A1⟩:=B6 (ZA hP) (Sf (ZA hP))
omit hP in
def ZD:=G1 ZB 56 Z7
theorem ZE:PEok ⟨env,ZD,A1⟩:=B6 (ZC hP) (Zq (ZC hP))
omit hP in
def ZF:=G1 ZD 55 Ao
theorem ZG:PEok ⟨env,ZF,A1⟩:=B6 (ZE hP) (dU rfl (ZE hP))
omit hP in
def ZH:=G1 ZF 67 Dq
theorem ZI:PEok ⟨env,ZH,A1⟩:=B6 (ZG hP) (iM (ZG hP))
omit hP in
def ZJ:=G1 ZH 57 m4
theorem ZK:PEok ⟨env,ZJ,A1⟩:=B6 (ZI hP) (dX rfl (ZI hP))
omit hP in
def ZL:=G1 ZJ 20 L3
theorem ZM:PEok ⟨env,ZL,A1⟩:=B6 (ZK hP) (Zr rfl rfl (ZK hP))
omit hP in
def ZN:=G1 ZL 43 Dr
theorem ZO:PEok ⟨env,ZN,A1⟩:=B6 (ZM hP) (iN rfl (ZM hP))
omit hP in
def ZP:=G1 ZN 58 D9
theorem ZQ:PEok ⟨env,ZP,A1⟩:=B6 (ZO hP) (Ds rfl (ZO hP))
omit hP in
def ZR:=G1 ZP 44 J0
theorem ZS:PEok ⟨env,ZR,A1⟩:=B6 (ZQ hP) (Dt rfl rfl rfl rfl rfl rfl (ZQ hP))
omit hP in
def ZT:=G1 ZR 45 K7
theorem ZU:PEok ⟨env,ZT,A1⟩:=B6 (ZS hP) (Ff rfl rfl rfl rfl (ZS hP))
omit hP in
def ZV:=G1 ZT 32 C5
theorem ZW:PEok ⟨env,ZV,A1⟩:=B6 (ZU hP) (Fg rfl rfl rfl (ZU hP))
omit hP in
def ZX:=G1 ZV 33 I0
theorem ZY:PEok ⟨env,ZX,A1⟩:=B6 (ZW hP) (Jl rfl (ZW hP))
omit hP in
def ZZ:=G1 ZX 19 G7
theorem P30:PEok ⟨env,ZZ,A1⟩:=B6 (ZY hP) (Ha rfl rfl rfl rfl rfl (ZY hP))
omit hP in
def T31:=G1 ZZ 8 O1
theorem P31:PEok ⟨env,T31,A1⟩:=B6 (P30 hP) (dY rfl rfl rfl (P30 hP))
omit hP in
def T32:=G1 T31 12 r9
theorem P32:PEok ⟨env,T32,A1⟩:=B6 (P31 hP) (Zu (P31 hP))
omit hP in
def T33:=G1 T32 74 Sp
theorem P33:PEok ⟨env,T33,A1⟩:=B6 (P32 hP) (sN (P32 hP))
omit hP in
def T34:=G1 T33 68 As
theorem P34:PEok ⟨env,T34,A1⟩:=B6 (P33 hP) (eB (P33 hP))
omit hP in
def T35:=G1 T34 69 Jm
theorem P35:PEok ⟨env,T35,A1⟩:=B6 (P34 hP) (oJ rfl (P34 hP))
omit hP in
def T36:=G1 T35 75 Sr
theorem P36:PEok ⟨env,T36,A1⟩:=B6 (P35 hP) (sO (P35 hP))
omit hP in
def T37:=G1 T36 70 At
theorem P37:PEok ⟨env,T37,A1⟩:=B6 (P36 hP) (eE (P36 hP))
omit hP in
def T38:=G1 T37 71 Jn
theorem P38:PEok ⟨env,T38,A1⟩:=B6 (P37 hP) (oM rfl (P37 hP))
omit hP in
def T39:=G1 T38 63 Su
theorem P39:PEok ⟨env,T39,A1⟩:=B6 (P38 hP) (sP rfl rfl (P38 hP))
omit hP in
def T40:=G1 T39 64 Sv
theorem P40:PEok ⟨env,T40,A1⟩:=B6 (P39 hP) (sQ rfl rfl (P39 hP))
omit hP in
def T41:=G1 T40 48 V2
theorem P41:PEok ⟨env,T41,A1⟩:=B6 (P40 hP) (eH rfl rfl (P40 hP))
omit hP in
def T42:=G1 T41 11 z7
theorem P42:PEok ⟨env,T42,A1⟩:=B6 (P41 hP) (oX rfl rfl rfl rfl rfl rfl rfl rfl rfl rfl rfl (P41 hP))
omit hP in
def T43:=G1 T42 10 s8
theorem P43:PEok ⟨env,T43,A1⟩:=B6 (P42 hP) (iV rfl (P42 hP))
omit hP in
def T44:=G1 T43 29 E0
theorem P44:PEok ⟨env,T44,A1⟩:=B6 (P43 hP) (Oj rfl (P43 hP))
omit hP in
def T45:=G1 T44 17 F3
theorem P45:PEok ⟨env,T45,A1⟩:=B6 (P44 hP) (Tc rfl rfl (P44 hP))
omit hP in
def T46:=G1 T45 26 X1
theorem P46:PEok ⟨env,T46,A1⟩:=B6 (P45 hP) (Td (P45 hP))
omit hP in
def T47:=G1 T46 27 s9
theorem P47:PEok ⟨env,T47,A1⟩:=B6 (P46 hP) (aL rfl (P46 hP))
omit hP in
def T48:=G1 T47 16 i7
theorem P48:PEok ⟨env,T48,A1⟩:=B6 (P47 hP) (Vn rfl rfl (P47 hP))
omit hP in
def T49:=G1 T48 7 Xe
theorem P49:PEok ⟨env,T49,A1⟩:=B6 (P48 hP) (xJ (P48 hP))
omit hP in
def T50:=G1 T49 6 I7
theorem P50:PEok ⟨env,T50,A1⟩:=B6 (P49 hP) (Om rfl rfl (P49 hP))
omit hP in
def T51:=G1 T50 21 X2
theorem P51:PEok ⟨env,T51,A1⟩:=B6 (P50 hP) (Te (P50 hP))
omit hP in
def T52:=G1 T51 22 t7
theorem P52:PEok ⟨env,T52,A1⟩:=B6 (P51 hP) (aO rfl (P51 hP))
omit hP in
def T53:=G1 T52 9 Q4
theorem P53:PEok ⟨env,T53,A1⟩:=B6 (P52 hP) (Vq rfl rfl (P52 hP))
omit hP in
def T54:=G1 T53 15 t8
theorem P54:PEok ⟨env,T54,A1⟩:=B6 (P53 hP) (aP (P53 hP))
omit hP in
def T55:=G1 T54 5 R1
theorem P55:PEok ⟨env,T55,A1⟩:=B6 (P54 hP) (Tg rfl rfl rfl rfl (P54 hP))
omit hP in
def T56:=G1 T55 4 Z9
theorem P56:PEok ⟨env,T56,A1⟩:=B6 (P55 hP) (aT rfl rfl (P55 hP))
end
section
variable {H:Type}{enc:TypeId×Value->H}{P:Program}{W:World}{base:Nat}{spare:Nat->Bool}{held:Bool}
variable (hE:EnvOk env P)
include hE
theorem mod_see{n:Nat}{cs:List Value}{d:DataW H}{ps:List MemPlace}(h:DataW.trod enc P W base spare held n 25 cs=some (d,ps))(hw:Wt P 25 d):∃acs,∃M:Modl,O7 P 9 25 d=some acs/\acs.length=2/\(∀Z h,Fz Z h (.agg acs) M.F)/\M.ok:=by
 obtain⟨gv,fv,M,h1,h2,h3⟩:=xY hE h hw;refine⟨[gv,fv],M,h1,rfl,fun Z h=>?_,DK hE h2 h3⟩;refine eU rfl rfl fun p hp=>?_
 simp only[zqx,zqy,zqp,zqq,or_false]at hp;rcases hp with rfl|rfl
 . exact h2.fz fun r X hr=>DJ hE hr
 . exact h3.fz fun r X hr=>DI hE hr
theorem ints_see{n:Nat}{cs:List Value}{d:DataW H}{ps:List MemPlace}(h:DataW.trod enc P W base spare held n 26 cs=some (d,ps))(hw:Wt P 26 d):∃v l,O7 P 9 26 d=some [v]/\(∀Z h,Fz Z h v (fslN (ints l)))/\l.length*8<=bigN:=by
 obtain⟨s,h1,_,v,l,rfl,h2⟩:=Tm hE (m:=7) h hw;exact⟨v,l,h1,fun Z h=>jF hE h2,Hh hE h2.2 (uM hE)⟩
theorem int_see{n:Nat}{cs:List Value}{d:DataW H}{ps:List MemPlace}(h:DataW.trod enc P W base spare held n 3 cs=some (d,ps))(hw:Wt P 3 d):∃z,O7 P 9 3 d=some [.int .i64 z]:=by
 obtain⟨s,h1,_,z,rfl⟩:=By hE (m:=8) h hw;exact⟨z,h1⟩
end
theorem uQ{f:Nat}{T:Nat->Option (List AV->Option (List AV))}(hP:PEok ⟨env,T,A1⟩){as1 xs:List AV}(H:AM.Comes ⟨env,T,A1⟩ f as1 [.bool true])(hl:xs.length=as1.length)(hz:∀(i:Nat) u v,xs[i]?=some u->as1[i]?=some v->Fz (fun _=>False) Heap.empty u v):∃h',callω env f xs Heap.empty=.ok (.bool true) h':=by
 obtain⟨vcs,h1,Z1,ow1,e,_,l,_⟩:=Eh hP H (Z:=fun _=>False) (h:=Heap.empty) (xs:=xs) hl hz (fun id h=>h.elim);have l:VL Z1 ow1 h1 (openTs 0 [AV.bool true]).2 vcs [.bool true]:=l
 match vcs,l.1 with
 | [v],_ =>
  have hv:=l.2 0 v (.bool true) rfl rfl
  have:v=.bool true:=by
   cases hv with
   |fz h=>cases h;rfl
  subst this;exact⟨h1,e⟩
theorem CanonSame_ok(hP:PEok ⟨env,T0,A1⟩){m:Modl}{inp:List Int}{st:Int}(hm:m.ok){x y:AV}(hx:∀Z h,Fz Z h x m.F)(hy:∀Z h,Fz Z h y (fslN (ints inp))):∃h',callω env 3 [x,y,.int .i64 st] Heap.empty=.ok (.bool true) h':=by
 refine uQ (P56 hP) (Cj (T:=T56) (m:=m) (inp:=inp) (st:=st) rfl rfl rfl rfl rfl rfl rfl rfl hm) rfl fun i u v hu hv=>?_
 rcases i with _|_|_|i
 . cases hu;cases hv;exact hx _ _
 . cases hu;cases hv;exact hy _ _
 . cases hu;cases hv;exact .int _ _
 . simp at hu
end Go.Proofs.AmEnv
