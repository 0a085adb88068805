/- What this program's functions do, at any data. Conditions: none. -/
import Derived.Test.YtekhlbomopiemaaGenA
set_option linter.unusedVariables false
set_option linter.unusedSimpArgs false
set_option linter.unusedSectionVars false
set_option linter.defProp false
set_option maxRecDepth 100000
set_option maxHeartbeats 4000000
open Option renaming some→zs,none→zn
open Bool renaming true→zt,false→zf
open List renaming length_map→zqa,getD_eq_getElem?_getD→zqb,nil_append→zqc,cons_append→zqd,getElem_mem→zqe,mem_cons→zqf,replicate→zqg,getElem?_eq_getElem→zqh,range→zqi,append_nil→zqj,not_mem_nil→zqk,contains_cons→zql,contains_nil→zqm,length_set→zqn,take_of_length_le→zqo,prefix_rfl→zqp,drop_zero→zqq,map_nil→zqr,map_cons→zqs,getElem?_set→zqt,map_set→zqu,getElem?_eq_some_iff→zqv,mem_cons_self→zqw,mem_cons_of_mem→zqx,sum_cons→zqy,sum_nil→zqz,length_replicate→zka,mem_map_of_mem→zkb,zip_cons_cons→zkc,zip_nil_left→zkd,foldl_cons→zke,all_eq_true→zkf,mem_singleton→zkg,set_set→zkh,mem_append→zki,mem_or_eq_of_mem_set→zkj,take_zero→zkk,map_append→zkl,length_eq_zero_iff→zkm,nodup_nil→zkn,getElem?_set_self→zko,drop_length→zkp,drop_eq_getElem_cons→zkq,getElem?_eq_none→zkr,mem_map→zks,length_append→zkt,take_succ_eq_append_getElem→zku,length_cons→zkv,mem_filter→zkw,count_cons→zkx,mem_of_getElem?→zky,getElem?_replicate→zkz,findIdx?_cons→zja
open Nat renaming le_refl→zjb,not_lt_zero→zjc,le_trans→zjd,le_succ→zje,zero_le→zjf,lt_succ_self→zjg,mul_le_mul_right→zjh
open Bool renaming and_eq_true_iff→zji
open Int renaming eq_ofNat_of_zero_le→zjj,toNat_of_nonneg→zjk,lt_tmod_of_pos→zjl
noncomputable section
namespace Go.Proofs.AmEnv
open Go Go.AM
variable {T:Nat->Option (List AV->Option (List AV))}
def LN(e:Nat)(l:List Nat):List Nat:=l.filter fun x=>decide (x<e)
theorem dH(e:Nat)(l:List Nat):l.filter (fun x=>decide (x<e))=LN e l:=rfl
section
variable {m:Modl}{s s2 s3:Mst}{fa fd fo n n2:Bool}{r r2 a:List Int}{c:Cod}{i:Nat}{tch t1:List Nat}{F:List Nat->List Nat}{j:Int}
theorem A1r(hi:i<c.blocks.length)(D:evP ⟨A0,T,A2⟩ (.code (.loop f8) (S8 fa fd fo n r (i:Int)++frI c.blocks[i].code 0) (msL fa fd fo n m s a c r (LN (nE fa fd fo) tch)))=zs (.ok (.exit 2) ((49,.bool zf)::(S8 fa fd fo n2 r2 (i:Int)++frI c.blocks[i].code c.blocks[i].code.length)) (msL fa fd fo n2 m s2 a c r2 t1)))(G:∀t,evP ⟨A0,T,A2⟩ (.code R0 (S8 fa fd fo n2 r2 (i:Int)) (msL fa fd fo n2 m s2 a c r2 t))=zs (.ok .normal (S8 fa fd fo n2 r2 j) (msL fa fd fo n2 m s3 a c r2 (F t)))):∃t',evP ⟨A0,T,A2⟩ (.code y7 (S8 fa fd fo n r (i:Int)) (msL fa fd fo n m s a c r tch))=zs (.ok .normal (S8 fa fd fo n2 r2 j) (msL fa fd fo n2 m s3 a c r2 t')):=by
 have hb:=A9 (F:=Blk.F) hi;unfold y7 gP;unfold S8 frI msL F2 Ro at D;unfold S8 msL F2 Ro at G|-;unfold mB at D G|-;simp only[Cod.F,Blk.F]at hb D G|-;cases fa<;>cases fd<;>cases fo<;>cases n<;>cases n2<;>(
  simp only[dA,dR,oA,oR,aR,nB,nE,Nat.reduceAdd,zqd,zqc,zqj,show((0:Nat):Int)=0 from rfl]at D G|-;simp only[hb,D,G,dH,zqa,XP,Nat.reduceAdd,Nat.reduceSub,Nat.reduceLT,Nat.reduceLeDiff,Nat.reduceEqDiff,Nat.reduceMul,↓reduceIte];grind)
theorem A1s{v:Int}(hi:i<c.blocks.length)(D:evP ⟨A0,T,A2⟩ (.code (.loop f8) (S8 fa fd fo n r (i:Int)++frI c.blocks[i].code 0) (msL fa fd fo n m s a c r (LN (nE fa fd fo) tch)))=zs (.ok (.exit 2) ((49,.bool zf)::(S8 fa fd fo n2 r2 (i:Int)++frI c.blocks[i].code c.blocks[i].code.length)) (msL fa fd fo n2 m s2 a c r2 t1)))(G:∀t,evP ⟨A0,T,A2⟩ (.code R0 (S8 fa fd fo n2 r2 (i:Int)) (msL fa fd fo n2 m s2 a c r2 t))=zs (.ok .ret [(6,.int .i64 v)] ⟨F2 fa fd fo n2 m s3 a,nE fa fd fo,F t⟩)):∃t',evP ⟨A0,T,A2⟩ (.code y7 (S8 fa fd fo n r (i:Int)) (msL fa fd fo n m s a c r tch))=zs (.ok .ret [(6,.int .i64 v)] ⟨F2 fa fd fo n2 m s3 a,nE fa fd fo,t'⟩):=by
 have hb:=A9 (F:=Blk.F) hi;unfold y7 gP;unfold S8 frI msL F2 Ro at D;unfold S8 msL F2 Ro at G|-;unfold mB at D G|-;simp only[Cod.F,Blk.F]at hb D G|-;cases fa<;>cases fd<;>cases fo<;>cases n<;>cases n2<;>(
  simp only[dA,dR,oA,oR,aR,nB,nE,Nat.reduceAdd,zqd,zqc,zqj,show((0:Nat):Int)=0 from rfl]at D G|-;simp only[hb,D,G,dH,zqa,XP,Nat.reduceAdd,Nat.reduceSub,Nat.reduceLT,Nat.reduceLeDiff,Nat.reduceEqDiff,Nat.reduceMul,↓reduceIte];grind)
theorem A1t{z e:Int}(hi:i<c.blocks.length)(D:evP ⟨A0,T,A2⟩ (.code (.loop f8) (S8 fa fd fo n r (i:Int)++frI c.blocks[i].code 0) (msL fa fd fo n m s a c r (LN (nE fa fd fo) tch)))=zs (.ok (.exit 2) ((49,.bool zf)::(S8 fa fd fo n2 r2 (i:Int)++frI c.blocks[i].code c.blocks[i].code.length)) (msL fa fd fo n2 m s2 a c r2 t1)))(G:∀t,evP ⟨A0,T,A2⟩ (.code R0 (S8 fa fd fo n2 r2 (i:Int)) (msL fa fd fo n2 m s2 a c r2 t))=zs (.pan (E2 z e) ⟨F2 fa fd fo n2 m s2 a++[Ro c,.row 0 (ints r2) 1],nE fa fd fo,F t⟩)):∃t',evP ⟨A0,T,A2⟩ (.code y7 (S8 fa fd fo n r (i:Int)) (msL fa fd fo n m s a c r tch))=zs (.pan (E2 z e) ⟨F2 fa fd fo n2 m s2 a,nE fa fd fo,t'⟩):=by
 have hb:=A9 (F:=Blk.F) hi;unfold E2 at G|-;unfold y7 gP;unfold S8 frI msL F2 Ro at D;unfold S8 msL F2 Ro at G|-;unfold mB at D G|-;simp only[Cod.F,Blk.F]at hb D G|-;cases fa<;>cases fd<;>cases fo<;>cases n<;>cases n2<;>(
  simp only[dA,dR,oA,oR,aR,nB,nE,Nat.reduceAdd,zqd,zqc,zqj,show((0:Nat):Int)=0 from rfl]at D G|-;simp only[hb,D,G,dH,Zw,Zx,zqa,XP,Nat.reduceAdd,Nat.reduceSub,Nat.reduceLT,Nat.reduceLeDiff,Nat.reduceEqDiff,Nat.reduceMul,↓reduceIte];grind)
theorem A1u{z e:Int}(hi:i<c.blocks.length)(D:evP ⟨A0,T,A2⟩ (.code (.loop f8) (S8 fa fd fo n r (i:Int)++frI c.blocks[i].code 0) (msL fa fd fo n m s a c r (LN (nE fa fd fo) tch)))=zs (.pan (E2 z e) ⟨F2 fa fd fo n2 m s2 a,nE fa fd fo,t1⟩)):∃t',evP ⟨A0,T,A2⟩ (.code y7 (S8 fa fd fo n r (i:Int)) (msL fa fd fo n m s a c r tch))=zs (.pan (E2 z e) ⟨F2 fa fd fo n2 m s2 a,nE fa fd fo,t'⟩):=by
 have hb:=A9 (F:=Blk.F) hi;unfold E2 at D|-;unfold y7 gP;unfold S8 frI msL F2 Ro at D;unfold S8 msL F2 Ro at|-;unfold mB at D|-;simp only[Cod.F,Blk.F]at hb D|-;cases fa<;>cases fd<;>cases fo<;>cases n<;>cases n2<;>(
  simp only[dA,dR,oA,oR,aR,nB,nE,Nat.reduceAdd,zqd,zqc,zqj,show((0:Nat):Int)=0 from rfl]at D|-;simp only[hb,D,dH,Zw,Zx,zqa,XP,Nat.reduceAdd,Nat.reduceSub,Nat.reduceLT,Nat.reduceLeDiff,Nat.reduceEqDiff,Nat.reduceMul,↓reduceIte];grind)
end
theorem dI(l c:Operand)(fr:PF)(K:PK):prim A0 (.makeSlice 26 l c) fr K=Qb A0 Hs (opvP A0 l fr) (opvP A0 c fr) K:=rfl
theorem UV{k k':IntKind}{n:Nat}{K:PK}(h:n*8<=140737488355328):Qb A0 Hs (.int k (n:Int)) (.int k' (n:Int)) K=.val (.msl K.os.length 0 n 1) ⟨K.os++[.row 0 (ints (zqg n 0)) 1],K.ext,K.tch⟩:=by
 have e:ints (zqg n 0)=zqg n (AV.int .i64 0):=by simp[ints]
 rw[e];show(match zs ty3,zs n,zs n with|some te,zs n,zs m=>(if n<=m/\m*te.bytes<=140737488355328/\0<te.size then OpS.val (.msl K.os.length 0 n te.size) (AM.newRow 0 (zqg n te.zero) te.size K)else .bad)|_,_,_=>.bad)=_
 exact if_pos ⟨zjb _,h,by decide⟩
theorem yD{os:List PO}{id N ext:Nat}{tch:List Nat}{x:AV}{a:List Int}{os2:List PO}(D:os[id]?=zs (.row 0 (ints (zqg N 0)) 1))(G:takeE ty3 x ext [] os=zs (ints a,os2)):
 E0 A0 .copy [26,26] [.msl id 0 N 1,x] ⟨os,ext,tch⟩=zs (.int .i64 (Int.ofNat (min N a.length)),⟨os.set id (.row 0 (ints (initR N a)) 1),ext,id::tch⟩):=by
 show(match takeE ty3 x ext [] os with|some q=>qR 1 id 0 N q.1 ⟨os,ext,tch⟩|none=>zn)=_
 rw[G];show(match os[id]? with|some (.row 0 es z)=>if z=1/\0+N<=es.length/\Ci es=zt/\Ci (ints a)=zt then zs (AV.int .i64 (Int.ofNat (min N (ints a).length)),(⟨os.set id (.row 0 (es.take 0++((ints a).take (min N (ints a).length)++es.drop (0+min N (ints a).length))) z),ext,id::tch⟩:PK))else zn|_=>zn)=_
 rw[D];show(if 1=1/\_ then _ else _)=_
 rw[if_pos ⟨rfl,by simp[ints],cS _,cS _⟩];have hl:(ints a).length=a.length:=by simp[ints]
 have:(ints (zqg N 0)).take 0++((ints a).take (min N (ints a).length)++(ints (zqg N 0)).drop (0+min N (ints a).length))=ints (initR N a):=by
  rw[hl];unfold initR ints;rw[zkk,zqc,zkl,<-List.map_take,<-List.map_drop,List.drop_replicate]
  grind
 rw[this,hl]
section
variable {m:Modl}{s s2:Mst}{fa fd fo n2:Bool}{a:List Int}{f:Nat}{t1:List Nat}
theorem GF(R:RunT T)(h:32<=s.calls):∃t1,evP ⟨A0,T,A2⟩ (.body 25 [.ptr 0 0 0,.int .i64 (f:Int),w7 fa 1 a] ⟨F2 fa fd fo zf m s a,nE fa fd fo,[]⟩)=zs (.pan (E2 2 4) ⟨F2 fa fd fo zf m s a,nE fa fd fo,t1⟩):=by
 have hg:decide (s.calls>=32)=zt:=by simp;omega
 have D:=fun K=>Rn (T:=T) (K:=K) R.hN (t:=4) (by decide)
 unfold E2 at D|-;rw[A4 (c:=FC) (nt:=109) (rs:=[.tmp 6]) rfl (by simp)];unfold FC;unfold cO cN cM cL cK cJ cI pA F2;unfold mB;cases fa<;>cases fd<;>cases fo<;>(
  simp only[dA,dR,oA,oR,aR,nB,nE,w7,Nat.reduceAdd,zqd,zqc,zqj];simp only[hg,D,Zw,Zx,XP,seval];grind)
theorem PU{N:Nat}{C:PO}{tch:List Nat}(hz:fa=zf->a=[]):E0 A0 .copy [26,26] [.msl (nE fa fd fo+1) 0 N 1,w7 fa 1 a] ⟨F2 fa fd fo zf m s a++[C,.row 0 (ints (zqg N 0)) 1],nE fa fd fo,tch⟩=zs (.int .i64 (Int.ofNat (min N a.length)),⟨F2 fa fd fo zf m s a++[C,.row 0 (ints (initR N a)) 1],nE fa fd fo,(nE fa fd fo+1)::tch⟩):=by
 cases fa with
 |false=>
  rw[hz rfl];rw[yD (a:=[]) (os2:=F2 zf fd fo zf m s []++[C,.row 0 (ints (zqg N 0)) 1]) (by cases fd<;>cases fo<;>rfl) (by cases fd<;>cases fo<;>rfl)];cases fd<;>cases fo<;>rfl
 |true=>
  rw[yD (a:=a) (os2:=F2 zt fd fo zf m s a++[C,.row 0 (ints (zqg N 0)) 1]) (by cases fd<;>cases fo<;>rfl) ?_]
  . cases fd<;>cases fo<;>rfl
  simp_all [F2, w7, aR, XP, cS]
def dJ(s:Mst):Mst:={s with calls:=s.calls+1}
theorem Nz(n:Nat)(a:List Int):(initR n a).length=n:=by grind [initR]
theorem PV{v:Int}(h:¬32<=s.calls)(h0:0<=s.calls)(hf:f<m.fs.length)(hn:m.fs[f].regs.length<=100000)(hz:fa=zf->a=[])(hl:evP ⟨A0,T,A2⟩ (.code (.loop y7) (S8 fa fd fo zf (initR m.fs[f].regs.length a) 0) (msL fa fd fo zf m (dJ s) a m.fs[f] (initR m.fs[f].regs.length a) [0]))=zs (.ok .ret [(6,.int .i64 v)] ⟨F2 fa fd fo n2 m s2 a,nE fa fd fo,t1⟩)):∃t1,evP ⟨A0,T,A2⟩ (.body 25 [.ptr 0 0 0,.int .i64 (f:Int),w7 fa 1 a] ⟨F2 fa fd fo zf m s a,nE fa fd fo,[]⟩)=zs (.val [.int .i64 v] ⟨F2 fa fd fo n2 m s2 a,nE fa fd fo,t1⟩):=by
 have hg:decide (s.calls>=32)=zf:=by simp;omega
 have hc:=Bc (n:=s.calls+1) (by omega) (by omega);have hi:=A9 (F:=Cod.F) hf;have D:=fun tch=>PU (m:=m) (s:=dJ s) (fd:=fd) (fo:=fo) (N:=m.fs[f].regs.length) (C:=.row 1 [m.fs[f].F] 5) (tch:=tch) hz
 have mk:=fun k k' K=>UV (k:=k) (k':=k') (n:=m.fs[f].regs.length) (K:=K) (by omega)
 have G:=Nz m.fs[f].regs.length a;generalize initR m.fs[f].regs.length a=r0 at D hl G;unfold S8 msL Ro at hl;rw[G]at hl;rw[A4 (c:=FC) (nt:=109) (rs:=[.tmp 6]) rfl (by simp)];unfold FC;unfold cO cN cM cL cK cJ cI pA;unfold F2 at D hl|-;unfold mB at D hl|-;simp only[Cod.F,dJ]at hi D hl|-;cases fa<;>cases fd<;>cases fo<;>(
  simp only[dA,dR,oA,oR,aR,nB,nE,w7,Nat.reduceAdd,zqd,zqc,zqj]at D hl|-;simp only[hg,hc,hi,D,hl,dI,mk,zqa,XP,Nat.reduceAdd,Nat.reduceSub,Nat.reduceLT,Nat.reduceLeDiff,Nat.reduceEqDiff,Nat.reduceMul,↓reduceIte];exact⟨_,rfl⟩)
theorem PW{z e:Int}(h:¬32<=s.calls)(h0:0<=s.calls)(hf:f<m.fs.length)(hn:m.fs[f].regs.length<=100000)(hz:fa=zf->a=[])(hl:evP ⟨A0,T,A2⟩ (.code (.loop y7) (S8 fa fd fo zf (initR m.fs[f].regs.length a) 0) (msL fa fd fo zf m (dJ s) a m.fs[f] (initR m.fs[f].regs.length a) [0]))=zs (.pan (E2 z e) ⟨F2 fa fd fo n2 m s2 a,nE fa fd fo,t1⟩)):∃t1,evP ⟨A0,T,A2⟩ (.body 25 [.ptr 0 0 0,.int .i64 (f:Int),w7 fa 1 a] ⟨F2 fa fd fo zf m s a,nE fa fd fo,[]⟩)=zs (.pan (E2 z e) ⟨F2 fa fd fo n2 m s2 a,nE fa fd fo,t1⟩):=by
 have hg:decide (s.calls>=32)=zf:=by simp;omega
 have hc:=Bc (n:=s.calls+1) (by omega) (by omega);have hi:=A9 (F:=Cod.F) hf;have D:=fun tch=>PU (m:=m) (s:=dJ s) (fd:=fd) (fo:=fo) (N:=m.fs[f].regs.length) (C:=.row 1 [m.fs[f].F] 5) (tch:=tch) hz
 have mk:=fun k k' K=>UV (k:=k) (k':=k') (n:=m.fs[f].regs.length) (K:=K) (by omega)
 have G:=Nz m.fs[f].regs.length a;generalize initR m.fs[f].regs.length a=r0 at D hl G;unfold E2 at hl|-;unfold S8 msL Ro at hl;rw[G]at hl;rw[A4 (c:=FC) (nt:=109) (rs:=[.tmp 6]) rfl (by simp)];unfold FC;unfold cO cN cM cL cK cJ cI pA;unfold F2 at D hl|-;unfold mB at D hl|-;simp only[Cod.F,dJ]at hi D hl|-;cases fa<;>cases fd<;>cases fo<;>cases n2<;>(
  simp only[dA,dR,oA,oR,aR,nB,nE,w7,Nat.reduceAdd,zqd,zqc,zqj]at D hl|-;simp only[hg,hc,hi,D,hl,dI,mk,Zw,Zx,zqa,XP,Nat.reduceAdd,Nat.reduceSub,Nat.reduceLT,Nat.reduceLeDiff,Nat.reduceEqDiff,Nat.reduceMul,↓reduceIte];exact⟨_,rfl⟩)
end
theorem yE{c:Cod}{i:Nat}(h:i<c.blocks.length):blkAt c (i:Int)=c.blocks[i]:=by simp[blkAt,zqb,h]
theorem yF{m:Modl}{i:Nat}(h:i<m.fs.length):Q4 m (i:Int)=m.fs[i]:=by simp[Q4,zqb,h]
section
variable {m:Modl}{C:Int->List Int->Mst->Rs}{fa fd fo:Bool}{a:List Int}{c:Cod}{cl:Int}
def UW(fa fd fo:Bool)(m:Modl)(a:List Int)(y:Rs)(n2:Bool)(t1:List Nat):PR:=match y with
 |.ret v s2=>.ok .ret [(6,.int .i64 v)] ⟨F2 fa fd fo n2 m s2 a,nE fa fd fo,t1⟩
 | .stop st e s2=>.pan (E2 st e) ⟨F2 fa fd fo n2 m s2 a,nE fa fd fo,t1⟩
structure OutE(m:Modl)(s:Mst)(y:Rs):Prop where
 ok:Sok m y.st
 st:y.st.steps<=s.steps
 rt:∀v s2,y=.ret v s2->s2.calls=s.calls-1
theorem OutE.of{s s1:Mst}{y:Rs}(h:OutE m s1 y)(D:s1.steps<=s.steps)(G:s1.calls=s.calls):OutE m s y:=⟨h.ok,Int.le_trans h.st D,fun v s2 e=>by rw[h.rt v s2 e,G]⟩
theorem GG(R:RunT T)(hc:xZ T m C (tO m cl))(hp:yC m cl C)(hC:CodR m c)(ab:fd=zf->m.gs=[]):
 ∀ (f i:Nat) (n:Bool) (r:List Int) (s:Mst) (tch:List Nat),i<c.blocks.length->r.length=c.regs.length->Sok m s->1<=s.calls->s.calls=cl->s.steps.toNat<f->(fo=zf->n=zf->s.out=[]) ->
   OutE m s (N6 m C c f i r s)/\∃n2 t1,evP ⟨A0,T,A2⟩ (.code (.loop y7) (S8 fa fd fo n r (i:Int)) (msL fa fd fo n m s a c r tch))=zs (UW fa fd fo m a (N6 m C c f i r s) n2 t1)/\(fo=zf->n2=zf->(N6 m C c f i r s).st.out=[])
 |0,i,n,r,s,tch,hi,hr,hs,hca,hcl,hf,ho=>absurd hf (zjc _)
 |f + 1,i,n,r,s,tch,hi,hr,hs,hca,hcl,hf,ho=>by
  obtain⟨b1,b2,Q⟩:=hC.b _ (zqe hi);obtain⟨U,n2,t1,X,Y⟩:=IZ (fa:=fa) (fo:=fo) (a:=a) (c:=c) (at0:=(i:Int)) R hc hp b1 b2 ab c.blocks[i].code.length 0 n r s (LN (nE fa fd fo) tch) (by omega) hr hs hcl ho;rw[zqq]at U X Y;rw[N6,yE hi];cases hy:insF m C c.blocks[i].code r s with
  |stop z e s2=>
   rw[hy]at U X Y;obtain⟨t2,q⟩:=A1u (tch:=tch) hi X;exact⟨⟨U.ok,U.st,fun _ _ e=>by cases e⟩,n2,t2,Fv q,Y⟩
  |go r2 s2=>
   rw[hy]at U X Y;obtain⟨ae,aa⟩:=U.go _ _ rfl;have J:Sok m s2:=U.ok;have k2:s2.steps<=s.steps:=U.st;dsimp only;by_cases h1:s2.steps<1
   . rw[if_pos h1]
     have K:=fun t=>PL (T:=T) (m:=m) (s:=s2) (fa:=fa) (fd:=fd) (fo:=fo) (n:=n2) (r:=r2) (a:=a) (c:=c) (tch:=t) R hi (by omega)
     obtain⟨t2,q⟩:=A1t (tch:=tch) (F:=fun t=>(K t).choose) hi X (fun t=>(K t).choose_spec);exact⟨⟨J,k2,fun _ _ e=>by cases e⟩,n2,t2,Fv q,Y⟩
   . rw [if_neg h1]
     have k3:=J.stp (by omega);have ac:(stp s2).steps<=s.steps:=by grind [stp]
     have ad:(stp s2).steps.toNat<f:=by grind [stp]
     by_cases D:c.blocks[i].e.kind=3
     . rw [if_pos D]
       have I:∀v,(∀t,∃t1,evP ⟨A0,T,A2⟩ (.code R0 (S8 fa fd fo n2 r2 (i:Int)) (msL fa fd fo n2 m s2 a c r2 t))=zs (.ok .ret [(6,.int .i64 v)] ⟨F2 fa fd fo n2 m {stp s2 with calls:=s2.calls-1} a,nE fa fd fo,t1⟩)) ->
        OutE m s (.ret v {stp s2 with calls:=s2.calls-1})/\∃V t1,evP ⟨A0,T,A2⟩ (.code (.loop y7) (S8 fa fd fo n r (i:Int)) (msL fa fd fo n m s a c r tch))=zs (UW fa fd fo m a (.ret v {stp s2 with calls:=s2.calls-1}) V t1)/\(fo=zf->V=zf->(Rs.ret v {stp s2 with calls:=s2.calls-1}).st.out=[]):=by
        intro v K;obtain⟨t2,q⟩:=A1s (tch:=tch) (F:=fun t=>(K t).choose) hi X (fun t=>(K t).choose_spec);have hca2:=J.ca;refine⟨⟨⟨k3.1.d,k3.1.st,k3.1.ou,?_⟩,ac,fun _ _ e=>by grind⟩,n2,t2,Cp q,Y⟩;show 0<=s2.calls-1/\s2.calls-1<=33
        omega
       by_cases ha:c.blocks[i].e.a<0
       . rw[if_pos ha]
         exact I 0 fun t=>PM R hi (by omega) J.st D ha J.ca.1 (by have:=J.ca;omega)
       . rw[if_neg ha]
         exact I _ fun t=>PN R hi (by omega) J.st D ⟨by omega,by have:=Q.a3 D;omega⟩ J.ca.1 (by have:=J.ca;omega)
     . rw [if_neg D]
       have I:∀(j:Int),0<=j->j<c.blocks.length->(∀t,∃t1,evP ⟨A0,T,A2⟩ (.code R0 (S8 fa fd fo n2 r2 (i:Int)) (msL fa fd fo n2 m s2 a c r2 t))=zs (.ok .normal (S8 fa fd fo n2 r2 j) (msL fa fd fo n2 m (stp s2) a c r2 t1))) ->
        OutE m s (N6 m C c f j r2 (stp s2))/\∃V t1,evP ⟨A0,T,A2⟩ (.code (.loop y7) (S8 fa fd fo n r (i:Int)) (msL fa fd fo n m s a c r tch))=zs (UW fa fd fo m a (N6 m C c f j r2 (stp s2)) V t1)/\(fo=zf->V=zf->(N6 m C c f j r2 (stp s2)).st.out=[]):=by
        intro j h0 hj K;obtain⟨j,rfl⟩:∃k:Nat,j=k:=⟨j.toNat,by omega⟩
        obtain⟨t2,q⟩:=A1r (tch:=tch) (F:=fun t=>(K t).choose) hi X (fun t=>(K t).choose_spec);obtain⟨u1,V,t3,u2,u3⟩:=GG R hc hp hC ab f j n2 r2 (stp s2) t2 (by omega) ae k3.1 (by show 1<=s2.calls;omega) (aa.trans hcl) ad Y;exact⟨u1.of ac aa,V,t3,by rw[loop_more q];exact u2,u3⟩
       by_cases G:c.blocks[i].e.kind=2
       . obtain ⟨a1,a2⟩:=Q.a2 G
         by_cases hv:at' r2 c.blocks[i].e.a=0
         . rw[if_pos ⟨G,hv⟩]
           exact I _ (Q.els G).1 (Q.els G).2 fun t=>PP R hi (by omega) J.st G ⟨a1,by omega⟩ hv
         . rw[if_neg (fun e=>hv e.2)]
           exact I _ (Q.to D).1 (Q.to D).2 fun t=>PQ R hi (by omega) J.st G ⟨a1,by omega⟩ hv
       . rw[if_neg (fun e=>G e.1)]
         exact I _ (Q.to D).1 (Q.to D).2 fun t=>PS R hi (by omega) J.st (by have:=Q.k;omega)
theorem u4.len0{s:Mst}(h:u4 m s.data)(e:s.data=[]):m.gs=[]:=zkm.1 (by rw[<-h.1,e];rfl)
theorem iJ(R:RunT T)(hM:ModR' m):∀(d:Nat)(cl:Int),33-cl<=d->0<=cl->yC m cl (M9 m d)/\xZ T m (M9 m d) (tO m cl)
 |0,cl,h,h0=>by
  refine⟨fun f a s G=>?_,fun fa fd fo f a s G hz Y ho=>?_⟩
  . exact⟨G.2.1,Int.le_refl _,fun _ _ e=>by cases e⟩
  . obtain⟨t1,e⟩:=GF (T:=T) (m:=m) (s:=s) (fa:=fa) (fd:=fd) (fo:=fo) (a:=a) (f:=f.toNat) R (by have:=G.2.2;omega)
    rw[zjk G.1.1]at e;exact⟨zf,t1,fun e _=>ho e,e⟩
 |d + 1,cl,h,h0=>by
  obtain⟨i1,i2⟩:=iJ R hM d (cl+1) (by omega) (by omega);have X:∀(fa fd fo:Bool)(f:Int)(a:List Int)(s:Mst),tO m cl f a s->(fa=zf->a=[])->(fd=zf->s.data=[])->(fo=zf->s.out=[]) ->
   (Sok m (M9 m (d+1) f a s).st/\(M9 m (d+1) f a s).st.steps<=s.steps/\∀v J,M9 m (d+1) f a s=.ret v J->J.calls=s.calls)/\
   ∃n' t1,(fo=zf->n'=zf->(M9 m (d+1) f a s).st.out=[])/\evP ⟨A0,T,A2⟩ (.body 25 [.ptr 0 0 0,.int .i64 f,w7 fa 1 a] ⟨F2 fa fd fo zf m s a,nE fa fd fo,[]⟩)=zs (CH (M9 m (d+1) f a s) fun J=>⟨F2 fa fd fo n' m J a,nE fa fd fo,t1⟩):=by
   intro fa fd fo f a s G hz Y ho;obtain⟨⟨f0,f1⟩,Q,hcl⟩:=G;obtain⟨f,rfl⟩:∃k:Nat,f=k:=⟨f.toNat,by omega⟩
   have hf:f<m.fs.length:=by omega
   rw[M9];by_cases D:32<=s.calls
   . rw[if_pos D]
     obtain⟨t1,e⟩:=GF (T:=T) (m:=m) (s:=s) (fa:=fa) (fd:=fd) (fo:=fo) (a:=a) (f:=f) R D;exact⟨⟨Q,Int.le_refl _,fun _ _ e=>by cases e⟩,zf,t1,fun e _=>ho e,e⟩
   . rw [if_neg D,yF hf]
     have hC:=hM.f _ (zqe hf);have aa:Sok m (dJ s):=⟨Q.d,Q.st,Q.ou,by show 0<=s.calls+1/\s.calls+1<=33;grind⟩
     obtain⟨I,n2,t1,V,U⟩:=GG (fa:=fa) (fd:=fd) (fo:=fo) (a:=a) R i2 i1 hC (fun e=>Q.d.len0 (Y e)) (s.steps.toNat+1) 0 zf (initR m.fs[f].regs.length a) (dJ s) [0] hC.nb (Nz _ _) aa (by show 1<=s.calls+1;grind) (by show s.calls+1=cl+1;omega) (by show s.steps.toNat<s.steps.toNat+1;omega) (fun e _=>ho e);have hb:=Q.ca.1;show(Sok m (N6 m (M9 m d) m.fs[f] (s.steps.toNat+1) 0 (initR m.fs[f].regs.length a) (dJ s)).st/\(N6 m (M9 m d) m.fs[f] (s.steps.toNat+1) 0 (initR m.fs[f].regs.length a) (dJ s)).st.steps<=s.steps/\∀v J,N6 m (M9 m d) m.fs[f] (s.steps.toNat+1) 0 (initR m.fs[f].regs.length a) (dJ s)=.ret v J->J.calls=s.calls)/\∃n' t1,(fo=zf->n'=zf->(N6 m (M9 m d) m.fs[f] (s.steps.toNat+1) 0 (initR m.fs[f].regs.length a) (dJ s)).st.out=[])/\_=zs (CH (N6 m (M9 m d) m.fs[f] (s.steps.toNat+1) 0 (initR m.fs[f].regs.length a) (dJ s)) _)
     replace I:OutE m (dJ s) (N6 m (M9 m d) m.fs[f] (s.steps.toNat+1) 0 (initR m.fs[f].regs.length a) (dJ s)):=I
     replace U:fo=zf->n2=zf->(N6 m (M9 m d) m.fs[f] (s.steps.toNat+1) 0 (initR m.fs[f].regs.length a) (dJ s)).st.out=[]:=U
     replace V:evP ⟨A0,T,A2⟩ (.code (.loop y7) (S8 fa fd fo zf (initR m.fs[f].regs.length a) 0) (msL fa fd fo zf m (dJ s) a m.fs[f] (initR m.fs[f].regs.length a) [0]))=zs (UW fa fd fo m a (N6 m (M9 m d) m.fs[f] (s.steps.toNat+1) 0 (initR m.fs[f].regs.length a) (dJ s)) n2 t1):=V
     cases hy:N6 m (M9 m d) m.fs[f] (s.steps.toNat+1) 0 (initR m.fs[f].regs.length a) (dJ s)with
     |ret v s2=>
      rw[hy]at I V U;obtain⟨t2,e⟩:=PV D hb hf hC.nr hz V;refine⟨⟨I.ok,I.st,fun v' J e=>?_⟩,n2,t2,U,e⟩;cases e
      have:s2.calls=s.calls+1-1:=I.rt _ _ rfl
      omega
     |stop z e s2=>
      rw[hy]at I V U;obtain⟨t2,e⟩:=PW D hb hf hC.nr hz V;exact⟨⟨I.ok,I.st,fun _ _ e=>by cases e⟩,n2,t2,U,e⟩
  refine⟨fun f a s G=>?_,fun fa fd fo f a s G hz Y ho=>(X fa fd fo f a s G hz Y ho).2⟩;exact(X zt zt zt f a s G (fun e=>by cases e) (fun e=>by cases e) (fun e=>by cases e)).1
end
def Mg(g:Glo):Nat:=(max g.size 1).toNat
def Eg(l:List Glo):List (List Int):=l.map fun g=>zqg (Mg g) 0
section
variable {m:Modl}{input:List Int}{steps:Int}{i:Nat}{K:PK}
def sI(steps:Int)(input:List Int)(l:List Glo):Mst:=⟨steps,input,Eg l,[],0⟩
theorem PX{a:Int}:E0 A0 .max [3,3] [.int .i64 a,.int .i64 1] K=zs (.int .i64 (max a 1),K):=by
 have e:E0 A0 .max [3,3] [.int .i64 a,.int .i64 1] K=zs (.int .i64 (bif intLe 1 a then a else 1),K):=rfl;rw[e,Q2];grind
theorem yG{x:AV}:AV.withCells .nilptr 0 [x]=x:=rfl
theorem Mh(a b d e:Nat):Gc (.msl a b d e)=zf:=rfl
theorem Mi:Gc .nilsl=zf:=rfl
def dV(d:List (List Int)):AV:=match d with|[]=>.nilsl|_::_=>.msl 4 0 d.length 1
def dW(d:List (List Int)):List PO:=match d with|[]=>[]|_::_=>[.row 0 (d.map rowO) 1]
def mP(m:Modl)(s:Mst):PK:=⟨.row 1 [m.F] 2::.row 1 [.agg [.nilsl,.int .i64 0,.int .i64 0]] 3::.row 1 [.ptr 3 0 0] 1::.row 1 [mB m s (dV s.data) .nilsl] 9::dW s.data,0,[]⟩
theorem yH{d:List (List Int)}(h:d≠[]):dV d=.msl 4 0 d.length 1:=by cases d with|nil=>grind|cons _ _=>rfl
theorem yI{d:List (List Int)}(h:d≠[]):dW d=[.row 0 (d.map rowO) 1]:=by cases d with|nil=>grind|cons _ _=>rfl
theorem A1v(h:0<m.gs.length)(hz:∀g∈m.gs,g.size<=100000):evP ⟨A0,T,A2⟩ (.code cH [(3,.ptr 0 0 0),(6,.ptr 1 0 0),(7,.ptr 2 0 0),(17,fslN (m.gs.map Glo.F)),(18,.int .i64 (m.gs.length:Int)),(19,.int .i64 0)] (mP m (sI steps input [])))=zs (.ok .normal [(3,.ptr 0 0 0),(6,.ptr 1 0 0),(7,.ptr 2 0 0),(17,fslN (m.gs.map Glo.F)),(18,.int .i64 (m.gs.length:Int)),(19,.int .i64 ((1:Nat):Int))] (mP m (sI steps input (m.gs.take 1)))):=by
 have hzi:=hz _ (zqe h);have hlt:decide ((0:Int)<(m.gs.length:Int))=zt:=by simp[h]
 have hi:Pb Ed (fslN (m.gs.map Glo.F)) (.int .i64 0)=zs (.fptr m.gs[0].F 0):=ix_fslN (i:=0) (A9 (F:=Glo.F) h) rfl;have hm:max m.gs[0].size 1=(Mg m.gs[0]:Int):=by unfold Mg;omega
 have mk:=fun k k' K=>UV (k:=k) (k':=k') (n:=Mg m.gs[0]) (K:=K) (by unfold Mg;omega)
 have ht:m.gs.take 1=[m.gs[0]]:=by
  rw[zku h];rfl
 rw[ht];unfold cH mP sI;unfold mB Modl.F;simp only[Glo.F]at hi|-;simp only[dV,dW,Eg,List.length_nil,zqr,zqs,zkv,Nat.zero_add];simp -implicitDefEqProofs only[hlt,hi,hm,dI,mk,Mh,Mi,zka,zqa,PX,show IntKind.i64.wrap (0+1)=((1:Nat):Int)from rfl,XP,Nat.reduceAdd,Nat.reduceSub,Nat.reduceLT,Nat.reduceLeDiff,Nat.reduceEqDiff,Nat.reduceMul,↓reduceIte];rfl
theorem A1w(h:i<m.gs.length)(h0:0<i)(hz:∀g∈m.gs,g.size<=100000)(hl:m.gs.length<=100000):evP ⟨A0,T,A2⟩ (.code cH [(3,.ptr 0 0 0),(6,.ptr 1 0 0),(7,.ptr 2 0 0),(17,fslN (m.gs.map Glo.F)),(18,.int .i64 (m.gs.length:Int)),(19,.int .i64 (i:Int))] (mP m (sI steps input (m.gs.take i))))=zs (.ok .normal [(3,.ptr 0 0 0),(6,.ptr 1 0 0),(7,.ptr 2 0 0),(17,fslN (m.gs.map Glo.F)),(18,.int .i64 (m.gs.length:Int)),(19,.int .i64 ((i+1:Nat):Int))] (mP m (sI steps input (m.gs.take (i+1))))):=by
 have hzi:=hz _ (zqe h);have hlt:decide ((i:Int)<(m.gs.length:Int))=zt:=by simp[h]
 have hw:=B7 (i:=i) (by omega);have hi:=A9 (F:=Glo.F) h;have hm:max m.gs[i].size 1=(Mg m.gs[i]:Int):=by unfold Mg;omega
 have mk:=fun k k' K=>UV (k:=k) (k':=k') (n:=Mg m.gs[i]) (K:=K) (by unfold Mg;omega)
 have hz8:(i+1)*24<=140737488355328:=by omega
 have hd:Eg (m.gs.take (i+1))=Eg (m.gs.take i)++[zqg (Mg m.gs[i]) 0]:=by
  rw[zku h];unfold Eg;rw[zkl];rfl
 have hdl:(Eg (m.gs.take i)).length=i:=by simp[Eg];omega
 unfold sI;rw[hd];have hne:Eg (m.gs.take i)≠[]:=fun e=>by rw[e]at hdl;simp at hdl;omega
 have hne2:Eg (m.gs.take i)++[zqg (Mg m.gs[i]) 0]≠[]:=by simp
 have hv:=yH hne;have hwv:=yI hne;have hv2:=yH hne2;have hwv2:=yI hne2;rw[zkl,show [zqg (Mg m.gs[i]) (0:Int)].map rowO=[ownd 0 1 (ints (zqg (Mg m.gs[i]) 0))]from rfl]at hwv2;rw[zkt,List.length_singleton,hdl]at hv2;rw[hdl]at hv;unfold cH mP;dsimp only;rw[hv,hwv,hv2,hwv2];unfold mB Modl.F;simp only[Glo.F]at hi|-;simp -implicitDefEqProofs only[hlt,hi,hw,hm,hdl,hz8,dI,mk,Mh,Mi,zka,zqa,PX,Aa,zql,zqm,Nat.reduceBEq,XP,Nat.reduceAdd,Nat.reduceSub,Nat.reduceLT,Nat.reduceLeDiff,Nat.reduceEqDiff,Nat.reduceMul,↓reduceIte]
theorem PY:∃fr',evP ⟨A0,T,A2⟩ (.code cH [(3,.ptr 0 0 0),(6,.ptr 1 0 0),(7,.ptr 2 0 0),(17,fslN (m.gs.map Glo.F)),(18,.int .i64 (m.gs.length:Int)),(19,.int .i64 (m.gs.length:Int))] K)=zs (.ok (.exit 0) fr' K)/\lookP fr' 3=.ptr 0 0 0/\lookP fr' 6=.ptr 1 0 0/\lookP fr' 7=.ptr 2 0 0:=by
 unfold cH;have D:decide ((m.gs.length:Int)<(m.gs.length:Int))=zf:=by simp
 simp only[D,XP,seval];exact⟨_,rfl,rfl,rfl,rfl⟩
theorem A1x(hz:∀g∈m.gs,g.size<=100000)(hl:m.gs.length<=100000):∃fr',evP ⟨A0,T,A2⟩ (.code (.loop cH) [(3,.ptr 0 0 0),(6,.ptr 1 0 0),(7,.ptr 2 0 0),(17,fslN (m.gs.map Glo.F)),(18,.int .i64 (m.gs.length:Int)),(19,.int .i64 0)] (mP m (sI steps input [])))=zs (.ok (.exit 0) fr' (mP m (sI steps input m.gs)))/\lookP fr' 3=.ptr 0 0 0/\lookP fr' 6=.ptr 1 0 0/\lookP fr' 7=.ptr 2 0 0:=by
 by_cases h0:m.gs.length=0
 . have D:m.gs=[]:=zkm.1 h0
   obtain⟨fr',e,p⟩:=PY (T:=T) (m:=m) (K:=mP m (sI steps input []));grind [E3]
 . have:=Xf (P:=⟨A0,T,A2⟩) (c:=cH) (fun i=>([(3,.ptr 0 0 0),(6,.ptr 1 0 0),(7,.ptr 2 0 0),(17,fslN (m.gs.map Glo.F)),(18,.int .i64 (m.gs.length:Int)),(19,.int .i64 ((i+1:Nat):Int))],mP m (sI steps input (m.gs.take (i+1))))) (m.gs.length-1) (by grind [Go.Proofs.AmEnv.A1w])
   obtain⟨fr',e,p⟩:=PY (T:=T) (m:=m) (K:=mP m (sI steps input m.gs));refine⟨fr',?_,p⟩;rw[loop_more (A1v (by omega) hz),this];grind [E3]
theorem PZ(hz:∀g∈m.gs,g.size<=100000)(hl:m.gs.length<=100000):evP ⟨A0,T,A2⟩ (.code MJ (enterP 0 [m.F,fslN (ints input),.int .i64 steps]) ⟨[],0,[]⟩)=zs (.ok .normal [(3,.ptr 0 0 0),(6,.ptr 1 0 0),(7,.ptr 2 0 0),(37,.fn (.func 24) [] [.ptr 2 0 0,.ptr 1 0 0])] (mP m (sI steps input m.gs))):=by
 obtain⟨fr',h,D,G,I⟩:=A1x (T:=T) (steps:=steps) (input:=input) hz hl;unfold MJ;unfold mP at h|-;cases J:Eg m.gs with
 |nil=>
  simp only[sI,J,dV,dW,show Eg []=[]from rfl]at h|-;simp_all [mB, Modl.F, XP, yG]
 |cons y ys=>
  simp only[sI,J,dV,dW,show Eg []=[]from rfl]at h|-;simp_all [mB, Modl.F, XP, yG]
end
section
variable {m:Modl}{s s2:Mst}{fd n':Bool}{f v st e:Int}{t0:List Nat}
def oQ(n':Bool)(i:Nat)(o:List Int):AV:=match n' with|true=>.msl i 0 o.length 1|false=>.nilsl
def Dn:AV:=.agg [.nilsl,.int .i64 0,.int .i64 0]
def Do(fd n':Bool)(m:Modl)(x:AV)(s:Mst):List PO:=.row 1 [m.F] 2::.row 1 [x] 3::.row 1 [.ptr 3 0 0] 1::.row 1 [mB m s (dA fd 4 s) (oQ n' (4+nB fd) s.out)] 9::(dR fd s++oG n' s.out)
def tP(fd:Bool):List Nat:=3::(match fd with|true=>[4]|false=>[])
theorem QA(R:RunT T)(hb:evP ⟨A0,T,A2⟩ (.body 25 [.ptr 0 0 0,.int .i64 f,.nilsl] ⟨F2 zf fd zf zf m s [],nE zf fd zf,[]⟩)=zs (.val [.int .i64 v] ⟨F2 zf fd zf n' m s2 [],nE zf fd zf,t0⟩)):
 ∃t1,∀tch,evP ⟨A0,T,A2⟩ (.call 25 [.ptr 3 0 0,.int .i64 f,.nilsl] ⟨Do fd zf m Dn s,4+nB fd,tch⟩)=zs (.val [.int .i64 v] ⟨Do fd n' m Dn s2,4+nB fd,t1++tch⟩):=by
 refine⟨((t0.filter (· < (tP fd).length)).map fun j=>(tP fd).getD j 0),fun tch=>rF (ids:=tP fd) (args':=[.ptr 0 0 0,.int .i64 f,.nilsl]) (Kf:=⟨F2 zf fd zf zf m s [],nE zf fd zf,[]⟩) R.hL rfl ?_ ?_ ?_ hb ?_ ?_⟩<;>cases fd<;>cases n'<;>rfl
theorem JA(R:RunT T)(hb:evP ⟨A0,T,A2⟩ (.body 25 [.ptr 0 0 0,.int .i64 f,.nilsl] ⟨F2 zf fd zf zf m s [],nE zf fd zf,[]⟩)=zs (.pan (E2 st e) ⟨F2 zf fd zf n' m s2 [],nE zf fd zf,t0⟩)):
 ∃t1,∀tch,evP ⟨A0,T,A2⟩ (.call 25 [.ptr 3 0 0,.int .i64 f,.nilsl] ⟨Do fd zf m Dn s,4+nB fd,tch⟩)=zs (.pan (E2 st e) ⟨Do fd n' m Dn s2,4+nB fd,t1++tch⟩):=by
 refine⟨((t0.filter (· < (tP fd).length)).map fun j=>(tP fd).getD j 0),fun tch=>dG (ids:=tP fd) (args':=[.ptr 0 0 0,.int .i64 f,.nilsl]) (Kf:=⟨F2 zf fd zf zf m s [],nE zf fd zf,[]⟩) R.hL rfl ?_ ?_ ?_ hb ?_ ?_⟩<;>cases fd<;>cases n'<;>rfl
def U8(m:Modl):Int:=idxOf (fun c:Cod=>decide (c.name=F1)) m.fs
def Am(fd n':Bool)(o:List Int)(st e:Int):AV:=.agg [oQ n' (4+nB fd) o,.int .i64 st,.int .i64 e]
theorem QB(R:RunT T)(G:T 26=zs M7)(I:m.fs.length<=bigN)(hb:evP ⟨A0,T,A2⟩ (.body 25 [.ptr 0 0 0,.int .i64 (U8 m),.nilsl] ⟨F2 zf fd zf zf m s [],nE zf fd zf,[]⟩)=zs (.val [.int .i64 v] ⟨F2 zf fd zf n' m s2 [],nE zf fd zf,t0⟩)):
 ∃t1,evP ⟨A0,T,A2⟩ (.code HW [(3,.ptr 0 0 0),(6,.ptr 1 0 0),(7,.ptr 2 0 0),(37,.fn (.func 24) [] [.ptr 2 0 0,.ptr 1 0 0])] ⟨Do fd zf m Dn s,4+nB fd,[]⟩)=zs (.ok .ret [(6,.ptr 1 0 0)] ⟨Do fd n' m (Am fd n' s2.out 1 v) s2,4+nB fd,t1⟩):=by
 obtain⟨t1,hc⟩:=QA R hb;have D:=fun K=>Jq (K:=K) (m:=m) G I
 unfold U8 at hc;unfold HW Do Am;unfold Do at hc;unfold mB Modl.F Dn at hc|-;unfold Modl.F at D;cases fd<;>cases n'<;>(
  simp only[dA,dR,nB,oQ,oG,Nat.reduceAdd,zqd,zqc,zqj]at hc|-;simp only[hc,D,Aa,zql,zqm,Nat.reduceBEq,XP,seval];exact⟨_,rfl⟩)
theorem JB(R:RunT T)(G:T 26=zs M7)(I:m.fs.length<=bigN)(hb:evP ⟨A0,T,A2⟩ (.body 25 [.ptr 0 0 0,.int .i64 (U8 m),.nilsl] ⟨F2 zf fd zf zf m s [],nE zf fd zf,[]⟩)=zs (.pan (E2 st e) ⟨F2 zf fd zf n' m s2 [],nE zf fd zf,t0⟩)):
 ∃t1,evP ⟨A0,T,A2⟩ (.code HW [(3,.ptr 0 0 0),(6,.ptr 1 0 0),(7,.ptr 2 0 0),(37,.fn (.func 24) [] [.ptr 2 0 0,.ptr 1 0 0])] ⟨Do fd zf m Dn s,4+nB fd,[]⟩)=zs (.pan (E2 st e) ⟨Do fd n' m Dn s2,4+nB fd,t1⟩):=by
 obtain⟨t1,hc⟩:=JA R hb;have D:=fun K=>Jq (K:=K) (m:=m) G I
 unfold U8 at hc;unfold HW Do;unfold Do at hc;unfold mB Modl.F Dn E2 at hc|-;unfold Modl.F at D;cases fd<;>cases n'<;>(
  simp only[dA,dR,nB,oQ,oG,Nat.reduceAdd,zqd,zqc,zqj]at hc|-;simp only[hc,D,Zw,Zx,Aa,zql,zqm,Nat.reduceBEq,XP,seval];exact⟨_,rfl⟩)
theorem JC:∃D t1,evP ⟨A0,T,A2⟩ (.rcv (.fn (.func 24) [] [.ptr 2 0 0,.ptr 1 0 0]) .niliface ⟨Do fd n' m (Am fd n' s.out st e) s,(Do fd n' m (Am fd n' s.out st e) s).length,[]⟩)=zs (.ok .normal D ⟨Do fd n' m (Am fd n' s.out st e) s,(Do fd n' m (Am fd n' s.out st e) s).length,t1⟩):=by
 have G:∃D t1,evP ⟨A0,T,A2⟩ (.code wL (setPs' [4,2] [.niliface,.niliface] (enterP 0 [.ptr 2 0 0,.ptr 1 0 0])) ⟨Do fd n' m (Am fd n' s.out st e) s,(Do fd n' m (Am fd n' s.out st e) s).length,[]⟩)=zs (.ok .normal D ⟨Do fd n' m (Am fd n' s.out st e) s,(Do fd n' m (Am fd n' s.out st e) s).length,t1⟩):=by
  unfold wL Do Am;unfold mB Modl.F;cases fd<;>cases n'<;>(
   simp only[dA,dR,nB,oQ,oG,setPs',Nat.reduceAdd,zqd,zqc,zqj];simp only[GB,GC,xV,XP,seval];exact⟨_,_,rfl⟩)
 obtain⟨D,t1,h⟩:=G;exact⟨D,t1,HA (b:=zf) rfl (by decide) h⟩
theorem CL:∃D t1,evP ⟨A0,T,A2⟩ (.rcv (.fn (.func 24) [] [.ptr 2 0 0,.ptr 1 0 0]) (E2 st e) ⟨Do fd n' m Dn s,(Do fd n' m Dn s).length,[]⟩)=zs (.ok .normal D ⟨Do fd n' m (Am fd n' s.out st e) s,(Do fd n' m Dn s).length,t1⟩):=by
 have G:∃D t1,evP ⟨A0,T,A2⟩ (.code wL (setPs' [4,2] [E2 st e,E2 st e] (enterP 0 [.ptr 2 0 0,.ptr 1 0 0])) ⟨Do fd n' m Dn s,(Do fd n' m Dn s).length,[]⟩)=zs (.ok .normal D ⟨Do fd n' m (Am fd n' s.out st e) s,(Do fd n' m Dn s).length,t1⟩):=by
  unfold wL Do Am E2 Dn;unfold mB Modl.F;cases fd<;>cases n'<;>(
   simp only[dA,dR,nB,oQ,oG,setPs',Nat.reduceAdd,zqd,zqc,zqj];simp only[GB,GC,xV,OS,A1h,Zw,Zx,XP,seval];exact⟨_,_,rfl⟩)
 obtain⟨D,t1,h⟩:=G;exact⟨D,t1,HA (b:=zf) rfl (by decide) h⟩
end
section
variable {m:Modl}{input:List Int}{steps:Int}
def Q0(m:Modl)(input:List Int)(steps:Int):Rs:=M9 m 33 (U8 m) [] (sI steps input m.gs)
def Rs.sc:Rs->Int×Int | .ret v _=>(1,v) | .stop st c _=>(st,c)
def Bm(m:Modl)(input:List Int)(steps:Int):List Int:=(Q0 m input steps).st.out
structure RunOk(m:Modl)(steps:Int):Prop where
 mr:ModR' m
 gz:∀g∈m.gs,g.size<=100000
 gl:m.gs.length<=100000
 fl:m.fs.length<=bigN
 mn:0<=U8 m/\U8 m<m.fs.length
 st:steps<=20000
theorem CM(l:List Glo):u4 ⟨l,m.fs⟩ (Eg l):=by
 refine⟨by simp[Eg],fun i r g D hg=>?_⟩;grind [Eg, Mg]
theorem QC(h:RunOk m steps):Sok m (sI steps input m.gs):=⟨CM (m:=m) m.gs,h.st,by have:=h.st;show 0+steps.toNat<=30000;omega,by show(0:Int)<=0/\(0:Int)<=33;decide⟩
def gsB(m:Modl):Bool:=!m.gs.isEmpty
theorem JD(s:Mst)(h:gsB m=zf->s.data=[])(D:gsB m=zt->s.data≠[])(ho:s.out=[]):mP m s=⟨Do (gsB m) zf m Dn s,0,[]⟩:=by
 unfold mP Do Dn;cases hb:gsB m with
 |false=>rw[h hb];rfl
 |true=>rw[yH (D hb),yI (D hb)];rfl
def dK(o:List Int)(st e:Int):AV:=.agg [ownd 0 1 (ints o),.int .i64 st,.int .i64 e]
theorem iK{fd n':Bool}{s:Mst}{st e:Int}(hz:n'=zf->s.out=[]):backOk [Am fd n' s.out st e] [dK s.out st e] (Do fd n' m (Am fd n' s.out st e) s):=by
 have hl:(ints s.out).length=s.out.length:=by simp[ints]
 cases n' with
 |true=>
  unfold Am Do dK oQ;cases fd<;>(
   refine back_of (vs':=[.agg [.msl _ 0 s.out.length 1,.int .i64 st,.int .i64 e]]) rfl (by simp[G9,J3]) (us:=[.agg [.msl 0 0 (ints s.out).length 1,.int .i64 st,.int .i64 e]]) (ps:=[.row 0 (ints s.out) 1]) rfl ?_ ?_
   . rw[hl];rfl
   . rfl)
 |false=>
  rw[hz rfl];unfold Am Do dK oQ;cases fd<;>exact back_of (vs':=[.agg [.msl _ 0 0 1,.int .i64 st,.int .i64 e]]) rfl (by simp[G9,J3]) rfl rfl rfl
theorem pT(h:gsB m=zf):(sI steps input m.gs).data=[]:=by
 have:m.gs=[]:=by grind [gsB]
 show Eg m.gs=[];rw[this];rfl
theorem QD(h:gsB m=zt):(sI steps input m.gs).data≠[]:=by
 show Eg m.gs≠[]
 simp_all [gsB, Eg]
theorem tQ(R:RunT T)(V:T 26=zs M7)(h:RunOk m steps):AM.Comes ⟨A0,T,A2⟩ 9 [m.F,fslN (ints input),.int .i64 steps] [dK (Bm m input steps) (Q0 m input steps).sc.1 (Q0 m input steps).sc.2]:=by
 have hs:=QC (input:=input) h;obtain⟨n',t0,I,G⟩:=(iJ R h.mr 33 0 (by decide) (by decide)).2 zf (gsB m) zf (U8 m) [] (sI steps input m.gs) ⟨h.mn,hs,rfl⟩ (fun _=>rfl) (fun e=>pT e) (fun _=>rfl)
 replace G:evP ⟨A0,T,A2⟩ (.body 25 [.ptr 0 0 0,.int .i64 (U8 m),.nilsl] ⟨F2 zf (gsB m) zf zf m (sI steps input m.gs) [],nE zf (gsB m) zf,[]⟩)=zs (CH (Q0 m input steps) fun Y=>⟨F2 zf (gsB m) zf n' m Y [],nE zf (gsB m) zf,t0⟩):=G
 replace I:zf=zf->n'=zf->(Q0 m input steps).st.out=[]:=I
 have ha:=PZ (T:=T) (steps:=steps) (input:=input) h.gz h.gl;rw[JD _ (fun e=>pT e) (fun e=>QD e) rfl]at ha;have D:(Do (gsB m) zf m Dn (sI steps input m.gs)).length=4+nB (gsB m):=by grind [Do, dR, oG, nB, gsB]
 unfold Bm;cases X:Q0 m input steps with
 |ret v s2=>
  rw[X]at I G;obtain⟨t1,hc⟩:=QB R V h.fl G;rw[<-D]at hc;obtain⟨Q,U,J⟩:=JC (T:=T) (m:=m) (fd:=gsB m) (n':=n') (s:=s2) (st:=1) (e:=v);refine⟨[Am (gsB m) n' s2.out 1 v],⟨Do (gsB m) n' m (Am (gsB m) n' s2.out 1 v) s2,0,U++(t1++[])⟩,?_,iK fun e=>I rfl e⟩;rw[rB (a:=MJ) (g:=.tmp 37) (c:=HW) (nt:=49) (rs:=[.cell 6 48]) rfl (by simp),show K0=(⟨[],0,[]⟩:PK)from rfl,SF (g:=.tmp 37) ha hc J];clear hc J ha D G;generalize gsB m=fd;cases fd<;>cases n'<;>rfl
 |stop st e s2=>
  rw[X]at I G;obtain⟨t1,hc⟩:=JB R V h.fl G;rw[<-D]at hc;obtain⟨Q,U,J⟩:=CL (T:=T) (m:=m) (fd:=gsB m) (n':=n') (s:=s2) (st:=st) (e:=e);refine⟨[Am (gsB m) n' s2.out st e],⟨Do (gsB m) n' m (Am (gsB m) n' s2.out st e) s2,0,U++(t1++[])⟩,?_,iK fun e=>I rfl e⟩;rw[rB (a:=MJ) (g:=.tmp 37) (c:=HW) (nt:=49) (rs:=[.cell 6 48]) rfl (by simp),show K0=(⟨[],0,[]⟩:PK)from rfl,KS (g:=.tmp 37) ha hc J];clear hc J ha D G;generalize gsB m=fd;cases fd<;>cases n'<;>rfl
end
theorem Vj{l:List Int}(h:F5 l=0):∀e∈l,e=0:=by
 induction l with
 |nil=>grind
 |cons a l G=>
  unfold F5 at h;grind
theorem Ce{m:Modl}(h:I7 m=0):(∀c∈m.fs,M8 m c=0)/\Uw m=0:=by
 unfold I7 at h;by_cases q:F5 (m.gs.map Uv)=0
 . rw [if_pos q]at h
   by_cases D:F5 (m.fs.map (M8 m))=0
   . rw[if_pos D]at h
     grind [Vj, zkb]
   grind
 grind
theorem Gu{m:Modl}{c:Cod}(h:M8 m c=0):(1<=c.blocks.length/\c.regs.length<=4096/\c.ps<=c.regs.length)/\∀b∈c.blocks,Jt m c b=0:=by
 grind [M8, Vj, zkb]
theorem dL{m:Modl}{c:Cod}{b:Blk}(h:Jt m c b=0):(∀x∈b.code,F9 m c x=0)/\Ee c b.e=0:=by
 grind [Jt, Vj, zkb]
theorem JE{m:Modl}{n:Int}{b:Bool}(h:P0 m n b=zt):0<=n/\n<m.gs.length:=by
 simp_all [P0, thereD_iff]
theorem CN{x:Ins}(h:Bx x=zt):1<=x.op/\x.op<=11:=by
 grind [Bx]
theorem JF{c:Cod}{x:Ins}(h:m0 x=zf)(D:Xz c x=zt)(ho:x.op=1\/x.op=2\/x.op=3\/x.op=4\/x.op=5\/x.op=7\/x.op=10):0<=x.dst/\x.dst<c.regs.length:=by
 have G:writesD x=x.dst:=by unfold writesD;rcases ho with e|e|e|e|e|e|e<;>simp[e]
 have I:¬x.op=9:=by omega
 have hd:¬x.dst<0:=by
  intro hn;unfold m0 at h;rw[decide_eq_true hn,Bool.and_true]at h
  have:(Nx.any fun n=>decide (x.op=n))=zt:=by
   rw[List.any_eq_true];refine⟨x.op,?_,by simp⟩;rcases ho with e|e|e|e|e|e|e<;>rw[e]<;>decide
  rw[this]at h;cases h
 unfold Xz at D;rw[G,decide_eq_false I,decide_eq_false (show ¬x.dst=-1 by omega)]at D;simp only[Bool.not_false,Bool.true_or,Bool.true_and,Bool.not_not]at D;exact thereD_iff.1 D
theorem JG{m:Modl}{c:Cod}{x:Ins}(Y:∀c∈m.fs,c.ps<=c.regs.length/\c.regs.length<=4096)(h:F9 m c x=0):InsR m c.regs.length x:=by
 unfold F9 at h;split at h
 . rename_i hf
   split at h
   . rename_i J
     have U:=CN hf;unfold D3 at J;obtain⟨h1,G⟩:=zji.1 J;obtain⟨G,Q⟩:=zji.1 G;obtain⟨Q,I⟩:=zji.1 Q;have Q:m0 x=zf:=by simpa using Q
     have D:∀r∈readsD x,0<=r/\r<(c.regs.length:Int):=fun r hr=>thereD_iff.1 (zkf.1 h1 r hr)
     refine⟨U,JF Q G,fun ho=>D _ ?_,fun ho=>D _ ?_,fun ho=>?_,fun ho=>?_⟩
     . unfold readsD;rcases ho with e|e|e|e|e|e|e<;>simp[e]
     . unfold readsD;rcases ho with e|e<;>simp[e]
     . unfold gZ at I
       rcases ho with e|e|e|e<;>(simp only[e,Int.reduceEq,↓reduceIte]at I;exact JE I)
     . unfold gZ at I
       simp only[ho,Int.reduceEq,↓reduceIte]at I;obtain⟨V,h6⟩:=zji.1 I;have V:=thereD_iff.1 V;rw[if_pos ho]at h;split at h
       . rename_i hl
         have hm:codI m.fs x.n∈m.fs:=by
          unfold codI;rw[zqb,zqh (show x.n.toNat<m.fs.length by omega)];exact zqe _
         have:=Y _ hm
         refine⟨V,fun y hy=>D _ ?_,by omega,?_⟩
         . unfold readsD;simp only[ho,Int.reduceEq,↓reduceIte];exact hy
         . by_cases hd:0<=x.dst
           . have X:writesD x=x.dst:=by unfold writesD;simp only[ho,Int.reduceEq,↓reduceIte];rw[if_pos (by omega)]
             unfold Xz at G;rw[X,decide_eq_true ho,decide_eq_true hd,decide_eq_false (show ¬x.dst=-1 by omega)]at G;simp only[Bool.not_true,Bool.not_false,Bool.or_true,Bool.true_and,Bool.not_not]at G;exact(thereD_iff.1 G).2
           . omega
       . cases h
   . cases h
 . cases h
theorem JH{c:Cod}{e:Endd}(h:Ee c e=0):EndR c.blocks.length c.regs.length e:=by
 unfold Ee at h;by_cases D:e.kind=1
 . rw [if_pos D]at h
   split at h
   . rename_i q
     exact⟨by omega,fun k=>by omega,fun k=>by omega,fun _=>thereD_iff.1 q,fun k=>by omega⟩
   . cases h
 . rw [if_neg D]at h
   by_cases G:e.kind=2
   . rw [if_pos G]at h
     split at h
     . rename_i I
       split at h
       . rename_i J
         split at h
         . rename_i Q
           exact⟨by omega,fun k=>by omega,fun _=>thereD_iff.1 Q,fun _=>thereD_iff.1 I,fun _=>thereD_iff.1 J⟩
         . cases h
       . cases h
     . cases h
   . rw [if_neg G]at h
     split at h
     . rename_i k3
       refine⟨by omega,fun _=>?_,fun k=>by omega,fun k=>by omega,fun k=>by omega⟩;grind [thereD_iff]
     . cases h
theorem yJ{m:Modl}(I:m.ok)(h:I7 m=0):ModR' m:=by
 obtain⟨G,h2⟩:=Ce h;have Q:∀c∈m.fs,c.ps<=c.regs.length/\c.regs.length<=4096:=fun c hc=>by have:=(Gu (G c hc)).1;omega
 refine⟨fun c hc=>?_⟩;obtain⟨U,V⟩:=Gu (G c hc);refine⟨U.1,fun b hb=>?_,by omega⟩;obtain⟨X,Y⟩:=dL (V b hb);have D:=((I.1 c hc).1.2.1 b hb).2;exact⟨by grind,fun x J=>JG Q (X x J),JH Y⟩
theorem JI{α:Type}{p:α->Bool}{l:List α}:idxOf p l<l.length:=by
 grind [idxOf, List.findIdx?_eq_some_iff_getElem]
theorem yK{m:Modl}{steps:Int}(J:m.ok)(hb:t8 m=zf)(h:I7 m=0)(Q:steps<=20000):RunOk m steps:=by
 obtain⟨h1,I⟩:=Ce h;unfold t8 at hb;split at hb
 . cases hb
 . rename_i hg
   split at hb
   . cases hb
   . rename_i hf
     split at hb
     . rename_i ha
       refine⟨yJ J h,fun g D=>?_,by omega,by grind,?_,Q⟩
       . grind
       . have G:z6 m=U8 m:=rfl
         rw[<-G];unfold Uw at I;split at I
         . cases I
         . rename_i hn
           exact⟨by omega,JI⟩
     . cases hb
theorem dM(Y:T 52=zs Y8)(V:T 53=zs G1)(ab:T 38=zn)(D:T 54=zn)(aa:T 60=zs D6)(I:T 55=zn)(J:T 39=zn)(Q:T 41=zn)(G:T 40=zn)(U:T 25=zn)(X:T 26=zs M7){m:Modl}{input:List Int}{steps:Int}(hk:RunOk m steps):AM.Comes ⟨A0,T,A2⟩ 9 [m.F,fslN (ints input),.int .i64 steps] [.agg [ownd 0 1 (ints (Bm m input steps)),.int .i64 (Q0 m input steps).sc.1,.int .i64 (Q0 m input steps).sc.2]]:=by
 exact tQ ⟨Y,V,ab,D,aa,I,J,Q,G,U⟩ X hk
def n7:=r9 (fun p:(Modl)×(List Int)×(Int)=>[p.1.F,fslN (ints p.2.1),.int .i64 p.2.2]) (fun p=>[.agg [ownd 0 1 (ints (Bm p.1 p.2.1 p.2.2)),.int .i64 (Q0 p.1 p.2.1 p.2.2).sc.1,.int .i64 (Q0 p.1 p.2.1 p.2.2).sc.2]]) (fun p=>RunOk p.1 p.2.2)
theorem CO(D:T 9=zs n7){m:Modl}{input:List Int}{steps:Int}{K:PK}(G:RunOk m steps):evP ⟨A0,T,A2⟩ (.call 9 [m.F,fslN (ints input),.int .i64 steps] K)=zs (.val (openTs K.os.length [.agg [ownd 0 1 (ints (Bm m input steps)),.int .i64 (Q0 m input steps).sc.1,.int .i64 (Q0 m input steps).sc.2]]).1 ⟨K.os++(openTs K.os.length [.agg [ownd 0 1 (ints (Bm m input steps)),.int .i64 (Q0 m input steps).sc.1,.int .i64 (Q0 m input steps).sc.2]]).2,K.ext,K.tch⟩):=B8 D (by simp only[VV,XP,seval]) (C1 (a:=fun p:(Modl)×(List Int)×(Int)=>[p.1.F,fslN (ints p.2.1),.int .i64 p.2.2]) (r:=fun p=>[.agg [ownd 0 1 (ints (Bm p.1 p.2.1 p.2.2)),.int .i64 (Q0 p.1 p.2.1 p.2.2).sc.1,.int .i64 (Q0 p.1 p.2.1 p.2.2).sc.2]]) (fun x y e=>by simp_all [VJ]) (m,input,steps) G) (by simp only[VN,XP,seval])
theorem tR(Y:T 52=zs Y8)(V:T 53=zs G1)(ab:T 38=zn)(D:T 54=zn)(aa:T 60=zs D6)(I:T 55=zn)(J:T 39=zn)(Q:T 41=zn)(G:T 40=zn)(U:T 25=zn)(X:T 26=zs M7)(hP:PEok ⟨A0,T,A2⟩):TC A0 9 n7:=C7 hP fun p h=>dM Y V ab D aa I J Q G U X h
theorem Ya(D:T 12=zs L3){G:List Int}{I:List Int}{a:Int}{b:Int}{c:Int}{d:Int}(U:G.length*8<=bigN):AM.Comes ⟨A0,T,A2⟩ 11 [.agg [fslN (ints G),.int .i64 a,.int .i64 b],.agg [fslN (ints I),.int .i64 c,.int .i64 d]] [.bool (decide (a=c/\b=d/\G=I))]:=by
 refine⟨[.bool (decide (a=c/\b=d/\G=I))],⟨[],0,[]⟩,?_,back_of rfl zkn rfl rfl rfl⟩;rw[A4 (c:=LG) (nt:=24) (rs:=[.tmp 4]) rfl (by simp)];unfold LG;unfold K0;have ts:=fun K=>sY (K:=K) D (m:=I) U
 by_cases J:a=c
 . by_cases Q:b=d
   . have e:decide (a=c/\b=d/\G=I)=decide (G=I):=by simp[J,Q]
     simp_all [XP]
   simp_all [XP]
 simp_all [XP]
def g0:=r9 (fun p:(List Int)×(List Int)×(Int)×(Int)×(Int)×(Int)=>[.agg [fslN (ints p.1),.int .i64 p.2.2.1,.int .i64 p.2.2.2.1],.agg [fslN (ints p.2.1),.int .i64 p.2.2.2.2.1,.int .i64 p.2.2.2.2.2]]) (fun p=>[.bool (decide (p.2.2.1=p.2.2.2.2.1/\p.2.2.2.1=p.2.2.2.2.2/\p.1=p.2.1))]) (fun p=>p.1.length*8<=bigN)
theorem mQ(D:T 12=zs L3)(G:PEok ⟨A0,T,A2⟩):TC A0 11 g0:=C7 G fun p h=>Ya D h
def Q5(v n:Int):Int:=if n<1 then 0 else if v.tmod n<0 then v.tmod n+n else v.tmod n
theorem mR  {v:Int} {n:Int} (hk:n<=1000000):AM.Comes ⟨A0,T,A2⟩ 6 [.int .i64 v,.int .i64 n] [.int .i64 (Q5 v n)]:=by
 refine⟨[.int .i64 (Q5 v n)],⟨[],0,[]⟩,?_,back_of rfl zkn rfl rfl rfl⟩;rw[A4 (c:=p6) (nt:=16) (rs:=[.tmp 4]) rfl (by simp)];unfold p6;unfold K0;unfold Q5;by_cases D:n<1
 . simp_all [XP]
 . have h0:¬n=0:=by omega
   have G:=fun t K=>xQ (K:=K) (E:=A0) t .i64 v h0
   by_cases I:v.tmod n<0
   . have J:=Bc (n:=v.tmod n+n) (by have:=zjl v (show 0<n by omega);omega) (by omega)
     simp only[D,eq_true I,G,J,XP,seval]
   . simp only[D,I,G,XP,seval]
def Py:=r9 (fun p:(Int)×(Int)=>[.int .i64 p.1,.int .i64 p.2]) (fun p=>[.int .i64 (Q5 p.1 p.2)]) (fun p=>p.2<=1000000)
theorem Pz(D:T 6=zs Py){v:Int}{n:Int}{K:PK}(G:n<=1000000):evP ⟨A0,T,A2⟩ (.call 6 [.int .i64 v,.int .i64 n] K)=zs (.val (openTs K.os.length [.int .i64 (Q5 v n)]).1 ⟨K.os++(openTs K.os.length [.int .i64 (Q5 v n)]).2,K.ext,K.tch⟩):=B8 D (by simp_all [XP]) (C1 (a:=fun p:(Int)×(Int)=>[.int .i64 p.1,.int .i64 p.2]) (r:=fun p=>[.int .i64 (Q5 p.1 p.2)]) (by grind) (v,n) G) (by simp_all [XP])
theorem CP  (D:PEok ⟨A0,T,A2⟩):TC A0 6 Py:=C7 D fun p h=>mR  h
section
variable {m M:Modl}{os:List PO}{K:PK}{inp o:List Int}{st s1 x y:Int}
theorem JJ{p q:Nat}(hE:T 11=zs g0)(D:o.length*8<=bigN)(r1:rowOf K.os 6 p=zs (0,ints o,1))(r2:rowOf K.os 6 q=zs (0,ints o,1)):
 evP ⟨A0,T,A2⟩ (.call 11 [.agg [.msl p 0 o.length 1,.int .i64 x,.int .i64 y],.agg [.msl q 0 o.length 1,.int .i64 x,.int .i64 y]] K)=zs (.val [.bool zt] ⟨K.os++[],K.ext,K.tch⟩):=by
 have v:∀i,rowOf K.os 6 i=zs (0,ints o,1)->viewA K.os (.agg [.msl i 0 o.length 1,.int .i64 x,.int .i64 y])=zs (.agg [fslN (ints o),.int .i64 x,.int .i64 y]):=fun i r2=>by
  have w:viewV K.os (.msl i 0 o.length 1)=zs (fslN (ints o)):=by
   rw[wv_msl,r2];show(if 0=0/\1=1/\0+o.length<=(ints o).length then(match frzL (((ints o).drop 0).take o.length)with|some es=>zs (fslN es)|none=>zn)else zn)=_
   rw[if_pos ⟨rfl,rfl,by simp[ints]⟩,zqq,zqo (by simp[ints]),frzL_ints]
  show(match consO (viewV K.os (.msl i 0 o.length 1)) _ with|some cs=>zs (AV.agg cs)|none=>zn)=_
  rw[w];rfl
 have G:viewAs K.os [.agg [.msl p 0 o.length 1,.int .i64 x,.int .i64 y],.agg [.msl q 0 o.length 1,.int .i64 x,.int .i64 y]]=zs [.agg [fslN (ints o),.int .i64 x,.int .i64 y],.agg [fslN (ints o),.int .i64 x,.int .i64 y]]:=by
  rw[va_cons,va_cons,va_nil,v p r1,v q r2];rfl
 have hg:g0 [.agg [fslN (ints o),.int .i64 x,.int .i64 y],.agg [fslN (ints o),.int .i64 x,.int .i64 y]]=zs [.bool (decide (x=x/\y=y/\o=o))]:=C1 (a:=fun p:List Int×List Int×Int×Int×Int×Int=>[.agg [fslN (ints p.1),.int .i64 p.2.2.1,.int .i64 p.2.2.2.1],.agg [fslN (ints p.2.1),.int .i64 p.2.2.2.2.1,.int .i64 p.2.2.2.2.2]]) (r:=fun p=>[.bool (decide (p.2.2.1=p.2.2.2.2.1/\p.2.2.2.1=p.2.2.2.2.2/\p.1=p.2.1))]) (fun x y e=>by simp_all [fslN_iff, ints_iff]) (o,o,x,y,x,y) D;rw[B8 hE G hg rfl,decide_eq_true ⟨rfl,rfl,rfl⟩];rfl
theorem UX(h:R1 m=zf):t8 m=zf/\I7 m=0/\m.fs.length<=12:=by
 grind [R1]
end
section
variable {m:Modl}{d:Int}{C:Int->List Int->Mst->Rs}
def Bo(d:Int)(s:Mst):Mst:={s with steps:=s.steps+d}
structure Pl(s r:Mst):Prop where
 pre:s.out <+: r.out
 me:r.out.length+r.steps.toNat<=s.out.length+s.steps.toNat
theorem Pl.refl(s:Mst):Pl s s:=⟨zqp,zjb _⟩
theorem Pl.trans{a b c:Mst}(h:Pl a b)(k:Pl b c):Pl a c:=⟨h.pre.trans k.pre,zjd k.me h.me⟩
theorem Pl.stp{s:Mst}(h:1<=s.steps):Pl s (stp s)/\(AmEnv.stp s).out.length+(AmEnv.stp s).steps.toNat+1<=s.out.length+s.steps.toNat:=by
 refine⟨⟨zqp,?_⟩,?_⟩<;>(grind [AmEnv.stp])
def yL(st c:Int):Prop:=(st=3/\c=0)\/(st=2/\1<=c/\c<=4)
def Rs.so:Rs->Prop | .ret _ _=>True | .stop st c _=>yL st c
def I2.so:I2->Prop | .go _ _=>True | .stop st c _=>yL st c
theorem yM(t:Int)(op:List UInt8)(a b:Int):(r6 t op a b).2=0\/(1<=(r6 t op a b).2/\(r6 t op a b).2<=4):=by
 grind [r6, K8, f9]
theorem pU{x:Ins}{r:List Int}{s:Mst}:s.out <+: (doesI m x r s).2.1.out/\(doesI m x r s).2.1.out.length<=s.out.length+1/\(doesI m x r s).2.1.steps=s.steps/\((doesI m x r s).1=0\/(1<=(doesI m x r s).1/\(doesI m x r s).1<=4)):=by
 have hb:=yM x.ty x.s (at' r x.a) (at' r x.b);unfold doesI
 repeat' split
 all_goals grind
theorem yN(x:Ins)(r:List Int)(s:Mst):doesI m x r (Bo d s)=((doesI m x r s).1,Bo d (doesI m x r s).2.1,(doesI m x r s).2.2):=by
 unfold doesI Bo dAt;dsimp only;by_cases J:x.op=1
 . grind
 grind
theorem pV(s:Mst):stp (Bo d s)=Bo d (stp s):=by
 grind [stp, Bo]
theorem Jv(hC:∀f a s,Pl s (C f a s).st/\(C f a s).so):∀(l:List Ins)(r:List Int)(s:Mst),Pl s (insF m C l r s).st/\(insF m C l r s).so
 |[],r,s=>⟨Pl.refl s,trivial⟩
 |x :: l,r,s=>by
  rw[insF];by_cases U:s.steps<1
  . rw[if_pos U];exact⟨Pl.refl s,.inl ⟨rfl,rfl⟩⟩
  . rw [if_neg U]
    obtain⟨p1,p2⟩:=Pl.stp (s:=s) (by omega);by_cases V:x.op=9
    . rw [if_pos V]
      obtain⟨G,Q⟩:=hC x.n (argsI x r) (stp s);cases X:C x.n (argsI x r) (stp s)with
      |stop z e s2=>rw[X]at G Q;exact⟨p1.trans G,Q⟩
      |ret v s2=>
       rw[X]at G;obtain⟨t1,I⟩:=Jv hC l (if 0<=x.dst then put' r x.dst v else r) s2;exact⟨(p1.trans G).trans t1,I⟩
    . rw [if_neg V]
      obtain⟨Y,k2,k3,D⟩:=pU (m:=m) (x:=x) (r:=r) (s:=stp s);by_cases J:(doesI m x r (stp s)).1=0
      . rw[if_pos J]
        obtain⟨t1,I⟩:=Jv hC l (doesI m x r (stp s)).2.2 (doesI m x r (stp s)).2.1;exact⟨Pl.trans ⟨p1.pre.trans Y,by rw[k3];omega⟩ t1,I⟩
      . rw[if_neg J]
        refine⟨p1,.inr ⟨rfl,?_⟩⟩;grind
theorem Mj{c:Cod}(hC:∀f a s,Pl s (C f a s).st/\(C f a s).so):∀(n:Nat)(i:Int)(r:List Int)(s:Mst),Pl s (N6 m C c n i r s).st/\(N6 m C c n i r s).so
 |0,i,r,s=>⟨Pl.refl s,.inl ⟨rfl,rfl⟩⟩
 |n + 1,i,r,s=>by
  rw[N6];obtain⟨D,G⟩:=Jv (m:=m) hC (blkAt c i).code r s;cases I:insF m C (blkAt c i).code r s with
  |stop z e s2=>rw[I]at D G;exact⟨D,G⟩
  |go r2 s2=>
   rw[I]at D;dsimp only;by_cases J:s2.steps<1
   . rw[if_pos J];exact⟨D,.inl ⟨rfl,rfl⟩⟩
   . rw [if_neg J]
     obtain⟨p1,p2⟩:=Pl.stp (s:=s2) (by omega);by_cases Q:(blkAt c i).e.kind=3
     . rw[if_pos Q];exact⟨D.trans ⟨p1.pre,p1.me⟩,trivial⟩
     . rw[if_neg Q]
       obtain⟨t1,U⟩:=Mj hC n (if(blkAt c i).e.kind=2/\at' r2 (blkAt c i).e.a=0 then(blkAt c i).e.els else(blkAt c i).e.to) r2 (stp s2);exact⟨(Pl.trans D p1).trans t1,U⟩
theorem Rp:∀(k:Nat)(f:Int)(a:List Int)(s:Mst),Pl s (M9 m k f a s).st/\(M9 m k f a s).so
 |0,f,a,s=>⟨Pl.refl s,.inr ⟨rfl,by decide⟩⟩
 |k + 1,f,a,s=>by
  rw[M9];by_cases h:32<=s.calls
  . rw[if_pos h];exact⟨Pl.refl s,.inr ⟨rfl,by decide⟩⟩
  . rw[if_neg h]
    obtain⟨D,G⟩:=Mj (m:=m) (c:=Q4 m f) (Rp k) (s.steps.toNat+1) 0 (initR (Q4 m f).regs.length a) {s with calls:=s.calls+1};exact⟨⟨D.pre,D.me⟩,G⟩
end
theorem Gv{i:Nat}(h:i<9223372036854775807):IntKind.i64.wrap ((i:Int)-1)=(i:Int)-1:=by
 rw[IntKind.wrap_i64];omega
section
variable {T:Nat->Option (List AV->Option (List AV))}{c:RC}{b:Nat}{K:PK}
theorem QE{l:List Blk}{k m:Nat}{fr D:PF}{K1:PK}{f:Bool}(I:lookP fr 1=.ptr b 0 0)(J:lookP fr 3=.int .i64 (k:Int))(Q:k<l.length)(hb:rowOf K.os 6 b=zs (1,[.fsl (l.map Blk.F) f],1))(U:l.length*56<=bigN)
 (hr:evP ⟨A0,T,A2⟩ (.round c [.int .i64 (k:Int),Blk.F l[k]] ⟨K.os,K.os.length,[]⟩)=zs (.ok .normal D K1)):
 ∃fr',evP ⟨A0,T,A2⟩ (.iter c (m+1+1+1+1+1+1+1+1+1) Ty zn fr K)=zs (.itr .normal zn fr' ⟨K1.os,K.ext,K1.tch++K.tch⟩)/\lookP fr' 1=.ptr b 0 0/\lookP fr' 3=.int .i64 ((k:Int)-1):=by
 unfold Ty;have hg:=A9 (F:=Blk.F) Q;have G:decide ((0:Int)<=(k:Int))=zt:=by simp
 have V:=Gv (i:=k) (by grind);simp only[Blk.F]at hg hr;simp only[Oy,bA,Hh,Hi,Hj,Hk,bB,Ox,Cq,Cr,Ho,Hl,Hm,Hn,Oz,bC,Pa,bF,bE,Cs,bD,I,J,hb,hg,G,V,hr,wentOn,Ok,XP,seval];exact⟨_,rfl,by simp_all [XP],by simp_all [XP]⟩
theorem QF{m:Nat}{fr:PF}(G:lookP fr 3=.int .i64 (-1)):∃fr',evP ⟨A0,T,A2⟩ (.iter c (m+1+1+1+1+1+1+1+1+1) Ty zn fr K)=zs (.itr (.exit 0) zn fr' K):=by
 unfold Ty;have D:decide ((0:Int)<=(-1:Int))=zf:=rfl;simp only[Oy,bA,Hh,Hi,Hj,Hk,bB,Ox,Cq,Cr,Ho,Hl,Hm,Hn,Oz,bC,Pa,bF,bE,Cs,bD,G,D,XP,seval];grind
theorem GH{l:List Blk}{f:Bool}{Inv:Nat->PK->Prop}(J:l.length*56<=bigN)(hb:∀i K,i<=l.length->Inv i K->rowOf K.os 6 b=zs (1,[.fsl (l.map Blk.F) f],1))
 (hr:∀i (hi:i<l.length) K,Inv (i+1) K->∃D K1,evP ⟨A0,T,A2⟩ (.round c [.int .i64 (i:Int),Blk.F l[i]] ⟨K.os,K.os.length,[]⟩)=zs (.ok .normal D K1)/\Inv i ⟨K1.os,K.ext,K1.tch++K.tch⟩):
 ∀(n m:Nat)(fr:PF)(K:PK),n<=l.length->n+30<=m->Inv n K->lookP fr 1=.ptr b 0 0->lookP fr 3=.int .i64 ((n:Int)-1)->∃fr' K',evP ⟨A0,T,A2⟩ (.iter c m (.loop Ty) zn fr K)=zs (.itr (.exit 0) zn fr' K')/\Inv 0 K'
 |0,m,fr,K,_,hm,hI,h1,h3=>by
  obtain⟨q,rfl⟩:∃q,m=q+1+1+1+1+1+1+1+1+1+1:=⟨m-10,by omega⟩
  obtain⟨fr',h⟩:=QF (c:=c) (K:=K) (T:=T) (m:=q) h3;exact⟨fr',K,by rw[eP,h];rfl,hI⟩
 |n+1,m,fr,K,hn,hm,hI,h1,h3=>by
  obtain⟨q,rfl⟩:∃q,m=q+1+1+1+1+1+1+1+1+1+1:=⟨m-10,by omega⟩
  obtain⟨D,K1,Q,U⟩:=hr n hn K hI;obtain⟨G,V,X,Y⟩:=QE (c:=c) (m:=q) h1 (by grind) hn (hb _ K (by omega) hI) J Q;obtain⟨fr',K',h9,I⟩:=GH J hb hr n (q+1+1+1+1+1+1+1+1+1) G _ (by omega) (by omega) U X Y;exact⟨fr',K',by rw[eP,V];exact h9,I⟩
theorem QG{l:List Blk}{f:Bool}{Inv:Nat->PK->Prop}{g:Operand}{ps:List Tmp}{ca cb:PC}{fr:PF}(Q:l.length*56<=bigN)(hl:l.length<=60000)(hg:opvP A0 g fr=.fn (.func 33) [] [.ptr b 0 0])(hb:∀i K,i<=l.length->Inv i K->rowOf K.os 6 b=zs (1,[.fsl (l.map Blk.F) f],1))
 (hr:∀i (hi:i<l.length) K,Inv (i+1) K->∃G K1,evP ⟨A0,T,A2⟩ (.round ⟨ps,ca,cb,fr⟩ [.int .i64 (i:Int),Blk.F l[i]] ⟨K.os,K.os.length,[]⟩)=zs (.ok .normal G K1)/\Inv i ⟨K1.os,K.ext,K1.tch++K.tch⟩)(hI:Inv l.length ⟨K.os,K.os.length,[]⟩):
 ∃K',evP ⟨A0,T,A2⟩ (.code (.rfn g ps ca cb) fr K)=zs (.ok .normal fr ⟨K'.os,K.ext,K'.tch++K.tch⟩)/\Inv 0 K':=by
 obtain⟨fr',K',I,J⟩:=GH (c:=⟨ps,ca,cb,fr⟩) Q hb hr l.length (itMax-2) [(3,.int .i64 ((l.length:Int)-1)),(6,.int .i64 ((l.length:Int)-1)),(5,.int .i64 (l.length:Int)),(4,.fsl (l.map Blk.F) f),(0,.any),(1,.ptr b 0 0)] _ (zjb _) (by grind [itMax]) hI (by simp only[XP,seval]) (by simp only[XP,seval]);refine⟨K',?_,J⟩;rw[HB (x:=c33) (nt:=19) (rs:=[]) (i:=zf) hg rfl (by simp)];have D:=hb _ _ (zjb _) hI;have U:=Gv (i:=l.length) (by grind);rw[show itMax=65534+1+1 from rfl];have I:evP ⟨A0,T,A2⟩ (.iter ⟨ps,ca,cb,fr⟩ 65534 (.loop Ty) zn [(3,.int .i64 ((l.length:Int)-1)),(6,.int .i64 ((l.length:Int)-1)),(5,.int .i64 (l.length:Int)),(4,.fsl (l.map Blk.F) f),(0,.any),(1,.ptr b 0 0)] ⟨K.os,K.os.length,[]⟩)=_:=I;have D:rowOf K.os 6 b=zs (1,[.fsl (l.map Blk.F) f],1):=D;simp_all [uS, XP, bA, Hh, Hk, bB, Ho, Hm, AX]
theorem QH{l:List Ins}{k m:Nat}{fr D:PF}{K1:PK}{f:Bool}(I:lookP fr 1=.ptr b 0 0)(J:lookP fr 3=.int .i64 (k:Int))(Q:k<l.length)(hb:rowOf K.os 6 b=zs (1,[.fsl (l.map Ins.F) f],1))(U:l.length*88<=bigN)
 (hr:evP ⟨A0,T,A2⟩ (.round c [.int .i64 (k:Int),Ins.F l[k]] ⟨K.os,K.os.length,[]⟩)=zs (.ok .normal D K1)):
 ∃fr',evP ⟨A0,T,A2⟩ (.iter c (m+1+1+1+1+1+1+1+1+1) Ua zn fr K)=zs (.itr .normal zn fr' ⟨K1.os,K.ext,K1.tch++K.tch⟩)/\lookP fr' 1=.ptr b 0 0/\lookP fr' 3=.int .i64 ((k:Int)-1):=by
 unfold Ua;have hg:=A9 (F:=Ins.F) Q;have G:decide ((0:Int)<=(k:Int))=zt:=by simp
 have V:=Gv (i:=k) (by grind);simp only[Ins.F]at hg hr;simp only[Oy,bA,Hh,Hi,Hj,Hk,bB,Ox,Cq,Cr,Ho,Hl,Hm,Hn,Oz,bC,Pa,bF,bE,Cs,bD,I,J,hb,hg,G,V,hr,wentOn,Ok,XP,seval];exact⟨_,rfl,by simp_all [XP],by simp_all [XP]⟩
theorem QI{m:Nat}{fr:PF}(G:lookP fr 3=.int .i64 (-1)):∃fr',evP ⟨A0,T,A2⟩ (.iter c (m+1+1+1+1+1+1+1+1+1) Ua zn fr K)=zs (.itr (.exit 0) zn fr' K):=by
 unfold Ua;have D:decide ((0:Int)<=(-1:Int))=zf:=rfl;simp only[Oy,bA,Hh,Hi,Hj,Hk,bB,Ox,Cq,Cr,Ho,Hl,Hm,Hn,Oz,bC,Pa,bF,bE,Cs,bD,G,D,XP,seval];grind
theorem GI{l:List Ins}{f:Bool}{Inv:Nat->PK->Prop}(J:l.length*88<=bigN)(hb:∀i K,i<=l.length->Inv i K->rowOf K.os 6 b=zs (1,[.fsl (l.map Ins.F) f],1))
 (hr:∀i (hi:i<l.length) K,Inv (i+1) K->∃D K1,evP ⟨A0,T,A2⟩ (.round c [.int .i64 (i:Int),Ins.F l[i]] ⟨K.os,K.os.length,[]⟩)=zs (.ok .normal D K1)/\Inv i ⟨K1.os,K.ext,K1.tch++K.tch⟩):
 ∀(n m:Nat)(fr:PF)(K:PK),n<=l.length->n+30<=m->Inv n K->lookP fr 1=.ptr b 0 0->lookP fr 3=.int .i64 ((n:Int)-1)->∃fr' K',evP ⟨A0,T,A2⟩ (.iter c m (.loop Ua) zn fr K)=zs (.itr (.exit 0) zn fr' K')/\Inv 0 K'
 |0,m,fr,K,_,hm,hI,h1,h3=>by
  obtain⟨q,rfl⟩:∃q,m=q+1+1+1+1+1+1+1+1+1+1:=⟨m-10,by omega⟩
  obtain⟨fr',h⟩:=QI (c:=c) (K:=K) (T:=T) (m:=q) h3;exact⟨fr',K,by rw[eP,h];rfl,hI⟩
 |n+1,m,fr,K,hn,hm,hI,h1,h3=>by
  obtain⟨q,rfl⟩:∃q,m=q+1+1+1+1+1+1+1+1+1+1:=⟨m-10,by omega⟩
  obtain⟨D,K1,Q,U⟩:=hr n hn K hI;obtain⟨G,V,X,Y⟩:=QH (c:=c) (m:=q) h1 (by grind) hn (hb _ K (by omega) hI) J Q;obtain⟨fr',K',h9,I⟩:=GI J hb hr n (q+1+1+1+1+1+1+1+1+1) G _ (by omega) (by omega) U X Y;exact⟨fr',K',by rw[eP,V];exact h9,I⟩
theorem QJ{l:List Ins}{f:Bool}{Inv:Nat->PK->Prop}{g:Operand}{ps:List Tmp}{ca cb:PC}{fr:PF}(Q:l.length*88<=bigN)(hl:l.length<=60000)(hg:opvP A0 g fr=.fn (.func 48) [] [.ptr b 0 0])(hb:∀i K,i<=l.length->Inv i K->rowOf K.os 6 b=zs (1,[.fsl (l.map Ins.F) f],1))
 (hr:∀i (hi:i<l.length) K,Inv (i+1) K->∃G K1,evP ⟨A0,T,A2⟩ (.round ⟨ps,ca,cb,fr⟩ [.int .i64 (i:Int),Ins.F l[i]] ⟨K.os,K.os.length,[]⟩)=zs (.ok .normal G K1)/\Inv i ⟨K1.os,K.ext,K1.tch++K.tch⟩)(hI:Inv l.length ⟨K.os,K.os.length,[]⟩):
 ∃K',evP ⟨A0,T,A2⟩ (.code (.rfn g ps ca cb) fr K)=zs (.ok .normal fr ⟨K'.os,K.ext,K'.tch++K.tch⟩)/\Inv 0 K':=by
 obtain⟨fr',K',I,J⟩:=GI (c:=⟨ps,ca,cb,fr⟩) Q hb hr l.length (itMax-2) [(3,.int .i64 ((l.length:Int)-1)),(6,.int .i64 ((l.length:Int)-1)),(5,.int .i64 (l.length:Int)),(4,.fsl (l.map Ins.F) f),(0,.any),(1,.ptr b 0 0)] _ (zjb _) (by grind [itMax]) hI (by simp only[XP,seval]) (by simp only[XP,seval]);refine⟨K',?_,J⟩;rw[HB (x:=c48) (nt:=19) (rs:=[]) (i:=zf) hg rfl (by simp)];have D:=hb _ _ (zjb _) hI;have U:=Gv (i:=l.length) (by grind);rw[show itMax=65534+1+1 from rfl];have I:evP ⟨A0,T,A2⟩ (.iter ⟨ps,ca,cb,fr⟩ 65534 (.loop Ua) zn [(3,.int .i64 ((l.length:Int)-1)),(6,.int .i64 ((l.length:Int)-1)),(5,.int .i64 (l.length:Int)),(4,.fsl (l.map Ins.F) f),(0,.any),(1,.ptr b 0 0)] ⟨K.os,K.os.length,[]⟩)=_:=I;have D:rowOf K.os 6 b=zs (1,[.fsl (l.map Ins.F) f],1):=D;simp_all [uS, XP, bA, Hh, Hk, bB, Ho, Hm, AX]
end
section
variable {l:List Bool}
theorem iL:AM.Comes ⟨A0,T,A2⟩ 34 [.nilsl] [ownd 0 1 (bools [])]:=by
 refine⟨[.nilsl],⟨[],0,[]⟩,?_,D9 (.inl ⟨rfl,rfl,rfl⟩)⟩;rw[A4 (c:=FD) (nt:=8) (rs:=[.tmp 2]) rfl (by simp)];unfold FD K0;simp only[pK (t:=38) rfl,XP,seval]
theorem iM:AM.Comes ⟨A0,T,A2⟩ 34 [.fsl [] zf] [ownd 0 1 (bools [])]:=by
 refine⟨[.msl 0 0 0 1],⟨[.row 0 [] 1],0,[]⟩,?_,D9 (.inr ⟨rfl,rfl⟩)⟩;rw[A4 (c:=FD) (nt:=8) (rs:=[.tmp 2]) rfl (by simp)];unfold FD K0;simp only[pL (t:=38) rfl,xE,XP,seval]
theorem iN:∀l:List Bool,F7 1 (bools l)=zt
 |[]=>rfl
 |x::l=>iN l
theorem dN{x:Bool}{l:List Bool}(Q:(x::l).length*1<=bigN):AM.Comes ⟨A0,T,A2⟩ 34 [fslN (bools (x::l))] [ownd 0 1 (bools (x::l))]:=by
 refine⟨[.msl 0 0 (bools (x::l)).length 1],⟨[.row 0 (bools (x::l)) 1],0,[]⟩,?_,D9 (.inr ⟨rfl,rfl⟩)⟩;rw[A4 (c:=FD) (nt:=8) (rs:=[.tmp 2]) rfl (by simp)];unfold FD K0;have D:∀K:PK,Q6 A0 .eql 38 (fslN (bools (x::l))) .nilsl K=.val (.bool zf) K:=fun K=>gV (t:=38) rfl
 have G:=iN (x::l);have I:(bools (x::l)).isEmpty=zf:=rfl;simp_all [XP]
def H7:=r9 (fun l:List Bool=>[fslN (bools l)]) (fun l=>[ownd 0 1 (bools l)]) (fun l=>l.length*1<=bigN)
theorem Vk{l:List Bool}(h:l.length*1<=bigN):H7 [fslN (bools l)]=zs [ownd 0 1 (bools l)]:=C1 (a:=fun l:List Bool=>[fslN (bools l)]) (by grind [Go.Proofs.AmEnv.fslN_inj]) l h
theorem mS{P:PE}(G:PEok P)(I:P=⟨A0,T,A2⟩):TC P.E 34 H7:=by
 subst I;refine AT G (fun a args rs hg J ha=>?_) (by simp_all [H7, r9]);obtain⟨l,Q,D,rfl⟩:=eQ hg;injection D with D U
 subst D U;cases l with
 |nil=>
  rcases zqf.1 ha with rfl|ha
  . exact iL
  . obtain rfl:=zkg.1 ha;exact iM
 |cons x l=>
  obtain rfl:=zkg.1 (show J∈[fslN (bools (x::l))]from ha);exact dN Q
end
section
variable {l m:List Bool}{f g:Bool}{i:Nat}
end
def uSt(m:List Bool)(i:Nat)(s:List Bool×Bool):List Bool×Bool:=if m.getD i zf=zt/\s.1.getD i zf=zf then(s.1.set i zt,zt)else s
def Dw(m:List Bool):Nat->Nat->List Bool×Bool->List Bool×Bool
 |0,_,s=>s
 |n+1,i,s=>Dw m n (i+1) (uSt m i s)
def unionD(a m:List Bool):List Bool×Bool:=Dw m m.length 0 (a,zf)
theorem Rq(m:List Bool)(i:Nat)(s:List Bool×Bool):(uSt m i s).1.length=s.1.length:=by grind [uSt]
theorem Zz(m:List Bool):∀(n i:Nat)(s:List Bool×Bool),(Dw m n i s).1.length=s.1.length
 |0,_,_=>rfl
 |n+1,i,s=>by rw[Dw,Zz,Rq]
theorem unionD_len(a m:List Bool):(unionD a m).1.length=a.length:=Zz m _ _ _
theorem X6{l:List Bool}{i:Nat}(h:i<l.length):(bools l)[i]?=zs (.bool (l.getD i zf)):=by grind
section
variable {put:List AV->List PO}{id j:Nat}{m:List Bool}{fr:PF}{ext i:Nat}{tch:List Nat}
theorem A1y(L:Lens put id 1)(Y:∀x,rowOf (put x) 6 j=zs (0,bools m,1)){a:List Bool}{g:Bool}(ha:a.length=m.length)(h0:lookP fr 0=.msl id 0 m.length 1)(Q:lookP fr 4=.bool g)(I:lookP fr 7=.msl j 0 m.length 1)(J:lookP fr 8=.int .i64 (m.length:Int))(h9:lookP fr 9=.int .i64 (i:Int))(hi:i<m.length)(hs:m.length<=bigN):
 ∃fr' U,evP ⟨A0,T,A2⟩ (.code Zk fr ⟨put (bools a),ext,tch⟩)=zs (.ok .normal fr' ⟨put (bools (uSt m i (a,g)).1),ext,U⟩)/\lookP fr' 0=.msl id 0 m.length 1/\lookP fr' 4=.bool (uSt m i (a,g)).2/\lookP fr' 7=.msl j 0 m.length 1/\lookP fr' 8=.int .i64 (m.length:Int)/\lookP fr' 9=.int .i64 ((i+1:Nat):Int):=by
 unfold Zk uSt;have D:decide ((i:Int)<(m.length:Int))=zt:=by simp[hi]
 have hw:=B7 (i:=i) (by grind);have V:=X6 hi;have X:=X6 (l:=a) (i:=i) (by omega);have G:i<a.length:=by omega
 have aa:(bools a).set i (.bool zt)=bools (a.set i zt):=by simp_all
 cases e1:m.getD i zf with
 |false=>
  rw[if_neg (fun h=>by cases h.1)];rw[e1]at V;simp only[h0,Q,I,J,h9,D,hw,V,X,Y,L.row,u_not,hi,G,XP,seval];exact⟨_,_,rfl,by simp_all [XP],by simp_all [XP],by simp_all [XP],by simp_all [XP],by simp only[XP,seval]⟩
 |true=>
  rw[e1]at V;cases e2:a.getD i zf with
  |true=>
   rw[if_neg (fun h=>by cases h.2)];rw[e2]at X;simp only[h0,Q,I,J,h9,D,hw,V,X,Y,L.row,u_not,hi,G,XP,seval];exact⟨_,_,rfl,by simp_all [XP],by simp_all [XP],by simp_all [XP],by simp_all [XP],by simp only[XP,seval]⟩
  |false=>
   rw[if_pos ⟨rfl,rfl⟩];rw[e2]at X;simp only[h0,Q,I,J,h9,D,hw,V,X,Y,L.row,L.set,L.raw,u_not,hi,G,aa,XP,seval];exact⟨_,_,rfl,by simp_all [XP],by simp only[XP,seval],by simp_all [XP],by simp_all [XP],by simp only[XP,seval]⟩
theorem A1z{K:PK}(G:lookP fr 8=.int .i64 (m.length:Int))(I:lookP fr 9=.int .i64 (m.length:Int)):∃fr',evP ⟨A0,T,A2⟩ (.code Zk fr K)=zs (.ok (.exit 0) fr' K)/\lookP fr' 4=lookP fr 4:=by
 unfold Zk;have D:decide ((m.length:Int)<(m.length:Int))=zf:=by simp
 simp only[G,I,D,XP,seval];exact⟨_,rfl,by simp only[XP,seval]⟩
theorem QK(L:Lens put id 1)(Q:∀x,rowOf (put x) 6 j=zs (0,bools m,1))(U:m.length<=bigN):∀(n i:Nat)(a:List Bool)(g:Bool)(fr:PF)(tch:List Nat),m.length=i+n->a.length=m.length->lookP fr 0=.msl id 0 m.length 1->lookP fr 4=.bool g->lookP fr 7=.msl j 0 m.length 1->lookP fr 8=.int .i64 (m.length:Int)->lookP fr 9=.int .i64 (i:Int) ->
 ∃fr' D,evP ⟨A0,T,A2⟩ (.code (.loop Zk) fr ⟨put (bools a),ext,tch⟩)=zs (.ok (.exit 0) fr' ⟨put (bools (Dw m n i (a,g)).1),ext,D⟩)/\lookP fr' 4=.bool (Dw m n i (a,g)).2
 |0,i,a,g,fr,tch,e,ha,h0,h4,h7,h8,h9=>by
  obtain rfl:i=m.length:=by omega
  obtain⟨fr',h,I⟩:=A1z (T:=T) (K:=⟨put (bools a),ext,tch⟩) h8 h9;exact⟨fr',tch,E3 h,I.trans h4⟩
 |n+1,i,a,g,fr,tch,e,ha,h0,h4,h7,h8,h9=>by
  obtain⟨J,G,h,V,X,Y,k8,k9⟩:=A1y (T:=T) (ext:=ext) (tch:=tch) L Q ha h0 h4 h7 h8 h9 (by omega) U;obtain⟨fr',D,h',I⟩:=QK L Q U n (i+1) (uSt m i (a,g)).1 (uSt m i (a,g)).2 J G (by omega) ((Rq m i (a,g)).trans ha) V X Y k8 k9;exact⟨fr',D,(loop_more h).trans h',I⟩
theorem Vl(hN:T 19=zn)(L:Lens put id 1)(G:∀x,rowOf (put x) 6 j=zs (0,bools m,1))(I:m.length<=bigN){a:List Bool}(ha:a.length=m.length):
 ∃D,evP ⟨A0,T,A2⟩ (.call 19 [.msl id 0 m.length 1,.msl j 0 m.length 1] ⟨put (bools a),ext,tch⟩)=zs (.val [.bool (unionD a m).2] ⟨put (bools (unionD a m).1),ext,D⟩):=by
 obtain⟨fr',D,J,Q⟩:=QK (T:=T) (ext:=(put (bools a)).length) L G I m.length 0 a zf [(9,.int .i64 0),(8,.int .i64 (m.length:Int)),(7,.msl j 0 m.length 1),(4,.bool zf),(0,.msl id 0 m.length 1),(1,.msl j 0 m.length 1)] [] (by omega) ha (by simp_all [XP]) (by simp_all [XP]) (by simp_all [XP]) (by simp_all [XP]) (by simp_all [XP]);refine⟨D++tch,?_⟩;rw[Bh hN rfl,A4 (c:=TE) (nt:=27) (rs:=[.tmp 4]) rfl (by simp)];unfold TE;simp only[J,Q,XP,Nat.reduceAdd,Nat.reduceSub,Nat.reduceLT,Nat.reduceLeDiff,Nat.reduceEqDiff,Nat.reduceMul,↓reduceIte];rfl
end
section
variable {c:Cod}{i n:Nat}
abbrev tab(A:List (List Bool)):List AV:=A.map fun r=>ownd 0 1 (bools r)
abbrev noneL(n:Nat):List Bool:=zqg n zf
theorem pW(l c:Operand)(fr:PF)(K:PK):prim A0 (.makeSlice 38 l c) fr K=Qb A0 Lx (opvP A0 l fr) (opvP A0 c fr) K:=rfl
theorem QL{k k':IntKind}{n:Nat}{K:PK}(h:n*1<=140737488355328):Qb A0 Lx (.int k (n:Int)) (.int k' (n:Int)) K=.val (.msl K.os.length 0 n 1) ⟨K.os++[.row 0 (bools (noneL n)) 1],K.ext,K.tch⟩:=by
 have e:bools (noneL n)=zqg n (AV.bool zf):=by simp_all
 rw[e];show(match zs ty4,zs n,zs n with|some te,zs n,zs m=>(if n<=m/\m*te.bytes<=140737488355328/\0<te.size then OpS.val (.msl K.os.length 0 n te.size) (AM.newRow 0 (zqg n te.zero) te.size K)else .bad)|_,_,_=>.bad)=_
 exact if_pos ⟨zjb _,h,by decide⟩
theorem yO(n:Nat):(bools (noneL n)).length=n:=by grind
theorem QM(hi:0<c.blocks.length)(hr:c.regs.length*8<=bigN):evP ⟨A0,T,A2⟩ (.code gO [(1,.ptr 0 0 0),(2,.ptr 1 0 0),(3,.ptr 2 0 0),(11,.int .i64 (c.blocks.length:Int)),(12,.int .i64 0)] ⟨[.row 1 [c.F] 5,.row 1 [.nilsl] 1,.row 1 [.nilsl] 1],0,[]⟩)=zs (.ok .normal [(1,.ptr 0 0 0),(2,.ptr 1 0 0),(3,.ptr 2 0 0),(11,.int .i64 (c.blocks.length:Int)),(12,.int .i64 1)] ⟨[.row 1 [c.F] 5,.row 1 [.msl 3 0 1 1] 1,.row 1 [.msl 4 0 1 1] 1,.row 0 (tab [noneL c.regs.length]) 1,.row 0 (tab [noneL c.regs.length]) 1],0,[]⟩):=by
 unfold gO;have hlt:decide ((0:Int)<(c.blocks.length:Int))=zt:=by simp;omega
 have hw:IntKind.i64.wrap (0+1)=1:=by decide
 have hm:c.regs.length*1<=140737488355328:=by grind
 unfold Cod.F;simp -implicitDefEqProofs only[hlt,hw,zqa,hm,pW,QL,Mh,Mi,yO,zka,XP,seval];rfl
theorem QN{A:List (List Bool)}(hA:A.length=i)(hi:i<c.blocks.length)(hr:c.regs.length*8<=bigN)(hb:c.blocks.length*56<=bigN):evP ⟨A0,T,A2⟩ (.code gO [(1,.ptr 0 0 0),(2,.ptr 1 0 0),(3,.ptr 2 0 0),(11,.int .i64 (c.blocks.length:Int)),(12,.int .i64 ((i:Nat):Int))] ⟨[.row 1 [c.F] 5,.row 1 [.msl 3 0 i 1] 1,.row 1 [.msl 4 0 i 1] 1,.row 0 (tab A) 1,.row 0 (tab A) 1],0,[]⟩)=zs (.ok .normal [(1,.ptr 0 0 0),(2,.ptr 1 0 0),(3,.ptr 2 0 0),(11,.int .i64 (c.blocks.length:Int)),(12,.int .i64 ((i+1:Nat):Int))] ⟨[.row 1 [c.F] 5,.row 1 [.msl 3 0 (i+1) 1] 1,.row 1 [.msl 4 0 (i+1) 1] 1,.row 0 (tab (A++[noneL c.regs.length])) 1,.row 0 (tab (A++[noneL c.regs.length])) 1],0,[]⟩):=by
 unfold gO;have hlt:decide ((i:Int)<(c.blocks.length:Int))=zt:=by simp;omega
 have hw:=B7 (i:=i) (by grind);have hm:c.regs.length*1<=140737488355328:=by grind
 have hz:(i+1)*24<=140737488355328:=by grind
 have ht:(tab A).take i=tab A:=zqo (by simp[hA]);unfold Cod.F;simp -implicitDefEqProofs only[hlt,hw,zqa,hm,pW,QL,Mh,Mi,yO,zka,hA,ht,hz,XP,seval];simp
end
theorem Rr{α:Type}{l:List α}{i:Nat}{v:α}(h:i<l.length):(l.set i v)[i]?=zs v:=zko h
theorem iO{α:Type}{l:List α}{i:Nat}{v:α}(h:l[i]?=zs v):l.set i v=l:=by
 obtain⟨hi,rfl⟩:=zqv.1 h;simp_all
theorem Yb:zqi 3=[0,1,2]:=rfl
theorem Yc:zqi 4=[0,1,2,3]:=rfl
theorem Yd:zqi 5=[0,1,2,3,4]:=rfl
theorem Ye:zqi 6=[0,1,2,3,4,5]:=rfl
theorem Yf:zqi 7=[0,1,2,3,4,5,6]:=rfl
theorem Yg:zqi 8=[0,1,2,3,4,5,6,7]:=rfl
theorem Yh:zqi 9=[0,1,2,3,4,5,6,7,8]:=rfl
theorem Ip:zqi 10=[0,1,2,3,4,5,6,7,8,9]:=rfl
theorem Iq:zqi 11=[0,1,2,3,4,5,6,7,8,9,10]:=rfl
theorem Ir:zqi 12=[0,1,2,3,4,5,6,7,8,9,10,11]:=rfl
theorem Is:zqi 13=[0,1,2,3,4,5,6,7,8,9,10,11,12]:=rfl
theorem It:zqi 14=[0,1,2,3,4,5,6,7,8,9,10,11,12,13]:=rfl
theorem Iu:zqi 15=[0,1,2,3,4,5,6,7,8,9,10,11,12,13,14]:=rfl
def tosD(e:Endd):List Int:=if e.kind=1 then [e.to]else if e.kind=2 then [e.to,e.els]else []
theorem Vm  {e:Endd}:AM.Comes ⟨A0,T,A2⟩ 18 [e.F] [ownd 0 1 (ints (tosD e))]:=by
 by_cases e1:e.kind=1
 . rw[show tosD e=[e.to] by simp[tosD,e1]]
   refine⟨[.msl 0 0 1 1],⟨[.row 0 [.int .i64 e.to] 1],0,[]⟩,?_,D9 (.inr ⟨rfl,rfl⟩)⟩;rw[A4 (c:=FB) (nt:=17) (rs:=[.tmp 2]) rfl (by simp)];unfold FB;unfold K0 Endd.F;simp only[eq_true e1,XP,seval]
 by_cases e2:e.kind=2
 . rw[show tosD e=[e.to,e.els] by simp[tosD,e2]]
   refine⟨[.msl 0 0 2 1],⟨[.row 0 [.int .i64 e.to,.int .i64 e.els] 1],0,[]⟩,?_,D9 (.inr ⟨rfl,rfl⟩)⟩;rw[A4 (c:=FB) (nt:=17) (rs:=[.tmp 2]) rfl (by simp)];unfold FB;unfold K0 Endd.F;simp only[e1,eq_true e2,XP,seval]
 . rw[show tosD e=[] by simp[tosD,e1,e2]]
   refine⟨[.nilsl],⟨[],0,[]⟩,?_,D9 (.inl ⟨rfl,rfl,rfl⟩)⟩;rw[A4 (c:=FB) (nt:=17) (rs:=[.tmp 2]) rfl (by simp)];unfold FB;unfold K0 Endd.F;simp only[e1,e2,XP,seval]
def U3:=r9 (fun p:(Endd)=>[p.F]) (fun p=>[ownd 0 1 (ints (tosD p))]) (fun p=>True)
theorem tS(D:T 18=zs U3){e:Endd}{K:PK}:evP ⟨A0,T,A2⟩ (.call 18 [e.F] K)=zs (.val (openTs K.os.length [ownd 0 1 (ints (tosD e))]).1 ⟨K.os++(openTs K.os.length [ownd 0 1 (ints (tosD e))]).2,K.ext,K.tch⟩):=B8 D (by simp only[VV,XP,seval]) (C1 (a:=fun p:(Endd)=>[p.F]) (r:=fun p=>[ownd 0 1 (ints (tosD p))]) (fun x y e=>by simp_all [VJ]) (e) trivial) (by simp only[VN,XP,seval])
theorem iP  (D:PEok ⟨A0,T,A2⟩):TC A0 18 U3:=C7 D fun p h=>Vm
section
variable {c:Cod}{b:Blk}{A B:List (List Bool)}{i j at_ t n:Nat}{g:Bool}{L:List Int}{tch:List Nat}
theorem Ab{A:List (List Bool)}{i:Nat}(h:i<A.length):(tab A)[i]?=zs (ownd 0 1 (bools (A.getD i []))):=by simp[tab,h]
theorem pX{A:List (List Bool)}{i:Nat}{x:List Bool}:(tab A).set i (ownd 0 1 (bools x))=tab (A.set i x):=by simp[tab,zqu]
theorem pY{k sz o:Nat}{es:List AV}{c:AV}:putCl (ownd k sz es) o c=c:=rfl
def Vn(c:Cod)(g:Bool)(A B:List (List Bool))(b:Blk)(L:List Int)(at_ t:Nat)(x:List AV):List PO:=[.row 1 [c.F] 5,.row 1 [.msl 4 0 c.blocks.length 1] 1,.row 1 [.msl 5 0 c.blocks.length 1] 1,.row 1 [.bool g] 1,.row 0 (tab A) 1,.row 0 ((tab B).set at_ (ownd 0 1 x)) 1,.row 1 [fslN (c.blocks.map Blk.F)] 1,.row 1 [b.F] 5,.row 0 (ints L) 1,.sub 5 at_ 0,.sub 4 t 0]
theorem CQ(hb:at_<B.length):Lens (Vn c g A B b L at_ t) 9 1:=by
 have D:at_<(tab B).length:=by simp[tab,hb]
 refine⟨fun es=>?_,fun es es'=>?_,fun es=>?_⟩
 . simp_all [Vn, XP]
 . simp_all [Vn, XP, pY]
 . rfl
theorem JK(hN:T 19=zn)(Q:j<L.length)(hL:L[j]=(t:Int))(ht:t<A.length)(hA:A.length=c.blocks.length)(hB:B.length=c.blocks.length)(G:at_<B.length)(I:(A.getD t []).length=n)(U:(B.getD at_ []).length=n)(hs:n<=bigN)(hsL:L.length<=2):
 ∃D,evP ⟨A0,T,A2⟩ (.code sS [(2,.ptr 1 0 0),(3,.ptr 2 0 0),(4,.ptr 3 0 0),(5,.int .i64 (at_:Int)),(6,.ptr 7 0 0),(37,.msl 8 0 L.length 1),(38,.int .i64 (L.length:Int)),(39,.int .i64 (j:Int))] ⟨[.row 1 [c.F] 5,.row 1 [.msl 4 0 c.blocks.length 1] 1,.row 1 [.msl 5 0 c.blocks.length 1] 1,.row 1 [.bool g] 1,.row 0 (tab A) 1,.row 0 (tab B) 1,.row 1 [fslN (c.blocks.map Blk.F)] 1,.row 1 [b.F] 5,.row 0 (ints L) 1],7,tch⟩)=zs (.ok .normal [(2,.ptr 1 0 0),(3,.ptr 2 0 0),(4,.ptr 3 0 0),(5,.int .i64 (at_:Int)),(6,.ptr 7 0 0),(37,.msl 8 0 L.length 1),(38,.int .i64 (L.length:Int)),(39,.int .i64 ((j+1:Nat):Int))] ⟨[.row 1 [c.F] 5,.row 1 [.msl 4 0 c.blocks.length 1] 1,.row 1 [.msl 5 0 c.blocks.length 1] 1,.row 1 [.bool g] 1,.row 0 (tab A) 1,.row 0 (tab (B.set at_ (unionD (B.getD at_ []) (A.getD t [])).1)) 1,.row 1 [fslN (c.blocks.map Blk.F)] 1,.row 1 [b.F] 5,.row 0 (ints L) 1],7,D⟩):=by
 unfold sS;have V:decide ((j:Int)<(L.length:Int))=zt:=by simp[Q]
 have hw:=B7 (i:=j) (by omega);have h1:=A8 Q;rw[hL]at h1;have h2:=Ab ht;have h3:=Ab G;have e3:(tab B).set at_ (ownd 0 1 (bools (B.getD at_ [])))=tab B:=iO h3;have X:t<c.blocks.length:=by omega
 have Y:at_<c.blocks.length:=by omega
 obtain⟨D,J⟩:=Vl (T:=T) (ext:=7) (tch:=tch) (m:=A.getD t []) (a:=B.getD at_ []) (j:=10) hN (CQ (c:=c) (g:=g) (A:=A) (B:=B) (b:=b) (L:=L) (at_:=at_) (t:=t) G) (fun x=>by unfold Vn;simp only[h2,XP,seval]) (by omega) (by omega);unfold Vn at J;rw[e3,pX,I]at J;simp only[Cod.F,Blk.F]at J|-;simp only[V,hw,h1,h2,h3,Q,X,Y,I,U,J,zqa,Yb,Yc,Yd,Ye,Yf,Yg,Yh,Ip,Iq,Ir,Is,It,Iu,XP,seval];exact⟨_,rfl⟩
end
def Mk(w:List Bool)(r:Int):List Bool:=w.set r.toNat zt
def Dx(w:List Bool)(x:Ins):List Bool:=(readsD x).foldl Mk (if 0<=writesD x then w.set (writesD x).toNat zf else w)
theorem tT(rs:List Int):∀w:List Bool,(rs.foldl Mk w).length=w.length:=by
 induction rs with
 |nil=>intro w;rfl
 |cons r rs D=>grind [Mk]
theorem Oa(w:List Bool)(x:Ins):(Dx w x).length=w.length:=by
 grind [Dx, tT]
section
variable {put:List AV->List PO}{id bx rid n j r:Nat}{rs:List Int}{fr:PF}{ext:Nat}{tch:List Nat}{w:List Bool}
theorem A2A(L:Lens put id 1)(I:∀x,rootOf (put x) 6 id=id)(J:∀x,rowOf (put x) 6 bx=zs (1,[.msl id 0 n 1],1))(Q:∀x,rowOf (put x) 6 rid=zs (0,ints rs,1))(hw:w.length=n)(h7:lookP fr 7=.ptr bx 0 0)(D:lookP fr 47=.msl rid 0 rs.length 1)(G:lookP fr 48=.int .i64 (rs.length:Int))(U:lookP fr 49=.int .i64 (j:Int))(V:j<rs.length)(hr:rs[j]=(r:Int))(X:r<n)(hs:rs.length<=bigN):
 ∃fr',evP ⟨A0,T,A2⟩ (.code Lt fr ⟨put (bools w),ext,tch⟩)=zs (.ok .normal fr' ⟨put (bools (w.set r zt)),ext,id::tch⟩)/\lookP fr' 7=.ptr bx 0 0/\lookP fr' 47=.msl rid 0 rs.length 1/\lookP fr' 48=.int .i64 (rs.length:Int)/\lookP fr' 49=.int .i64 ((j+1:Nat):Int):=by
 unfold Lt;have Y:decide ((j:Int)<(rs.length:Int))=zt:=by simp[V]
 have aa:=B7 (i:=j) (by grind);have h1:=A8 V;rw[hr]at h1;have h2:=X6 (l:=w) (i:=r) (by omega);have ab:(bools w).set r (.bool zt)=bools (w.set r zt):=by simp_all
 simp only[h7,D,G,U,Y,aa,h1,h2,X,V,J,Q,I,L.row,L.set,L.raw,ab,XP,seval];exact⟨_,rfl,by simp_all [XP],by simp_all [XP],by simp_all [XP],by simp only[XP,seval]⟩
theorem A2B{K:PK}(D:lookP fr 48=.int .i64 (rs.length:Int))(G:lookP fr 49=.int .i64 (rs.length:Int)):∃fr',evP ⟨A0,T,A2⟩ (.code Lt fr K)=zs (.ok (.exit 2) fr' K):=by
 unfold Lt;have I:decide ((rs.length:Int)<(rs.length:Int))=zf:=by simp
 simp only[D,G,I,XP,seval];grind
theorem QO(L:Lens put id 1)(G:∀x,rootOf (put x) 6 id=id)(I:∀x,rowOf (put x) 6 bx=zs (1,[.msl id 0 n 1],1))(J:∀x,rowOf (put x) 6 rid=zs (0,ints rs,1))(hs:rs.length<=bigN)(Q:∀r∈rs,0<=r/\r<(n:Int)):∀(k j:Nat)(w:List Bool)(fr:PF)(tch:List Nat),rs.length=j+k->w.length=n->lookP fr 7=.ptr bx 0 0->lookP fr 47=.msl rid 0 rs.length 1->lookP fr 48=.int .i64 (rs.length:Int)->lookP fr 49=.int .i64 (j:Int) ->
 ∃fr' D,evP ⟨A0,T,A2⟩ (.code (.loop Lt) fr ⟨put (bools w),ext,tch⟩)=zs (.ok (.exit 2) fr' ⟨put (bools ((rs.drop j).foldl Mk w)),ext,D⟩)/\∀y∈D,y∈tch\/y=id
 |0,j,w,fr,tch,e,hw,h7,h47,h48,h49=>by
  obtain rfl:j=rs.length:=by omega
  obtain⟨fr',h⟩:=A2B (T:=T) (K:=⟨put (bools w),ext,tch⟩) h48 h49;grind [E3]
 |k + 1,j,w,fr,tch,e,hw,h7,h47,h48,h49=>by
  have V:j<rs.length:=by omega
  obtain⟨h0,h1⟩:=Q _ (zqe V);obtain⟨r,hr⟩:=zjj h0;obtain⟨X,h,k7,Y,aa,ab⟩:=A2A (T:=T) (ext:=ext) (tch:=tch) L G I J hw h7 h47 h48 h49 V hr (by omega) hs;obtain⟨fr',D,h',ht⟩:=QO L G I J hs Q k (j+1) (w.set r zt) X (id::tch) (by omega) (by grind) k7 Y aa ab;grind [Mk, zkq, loop_more]
theorem A2C(L:Lens put id 1)(I:∀x,rootOf (put x) 6 id=id)(J:∀x,rowOf (put x) 6 bx=zs (1,[.msl id 0 n 1],1))(Q:∀x,rowOf (put x) 6 rid=zs (0,ints rs,1))(V:rs.length<=bigN)(U:∀r∈rs,0<=r/\r<(n:Int))(X:w.length=n):
 ∃(Y:PF->List Nat->PF)(TC:PF->List Nat->List Nat),∀(fr:PF)(tch:List Nat),lookP fr 7=.ptr bx 0 0->lookP fr 47=.msl rid 0 rs.length 1->lookP fr 48=.int .i64 (rs.length:Int)->lookP fr 49=.int .i64 0 ->
 evP ⟨A0,T,A2⟩ (.code (.loop Lt) fr ⟨put (bools w),ext,tch⟩)=zs (.ok (.exit 2) (Y fr tch) ⟨put (bools (rs.foldl Mk w)),ext,TC fr tch⟩)/\∀y∈TC fr tch,y∈tch\/y=id:=by
 have D:∀x:PF×List Nat,∃y:PF×List Nat,lookP x.1 7=.ptr bx 0 0->lookP x.1 47=.msl rid 0 rs.length 1->lookP x.1 48=.int .i64 (rs.length:Int)->lookP x.1 49=.int .i64 0 ->
  evP ⟨A0,T,A2⟩ (.code (.loop Lt) x.1 ⟨put (bools w),ext,x.2⟩)=zs (.ok (.exit 2) y.1 ⟨put (bools (rs.foldl Mk w)),ext,y.2⟩)/\∀z∈y.2,z∈x.2\/z=id:=fun x=>by
  by_cases h:lookP x.1 7=.ptr bx 0 0/\lookP x.1 47=.msl rid 0 rs.length 1/\lookP x.1 48=.int .i64 (rs.length:Int)/\lookP x.1 49=.int .i64 0
  . obtain⟨fr',G,h1,h2⟩:=QO (T:=T) (ext:=ext) L I J Q V U rs.length 0 w x.1 x.2 (by omega) X h.1 h.2.1 h.2.2.1 h.2.2.2
    exact⟨(fr',G),fun _ _ _ _=>⟨h1,h2⟩⟩
  grind
 exact⟨fun fr tch=>(D (fr,tch)).choose.1,fun fr tch=>(D (fr,tch)).choose.2,fun fr tch=>(D (fr,tch)).choose_spec⟩
end
theorem A2D(hN:T 21=zn){x:Ins}{v:AV}{K:PK}:evP ⟨A0,T,A2⟩ (.call 21 [x.F,v] K)=zs (.val [] ⟨K.os++[.row 1 [x.F] 8],K.ext,K.tch⟩):=by
 rw[Bh hN rfl,A4 (c:=TG) (nt:=4) (rs:=[]) rfl (by simp)];simp_all [TG, Ins.F, XP]
theorem tU(x:Ins):(readsD x).length<=x.args.length+2:=by
 grind [readsD]
section
variable {c:Cod}{b:Blk}{A B:List (List Bool)}{at_ n k:Nat}{g:Bool}{tch:List Nat}{w:List Bool}{x:Ins}{fr:PF}
def j5(c:Cod)(g:Bool)(A B:List (List Bool))(b:Blk)(at_ n:Nat)(ps:List PO)(w:List AV):List PO:=[.row 1 [c.F] 5,.row 1 [.msl 4 0 c.blocks.length 1] 1,.row 1 [.msl 5 0 c.blocks.length 1] 1,.row 1 [.bool g] 1,.row 0 (tab A) 1,.row 0 (tab B) 1,.row 1 [fslN (c.blocks.map Blk.F)] 1,.row 1 [b.F] 5,.sub 5 at_ 0,.row 1 [b.F] 5,.row 1 [.fn (.func 21) [] []] 1,.row 0 w 1,.row 1 [.msl 11 0 n 1] 1,.row 1 [fslN (b.code.map Ins.F)] 1]++ps
theorem JL{ps:List PO}:Lens (j5 c g A B b at_ n ps) 11 1:=⟨fun es=>rfl,fun es es'=>rfl,fun es=>rfl⟩
theorem A2E(hS:T 21=zn)(hW:T 32=zs F4)(hR:T 36=zs I1)(hk:x.ok)(hw:w.length=n)(hs:n<=bigN)(hwr:writesD x<n)(Y:∀r∈readsD x,0<=r/\r<(n:Int))(h5:lookP fr 5=.ptr 10 0 0)(V:lookP fr 7=.ptr 12 0 0):
 ∃aa I,evP ⟨A0,T,A2⟩ (.round ⟨[33,34],Zm,Zl,fr⟩ [.int .i64 (k:Int),x.F] ⟨j5 c g A B b at_ n [] (bools w),14,[]⟩)=zs (.ok .normal aa ⟨j5 c g A B b at_ n [] (bools (Dx w x)),14,I⟩)/\∀y∈I,9<=y:=by
 rw[rC rfl];unfold Zm Zl;have t1:=fun K=>A2D (T:=T) (x:=x) (v:=.msl 11 0 n 1) (K:=K) hS
 have U:=fun K=>Un (K:=K) (x:=x) hW
 have X:=fun K=>Zr (K:=K) (x:=x) hR hk
 have ac:(readsD x).length<=bigN:=by
  have:=tU x
  have h2:x.args.length*8<=bigN:=hk;simp only[bigN]at h2|-;omega
 have go:∀w':List Bool,w'.length=n->∃(FR:PF->List Nat->PF)(TC:PF->List Nat->List Nat),∀(fr:PF)(tch:List Nat),lookP fr 7=.ptr 12 0 0->lookP fr 47=.msl 16 0 (readsD x).length 1->lookP fr 48=.int .i64 ((readsD x).length:Int)->lookP fr 49=.int .i64 0 ->
  evP ⟨A0,T,A2⟩ (.code (.loop Lt) fr ⟨j5 c g A B b at_ n [.row 1 [x.F] 8,.row 1 [x.F] 8,.row 0 (ints (readsD x)) 1] (bools w'),14,tch⟩)=zs (.ok (.exit 2) (FR fr tch) ⟨j5 c g A B b at_ n [.row 1 [x.F] 8,.row 1 [x.F] 8,.row 0 (ints (readsD x)) 1] (bools ((readsD x).foldl Mk w')),14,TC fr tch⟩)/\∀y∈TC fr tch,y∈tch\/y=11:=fun w' ab=>A2C JL (fun _=>rfl) (fun _=>rfl) (fun _=>rfl) ac Y ab
 by_cases h0:0<=writesD x
 . obtain⟨d,hd⟩:=zjj h0
   have ad:d<n:=by omega
   obtain⟨FR,TC,hl⟩:=go (w.set d zf) (by simpa using hw);have es:Dx w x=(readsD x).foldl Mk (w.set d zf):=by unfold Dx;rw[if_pos h0,hd];rfl
   have hg:=X6 (l:=w) (i:=d) (by omega);have ae:(bools w).set d (.bool zf)=bools (w.set d zf):=by unfold bools;rw[zqu]
   have D:=fun fr tch a b c d=>(hl fr tch a b c d).1
   have Q:=fun fr tch a b c d=>(hl fr tch a b c d).2
   rw[es];unfold j5 at D|-;have G:decide (0<=(d:Int))=zt:=by simp
   simp only[hd]at U;simp only[Cod.F,Blk.F,Ins.F,zqd,zqc]at t1 U X D|-;simp only[Ds,Hg,eO,h5,V,t1,U,X,G,ad,hg,ae,D,Yb,Yc,Yd,Ye,Yf,Yg,Yh,Ip,Iq,Ir,Is,It,Iu,zqa,XP,seval];refine⟨_,_,rfl,fun y J=>?_⟩;have J:=(zkw.1 J).1;rcases Q _ _ (by simp only[V,XP,seval]) (by simp only[XP,seval]) (by simp only[XP,seval]) (by simp only[XP,seval]) y J with h|h
   . simp only[zqf,zqk,or_false]at h;omega
   . omega
 . obtain⟨FR,TC,hl⟩:=go w hw
   have es:Dx w x=(readsD x).foldl Mk w:=by unfold Dx;rw[if_neg h0]
   have D:=fun fr tch a b c d=>(hl fr tch a b c d).1
   have Q:=fun fr tch a b c d=>(hl fr tch a b c d).2
   rw[es];unfold j5 at D|-;have G:decide (0<=writesD x)=zf:=by simp[h0]
   simp only[Cod.F,Blk.F,Ins.F,zqd,zqc]at t1 U X D|-;simp only[Ds,Hg,eO,h5,V,t1,U,X,G,D,Yb,Yc,Yd,Ye,Yf,Yg,Yh,Ip,Iq,Ir,Is,It,Iu,zqa,XP,seval];refine⟨_,_,rfl,fun y J=>?_⟩;have J:=(zkw.1 J).1;rcases Q _ _ (by simp only[V,XP,seval]) (by simp only[XP,seval]) (by simp only[XP,seval]) (by simp only[XP,seval]) y J with h|h
   . simp only[zqf,zqk,or_false]at h;omega
   . omega
end
def yP(l:List Ins):Nat->List Bool->List Bool
 |0,w=>w
 |k+1,w=>yP l k (match l[k]? with|some x=>Dx w x|none=>w)
def endW(b:Blk)(w:List Bool):List Bool:=if b.e.kind≠1/\0<=b.e.a then w.set b.e.a.toNat zt else w
def walkD(b:Blk)(w:List Bool):List Bool:=yP b.code b.code.length (endW b w)
theorem pZ(l:List Ins):∀(k:Nat)(w:List Bool),(yP l k w).length=w.length
 |0,w=>rfl
 |k+1,w=>by
  rw[yP,pZ];grind [Oa]
theorem Vo(b:Blk)(w:List Bool):(endW b w).length=w.length:=by grind [endW]
theorem Ob(b:Blk)(w:List Bool):(walkD b w).length=w.length:=(pZ _ _ _).trans (Vo b w)
structure WOk(n:Nat)(b:Blk):Prop where
 sz:b.code.length*88<=bigN
 ln:b.code.length<=60000
 ok:∀x∈b.code,x.ok
 wr:∀x∈b.code,writesD x<n
 rd:∀x∈b.code,∀r∈readsD x,0<=r/\r<(n:Int)
 ea:b.e.kind≠1->b.e.a<n
theorem yQ(hN:T 35=zn){l:List Ins}{K:PK}:evP ⟨A0,T,A2⟩ (.call 35 [fslN (l.map Ins.F)] K)=zs (.val [.fn (.func 48) [] [.ptr K.os.length 0 0]] ⟨K.os++[.row 1 [fslN (l.map Ins.F)] 1],K.ext,K.tch⟩):=by
 rw[Bh hN rfl,A4 (c:=TO) (nt:=4) (rs:=[.tmp 2]) rfl (by simp)];simp_all [TO, XP]
section
variable {c:Cod}{b:Blk}{A B:List (List Bool)}{at_ n k ex:Nat}{g:Bool}{w:List Bool}{x:Ins}{fr:PF}
theorem A2F(hS:T 21=zn)(hW:T 32=zs F4)(hR:T 36=zs I1)(hb:WOk n b)(hs:n<=bigN){w0:List Bool}(Q:w0.length=n):
 ∃ TC:PF->List Nat->List Nat,∀(fr:PF)(tch:List Nat),lookP fr 5=.ptr 10 0 0->lookP fr 7=.ptr 12 0 0->lookP fr 32=.fn (.func 48) [] [.ptr 13 0 0] ->
   evP ⟨A0,T,A2⟩ (.code (.rfn (.tmp 32) [33,34] Zm Zl) fr ⟨j5 c g A B b at_ n [] (bools w0),ex,tch⟩)=zs (.ok .normal fr ⟨j5 c g A B b at_ n [] (bools (yP b.code b.code.length w0)),ex,TC fr tch++tch⟩)/\∀y∈TC fr tch,9<=y:=by
 have I:∀x:PF×List Nat,∃y:List Nat,lookP x.1 5=.ptr 10 0 0->lookP x.1 7=.ptr 12 0 0->lookP x.1 32=.fn (.func 48) [] [.ptr 13 0 0] ->
  evP ⟨A0,T,A2⟩ (.code (.rfn (.tmp 32) [33,34] Zm Zl) x.1 ⟨j5 c g A B b at_ n [] (bools w0),ex,x.2⟩)=zs (.ok .normal x.1 ⟨j5 c g A B b at_ n [] (bools (yP b.code b.code.length w0)),ex,y++x.2⟩)/\∀z∈y,9<=z:=fun x=>by
  by_cases h:lookP x.1 5=.ptr 10 0 0/\lookP x.1 7=.ptr 12 0 0/\lookP x.1 32=.fn (.func 48) [] [.ptr 13 0 0]
  . obtain ⟨K',h1,w',D,rfl,X,J,Y⟩:=QJ (T:=T) (l:=b.code) (f:=(b.code.map Ins.F).isEmpty) (fr:=x.1) (g:=.tmp 32) (ps:=[33,34]) (ca:=Zm) (cb:=Zl) (b:=13) (K:=⟨j5 c g A B b at_ n [] (bools w0),ex,x.2⟩)
     (Inv:=fun i K=>∃w tch,K=⟨j5 c g A B b at_ n [] (bools w),14,tch⟩/\w.length=n/\yP b.code i w=yP b.code b.code.length w0/\∀y∈tch,9<=y) hb.sz hb.ln h.2.2
     (fun i K _ U=>by obtain⟨w,tch,rfl,_⟩:=U;rfl)
     (fun i hi K U=>by
       obtain⟨w,tch,rfl,X,J,Y⟩:=U;have V:=zqe hi;obtain⟨aa,D,h6,h7⟩:=A2E (T:=T) (c:=c) (b:=b) (A:=A) (B:=B) (at_:=at_) (n:=n) (k:=i) (g:=g) (w:=w) (x:=b.code[i]) (fr:=x.1) hS hW hR (hb.ok _ V) X hs (hb.wr _ V) (hb.rd _ V) h.1 h.2.1;refine⟨aa,_,h6,Dx w b.code[i],D++tch,rfl,(Oa _ _).trans X,?_,fun y G=>?_⟩
       . grind [yP]
       grind)
     ⟨w0,[],rfl,Q,rfl,fun y G=>by cases G⟩
    exact⟨D,fun _ _ _=>⟨by rw[h1,<-J];rfl,Y⟩⟩
  simp_all
 exact⟨fun fr tch=>(I (fr,tch)).choose,fun fr tch=>(I (fr,tch)).choose_spec⟩
end
section
variable {c:Cod}{b:Blk}{A B:List (List Bool)}{at_ n k:Nat}{g:Bool}{w:List Bool}{tch:List Nat}
theorem mT(hN:T 20=zn)(U:T 35=zn)(hC:T 34=zs H7)(hS:T 21=zn)(hW:T 32=zs F4)(hR:T 36=zs I1)(hb:WOk n b)(hs:n<=bigN)(hB:at_<B.length)(hl:(B.getD at_ []).length=n):
 ∃I,evP ⟨A0,T,A2⟩ (.call 20 [b.F,.msl 8 0 n 1,.fn (.func 21) [] []] ⟨[.row 1 [c.F] 5,.row 1 [.msl 4 0 c.blocks.length 1] 1,.row 1 [.msl 5 0 c.blocks.length 1] 1,.row 1 [.bool g] 1,.row 0 (tab A) 1,.row 0 (tab B) 1,.row 1 [fslN (c.blocks.map Blk.F)] 1,.row 1 [b.F] 5,.sub 5 at_ 0],7,tch⟩)=zs (.val [.msl 11 0 n 1] ⟨j5 c g A B b at_ n [] (bools (walkD b (B.getD at_ []))),7,I++tch⟩)/\∀y∈I,9<=y:=by
 have V:=Ab hB;have X:∀os,rowOf os 6 8=zs (0,bools (B.getD at_ []),1)->viewAs os [.msl 8 0 n 1]=zs [fslN (bools (B.getD at_ []))]:=fun os h=>by
  have e:viewV os (.msl 8 0 n 1)=zs (fslN (bools (B.getD at_ []))):=by
   show(match rowOf os 6 8 with|some (k,es,z)=>(if k=0/\1=z/\0+n<=es.length then(match frzL ((es.drop 0).take n)with|some es=>zs (fslN es)|none=>zn)else zn)|none=>zn)=_
   rw[h];dsimp only;rw[if_pos ⟨rfl,rfl,by rw[zqa];omega⟩,zqq,zqo (by rw[zqa];omega),frzL_bools]
  show consO (viewV os (.msl 8 0 n 1)) (zs [])=_
  rw[e];rfl
 have tc:=fun K (h:viewAs K.os [.msl 8 0 n 1]=zs [fslN (bools (B.getD at_ []))])=>B8 (E:=A0) (F:=A2) (K:=K) hC h (Vk (by rw[hl];omega)) (by simp only[noFL_bools,XP,seval])
 have Y:=fun K=>yQ (K:=K) (l:=b.code) U
 obtain⟨TC,hw⟩:=A2F (T:=T) (ex:=9) (c:=c) (b:=b) (A:=A) (B:=B) (at_:=at_) (n:=n) (g:=g) (w0:=endW b (B.getD at_ [])) hS hW hR hb hs ((Vo _ _).trans hl);rw[Bh hN rfl,A4 (c:=TF) (nt:=58) (rs:=[.tmp 6]) rfl (by simp)];unfold TF walkD;have D:=fun fr tch a b c=>(hw fr tch a b c).1
 have J:=fun fr tch a b c=>(hw fr tch a b c).2
 by_cases e1:b.e.kind=1
 . rw [show endW b (B.getD at_ [])=B.getD at_ [] by unfold endW;rw[if_neg (fun h=>h.1 e1)]]at D|-
   unfold j5 at D|-;simp only[Cod.F,Blk.F,zqd,zqc]at D|-;simp only[V,Y,tc,X,eq_true e1,D,hl,zqa,Yb,Yc,Yd,Ye,Yf,Yg,Yh,Ip,Iq,Ir,Is,It,Iu,XP,seval];exact⟨_,rfl,fun y Q=>by
    rcases zki.1 Q with h|h
    . exact J _ _ (by simp only[XP,seval]) (by simp only[XP,seval]) (by simp only[XP,seval]) y h
    . simp only[zqf,zqk,or_false]at h;omega⟩
 by_cases e2:0<=b.e.a
 . obtain ⟨d,hd⟩:=zjj e2
   have aa:d<n:=by have:=hb.ea e1;omega
   have hg:=X6 (l:=B.getD at_ []) (i:=d) (by omega);have ab:(bools (B.getD at_ [])).set d (.bool zt)=bools ((B.getD at_ []).set d zt):=by unfold bools;rw[zqu]
   rw[show endW b (B.getD at_ [])=(B.getD at_ []).set d zt by unfold endW;rw[if_pos ⟨e1,e2⟩,hd];rfl]at D|-;have G:decide (0<=(d:Int))=zt:=by simp
   unfold j5 at D|-;simp only[Cod.F,Blk.F,zqd,zqc,hd]at D|-;simp only[V,Y,tc,X,e1,G,aa,hg,ab,D,hl,zqa,Yb,Yc,Yd,Ye,Yf,Yg,Yh,Ip,Iq,Ir,Is,It,Iu,XP,seval];exact⟨_,rfl,fun y Q=>by
    rcases zki.1 Q with h|h
    . exact J _ _ (by simp only[XP,seval]) (by simp only[XP,seval]) (by simp only[XP,seval]) y h
    . simp only[zqf,zqk,or_false]at h;omega⟩
 . rw [show endW b (B.getD at_ [])=B.getD at_ [] by unfold endW;rw[if_neg (fun h=>e2 h.2)]]at D|-
   have G:decide (0<=b.e.a)=zf:=by simp[e2]
   unfold j5 at D|-;simp only[Cod.F,Blk.F,zqd,zqc]at D|-;simp only[V,Y,tc,X,e1,G,D,hl,zqa,Yb,Yc,Yd,Ye,Yf,Yg,Yh,Ip,Iq,Ir,Is,It,Iu,XP,seval];exact⟨_,rfl,fun y Q=>by
    rcases zki.1 Q with h|h
    . exact J _ _ (by simp only[XP,seval]) (by simp only[XP,seval]) (by simp only[XP,seval]) y h
    . simp only[zqf,zqk,or_false]at h;omega⟩
end
section
variable {c:Cod}{b:Blk}{A B:List (List Bool)}{i j at_ t n:Nat}{g:Bool}{L:List Int}{tch:List Nat}{fr:PF}
def joinB(A:List (List Bool))(at_:Nat)(B:List (List Bool))(t:Int):List (List Bool):=B.set at_ (unionD (B.getD at_ []) (A.getD t.toNat [])).1
theorem JM:∃fr',evP ⟨A0,T,A2⟩ (.code sS [(2,.ptr 1 0 0),(3,.ptr 2 0 0),(4,.ptr 3 0 0),(5,.int .i64 (at_:Int)),(6,.ptr 7 0 0),(37,.msl 8 0 L.length 1),(38,.int .i64 (L.length:Int)),(39,.int .i64 (L.length:Int))] ⟨[.row 1 [c.F] 5,.row 1 [.msl 4 0 c.blocks.length 1] 1,.row 1 [.msl 5 0 c.blocks.length 1] 1,.row 1 [.bool g] 1,.row 0 (tab A) 1,.row 0 (tab B) 1,.row 1 [fslN (c.blocks.map Blk.F)] 1,.row 1 [b.F] 5,.row 0 (ints L) 1],7,tch⟩)=zs (.ok (.exit 6) fr' ⟨[.row 1 [c.F] 5,.row 1 [.msl 4 0 c.blocks.length 1] 1,.row 1 [.msl 5 0 c.blocks.length 1] 1,.row 1 [.bool g] 1,.row 0 (tab A) 1,.row 0 (tab B) 1,.row 1 [fslN (c.blocks.map Blk.F)] 1,.row 1 [b.F] 5,.row 0 (ints L) 1],7,tch⟩)/\(lookP fr' 2=.ptr 1 0 0/\lookP fr' 3=.ptr 2 0 0/\lookP fr' 4=.ptr 3 0 0/\lookP fr' 5=.int .i64 (at_:Int)/\lookP fr' 6=.ptr 7 0 0):=by
 unfold sS;have D:decide ((L.length:Int)<(L.length:Int))=zf:=by simp
 simp only[D,XP,seval];exact⟨_,rfl,rfl,rfl,rfl,rfl,rfl⟩
def C5(N n:Nat)(A:List (List Bool)):Prop:=A.length=N/\∀r∈A,r.length=n
theorem C5.get{N n:Nat}{A:List (List Bool)}(h:C5 N n A){i:Nat}(hi:i<N):(A.getD i []).length=n:=by
 rw[zqb,zqh (by rw[h.1];exact hi)];exact h.2 _ (zqe _)
theorem C5.set{N n:Nat}{A:List (List Bool)}(h:C5 N n A){i:Nat}{r:List Bool}(G:r.length=n):C5 N n (A.set i r):=⟨by rw[zqn];exact h.1,fun q I=>by
 rcases zkj I with D|D
 . exact h.2 q D
 grind⟩
theorem C5.join{N n:Nat}{A B:List (List Bool)}(h:C5 N n B){at_:Nat}(D:at_<N){t:Int}:C5 N n (joinB A at_ B t):=h.set ((unionD_len _ _).trans (h.get D))
theorem yR(hN:T 19=zn)(U:C5 c.blocks.length n A)(Y:n<=bigN)(G:at_<c.blocks.length)(hL:∀t∈L,0<=t/\t<(c.blocks.length:Int))(I:L.length<=2):∀(k j:Nat)(B:List (List Bool))(tch:List Nat),L.length=j+k->C5 c.blocks.length n B ->
 ∃fr' D,evP ⟨A0,T,A2⟩ (.code (.loop sS) [(2,.ptr 1 0 0),(3,.ptr 2 0 0),(4,.ptr 3 0 0),(5,.int .i64 (at_:Int)),(6,.ptr 7 0 0),(37,.msl 8 0 L.length 1),(38,.int .i64 (L.length:Int)),(39,.int .i64 (j:Int))] ⟨[.row 1 [c.F] 5,.row 1 [.msl 4 0 c.blocks.length 1] 1,.row 1 [.msl 5 0 c.blocks.length 1] 1,.row 1 [.bool g] 1,.row 0 (tab A) 1,.row 0 (tab B) 1,.row 1 [fslN (c.blocks.map Blk.F)] 1,.row 1 [b.F] 5,.row 0 (ints L) 1],7,tch⟩)=zs (.ok (.exit 6) fr' ⟨[.row 1 [c.F] 5,.row 1 [.msl 4 0 c.blocks.length 1] 1,.row 1 [.msl 5 0 c.blocks.length 1] 1,.row 1 [.bool g] 1,.row 0 (tab A) 1,.row 0 (tab ((L.drop j).foldl (joinB A at_) B)) 1,.row 1 [fslN (c.blocks.map Blk.F)] 1,.row 1 [b.F] 5,.row 0 (ints L) 1],7,D⟩)/\(lookP fr' 2=.ptr 1 0 0/\lookP fr' 3=.ptr 2 0 0/\lookP fr' 4=.ptr 3 0 0/\lookP fr' 5=.int .i64 (at_:Int)/\lookP fr' 6=.ptr 7 0 0)
 |0,j,B,tch,e,hB=>by
  obtain rfl:j=L.length:=by omega
  obtain⟨fr',h,X⟩:=JM (T:=T) (c:=c) (b:=b) (A:=A) (B:=B) (at_:=at_) (g:=g) (L:=L) (tch:=tch);grind [E3]
 |k+1,j,B,tch,e,hB=>by
  have V:j<L.length:=by omega
  obtain⟨h0,h1⟩:=hL _ (zqe V);obtain⟨t,ht⟩:=zjj h0;have J:t<c.blocks.length:=by omega
  obtain⟨Q,h⟩:=JK (T:=T) (c:=c) (b:=b) (A:=A) (B:=B) (at_:=at_) (t:=t) (n:=n) (g:=g) (L:=L) (tch:=tch) hN V ht (by rw[U.1];exact J) U.1 hB.1 (by rw[hB.1];exact G) (U.get J) (hB.get G) Y I;obtain⟨fr',D,h',X⟩:=yR hN U Y G hL I k (j+1) (joinB A at_ B L[j]) Q (by omega) (hB.join G);grind [joinB, zkq, loop_more]
end
abbrev Jw:=List (List Bool)×List (List Bool)×Bool
def M2(b:Blk)(at_:Nat)(s:Jw):Jw:=
 (s.1.set at_ (unionD (s.1.getD at_ []) (walkD b (((tosD b.e).foldl (joinB s.1 at_) s.2.1).getD at_ []))).1,(tosD b.e).foldl (joinB s.1 at_) s.2.1,(unionD (s.1.getD at_ []) (walkD b (((tosD b.e).foldl (joinB s.1 at_) s.2.1).getD at_ []))).2||s.2.2)
theorem C5.joins{N n:Nat}{A:List (List Bool)}{at_:Nat}(D:at_<N)(L:List Int):∀{B:List (List Bool)},C5 N n B->C5 N n (L.foldl (joinB A at_) B):=by
 induction L with
 |nil=>grind
 |cons t L G=>intro B h;exact G (h.join D)
theorem yS(e:Endd):(tosD e).length<=2:=by
 grind [tosD]
section
variable {c:Cod}{b:Blk}{A B:List (List Bool)}{i j at_ t n:Nat}{g:Bool}{tch:List Nat}{fr:PF}
def dO(c:Cod)(g:Bool)(A B:List (List Bool))(b:Blk)(at_ n:Nat)(w:List Bool)(x:List AV):List PO:=[.row 1 [c.F] 5,.row 1 [.msl 4 0 c.blocks.length 1] 1,.row 1 [.msl 5 0 c.blocks.length 1] 1,.row 1 [.bool g] 1,.row 0 ((tab A).set at_ (ownd 0 1 x)) 1,.row 0 (tab B) 1,.row 1 [fslN (c.blocks.map Blk.F)] 1,.row 1 [b.F] 5,.sub 5 at_ 0,.row 1 [b.F] 5,.row 1 [.fn (.func 21) [] []] 1,.row 0 (bools w) 1,.row 1 [.msl 11 0 n 1] 1,.row 1 [fslN (b.code.map Ins.F)] 1,.sub 4 at_ 0]
theorem CS{w:List Bool}(hb:at_<A.length):Lens (dO c g A B b at_ n w) 14 1:=by
 have D:at_<(tab A).length:=by simp[tab,hb]
 refine⟨fun es=>?_,fun es es'=>?_,fun es=>?_⟩
 . simp_all [dO, XP]
 . simp_all [dO, XP, pY]
 . rfl
theorem QP(hU:T 19=zn)(ad:T 20=zn)(ae:T 35=zn)(hC:T 34=zs H7)(hS:T 21=zn)(hW:T 32=zs F4)(hR:T 36=zs I1)(af:T 18=zs U3)(hb:WOk n b)(hs:n<=bigN)(D:at_<c.blocks.length)(U:C5 c.blocks.length n A)(hB:C5 c.blocks.length n B)(ag:∀t∈tosD b.e,0<=t/\t<(c.blocks.length:Int))(h2:lookP fr 2=.ptr 1 0 0)(h3:lookP fr 3=.ptr 2 0 0)(h4:lookP fr 4=.ptr 3 0 0):
 ∃V X,evP ⟨A0,T,A2⟩ (.round ⟨[33,34],sU,sT,fr⟩ [.int .i64 (at_:Int),b.F] ⟨[.row 1 [c.F] 5,.row 1 [.msl 4 0 c.blocks.length 1] 1,.row 1 [.msl 5 0 c.blocks.length 1] 1,.row 1 [.bool g] 1,.row 0 (tab A) 1,.row 0 (tab B) 1,.row 1 [fslN (c.blocks.map Blk.F)] 1],7,[]⟩)=zs (.ok .normal V ⟨[.row 1 [c.F] 5,.row 1 [.msl 4 0 c.blocks.length 1] 1,.row 1 [.msl 5 0 c.blocks.length 1] 1,.row 1 [.bool (M2 b at_ (A,B,g)).2.2] 1,.row 0 (tab (M2 b at_ (A,B,g)).1) 1,.row 0 (tab (M2 b at_ (A,B,g)).2.1) 1,.row 1 [fslN (c.blocks.map Blk.F)] 1],7,X⟩):=by
 rw[rC rfl];unfold sU sT;have tt:=fun K=>tS (K:=K) (e:=b.e) af
 have G:C5 c.blocks.length n ((tosD b.e).foldl (joinB A at_) B):=hB.joins D _;obtain⟨V,ac,hl,k2,k3,k4,k5,k6⟩:=yR (T:=T) (c:=c) (b:=b) (A:=A) (at_:=at_) (n:=n) (g:=g) (L:=tosD b.e) hU U hs D ag (yS _) (tosD b.e).length 0 B [] (by omega) hB;obtain⟨J,hw,ah⟩:=mT (T:=T) (c:=c) (b:=b) (A:=A) (B:=(tosD b.e).foldl (joinB A at_) B) (at_:=at_) (n:=n) (g:=g) (tch:=[]) ad ae hC hS hW hR hb hs (by rw[G.1];exact D) (G.get D);have Y:(walkD b (((tosD b.e).foldl (joinB A at_) B).getD at_ [])).length=n:=(Ob _ _).trans (G.get D);obtain⟨tch3,Q⟩:=Vl (T:=T) (ext:=7) (tch:=J++List.filter (fun x=>decide (x<7)) ac) (m:=walkD b (((tosD b.e).foldl (joinB A at_) B).getD at_ [])) (a:=A.getD at_ []) (j:=11) hU (CS (c:=c) (g:=g) (A:=A) (B:=(tosD b.e).foldl (joinB A at_) B) (b:=b) (at_:=at_) (n:=n) (w:=walkD b (((tosD b.e).foldl (joinB A at_) B).getD at_ [])) (by rw[U.1];exact D)) (fun x=>rfl) (by omega) (by rw[Y];exact U.get D);have I:J.all (fun i=>decide (9<=i))=zt:=zkf.2 fun y hy=>by grind
 have h5:=Ab (A:=A) (i:=at_) (by rw[U.1];exact D);have h6:=Ab (A:=(tosD b.e).foldl (joinB A at_) B) (i:=at_) (by rw[G.1];exact D);rw[Y]at Q;have e3:(tab A).set at_ (ownd 0 1 (bools (A.getD at_ [])))=tab A:=iO h5;have aa:=U.get D;have ab:=G.get D;unfold M2;unfold dO at Q;rw[e3,pX]at Q;unfold j5 at hw;dsimp only;rw[show((0:Nat):Int)=0 from rfl,zqq]at hl;simp only[Cod.F,Blk.F,Endd.F,zqd,zqc]at tt hl hw Q|-;cases hq:(unionD (A.getD at_ []) (walkD b (((tosD b.e).foldl (joinB A at_) B).getD at_ []))).2 with
 |true=>
  rw[hq]at Q;simp only[Ds,Hg,eO,h2,h3,h4,tt,hl,k2,k3,k4,k5,k6,hw,I,h5,h6,D,aa,ab,Q,Yb,Yc,Yd,Ye,Yf,Yg,Yh,Ip,Iq,Ir,Is,It,Iu,zqa,XP,seval];grind
 |false=>
  rw[hq]at Q;simp only[Ds,Hg,eO,h2,h3,h4,tt,hl,k2,k3,k4,k5,k6,hw,I,h5,h6,D,aa,ab,Q,Yb,Yc,Yd,Ye,Yf,Yg,Yh,Ip,Iq,Ir,Is,It,Iu,zqa,XP,seval];grind
end
def passGo(l:List Blk):Nat->Jw->Jw
 |0,s=>s
 |k+1,s=>passGo l k (match l[k]? with|some b=>M2 b k s|none=>s)
structure LOk(c:Cod):Prop where
 bs:c.blocks.length*56<=bigN
 bl:c.blocks.length<=60000
 rs:c.regs.length*8<=bigN
 b0:0<c.blocks.length
 wk:∀b∈c.blocks,WOk c.regs.length b
 to:∀b∈c.blocks,∀t∈tosD b.e,0<=t/\t<(c.blocks.length:Int)
theorem Y9{N n i:Nat}{b:Blk}{s:Jw}(hi:i<N)(D:C5 N n s.1)(hB:C5 N n s.2.1):C5 N n (M2 b i s).1/\C5 N n (M2 b i s).2.1:=by
 refine⟨D.set ((unionD_len _ _).trans (D.get hi)),hB.joins hi _⟩
theorem g8{N n:Nat}{l:List Blk}:∀(k:Nat){s:Jw},k<=N->C5 N n s.1->C5 N n s.2.1->C5 N n (passGo l k s).1/\C5 N n (passGo l k s).2.1
 |0,s,_,hA,hB=>⟨hA,hB⟩
 |k+1,s,hk,hA,hB=>by
  unfold passGo;cases l[k]? with
  |none=>exact g8 k (by omega) hA hB
  |some b=>
   obtain⟨D,G⟩:=Y9 (b:=b) (i:=k) (by omega) hA hB;exact g8 k (by omega) D G
theorem yT(hN:T 17=zn){l:List Blk}{K:PK}:evP ⟨A0,T,A2⟩ (.call 17 [fslN (l.map Blk.F)] K)=zs (.val [.fn (.func 33) [] [.ptr K.os.length 0 0]] ⟨K.os++[.row 1 [fslN (l.map Blk.F)] 1],K.ext,K.tch⟩):=by
 rw[Bh hN rfl,A4 (c:=TB) (nt:=4) (rs:=[.tmp 2]) rfl (by simp)];simp_all [TB, XP]
section
variable {c:Cod}{A B:List (List Bool)}{g:Bool}{fr:PF}
def u7(c:Cod)(s:Jw)(ps:List PO):List PO:=[.row 1 [c.F] 5,.row 1 [.msl 4 0 c.blocks.length 1] 1,.row 1 [.msl 5 0 c.blocks.length 1] 1,.row 1 [.bool s.2.2] 1,.row 0 (tab s.1) 1,.row 0 (tab s.2.1) 1]++ps
theorem A2G(hU:T 19=zn)(Q:T 20=zn)(U:T 35=zn)(hC:T 34=zs H7)(hS:T 21=zn)(hW:T 32=zs F4)(hR:T 36=zs I1)(V:T 18=zs U3)(hc:LOk c){s:Jw}(hA:C5 c.blocks.length c.regs.length s.1)(hB:C5 c.blocks.length c.regs.length s.2.1):
 ∃ TC:PF->List Nat->List Nat,∀(fr:PF)(tch:List Nat),lookP fr 2=.ptr 1 0 0->lookP fr 3=.ptr 2 0 0->lookP fr 4=.ptr 3 0 0->lookP fr 32=.fn (.func 33) [] [.ptr 6 0 0] ->
   evP ⟨A0,T,A2⟩ (.code (.rfn (.tmp 32) [33,34] sU sT) fr ⟨u7 c s [.row 1 [fslN (c.blocks.map Blk.F)] 1],0,tch⟩)=zs (.ok .normal fr ⟨u7 c (passGo c.blocks c.blocks.length s) [.row 1 [fslN (c.blocks.map Blk.F)] 1],0,TC fr tch⟩):=by
 have I:∀x:PF×List Nat,∃y:List Nat,lookP x.1 2=.ptr 1 0 0->lookP x.1 3=.ptr 2 0 0->lookP x.1 4=.ptr 3 0 0->lookP x.1 32=.fn (.func 33) [] [.ptr 6 0 0] ->
  evP ⟨A0,T,A2⟩ (.code (.rfn (.tmp 32) [33,34] sU sT) x.1 ⟨u7 c s [.row 1 [fslN (c.blocks.map Blk.F)] 1],0,x.2⟩)=zs (.ok .normal x.1 ⟨u7 c (passGo c.blocks c.blocks.length s) [.row 1 [fslN (c.blocks.map Blk.F)] 1],0,y⟩):=fun x=>by
  by_cases h:lookP x.1 2=.ptr 1 0 0/\lookP x.1 3=.ptr 2 0 0/\lookP x.1 4=.ptr 3 0 0/\lookP x.1 32=.fn (.func 33) [] [.ptr 6 0 0]
  . obtain ⟨K',h1,D,G,rfl,h3,h4,J⟩:=QG (T:=T) (l:=c.blocks) (f:=(c.blocks.map Blk.F).isEmpty) (fr:=x.1) (g:=.tmp 32) (ps:=[33,34]) (ca:=sU) (cb:=sT) (b:=6) (K:=⟨u7 c s [.row 1 [fslN (c.blocks.map Blk.F)] 1],0,x.2⟩)
     (Inv:=fun i K=>∃D tch,K=⟨u7 c D [.row 1 [fslN (c.blocks.map Blk.F)] 1],7,tch⟩/\C5 c.blocks.length c.regs.length D.1/\C5 c.blocks.length c.regs.length D.2.1/\passGo c.blocks i D=passGo c.blocks c.blocks.length s) hc.bs hc.bl h.2.2.2
     (fun i K _ X=>by obtain⟨w,tch,rfl,_⟩:=X;rfl)
     (fun i hi K X=>by
       obtain⟨D,tch,rfl,h3,h4,J⟩:=X;have hm:=zqe hi;have Y:c.regs.length<=bigN:=by have:=hc.rs;grind
       obtain⟨aa,G,h6⟩:=QP (T:=T) (c:=c) (b:=c.blocks[i]) (A:=D.1) (B:=D.2.1) (at_:=i) (n:=c.regs.length) (g:=D.2.2) (fr:=x.1) hU Q U hC hS hW hR V (hc.wk _ hm) Y hi h3 h4 (hc.to _ hm) h.1 h.2.1 h.2.2.1;obtain⟨q1,q2⟩:=Y9 (b:=c.blocks[i]) hi h3 h4;refine⟨aa,_,h6,M2 c.blocks[i] i D,G++tch,rfl,q1,q2,?_⟩;grind [passGo])
     ⟨s,[],rfl,hA,hB,rfl⟩
    grind [passGo]
  simp_all
 exact⟨fun fr tch=>(I (fr,tch)).choose,fun fr tch=>(I (fr,tch)).choose_spec⟩
theorem JN(Q:T 19=zn)(G:T 20=zn)(I:T 35=zn)(D:T 17=zn)(hC:T 34=zs H7)(hS:T 21=zn)(hW:T 32=zs F4)(U:T 36=zs I1)(J:T 18=zs U3)(hc:LOk c)(V:C5 c.blocks.length c.regs.length A)(hB:C5 c.blocks.length c.regs.length B):
 evP ⟨A0,T,A2⟩ (.code sV [(1,.ptr 0 0 0),(2,.ptr 1 0 0),(3,.ptr 2 0 0),(4,.ptr 3 0 0)] ⟨u7 c (A,B,zt) [],0,[]⟩)=zs (.ok .normal [(1,.ptr 0 0 0),(2,.ptr 1 0 0),(3,.ptr 2 0 0),(4,.ptr 3 0 0)] ⟨u7 c (passGo c.blocks c.blocks.length (A,B,zf)) [],0,[]⟩):=by
 unfold sV;obtain⟨TC,hl⟩:=A2G (T:=T) (c:=c) (s:=(A,B,zf)) Q G I hC hS hW U J hc V hB;simp_all [u7, Cod.F, XP, yT]
theorem JO:∃fr',evP ⟨A0,T,A2⟩ (.code sV [(1,.ptr 0 0 0),(2,.ptr 1 0 0),(3,.ptr 2 0 0),(4,.ptr 3 0 0)] ⟨u7 c (A,B,zf) [],0,[]⟩)=zs (.ok (.exit 2) fr' ⟨u7 c (A,B,zf) [],0,[]⟩)/\lookP fr' 2=.ptr 1 0 0/\lookP fr' 3=.ptr 2 0 0:=by
 unfold sV u7;simp only[Cod.F,zqd,zqc];simp only[XP,seval];exact⟨_,rfl,rfl,rfl⟩
end
def ctF(l:List Bool):Nat:=l.count zf
def fl:List (List Bool)->Nat
 |[]=>0
 |r::l=>ctF r+fl l
theorem CT{l:List Bool}{i:Nat}(hi:i<l.length)(h:l.getD i zf=zf):ctF (l.set i zt)+1=ctF l:=by
 grind [ctF]
theorem uSt_ct{m:List Bool}{i:Nat}{s:List Bool×Bool}(hi:i<s.1.length):(uSt m i s=s)\/((uSt m i s).2=zt/\ctF (uSt m i s).1<ctF s.1):=by
 unfold uSt;split
 . rename_i h
   exact .inr ⟨rfl,by grind [CT]⟩
 grind
theorem uniGo_ct(m:List Bool):∀(n i:Nat)(s:List Bool×Bool),i+n<=s.1.length->(Dw m n i s=s)\/((Dw m n i s).2=zt/\ctF (Dw m n i s).1<ctF s.1)
 |0,i,s,_=>.inl rfl
 |n + 1,i,s,h=>by
  rw[Dw];have hlen:=Rq m i s;rcases uSt_ct (m:=m) (i:=i) (s:=s) (by omega)with D|⟨D,I⟩
  . rw[D];exact uniGo_ct m n (i+1) s (by omega)
  . rcases uniGo_ct m n (i+1) (uSt m i s) (by omega)with G|⟨G,h4⟩
    . grind
    grind
theorem unionD_ct{a m:List Bool}(h:a.length=m.length):(unionD a m=(a,zf))\/((unionD a m).2=zt/\ctF (unionD a m).1<ctF a):=uniGo_ct m m.length 0 (a,zf) (by simp;omega)
theorem JP{A:List (List Bool)}{i:Nat}{r:List Bool}(hi:i<A.length):fl (A.set i r)+ctF (A.getD i [])=fl A+ctF r:=by
 induction A generalizing i with
 |nil=>cases hi
 |cons a A D=>
  cases i with
  |zero=>grind [fl]
  |succ i=>
   grind [fl]
theorem yU{A:List (List Bool)}{i:Nat}:A.set i (A.getD i [])=A:=by
 induction A generalizing i with
 |nil=>rfl
 | cons a A D=>cases i with
  |zero=>rfl
  |succ i=>simp_all
theorem stepL_ct{N n i:Nat}{b:Blk}{s:Jw}(hi:i<N)(G:C5 N n s.1)(hB:C5 N n s.2.1):((M2 b i s).1=s.1/\(M2 b i s).2.2=s.2.2)\/((M2 b i s).2.2=zt/\fl (M2 b i s).1<fl s.1):=by
 have D:C5 N n ((tosD b.e).foldl (joinB s.1 i) s.2.1):=hB.joins hi _;unfold M2;rcases unionD_ct (a:=s.1.getD i []) (m:=walkD b (((tosD b.e).foldl (joinB s.1 i) s.2.1).getD i [])) (by rw[G.get hi,Ob,D.get hi])with h|⟨I,h2⟩
 . rw[h];exact .inl ⟨yU,rfl⟩
 . refine .inr ⟨by rw[I];rfl,?_⟩
   have:=JP (A:=s.1) (i:=i) (r:=(unionD (s.1.getD i []) (walkD b (((tosD b.e).foldl (joinB s.1 i) s.2.1).getD i []))).1) (by rw[G.1];exact hi)
   grind
theorem passGo_ct{N n:Nat}{l:List Blk}:∀(k:Nat){s:Jw},k<=N->C5 N n s.1->C5 N n s.2.1->((passGo l k s).1=s.1/\(passGo l k s).2.2=s.2.2)\/((passGo l k s).2.2=zt/\fl (passGo l k s).1<fl s.1)
 |0,s,_,hA,hB=>.inl ⟨rfl,rfl⟩
 |k + 1,s,hk,hA,hB=>by
  unfold passGo;cases l[k]? with
  |none=>exact passGo_ct k (by omega) hA hB
  |some b=>
   obtain⟨U,V⟩:=Y9 (b:=b) (i:=k) (by omega) hA hB;show((passGo l k (M2 b k s)).1=s.1/\(passGo l k (M2 b k s)).2.2=s.2.2)\/_
   have Q:=passGo_ct (l:=l) k (s:=M2 b k s) (by omega) U V;grind [stepL_ct]
def M3(l:List Blk):Nat->List (List Bool)×List (List Bool)->Jw
 |0,s=>(s.1,s.2,zf)
 |k+1,s=>if(passGo l l.length (s.1,s.2,zf)).2.2=zt then M3 l k ((passGo l l.length (s.1,s.2,zf)).1,(passGo l l.length (s.1,s.2,zf)).2.1)else passGo l l.length (s.1,s.2,zf)
theorem Vp(l:List Blk):∀(k:Nat)(s:List (List Bool)×List (List Bool)),(M3 l k s).2.2=zf
 |0,s=>rfl
 |k+1,s=>by
  rw[M3];split
  . exact Vp l k _
  grind
theorem Fw{l:List Blk}{n:Nat}:∀(k:Nat){s:List (List Bool)×List (List Bool)},C5 l.length n s.1->C5 l.length n s.2->C5 l.length n (M3 l k s).1/\C5 l.length n (M3 l k s).2.1
 |0,s,hA,hB=>⟨hA,hB⟩
 |k+1,s,hA,hB=>by
  obtain⟨D,G⟩:=g8 (l:=l) l.length (s:=(s.1,s.2,zf)) (zjb _) hA hB;rw[M3];split
  . exact Fw k D G
  grind
def U9(N n:Nat):List (List Bool):=zqg N (noneL n)
theorem Z5(N n:Nat):C5 N n (U9 N n):=⟨by simp[U9],fun r D=>by rw[List.eq_of_mem_replicate D];simp[noneL]⟩
def liveD(c:Cod):Jw:=M3 c.blocks (fl (U9 c.blocks.length c.regs.length)+1) (U9 c.blocks.length c.regs.length,U9 c.blocks.length c.regs.length)
theorem Fx(c:Cod):C5 c.blocks.length c.regs.length (liveD c).1/\C5 c.blocks.length c.regs.length (liveD c).2.1:=Fw _ (Z5 _ _) (Z5 _ _)
section
variable {c:Cod}{A B:List (List Bool)}{g:Bool}{fr:PF}
theorem yV(hU:T 19=zn)(I:T 20=zn)(J:T 35=zn)(D:T 17=zn)(hC:T 34=zs H7)(hS:T 21=zn)(hW:T 32=zs F4)(hR:T 36=zs I1)(Q:T 18=zs U3)(hc:LOk c):∀(k:Nat)(A B:List (List Bool)),fl A<k->C5 c.blocks.length c.regs.length A->C5 c.blocks.length c.regs.length B ->
 ∃fr',evP ⟨A0,T,A2⟩ (.code (.loop sV) [(1,.ptr 0 0 0),(2,.ptr 1 0 0),(3,.ptr 2 0 0),(4,.ptr 3 0 0)] ⟨u7 c (A,B,zt) [],0,[]⟩)=zs (.ok (.exit 2) fr' ⟨u7 c (M3 c.blocks k (A,B)) [],0,[]⟩)/\lookP fr' 2=.ptr 1 0 0/\lookP fr' 3=.ptr 2 0 0
 |0,A,B,h,_,_=>by omega
 |k+1,A,B,h,hA,hB=>by
  have U:=JN (T:=T) (c:=c) (A:=A) (B:=B) hU I J D hC hS hW hR Q hc hA hB;obtain⟨q1,q2⟩:=g8 (l:=c.blocks) c.blocks.length (s:=(A,B,zf)) (zjb _) hA hB;have G:=passGo_ct (l:=c.blocks) c.blocks.length (s:=(A,B,zf)) (zjb _) hA hB;rw[M3];dsimp only;generalize hp:passGo c.blocks c.blocks.length (A,B,zf)=s at U q1 q2 G|-;obtain⟨V,B',g'⟩:=s;cases g' with
  |true=>
   rcases G with⟨_,G⟩|⟨_,G⟩
   . cases G
   obtain⟨fr',X,Y⟩:=yV hU I J D hC hS hW hR Q hc k V B' (by have:fl V<fl A:=G;omega) q1 q2;exact⟨fr',(loop_more U).trans X,Y⟩
  |false=>
   obtain⟨fr',X,Y⟩:=JO (T:=T) (c:=c) (A:=V) (B:=B');exact⟨fr',(loop_more U).trans (E3 X),Y⟩
end
theorem QQ{K:PK}{n:Nat}{l:List XOp}(D:(K.tch.all fun i=>decide (n<=i))=zf)(G:(l.all fun o=>!o.careful)=zf):r8 n l K=zf:=by grind [r8]
theorem iQ:∀A:List (List Bool),noFL (tab A)=zt
 |[]=>rfl
 |r::A=>by
  show(noF (ownd 0 1 (bools r))&&noFL (tab A))=zt
  rw[iQ A];show(noFL (bools r)&&zt)=zt
  rw[noFL_bools];rfl
theorem mU(N n:Nat):U9 (N+1) n=U9 N n++[noneL n]:=List.replicate_succ'
section
variable {c:Cod}{i:Nat}
def UY(c:Cod)(N:Nat):PK:=⟨[.row 1 [c.F] 5,.row 1 [.msl 3 0 N 1] 1,.row 1 [.msl 4 0 N 1] 1,.row 0 (tab (U9 N c.regs.length)) 1,.row 0 (tab (U9 N c.regs.length)) 1],0,[]⟩
theorem QR{K:PK}:∃fr',evP ⟨A0,T,A2⟩ (.code gO [(1,.ptr 0 0 0),(2,.ptr 1 0 0),(3,.ptr 2 0 0),(11,.int .i64 (c.blocks.length:Int)),(12,.int .i64 (c.blocks.length:Int))] K)=zs (.ok (.exit 0) fr' K)/\lookP fr' 1=.ptr 0 0 0/\lookP fr' 2=.ptr 1 0 0/\lookP fr' 3=.ptr 2 0 0:=by
 unfold gO;have D:decide ((c.blocks.length:Int)<(c.blocks.length:Int))=zf:=by simp
 simp only[D,XP,seval];exact⟨_,rfl,rfl,rfl,rfl⟩
theorem GJ(hc:LOk c):∀(k i:Nat),c.blocks.length=i+1+k->∃fr',evP ⟨A0,T,A2⟩ (.code (.loop gO) [(1,.ptr 0 0 0),(2,.ptr 1 0 0),(3,.ptr 2 0 0),(11,.int .i64 (c.blocks.length:Int)),(12,.int .i64 ((i+1:Nat):Int))] (UY c (i+1)))=zs (.ok (.exit 0) fr' (UY c c.blocks.length))/\lookP fr' 1=.ptr 0 0 0/\lookP fr' 2=.ptr 1 0 0/\lookP fr' 3=.ptr 2 0 0
 |0,i,e=>by
  obtain⟨fr',h,D⟩:=QR (T:=T) (c:=c) (K:=UY c c.blocks.length);grind [E3]
 |k+1,i,e=>by
  have h:=QN (T:=T) (c:=c) (i:=i+1) (A:=U9 (i+1) c.regs.length) (by simp[U9]) (by omega) hc.rs hc.bs;rw[<-mU]at h;obtain⟨fr',h',D⟩:=GJ hc k (i+1) (by omega);exact⟨fr',(loop_more h).trans h',D⟩
end
theorem Qw(G:T 19=zn)(J:T 20=zn)(X:T 35=zn)(Y:T 17=zn)(I:T 34=zs H7)(D:T 21=zn)(Q:T 32=zs F4)(U:T 36=zs I1)(V:T 18=zs U3){c:Cod}(hk:LOk c):AM.Comes ⟨A0,T,A2⟩ 7 [c.F] [ownd 0 1 (tab (liveD c).1),ownd 0 1 (tab (liveD c).2.1)]:=by
 obtain⟨N,hN⟩:∃N,c.blocks.length=N+1:=⟨c.blocks.length-1,by have:=hk.b0;omega⟩
 have h0:=QM (T:=T) (c:=c) (by omega) hk.rs;obtain⟨fr1,h1,k1,k2,k3⟩:=GJ (T:=T) hk N 0 (by omega);have hL:=(loop_more h0).trans h1;obtain⟨aa,h2,k4,k5⟩:=yV (T:=T) G J X Y I D Q U V hk (fl (U9 c.blocks.length c.regs.length)+1) (U9 c.blocks.length c.regs.length) (U9 c.blocks.length c.regs.length) (by omega) (Z5 _ _) (Z5 _ _);have hg:=Vp c.blocks (fl (U9 c.blocks.length c.regs.length)+1) (U9 c.blocks.length c.regs.length,U9 c.blocks.length c.regs.length);obtain⟨s1,s2⟩:=Fx c
 change evP _ _=zs (.ok (.exit 2) aa ⟨u7 c (liveD c) [],0,[]⟩)at h2
 change (liveD c).2.2=zf at hg
 generalize liveD c=s at h2 hg s1 s2|-;obtain⟨A,B,g⟩:=s;dsimp only at hg h2 s1 s2|-;subst hg;refine⟨[.msl 2 0 c.blocks.length 1,.msl 3 0 c.blocks.length 1],⟨[.row 1 [.msl 2 0 c.blocks.length 1] 1,.row 1 [.msl 3 0 c.blocks.length 1] 1,.row 0 (tab A) 1,.row 0 (tab B) 1],0,[]⟩,?_,?_⟩
 . rw[A4 (c:=p7) (nt:=67) (rs:=[.cell 2 35,.cell 3 35]) rfl (by simp)]
   unfold p7 K0;unfold UY at hL;unfold u7 at h2;simp only[Cod.F,zqd,zqc]at hL h2|-;simp only[hL,k1,k2,k3,h2,k4,k5,QQ,zql,zqm,Nat.reduceBEq,Yb,Yc,Yd,Ye,Yf,Yg,Yh,Ip,Iq,Ir,Is,It,Iu,zqa,XP,seval]
 . exact back_of (vs':=[.msl 2 0 c.blocks.length 1,.msl 3 0 c.blocks.length 1]) (os':=[.row 1 [.msl 2 0 c.blocks.length 1] 1,.row 1 [.msl 3 0 c.blocks.length 1] 1,.row 0 (tab A) 1,.row 0 (tab B) 1]) (by simp only[XP,seval]) (by simp only[XP,seval]) (us:=[.msl 0 0 c.blocks.length 1,.msl 1 0 c.blocks.length 1]) (ps:=[.row 0 (tab A) 1,.row 0 (tab B) 1]) (by simp only[zqa,s1.1,s2.1,XP,seval]) (by simp only[XP,seval]) (by simp only[XP,seval])
def S9:=r9 (fun p:(Cod)=>[p.F]) (fun p=>[ownd 0 1 (tab (liveD p).1),ownd 0 1 (tab (liveD p).2.1)]) (fun p=>LOk p)
theorem Vq(D:T 7=zs S9){c:Cod}{K:PK}(G:LOk c):evP ⟨A0,T,A2⟩ (.call 7 [c.F] K)=zs (.val (openTs K.os.length [ownd 0 1 (tab (liveD c).1),ownd 0 1 (tab (liveD c).2.1)]).1 ⟨K.os++(openTs K.os.length [ownd 0 1 (tab (liveD c).1),ownd 0 1 (tab (liveD c).2.1)]).2,K.ext,K.tch⟩):=B8 D (by simp only[VV,XP,seval]) (C1 (a:=fun p:(Cod)=>[p.F]) (r:=fun p=>[ownd 0 1 (tab (liveD p).1),ownd 0 1 (tab (liveD p).2.1)]) (fun x y e=>by simp_all [VJ]) (c) G) (by simp_all [XP, iQ])
theorem dP(G:T 19=zn)(J:T 20=zn)(X:T 35=zn)(Y:T 17=zn)(I:T 34=zs H7)(D:T 21=zn)(Q:T 32=zs F4)(U:T 36=zs I1)(V:T 18=zs U3)(hP:PEok ⟨A0,T,A2⟩):TC A0 7 S9:=C7 hP fun p h=>Qw G J X Y I D Q U V h
theorem Vr{l:List Int}(h:F5 l=0):∀e∈l,e=0:=by
 induction l with
 |nil=>grind
 |cons a l G=>
  unfold F5 at h;grind
theorem lz_there{a n:Int}:thereD a n=zt↔0<=a/\a<n:=by unfold thereD;simp
theorem yW{m:Modl}(h:I7 m=0):∀c∈m.fs,M8 m c=0:=by
 unfold I7 at h;by_cases q:F5 (m.gs.map Uv)=0
 . rw[if_pos q]at h
   by_cases D:F5 (m.fs.map (M8 m))=0
   . grind [Vr, zkb]
   grind
 grind
theorem qA{m:Modl}{c:Cod}(h:M8 m c=0):(1<=c.blocks.length/\c.blocks.length<=400/\c.regs.length<=4096)/\∀b∈c.blocks,Jt m c b=0:=by
 grind [M8, Vr, zkb]
theorem yX{m:Modl}{c:Cod}{b:Blk}(h:Jt m c b=0):(∀x∈b.code,F9 m c x=0)/\Ee c b.e=0:=by
 grind [Jt, Vr, zkb]
theorem yY{m:Modl}{c:Cod}{x:Ins}(h:F9 m c x=0):writesD x<c.regs.length/\∀r∈readsD x,0<=r/\r<(c.regs.length:Int):=by
 unfold F9 at h;split at h
 . split at h
   . rename_i _ G
     unfold D3 at G;obtain⟨U,D⟩:=zji.1 G;obtain⟨D,_⟩:=zji.1 D;refine⟨?_,fun r J=>lz_there.1 (zkf.1 U r J)⟩;unfold Xz at D;by_cases q:0<=writesD x
     . grind [thereD]
     . omega
   . cases h
 . cases h
theorem yZ{c:Cod}{e:Endd}(h:Ee c e=0):(∀t∈tosD e,0<=t/\t<(c.blocks.length:Int))/\(e.kind≠1->e.a<c.regs.length):=by
 unfold Ee at h;unfold tosD;by_cases G:e.kind=1
 . simp_all [lz_there]
 . rw [if_neg G]at h|-
   by_cases I:e.kind=2
   . rw [if_pos I]at h|-
     split at h
     . rename_i Q
       split at h
       . rename_i U
         split at h
         . rename_i V
           refine⟨fun t D=>?_,fun _=>(lz_there.1 V).2⟩;rcases zqf.1 D with rfl|D
           . exact lz_there.1 Q
           grind [lz_there]
         . cases h
       . cases h
     . cases h
   . rw [if_neg I]at h|-
     grind [lz_there]
theorem dQ{a:Int}{n:Nat}(h0:0<=a)(h:a+n<9223372036854775808):Q3 a n=a+n:=by
 grind [Q3, IntKind.wrap_i64]
def Dy(l:List Blk):Nat:=(l.map fun b=>b.code.length).sum
theorem qB{M:Nat}:∀l:List Blk,(∀b∈l,b.code.length<=M)->Dy l<=l.length*M
 |[],_=>by simp[Dy]
 |b::l,h=>by
  have h1:=h b (zqw ..);have h2:=qB l fun b hb=>h b (zqx _ hb)
  grind [Dy, Nat.add_mul]
theorem iR:∀{l:List Blk}{b:Blk},b∈l->b.code.length<=Dy l
 |a::l,b,h=>by
  show b.code.length<=a.code.length+Dy l
  rcases zqf.1 h with rfl|h
  . omega
  . have:=iR h;omega
theorem GK:∀(l:List Blk)(a:Int),0<=a->a+Dy l<9223372036854775808->l.foldl (fun a b=>Q3 a b.code.length) a=a+Dy l
 |[],a,_,_=>by simp[Dy]
 |b::l,a,h0,h=>by
  have h:a+((b.code.length+Dy l:Nat):Int)<9223372036854775808:=h;show l.foldl (fun a b=>Q3 a b.code.length) (Q3 a b.code.length)=a+((b.code.length+Dy l:Nat):Int)
  rw[dQ h0 (by omega),GK l _ (by omega) (by omega)];omega
def Ml(c:Cod):Nat:=c.regs.length+c.blocks.length+Dy c.blocks
theorem QS{a:Int}{c:Cod}(h0:0<=a)(h:a+Ml c<9223372036854775808):xO a c=a+Ml c:=by
 grind [Ml, xO, dQ, GK]
def Yi(l:List Cod):Nat:=(l.map Ml).sum
theorem GL:∀(l:List Cod)(a:Int),0<=a->a+Yi l<9223372036854775808->l.foldl xO a=a+Yi l
 |[],a,_,_=>by simp[Yi]
 |c::l,a,h0,h=>by
  have h:a+((Ml c+Yi l:Nat):Int)<9223372036854775808:=h;show l.foldl xO (xO a c)=a+((Ml c+Yi l:Nat):Int)
  rw[QS h0 (by omega),GL l _ (by omega) (by omega)];omega
theorem qC{M:Nat}:∀l:List Cod,(∀c∈l,Ml c<=M)->Yi l<=l.length*M
 |[],_=>by simp[Yi]
 |b::l,h=>by
  have h1:=h b (zqw ..);have h2:=qC l fun b hb=>h b (zqx _ hb)
  grind [Yi, Nat.add_mul]
theorem iS:∀{l:List Cod}{b:Cod},b∈l->Ml b<=Yi l
 |a::l,b,h=>by
  show Ml b<=Ml a+Yi l
  rcases zqf.1 h with rfl|h
  . omega
  . have:=iS h;omega
theorem iT{m:Modl}(h:R1 m=zf):¬1000<m.fs.foldl xO 0/\m.fs.length<=12/\I7 m=0:=by
 grind [R1]
theorem Oc{m:Modl}(I:m.ok)(h:R1 m=zf):∀c∈m.fs,LOk c/\c.regs.length*24<=bigN:=by
 obtain ⟨h1,h2,h3⟩:=iT h;have D:=yW h3;have Q:∀c∈m.fs,Ml c<=640000000000000:=fun c hc=>by
  obtain⟨⟨q1,Y,q3⟩,X⟩:=qA (D c hc);have U:=(I.1 c hc).1
  have:Dy c.blocks<=c.blocks.length*1599289640416:=qB c.blocks fun b hb=>by
   have:=(U.2.1 b hb).2
   grind
  grind [Ml]
 have hmo:=qC m.fs Q;have hmo2:m.fs.length*640000000000000<=12*640000000000000:=zjh _ h2;rw[GL m.fs 0 (by omega) (by omega)]at h1;intro c hc;obtain⟨⟨q1,Y,q3⟩,X⟩:=qA (D c hc);have V:=iS hc;have U:=(I.1 c hc).1;have hsb:=(I.1 c hc).2;refine⟨⟨by grind,by omega,by grind,by omega,fun b hb=>?_,fun b hb=>(yZ (yX (X b hb)).2).1⟩,by grind⟩;have hbl:=iR hb;obtain⟨k1,k2⟩:=yX (X b hb);have G:=U.2.1 b hb;exact⟨G.2,by grind [Ml],G.1,fun x J=>(yY (k1 x J)).1,fun x J=>(yY (k1 x J)).2,(yZ k2).2⟩
def O2(e:Endd)(r:Nat):List Ins->Nat
 |[]=>if e.kind≠1/\e.a=(r:Int)then 1 else 0
 |x::l=>if(r:Int)∈readsD x then 1 else if writesD x=(r:Int)then 2 else O2 e r l
def at2(O:List (List Bool))(i j:Nat):Bool:=(O.getD i []).getD j zf
theorem Gw{l:List Bool}{i j:Nat}{v:Bool}(h:i<l.length):(l.set i v).getD j zf=if i=j then v else l.getD j zf:=by
 grind
theorem tV{O:List (List Bool)}{i j:Nat}{r:List Bool}(h:i<O.length):(O.set i r).getD j []=if i=j then r else O.getD j []:=by
 grind
theorem iU(r:Nat):∀(rs:List Int)(w:List Bool),(∀q∈rs,0<=q/\q<(w.length:Int))->((rs.foldl Mk w).getD r zf=zt↔(r:Int)∈rs\/w.getD r zf=zt)
 |[],w,_=>by simp
 |q :: rs,w,h=>by
  have hq:=h q (zqw ..);rw[zke,iU r rs (Mk w q) (by grind [Go.Proofs.AmEnv.Mk])];grind [Mk]
theorem zA{x:Ins}{w:List Bool}{r:Nat}(hr:r<w.length)(hw:writesD x<w.length)(D:∀q∈readsD x,0<=q/\q<(w.length:Int)):((Dx w x).getD r zf=zt↔(r:Int)∈readsD x\/(¬writesD x=(r:Int)/\w.getD r zf=zt)):=by
 unfold Dx;rw[iU r _ _ (fun q G=>by
  split
  . rw[zqn];exact D q G
  . exact D q G)]
 by_cases h0:0<=writesD x
 . rw [if_pos h0,Gw (by omega)]
   by_cases e:(writesD x).toNat=r
   . rw[if_pos e];have:writesD x=(r:Int):=by omega
     simp[this]
   . rw[if_neg e];have:¬writesD x=(r:Int):=by omega
     simp[this]
 . rw[if_neg h0];have:¬writesD x=(r:Int):=by omega
   simp[this]
structure WOk'(n:Nat)(b:Blk):Prop where
 wr:∀x∈b.code,writesD x<n
 rd:∀x∈b.code,∀q∈readsD x,0<=q/\q<(n:Int)
 en:b.e.kind≠1->b.e.a<(n:Int)
theorem CU{b:Blk}{w:List Bool}{r:Nat}(hr:r<w.length)(G:b.e.kind≠1->b.e.a<(w.length:Int)):((endW b w).getD r zf=zt↔(b.e.kind≠1/\b.e.a=(r:Int))\/w.getD r zf=zt):=by
 grind [endW]
theorem iV{e:Endd}{r n:Nat}{p:Prop}(V:r<n){l:List Ins}(G:∀x∈l,writesD x<n)(I:∀x∈l,∀q∈readsD x,0<=q/\q<(n:Int)):∀(k:Nat)(w:List Bool),k<=l.length->w.length=n->(w.getD r zf=zt↔O2 e r (l.drop k)=1\/(O2 e r (l.drop k)=0/\p))->((yP l k w).getD r zf=zt↔O2 e r l=1\/(O2 e r l=0/\p))
 |0,w,_,_,h=>h
 |k + 1,w,hk,hw,h=>by
  have D:k<l.length:=hk;have Q:=zqe D;rw[yP,zqh D];refine iV V G I k _ (by omega) ((Oa _ _).trans hw) ?_;show(Dx w l[k]).getD r zf=zt↔_
  rw[zA (by omega) (by rw[hw];exact G _ Q) (by rw[hw];exact I _ Q),h,zkq D,O2];by_cases J:(r:Int)∈readsD l[k]
  . simp[J]
  . by_cases U:writesD l[k]=(r:Int)
    . simp[J,U]
    . simp[J,U]
theorem CV{b:Blk}{w:List Bool}{r n:Nat}(hb:WOk' n b)(G:r<n)(D:w.length=n):((walkD b w).getD r zf=zt↔O2 b.e r b.code=1\/(O2 b.e r b.code=0/\w.getD r zf=zt)):=by
 unfold walkD;refine iV G hb.wr hb.rd _ _ (zjb _) ((Vo _ _).trans D) ?_;rw[CU (by omega) (by rw[D];exact hb.en),zkp,O2];grind
inductive Wan(l:List Blk)(r:Nat):Nat->Prop
 |here {i:Nat} {b:Blk}:l[i]?=zs b->O2 b.e r b.code=1->Wan l r i
 |step {i:Nat} {b:Blk} {t:Int}:l[i]?=zs b->O2 b.e r b.code=0->t∈tosD b.e->Wan l r t.toNat->Wan l r i
theorem iW(m:List Bool)(j:Nat):∀(n i:Nat)(s:List Bool×Bool),i+n<=s.1.length->((Dw m n i s).1.getD j zf=zt↔s.1.getD j zf=zt\/(i<=j/\j<i+n/\m.getD j zf=zt))
 |0,i,s,_=>by
  show s.1.getD j zf=zt↔_
  grind
 |n + 1,i,s,h=>by
  have hl:=Rq m i s;rw[Dw,iW m j n (i+1) (uSt m i s) (by omega)];have J:(uSt m i s).1.getD j zf=zt↔s.1.getD j zf=zt\/(i=j/\m.getD j zf=zt):=by
   unfold uSt;grind
  grind
theorem iX{a m:List Bool}(h:a.length=m.length)(j:Nat):((unionD a m).1.getD j zf=zt↔a.getD j zf=zt\/m.getD j zf=zt):=by
 unfold unionD;rw[iW m j _ _ _ (by simp;omega)]
 grind
structure Snd(l:List Blk)(s:List (List Bool)×List (List Bool)):Prop where
 a:∀i r,at2 s.1 i r=zt->Wan l r i
 b:∀i r,at2 s.2 i r=zt->∃b t,l[i]?=zs b/\t∈tosD b.e/\Wan l r t.toNat
theorem JQ{N n:Nat}{A:List (List Bool)}(h:C5 N n A){i r:Nat}(e:at2 A i r=zt):i<N/\r<n:=by
 unfold at2 at e;have hi:i<N:=by
  by_cases hi:i<N
  . exact hi
  . rw[zqb,zqb,zkr (l:=A) (by have:=h.1;omega)]at e;simp at e
 refine⟨hi,?_⟩;by_cases D:r<n
 . exact D
 . rw[zqb,zkr (by have:=h.get hi;omega)]at e;cases e
theorem qD{N n:Nat}{A:List (List Bool)}(h:C5 N n A){i j r:Nat}{q:List Bool}(hi:i<N):at2 (A.set i q) j r=if i=j then q.getD r zf else at2 A j r:=by
 unfold at2;rw[tV (by rw[h.1];exact hi)];split<;>rfl
theorem iY{N n:Nat}{A:List (List Bool)}(I:C5 N n A){i:Nat}(hi:i<N):∀(L:List Int){B:List (List Bool)},(∀t∈L,0<=t/\t<(N:Int))->C5 N n B->∀j r,(at2 (L.foldl (joinB A i) B) j r=zt↔at2 B j r=zt\/(j=i/\∃t∈L,at2 A t.toNat r=zt))
 |[],B,_,hB,j,r=>by simp
 |t :: L,B,hL,hB,j,r=>by
  have ht:=hL t (zqw ..);rw[zke,iY I hi L (fun q D=>hL q (zqx _ D)) (hB.join hi)]
  have:at2 (joinB A i B t) j r=zt↔at2 B j r=zt\/(j=i/\at2 A t.toNat r=zt):=by
   unfold joinB;rw[qD hB hi];by_cases e:i=j
   . rw[if_pos e,iX (by rw[hB.get hi,I.get (by omega)])]
     grind [at2]
   grind
  grind
structure BOk(l:List Blk)(n:Nat):Prop where
 w:∀b∈l,WOk' n b
 t:∀b∈l,∀t∈tosD b.e,0<=t/\t<(l.length:Int)
section
variable {l:List Blk}{n i:Nat}{b:Blk}{s:Jw}
theorem iZ(ok:BOk l n)(hb:l[i]?=zs b)(G:C5 l.length n s.1)(hB:C5 l.length n s.2.1):
 (∀j r,at2 (M2 b i s).2.1 j r=zt↔at2 s.2.1 j r=zt\/(j=i/\∃t∈tosD b.e,at2 s.1 t.toNat r=zt))/\
 (∀j r,r<n->(at2 (M2 b i s).1 j r=zt↔at2 s.1 j r=zt\/(j=i/\(O2 b.e r b.code=1\/(O2 b.e r b.code=0/\at2 (M2 b i s).2.1 i r=zt))))):=by
 have hi:=(zqv.1 hb).1;have I:=zky hb;have D:C5 l.length n ((tosD b.e).foldl (joinB s.1 i) s.2.1):=hB.joins hi _;refine⟨fun j r=>iY G hi _ (ok.t b I) hB j r,fun j r J=>?_⟩;show at2 (s.1.set i (unionD (s.1.getD i []) (walkD b (((tosD b.e).foldl (joinB s.1 i) s.2.1).getD i []))).1) j r=zt↔_
 rw[qD G hi];by_cases e:i=j
 . subst e
   rw[if_pos rfl,iX (by rw[G.get hi,Ob,D.get hi]),CV (ok.w b I) J (D.get hi)];unfold at2;simp only[true_and];rfl
 grind
theorem tW(ok:BOk l n)(hb:l[i]?=zs b)(J:C5 l.length n s.1)(hB:C5 l.length n s.2.1)(h:Snd l (s.1,s.2.1)):Snd l ((M2 b i s).1,(M2 b i s).2.1):=by
 obtain ⟨U,V⟩:=iZ ok hb J hB;obtain⟨X,q2⟩:=Y9 (b:=b) (i:=i) (zqv.1 hb).1 J hB;have D:∀j r,at2 (M2 b i s).2.1 j r=zt->∃b t,l[j]?=zs b/\t∈tosD b.e/\Wan l r t.toNat:=fun j r e=>by
  rcases(U j r).1 e with e|⟨rfl,t,I,e⟩
  . exact h.b j r e
  . exact⟨b,t,hb,I,h.a _ _ e⟩
 refine⟨fun j r e=>?_,D⟩;have Q:=(JQ X e).2;rcases(V j r Q).1 e with e|⟨rfl,e|⟨e,e2⟩⟩
 . exact h.a j r e
 . exact .here hb e
 . obtain⟨b',t,G,I,Y⟩:=D _ _ e2
   rw[hb]at G;cases G;exact .step hb e I Y
theorem jA(ok:BOk l n):∀(k:Nat){s:Jw},k<=l.length->C5 l.length n s.1->C5 l.length n s.2.1->Snd l (s.1,s.2.1)->Snd l ((passGo l k s).1,(passGo l k s).2.1)
 |0,s,_,_,_,h=>h
 |k+1,s,hk,hA,hB,h=>by
  have hb:=zqh (l:=l) (i:=k) hk;rw[passGo,hb];obtain⟨D,G⟩:=Y9 (b:=l[k]) (i:=k) hk hA hB;exact jA ok k (by omega) D G (tW ok hb hA hB h)
def Clo(l:List Blk)(n:Nat)(A B:List (List Bool))(i:Nat):Prop:=∀b,l[i]?=zs b->(∀r t,t∈tosD b.e->at2 A t.toNat r=zt->at2 B i r=zt)/\∀r,r<n->(O2 b.e r b.code=1\/(O2 b.e r b.code=0/\at2 B i r=zt))->at2 A i r=zt
theorem mV(hi:i<l.length)(G:C5 l.length n s.1)(hB:C5 l.length n s.2.1)(hg:(M2 b i s).2.2=zf):(M2 b i s).1=s.1/\s.2.2=zf:=by
 grind [stepL_ct]
theorem jB(ok:BOk l n):∀(k:Nat){s:Jw},k<=l.length->C5 l.length n s.1->C5 l.length n s.2.1->(passGo l k s).2.2=zf->(∀j,k<=j->j<l.length->Clo l n s.1 s.2.1 j)->(passGo l k s).1=s.1/\∀j,j<l.length->Clo l n (passGo l k s).1 (passGo l k s).2.1 j
 |0,s,_,_,_,_,h=>⟨rfl,fun j X=>h j (zjf _) X⟩
 |k + 1,s,hk,hA,hB,hg,h=>by
  have hb:=zqh (l:=l) (i:=k) hk;rw[passGo,hb]at hg|-;dsimp only at hg|-;obtain⟨Y,q2⟩:=Y9 (b:=l[k]) (i:=k) hk hA hB;have hs:(M2 l[k] k s).2.2=zf:=by
   rcases passGo_ct (l:=l) k (s:=M2 l[k] k s) (by omega) Y q2 with⟨_,e⟩|⟨e,_⟩
   . grind
   grind
  obtain⟨e1,e2⟩:=mV (b:=l[k]) hk hA hB hs;obtain⟨U,h2⟩:=iZ ok hb hA hB
  have:=jB ok k (s:=M2 l[k] k s) (by omega) Y q2 hg fun j X I b D=>by
   rw[e1]at h2|-;by_cases e:j=k
   . grind
   . obtain ⟨c1,c2⟩:=h j (by omega) I b D
     grind
  grind
theorem jC(ok:BOk l n):∀(k:Nat)(A B:List (List Bool)),fl A<k->C5 l.length n A->C5 l.length n B->Snd l (A,B)->Snd l ((M3 l k (A,B)).1,(M3 l k (A,B)).2.1)/\∀j,j<l.length->Clo l n (M3 l k (A,B)).1 (M3 l k (A,B)).2.1 j
 |0,A,B,h,_,_,_=>by omega
 |k + 1,A,B,h,hA,hB,hs=>by
  obtain⟨G,I⟩:=g8 (l:=l) l.length (s:=(A,B,zf)) (zjb _) hA hB;have D:=jA ok l.length (s:=(A,B,zf)) (zjb _) hA hB hs;rw[M3];split
  . rename_i hg
    rcases passGo_ct (l:=l) l.length (s:=(A,B,zf)) (zjb _) hA hB with⟨_,e⟩|⟨_,e⟩
    . grind
    . exact jC ok k _ _ (by grind) G I D
  . rename_i hg
    have hg:(passGo l l.length (A,B,zf)).2.2=zf:=by grind
    exact⟨D,(jB ok l.length (s:=(A,B,zf)) (zjb _) hA hB hg fun j hj hj2=>by omega).2⟩
end
theorem jD(N n i j:Nat):at2 (U9 N n) i j=zf:=by
 unfold at2 U9 noneL;grind
theorem CW{c:Cod}(ok:BOk c.blocks c.regs.length):(∀i r,r<c.regs.length->(at2 (liveD c).1 i r=zt↔Wan c.blocks r i))/\(∀i r b,r<c.regs.length->c.blocks[i]?=zs b->(at2 (liveD c).2.1 i r=zt↔∃t∈tosD b.e,Wan c.blocks r t.toNat)):=by
 obtain ⟨X,Q⟩:=jC ok (fl (U9 c.blocks.length c.regs.length)+1) (U9 c.blocks.length c.regs.length) (U9 c.blocks.length c.regs.length) (zjg _) (Z5 _ _) (Z5 _ _) ⟨fun i r e=>(by grind [jD]),fun i r e=>(by grind [jD])⟩;have U:∀i r,r<c.regs.length->Wan c.blocks r i->at2 (liveD c).1 i r=zt:=fun i r G h=>by
  induction h with
  |here hb V=>exact((Q _ (zqv.1 hb).1) _ hb).2 r G (.inl V)
  |step hb V I U Y=>exact((Q _ (zqv.1 hb).1) _ hb).2 r G (.inr ⟨V,((Q _ (zqv.1 hb).1) _ hb).1 r _ I Y⟩)
 refine⟨fun i r G=>⟨X.a i r,U i r G⟩,fun i r b G hb=>⟨fun e=>?_,fun⟨t,I,D⟩=>?_⟩⟩
 . obtain⟨b',t,J,I,D⟩:=X.b i r e
   grind
 . exact((Q _ (zqv.1 hb).1) _ hb).1 r t I (U _ r G D)
theorem Wan.inv{l:List Blk}{r i:Nat}{b:Blk}(hb:l[i]?=zs b)(h:Wan l r i):O2 b.e r b.code=1\/(O2 b.e r b.code=0/\∃t∈tosD b.e,Wan l r t.toNat):=by
 cases h with
 |here D G=>grind
 |step D G I J=>grind
theorem Wan.iff{l:List Blk}{r i:Nat}{b:Blk}(hb:l[i]?=zs b):Wan l r i↔O2 b.e r b.code=1\/(O2 b.e r b.code=0/\∃t∈tosD b.e,Wan l r t.toNat):=
 ⟨fun h=>h.inv hb,fun h=>by
   rcases h with h|⟨h,t,D,G⟩
   . exact .here hb h
   . exact .step hb h D G⟩
section
variable {m m':Modl}{c c':Cod}{C C':Int->List Int->Mst->Rs}{l:List Blk}{r1 r2:List Int}{s:Mst}{d:Int}
def LV(e:Endd)(P:Nat->Prop)(l:List Ins)(q:Nat):Prop:=O2 e q l=1\/(O2 e q l=0/\P q)
def qE(L:Nat->Prop)(r1 r2:List Int):Prop:=r1.length=r2.length/\∀q,L q->r1.getD q 0=r2.getD q 0
theorem LV.rd{e:Endd}{P:Nat->Prop}{x:Ins}{l:List Ins}{i:Int}(h:i∈readsD x)(h0:0<=i):LV e P (x::l) i.toNat:=by
 refine .inl ?_;grind [O2]
theorem LV.nx{e:Endd}{P:Nat->Prop}{x:Ins}{l:List Ins}{q:Nat}(h:LV e P l q)(G:writesD x≠(q:Int)):LV e P (x::l) q:=by
 grind [LV, O2]
theorem qE.rd{L:Nat->Prop}(h:qE L r1 r2){i:Int}(hi:L i.toNat):at' r1 i=at' r2 i:=h.2 _ hi
theorem qE.put{L D:Nat->Prop}(h:qE L r1 r2){i v:Int}(hi:∀q,D q->q≠i.toNat->L q):qE D (put' r1 i v) (put' r2 i v):=by
 refine⟨by rw[put_len,put_len];exact h.1,fun q G=>?_⟩;unfold put';rw[zqb,zqb,zqt,zqt,h.1];by_cases e:i.toNat=q
 . grind
 . rw[if_neg e,if_neg e,<-zqb,<-zqb]
   exact h.2 q (hi q G (fun h=>e h.symm))
theorem zB{e:Endd}{P:Nat->Prop}{x:Ins}{l:List Ins}(J:InsR m r1.length x)(h:qE (LV e P (x::l)) r1 r2)(h9:¬x.op=9):
 (doesI m x r1 s).1=(doesI m x r2 s).1/\(doesI m x r1 s).2.1=(doesI m x r2 s).2.1/\((doesI m x r1 s).1=0->qE (LV e P l) (doesI m x r1 s).2.2 (doesI m x r2 s).2.2):=by
 have D:∀i,i∈readsD x->0<=i->at' r1 i=at' r2 i:=fun i hi h0=>h.rd (LV.rd hi h0)
 have I:∀v,0<=x.dst->writesD x=x.dst->qE (LV e P l) (put' r1 x.dst v) (put' r2 x.dst v):=fun v h0 V=>h.put fun q U hne=>U.nx (by omega)
 have Q:writesD x=-1->qE (LV e P l) r1 r2:=fun V=>⟨h.1,fun q U=>h.2 q (U.nx (by omega))⟩
 have G:=J.dst;have ha:=J.a;have hb:=J.b;have hop:=J.op;obtain h1|h1|h1|h1|h1|h1|h1|h1|h1|h1:x.op=1\/x.op=2\/x.op=3\/x.op=4\/x.op=5\/x.op=6\/x.op=7\/x.op=8\/x.op=10\/x.op=11:=by omega
 all_goals
  simp only[h1,Int.reduceEq,false_or,or_false,true_or,or_true,forall_const,false_implies]at G ha hb;unfold doesI;simp only[h1,Int.reduceEq,↓reduceIte]
 . grind [writesD]
 . grind [readsD, writesD]
 . rw[D x.a (by simp[readsD,h1]) ha.1,D x.b (by simp[readsD,h1]) hb.1]
   split
   . exact⟨rfl,rfl,fun _=>I _ G.1 (by simp[writesD,h1])⟩
   grind
 . grind [readsD, writesD]
 . rw[D x.a (by simp[readsD,h1]) ha.1]
   split
   . exact⟨rfl,rfl,fun _=>I _ G.1 (by simp[writesD,h1])⟩
   grind
 . rw[D x.a (by simp[readsD,h1]) ha.1,D x.b (by simp[readsD,h1]) hb.1]
   split
   . exact⟨rfl,rfl,fun _=>Q (by simp[writesD,h1])⟩
   grind
 . grind [writesD]
 . grind [readsD, writesD]
 . grind [writesD]
 grind [readsD, writesD]
theorem jE{x:Ins}:(doesI m x r1 s).2.2.length=r1.length:=by
 unfold doesI
 repeat' split
 all_goals grind
theorem CX{x:Ins}:(doesI m x r1 s).2.1.steps=s.steps:=(pU (m:=m) (x:=x) (r:=r1) (s:=s)).2.2.1
def r7(x y:Rs):Prop:=match x with
 |.ret v s=>∃d,s.steps+1<=d/\y=.ret v (Bo d s)
 | .stop st c s=>if st=3 then s.out <+: y.st.out else ∃d,y=.stop st c (Bo d s)
def QT(L:Nat->Prop)(x y:I2):Prop:=match x with
 |.go r s=>∃D d,s.steps<=d/\qE L r D/\y=.go D (Bo d s)
 | .stop st c s=>if st=3 then s.out <+: y.st.out else ∃d,y=.stop st c (Bo d s)
theorem Vs{e:Endd}{P:Nat->Prop}{n:Nat}(hg:m'.gs=m.gs)(hC:∀f a s,Pl s (C' f a s).st/\(C' f a s).so)(hS:∀(f:Int) a s d,0<=f->f<m.fs.length->s.steps+1<=d->r7 (C f a s) (C' f a (Bo d s))):∀(l:List Ins)(r1 r2:List Int)(s:Mst)(d:Int),r1.length=n->(∀x∈l,InsR m n x)->s.steps<=d->qE (LV e P l) r1 r2->QT (LV e P []) (insF m C l r1 s) (insF m' C' l r2 (Bo d s))
 |[],r1,r2,s,d,hn,hx,hd,h=>⟨r2,d,hd,h,rfl⟩
 |x :: l,r1,r2,s,d,hn,hx,hd,h=>by
  have J:=hx x (zqw ..);have Q:∀y∈l,InsR m n y:=fun y G=>hx y (zqx _ G)
  have Y:=(Jv (m:=m') hC (x::l) r2 (Bo d s)).1.pre;rw[insF];by_cases h1:s.steps<1
  . rw[if_pos h1];unfold QT;dsimp only;rw[if_pos rfl];exact Y
  . rw [if_neg h1]
    rw[insF];have aa:¬(Bo d s).steps<1:=by show ¬s.steps+d<1;omega
    rw[if_neg aa,pV];have ab:(stp s).steps+1<=d:=by show s.steps-1+1<=d;omega
    by_cases D:x.op=9
    . rw [if_pos D,if_pos D]
      obtain ⟨k1,k2,k3,k4⟩:=J.c D;have ha:argsI x r2=argsI x r1:=by
       unfold argsI;refine(List.map_congr_left fun y G=>?_).symm;exact h.rd (LV.rd (by simp[readsD,D];exact G) (k2 y G).1)
      rw[ha];have q:=hS x.n (argsI x r1) (stp s) d k1.1 k1.2 ab;cases G:C x.n (argsI x r1) (stp s)with
      |stop z e2 s2=>
       rw[G]at q;unfold r7 at q;unfold QT;dsimp only at q|-;by_cases hz:z=3
       . rw [if_pos hz]at q|-
         cases U:C' x.n (argsI x r1) (Bo d (stp s))with
         |stop z2 e2 s3=>rw[U]at q;exact q
         |ret v s3=>
          rw[U]at q;exact q.trans (Jv (m:=m') hC l (if 0<=x.dst then put' r2 x.dst v else r2) s3).1.pre
       . rw[if_neg hz]at q|-
         obtain⟨I,q⟩:=q;rw[q];exact⟨I,rfl⟩
      |ret v s2=>
       rw[G]at q;obtain⟨I,hd',q⟩:∃I,s2.steps+1<=I/\C' x.n (argsI x r1) (Bo d (stp s))=.ret v (Bo I s2):=q;rw[q];refine Vs hg hC hS l (if 0<=x.dst then put' r1 x.dst v else r1) (if 0<=x.dst then put' r2 x.dst v else r2) s2 I (by split<;>first|exact hn|(rw[put_len];exact hn)) Q (by omega) ?_;by_cases h0:0<=x.dst
       . rw[if_pos h0,if_pos h0]
         exact h.put fun q X hne=>X.nx (by simp[writesD,D];omega)
       . rw[if_neg h0,if_neg h0]
         exact⟨h.1,fun q X=>h.2 q (X.nx (by simp[writesD,D];omega))⟩
    . rw [if_neg D,if_neg D,yN]
      have e0:∀s,doesI m' x r2 s=doesI m x r2 s:=fun s=>by unfold doesI gAt;rw[hg]
      rw[e0];obtain⟨a1,a2,a3⟩:=zB (s:=stp s) (by rw[hn];exact J) h D;rw[<-a1,<-a2];by_cases V:(doesI m x r1 (stp s)).1=0
      . rw[if_pos V,if_pos V]
        exact Vs hg hC hS l _ _ _ d (jE.trans hn) Q (by rw[CX];omega) (a3 V)
      . rw[if_neg V,if_neg V]
        unfold QT;dsimp only;rw[if_neg (by decide)];exact⟨d,rfl⟩
theorem dS:∀(l:List Ins)(r1:List Int)(s:Mst),match insF m C l r1 s with | .go r _=>r.length=r1.length | .stop _ _ _=>True
 |[],r1,s=>rfl
 |x :: l,r1,s=>by
  rw[insF];by_cases D:s.steps<1
  . grind
  . rw [if_neg D]
    by_cases G:x.op=9
    . rw [if_pos G]
      cases C x.n (argsI x r1) (stp s)with
      |stop=>trivial
      |ret v s2=>
       have:=dS l (if 0<=x.dst then put' r1 x.dst v else r1) s2
       grind
    . rw [if_neg G]
      by_cases I:(doesI m x r1 (stp s)).1=0
      . rw[if_pos I]
        have:=dS l (doesI m x r1 (stp s)).2.2 (doesI m x r1 (stp s)).2.1
        grind [jE]
      grind
def layI(r:Nat)(N:Int):Ins:=⟨1,0,r,0,0,N,[],[]⟩
def CY(c:Cod)(i:Int)(b:Blk):Prop:=b=blkAt c i\/∃r N,b=⟨layI r N::(blkAt c i).code,(blkAt c i).e⟩/\¬Wan c.blocks r i.toNat
theorem QU{n:Nat}{i:Int}{r:List Int}(h:s.steps<1)(hc:∀f a s,Pl s (C f a s).st/\(C f a s).so):N6 m C c (n+1) i r s=.stop 3 0 s:=by
 rw[N6];cases hb:(blkAt c i).code with
 |nil=>simp_all [insF]
 |cons x l=>rw[insF,if_pos h]
theorem tX{i:Int}(h0:0<=i)(h:i<c.blocks.length):c.blocks[i.toNat]?=zs (blkAt c i)/\blkAt c i∈c.blocks:=by
 have hi:i.toNat<c.blocks.length:=by omega
 have e:blkAt c i=c.blocks[i.toNat]:=by grind [blkAt]
 grind
theorem aA(hg:m'.gs=m.gs)(hc:CodR m c)(hB:∀i:Int,0<=i->i<c.blocks.length->CY c i (blkAt c' i))(X:∀f a s,Pl s (C f a s).st/\(C f a s).so)(hC:∀f a s,Pl s (C' f a s).st/\(C' f a s).so)(hS:∀(f:Int) a s d,0<=f->f<m.fs.length->s.steps+1<=d->r7 (C f a s) (C' f a (Bo d s))):∀(n n':Nat)(i:Int)(r1 r2:List Int)(s:Mst)(d:Int),s.steps.toNat<n->(Bo d s).steps.toNat<n'->0<=i->i<c.blocks.length->r1.length=c.regs.length->s.steps+1<=d->qE (fun q=>Wan c.blocks q i.toNat) r1 r2->r7 (N6 m C c n i r1 s) (N6 m' C' c' n' i r2 (Bo d s))
 |0,n',i,r1,r2,s,d,h,h',_,_,_,_,_=>absurd h (zjc _)
 |n+1,0,i,r1,r2,s,d,h,h',_,_,_,_,_=>absurd h' (zjc _)
 |n + 1,n'+1,i,r1,r2,s,d,h,h',i0,i1,hr,hd,ha=>by
  have ae:=(Mj (m:=m') (c:=c') hC (n'+1) i r2 (Bo d s)).1.pre;by_cases h1:s.steps<1
  . rw[QU h1 X];unfold r7;dsimp only;rw[if_pos rfl];exact ae
  obtain⟨g1,g2⟩:=tX i0 i1;obtain⟨b1,b2,b3⟩:=hc.b _ g2;have hL:∀q,LV (blkAt c i).e (fun q=>∃t∈tosD (blkAt c i).e,Wan c.blocks q t.toNat) (blkAt c i).code q↔Wan c.blocks q i.toNat:=fun q=>(Wan.iff g1).symm
  obtain ⟨D,J,ag,ab,he,hk,ht⟩:∃D J,s.steps<=J/\qE (fun q=>Wan c.blocks q i.toNat) r1 D/\insF m' C' (blkAt c' i).code r2 (Bo d s)=insF m' C' (blkAt c i).code D (Bo J s)/\(blkAt c' i).e=(blkAt c i).e/\J<=d:=by
   rcases hB i i0 i1 with e|⟨r,N,e,hw⟩
   . rw[e];exact⟨r2,d,by omega,ha,rfl,rfl,Int.le_refl _⟩
   . rw [e]
     refine⟨put' r2 r N,d-1,by omega,⟨by rw[put_len];exact ha.1,fun q hq=>?_⟩,?_,rfl,by omega⟩
     . rw[ha.2 q hq]
       unfold put';rw[zqb,zqb,zqt,if_neg (show ¬(r:Int).toNat=q from fun e2=>hw ((show q=r by omega)▸hq))]
     . show insF m' C' (layI r N::(blkAt c i).code) r2 (Bo d s)=_
       rw[insF,if_neg (by show ¬s.steps+d<1;omega),if_neg (by show ¬(1:Int)=9;decide)];rw[show doesI m' (layI r N) r2 (stp (Bo d s))=(0,stp (Bo d s),put' r2 r N)from by unfold doesI;rw[if_pos (show(layI r N).op=1 from rfl)];rfl];rw[if_pos rfl];show insF m' C' (blkAt c i).code (put' r2 r N) (stp (Bo d s))=_
       congr 1
       unfold stp Bo;congr 1;show s.steps+d-1=s.steps+(d-1);omega
  have q:=Vs (e:=(blkAt c i).e) (P:=fun q=>∃t∈tosD (blkAt c i).e,Wan c.blocks q t.toNat) (n:=c.regs.length) hg hC hS (blkAt c i).code r1 D s J hr b2 ag ⟨ab.1,fun q hq=>ab.2 q ((hL q).1 hq)⟩;have pp:=(Jv (m:=m) X (blkAt c i).code r1 s).1;have pq:=(Jv (m:=m') hC (blkAt c i).code D (Bo J s)).1;have aa:∀r s2,insF m C (blkAt c i).code r1 s=.go r s2->r.length=c.regs.length:=fun r s2 e=>by
   have:=dS (m:=m) (C:=C) (blkAt c i).code r1 s
   rw[e]at this;exact this.trans hr
  rw[N6,N6,he,hk];cases hy:insF m C (blkAt c i).code r1 s with
  |stop z e s2=>
   rw[hy]at q;unfold QT at q;unfold r7;dsimp only at q|-;by_cases hz:z=3
   . rw [if_pos hz]at q|-
     cases ac:insF m' C' (blkAt c i).code D (Bo J s)with
     |stop z2 e2 s3=>rw[ac]at q;exact q
     |go I s3=>
      rw[ac]at q;have q:s2.out <+: s3.out:=q;dsimp only;by_cases h1:s3.steps<1
      . rw[if_pos h1];exact q
      . rw [if_neg h1]
        by_cases G:(blkAt c i).e.kind=3
        . rw[if_pos G];exact q
        . rw[if_neg G]
          exact q.trans (Mj (m:=m') (c:=c') hC n' _ I (stp s3)).1.pre
   . rw[if_neg hz]at q|-
     obtain⟨d2,q⟩:=q;rw[q];exact⟨d2,rfl⟩
  |go r s2=>
   have af:=aa r s2 hy;rw[hy]at q pp;obtain⟨I,d2,hd2,Y,q⟩:∃I d2,s2.steps<=d2/\qE (LV (blkAt c i).e (fun q=>∃t∈tosD (blkAt c i).e,Wan c.blocks q t.toNat) []) r I/\insF m' C' (blkAt c i).code D (Bo J s)=.go I (Bo d2 s2):=q;rw[q];rw[q]at pq;have hm1:s2.out.length+s2.steps.toNat<=s.out.length+s.steps.toNat:=pp.me;have hle1:s.out.length<=s2.out.length:=pp.pre.length_le;have hm2:s2.out.length+(s2.steps+d2).toNat<=s.out.length+(s.steps+J).toNat:=pq.me;dsimp only;by_cases h1:s2.steps<1
   . rw [if_pos h1]
     show r7 (.stop 3 0 s2) _
     unfold r7;dsimp only;rw[if_pos rfl];by_cases Q:(Bo d2 s2).steps<1
     . rw[if_pos Q];exact zqp
     . rw [if_neg Q]
       by_cases G:(blkAt c i).e.kind=3
       . rw[if_pos G];exact zqp
       . rw[if_neg G]
         exact(Mj (m:=m') (c:=c') hC n' _ I (stp (Bo d2 s2))).1.pre
   . have Q:¬(Bo d2 s2).steps<1:=by show ¬s2.steps+d2<1;omega
     rw[if_neg h1,if_neg Q,pV];have V:(blkAt c i).e.kind≠1->0<=(blkAt c i).e.a->at' I (blkAt c i).e.a=at' r (blkAt c i).e.a:=fun ad h0=>(Y.rd (.inl (by rw[O2,if_pos ⟨ad,(zjk h0).symm⟩]))).symm
     by_cases G:(blkAt c i).e.kind=3
     . rw [if_pos G,if_pos G]
       have hv:(if(blkAt c i).e.a<0 then 0 else at' I (blkAt c i).e.a)=(if(blkAt c i).e.a<0 then 0 else at' r (blkAt c i).e.a):=by
        split
        . rfl
        . exact V (by omega) (by omega)
       rw[hv];exact⟨d2,by show s2.steps-1+1<=d2;omega,rfl⟩
     . rw [if_neg G,if_neg G]
       have hi:(if(blkAt c i).e.kind=2/\at' I (blkAt c i).e.a=0 then(blkAt c i).e.els else(blkAt c i).e.to)=(if(blkAt c i).e.kind=2/\at' r (blkAt c i).e.a=0 then(blkAt c i).e.els else(blkAt c i).e.to):=by
        by_cases k2:(blkAt c i).e.kind=2
        . rw[V (by omega) (b3.a2 k2).1]
        . rw[if_neg (fun h=>k2 h.1),if_neg (fun h=>k2 h.1)]
       rw [hi];have U:(if(blkAt c i).e.kind=2/\at' r (blkAt c i).e.a=0 then(blkAt c i).e.els else(blkAt c i).e.to)∈tosD (blkAt c i).e/\0<=(if(blkAt c i).e.kind=2/\at' r (blkAt c i).e.a=0 then(blkAt c i).e.els else(blkAt c i).e.to)/\(if(blkAt c i).e.kind=2/\at' r (blkAt c i).e.a=0 then(blkAt c i).e.els else(blkAt c i).e.to)<c.blocks.length:=by
        have hkk:=b3.k;unfold tosD;by_cases k2:(blkAt c i).e.kind=2
        . rw[if_neg (by omega),if_pos k2]
          split
          . exact⟨by simp,b3.els k2⟩
          . exact⟨by simp,b3.to G⟩
        . rw[if_pos (by omega),if_neg (fun h=>k2 h.1)]
          exact⟨by simp,b3.to G⟩
       generalize (if(blkAt c i).e.kind=2/\at' r (blkAt c i).e.a=0 then(blkAt c i).e.els else(blkAt c i).e.to)=t at U;have h':(s.steps+d).toNat<n'+1:=h';refine aA hg hc hB X hC hS n n' t r I (stp s2) d2 (by show(s2.steps-1).toNat<n;omega) (by show(s2.steps-1+d2).toNat<n';omega) U.2.1 U.2.2 af (by show s2.steps-1+1<=d2;omega) ⟨Y.1,fun q hq=>Y.2 q ?_⟩;by_cases e1:(blkAt c i).e.kind≠1/\(blkAt c i).e.a=(q:Int)
       . exact .inl (by rw[O2,if_pos e1])
       . exact .inr ⟨by rw[O2,if_neg e1],t,U.1,hq⟩
theorem aB(hg:m'.gs=m.gs)(I:ModR' m)(hl:m'.fs.length=m.fs.length)(J:∀f:Int,0<=f->f<m.fs.length->(Q4 m' f).regs=(Q4 m f).regs/\∀i:Int,0<=i->i<(Q4 m f).blocks.length->CY (Q4 m f) i (blkAt (Q4 m' f) i)):∀(k:Nat)(f:Int)(a:List Int)(s:Mst)(d:Int),0<=f->f<m.fs.length->s.steps+1<=d->r7 (M9 m k f a s) (M9 m' k f a (Bo d s))
 |0,f,a,s,d,f0,f1,hd=>by unfold r7 M9;grind
 |k + 1,f,a,s,d,f0,f1,hd=>by
  rw [M9,M9];have D:Q4 m f∈m.fs:=by
   grind [Q4]
  have hc:=I.f _ D;obtain⟨Q,U⟩:=J f f0 f1;by_cases h:32<=s.calls
  . rw[if_pos h,if_pos (show 32<=(Bo d s).calls from h)]
    unfold r7;grind
  . rw [if_neg h,if_neg (show ¬32<=(Bo d s).calls from h),Q]
    have hnb:=hc.nb;have G:(initR (Q4 m f).regs.length a).length=(Q4 m f).regs.length:=by
     grind [initR]
    exact aA (m:=m) (c:=Q4 m f) hg hc U (Rp k) (Rp k) (aB hg I hl J k) (s.steps.toNat+1) ((Bo d s).steps.toNat+1) 0 _ _ {s with calls:=s.calls+1} d (zjg _) (zjg _) (Int.le_refl _) (by omega) G hd ⟨rfl,fun _ _=>rfl⟩
theorem zC{input:List Int}{st:Int}(h0:0<=st)(hg:m'.gs=m.gs)(J:ModR' m)(hl:m'.fs.length=m.fs.length)(D:U8 m'=U8 m)(G:0<=U8 m/\U8 m<m.fs.length)(Q:∀f:Int,0<=f->f<m.fs.length->(Q4 m' f).regs=(Q4 m f).regs/\∀i:Int,0<=i->i<(Q4 m f).blocks.length->CY (Q4 m f) i (blkAt (Q4 m' f) i)):
 ((Q0 m input st).sc.1≠3->(Q0 m' input (2*st+1)).sc=(Q0 m input st).sc/\Bm m' input (2*st+1)=Bm m input st)/\Bm m input st <+: Bm m' input (2*st+1):=by
 have q:=aB hg J hl Q 33 (U8 m) [] (sI st input m.gs) (st+1) G.1 G.2 (by show st+1<=st+1;omega);have e:M9 m' 33 (U8 m) [] (Bo (st+1) (sI st input m.gs))=Q0 m' input (2*st+1):=by
  unfold Q0;rw[D,hg]
  congr 1
  unfold Bo sI;congr 1;show st+(st+1)=2*st+1;omega
 rw[e]at q
 replace q:r7 (Q0 m input st) (Q0 m' input (2*st+1)):=q
 unfold Bm;cases I:Q0 m input st with
 |ret v s=>
  rw[I]at q;obtain⟨d,_,q⟩:∃d,s.steps+1<=d/\Q0 m' input (2*st+1)=.ret v (Bo d s):=q;rw[q];exact⟨fun _=>⟨rfl,rfl⟩,zqp⟩
 |stop z c s=>
  rw[I]at q;unfold r7 at q;dsimp only at q;by_cases hz:z=3
  . rw[if_pos hz]at q
    exact⟨fun h=>absurd hz h,q⟩
  . rw[if_neg hz]at q
    obtain⟨d,q⟩:=q;rw[q];exact⟨fun _=>⟨rfl,rfl⟩,zqp⟩
end
structure Sig(a b:Cod):Prop where
 n:a.name=b.name
 r:a.regs=b.regs
 p:a.ps=b.ps
 t:a.ty=b.ty
structure SigM(m m':Modl):Prop where
 g:m'.gs=m.gs
 l:m'.fs.length=m.fs.length
 s:∀n:Int,Sig (codI m'.fs n) (codI m.fs n)
section
variable {m m':Modl}{c c':Cod}
theorem Od(h:SigM m m')(D:c'.regs=c.regs)(x:Ins):F9 m' c' x=F9 m c x:=by
 have s:=h.s x.n;have G:D3 m' c' x=D3 m c x:=by
  unfold D3 Xz gZ P0;rw[h.g,h.l,s.p,s.r,D]
 have I:X5 m' c' x=X5 m c x:=by
  unfold X5 Az isD;rw[h.g,s.r,s.t,D]
 unfold F9;rw[G,I,s.p]
theorem Vt{l:List Int}(h:∀e∈l,e=0):F5 l=0:=by
 induction l with
 |nil=>rfl
 |cons a l G=>
  simp_all [F5]
theorem Vu(h:SigM m m'):U8 m'=U8 m:=by
 have I:∀(l D:List Cod),D.length=l.length->(∀n:Nat,(D.getD n ⟨[],0,0,[],[]⟩).name=(l.getD n ⟨[],0,0,[],[]⟩).name)->D.findIdx? (fun c=>decide (c.name=F1))=l.findIdx? (fun c=>decide (c.name=F1)):=by
  intro l
  induction l with
  |nil=>grind
  |cons a l Q=>
   intro D G J;cases D with
   |nil=>simp at G
   |cons a' D=>
    have h0:=J 0;simp only[List.getD_cons_zero]at h0;rw[zja,zja,h0,Q D (by grind) (fun n=>by have:=J (n+1);grind)]
 unfold U8 idxOf;rw[I m.fs m'.fs h.l fun n=>by have:=(h.s (n:Int)).n;grind [codI]]
theorem tY(h:SigM m m')(D:I7 m=0)(hc:∀c'∈m'.fs,M8 m' c'=0):I7 m'=0:=by
 obtain ⟨h1,Q⟩:=Ce D;have hf:F5 (m'.fs.map (M8 m'))=0:=Vt (by grind)
 have G:Uw m'=Uw m:=by
  have:z6 m'=z6 m:=Vu h
  have s:=h.s (z6 m);unfold Uw;rw[this,s.t,s.p]
 unfold I7 at D|-;by_cases q:F5 (m.gs.map Uv)=0
 . rw[if_pos (by rw[h.g];exact q),if_pos hf,G];exact Q
 grind
theorem jF(s:Sig c' c)(hc:M8 m c=0)(hl:c'.blocks.length=c.blocks.length)(hb:∀b∈c'.blocks,(∀x∈b.code,F9 m' c' x=0)/\Ee c b.e=0):M8 m' c'=0:=by
 have hz:F5 (c'.blocks.map (Jt m' c'))=0:=Vt fun e D=>by
  obtain⟨b,G,rfl⟩:=zks.1 D;obtain⟨U,V⟩:=hb b G;have e2:Ee c' b.e=Ee c b.e:=by unfold Ee;rw[hl,s.r,s.t]
  unfold Jt;rw[if_pos (Vt (by grind)),e2]
  exact V
 unfold M8 at hc|-;rw[hl,s.r,s.p,s.t];grind
def Bd(c:Cod)(b:Nat):Blk:=c.blocks.getD b ⟨[],⟨0,0,0,0⟩⟩
def freeC(c:Cod)(b r:Nat)(N:Int):Cod:={c with blocks:=c.blocks.set b ⟨layI r N::(Bd c b).code,(Bd c b).e⟩}
def codN(m:Modl)(f:Nat):Cod:=m.fs.getD f ⟨[],0,0,[],[]⟩
def Z6(m:Modl)(f b r:Nat)(N:Int):Modl:=⟨m.gs,m.fs.set f (freeC (codN m f) b r N)⟩
variable {f b r:Nat}{N:Int}
theorem jG(hf:f<m.fs.length)(k:Int):codI (Z6 m f b r N).fs k=if f=k.toNat then freeC (codN m f) b r N else codI m.fs k:=by
 grind [codI, Z6]
theorem Vv(hf:f<m.fs.length):SigM m (Z6 m f b r N):=by
 refine⟨rfl,zqn,fun n=>?_⟩;rw[jG hf];split
 . rename_i e
   have:codI m.fs n=codN m f:=by unfold codI codN;rw[<-e]
   rw[this];exact⟨rfl,rfl,rfl,rfl⟩
 . exact⟨rfl,rfl,rfl,rfl⟩
theorem jH(hf:f<m.fs.length):codN m f∈m.fs:=by
 grind [codN]
theorem jI(hb:b<c.blocks.length):Bd c b∈c.blocks:=by
 grind [Bd]
theorem mem_free{D:Blk}(h:D∈(freeC c b r N).blocks):D∈c.blocks\/D=⟨layI r N::(Bd c b).code,(Bd c b).e⟩:=zkj h
theorem JR(hc:M8 m c=0)(J:r<c.regs.length)(hN:-2147483648<=N/\N<=2147483647)(m':Modl)(c':Cod)(Q:c'.regs=c.regs):F9 m' c' (layI r N)=0:=by
 have D:d8 c.regs (r:Int)=1\/d8 c.regs (r:Int)=2:=by
  unfold M8 at hc;split at hc
  . cases hc
  . split at hc
    . cases hc
    . split at hc
      . cases hc
      . rename_i U
        have:(c.regs.any fun n=>!E8 n)=zf:=by
         cases h:(c.regs.any fun n=>!E8 n)with
         |false=>rfl
         |true=>exact absurd (.inr (.inr h)) U
        have G:=List.any_eq_false.1 this (c.regs[r]) (zqe J);have V:d8 c.regs (r:Int)=c.regs[r]:=by unfold d8;simp[J]
        rw[V];unfold E8 at G;simp only[Bool.not_eq_true,Bool.not_eq_false',Bool.or_eq_true,decide_eq_true_eq]at G;exact G
 have X:wrapD (d8 c.regs (r:Int)) N=N:=by
  unfold wrapD;rcases D with e|e<;>rw[e]
  . rw[if_neg (by decide),if_pos rfl,IntKind.wrap_i64,IntKind.wrap_i32];omega
  . rw[if_neg (by decide),if_neg (by decide),if_pos rfl]
 have hf:Bx (layI r N)=zt:=by unfold Bx;rw[if_neg (show ¬(layI r N).op=3 from by show ¬(1:Int)=3;decide),if_neg (show ¬(layI r N).op=4 from by show ¬(1:Int)=4;decide)];rfl
 have I:thereD (r:Int) c.regs.length=zt:=by unfold thereD;simp;omega
 have Y:D3 m' c' (layI r N)=zt:=by
  have e1:readsD (layI r N)=[]:=rfl;have e2:writesD (layI r N)=(r:Int):=rfl;have e3:m0 (layI r N)=zf:=by
   unfold m0;show((_:Bool)&&decide ((r:Int)<0))=zf
   rw[decide_eq_false (by omega),Bool.and_false]
  have e4:gZ m' c' (layI r N)=zt:=by
   unfold gZ;show(if(1:Int)=1 then decide (wrapD (d8 c'.regs (r:Int)) N=N)else _)=zt
   rw[if_pos rfl,Q,X];exact decide_eq_true rfl
  unfold D3 Xz;rw[e1,e2,e3,e4,Q,I,decide_eq_false (show ¬(layI r N).op=9 from by show ¬(1:Int)=9;decide),decide_eq_true (show 0<=(r:Int) by omega),decide_eq_false (show ¬(r:Int)=-1 by omega)];rfl
 have ht:X5 m' c' (layI r N)=zt:=rfl;unfold F9;rw[if_pos hf,if_pos Y,if_neg (show ¬(layI r N).op=9 from by show ¬(1:Int)=9;decide),if_pos ht]
theorem mW(hm:I7 m=0)(hf:f<m.fs.length)(hb:b<(codN m f).blocks.length)(hr:r<(codN m f).regs.length)(hN:-2147483648<=N/\N<=2147483647):I7 (Z6 m f b r N)=0:=by
 have V:=Vv (b:=b) (r:=r) (N:=N) hf;obtain⟨h1,_⟩:=Ce hm;have hold:∀c∈m.fs,∀b∈c.blocks,(∀x∈b.code,F9 (Z6 m f b.code.length r N) c x=F9 m c x)->True:=fun _ _ _ _ _=>trivial
 refine tY V hm fun c' G=>?_
 rcases zkj G with G|rfl
 . obtain ⟨_,X⟩:=Gu (h1 c' G)
   exact jF (c:=c') ⟨rfl,rfl,rfl,rfl⟩ (h1 c' G) rfl fun Y D=>by
    obtain⟨Q,U⟩:=dL (X Y D);exact⟨fun x I=>(Od V rfl x).trans (Q x I),U⟩
 . have J:=h1 _ (jH hf)
   obtain⟨_,X⟩:=Gu J;refine jF (c:=codN m f) ⟨rfl,rfl,rfl,rfl⟩ J zqn fun Y D=>?_
   rcases mem_free D with D|rfl
   . obtain⟨Q,U⟩:=dL (X Y D)
     exact⟨fun x I=>(Od V rfl x).trans (Q x I),U⟩
   . obtain⟨Q,U⟩:=dL (X _ (jI hb))
     refine⟨fun x I=>?_,U⟩;rcases zqf.1 I with rfl|I
     . exact JR J hr hN _ _ rfl
     . exact(Od V rfl x).trans (Q x I)
theorem zD{input:List Int}{st:Int}(h0:0<=st)(J:ModR' m)(G:0<=U8 m/\U8 m<m.fs.length)(hf:f<m.fs.length)(hb:b<(codN m f).blocks.length)(Q:¬Wan (codN m f).blocks r b):
 ((Q0 m input st).sc.1≠3->(Q0 (Z6 m f b r N) input (2*st+1)).sc=(Q0 m input st).sc/\Bm (Z6 m f b r N) input (2*st+1)=Bm m input st)/\Bm m input st <+: Bm (Z6 m f b r N) input (2*st+1):=by
 have I:=Vv (b:=b) (r:=r) (N:=N) hf;refine zC h0 rfl J I.l (Vu I) G fun k k0 k1=>?_
 have e:Q4 (Z6 m f b r N) k=if f=k.toNat then freeC (codN m f) b r N else Q4 m k:=jG hf k
 rw[e];by_cases q:f=k.toNat
 . rw [if_pos q]
   have e2:Q4 m k=codN m f:=by unfold Q4 codN;rw[q]
   rw[e2];refine⟨rfl,fun i i0 i1=>?_⟩;grind [CY, blkAt, freeC, Bd]
 . rw[if_neg q]
   exact⟨rfl,fun i _ _=>.inl rfl⟩
end
section
variable {c d:Cod}{K:PK}
def w9:=r9 (fun x:Cod=>[x.F]) (fun x=>[x.O]) Cod.ok
theorem aC(hT:T 37=zs w9){x:Cod}(h:x.ok){K:PK}:evP ⟨A0,T,A2⟩ (.call 37 [x.F] K)=zs (.val (openTs K.os.length [x.O]).1 ⟨K.os++(openTs K.os.length [x.O]).2,K.ext,K.tch⟩):=B8 hT (by simp only[Cod.viewF,XP,seval]) (C1 (a:=fun x:Cod=>[x.F]) (r:=fun x=>[x.O]) (fun x y e=>by simp_all [Cod.F_iff]) x h) (by
 simp only[Cod.okO,Cod.noF,XP,seval])
end
section
variable {l:List Glo}{i:Nat}
theorem QV(hl:i<l.length)(G:l.length*40<=bigN):
 evP ⟨A0,T,A2⟩ (.code Pt [(0,fslN (l.map Glo.F)),(3,.msl 0 0 i 4),(4,.int .i64 i)] ⟨[.row 0 ((l.take i).map Glo.F) 4],0,[]⟩)=zs (.ok .normal [(0,fslN (l.map Glo.F)),(3,.msl 0 0 (i+1) 4),(4,.int .i64 ((i+1:Nat):Int))] ⟨[.row 0 ((l.take (i+1)).map Glo.F) 4],0,[]⟩):=by
 unfold Pt;have D:decide ((i:Int)<((l.map Glo.F).length:Int))=zt:=by simp[hl]
 have hi:=A9 (F:=Glo.F) hl;have J:((l.take i).map Glo.F).length=i:=by simp;omega
 have Q:=B7 (i:=i) (by grind);have hz:(i+1)*40<=140737488355328:=by grind
 have I:=map_take (F:=Glo.F) hl;simp_all [Glo.F, XP]
theorem QW(hl:0<l.length):
 evP ⟨A0,T,A2⟩ (.code Pt [(0,fslN (l.map Glo.F)),(3,.nilsl),(4,.int .i64 0)] ⟨[],0,[]⟩)=zs (.ok .normal [(0,fslN (l.map Glo.F)),(3,.msl 0 0 1 4),(4,.int .i64 ((1:Nat):Int))] ⟨[.row 0 ((l.take 1).map Glo.F) 4],0,[]⟩):=by
 unfold Pt;have G:decide ((0:Int)<((l.map Glo.F).length:Int))=zt:=by simp[hl]
 have hi:Pb Ed (fslN (l.map Glo.F)) (.int .i64 0)=zs (.fptr (Glo.F l[0]) 0):=ix_fslN (te:=Ed) (k:=.i64) (i:=0) (A9 (F:=Glo.F) hl) rfl;have D:=map_take (F:=Glo.F) hl;rw[zkk]at D;have D:[Glo.F l[0]]=(l.take 1).map Glo.F:=D;simp only[Glo.F]at hi;rw[<-D];simp only[G,hi,Glo.F,show IntKind.i64.wrap (0+1)=((1:Nat):Int)from rfl,XP,Nat.reduceAdd,Nat.reduceSub,Nat.reduceLT,Nat.reduceLeDiff,Nat.reduceEqDiff,Nat.reduceMul,↓reduceIte]
theorem QX{y:AV}{K:PK}:∃fr',evP ⟨A0,T,A2⟩ (.code Pt [(0,fslN (l.map Glo.F)),(3,y),(4,.int .i64 l.length)] K)=zs (.ok (.exit 0) fr' K)/\lookP fr' 3=y:=by
 unfold Pt;have D:decide ((l.length:Int)<((l.map Glo.F).length:Int))=zf:=by simp
 simp only[D,XP,seval];exact⟨_,rfl,rfl⟩
theorem Mm  {l:List Glo} (J:l.length*40<=bigN):AM.Comes ⟨A0,T,A2⟩ 22 [fslN (l.map Glo.F)] [ownd 0 4 (l.map Glo.F)]:=by
 obtain⟨fr',y,os,D,G,I⟩:=Hp (P:=⟨A0,T,A2⟩) (c:=Pt) (A:=fslN (l.map Glo.F)) (O:=Glo.F) (sz:=4) (l:=l) (fun h=>QW h) (fun i h=>QV h J) (fun y K=>QX);refine⟨[y],⟨os,0,[]⟩,?_,D9 I⟩;rw[A4 (c:=TH) (nt:=19) (rs:=[.tmp 2]) rfl (by simp)];unfold TH;unfold K0;rcases I with⟨_,rfl,rfl⟩|⟨rfl,rfl⟩
 . simp_all [XP]
 simp_all [XP]
def g9:=r9 (fun p:(List Glo)=>[fslN (p.map Glo.F)]) (fun p=>[ownd 0 4 (p.map Glo.F)]) (fun p=>p.length*40<=bigN)
theorem dT(D:T 22=zs g9){l:List Glo}{K:PK}(G:l.length*40<=bigN):evP ⟨A0,T,A2⟩ (.call 22 [fslN (l.map Glo.F)] K)=zs (.val (openTs K.os.length [ownd 0 4 (l.map Glo.F)]).1 ⟨K.os++(openTs K.os.length [ownd 0 4 (l.map Glo.F)]).2,K.ext,K.tch⟩):=B8 D (by simp only[VV,XP,seval]) (C1 (a:=fun p:(List Glo)=>[fslN (p.map Glo.F)]) (r:=fun p=>[ownd 0 4 (p.map Glo.F)]) (fun x y e=>by simp_all [VJ]) (l) G) (by simp_all [XP])
theorem Vw  (D:PEok ⟨A0,T,A2⟩):TC A0 22 g9:=C7 D fun p h=>Mm  h
end
section
variable {l:List Cod}{i:Nat}
theorem QY(hT:T 37=zs w9)(hl:i<l.length)(Q:l[i].ok)(G:l.length*80<=bigN):
 evP ⟨A0,T,A2⟩ (.code Pu [(0,fslN (l.map Cod.F)),(3,.msl 0 0 i 5),(4,.int .i64 i)] ⟨[.row 0 ((l.take i).map Cod.O) 5],0,[]⟩)=zs (.ok .normal [(0,fslN (l.map Cod.F)),(3,.msl 0 0 (i+1) 5),(4,.int .i64 ((i+1:Nat):Int))] ⟨[.row 0 ((l.take (i+1)).map Cod.O) 5],0,[]⟩):=by
 unfold Pu;have D:decide ((i:Int)<((l.map Cod.F).length:Int))=zt:=by simp[hl]
 have hi:=A9 (F:=Cod.F) hl;have U:((l.take i).map Cod.O).length=i:=by simp;omega
 have V:=B7 (i:=i) (by grind);have hz:(i+1)*80<=140737488355328:=by grind
 have I:=fun K=>aC (K:=K) hT Q
 have J:=map_take (F:=Cod.O) hl;simp_all [Cod.F, Cod.O, XP]
theorem QZ(hT:T 37=zs w9)(hl:0<l.length)(J:l[0].ok):
 evP ⟨A0,T,A2⟩ (.code Pu [(0,fslN (l.map Cod.F)),(3,.nilsl),(4,.int .i64 0)] ⟨[],0,[]⟩)=zs (.ok .normal [(0,fslN (l.map Cod.F)),(3,.msl 0 0 1 5),(4,.int .i64 ((1:Nat):Int))] ⟨[.row 0 ((l.take 1).map Cod.O) 5],0,[]⟩):=by
 unfold Pu;have G:decide ((0:Int)<((l.map Cod.F).length:Int))=zt:=by simp[hl]
 have hi:Pb Bl (fslN (l.map Cod.F)) (.int .i64 0)=zs (.fptr (Cod.F l[0]) 0):=ix_fslN (te:=Bl) (k:=.i64) (i:=0) (A9 (F:=Cod.F) hl) rfl;have I:=fun K=>aC (K:=K) hT J
 have D:=map_take (F:=Cod.O) hl;rw[zkk]at D;have D:[Cod.O l[0]]=(l.take 1).map Cod.O:=D;simp only[Cod.F]at hi I;rw[<-D];simp only[G,hi,Cod.O,I,show IntKind.i64.wrap (0+1)=((1:Nat):Int)from rfl,XP,Nat.reduceAdd,Nat.reduceSub,Nat.reduceLT,Nat.reduceLeDiff,Nat.reduceEqDiff,Nat.reduceMul,↓reduceIte]
theorem RA{y:AV}{K:PK}:∃fr',evP ⟨A0,T,A2⟩ (.code Pu [(0,fslN (l.map Cod.F)),(3,y),(4,.int .i64 l.length)] K)=zs (.ok (.exit 0) fr' K)/\lookP fr' 3=y:=by
 unfold Pu;have D:decide ((l.length:Int)<((l.map Cod.F).length:Int))=zf:=by simp
 simp only[D,XP,seval];exact⟨_,rfl,rfl⟩
end
theorem Qx(D:T 37=zs w9){l:List Cod}(G:(∀x∈l,x.ok)/\l.length*80<=bigN):AM.Comes ⟨A0,T,A2⟩ 23 [fslN (l.map Cod.F)] [ownd 0 5 (l.map Cod.O)]:=by
 obtain⟨fr',y,os,I,J,Q⟩:=Hp (P:=⟨A0,T,A2⟩) (c:=Pu) (A:=fslN (l.map Cod.F)) (O:=Cod.O) (sz:=5) (l:=l) (fun h=>QZ D h (G.1 _ (zqe h))) (fun i h=>QY D h (G.1 _ (zqe h)) G.2) (fun y K=>RA);refine⟨[y],⟨os,0,[]⟩,?_,D9 Q⟩;rw[A4 (c:=TJ) (nt:=20) (rs:=[.tmp 2]) rfl (by simp)];unfold TJ;unfold K0;rcases Q with⟨_,rfl,rfl⟩|⟨rfl,rfl⟩
 . simp_all [XP]
 simp_all [XP]
def Ac:=r9 (fun p:(List Cod)=>[fslN (p.map Cod.F)]) (fun p=>[ownd 0 5 (p.map Cod.O)]) (fun p=>(∀x∈p,x.ok)/\p.length*80<=bigN)
theorem mX(D:T 23=zs Ac){l:List Cod}{K:PK}(G:(∀x∈l,x.ok)/\l.length*80<=bigN):evP ⟨A0,T,A2⟩ (.call 23 [fslN (l.map Cod.F)] K)=zs (.val (openTs K.os.length [ownd 0 5 (l.map Cod.O)]).1 ⟨K.os++(openTs K.os.length [ownd 0 5 (l.map Cod.O)]).2,K.ext,K.tch⟩):=B8 D (by simp only[VV,XP,seval]) (C1 (a:=fun p:(List Cod)=>[fslN (p.map Cod.F)]) (r:=fun p=>[ownd 0 5 (p.map Cod.O)]) (fun x y e=>by simp_all [VJ]) (l) G) (by simp_all [XP])
theorem dU(D:T 37=zs w9)(G:PEok ⟨A0,T,A2⟩):TC A0 23 Ac:=C7 G fun p h=>Qx D h
theorem Modl.copied{m:Modl}(h:m.ok):m.gs.length*40<=bigN/\(∀x∈m.fs,x.ok):=⟨h.2.2,fun c hc=>(h.1 c hc).1⟩
theorem Oe(D:T 22=zs g9)(G:T 23=zs Ac){m:Modl}(I:m.ok/\m.fs.length*80<=bigN):AM.Comes ⟨A0,T,A2⟩ 8 [m.F] [m.O]:=by
 have t1:=fun K=>dT (K:=K) D (Modl.copied I.1).1
 have J:=fun K=>mX (K:=K) G ⟨(Modl.copied I.1).2,I.2⟩
 refine⟨[.agg [.msl 1 0 m.gs.length 4,.msl 2 0 m.fs.length 5]],⟨[.row 1 [.agg [.msl 1 0 m.gs.length 4,.msl 2 0 m.fs.length 5]] 2,.row 0 (m.gs.map Glo.F) 4,.row 0 (m.fs.map Cod.O) 5],0,[]⟩,?_,?_⟩
 . rw[A4 (c:=p8) (nt:=10) (rs:=[.cell 2 25]) rfl (by simp)];unfold p8
   unfold K0 Modl.F;simp only[t1,J,zqa,Aa,zql,zqm,Nat.reduceBEq,XP,seval]
 . refine back_of (vs':=[.agg [.msl 1 0 m.gs.length 4,.msl 2 0 m.fs.length 5]]) (os':=[.row 1 [.agg [.msl 1 0 m.gs.length 4,.msl 2 0 m.fs.length 5]] 2,.row 0 (m.gs.map Glo.F) 4,.row 0 (m.fs.map Cod.O) 5]) ?_ ?_ (us:=[.agg [.msl 0 0 (m.gs.map Glo.F).length 4,.msl 1 0 (m.fs.map Cod.O).length 5]]) (ps:=[.row 0 (m.gs.map Glo.F) 4,.row 0 (m.fs.map Cod.O) 5]) ?_ ?_ ?_
   all_goals simp_all [Modl.O, XP]
def O3:=r9 (fun p:(Modl)=>[p.F]) (fun p=>[p.O]) (fun p=>p.ok/\p.fs.length*80<=bigN)
theorem jJ(D:T 8=zs O3){m:Modl}{K:PK}(G:m.ok/\m.fs.length*80<=bigN):evP ⟨A0,T,A2⟩ (.call 8 [m.F] K)=zs (.val (openTs K.os.length [m.O]).1 ⟨K.os++(openTs K.os.length [m.O]).2,K.ext,K.tch⟩):=B8 D (by simp only[VV,XP,seval]) (C1 (a:=fun p:(Modl)=>[p.F]) (r:=fun p=>[p.O]) (fun x y e=>by simp_all [VJ]) (m) G) (by simp only[VN,XP,seval])
theorem Yj(D:T 22=zs g9)(G:T 23=zs Ac)(I:PEok ⟨A0,T,A2⟩):TC A0 8 O3:=C7 I fun p h=>Oe D G h
section
variable {m:Modl}{c:Cod}{A B:List (List Bool)}{f b r:Nat}{x1 x2 x3 x4 st N:Int}{inp:List Int}
def xF(x1 x2 x3 x4 st:Int)(inp:List Int):AV:=.agg [.int .i64 x1,.int .i64 x2,.int .i64 x3,.int .i64 x4,.int .i64 st,fslN (ints inp)]
theorem qF{te:TI}{K:PK}{s:AV}{base xs:List AV}{os2:List PO}{tc:List Nat}(h0:wholeP s K.os=zt)(hz:(base.length+xs.length)*te.bytes<=140737488355328):
 EO te s K base tc (zs (xs,os2))=zs (.msl os2.length 0 (base.length+xs.length) te.size,⟨os2++[.row 0 (base++xs) te.size],K.ext,os2.length::tc++K.tch⟩):=by
 unfold EO;simp only[h0,Bool.or_true,↓reduceIte];exact if_pos hz
theorem GM{K:PK}{id N n:Nat}(h:n<=N):Bp (Oj A0 (.slice 3) zn (zs (.int .i64 (n:Int))) zn (.msl id 0 N 1)) K=.val (.msl id 0 n 1) K:=by
 have e:Oj A0 (.slice 3) zn (zs (.int .i64 (n:Int))) zn (.msl id 0 N 1)=Jb 1 id 0 N 1 zn (zs (.int .i64 (n:Int))) zn:=rfl;rw[e,Om (l:=0) (r:=n) (m:=N) rfl (by grind [Go.AM.D8, Go.AM.as_nat]) rfl (zjf _) h (zjb _)];rfl
theorem JS{K:PK}{i j:Nat}{D ob:List Int}(hS:T 12=zs L3)(I:D.length*8<=bigN)(J:ob.take D.length=D)(G:D.length<=ob.length)(r1:rowOf K.os 6 i=zs (0,ints ob,1))(r2:rowOf K.os 6 j=zs (0,ints D,1)):
 evP ⟨A0,T,A2⟩ (.call 12 [.msl i 0 D.length 1,.msl j 0 D.length 1] K)=zs (.val [.bool zt] ⟨K.os++[],K.ext,K.tch⟩):=by
 have Q:viewV K.os (.msl i 0 D.length 1)=zs (fslN (ints D)):=by
  rw[wv_msl,r1];show(if 0=0/\1=1/\0+D.length<=(ints ob).length then(match frzL (((ints ob).drop 0).take D.length)with|some es=>zs (fslN es)|none=>zn)else zn)=_
  rw[if_pos ⟨rfl,rfl,by simp[ints];exact G⟩,zqq,ints,<-List.map_take,J,frzL_ints]
 have U:viewV K.os (.msl j 0 D.length 1)=zs (fslN (ints D)):=by
  rw[wv_msl,r2];show(if 0=0/\1=1/\0+D.length<=(ints D).length then(match frzL (((ints D).drop 0).take D.length)with|some es=>zs (fslN es)|none=>zn)else zn)=_
  rw[if_pos ⟨rfl,rfl,by simp[ints]⟩,zqq,zqo (by simp[ints]),frzL_ints]
 have V:viewAs K.os [.msl i 0 D.length 1,.msl j 0 D.length 1]=zs [fslN (ints D),fslN (ints D)]:=by
  rw[va_cons,va_cons,va_nil];rw[show viewA K.os (.msl i 0 D.length 1)=viewV K.os (.msl i 0 D.length 1)from rfl,show viewA K.os (.msl j 0 D.length 1)=viewV K.os (.msl j 0 D.length 1)from rfl,Q,U];rfl
 have hg:L3 [fslN (ints D),fslN (ints D)]=zs [.bool (decide (D=D))]:=C1 (a:=fun p:List Int×List Int=>[fslN (ints p.1),fslN (ints p.2)]) (r:=fun p=>[.bool (decide (p.1=p.2))]) (fun x y e=>by simp only[List.cons.injEq,fslN_iff,ints_iff,and_true]at e;simp only[e]) (D,D) I;rw[B8 hS V hg rfl,decide_eq_true rfl];rfl
theorem jK{l D:List AV}{v w:AV}(h:frzL l=zs D)(G:frzC v=zs w):∀i,frzL (l.set i v)=zs (D.set i w):=by
 induction l generalizing D with
 |nil=>intro i;cases h;rfl
 |cons a l I=>
  rw[fz_cons]at h;cases ha:frzC a with
  |none=>rw[ha]at h;cases h
  |some x=>
   cases hl:frzL l with
   |none=>rw[ha,hl]at h;cases h
   |some y=>
    rw[ha,hl]at h;cases h;intro i;cases i with
    |zero=>
     show frzL (v::l)=_
     rw[fz_cons,G,hl];rfl
    |succ i=>
     show frzL (a::l.set i v)=_
     rw[fz_cons,ha,I hl i];rfl
theorem aD{M:Modl}{os:List PO}{es:List AV}{p q ng nf:Nat}(hg:M.gs.length=ng)(hf:es.length=nf)(hz:frzL es=zs (M.fs.map Cod.F))(D:rowOf os 6 p=zs (0,M.gs.map Glo.F,4))(G:rowOf os 6 q=zs (0,es,5)):viewA os (.agg [.msl p 0 ng 4,.msl q 0 nf 5])=zs M.F:=by
 have I:viewV os (.msl p 0 ng 4)=zs (fslN (M.gs.map Glo.F)):=by
  rw[wv_msl,D];show(if 0=0/\4=4/\0+ng<=(M.gs.map Glo.F).length then(match frzL (((M.gs.map Glo.F).drop 0).take ng)with|some es=>zs (fslN es)|none=>zn)else zn)=_
  rw[if_pos ⟨rfl,rfl,by simp;omega⟩,zqq,zqo (by simp;omega),frzL_gloF]
 have J:viewV os (.msl q 0 nf 5)=zs (fslN (M.fs.map Cod.F)):=by
  rw[wv_msl,G];show(if 0=0/\5=5/\0+nf<=es.length then(match frzL ((es.drop 0).take nf)with|some es=>zs (fslN es)|none=>zn)else zn)=_
  grind
 show(match viewL os [.msl p 0 ng 4,.msl q 0 nf 5]with|some cs=>zs (AV.agg cs)|none=>zn)=_
 rw[vl_cons,vl_cons,I,J];rfl
def laO(r:Nat)(N:Int):AV:=.agg [.int .i64 1,.int .i64 0,.int .i64 r,.int .i64 0,.int .i64 0,.int .i64 N,.str [],.nilsl]
def RB(m:Modl)(c:Cod)(f b r:Nat)(N:Int)(bl:Blk):List AV:=(m.fs.map Cod.O).set f (.agg [.str c.name,.int .i64 c.ty,.int .i64 c.ps,ownd 0 1 (ints c.regs),ownd 0 5 ((c.blocks.map Blk.O).set b (.agg [ownd 0 8 (laO r N::bl.code.map Ins.O),.int .i64 bl.e.kind,.int .i64 bl.e.a,.int .i64 bl.e.to,.int .i64 bl.e.els]))])
theorem CZ(hf:f<m.fs.length)(hc:m.fs[f]=c)(hb:b<c.blocks.length):frzL (RB m c f b r N c.blocks[b])=zs ((Z6 m f b r N).fs.map Cod.F):=by
 have e1:codN m f=c:=by grind [codN]
 have e2:Bd c b=c.blocks[b]:=by grind [Bd]
 have hl:frzC (laO r N)=zs (layI r N).F:=rfl;have D:frzL (laO r N::c.blocks[b].code.map Ins.O)=zs ((layI r N::c.blocks[b].code).map Ins.F):=by
  rw[fz_cons,hl,Zp];rfl
 have G:frzC (.agg [ownd 0 8 (laO r N::c.blocks[b].code.map Ins.O),.int .i64 c.blocks[b].e.kind,.int .i64 c.blocks[b].e.a,.int .i64 c.blocks[b].e.to,.int .i64 c.blocks[b].e.els])=zs (⟨layI r N::c.blocks[b].code,c.blocks[b].e⟩:Blk).F:=by
  simp_all [Blk.F, XP]
 have I:=jK (Zq c.blocks) G b;simp_all [frzC, freeC, Cod.F, XP, Z6, RB, frzL_ints, jK, tB]
section
variable {M:Modl}{K:PK}{es:List AV}{o:List Int}{s1 x y:Int}
theorem RD{p q ng nf:Nat}(hC:T 10=zs L4)(G:M.ok)(hc:I7 M=0)(hg:M.gs.length=ng)(hf:es.length=nf)(hz:frzL es=zs (M.fs.map Cod.F))(I:rowOf K.os 6 p=zs (0,M.gs.map Glo.F,4))(J:rowOf K.os 6 q=zs (0,es,5)):
 evP ⟨A0,T,A2⟩ (.call 10 [.agg [.msl p 0 ng 4,.msl q 0 nf 5]] K)=zs (.val [.int .i64 0] ⟨K.os++[],K.ext,K.tch⟩):=by
 have Q:viewAs K.os [.agg [.msl p 0 ng 4,.msl q 0 nf 5]]=zs [M.F]:=by rw[va_cons,va_nil,aD hg hf hz I J];rfl
 have D:L4 [M.F]=zs [.int .i64 (I7 M)]:=C1 (a:=fun m:Modl=>[m.F]) (r:=fun m=>[.int .i64 (I7 m)]) (fun x y e=>by simp_all [Modl.F_iff]) M G;rw[hc]at D;rw[B8 hC Q D rfl];rfl
theorem RE{p q ng nf:Nat}(G:T 9=zs n7)(I:RunOk M s1)(J:(Q0 M inp s1).sc=(x,y))(ho:Bm M inp s1=o)(hg:M.gs.length=ng)(hf:es.length=nf)(hz:frzL es=zs (M.fs.map Cod.F))(Q:rowOf K.os 6 p=zs (0,M.gs.map Glo.F,4))(U:rowOf K.os 6 q=zs (0,es,5)):
 evP ⟨A0,T,A2⟩ (.call 9 [.agg [.msl p 0 ng 4,.msl q 0 nf 5],fslN (ints inp),.int .i64 s1] K)=zs (.val [.agg [.msl K.os.length 0 o.length 1,.int .i64 x,.int .i64 y]] ⟨K.os++[.row 0 (ints o) 1],K.ext,K.tch⟩):=by
 have V:viewAs K.os [.agg [.msl p 0 ng 4,.msl q 0 nf 5],fslN (ints inp),.int .i64 s1]=zs [M.F,fslN (ints inp),.int .i64 s1]:=by
  rw[va_cons,va_cons,va_cons,va_nil,aD hg hf hz Q U];show consO _ (consO (match frzL (ints inp)with|some es=>zs (fslN es)|none=>zn) _)=_
  rw[frzL_ints];rfl
 have hg:n7 [M.F,fslN (ints inp),.int .i64 s1]=zs [.agg [ownd 0 1 (ints (Bm M inp s1)),.int .i64 (Q0 M inp s1).sc.1,.int .i64 (Q0 M inp s1).sc.2]]:=C1 (a:=fun p:Modl×List Int×Int=>[p.1.F,fslN (ints p.2.1),.int .i64 p.2.2]) (r:=fun p=>[.agg [ownd 0 1 (ints (Bm p.1 p.2.1 p.2.2)),.int .i64 (Q0 p.1 p.2.1 p.2.2).sc.1,.int .i64 (Q0 p.1 p.2.1 p.2.2).sc.2]]) (fun x y e=>by simp only[Modl.F_iff,fslN_iff,ints_iff,List.cons.injEq,AV.int.injEq,and_true,true_and]at e;grind) (M,inp,s1) I;rw[J,ho]at hg;have D:(ints o).length=o.length:=by simp[ints]
 rw[B8 G V hg (by simp[okRs,ownOf,ownd,clo,AV.cells,noFL,noF,noFL_ints]),<-D];rfl
end
end
theorem zE{m:Modl}{f b r:Nat}{N:Int}(J:m.ok)(hf:f<m.fs.length)(hb:b<(codN m f).blocks.length)(hl:(Bd (codN m f) b).code.length<=60000):(Z6 m f b r N).ok:=by
 refine⟨fun c hc=>?_,by show(m.fs.set f _).length*64<=bigN;rw[zqn];exact J.2.1,J.2.2⟩;rcases zkj hc with hc|rfl
 . exact J.1 c hc
 . have h0:=J.1 _ (jH hf)
   have hn:∀I∈(freeC (codN m f) b r N).blocks,I.sok:=fun I D=>by
    rcases mem_free D with D|rfl
    . exact h0.2 I D
    . obtain ⟨⟨Q,k2⟩,U⟩:=h0.2 _ (jI hb)
      refine⟨⟨fun x G=>?_,by grind⟩,fun x G=>?_⟩
      . rcases zqf.1 G with rfl|G
        . exact(by decide:(0:Nat)*8<=bigN)
        grind
      . rcases zqf.1 G with rfl|G
        . exact⟨(by decide:(0:Nat)*8<=bigN),(by decide:(0:Nat)<=bigN)⟩
        grind
   exact⟨⟨h0.1.1,fun I D=>(hn I D).1,by show((codN m f).blocks.set b _).length*56<=bigN;rw[zqn];exact h0.1.2.2⟩,hn⟩
section
variable {m:Modl}{c:Cod}{f b r:Nat}{x1 x2 x3 x4 st:Int}{inp:List Int}
theorem zF(hB:T 4=zs S7)(hW:T 5=zs M1)(hP:T 6=zs Py)(hL:T 7=zs S9)(hM:T 8=zs O3)(hR:T 9=zs n7)(hC:T 10=zs L4)(hE:T 11=zs g0)(hS:T 12=zs L3)(J:m.ok)(h:R1 m=zt\/(R1 m=zf/\1000<inp.length)):evP ⟨A0,T,A2⟩ (.body 3 [m.F,xF x1 x2 x3 x4 st inp] K0)=zs (.val [.bool zt] ⟨[],0,[]⟩):=by
 have D:=fun K=>Dm (K:=K) hB J
 have G:=fun K=>w5 (K:=K) hW
 simp only[Modl.F]at D;have hl:(ints inp).length=inp.length:=by simp[ints]
 rw[A4 (c:=p3) (nt:=163) (rs:=[.tmp 4]) rfl (by simp)];unfold p3;unfold K0 Modl.F xF gN wF;rcases h with h|⟨h,I⟩
 . simp_all [XP]
 . rw[h]at D
   have I:decide ((inp.length:Int)>1000)=zt:=decide_eq_true (by omega);simp_all [XP]
theorem DA(hB:T 4=zs S7)(hW:T 5=zs M1)(Q:T 6=zs Py)(hL:T 7=zs S9)(hM:T 8=zs O3)(hR:T 9=zs n7)(hC:T 10=zs L4)(hE:T 11=zs g0)(hS:T 12=zs L3)(U:m.ok)(h:R1 m=zf)(h2:¬1000<inp.length)(hf:f<m.fs.length)(hc:m.fs[f]=c)(e1:Q5 x1 m.fs.length=(f:Int))(h0:c.regs.length=0):evP ⟨A0,T,A2⟩ (.body 3 [m.F,xF x1 x2 x3 x4 st inp] K0)=zs (.val [.bool zt] ⟨[],0,[]⟩):=by
 obtain⟨g1,g2,g3⟩:=UX h;have D:=fun K=>Dm (K:=K) hB U
 have V:=fun K=>w5 (K:=K) hW
 have J:=fun K=>Pz (K:=K) Q (v:=x1) (n:=m.fs.length) (by omega)
 rw[e1]at J;rw[h]at D;have hl:(ints inp).length=inp.length:=by simp[ints]
 have G:(ints c.regs).length=0:=by simp[ints,h0]
 have I:decide ((inp.length:Int)>1000)=zf:=decide_eq_false (by omega);have hg:=A9 (F:=Cod.F) hf;rw[hc]at hg;simp only[Modl.F,Cod.F]at D hg;rw[A4 (c:=p3) (nt:=163) (rs:=[.tmp 4]) rfl (by simp)];unfold p3;unfold K0 Modl.F xF gN wF oZ oY oX BY;simp only[D,V,J,hl,I,hg,hf,G,zqa,show decide (((0:Nat):Int)=0)=zt from rfl,XP,seval]
theorem DB(hB:T 4=zs S7)(hW:T 5=zs M1)(X:T 6=zs Py)(hL:T 7=zs S9)(hM:T 8=zs O3)(hR:T 9=zs n7)(hC:T 10=zs L4)(hE:T 11=zs g0)(hS:T 12=zs L3)(hm:m.ok)(h:R1 m=zf)(h2:¬1000<inp.length)(hf:f<m.fs.length)(hc:m.fs[f]=c)(e1:Q5 x1 m.fs.length=(f:Int))(e2:Q5 x2 c.blocks.length=(b:Int))(e3:Q5 x3 c.regs.length=(r:Int))(hb:b<c.blocks.length)(hr:r<c.regs.length)(hv:at2 (liveD c).1 b r=zt):evP ⟨A0,T,A2⟩ (.body 3 [m.F,xF x1 x2 x3 x4 st inp] K0)=zs (.val [.bool zt] ⟨[],0,[]⟩):=by
 obtain⟨g1,g2,g3⟩:=UX h;have D:c∈m.fs:=hc▸zqe hf;obtain⟨lk,lr⟩:=Oc hm h c D;have Y:=fun K=>Dm (K:=K) hB hm
 have tk:=fun K=>w5 (K:=K) hW
 have G:=fun K=>Pz (K:=K) X (v:=x1) (n:=m.fs.length) (by omega)
 have I:=fun K=>Pz (K:=K) X (v:=x2) (n:=c.blocks.length) (by have:=lk.bl;omega)
 have J:=fun K=>Pz (K:=K) X (v:=x3) (n:=c.regs.length) (by have:=(Gu ((Ce g2).1 c D)).1;omega)
 rw[e1]at G;rw[e2]at I;rw[e3]at J;rw[h]at Y;have U:=fun K=>Vq (K:=K) hL lk
 obtain⟨V,sB⟩:=Fx c;generalize (liveD c).1=A at U V hv;generalize (liveD c).2.1=B at U sB;have hA:=Ab (A:=A) (i:=b) (by rw[V.1];exact hb);have aa:=V.get hb;have Q:=X6 (l:=A.getD b []) (i:=r) (by omega);rw[show(A.getD b []).getD r zf=zt from hv]at Q;have ab:=V.1;have hl:(ints inp).length=inp.length:=by simp[ints]
 have ac:(ints c.regs).length=c.regs.length:=by simp[ints]
 have ad:decide ((c.regs.length:Int)=0)=zf:=decide_eq_false (by omega);have ae:decide ((inp.length:Int)>1000)=zf:=decide_eq_false (by omega);have hg:=A9 (F:=Cod.F) hf;rw[hc]at hg;simp only[Modl.F,Cod.F]at Y hg U;rw[A4 (c:=p3) (nt:=163) (rs:=[.tmp 4]) rfl (by simp)];unfold p3;unfold K0 Modl.F xF gN wF oZ oY oX BY wK wJ wI wH wG HU HV;simp only[Y,tk,G,I,J,U,hl,ae,hg,hf,ac,hA,aa,Q,hb,hr,ab,zqa,Aa,zql,zqm,Nat.reduceBEq,show decide ((c.blocks.length:Int)=(c.blocks.length:Int))=zt from by simp,show decide ((c.regs.length:Int)=(c.regs.length:Int))=zt from by simp,ad,XP,seval]
end
section
variable {m:Modl}{c:Cod}{f b r:Nat}{x1 x2 x3 x4 st s1 N:Int}{inp:List Int}
theorem RF(hB:T 4=zs S7)(hW:T 5=zs M1)(hP:T 6=zs Py)(hL:T 7=zs S9)(hM:T 8=zs O3)(hR:T 9=zs n7)(hC:T 10=zs L4)(hE:T 11=zs g0)(hS:T 12=zs L3)(Y:m.ok)(h:R1 m=zf)(h2:¬1000<inp.length)(hf:f<m.fs.length)(hc:m.fs[f]=c)(e1:Q5 x1 m.fs.length=(f:Int))(e2:Q5 x2 c.blocks.length=(b:Int))(e3:Q5 x3 c.regs.length=(r:Int))(hb:b<c.blocks.length)(hr:r<c.regs.length)(hv:at2 (liveD c).1 b r=zf)
 (e4:Q5 st 3000=s1)(hs:0<=s1/\s1<=3000)(hN:IntKind.wrap .i64 (IntKind.wrap .i32 x4)=N){sa ca sb cb:Int}{oa ob:List Int}
 (qa:(Q0 m inp s1).sc=(sa,ca))(qo:Bm m inp s1=oa)(qb:(Q0 (Z6 m f b r N) inp (2*s1+1)).sc=(sb,cb))(qp:Bm (Z6 m f b r N) inp (2*s1+1)=ob)(hla:oa.length<=30000)
 (c3:oa <+: ob)(c4:sa≠3->(sa=sb/\ca=cb)/\oa=ob):evP ⟨A0,T,A2⟩ (.body 3 [m.F,xF x1 x2 x3 x4 st inp] K0)=zs (.val [.bool zt] ⟨[],0,[]⟩):=by
 obtain⟨g1,g2,g3⟩:=UX h;have aa:c∈m.fs:=hc▸zqe hf;obtain⟨lk,lr⟩:=Oc Y h c aa;have ec:codN m f=c:=by unfold codN;rw[zqb,zqh hf,hc];rfl
 have eb:Bd c b=c.blocks[b]:=by unfold Bd;rw[zqb,zqh hb];rfl
 have an:c.blocks[b].code.length<=60000:=(lk.wk _ (zqe hb)).ln;have ao:-2147483648<=N/\N<=2147483647:=by
  rw[<-hN,IntKind.wrap_i64,IntKind.wrap_i32];omega
 have ab:(Z6 m f b r N).ok:=zE Y hf (by rw[ec];exact hb) (by rw[ec,eb];exact an);have ac:I7 (Z6 m f b r N)=0:=mW g2 hf (by rw[ec];exact hb) (by rw[ec];exact hr) ao;have r0:=yK (steps:=s1) Y g1 g2 (by omega);have sg:=Vv (b:=b) (r:=r) (N:=N) hf;have kM:RunOk (Z6 m f b r N) (2*s1+1):=⟨yJ ab ac,r0.gz,r0.gl,by rw[sg.l];exact r0.fl,by rw[Vu sg,sg.l];exact r0.mn,by omega⟩
 have tb:=fun K=>Dm (K:=K) hB Y
 have tk:=fun K=>w5 (K:=K) hW
 have tm:=fun K=>jJ (K:=K) hM ⟨Y,by simp only[bigN];omega⟩
 have I:=fun K=>Pz (K:=K) hP (v:=x1) (n:=m.fs.length) (by omega)
 have J:=fun K=>Pz (K:=K) hP (v:=x2) (n:=c.blocks.length) (by have:=lk.bl;omega)
 have Q:=fun K=>Pz (K:=K) hP (v:=x3) (n:=c.regs.length) (by have:=(Gu ((Ce g2).1 c aa)).1;omega)
 have U:=fun K=>Pz (K:=K) hP (v:=st) (n:=3000) (by decide)
 rw[e1]at I;rw[e2]at J;rw[e3]at Q;rw[e4]at U;rw[h]at tb;have tl:=fun K=>Vq (K:=K) hL lk
 obtain⟨sA,sB⟩:=Fx c;generalize (liveD c).1=A at tl sA hv;generalize (liveD c).2.1=B at tl sB;have hA:=Ab (A:=A) (i:=b) (by rw[sA.1];exact hb);have ad:=sA.get hb;have V:=X6 (l:=A.getD b []) (i:=r) (by omega);rw[show(A.getD b []).getD r zf=zf from hv]at V;have ae:=sA.1;have hl:(ints inp).length=inp.length:=by simp[ints]
 have af:(ints c.regs).length=c.regs.length:=by simp[ints]
 have ag:decide ((c.regs.length:Int)=0)=zf:=decide_eq_false (by omega);have ah:decide ((inp.length:Int)>1000)=zf:=decide_eq_false (by omega);have hg:=A9 (F:=Cod.F) hf;have G:=A9 (F:=Cod.O) hf;have X:=A9 (F:=Blk.O) hb;rw[hc]at hg G;have sf:=fun v=>zko (l:=m.fs.map Cod.O) (i:=f) (a:=v) (by simpa using hf)
 have ai:=fun v=>zko (l:=c.blocks.map Blk.O) (i:=b) (a:=v) (by simpa using hb)
 have hz:(c.blocks[b].code.length+1)*88<=140737488355328:=by omega
 have aj:=CZ (r:=r) (N:=N) hf hc hb;have ak:(RB m c f b r N c.blocks[b]).length=m.fs.length:=by unfold RB;rw[zqn,zqa]
 have ra:=fun K=>CO (K:=K) (input:=inp) hR r0
 rw[qa,qo]at ra;have rb:=fun K p q=>RE (K:=K) (M:=Z6 m f b r N) (inp:=inp) (p:=p) (q:=q) (ng:=m.gs.length) (nf:=m.fs.length) hR kM qb qp rfl ak aj
 have ck:=fun K p q=>RD (K:=K) (M:=Z6 m f b r N) (p:=p) (q:=q) (ng:=m.gs.length) (nf:=m.fs.length) hC ab ac rfl ak aj
 have al:=Bc (n:=2*s1) (by omega) (by omega);have am:=Bc (n:=2*s1+1) (by omega) (by omega);have D:=c3.length_le;have ht:ob.take oa.length=oa:=(List.prefix_iff_eq_take.1 c3).symm;have la:(ints oa).length=oa.length:=by simp[ints]
 have lb:(ints ob).length=ob.length:=by simp[ints]
 have d4:decide ((ob.length:Int)>=(oa.length:Int))=zt:=decide_eq_true (by omega);have ts:=fun K i j=>JS (K:=K) (i:=i) (j:=j) hS (by simp only[bigN];omega) ht D
 have ap:(Z6 m f b r N).gs=m.gs:=rfl;rw[ap]at rb ck;unfold RB laO at rb ck;simp only[Modl.F,Modl.O,Cod.F,Cod.O,Blk.O]at tb hg tl tm ra G X rb ck;rw[A4 (c:=p3) (nt:=163) (rs:=[.tmp 4]) rfl (by simp)];unfold p3;unfold K0 Modl.F xF gN wF oZ oY oX BY wK wJ wI wH wG HU HV FA EZ MI MH MG MF ME MD;by_cases q1:sa=3
 . subst q1
   simp only[tb,tk,I,J,Q,U,tl,hl,ah,hg,hf,af,hA,ad,V,hb,hr,ae,zqa,Aa,zql,zqm,Nat.reduceBEq,show decide ((c.blocks.length:Int)=(c.blocks.length:Int))=zt from by simp,show decide ((c.regs.length:Int)=(c.regs.length:Int))=zt from by simp,ag,B4,tm,ra,rb,ck,G,X,sf,ai,zqn,zkh,hz,Nat.add_comm 1 c.blocks[b].code.length,qF,al,am,hN,d4,la,lb,GM D,ts,show decide ((3:Int)=3)=zt from rfl,show decide ((0:Int)=0)=zt from rfl,XP,seval]
 . obtain⟨⟨rfl,rfl⟩,rfl⟩:=c4 q1
   have te:=fun K i j=>JJ (K:=K) (p:=i) (q:=j) (o:=oa) (x:=sa) (y:=ca) hE (by simp only[bigN];omega)
   have aq:decide (sa=3)=zf:=decide_eq_false q1;simp only[tb,tk,I,J,Q,U,tl,hl,ah,hg,hf,af,hA,ad,V,hb,hr,ae,zqa,Aa,zql,zqm,Nat.reduceBEq,show decide ((c.blocks.length:Int)=(c.blocks.length:Int))=zt from by simp,show decide ((c.regs.length:Int)=(c.regs.length:Int))=zt from by simp,ag,B4,tm,ra,rb,ck,te,aq,G,X,sf,ai,zqn,zkh,hz,Nat.add_comm 1 c.blocks[b].code.length,qF,al,am,hN,d4,la,lb,GM D,ts,show decide ((0:Int)=0)=zt from rfl,XP,seval]
end
theorem Rt(v:Int){n:Nat}(h:0<n):∃k:Nat,Q5 v n=(k:Int)/\k<n:=by
 have h1:=zjl v (show(0:Int)<(n:Int) by omega);have h2:=Int.tmod_lt_of_pos v (show(0:Int)<(n:Int) by omega);refine⟨(Q5 v n).toNat,?_⟩
 grind [Q5]
theorem qG(v:Int):0<=Q5 v 3000/\Q5 v 3000<=3000:=by
 grind [Q5]
theorem JT{m:Modl}{input:List Int}{steps:Int}(hs:0<=steps):((Q0 m input steps).st.out.length:Int)<=steps:=by
 obtain⟨p1,_⟩:=Rp (m:=m) 33 (U8 m) [] (sI steps input m.gs)
 have:(Q0 m input steps).st.out.length+(Q0 m input steps).st.steps.toNat<=0+steps.toNat:=p1.me
 omega
theorem Fy(I:T 4=zs S7)(D:T 5=zs M1)(Y:T 6=zs Py)(J:T 7=zs S9)(G:T 8=zs O3)(X:T 9=zs n7)(Q:T 10=zs L4)(V:T 11=zs g0)(U:T 12=zs L3){m:Modl}{x1:Int}{x2:Int}{x3:Int}{x4:Int}{st:Int}{inp:List Int}(hk:m.ok):AM.Comes ⟨A0,T,A2⟩ 3 [m.F,xF x1 x2 x3 x4 st inp] [.bool zt]:=by
 refine⟨[.bool zt],⟨[],0,[]⟩,?_,back_of rfl zkn rfl rfl rfl⟩;cases h1:R1 m with
 |true=>grind [zF]
 |false=>
  by_cases h2:1000<inp.length
  . grind [zF]
  . obtain ⟨g1,g2,g3⟩:=UX h1
    have r0:=yK (steps:=Q5 st 3000) hk g1 g2 (by have:=qG st;omega);have hmn:=r0.mn;obtain⟨f,e1,hf⟩:=Rt x1 (n:=m.fs.length) (by omega);by_cases h0:m.fs[f].regs.length=0
    . exact DA I D Y J G X Q V U hk h1 h2 hf rfl e1 h0
    . have aa:=zqe hf
      obtain⟨lk,lr⟩:=Oc hk h1 _ aa;obtain⟨b,e2,hb⟩:=Rt x2 (n:=m.fs[f].blocks.length) lk.b0;obtain⟨r,e3,hr⟩:=Rt x3 (n:=m.fs[f].regs.length) (by omega);cases hv:at2 (liveD m.fs[f]).1 b r with
      |true=>exact DB I D Y J G X Q V U hk h1 h2 hf rfl e1 e2 e3 hb hr hv
      |false=>
       obtain⟨p1,p2⟩:=qG st;have ec:codN m f=m.fs[f]:=by grind [codN]
       have hw:¬Wan (codN m f).blocks r b:=fun hw=>by
        rw[ec]at hw
        have:=((CW ⟨fun b hb=>⟨(lk.wk b hb).wr,(lk.wk b hb).rd,(lk.wk b hb).ea⟩,lk.to⟩).1 b r hr).2 hw
        grind
       obtain⟨q1,q2⟩:=zD (N:=IntKind.wrap .i64 (IntKind.wrap .i32 x4)) (input:=inp) p1 r0.mr r0.mn hf (by grind) hw;have q:=JT (m:=m) (input:=inp) p1;refine RF I D Y J G X Q V U hk h1 h2 hf rfl e1 e2 e3 hb hr hv rfl ⟨p1,p2⟩ rfl rfl rfl rfl rfl ?_ q2 ?_
       . show(Q0 m inp (Q5 st 3000)).st.out.length<=30000
         omega
       . intro h3
         obtain⟨a1,a2⟩:=q1 h3;exact⟨⟨(congrArg Prod.fst a1).symm,(congrArg Prod.snd a1).symm⟩,a2.symm⟩
open Go.ChangeShapes Go.WideShapes Go.ChangeAt
section
variable {H:Type}{enc:TypeId×Value->H}{P:Program}{W:World}{base:Nat}{spare:Nat->Bool}{held:Bool}
theorem M4{E:Env}(hE:EnvOk E P){t:Nat}{x:TI}(D:E.ti t=zs x):P.cellsOf t=x.size:=by
 obtain⟨i,z,G,I,_⟩:=(hE.ti t x D).info;grind [Program.cellsOf]
theorem Ga{E:Env}(hE:EnvOk E P){t:Nat}{x:TI}(D:E.ti t=zs x):P.bytesOf t=x.bytes:=by
 obtain⟨i,z,G,_,I,_⟩:=(hE.ti t x D).info;grind [Program.bytesOf]
variable (hE:EnvOk A0 P)
include hE
theorem zG:P.underlying 3=zs (.int .i64):=(hE.ti 3 ty3 rfl).desc
theorem GN:P.underlying 9=zs .string:=(hE.ti 9 MQ rfl).desc
theorem JU:P.underlying 26=zs (.slice 3):=(hE.ti 26 Hs rfl).desc
theorem zH:P.underlying 42=zs (.slice 41):=(hE.ti 42 gS rfl).desc
theorem zI:P.underlying 32=zs (.slice 46):=(hE.ti 32 gR rfl).desc
theorem DC:P.underlying 23=zs (.slice 34):=(hE.ti 23 mD rfl).desc
theorem DD:P.underlying 22=zs (.slice 71):=(hE.ti 22 mC rfl).desc
theorem Cf:P.cellsOf 3=1:=M4 hE ti3
theorem Vy:P.cellsOf 9=1:=M4 hE ti9
theorem Jx:P.cellsOf 26=1:=M4 hE A1P
theorem Vz:P.cellsOf 42=1:=M4 hE A1S
theorem jL:P.cellsOf 32=1:=M4 hE A1R
theorem qH:P.cellsOf 23=1:=M4 hE A1N
theorem dX:P.cellsOf 22=1:=M4 hE A1M
theorem qI:P.cellsOf 41=8:=M4 hE IA
theorem GO:P.cellsOf 44=4:=M4 hE A1T
theorem qJ:P.cellsOf 46=5:=M4 hE IB
theorem zJ:P.cellsOf 34=5:=M4 hE HZ
theorem zK:P.cellsOf 71=4:=M4 hE IE
theorem RG:P.cellsOf 25=2:=M4 hE A1O
theorem Dp{m n:Nat}{cs:List Value}{d:DataW H}{ps:List MemPlace}(h:DataW.trod enc P W base spare held n 3 cs=zs (d,ps))(hw:Wt P 3 d):∃s,V5 P (m+1) 3 d=zs s/\s.length=P.cellsOf 3/\∃z,s=[.int .i64 z]:=by
 obtain⟨z,rfl,e,_⟩:=DataW.trod_int (zG hE) h;cases e;refine⟨[.int .i64 z],?_,by rw[Cf hE];rfl,z,rfl⟩;unfold V5;rw[zG hE]
theorem dY{m n:Nat}{cs:List Value}{d:DataW H}{ps:List MemPlace}(h:DataW.trod enc P W base spare held n 9 cs=zs (d,ps))(D:Wt P 9 d):∃s,V5 P (m+1) 9 d=zs s/\s.length=P.cellsOf 9/\∃b,s=[.str b]/\b.length<=140737488355328:=by
 obtain⟨b,rfl,e,_⟩:=DataW.trod_string (GN hE) h;cases e;refine⟨[.str b.data.toList],?_,by rw[Vy hE];rfl,_,rfl,?_⟩
 . grind [V5, GN]
 . have:=D b.data.toList.length (by unfold DataW.weights;simp)
   exact zjd this (by decide)
omit hE in
def jM(D:List AV)(z:Int):Prop:=D=[.int .i64 z]
theorem Wa{m n:Nat}{cs:List Value}{d:DataW H}{ps:List MemPlace}(h:DataW.trod enc P W base spare held n 26 cs=zs (d,ps))(D:Wt P 26 d):∃s,V5 P (m+2) 26 d=zs s/\s.length=P.cellsOf 26/\∃v l,s=[v]/\Xh P 3 jM v l:=by
 obtain ⟨v,l,G,I⟩:=Ah (Q:=jM) (m:=m+1) (JU hE) (by rw[Cf hE];decide) (fun n cs d ps h D=>by
  obtain⟨s,G,I,z,rfl⟩:=Dp hE (m:=m) h D;exact⟨_,z,G,⟨I,.inr rfl⟩,rfl⟩) h D
 exact⟨[v],G,by rw[Jx hE];rfl,v,l,rfl,I⟩
omit hE in
def Jy(P:Program)(D:List AV)(I:Ins):Prop:=∃G,D=[.int .i64 I.op,.int .i64 I.ty,.int .i64 I.dst,.int .i64 I.a,.int .i64 I.b,.int .i64 I.n,.str I.s,G]/\Xh P 3 jM G I.args/\I.s.length<=140737488355328
omit hE in
theorem A2I{D:List (List AV)}(h:D.length=8):∃a b c d e f g i,D=[a,b,c,d,e,f,g,i]:=by
 match D,h with
 |[a,b,c,d,e,f,g,i],_=>grind
theorem tZ{m n:Nat}{cs:List Value}{d:DataW H}{ps:List MemPlace}(h:DataW.trod enc P W base spare held n 41 cs=zs (d,ps))(J:Wt P 41 d):∃D I,V5 P (m+3) 41 d=zs D/\(D.length=P.cellsOf 41/\(Ak P 41=zt\/D.length=1))/\Jy P D I:=by
 obtain ⟨fs,hu,X,_⟩:=(hE.ti 41 v8 rfl).desc;have X:fs.toList.map (fun f=>(f.type,f.offset))=[(3,0),(3,1),(3,2),(3,3),(3,4),(3,5),(9,6),(26,7)]:=X;obtain⟨ss,h1,h2,h3,G⟩:=Y1 (m:=m+2) (Qs:=fun i s=>(i<6->∃z,s=[.int .i64 z])/\(i=6->∃b,s=[.str b]/\b.length<=140737488355328)/\(i=7->∃v l,s=[v]/\Xh P 3 jM v l)) hu X
  (by simp_all [Iv, Cf, Vy]) (by simp_all [qI, Cf, Vy, Jx])
  (fun i ty off hL n cs d ps h J=>by
    rcases i with _|_|_|_|_|_|_|_|i
    iterate 6
     . cases hL
       obtain⟨s,Q,U,V⟩:=Dp hE (m:=m+1) h J;grind
    . cases hL
      obtain⟨s,Q,U,V⟩:=dY hE (m:=m+1) h J;grind
    . cases hL
      obtain⟨s,Q,U,V⟩:=Wa hE (m:=m) h J;grind
    . simp at hL) h J
 obtain⟨a,b,c,e,f,g,s6,s7,rfl⟩:=A2I h3;obtain⟨z0,rfl⟩:=(G 0 _ rfl).1 (by omega);obtain⟨z1,rfl⟩:=(G 1 _ rfl).1 (by omega);obtain⟨z2,rfl⟩:=(G 2 _ rfl).1 (by omega);obtain⟨z3,rfl⟩:=(G 3 _ rfl).1 (by omega);obtain⟨z4,rfl⟩:=(G 4 _ rfl).1 (by omega);obtain⟨z5,rfl⟩:=(G 5 _ rfl).1 (by omega);obtain⟨b6,rfl,Y⟩:=(G 6 _ rfl).2.1 rfl;obtain⟨v,l,rfl,hv⟩:=(G 7 _ rfl).2.2 rfl;exact⟨_,⟨z0,z1,z2,z3,z4,z5,b6,l⟩,h1,⟨h2,.inl (by unfold Ak;rw[hu])⟩,v,rfl,hv,Y⟩
omit hE in
def Jz(P:Program)(D:List AV)(B:Blk):Prop:=∃G,D=[G,.int .i64 B.e.kind,.int .i64 B.e.a,.int .i64 B.e.to,.int .i64 B.e.els]/\Xh P 41 (Jy P) G B.code
theorem mY{m n:Nat}{cs:List Value}{d:DataW H}{ps:List MemPlace}(h:DataW.trod enc P W base spare held n 42 cs=zs (d,ps))(D:Wt P 42 d):∃s,V5 P (m+4) 42 d=zs s/\s.length=P.cellsOf 42/\∃v l,s=[v]/\Xh P 41 (Jy P) v l:=by
 obtain⟨v,l,G,I⟩:=Ah (Q:=Jy P) (m:=m+3) (zH hE) (by rw[qI hE];decide) (fun n cs d ps h D=>tZ hE h D) h D;exact⟨[v],G,by rw[Vz hE];rfl,v,l,rfl,I⟩
theorem DF{m n:Nat}{cs:List Value}{d:DataW H}{ps:List MemPlace}(h:DataW.trod enc P W base spare held n 44 cs=zs (d,ps))(G:Wt P 44 d):∃s,V5 P (m+2) 44 d=zs s/\s.length=P.cellsOf 44/\∃x y z w,s=[.int .i64 x,.int .i64 y,.int .i64 z,.int .i64 w]:=by
 obtain ⟨fs,J,I,_⟩:=(hE.ti 44 Ue rfl).desc;have I:fs.toList.map (fun f=>(f.type,f.offset))=[(3,0),(3,1),(3,2),(3,3)]:=I;obtain⟨Q,U,V,X,D⟩:=Y1 (m:=m+1) (Qs:=fun i s=>∃z,s=[.int .i64 z]) J I
  (by simp_all [Iv, Cf]) (by simp_all [GO, Cf])
  (fun i ty off hL n cs d ps h G=>by
    rcases i with _|_|_|_|i
    iterate 4
     . cases hL
       exact Dp hE (m:=m) h G
    . simp at hL) h G
 match Q,X with
 |[a,b,c,e],_=>
  obtain⟨Y,rfl⟩:=D 0 _ rfl;obtain⟨z1,rfl⟩:=D 1 _ rfl;obtain⟨z2,rfl⟩:=D 2 _ rfl;obtain⟨z3,rfl⟩:=D 3 _ rfl;grind
theorem uA{m n:Nat}{cs:List Value}{d:DataW H}{ps:List MemPlace}(h:DataW.trod enc P W base spare held n 46 cs=zs (d,ps))(G:Wt P 46 d):∃D B,V5 P (m+5) 46 d=zs D/\(D.length=P.cellsOf 46/\(Ak P 46=zt\/D.length=1))/\Jz P D B:=by
 obtain ⟨fs,V,I,_⟩:=(hE.ti 46 Ec rfl).desc;have I:fs.toList.map (fun f=>(f.type,f.offset))=[(42,0),(44,1)]:=I;obtain⟨Y,h1,h2,h3,X⟩:=Y1 (m:=m+4) (Qs:=fun i s=>(i=0->∃v l,s=[v]/\Xh P 41 (Jy P) v l)/\(i=1->∃x y z w,s=[.int .i64 x,.int .i64 y,.int .i64 z,.int .i64 w])) V I
  (by simp_all [Iv, Vz]) (by grind [qJ, Vz, GO])
  (fun i ty off hL n cs d ps h G=>by
    rcases i with _|_|i
    . cases hL
      obtain⟨s,J,Q,U⟩:=mY hE (m:=m) h G;grind
    . cases hL
      obtain⟨s,J,Q,U⟩:=DF hE (m:=m+2) h G;grind
    . simp at hL) h G
 match Y,h3 with
 |[a,b],_=>
  obtain⟨v,l,rfl,hv⟩:=(X 0 _ rfl).1 rfl;obtain⟨x,y,z,w,rfl⟩:=(X 1 _ rfl).2 rfl;exact⟨_,⟨l,⟨x,y,z,w⟩⟩,h1,⟨h2,.inl (by unfold Ak;rw[V])⟩,v,rfl,hv⟩
theorem mZ{m n:Nat}{cs:List Value}{d:DataW H}{ps:List MemPlace}(h:DataW.trod enc P W base spare held n 32 cs=zs (d,ps))(D:Wt P 32 d):∃s,V5 P (m+6) 32 d=zs s/\s.length=P.cellsOf 32/\∃v l,s=[v]/\Xh P 46 (Jz P) v l:=by
 obtain⟨v,l,G,I⟩:=Ah (Q:=Jz P) (m:=m+5) (zI hE) (by rw[qJ hE];decide) (fun n cs d ps h D=>uA hE h D) h D;exact⟨[v],G,by rw[jL hE];rfl,v,l,rfl,I⟩
omit hE in
def aE(P:Program)(D:List AV)(C:Cod):Prop:=∃G I,D=[.str C.name,.int .i64 C.ty,.int .i64 C.ps,G,I]/\Xh P 3 jM G C.regs/\Xh P 46 (Jz P) I C.blocks
theorem zL{m n:Nat}{cs:List Value}{d:DataW H}{ps:List MemPlace}(h:DataW.trod enc P W base spare held n 34 cs=zs (d,ps))(Q:Wt P 34 d):∃D C,V5 P (m+7) 34 d=zs D/\(D.length=P.cellsOf 34/\(Ak P 34=zt\/D.length=1))/\aE P D C:=by
 obtain ⟨fs,hu,V,_⟩:=(hE.ti 34 Bl rfl).desc;have V:fs.toList.map (fun f=>(f.type,f.offset))=[(9,0),(3,1),(3,2),(26,3),(32,4)]:=V;obtain⟨ss,h1,h2,h3,U⟩:=Y1 (m:=m+6) (Qs:=fun i s=>(i=0->∃b,s=[.str b]/\b.length<=140737488355328)/\((i=1\/i=2)->∃z,s=[.int .i64 z])/\(i=3->∃v l,s=[v]/\Xh P 3 jM v l)/\(i=4->∃v l,s=[v]/\Xh P 46 (Jz P) v l)) hu V
  (by simp_all [Iv, Cf, Vy, Jx]) (by simp_all [zJ, Cf, Vy, Jx, jL])
  (fun i ty off hL n cs d ps h Q=>by
    rcases i with _|_|_|_|_|i
    . cases hL
      obtain⟨s,G,I,J⟩:=dY hE (m:=m+5) h Q;grind
    . cases hL
      obtain⟨s,G,I,J⟩:=Dp hE (m:=m+5) h Q;grind
    . cases hL
      obtain⟨s,G,I,J⟩:=Dp hE (m:=m+5) h Q;grind
    . cases hL
      obtain⟨s,G,I,J⟩:=Wa hE (m:=m+4) h Q;grind
    . cases hL
      obtain⟨s,G,I,J⟩:=mZ hE (m:=m) h Q;grind
    . simp at hL) h Q
 match ss,h3 with
 |[a,b,c,e,f],_=>
  obtain⟨b0,rfl,_⟩:=(U 0 _ rfl).1 rfl;obtain⟨z1,rfl⟩:=(U 1 _ rfl).2.1 (.inl rfl);obtain⟨z2,rfl⟩:=(U 2 _ rfl).2.1 (.inr rfl);obtain⟨v3,l3,rfl,X⟩:=(U 3 _ rfl).2.2.1 rfl;obtain⟨v4,l4,rfl,Y⟩:=(U 4 _ rfl).2.2.2 rfl;exact⟨_,⟨b0,z1,z2,l3,l4⟩,h1,⟨h2,.inl (by unfold Ak;rw[hu])⟩,v3,v4,rfl,X,Y⟩
omit hE in
def jN(D:List AV)(G:Glo):Prop:=D=[.str G.name,.int .i64 G.ty,.int .i64 G.size,.int .i64 G.at_]
theorem zM{m n:Nat}{cs:List Value}{d:DataW H}{ps:List MemPlace}(h:DataW.trod enc P W base spare held n 71 cs=zs (d,ps))(I:Wt P 71 d):∃D G,V5 P (m+2) 71 d=zs D/\(D.length=P.cellsOf 71/\(Ak P 71=zt\/D.length=1))/\jN D G:=by
 obtain ⟨fs,Y,Q,_⟩:=(hE.ti 71 Ed rfl).desc;have Q:fs.toList.map (fun f=>(f.type,f.offset))=[(9,0),(3,1),(3,2),(3,3)]:=Q;obtain⟨ss,h1,h2,h3,J⟩:=Y1 (m:=m+1) (Qs:=fun i s=>(i=0->∃b,s=[.str b]/\b.length<=140737488355328)/\(0<i->∃z,s=[.int .i64 z])) Y Q
  (by simp_all [Iv, Cf, Vy]) (by simp_all [zK, Cf, Vy])
  (fun i ty off hL n cs d ps h I=>by
    rcases i with _|_|_|_|i
    . cases hL
      obtain⟨s,U,V,X⟩:=dY hE (m:=m) h I;grind
    iterate 3
     . cases hL
       obtain⟨s,U,V,X⟩:=Dp hE (m:=m) h I;grind
    . simp at hL) h I
 match ss,h3 with
 |[a,b,c,e],_=>
  obtain⟨b0,rfl,_⟩:=(J 0 _ rfl).1 rfl;obtain⟨z1,rfl⟩:=(J 1 _ rfl).2 (by omega);obtain⟨z2,rfl⟩:=(J 2 _ rfl).2 (by omega);obtain⟨z3,rfl⟩:=(J 3 _ rfl).2 (by omega);exact⟨_,⟨b0,z1,z2,z3⟩,h1,⟨h2,.inl (by unfold Ak;rw[Y])⟩,rfl⟩
theorem DG{n:Nat}{cs:List Value}{d:DataW H}{ps:List MemPlace}(h:DataW.trod enc P W base spare held n 25 cs=zs (d,ps))(D:Wt P 25 d):∃X Y,∃M:Modl,V5 P 9 25 d=zs [X,Y]/\Xh P 71 jN X M.gs/\Xh P 34 (aE P) Y M.fs:=by
 obtain ⟨fs,hu,G,_⟩:=(hE.ti 25 Uc rfl).desc;have G:fs.toList.map (fun f=>(f.type,f.offset))=[(22,0),(23,1)]:=G;obtain⟨ss,h1,h2,h3,h4⟩:=Y1 (m:=8) (Qs:=fun i s=>(i=0->∃v l,s=[v]/\Xh P 71 jN v l)/\(i=1->∃v l,s=[v]/\Xh P 34 (aE P) v l)) hu G
  (by simp_all [Iv, dX]) (by grind [RG, dX, qH])
  (fun i ty off hL n cs d ps h D=>by
    rcases i with _|_|i
    . cases hL
      obtain⟨v,l,I,J⟩:=Ah (Q:=jN) (m:=7) (DD hE) (by rw[zK hE];decide) (fun n cs d ps h D=>zM hE (m:=5) h D) h D;exact⟨[v],I,by rw[dX hE];rfl,fun _=>⟨v,l,rfl,J⟩,fun hh=>by omega⟩
    . cases hL
      obtain⟨v,l,I,J⟩:=Ah (Q:=aE P) (m:=7) (DC hE) (by rw[zJ hE];decide) (fun n cs d ps h D=>zL hE (m:=0) h D) h D;exact⟨[v],I,by rw[qH hE];rfl,fun hh=>by omega,fun _=>⟨v,l,rfl,J⟩⟩
    . simp at hL) h D
 match ss,h3 with
 |[a,b],_=>
  obtain⟨v0,l0,rfl,U⟩:=(h4 0 _ rfl).1 rfl;obtain⟨v1,l1,rfl,V⟩:=(h4 1 _ rfl).2 rfl;exact⟨v0,v1,⟨l0,l1⟩,h1,U,V⟩
omit hE in
theorem dZ{t:TypeId}{D:List AV}(h:Ak P t=zt):seeV P t D=.agg D:=by unfold seeV;rw[h];rfl
theorem GP:P.bytesOf 3=8:=Ga hE ti3
theorem DH:P.bytesOf 41=88:=Ga hE IA
theorem DI:P.bytesOf 46=56:=Ga hE IB
theorem JV:P.bytesOf 34=80:=Ga hE HZ
theorem JW:P.bytesOf 71=40:=Ga hE IE
theorem DJ{t:TypeId}{x:TI}{L:List (Nat×Nat)}{fl:Bool}(D:A0.ti t=zs x)(G:x.desc=.struct L fl):Ak P t=zt:=by
 have h:=(hE.ti t x D).desc;grind [I5, Ak]
theorem A2J:Ak P 3=zf:=by unfold Ak;rw[zG hE]
theorem nA{v:AV}{l:List Int}(G:Xh P 3 jM v l){Z:Nat->Prop}{h:Heap}:Fz Z h v (fslN (ints l)):=G.fz fun r X D=>by
 have D:r=[.int .i64 X]:=D;subst D
 have:seeV P 3 [.int .i64 X]=.int .i64 X:=by grind [seeV, A2J]
 rw[this];exact .int _ _
omit hE in
theorem aF{Z:Nat->Prop}{h:Heap}{xs ys:List AV}(hl:xs.length=ys.length)(hc:ys.all clo=zt)(hz:∀p∈xs.zip ys,Fz Z h p.1 p.2):Fz Z h (.agg xs) (.agg ys):=by
 refine .agg hl (fun i x y D G=>hz (x,y) ?_) hc;exact zky (i:=i) (by grind)
theorem DK{D:List AV}{I:Ins}(J:Jy P D I){Z:Nat->Prop}{h:Heap}:Fz Z h (seeV P 41 D) I.F:=by
 obtain⟨av,rfl,Q,_⟩:=J;rw[dZ (DJ hE IA rfl)];refine aF rfl rfl fun p G=>?_
 simp only[zkc,zkd,zqf,zqk,or_false]at G;rcases G with rfl|rfl|rfl|rfl|rfl|rfl|rfl|rfl
 iterate 6
  . exact .int _ _
 . exact .str _
 . exact nA hE Q
theorem DL{D:List AV}{B:Blk}(I:Jz P D B){Z:Nat->Prop}{h:Heap}:Fz Z h (seeV P 46 D) B.F:=by
 obtain⟨av,rfl,Q⟩:=I;rw[dZ (DJ hE IB rfl)];refine aF rfl rfl fun p G=>?_
 simp only[zkc,zkd,zqf,zqk,or_false]at G;rcases G with rfl|rfl|rfl|rfl|rfl
 . exact Q.fz fun r X J=>DK hE J
 iterate 4
  . exact .int _ _
theorem JX{D:List AV}{C:Cod}(I:aE P D C){Z:Nat->Prop}{h:Heap}:Fz Z h (seeV P 34 D) C.F:=by
 obtain⟨rv,bv,rfl,Q,U⟩:=I;rw[dZ (DJ hE HZ rfl)];refine aF rfl rfl fun p G=>?_
 simp only[zkc,zkd,zqf,zqk,or_false]at G;rcases G with rfl|rfl|rfl|rfl|rfl
 . exact .str _
 . exact .int _ _
 . exact .int _ _
 . exact nA hE Q
 . exact U.fz fun r X J=>DL hE J
theorem JY{D:List AV}{G:Glo}(I:jN D G){Z:Nat->Prop}{h:Heap}:Fz Z h (seeV P 71 D) G.F:=by
 have I:D=_:=I;subst I;rw[dZ (DJ hE IE rfl)];refine aF rfl rfl fun p J=>?_
 simp only[zkc,zkd,zqf,zqk,or_false]at J;rcases J with rfl|rfl|rfl|rfl
 . exact .str _
 iterate 3
  . exact .int _ _
theorem Of{n b k:Nat}(h:n*b<=reachBytes)(hb:b=k):n*k<=bigN:=by
 subst hb;exact zjd h (by decide)
theorem zN{D:List AV}{I:Ins}(G:Jy P D I):I.sok:=by
 obtain⟨av,_,J,Q⟩:=G;exact⟨Of hE J.2 (GP hE),Q⟩
theorem zO{G:List AV}{B:Blk}(J:Jz P G B):B.sok:=by
 obtain ⟨av,_,I⟩:=J;have D:∀x∈B.code,x.sok:=fun x D=>by
  obtain⟨r,Q⟩:=I.mem D;exact zN hE Q
 exact⟨⟨fun x h=>(D x h).1,Of hE I.2 (DH hE)⟩,D⟩
theorem DM{G:List AV}{C:Cod}(J:aE P G C):C.sok:=by
 obtain ⟨rv,bv,_,Q,I⟩:=J;have D:∀x∈C.blocks,x.sok:=fun x D=>by
  obtain⟨r,U⟩:=I.mem D;exact zO hE U
 exact⟨⟨Of hE Q.2 (GP hE),fun x h=>(D x h).1,Of hE I.2 (DI hE)⟩,D⟩
theorem mod_see{n:Nat}{cs:List Value}{d:DataW H}{ps:List MemPlace}(h:DataW.trod enc P W base spare held n 25 cs=zs (d,ps))(U:Wt P 25 d):∃D,∃M:Modl,V5 P 9 25 d=zs D/\D.length=2/\(∀Z h,Fz Z h (.agg D) M.F)/\M.ok:=by
 obtain⟨V,Y,M,h1,Q,I⟩:=DG hE h U;refine⟨[V,Y],M,h1,rfl,fun Z h=>?_,fun C hC=>?_,?_,Of hE Q.2 (JW hE)⟩
 . refine aF rfl rfl fun p J=>?_
   simp only[zkc,zkd,zqf,zqk,or_false]at J;rcases J with rfl|rfl
   . exact Q.fz fun r X G=>JY hE G
   . exact I.fz fun r X G=>JX hE G
 . obtain⟨r,G⟩:=I.mem hC
   exact DM hE G
 . have:=Of hE I.2 (JV hE)
   grind
theorem DN:P.cellsOf 28=6:=M4 hE A1Q
theorem where_see{n:Nat}{cs:List Value}{d:DataW H}{ps:List MemPlace}(h:DataW.trod enc P W base spare held n 28 cs=zs (d,ps))(I:Wt P 28 d):∃D,∃(x1 x2 x3 x4 st:Int)(inp:List Int),V5 P 9 28 d=zs D/\D.length=6/\(∀Z h,Fz Z h (.agg D) (xF x1 x2 x3 x4 st inp)):=by
 obtain ⟨fs,Y,J,_⟩:=(hE.ti 28 Ud rfl).desc;have J:fs.toList.map (fun f=>(f.type,f.offset))=[(3,0),(3,1),(3,2),(3,3),(3,4),(26,5)]:=J;obtain⟨ss,h1,h2,h3,G⟩:=Y1 (m:=8) (Qs:=fun i s=>(i<5->∃z,s=[.int .i64 z])/\(i=5->∃v l,s=[v]/\Xh P 3 jM v l)) Y J
  (by simp_all [Iv, Cf]) (by simp_all [DN, Cf, Jx])
  (fun i ty off hL n cs d ps h I=>by
    rcases i with _|_|_|_|_|_|i
    iterate 5
     . cases hL
       obtain⟨s,Q,U,V⟩:=Dp hE (m:=7) h I;grind
    . cases hL
      obtain⟨s,Q,U,V⟩:=Wa hE (m:=6) h I;grind
    . simp at hL) h I
 match ss,h3 with
 |[a,b,c,e,f,g],_=>
  obtain⟨z1,rfl⟩:=(G 0 _ rfl).1 (by decide);obtain⟨z2,rfl⟩:=(G 1 _ rfl).1 (by decide);obtain⟨z3,rfl⟩:=(G 2 _ rfl).1 (by decide);obtain⟨z4,rfl⟩:=(G 3 _ rfl).1 (by decide);obtain⟨z5,rfl⟩:=(G 4 _ rfl).1 (by decide);obtain⟨v,l,rfl,q⟩:=(G 5 _ rfl).2 rfl;refine⟨_,z1,z2,z3,z4,z5,l,h1,rfl,fun Z h=>?_⟩;refine aF rfl rfl fun p X=>?_
  simp only[List.flatten_cons,List.flatten_nil,zqd,zqc,zkc,zkd,zqf,zqk,or_false]at X;rcases X with rfl|rfl|rfl|rfl|rfl|rfl
  iterate 5
   . exact .int _ _
  . exact nA hE q
end
end Go.Proofs.AmEnv
namespace Go.AM
theorem zP{E:Env}{f:Nat}{args:List AV}{h:Heap}(hg:E.gc f=zf)(D:E.told f=zt):callω E f args h=toldA args h:=by
 refine (Cg (E:=E) f args h).unique ?_;have e:∀m,G4 E (ev E m) f args h=toldA args h:=(by grind [Go.AM.G4, Go.AM.O7])
 simp only[e];exact .const
end Go.AM
namespace Go.Proofs.AmEnv
open Go Go.AM
theorem jO(hg:A0.gc 64=zf)(I:A0.told 64=zt):TC A0 64 U2:=by
 intro args rs D Z h xs hl hz hb;unfold U2 at D;split at D
 . rename_i s p
   split at D
   . rename_i G
     cases D
     match xs,hl with
     |[x,y],_=>
      have h0:=hz 0 x (.str s) rfl rfl;have J:=hz 1 y (.str p) rfl rfl;cases h0;cases J;refine⟨[.bool (contS p s)],h,Z,fun _=>zn,?_,SD hb,VL.cons (.fz (.bool _)) VL.nil,zjb _,fun id hz=>⟨hz,rfl⟩,fun id hz=>.inl hz,fun id _=>rfl,fun id L e=>(by cases e),[],rfl,fun id hi=>(zqk hi).elim⟩;rw[zP hg I];show(bif Nat.ble (s5 s) 4000000000||oneB p then(match contS p s with|true=>Res.ok (.bool zt) h|false=>.ok (.bool zf) h)else .bad)=_
      have G:(Nat.ble (s5 s) 4000000000||oneB p)=zt:=G;rw[G];cases contS p s<;>rfl
   . cases D
 . cases D
end Go.Proofs.AmEnv
