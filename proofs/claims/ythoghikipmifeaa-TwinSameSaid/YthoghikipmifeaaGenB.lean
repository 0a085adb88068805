/- What this program's functions do, at any data. Conditions: none. -/
import Derived.Test.YthoghikipmifeaaGenA
set_option linter.unusedVariables false
set_option linter.unusedSimpArgs false
set_option linter.unusedSectionVars false
set_option linter.defProp false
set_option maxRecDepth 100000
set_option maxHeartbeats 4000000
open List renaming length_map→zqa,nil_append→zqb,cons_append→zqc,append_nil→zqd,replicate→zqe,getElem_mem→zqf,map_cons→zqg,map_nil→zqh,take_of_length_le→zqi,getD_eq_getElem?_getD→zqj,mem_map→zqk,getElem?_eq_getElem→zql,getElem?_map→zqm,prefix_rfl→zqn,contains_cons→zqo,contains_nil→zqp,nodup_nil→zqq,not_mem_nil→zqr,map_append→zqs,drop_zero→zqt,take_succ_eq_append_getElem→zqu,sum_cons→zqv,sum_nil→zqw,mem_cons→zqx,getElem?_eq_some_iff→zqy,drop_eq_getElem_cons→zqz,take_zero→zka,length_replicate→zkb,set_set→zkc,zip_cons_cons→zkd,zip_nil_left→zke,length_eq_zero_iff→zkf,length_take→zkg,mem_map_of_mem→zkh,getElem?_append_right→zki,getElem?_drop→zkj,set_append_right→zkk,length_append→zkl,all_eq_true→zkm,findIdx?_eq_some_iff_getElem→zkn,not_of_lt_findIdx→zko,set_cons_zero→zkp,getElem_take→zkq,mem_of_mem_take→zkr,take_length→zks,length_set→zkt
open Nat renaming le_refl→zku,sub_self→zkv,le_succ→zkw,strongRecOn→zkx,not_lt_zero→zky,le_trans→zkz,add_zero→zja,lt_succ_self→zjb,ble_eq_true_of_le→zjc
open Int renaming le_refl→zjd,toNat_natCast→zje,le_trans→zjf,eq_ofNat_of_zero_le→zjg,lt_tmod_of_pos→zjh
open Bool renaming and_eq_true_iff→zji,or_true→zjj,or_eq_false_iff→zjk
noncomputable section
namespace Go.Proofs.AmEnv
open Go Go.AM
variable {T:Nat->Option (List AV->Option (List AV))}
section
variable {m:Modl}{s s2:Mst}{fa fd fo n n':Bool}{r r2 a:List Int}{c:Cod}{l:List Ins}{k:Nat}{at0:Int}{tch t0:List Nat}{x:Ins}{cs xs:List AV}{cz xz:Nat}
theorem DW(R:RunT T)(hb:evP ⟨A0,T,A1⟩ (.body 41 [.ptr 0 0 0,x.F,.msl 1 0 r.length 1] ⟨E8 true fd (fo||n) false m s r,nE true fd (fo||n),[]⟩)=some (.val [] ⟨E8 true fd (fo||n) n' m s2 r2,nE true fd (fo||n),t0⟩)):
 ∃t1,∀tch,evP ⟨A0,T,A1⟩ (.call 41 [.ptr 0 0 0,x.F,.msl (nE fa fd fo+nB n+1) 0 r.length 1] ⟨E8 fa fd fo n m s a++[.row 1 cs cz,.row 0 (ints r) 1,.row 1 xs xz],nE fa fd fo,tch⟩)=some (.val [] ⟨rA fa fd fo n n' m s2 a (nE fa fd fo+nB n+3)++(.row 1 cs cz::.row 0 (ints r2) 1::.row 1 xs xz::oG n' s2.out),nE fa fd fo,t1++tch⟩):=by
 refine⟨((t0.filter (· < (On fa fd fo n (nE fa fd fo+nB n+1)).length)).map fun j=>(On fa fd fo n (nE fa fd fo+nB n+1)).getD j 0),fun tch=>Vi (ids:=On fa fd fo n (nE fa fd fo+nB n+1)) (args':=[.ptr 0 0 0,x.F,.msl 1 0 r.length 1]) (Kf:=⟨E8 true fd (fo||n) false m s r,nE true fd (fo||n),[]⟩) R.hC rfl ?_ ?_ ?_ hb ?_ ?_⟩<;>cases fa<;>cases fd<;>cases fo<;>cases n<;>cases n'<;>rfl
theorem yD{st e:Int}(R:RunT T)(hb:evP ⟨A0,T,A1⟩ (.body 41 [.ptr 0 0 0,x.F,.msl 1 0 r.length 1] ⟨E8 true fd (fo||n) false m s r,nE true fd (fo||n),[]⟩)=some (.pan (E0 st e) ⟨E8 true fd (fo||n) n' m s2 r,nE true fd (fo||n),t0⟩)):
 ∃t1,∀tch,evP ⟨A0,T,A1⟩ (.call 41 [.ptr 0 0 0,x.F,.msl (nE fa fd fo+nB n+1) 0 r.length 1] ⟨E8 fa fd fo n m s a++[.row 1 cs cz,.row 0 (ints r) 1,.row 1 xs xz],nE fa fd fo,tch⟩)=some (.pan (E0 st e) ⟨rA fa fd fo n n' m s2 a (nE fa fd fo+nB n+3)++(.row 1 cs cz::.row 0 (ints r) 1::.row 1 xs xz::oG n' s2.out),nE fa fd fo,t1++tch⟩):=by
 refine⟨((t0.filter (· < (On fa fd fo n (nE fa fd fo+nB n+1)).length)).map fun j=>(On fa fd fo n (nE fa fd fo+nB n+1)).getD j 0),fun tch=>bA (ids:=On fa fd fo n (nE fa fd fo+nB n+1)) (args':=[.ptr 0 0 0,x.F,.msl 1 0 r.length 1]) (Kf:=⟨E8 true fd (fo||n) false m s r,nE true fd (fo||n),[]⟩) R.hC rfl ?_ ?_ ?_ hb ?_ ?_⟩<;>cases fa<;>cases fd<;>cases fo<;>cases n<;>cases n'<;>rfl
theorem yE(R:RunT T)(hk:k<l.length)(hl:l.length<=2000000000000)(h:1<=s.steps)(hs:s.steps<=20000)(hop:l[k].op=9)(hb:evP ⟨A0,T,A1⟩ (.body 41 [.ptr 0 0 0,l[k].F,.msl 1 0 r.length 1] ⟨E8 true fd (fo||n) false m (stp s) r,nE true fd (fo||n),[]⟩)=some (.val [] ⟨E8 true fd (fo||n) n' m s2 r2,nE true fd (fo||n),t0⟩)):
 ∃t1,evP ⟨A0,T,A1⟩ (.code W9 (Q7 fa fd fo n r at0++frI l k) (msL fa fd fo n m s a c r tch))=some (.ok .normal (Q7 fa fd fo (n||n') r at0++frI l (k+1)) (msL fa fd fo (n||n') m s2 a c r2 t1)):=by
 have hlt:decide ((k:Int)<(l.length:Int))=true:=by simp[hk]
 have hi:=A8 (F:=Ins.F) hk;have hw:=B3 (i:=k) (by omega);have st:=fun d o rest ext tch=>m5 (T:=T) (m:=m) (s:=s) (d:=d) (o:=o) (rest:=rest) (ext:=ext) (tch:=tch) R.hS h hs
 have h9:(l[k].op=9)=True:=eq_true hop;obtain⟨t1,hd⟩:=DW (fa:=fa) (a:=a) (cs:=[c.F]) (cz:=5) (xs:=[l[k].F]) (xz:=8) R hb;clear hb;unfold W9 Ru Rt Rr Rq Rp Q7 frI msL E8 Ps;unfold E8 at hd;unfold mB at st hd|-;simp only[Ins.F,Cod.F,stp]at hi st hd|-;cases fa<;>cases fd<;>cases fo<;>cases n<;>cases n'<;>(
  simp only[dA,dR,oA,oR,aR,nB,nE,rA,oG,dd,E8,mB,Nat.reduceAdd,zqc,zqb,zqd,Bool.or_false,zjj]at hd|-;simp -implicitDefEqProofs only[hlt,hi,st,hd,h9,hw,XP,seval];exact⟨_,rfl⟩)
theorem uH{z e:Int}(R:RunT T)(hk:k<l.length)(hl:l.length<=2000000000000)(h:1<=s.steps)(hs:s.steps<=20000)(hop:l[k].op=9)(hb:evP ⟨A0,T,A1⟩ (.body 41 [.ptr 0 0 0,l[k].F,.msl 1 0 r.length 1] ⟨E8 true fd (fo||n) false m (stp s) r,nE true fd (fo||n),[]⟩)=some (.pan (E0 z e) ⟨E8 true fd (fo||n) n' m s2 r,nE true fd (fo||n),t0⟩)):
 ∃t1,evP ⟨A0,T,A1⟩ (.code W9 (Q7 fa fd fo n r at0++frI l k) (msL fa fd fo n m s a c r tch))=some (.pan (E0 z e) ⟨E8 fa fd fo (n||n') m s2 a,nE fa fd fo,t1⟩):=by
 have hlt:decide ((k:Int)<(l.length:Int))=true:=by simp[hk]
 have hi:=A8 (F:=Ins.F) hk;have st:=fun d o rest ext tch=>m5 (T:=T) (m:=m) (s:=s) (d:=d) (o:=o) (rest:=rest) (ext:=ext) (tch:=tch) R.hS h hs
 have h9:(l[k].op=9)=True:=eq_true hop;obtain⟨t1,hd⟩:=yD (fa:=fa) (a:=a) (cs:=[c.F]) (cz:=5) (xs:=[l[k].F]) (xz:=8) R hb;clear hb;unfold E0 at hd|-;unfold W9 Ru Rt Rr Rq Rp Q7 frI msL E8 Ps;unfold E8 at hd;unfold mB at st hd|-;simp only[Ins.F,Cod.F,stp]at hi st hd|-;cases fa<;>cases fd<;>cases fo<;>cases n<;>cases n'<;>(
  simp only[dA,dR,oA,oR,aR,nB,nE,rA,oG,dd,E8,mB,Nat.reduceAdd,zqc,zqb,zqd,Bool.or_false,zjj]at hd|-;simp -implicitDefEqProofs only[hlt,hi,st,hd,h9,XP,seval];exact⟨_,rfl⟩)
theorem ZX:evP ⟨A0,T,A1⟩ (.code W9 (Q7 fa fd fo n r at0++frI l l.length) (msL fa fd fo n m s a c r2 tch))=some (.ok (.exit 2) ((49,.bool false)::(Q7 fa fd fo n r at0++frI l l.length)) (msL fa fd fo n m s a c r2 tch)):=by
 have hlt:decide ((l.length:Int)<(l.length:Int))=false:=by simp
 unfold W9 Ru Rt Rr Rq Rp Q7 frI;simp -implicitDefEqProofs only[hlt,XP,seval]
end
section
variable {m:Modl}{s:Mst}{fa fd fo n:Bool}{r a:List Int}{c:Cod}{i:Nat}{tch:List Nat}
theorem KL(R:RunT T)(hi:i<c.blocks.length)(h:¬1<=s.steps):∃t1,evP ⟨A0,T,A1⟩ (.code O9 (Q7 fa fd fo n r (i:Int)) (msL fa fd fo n m s a c r tch))=some (.pan (E0 3 0) ⟨E8 fa fd fo n m s a++[Ps c,.row 0 (ints r) 1],nE fa fd fo,t1⟩):=by
 have st:=fun d o rest ext tch=>mE (T:=T) (m:=m) (s:=s) (d:=d) (o:=o) (rest:=rest) (ext:=ext) (tch:=tch) R.hS h
 unfold O9 Hd Hc Hb Rx Rw Rv Q7 msL E8 Ps;unfold mB at st|-;simp only[Cod.F,E0]at st|-;cases fa<;>cases fd<;>cases fo<;>cases n<;>(
  simp only[dA,dR,oA,oR,aR,nB,nE];simp -implicitDefEqProofs only[st,XP,seval];exact⟨_,rfl⟩)
theorem KM(R:RunT T)(hi:i<c.blocks.length)(h:1<=s.steps)(hs:s.steps<=20000)(hk:c.blocks[i].e.kind=3)(ha:c.blocks[i].e.a<0)(h1:0<=s.calls)(h2:s.calls<=40):∃t1,evP ⟨A0,T,A1⟩ (.code O9 (Q7 fa fd fo n r (i:Int)) (msL fa fd fo n m s a c r tch))=some (.ok .ret [(6,.int .i64 0)] ⟨E8 fa fd fo n m {stp s with calls:=s.calls-1} a,nE fa fd fo,t1⟩):=by
 have st:=fun d o rest ext tch=>m5 (T:=T) (m:=m) (s:=s) (d:=d) (o:=o) (rest:=rest) (ext:=ext) (tch:=tch) R.hS h hs
 have hb:=A8 (F:=Blk.F) hi;have hc:=Ez (n:=s.calls-1) (by omega) (by omega);unfold O9 Hd Hc Hb Rx Rw Rv Q7 msL E8 Ps;unfold mB at st|-;simp only[Cod.F,Blk.F,stp]at hb st|-;cases fa<;>cases fd<;>cases fo<;>cases n<;>(
  simp only[dA,dR,oA,oR,aR,nB,nE,E8,mB,Nat.reduceAdd,zqc,zqb,zqd];simp -implicitDefEqProofs only[st,hb,hc,eq_true hk,eq_true ha,XP,seval];exact⟨_,rfl⟩)
theorem KN(R:RunT T)(hi:i<c.blocks.length)(h:1<=s.steps)(hs:s.steps<=20000)(hk:c.blocks[i].e.kind=3)(ha:0<=c.blocks[i].e.a/\c.blocks[i].e.a<r.length)(h1:0<=s.calls)(h2:s.calls<=40):∃t1,evP ⟨A0,T,A1⟩ (.code O9 (Q7 fa fd fo n r (i:Int)) (msL fa fd fo n m s a c r tch))=some (.ok .ret [(6,.int .i64 (at' r c.blocks[i].e.a))] ⟨E8 fa fd fo n m {stp s with calls:=s.calls-1} a,nE fa fd fo,t1⟩):=by
 have st:=fun d o rest ext tch=>m5 (T:=T) (m:=m) (s:=s) (d:=d) (o:=o) (rest:=rest) (ext:=ext) (tch:=tch) R.hS h hs
 have hb:=A8 (F:=Blk.F) hi;have hc:=Ez (n:=s.calls-1) (by omega) (by omega);obtain⟨d,hd,hd2⟩:∃d:Nat,c.blocks[i].e.a=d/\d<r.length:=⟨c.blocks[i].e.a.toNat,by omega,by omega⟩
 have ha2:((d:Int)<0)=False:=eq_false (by omega);simp only[at',hd,zje,gD hd2];unfold O9 Hd Hc Hb Rx Rw Rv Q7 msL E8 Ps;unfold mB at st|-;simp only[Cod.F,Blk.F,stp]at hb st|-;cases fa<;>cases fd<;>cases fo<;>cases n<;>(
  simp only[dA,dR,oA,oR,aR,nB,nE,E8,mB,Nat.reduceAdd,zqc,zqb,zqd];simp -implicitDefEqProofs only[st,hb,hc,eq_true hk,hd,ha2,A9 hd2,hd2,XP,seval];exact⟨_,rfl⟩)
theorem KO(R:RunT T)(hi:i<c.blocks.length)(h:1<=s.steps)(hs:s.steps<=20000)(hk:c.blocks[i].e.kind=2)(ha:0<=c.blocks[i].e.a/\c.blocks[i].e.a<r.length)(hv:at' r c.blocks[i].e.a=0):∃t1,evP ⟨A0,T,A1⟩ (.code O9 (Q7 fa fd fo n r (i:Int)) (msL fa fd fo n m s a c r tch))=some (.ok .normal (Q7 fa fd fo n r c.blocks[i].e.els) (msL fa fd fo n m (stp s) a c r t1)):=by
 have st:=fun d o rest ext tch=>m5 (T:=T) (m:=m) (s:=s) (d:=d) (o:=o) (rest:=rest) (ext:=ext) (tch:=tch) R.hS h hs
 have hb:=A8 (F:=Blk.F) hi;obtain⟨d,hd,hd2⟩:∃d:Nat,c.blocks[i].e.a=d/\d<r.length:=⟨c.blocks[i].e.a.toNat,by omega,by omega⟩
 simp only[at',hd,zje,gD hd2]at hv;unfold O9 Hd Hc Hb Rx Rw Rv Q7 msL E8 Ps;unfold mB at st|-;simp only[Cod.F,Blk.F,stp]at hb st|-;cases fa<;>cases fd<;>cases fo<;>cases n<;>(
  simp only[dA,dR,oA,oR,aR,nB,nE,E8,mB,Nat.reduceAdd,zqc,zqb,zqd];simp -implicitDefEqProofs only[st,hb,eq_true hk,(show ¬c.blocks[i].e.kind=3 by omega),hd,A9 hd2,hd2,hv,XP,seval];exact⟨_,rfl⟩)
theorem KP(R:RunT T)(hi:i<c.blocks.length)(h:1<=s.steps)(hs:s.steps<=20000)(hk:c.blocks[i].e.kind=2)(ha:0<=c.blocks[i].e.a/\c.blocks[i].e.a<r.length)(hv:¬at' r c.blocks[i].e.a=0):∃t1,evP ⟨A0,T,A1⟩ (.code O9 (Q7 fa fd fo n r (i:Int)) (msL fa fd fo n m s a c r tch))=some (.ok .normal (Q7 fa fd fo n r c.blocks[i].e.to) (msL fa fd fo n m (stp s) a c r t1)):=by
 have st:=fun d o rest ext tch=>m5 (T:=T) (m:=m) (s:=s) (d:=d) (o:=o) (rest:=rest) (ext:=ext) (tch:=tch) R.hS h hs
 have hb:=A8 (F:=Blk.F) hi;obtain⟨d,hd,hd2⟩:∃d:Nat,c.blocks[i].e.a=d/\d<r.length:=⟨c.blocks[i].e.a.toNat,by omega,by omega⟩
 simp only[at',hd,zje,gD hd2]at hv;unfold O9 Hd Hc Hb Rx Rw Rv Q7 msL E8 Ps;unfold mB at st|-;simp only[Cod.F,Blk.F,stp]at hb st|-;cases fa<;>cases fd<;>cases fo<;>cases n<;>(
  simp only[dA,dR,oA,oR,aR,nB,nE,E8,mB,Nat.reduceAdd,zqc,zqb,zqd];simp -implicitDefEqProofs only[st,hb,eq_true hk,(show ¬c.blocks[i].e.kind=3 by omega),hd,A9 hd2,hd2,hv,XP,seval];exact⟨_,rfl⟩)
theorem KQ(R:RunT T)(hi:i<c.blocks.length)(h:1<=s.steps)(hs:s.steps<=20000)(hk:c.blocks[i].e.kind=1):∃t1,evP ⟨A0,T,A1⟩ (.code O9 (Q7 fa fd fo n r (i:Int)) (msL fa fd fo n m s a c r tch))=some (.ok .normal (Q7 fa fd fo n r c.blocks[i].e.to) (msL fa fd fo n m (stp s) a c r t1)):=by
 have st:=fun d o rest ext tch=>m5 (T:=T) (m:=m) (s:=s) (d:=d) (o:=o) (rest:=rest) (ext:=ext) (tch:=tch) R.hS h hs
 have hb:=A8 (F:=Blk.F) hi;unfold O9 Hd Hc Hb Rx Rw Rv Q7 msL E8 Ps;unfold mB at st|-;simp only[Cod.F,Blk.F,stp]at hb st|-;cases fa<;>cases fd<;>cases fo<;>cases n<;>(
  simp only[dA,dR,oA,oR,aR,nB,nE,E8,mB,Nat.reduceAdd,zqc,zqb,zqd];simp -implicitDefEqProofs only[st,hb,(show ¬c.blocks[i].e.kind=3 by omega),(show ¬c.blocks[i].e.kind=2 by omega),XP,seval];exact⟨_,rfl⟩)
end
inductive I2 where
 |go (r:List Int) (s:Mst)
 |stop (st c:Int) (s:Mst)
def insF(m:Modl)(C:Int->List Int->Mst->Rs):List Ins->List Int->Mst->I2
 |[],r,s=>.go r s
 | x :: l,r,s=>if s.steps<1 then .stop 3 0 s else if x.op=9 then(match C x.n (argsI x r) (stp s)with
     | .ret v s2=>insF m C l (if 0<=x.dst then put' r x.dst v else r) s2
     | .stop st c s2=>.stop st c s2)
  else if(doesI m x r (stp s)).1=0 then insF m C l (doesI m x r (stp s)).2.2 (doesI m x r (stp s)).2.1 else .stop 2 (doesI m x r (stp s)).1 (stp s)
def blkAt(c:Cod)(i:Int):Blk:=c.blocks.getD i.toNat ⟨[],⟨0,0,0,0⟩⟩
def E9(m:Modl)(C:Int->List Int->Mst->Rs)(c:Cod):Nat->Int->List Int->Mst->Rs
 |0,_,_,s=>.stop 3 0 s
 | n+1,i,r,s=>match insF m C (blkAt c i).code r s with
  | .stop st e s=>.stop st e s
  | .go r s=>if s.steps<1 then .stop 3 0 s
   else if(blkAt c i).e.kind=3 then .ret (if(blkAt c i).e.a<0 then 0 else at' r (blkAt c i).e.a) {stp s with calls:=s.calls-1}
   else E9 m C c n (if(blkAt c i).e.kind=2/\at' r (blkAt c i).e.a=0 then(blkAt c i).e.els else(blkAt c i).e.to) r (stp s)
def Eb(m:Modl)(f:Int):Cod:=m.fs.getD f.toNat ⟨[],0,0,[],[]⟩
def initR(n:Nat)(a:List Int):List Int:=a.take n++zqe (n-a.length) 0
def I3(m:Modl):Nat->Int->List Int->Mst->Rs
 |0,_,_,s=>.stop 2 4 s
 | d+1,f,a,s=>if 32<=s.calls then .stop 2 4 s
  else E9 m (I3 m d) (Eb m f) (s.steps.toNat+1) 0 (initR (Eb m f).regs.length a) {s with calls:=s.calls+1}
def k7(m:Modl)(d:List (List Int)):Prop:=d.length=m.gs.length/\∀(i:Nat) l g,d[i]?=some l->m.gs[i]?=some g->(l.length:Int)=max g.size 1
structure Sok(m:Modl)(s:Mst):Prop where
 d:k7 m s.data
 st:s.steps<=20000
 ou:s.out.length+s.steps.toNat<=30000
 ca:0<=s.calls/\s.calls<=33
structure InsR(m:Modl)(nr:Nat)(x:Ins):Prop where
 op:1<=x.op/\x.op<=11
 dst:x.op=1\/x.op=2\/x.op=3\/x.op=4\/x.op=5\/x.op=7\/x.op=10->0<=x.dst/\x.dst<nr
 a:x.op=2\/x.op=3\/x.op=4\/x.op=5\/x.op=6\/x.op=8\/x.op=11->0<=x.a/\x.a<nr
 b:x.op=3\/x.op=6->0<=x.b/\x.b<nr
 n:x.op=5\/x.op=6\/x.op=7\/x.op=8->0<=x.n/\x.n<m.gs.length
 c:x.op=9->(0<=x.n/\x.n<m.fs.length)/\(∀y∈x.args,0<=y/\y<nr)/\x.args.length<=100000/\x.dst<nr
structure EndR(nb nr:Nat)(e:Endd):Prop where
 k:1<=e.kind/\e.kind<=3
 a3:e.kind=3->e.a<nr
 a2:e.kind=2->0<=e.a/\e.a<nr
 to:e.kind≠3->0<=e.to/\e.to<nb
 els:e.kind=2->0<=e.els/\e.els<nb
structure CodR(m:Modl)(c:Cod):Prop where
 nb:1<=c.blocks.length
 b:∀b∈c.blocks,b.code.length<=2000000000000/\(∀x∈b.code,InsR m c.regs.length x)/\EndR c.blocks.length c.regs.length b.e
 nr:c.regs.length<=100000
structure ModR'(m:Modl):Prop where
 f:∀c∈m.fs,CodR m c
theorem Sok.stp{m:Modl}{s:Mst}(h:Sok m s)(h1:1<=s.steps):Sok m (stp s)/\(stp s).out.length+(stp s).steps.toNat+1<=30000:=by
 have:=h.ou;have:=h.st
 refine⟨⟨h.d,?_,?_,h.ca⟩,?_⟩<;>simp only[AmEnv.stp]<;>omega
theorem InsR.ok{m:Modl}{s:Mst}{x:Ins}{r:List Int}(h:InsR m r.length x)(hs:k7 m s.data):InsOk m x r s:=⟨h.dst,h.a,h.b,h.n,hs⟩
theorem put_len(l:List Int)(i v:Int):(put' l i v).length=l.length:=by simp[put']
theorem k7.set{m:Modl}{d:List (List Int)}(h:k7 m d)(i:Nat)(j v:Int):k7 m (d.set i (put' (d.getD i []) j v)):=by
 refine⟨by simp[h.1],fun k l g hk hg=>?_⟩;rw[List.getElem?_set]at hk;split at hk
 . rename_i e;subst e
   split at hk
   . rename_i hl
     cases hk;rw[put_len];exact h.2 i _ g (by simp[hl]) hg
   . cases hk
 . exact h.2 k l g hk hg
theorem pV{m:Modl}{s:Mst}{x:Ins}{r:List Int}(hd:k7 m s.data):k7 m (doesI m x r s).2.1.data/\(doesI m x r s).2.1.steps=s.steps/\(doesI m x r s).2.1.calls=s.calls/\(doesI m x r s).2.1.out.length<=s.out.length+1/\(doesI m x r s).2.2.length=r.length/\(x.op≠11->(doesI m x r s).2.1.out=s.out):=by
 unfold doesI
 repeat' split
 all_goals first
  |exact⟨hd,rfl,rfl,zkw _,by first|rfl|exact put_len _ _ _,fun _=>rfl⟩
  |exact⟨hd.set _ _ _,rfl,rfl,zkw _,rfl,fun _=>rfl⟩
  |exact⟨hd,rfl,rfl,by simp,rfl,fun h=>absurd (by assumption) h⟩
def pW(m:Modl)(cl:Int)(f:Int)(a:List Int)(s:Mst):Prop:=(0<=f/\f<m.fs.length)/\Sok m s/\s.calls=cl
def uI(m:Modl)(cl:Int)(C:Int->List Int->Mst->Rs):Prop:=∀f a s,pW m cl f a s->Sok m (C f a s).st/\(C f a s).st.steps<=s.steps/\∀v s',C f a s=.ret v s'->s'.calls=s.calls
theorem Ec{P:PE}{c:PC}{fr:PF}{K K':PK}{v:AV}(h:evP P (.code c fr K)=some (.pan v K')):evP P (.code (.loop c) fr K)=some (.pan v K'):=by rw[cH,h];rfl
theorem mG{fa fd fo n:Bool}{r r2:List Int}{at0:Int}(h:r2.length=r.length):Q7 fa fd fo n r2 at0=Q7 fa fd fo n r at0:=by unfold Q7;rw[h]
theorem k7.nil{m:Modl}{s:Mst}(h:k7 m s.data)(hg:m.gs=[]):s.data=[]:=zkf.1 (by rw[h.1,hg];rfl)
def I2.st:I2->Mst | .go _ s=>s | .stop _ _ s=>s
section
variable {m:Modl}{C:Int->List Int->Mst->Rs}{fa fd fo:Bool}{a:List Int}{c:Cod}{l:List Ins}{at0 cl:Int}{nr:Nat}
def inP(fa fd fo:Bool)(m:Modl)(a:List Int)(c:Cod)(l:List Ins)(at0:Int)(y:I2)(n2:Bool)(t1:List Nat):PR:=match y with
 | .go r2 s2=>.ok (.exit 2) ((49,.bool false)::(Q7 fa fd fo n2 r2 at0++frI l l.length)) (msL fa fd fo n2 m s2 a c r2 t1)
 | .stop st e s2=>.pan (E0 st e) ⟨E8 fa fd fo n2 m s2 a,nE fa fd fo,t1⟩
structure InE(m:Modl)(nr:Nat)(s:Mst)(y:I2):Prop where
 ok:Sok m y.st
 st:y.st.steps<=s.steps
 go:∀r2 s2,y=.go r2 s2->r2.length=nr/\s2.calls=s.calls
theorem InE.of{s s1:Mst}{y:I2}(h:InE m nr s1 y)(h1:s1.steps<=s.steps)(h2:s1.calls=s.calls):InE m nr s y:=⟨h.ok,zjf h.st h1,fun r2 s2 e=>⟨(h.go r2 s2 e).1,(h.go r2 s2 e).2.trans h2⟩⟩
theorem DY(R:RunT T)(hc:uF T m C (pW m cl))(hp:uI m cl C)(hl:l.length<=2000000000000)(hx:∀x∈l,InsR m nr x)(hd0:fd=false->m.gs=[]):
 ∀ (j k:Nat) (n:Bool) (r:List Int) (s:Mst) (tch:List Nat),l.length=k+j->r.length=nr->Sok m s->s.calls=cl->(fo=false->n=false->s.out=[]) ->
   InE m nr s (insF m C (l.drop k) r s)/\∃n2 t1,evP ⟨A0,T,A1⟩ (.code (.loop W9) (Q7 fa fd fo n r at0++frI l k) (msL fa fd fo n m s a c r tch))=some (inP fa fd fo m a c l at0 (insF m C (l.drop k) r s) n2 t1)/\(fo=false->n2=false->(insF m C (l.drop k) r s).st.out=[])
 | 0,k,n,r,s,tch,e,hr,hs,hcl,ho=>by
  obtain rfl:k=l.length:=by omega
  rw[List.drop_length];exact⟨⟨hs,zjd _,fun _ _ e=>by cases e;exact⟨hr,rfl⟩⟩,n,tch,C7 ZX,ho⟩
 | j + 1,k,n,r,s,tch,e,hr,hs,hcl,ho=>by
  have hk:k<l.length:=by omega
  have hxk:InsR m r.length l[k]:=hr▸hx _ (zqf hk);rw[zqz hk,insF];by_cases h1:s.steps<1
  . rw[if_pos h1]
    obtain⟨t1,h⟩:=KE (T:=T) (m:=m) (s:=s) (fa:=fa) (fd:=fd) (fo:=fo) (n:=n) (r:=r) (a:=a) (c:=c) (at0:=at0) (tch:=tch) R hk hl (by omega);exact⟨⟨hs,zjd _,fun _ _ e=>by cases e⟩,n,t1,Ec h,ho⟩
  . rw [if_neg h1]
    have hs1:=hs.stp (by omega);have hst:(stp s).steps<=s.steps:=by simp only[stp];omega
    have hfo:(fo||n)=false->(stp s).out=[]:=fun e=>by
     rw[zjk]at e;exact ho e.1 e.2
    by_cases h9:l[k].op=9
    . rw [if_pos h9]
      obtain⟨hn,hy,hal,hdst⟩:=hxk.c h9;have hpr:pW m cl l[k].n (argsI l[k] r) (stp s):=⟨hn,hs1.1,hcl⟩
      obtain ⟨p1,p2,p3⟩:=hp _ _ _ hpr;obtain⟨n',t0,q1,q2⟩:=hc (neE (argsI l[k] r)) fd (fo||n) l[k].n (argsI l[k] r) (stp s) hpr (fun e=>by
       revert e;cases argsI l[k] r with|nil=>intro _;rfl|cons _ _=>intro e;cases e) (fun e=>hs1.1.d.nil (hd0 e)) hfo
      have hq:fo=false->(n||n')=false->(C l[k].n (argsI l[k] r) (stp s)).st.out=[]:=fun e1 e2=>by
       rw[zjk]at e2;exact q1 (by rw[e1,e2.1];rfl) e2.2
      cases hC:C l[k].n (argsI l[k] r) (stp s)with
      | stop z e s2 =>
       rw[hC]at p1 p2 q1 q2 hq;obtain⟨t2,b⟩:=KK R hy hal q2;obtain⟨t3,b⟩:=uH (fa:=fa) (a:=a) (c:=c) (at0:=at0) (tch:=tch) R hk hl (by omega) hs.st h9 b;exact⟨⟨p1,zjf p2 hst,fun _ _ e=>by cases e⟩,n||n',t3,Ec b,hq⟩
      | ret v s2 =>
       rw [hC]at p1 p2 q1 q2 hq;have p3:=p3 v s2 hC;have fin:∀(r2:List Int),r2.length=r.length->(∃t1,evP ⟨A0,T,A1⟩ (.body 41 [.ptr 0 0 0,l[k].F,.msl 1 0 r.length 1] ⟨E8 true fd (fo||n) false m (stp s) r,nE true fd (fo||n),[]⟩)=some (.val [] ⟨E8 true fd (fo||n) n' m s2 r2,nE true fd (fo||n),t1⟩)) ->
        InE m nr s (insF m C (l.drop (k+1)) r2 s2)/\∃n2 t1,evP ⟨A0,T,A1⟩ (.code (.loop W9) (Q7 fa fd fo n r at0++frI l k) (msL fa fd fo n m s a c r tch))=some (inP fa fd fo m a c l at0 (insF m C (l.drop (k+1)) r2 s2) n2 t1)/\(fo=false->n2=false->(insF m C (l.drop (k+1)) r2 s2).st.out=[]):=by
        intro r2 hr2 ⟨t1,b⟩;obtain⟨t3,b⟩:=yE (fa:=fa) (a:=a) (c:=c) (at0:=at0) (tch:=tch) R hk hl (by omega) hs.st h9 b;obtain⟨g1,n2,t4,g2,g3⟩:=DY R hc hp hl hx hd0 j (k+1) (n||n') r2 s2 t3 (by omega) (hr2.trans hr) p1 (p3.trans hcl) hq;refine⟨g1.of (zjf p2 hst) p3,n2,t4,?_,g3⟩;rw[loop_more b,<-mG hr2];exact g2
       by_cases hdd:0<=l[k].dst
       . simp only[if_pos hdd]
         exact fin _ (put_len _ _ _) (KI R hy hal hdd hdst q2)
       . simp only[if_neg hdd]
         exact fin _ rfl (KJ R hy hal hdd q2)
    . rw [if_neg h9]
      have hop:1<=l[k].op/\l[k].op<=11/\l[k].op≠9:=⟨hxk.op.1,hxk.op.2,h9⟩
      have hio:=hxk.ok hs1.1.d;obtain⟨k1,k2,k3,k4,k5,k6⟩:=pV (x:=l[k]) (r:=r) hs1.1.d;have hol:s.out.length<=30000:=by have:=hs.ou;omega
      by_cases hv:(doesI m l[k] r (stp s)).1=0
      . rw [if_pos hv]
        obtain⟨t3,b⟩:=KF (T:=T) (fa:=fa) (fd:=fd) (fo:=fo) (n:=n) (n':=decide (l[k].op=11)) (a:=a) (c:=c) (at0:=at0) (tch:=tch) R hk hl (by omega) hs.st hop hio (fun e=>hs1.1.d.nil (hd0 e)) ho hol rfl hv;have hs2:Sok m (doesI m l[k] r (stp s)).2.1:=⟨k1,by rw[k2];exact hs1.1.st,by rw[k2];have:=hs1.2;omega,by rw[k3];exact hs1.1.ca⟩
        obtain ⟨g1,n2,t4,g2,g3⟩:=DY R hc hp hl hx hd0 j (k+1) (n||decide (l[k].op=11)) _ _ t3 (by omega) (k5.trans hr) hs2 (k3.trans hcl) (fun e1 e2=>by
         rw[zjk]at e2;rw[k6 (of_decide_eq_false e2.2)];exact ho e1 e2.1)
        refine⟨g1.of (by rw[k2];exact hst) k3,n2,t4,?_,g3⟩;rw[loop_more b,<-mG k5];exact g2
      . rw[if_neg hv]
        obtain⟨t3,b⟩:=DV (T:=T) (fa:=fa) (fd:=fd) (fo:=fo) (n:=n) (a:=a) (c:=c) (at0:=at0) (tch:=tch) R hk hl (by omega) hs.st hop hio (fun e=>hs1.1.d.nil (hd0 e)) ho hol hv;exact⟨⟨hs1.1,hst,fun _ _ e=>by cases e⟩,n,t3,Ec b,fun e1 e2=>ho e1 e2⟩
end
def GL(e:Nat)(l:List Nat):List Nat:=l.filter fun x=>decide (x<e)
theorem bB(e:Nat)(l:List Nat):l.filter (fun x=>decide (x<e))=GL e l:=rfl
section
variable {m:Modl}{s s2 s3:Mst}{fa fd fo n n2:Bool}{r r2 a:List Int}{c:Cod}{i:Nat}{tch t1:List Nat}{F:List Nat->List Nat}{j:Int}
theorem ZY(hi:i<c.blocks.length)(hin:evP ⟨A0,T,A1⟩ (.code (.loop W9) (Q7 fa fd fo n r (i:Int)++frI c.blocks[i].code 0) (msL fa fd fo n m s a c r (GL (nE fa fd fo) tch)))=some (.ok (.exit 2) ((49,.bool false)::(Q7 fa fd fo n2 r2 (i:Int)++frI c.blocks[i].code c.blocks[i].code.length)) (msL fa fd fo n2 m s2 a c r2 t1)))(hF:∀t,evP ⟨A0,T,A1⟩ (.code O9 (Q7 fa fd fo n2 r2 (i:Int)) (msL fa fd fo n2 m s2 a c r2 t))=some (.ok .normal (Q7 fa fd fo n2 r2 j) (msL fa fd fo n2 m s3 a c r2 (F t)))):∃t',evP ⟨A0,T,A1⟩ (.code o7 (Q7 fa fd fo n r (i:Int)) (msL fa fd fo n m s a c r tch))=some (.ok .normal (Q7 fa fd fo n2 r2 j) (msL fa fd fo n2 m s3 a c r2 t')):=by
 have hb:=A8 (F:=Blk.F) hi;unfold o7 eF;unfold Q7 frI msL E8 Ps at hin;unfold Q7 msL E8 Ps at hF|-;unfold mB at hin hF|-;simp only[Cod.F,Blk.F]at hb hin hF|-;cases fa<;>cases fd<;>cases fo<;>cases n<;>cases n2<;>(
  simp only[dA,dR,oA,oR,aR,nB,nE,Nat.reduceAdd,zqc,zqb,zqd,show((0:Nat):Int)=0 from rfl]at hin hF|-;simp -implicitDefEqProofs only[hb,hin,hF,bB,zqa,XP,Nat.reduceAdd,Nat.reduceSub,Nat.reduceLT,Nat.reduceLeDiff,Nat.reduceEqDiff,Nat.reduceMul,↓reduceIte];exact⟨_,rfl⟩)
theorem ZZ{v:Int}(hi:i<c.blocks.length)(hin:evP ⟨A0,T,A1⟩ (.code (.loop W9) (Q7 fa fd fo n r (i:Int)++frI c.blocks[i].code 0) (msL fa fd fo n m s a c r (GL (nE fa fd fo) tch)))=some (.ok (.exit 2) ((49,.bool false)::(Q7 fa fd fo n2 r2 (i:Int)++frI c.blocks[i].code c.blocks[i].code.length)) (msL fa fd fo n2 m s2 a c r2 t1)))(hF:∀t,evP ⟨A0,T,A1⟩ (.code O9 (Q7 fa fd fo n2 r2 (i:Int)) (msL fa fd fo n2 m s2 a c r2 t))=some (.ok .ret [(6,.int .i64 v)] ⟨E8 fa fd fo n2 m s3 a,nE fa fd fo,F t⟩)):∃t',evP ⟨A0,T,A1⟩ (.code o7 (Q7 fa fd fo n r (i:Int)) (msL fa fd fo n m s a c r tch))=some (.ok .ret [(6,.int .i64 v)] ⟨E8 fa fd fo n2 m s3 a,nE fa fd fo,t'⟩):=by
 have hb:=A8 (F:=Blk.F) hi;unfold o7 eF;unfold Q7 frI msL E8 Ps at hin;unfold Q7 msL E8 Ps at hF|-;unfold mB at hin hF|-;simp only[Cod.F,Blk.F]at hb hin hF|-;cases fa<;>cases fd<;>cases fo<;>cases n<;>cases n2<;>(
  simp only[dA,dR,oA,oR,aR,nB,nE,Nat.reduceAdd,zqc,zqb,zqd,show((0:Nat):Int)=0 from rfl]at hin hF|-;simp -implicitDefEqProofs only[hb,hin,hF,bB,zqa,XP,Nat.reduceAdd,Nat.reduceSub,Nat.reduceLT,Nat.reduceLeDiff,Nat.reduceEqDiff,Nat.reduceMul,↓reduceIte];exact⟨_,rfl⟩)
theorem A0A{z e:Int}(hi:i<c.blocks.length)(hin:evP ⟨A0,T,A1⟩ (.code (.loop W9) (Q7 fa fd fo n r (i:Int)++frI c.blocks[i].code 0) (msL fa fd fo n m s a c r (GL (nE fa fd fo) tch)))=some (.ok (.exit 2) ((49,.bool false)::(Q7 fa fd fo n2 r2 (i:Int)++frI c.blocks[i].code c.blocks[i].code.length)) (msL fa fd fo n2 m s2 a c r2 t1)))(hF:∀t,evP ⟨A0,T,A1⟩ (.code O9 (Q7 fa fd fo n2 r2 (i:Int)) (msL fa fd fo n2 m s2 a c r2 t))=some (.pan (E0 z e) ⟨E8 fa fd fo n2 m s2 a++[Ps c,.row 0 (ints r2) 1],nE fa fd fo,F t⟩)):∃t',evP ⟨A0,T,A1⟩ (.code o7 (Q7 fa fd fo n r (i:Int)) (msL fa fd fo n m s a c r tch))=some (.pan (E0 z e) ⟨E8 fa fd fo n2 m s2 a,nE fa fd fo,t'⟩):=by
 have hb:=A8 (F:=Blk.F) hi;unfold E0 at hF|-;unfold o7 eF;unfold Q7 frI msL E8 Ps at hin;unfold Q7 msL E8 Ps at hF|-;unfold mB at hin hF|-;simp only[Cod.F,Blk.F]at hb hin hF|-;cases fa<;>cases fd<;>cases fo<;>cases n<;>cases n2<;>(
  simp only[dA,dR,oA,oR,aR,nB,nE,Nat.reduceAdd,zqc,zqb,zqd,show((0:Nat):Int)=0 from rfl]at hin hF|-;simp -implicitDefEqProofs only[hb,hin,hF,bB,Xw,Xx,zqa,XP,Nat.reduceAdd,Nat.reduceSub,Nat.reduceLT,Nat.reduceLeDiff,Nat.reduceEqDiff,Nat.reduceMul,↓reduceIte];exact⟨_,rfl⟩)
theorem A0B{z e:Int}(hi:i<c.blocks.length)(hin:evP ⟨A0,T,A1⟩ (.code (.loop W9) (Q7 fa fd fo n r (i:Int)++frI c.blocks[i].code 0) (msL fa fd fo n m s a c r (GL (nE fa fd fo) tch)))=some (.pan (E0 z e) ⟨E8 fa fd fo n2 m s2 a,nE fa fd fo,t1⟩)):∃t',evP ⟨A0,T,A1⟩ (.code o7 (Q7 fa fd fo n r (i:Int)) (msL fa fd fo n m s a c r tch))=some (.pan (E0 z e) ⟨E8 fa fd fo n2 m s2 a,nE fa fd fo,t'⟩):=by
 have hb:=A8 (F:=Blk.F) hi;unfold E0 at hin|-;unfold o7 eF;unfold Q7 frI msL E8 Ps at hin;unfold Q7 msL E8 Ps at|-;unfold mB at hin|-;simp only[Cod.F,Blk.F]at hb hin|-;cases fa<;>cases fd<;>cases fo<;>cases n<;>cases n2<;>(
  simp only[dA,dR,oA,oR,aR,nB,nE,Nat.reduceAdd,zqc,zqb,zqd,show((0:Nat):Int)=0 from rfl]at hin|-;simp -implicitDefEqProofs only[hb,hin,bB,Xw,Xx,zqa,XP,Nat.reduceAdd,Nat.reduceSub,Nat.reduceLT,Nat.reduceLeDiff,Nat.reduceEqDiff,Nat.reduceMul,↓reduceIte];exact⟨_,rfl⟩)
end
theorem bC(l c:Operand)(fr:PF)(K:PK):prim A0 (.makeSlice 26 l c) fr K=Yi A0 Fo (opvP A0 l fr) (opvP A0 c fr) K:=rfl
theorem QE{k k':IntKind}{n:Nat}{K:PK}(h:n*8<=140737488355328):Yi A0 Fo (.int k (n:Int)) (.int k' (n:Int)) K=.val (.msl K.os.length 0 n 1) ⟨K.os++[.row 0 (ints (zqe n 0)) 1],K.ext,K.tch⟩:=by
 have e:ints (zqe n 0)=zqe n (AV.int .i64 0):=by simp[ints]
 rw[e];show(match some ty3,some n,some n with|some te,some n,some m=>(if n<=m/\m*te.bytes<=140737488355328/\0<te.size then OpS.val (.msl K.os.length 0 n te.size) (AM.newRow 0 (zqe n te.zero) te.size K)else .bad)|_,_,_=>.bad)=_
 exact if_pos ⟨zku _,h,by decide⟩
theorem uJ{os:List PO}{id N ext:Nat}{tch:List Nat}{x:AV}{a:List Int}{os2:List PO}(hr:os[id]?=some (.row 0 (ints (zqe N 0)) 1))(hx:takeE ty3 x ext [] os=some (ints a,os2)):
 F0 A0 .copy [26,26] [.msl id 0 N 1,x] ⟨os,ext,tch⟩=some (.int .i64 (Int.ofNat (min N a.length)),⟨os.set id (.row 0 (ints (initR N a)) 1),ext,id::tch⟩):=by
 show(match takeE ty3 x ext [] os with|some q=>nC 1 id 0 N q.1 ⟨os,ext,tch⟩|none=>none)=_
 rw[hx];show(match os[id]? with|some (.row 0 es z)=>if z=1/\0+N<=es.length/\Ay es=true/\Ay (ints a)=true then some (AV.int .i64 (Int.ofNat (min N (ints a).length)),(⟨os.set id (.row 0 (es.take 0++((ints a).take (min N (ints a).length)++es.drop (0+min N (ints a).length))) z),ext,id::tch⟩:PK))else none|_=>none)=_
 rw[hr];show(if 1=1/\_ then _ else _)=_
 rw[if_pos ⟨rfl,by simp[ints],aM _,aM _⟩];have hl:(ints a).length=a.length:=by simp[ints]
 have:(ints (zqe N 0)).take 0++((ints a).take (min N (ints a).length)++(ints (zqe N 0)).drop (0+min N (ints a).length))=ints (initR N a):=by
  rw[hl];unfold initR ints;rw[zka,zqb,zqs,<-List.map_take,<-List.map_drop,List.drop_replicate]
  congr 1
  . congr 1
    rw[Nat.min_def];split
    . rfl
    . rw[zqi (zku _),zqi (by omega)]
  . congr 2;omega
 rw[this,hl]
section
variable {m:Modl}{s s2:Mst}{fa fd fo n2:Bool}{a:List Int}{f:Nat}{t1:List Nat}
theorem BX(R:RunT T)(h:32<=s.calls):∃t1,evP ⟨A0,T,A1⟩ (.body 24 [.ptr 0 0 0,.int .i64 (f:Int),m6 fa 1 a] ⟨E8 fa fd fo false m s a,nE fa fd fo,[]⟩)=some (.pan (E0 2 4) ⟨E8 fa fd fo false m s a,nE fa fd fo,t1⟩):=by
 have hg:decide (s.calls>=32)=true:=by simp;omega
 have tn:=fun K=>Pr (T:=T) (K:=K) R.hN (t:=4) (by decide)
 unfold E0 at tn|-;rw[A3 (c:=AN) (nt:=109) (rs:=[.tmp 6]) rfl (by simp)];unfold AN;unfold aH aG aF aE aD aC aB lP E8;unfold mB;cases fa<;>cases fd<;>cases fo<;>(
  simp only[dA,dR,oA,oR,aR,nB,nE,m6,Nat.reduceAdd,zqc,zqb,zqd];simp -implicitDefEqProofs only[hg,tn,Xw,Xx,XP,seval];exact⟨_,rfl⟩)
theorem KR{N:Nat}{C:PO}{tch:List Nat}(hz:fa=false->a=[]):F0 A0 .copy [26,26] [.msl (nE fa fd fo+1) 0 N 1,m6 fa 1 a] ⟨E8 fa fd fo false m s a++[C,.row 0 (ints (zqe N 0)) 1],nE fa fd fo,tch⟩=some (.int .i64 (Int.ofNat (min N a.length)),⟨E8 fa fd fo false m s a++[C,.row 0 (ints (initR N a)) 1],nE fa fd fo,(nE fa fd fo+1)::tch⟩):=by
 cases fa with
 | false =>
  rw[hz rfl];rw[uJ (a:=[]) (os2:=E8 false fd fo false m s []++[C,.row 0 (ints (zqe N 0)) 1]) (by cases fd<;>cases fo<;>rfl) (by cases fd<;>cases fo<;>rfl)];cases fd<;>cases fo<;>rfl
 | true =>
  rw[uJ (a:=a) (os2:=E8 true fd fo false m s a++[C,.row 0 (ints (zqe N 0)) 1]) (by cases fd<;>cases fo<;>rfl) ?_]
  . cases fd<;>cases fo<;>rfl
  . unfold E8 m6 aR
    have hl:(ints a).length=a.length:=by simp[ints]
    cases fd<;>cases fo<;>(
     simp only[dA,dR,oA,oR,nB,Nat.reduceAdd,zqc,zqb,zqd];simp -implicitDefEqProofs only[hl,aM,XP,seval])
def bD(s:Mst):Mst:={s with calls:=s.calls+1}
theorem Lu(n:Nat)(a:List Int):(initR n a).length=n:=by unfold initR;rw[zkl,zkg,zkb];omega
theorem KS{v:Int}(h:¬32<=s.calls)(h0:0<=s.calls)(hf:f<m.fs.length)(hn:m.fs[f].regs.length<=100000)(hz:fa=false->a=[])(hl:evP ⟨A0,T,A1⟩ (.code (.loop o7) (Q7 fa fd fo false (initR m.fs[f].regs.length a) 0) (msL fa fd fo false m (bD s) a m.fs[f] (initR m.fs[f].regs.length a) [0]))=some (.ok .ret [(6,.int .i64 v)] ⟨E8 fa fd fo n2 m s2 a,nE fa fd fo,t1⟩)):∃t1,evP ⟨A0,T,A1⟩ (.body 24 [.ptr 0 0 0,.int .i64 (f:Int),m6 fa 1 a] ⟨E8 fa fd fo false m s a,nE fa fd fo,[]⟩)=some (.val [.int .i64 v] ⟨E8 fa fd fo n2 m s2 a,nE fa fd fo,t1⟩):=by
 have hg:decide (s.calls>=32)=false:=by simp;omega
 have hc:=Ez (n:=s.calls+1) (by omega) (by omega);have hi:=A8 (F:=Cod.F) hf;have cp:=fun tch=>KR (m:=m) (s:=bD s) (fd:=fd) (fo:=fo) (N:=m.fs[f].regs.length) (C:=.row 1 [m.fs[f].F] 5) (tch:=tch) hz
 have mk:=fun k k' K=>QE (k:=k) (k':=k') (n:=m.fs[f].regs.length) (K:=K) (by omega)
 have hil:=Lu m.fs[f].regs.length a;generalize initR m.fs[f].regs.length a=r0 at cp hl hil;unfold Q7 msL Ps at hl;rw[hil]at hl;rw[A3 (c:=AN) (nt:=109) (rs:=[.tmp 6]) rfl (by simp)];unfold AN;unfold aH aG aF aE aD aC aB lP;unfold E8 at cp hl|-;unfold mB at cp hl|-;simp only[Cod.F,bD]at hi cp hl|-;cases fa<;>cases fd<;>cases fo<;>(
  simp only[dA,dR,oA,oR,aR,nB,nE,m6,Nat.reduceAdd,zqc,zqb,zqd]at cp hl|-;simp -implicitDefEqProofs only[hg,hc,hi,cp,hl,bC,mk,zqa,XP,Nat.reduceAdd,Nat.reduceSub,Nat.reduceLT,Nat.reduceLeDiff,Nat.reduceEqDiff,Nat.reduceMul,↓reduceIte];exact⟨_,rfl⟩)
theorem KT{z e:Int}(h:¬32<=s.calls)(h0:0<=s.calls)(hf:f<m.fs.length)(hn:m.fs[f].regs.length<=100000)(hz:fa=false->a=[])(hl:evP ⟨A0,T,A1⟩ (.code (.loop o7) (Q7 fa fd fo false (initR m.fs[f].regs.length a) 0) (msL fa fd fo false m (bD s) a m.fs[f] (initR m.fs[f].regs.length a) [0]))=some (.pan (E0 z e) ⟨E8 fa fd fo n2 m s2 a,nE fa fd fo,t1⟩)):∃t1,evP ⟨A0,T,A1⟩ (.body 24 [.ptr 0 0 0,.int .i64 (f:Int),m6 fa 1 a] ⟨E8 fa fd fo false m s a,nE fa fd fo,[]⟩)=some (.pan (E0 z e) ⟨E8 fa fd fo n2 m s2 a,nE fa fd fo,t1⟩):=by
 have hg:decide (s.calls>=32)=false:=by simp;omega
 have hc:=Ez (n:=s.calls+1) (by omega) (by omega);have hi:=A8 (F:=Cod.F) hf;have cp:=fun tch=>KR (m:=m) (s:=bD s) (fd:=fd) (fo:=fo) (N:=m.fs[f].regs.length) (C:=.row 1 [m.fs[f].F] 5) (tch:=tch) hz
 have mk:=fun k k' K=>QE (k:=k) (k':=k') (n:=m.fs[f].regs.length) (K:=K) (by omega)
 have hil:=Lu m.fs[f].regs.length a;generalize initR m.fs[f].regs.length a=r0 at cp hl hil;unfold E0 at hl|-;unfold Q7 msL Ps at hl;rw[hil]at hl;rw[A3 (c:=AN) (nt:=109) (rs:=[.tmp 6]) rfl (by simp)];unfold AN;unfold aH aG aF aE aD aC aB lP;unfold E8 at cp hl|-;unfold mB at cp hl|-;simp only[Cod.F,bD]at hi cp hl|-;cases fa<;>cases fd<;>cases fo<;>cases n2<;>(
  simp only[dA,dR,oA,oR,aR,nB,nE,m6,Nat.reduceAdd,zqc,zqb,zqd]at cp hl|-;simp -implicitDefEqProofs only[hg,hc,hi,cp,hl,bC,mk,Xw,Xx,zqa,XP,Nat.reduceAdd,Nat.reduceSub,Nat.reduceLT,Nat.reduceLeDiff,Nat.reduceEqDiff,Nat.reduceMul,↓reduceIte];exact⟨_,rfl⟩)
end
theorem uK{c:Cod}{i:Nat}(h:i<c.blocks.length):blkAt c (i:Int)=c.blocks[i]:=by simp[blkAt,zqj,h]
theorem uL{m:Modl}{i:Nat}(h:i<m.fs.length):Eb m (i:Int)=m.fs[i]:=by simp[Eb,zqj,h]
section
variable {m:Modl}{C:Int->List Int->Mst->Rs}{fa fd fo:Bool}{a:List Int}{c:Cod}{cl:Int}
def QF(fa fd fo:Bool)(m:Modl)(a:List Int)(y:Rs)(n2:Bool)(t1:List Nat):PR:=match y with
 | .ret v s2=>.ok .ret [(6,.int .i64 v)] ⟨E8 fa fd fo n2 m s2 a,nE fa fd fo,t1⟩
 | .stop st e s2=>.pan (E0 st e) ⟨E8 fa fd fo n2 m s2 a,nE fa fd fo,t1⟩
structure OutE(m:Modl)(s:Mst)(y:Rs):Prop where
 ok:Sok m y.st
 st:y.st.steps<=s.steps
 rt:∀v s2,y=.ret v s2->s2.calls=s.calls-1
theorem OutE.of{s s1:Mst}{y:Rs}(h:OutE m s1 y)(h1:s1.steps<=s.steps)(h2:s1.calls=s.calls):OutE m s y:=⟨h.ok,zjf h.st h1,fun v s2 e=>by rw[h.rt v s2 e,h2]⟩
theorem BY(R:RunT T)(hc:uF T m C (pW m cl))(hp:uI m cl C)(hC:CodR m c)(hd0:fd=false->m.gs=[]):
 ∀ (f i:Nat) (n:Bool) (r:List Int) (s:Mst) (tch:List Nat),i<c.blocks.length->r.length=c.regs.length->Sok m s->1<=s.calls->s.calls=cl->s.steps.toNat<f->(fo=false->n=false->s.out=[]) ->
   OutE m s (E9 m C c f i r s)/\∃n2 t1,evP ⟨A0,T,A1⟩ (.code (.loop o7) (Q7 fa fd fo n r (i:Int)) (msL fa fd fo n m s a c r tch))=some (QF fa fd fo m a (E9 m C c f i r s) n2 t1)/\(fo=false->n2=false->(E9 m C c f i r s).st.out=[])
 |0,i,n,r,s,tch,hi,hr,hs,hca,hcl,hf,ho=>absurd hf (zky _)
 | f + 1,i,n,r,s,tch,hi,hr,hs,hca,hcl,hf,ho=>by
  obtain⟨b1,b2,b3⟩:=hC.b _ (zqf hi);obtain⟨g1,n2,t1,g2,g3⟩:=DY (fa:=fa) (fo:=fo) (a:=a) (c:=c) (at0:=(i:Int)) R hc hp b1 b2 hd0 c.blocks[i].code.length 0 n r s (GL (nE fa fd fo) tch) (by omega) hr hs hcl ho;rw[zqt]at g1 g2 g3;rw[E9,uK hi];cases hy:insF m C c.blocks[i].code r s with
  | stop z e s2 =>
   rw[hy]at g1 g2 g3;obtain⟨t2,q⟩:=A0B (tch:=tch) hi g2;exact⟨⟨g1.ok,g1.st,fun _ _ e=>by cases e⟩,n2,t2,Ec q,g3⟩
  | go r2 s2 =>
   rw[hy]at g1 g2 g3;obtain⟨hr2,hc2⟩:=g1.go _ _ rfl;have k1:Sok m s2:=g1.ok;have k2:s2.steps<=s.steps:=g1.st;dsimp only;by_cases h1:s2.steps<1
   . rw[if_pos h1]
     have K:=fun t=>KL (T:=T) (m:=m) (s:=s2) (fa:=fa) (fd:=fd) (fo:=fo) (n:=n2) (r:=r2) (a:=a) (c:=c) (tch:=t) R hi (by omega)
     obtain⟨t2,q⟩:=A0A (tch:=tch) (F:=fun t=>(K t).choose) hi g2 (fun t=>(K t).choose_spec);exact⟨⟨k1,k2,fun _ _ e=>by cases e⟩,n2,t2,Ec q,g3⟩
   . rw [if_neg h1]
     have k3:=k1.stp (by omega);have hst:(stp s2).steps<=s.steps:=by simp only[stp];omega
     have hst2:(stp s2).steps.toNat<f:=by simp only[stp];omega
     by_cases hk3:c.blocks[i].e.kind=3
     . rw [if_pos hk3]
       have fin:∀v,(∀t,∃t1,evP ⟨A0,T,A1⟩ (.code O9 (Q7 fa fd fo n2 r2 (i:Int)) (msL fa fd fo n2 m s2 a c r2 t))=some (.ok .ret [(6,.int .i64 v)] ⟨E8 fa fd fo n2 m {stp s2 with calls:=s2.calls-1} a,nE fa fd fo,t1⟩)) ->
        OutE m s (.ret v {stp s2 with calls:=s2.calls-1})/\∃n3 t1,evP ⟨A0,T,A1⟩ (.code (.loop o7) (Q7 fa fd fo n r (i:Int)) (msL fa fd fo n m s a c r tch))=some (QF fa fd fo m a (.ret v {stp s2 with calls:=s2.calls-1}) n3 t1)/\(fo=false->n3=false->(Rs.ret v {stp s2 with calls:=s2.calls-1}).st.out=[]):=by
        intro v K;obtain⟨t2,q⟩:=ZZ (tch:=tch) (F:=fun t=>(K t).choose) hi g2 (fun t=>(K t).choose_spec);have hca2:=k1.ca;refine⟨⟨⟨k3.1.d,k3.1.st,k3.1.ou,?_⟩,hst,fun _ _ e=>by cases e;rw[<-hc2]⟩,n2,t2,j4 q,g3⟩;show 0<=s2.calls-1/\s2.calls-1<=33
        omega
       by_cases ha:c.blocks[i].e.a<0
       . rw[if_pos ha]
         exact fin 0 fun t=>KM R hi (by omega) k1.st hk3 ha k1.ca.1 (by have:=k1.ca;omega)
       . rw[if_neg ha]
         exact fin _ fun t=>KN R hi (by omega) k1.st hk3 ⟨by omega,by have:=b3.a3 hk3;omega⟩ k1.ca.1 (by have:=k1.ca;omega)
     . rw [if_neg hk3]
       have fin:∀(j:Int),0<=j->j<c.blocks.length->(∀t,∃t1,evP ⟨A0,T,A1⟩ (.code O9 (Q7 fa fd fo n2 r2 (i:Int)) (msL fa fd fo n2 m s2 a c r2 t))=some (.ok .normal (Q7 fa fd fo n2 r2 j) (msL fa fd fo n2 m (stp s2) a c r2 t1))) ->
        OutE m s (E9 m C c f j r2 (stp s2))/\∃n3 t1,evP ⟨A0,T,A1⟩ (.code (.loop o7) (Q7 fa fd fo n r (i:Int)) (msL fa fd fo n m s a c r tch))=some (QF fa fd fo m a (E9 m C c f j r2 (stp s2)) n3 t1)/\(fo=false->n3=false->(E9 m C c f j r2 (stp s2)).st.out=[]):=by
        intro j h0 hj K;obtain⟨j,rfl⟩:∃k:Nat,j=k:=⟨j.toNat,by omega⟩
        obtain⟨t2,q⟩:=ZY (tch:=tch) (F:=fun t=>(K t).choose) hi g2 (fun t=>(K t).choose_spec);obtain⟨u1,n3,t3,u2,u3⟩:=BY R hc hp hC hd0 f j n2 r2 (stp s2) t2 (by omega) hr2 k3.1 (by show 1<=s2.calls;omega) (hc2.trans hcl) hst2 g3;exact⟨u1.of hst hc2,n3,t3,by rw[loop_more q];exact u2,u3⟩
       by_cases hk2:c.blocks[i].e.kind=2
       . obtain ⟨a1,a2⟩:=b3.a2 hk2
         by_cases hv:at' r2 c.blocks[i].e.a=0
         . rw[if_pos ⟨hk2,hv⟩]
           exact fin _ (b3.els hk2).1 (b3.els hk2).2 fun t=>KO R hi (by omega) k1.st hk2 ⟨a1,by omega⟩ hv
         . rw[if_neg (fun e=>hv e.2)]
           exact fin _ (b3.to hk3).1 (b3.to hk3).2 fun t=>KP R hi (by omega) k1.st hk2 ⟨a1,by omega⟩ hv
       . rw[if_neg (fun e=>hk2 e.1)]
         exact fin _ (b3.to hk3).1 (b3.to hk3).2 fun t=>KQ R hi (by omega) k1.st (by have:=b3.k;omega)
theorem k7.len0{s:Mst}(h:k7 m s.data)(e:s.data=[]):m.gs=[]:=zkf.1 (by rw[<-h.1,e];rfl)
theorem fD(R:RunT T)(hM:ModR' m):∀(d:Nat)(cl:Int),33-cl<=d->0<=cl->uI m cl (I3 m d)/\uF T m (I3 m d) (pW m cl)
 | 0,cl,h,h0=>by
  refine⟨fun f a s hp=>?_,fun fa fd fo f a s hp hz hd ho=>?_⟩
  . exact⟨hp.2.1,zjd _,fun _ _ e=>by cases e⟩
  . obtain⟨t1,e⟩:=BX (T:=T) (m:=m) (s:=s) (fa:=fa) (fd:=fd) (fo:=fo) (a:=a) (f:=f.toNat) R (by have:=hp.2.2;omega)
    rw[Int.toNat_of_nonneg hp.1.1]at e;exact⟨false,t1,fun e _=>ho e,e⟩
 | d + 1,cl,h,h0=>by
  obtain⟨i1,i2⟩:=fD R hM d (cl+1) (by omega) (by omega);have key:∀(fa fd fo:Bool)(f:Int)(a:List Int)(s:Mst),pW m cl f a s->(fa=false->a=[])->(fd=false->s.data=[])->(fo=false->s.out=[]) ->
   (Sok m (I3 m (d+1) f a s).st/\(I3 m (d+1) f a s).st.steps<=s.steps/\∀v s',I3 m (d+1) f a s=.ret v s'->s'.calls=s.calls)/\
   ∃n' t1,(fo=false->n'=false->(I3 m (d+1) f a s).st.out=[])/\evP ⟨A0,T,A1⟩ (.body 24 [.ptr 0 0 0,.int .i64 f,m6 fa 1 a] ⟨E8 fa fd fo false m s a,nE fa fd fo,[]⟩)=some (yB (I3 m (d+1) f a s) fun s'=>⟨E8 fa fd fo n' m s' a,nE fa fd fo,t1⟩):=by
   intro fa fd fo f a s hp hz hd ho;obtain⟨⟨f0,f1⟩,hs,hcl⟩:=hp;obtain⟨f,rfl⟩:∃k:Nat,f=k:=⟨f.toNat,by omega⟩
   have hf:f<m.fs.length:=by omega
   rw[I3];by_cases h32:32<=s.calls
   . rw[if_pos h32]
     obtain⟨t1,e⟩:=BX (T:=T) (m:=m) (s:=s) (fa:=fa) (fd:=fd) (fo:=fo) (a:=a) (f:=f) R h32;exact⟨⟨hs,zjd _,fun _ _ e=>by cases e⟩,false,t1,fun e _=>ho e,e⟩
   . rw [if_neg h32,uL hf]
     have hC:=hM.f _ (zqf hf);have hs':Sok m (bD s):=⟨hs.d,hs.st,hs.ou,by show 0<=s.calls+1/\s.calls+1<=33;have:=hs.ca;omega⟩
     obtain⟨g1,n2,t1,g2,g3⟩:=BY (fa:=fa) (fd:=fd) (fo:=fo) (a:=a) R i2 i1 hC (fun e=>hs.d.len0 (hd e)) (s.steps.toNat+1) 0 false (initR m.fs[f].regs.length a) (bD s) [0] hC.nb (Lu _ _) hs' (by show 1<=s.calls+1;have:=hs.ca;omega) (by show s.calls+1=cl+1;omega) (by show s.steps.toNat<s.steps.toNat+1;omega) (fun e _=>ho e);have hb:=hs.ca.1;show(Sok m (E9 m (I3 m d) m.fs[f] (s.steps.toNat+1) 0 (initR m.fs[f].regs.length a) (bD s)).st/\(E9 m (I3 m d) m.fs[f] (s.steps.toNat+1) 0 (initR m.fs[f].regs.length a) (bD s)).st.steps<=s.steps/\∀v s',E9 m (I3 m d) m.fs[f] (s.steps.toNat+1) 0 (initR m.fs[f].regs.length a) (bD s)=.ret v s'->s'.calls=s.calls)/\∃n' t1,(fo=false->n'=false->(E9 m (I3 m d) m.fs[f] (s.steps.toNat+1) 0 (initR m.fs[f].regs.length a) (bD s)).st.out=[])/\_=some (yB (E9 m (I3 m d) m.fs[f] (s.steps.toNat+1) 0 (initR m.fs[f].regs.length a) (bD s)) _)
     replace g1:OutE m (bD s) (E9 m (I3 m d) m.fs[f] (s.steps.toNat+1) 0 (initR m.fs[f].regs.length a) (bD s)):=g1
     replace g3:fo=false->n2=false->(E9 m (I3 m d) m.fs[f] (s.steps.toNat+1) 0 (initR m.fs[f].regs.length a) (bD s)).st.out=[]:=g3
     replace g2:evP ⟨A0,T,A1⟩ (.code (.loop o7) (Q7 fa fd fo false (initR m.fs[f].regs.length a) 0) (msL fa fd fo false m (bD s) a m.fs[f] (initR m.fs[f].regs.length a) [0]))=some (QF fa fd fo m a (E9 m (I3 m d) m.fs[f] (s.steps.toNat+1) 0 (initR m.fs[f].regs.length a) (bD s)) n2 t1):=g2
     cases hy:E9 m (I3 m d) m.fs[f] (s.steps.toNat+1) 0 (initR m.fs[f].regs.length a) (bD s)with
     | ret v s2 =>
      rw[hy]at g1 g2 g3;obtain⟨t2,e⟩:=KS h32 hb hf hC.nr hz g2;refine⟨⟨g1.ok,g1.st,fun v' s' e=>?_⟩,n2,t2,g3,e⟩;cases e
      have:s2.calls=s.calls+1-1:=g1.rt _ _ rfl
      omega
     | stop z e s2 =>
      rw[hy]at g1 g2 g3;obtain⟨t2,e⟩:=KT h32 hb hf hC.nr hz g2;exact⟨⟨g1.ok,g1.st,fun _ _ e=>by cases e⟩,n2,t2,g3,e⟩
  refine⟨fun f a s hp=>?_,fun fa fd fo f a s hp hz hd ho=>(key fa fd fo f a s hp hz hd ho).2⟩;exact(key true true true f a s hp (fun e=>by cases e) (fun e=>by cases e) (fun e=>by cases e)).1
end
def Jn(g:Glo):Nat:=(max g.size 1).toNat
def Cm(l:List Glo):List (List Int):=l.map fun g=>zqe (Jn g) 0
section
variable {m:Modl}{input:List Int}{steps:Int}{i:Nat}{K:PK}
def sI(steps:Int)(input:List Int)(l:List Glo):Mst:=⟨steps,input,Cm l,[],0⟩
theorem KU{a:Int}:F0 A0 .max [3,3] [.int .i64 a,.int .i64 1] K=some (.int .i64 (max a 1),K):=by
 have e:F0 A0 .max [3,3] [.int .i64 a,.int .i64 1] K=some (.int .i64 (bif intLe 1 a then a else 1),K):=rfl;rw[e,O1];by_cases h:1<=a
 . rw[decide_eq_true h,cond_true,Int.max_eq_left h]
 . rw[decide_eq_false h,cond_false,Int.max_eq_right (by omega)]
theorem uM{x:AV}:AV.withCells .nilptr 0 [x]=x:=rfl
theorem mH(a b d e:Nat):Jy (.msl a b d e)=false:=rfl
theorem mI:Jy .nilsl=false:=rfl
def dV(d:List (List Int)):AV:=match d with|[]=>.nilsl|_::_=>.msl 4 0 d.length 1
def dW(d:List (List Int)):List PO:=match d with|[]=>[]|_::_=>[.row 0 (d.map rowO) 1]
def jT(m:Modl)(s:Mst):PK:=⟨.row 1 [m.F] 2::.row 1 [.agg [.nilsl,.int .i64 0,.int .i64 0]] 3::.row 1 [.ptr 3 0 0] 1::.row 1 [mB m s (dV s.data) .nilsl] 9::dW s.data,0,[]⟩
theorem uN{d:List (List Int)}(h:d≠[]):dV d=.msl 4 0 d.length 1:=by cases d with|nil=>exact absurd rfl h|cons _ _=>rfl
theorem uO{d:List (List Int)}(h:d≠[]):dW d=[.row 0 (d.map rowO) 1]:=by cases d with|nil=>exact absurd rfl h|cons _ _=>rfl
theorem A0C(h:0<m.gs.length)(hz:∀g∈m.gs,g.size<=100000):evP ⟨A0,T,A1⟩ (.code Iz [(3,.ptr 0 0 0),(6,.ptr 1 0 0),(7,.ptr 2 0 0),(17,fslN (m.gs.map Glo.F)),(18,.int .i64 (m.gs.length:Int)),(19,.int .i64 0)] (jT m (sI steps input [])))=some (.ok .normal [(3,.ptr 0 0 0),(6,.ptr 1 0 0),(7,.ptr 2 0 0),(17,fslN (m.gs.map Glo.F)),(18,.int .i64 (m.gs.length:Int)),(19,.int .i64 ((1:Nat):Int))] (jT m (sI steps input (m.gs.take 1)))):=by
 have hzi:=hz _ (zqf h);have hlt:decide ((0:Int)<(m.gs.length:Int))=true:=by simp[h]
 have hi:Kq Ck (fslN (m.gs.map Glo.F)) (.int .i64 0)=some (.fptr m.gs[0].F 0):=ix_fslN (i:=0) (A8 (F:=Glo.F) h) rfl;have hm:max m.gs[0].size 1=(Jn m.gs[0]:Int):=by unfold Jn;omega
 have mk:=fun k k' K=>QE (k:=k) (k':=k') (n:=Jn m.gs[0]) (K:=K) (by unfold Jn;omega)
 have ht:m.gs.take 1=[m.gs[0]]:=by
  rw[zqu h];rfl
 rw[ht];unfold Iz jT sI;unfold mB Modl.F;simp only[Glo.F]at hi|-;simp only[dV,dW,Cm,List.length_nil,zqh,zqg,List.length_cons,Nat.zero_add];simp -implicitDefEqProofs only[hlt,hi,hm,bC,mk,mH,mI,zkb,zqa,KU,show IntKind.i64.wrap (0+1)=((1:Nat):Int)from rfl,XP,Nat.reduceAdd,Nat.reduceSub,Nat.reduceLT,Nat.reduceLeDiff,Nat.reduceEqDiff,Nat.reduceMul,↓reduceIte];rfl
theorem A0D(h:i<m.gs.length)(h0:0<i)(hz:∀g∈m.gs,g.size<=100000)(hl:m.gs.length<=100000):evP ⟨A0,T,A1⟩ (.code Iz [(3,.ptr 0 0 0),(6,.ptr 1 0 0),(7,.ptr 2 0 0),(17,fslN (m.gs.map Glo.F)),(18,.int .i64 (m.gs.length:Int)),(19,.int .i64 (i:Int))] (jT m (sI steps input (m.gs.take i))))=some (.ok .normal [(3,.ptr 0 0 0),(6,.ptr 1 0 0),(7,.ptr 2 0 0),(17,fslN (m.gs.map Glo.F)),(18,.int .i64 (m.gs.length:Int)),(19,.int .i64 ((i+1:Nat):Int))] (jT m (sI steps input (m.gs.take (i+1))))):=by
 have hzi:=hz _ (zqf h);have hlt:decide ((i:Int)<(m.gs.length:Int))=true:=by simp[h]
 have hw:=B3 (i:=i) (by omega);have hi:=A8 (F:=Glo.F) h;have hm:max m.gs[i].size 1=(Jn m.gs[i]:Int):=by unfold Jn;omega
 have mk:=fun k k' K=>QE (k:=k) (k':=k') (n:=Jn m.gs[i]) (K:=K) (by unfold Jn;omega)
 have hz8:(i+1)*24<=140737488355328:=by omega
 have hd:Cm (m.gs.take (i+1))=Cm (m.gs.take i)++[zqe (Jn m.gs[i]) 0]:=by
  rw[zqu h];unfold Cm;rw[zqs];rfl
 have hdl:(Cm (m.gs.take i)).length=i:=by simp[Cm];omega
 unfold sI;rw[hd];have hne:Cm (m.gs.take i)≠[]:=fun e=>by rw[e]at hdl;simp at hdl;omega
 have hne2:Cm (m.gs.take i)++[zqe (Jn m.gs[i]) 0]≠[]:=by simp
 have hv:=uN hne;have hwv:=uO hne;have hv2:=uN hne2;have hwv2:=uO hne2;rw[zqs,show [zqe (Jn m.gs[i]) (0:Int)].map rowO=[ownd 0 1 (ints (zqe (Jn m.gs[i]) 0))]from rfl]at hwv2;rw[zkl,List.length_singleton,hdl]at hv2;rw[hdl]at hv;unfold Iz jT;dsimp only;rw[hv,hwv,hv2,hwv2];unfold mB Modl.F;simp only[Glo.F]at hi|-;simp -implicitDefEqProofs only[hlt,hi,hw,hm,hdl,hz8,bC,mk,mH,mI,zkb,zqa,KU,Ad,zqo,zqp,Nat.reduceBEq,XP,Nat.reduceAdd,Nat.reduceSub,Nat.reduceLT,Nat.reduceLeDiff,Nat.reduceEqDiff,Nat.reduceMul,↓reduceIte]
theorem KV:∃fr',evP ⟨A0,T,A1⟩ (.code Iz [(3,.ptr 0 0 0),(6,.ptr 1 0 0),(7,.ptr 2 0 0),(17,fslN (m.gs.map Glo.F)),(18,.int .i64 (m.gs.length:Int)),(19,.int .i64 (m.gs.length:Int))] K)=some (.ok (.exit 0) fr' K)/\lookP fr' 3=.ptr 0 0 0/\lookP fr' 6=.ptr 1 0 0/\lookP fr' 7=.ptr 2 0 0:=by
 unfold Iz;have hlt:decide ((m.gs.length:Int)<(m.gs.length:Int))=false:=by simp
 simp -implicitDefEqProofs only[hlt,XP,seval];exact⟨_,rfl,rfl,rfl,rfl⟩
theorem A0E(hz:∀g∈m.gs,g.size<=100000)(hl:m.gs.length<=100000):∃fr',evP ⟨A0,T,A1⟩ (.code (.loop Iz) [(3,.ptr 0 0 0),(6,.ptr 1 0 0),(7,.ptr 2 0 0),(17,fslN (m.gs.map Glo.F)),(18,.int .i64 (m.gs.length:Int)),(19,.int .i64 0)] (jT m (sI steps input [])))=some (.ok (.exit 0) fr' (jT m (sI steps input m.gs)))/\lookP fr' 3=.ptr 0 0 0/\lookP fr' 6=.ptr 1 0 0/\lookP fr' 7=.ptr 2 0 0:=by
 by_cases h0:m.gs.length=0
 . have h1:m.gs=[]:=zkf.1 h0
   obtain⟨fr',e,p⟩:=KV (T:=T) (m:=m) (K:=jT m (sI steps input []));rw[h1]at e|-;exact⟨fr',C7 e,p⟩
 . have:=Cd (P:=⟨A0,T,A1⟩) (c:=Iz) (fun i=>([(3,.ptr 0 0 0),(6,.ptr 1 0 0),(7,.ptr 2 0 0),(17,fslN (m.gs.map Glo.F)),(18,.int .i64 (m.gs.length:Int)),(19,.int .i64 ((i+1:Nat):Int))],jT m (sI steps input (m.gs.take (i+1))))) (m.gs.length-1) fun i hi=>A0D (by omega) (by omega) hz hl
   obtain⟨fr',e,p⟩:=KV (T:=T) (m:=m) (K:=jT m (sI steps input m.gs));refine⟨fr',?_,p⟩;rw[loop_more (A0C (by omega) hz),this];simp only[show m.gs.length-1+1=m.gs.length by omega];rw[zqi (by omega)];exact C7 e
theorem KW(hz:∀g∈m.gs,g.size<=100000)(hl:m.gs.length<=100000):evP ⟨A0,T,A1⟩ (.code sL (enterP 0 [m.F,fslN (ints input),.int .i64 steps]) ⟨[],0,[]⟩)=some (.ok .normal [(3,.ptr 0 0 0),(6,.ptr 1 0 0),(7,.ptr 2 0 0),(37,.fn (.func 23) [] [.ptr 2 0 0,.ptr 1 0 0])] (jT m (sI steps input m.gs))):=by
 obtain⟨fr',h,h1,h2,h3⟩:=A0E (T:=T) (steps:=steps) (input:=input) hz hl;unfold sL;unfold jT at h|-;cases hd:Cm m.gs with
 | nil =>
  simp only[sI,hd,dV,dW,show Cm []=[]from rfl]at h|-;unfold mB Modl.F at h|-;dsimp only at h|-;simp -implicitDefEqProofs only[h,h1,h2,h3,uM,zqa,XP,Nat.reduceAdd,Nat.reduceSub,Nat.reduceLT,Nat.reduceLeDiff,Nat.reduceEqDiff,Nat.reduceMul,↓reduceIte]
 | cons y ys =>
  simp only[sI,hd,dV,dW,show Cm []=[]from rfl]at h|-;unfold mB Modl.F at h|-;dsimp only at h|-;simp -implicitDefEqProofs only[h,h1,h2,h3,uM,zqa,XP,Nat.reduceAdd,Nat.reduceSub,Nat.reduceLT,Nat.reduceLeDiff,Nat.reduceEqDiff,Nat.reduceMul,↓reduceIte]
end
section
variable {m:Modl}{s s2:Mst}{fd n':Bool}{f v st e:Int}{t0:List Nat}
def oQ(n':Bool)(i:Nat)(o:List Int):AV:=match n' with|true=>.msl i 0 o.length 1|false=>.nilsl
def Bx:AV:=.agg [.nilsl,.int .i64 0,.int .i64 0]
def By(fd n':Bool)(m:Modl)(x:AV)(s:Mst):List PO:=.row 1 [m.F] 2::.row 1 [x] 3::.row 1 [.ptr 3 0 0] 1::.row 1 [mB m s (dA fd 4 s) (oQ n' (4+nB fd) s.out)] 9::(dR fd s++oG n' s.out)
def pX(fd:Bool):List Nat:=3::(match fd with|true=>[4]|false=>[])
theorem KX(R:RunT T)(hb:evP ⟨A0,T,A1⟩ (.body 24 [.ptr 0 0 0,.int .i64 f,.nilsl] ⟨E8 false fd false false m s [],nE false fd false,[]⟩)=some (.val [.int .i64 v] ⟨E8 false fd false n' m s2 [],nE false fd false,t0⟩)):
 ∃t1,∀tch,evP ⟨A0,T,A1⟩ (.call 24 [.ptr 3 0 0,.int .i64 f,.nilsl] ⟨By fd false m Bx s,4+nB fd,tch⟩)=some (.val [.int .i64 v] ⟨By fd n' m Bx s2,4+nB fd,t1++tch⟩):=by
 refine⟨((t0.filter (· < (pX fd).length)).map fun j=>(pX fd).getD j 0),fun tch=>Vi (ids:=pX fd) (args':=[.ptr 0 0 0,.int .i64 f,.nilsl]) (Kf:=⟨E8 false fd false false m s [],nE false fd false,[]⟩) R.hL rfl ?_ ?_ ?_ hb ?_ ?_⟩<;>cases fd<;>cases n'<;>rfl
theorem DZ(R:RunT T)(hb:evP ⟨A0,T,A1⟩ (.body 24 [.ptr 0 0 0,.int .i64 f,.nilsl] ⟨E8 false fd false false m s [],nE false fd false,[]⟩)=some (.pan (E0 st e) ⟨E8 false fd false n' m s2 [],nE false fd false,t0⟩)):
 ∃t1,∀tch,evP ⟨A0,T,A1⟩ (.call 24 [.ptr 3 0 0,.int .i64 f,.nilsl] ⟨By fd false m Bx s,4+nB fd,tch⟩)=some (.pan (E0 st e) ⟨By fd n' m Bx s2,4+nB fd,t1++tch⟩):=by
 refine⟨((t0.filter (· < (pX fd).length)).map fun j=>(pX fd).getD j 0),fun tch=>bA (ids:=pX fd) (args':=[.ptr 0 0 0,.int .i64 f,.nilsl]) (Kf:=⟨E8 false fd false false m s [],nE false fd false,[]⟩) R.hL rfl ?_ ?_ ?_ hb ?_ ?_⟩<;>cases fd<;>cases n'<;>rfl
def r9(m:Modl):Int:=idxOf (fun c:Cod=>decide (c.name=B2)) m.fs
def v8(fd n':Bool)(o:List Int)(st e:Int):AV:=.agg [oQ n' (4+nB fd) o,.int .i64 st,.int .i64 e]
theorem KY(R:RunT T)(hm:T 21=some L4)(hs:m.fs.length<=bigN)(hb:evP ⟨A0,T,A1⟩ (.body 24 [.ptr 0 0 0,.int .i64 (r9 m),.nilsl] ⟨E8 false fd false false m s [],nE false fd false,[]⟩)=some (.val [.int .i64 v] ⟨E8 false fd false n' m s2 [],nE false fd false,t0⟩)):
 ∃t1,evP ⟨A0,T,A1⟩ (.code iZ [(3,.ptr 0 0 0),(6,.ptr 1 0 0),(7,.ptr 2 0 0),(37,.fn (.func 23) [] [.ptr 2 0 0,.ptr 1 0 0])] ⟨By fd false m Bx s,4+nB fd,[]⟩)=some (.ok .ret [(6,.ptr 1 0 0)] ⟨By fd n' m (v8 fd n' s2.out 1 v) s2,4+nB fd,t1⟩):=by
 obtain⟨t1,hc⟩:=KX R hb;have hq:=fun K=>Hf (K:=K) (m:=m) hm hs
 unfold r9 at hc;unfold iZ By v8;unfold By at hc;unfold mB Modl.F Bx at hc|-;unfold Modl.F at hq;cases fd<;>cases n'<;>(
  simp only[dA,dR,nB,oQ,oG,Nat.reduceAdd,zqc,zqb,zqd]at hc|-;simp -implicitDefEqProofs only[hc,hq,Ad,zqo,zqp,Nat.reduceBEq,XP,seval];exact⟨_,rfl⟩)
theorem EA(R:RunT T)(hm:T 21=some L4)(hs:m.fs.length<=bigN)(hb:evP ⟨A0,T,A1⟩ (.body 24 [.ptr 0 0 0,.int .i64 (r9 m),.nilsl] ⟨E8 false fd false false m s [],nE false fd false,[]⟩)=some (.pan (E0 st e) ⟨E8 false fd false n' m s2 [],nE false fd false,t0⟩)):
 ∃t1,evP ⟨A0,T,A1⟩ (.code iZ [(3,.ptr 0 0 0),(6,.ptr 1 0 0),(7,.ptr 2 0 0),(37,.fn (.func 23) [] [.ptr 2 0 0,.ptr 1 0 0])] ⟨By fd false m Bx s,4+nB fd,[]⟩)=some (.pan (E0 st e) ⟨By fd n' m Bx s2,4+nB fd,t1⟩):=by
 obtain⟨t1,hc⟩:=DZ R hb;have hq:=fun K=>Hf (K:=K) (m:=m) hm hs
 unfold r9 at hc;unfold iZ By;unfold By at hc;unfold mB Modl.F Bx E0 at hc|-;unfold Modl.F at hq;cases fd<;>cases n'<;>(
  simp only[dA,dR,nB,oQ,oG,Nat.reduceAdd,zqc,zqb,zqd]at hc|-;simp -implicitDefEqProofs only[hc,hq,Xw,Xx,Ad,zqo,zqp,Nat.reduceBEq,XP,seval];exact⟨_,rfl⟩)
theorem EB:∃fr3 t1,evP ⟨A0,T,A1⟩ (.rcv (.fn (.func 23) [] [.ptr 2 0 0,.ptr 1 0 0]) .niliface ⟨By fd n' m (v8 fd n' s.out st e) s,(By fd n' m (v8 fd n' s.out st e) s).length,[]⟩)=some (.ok .normal fr3 ⟨By fd n' m (v8 fd n' s.out st e) s,(By fd n' m (v8 fd n' s.out st e) s).length,t1⟩):=by
 have key:∃fr3 t1,evP ⟨A0,T,A1⟩ (.code sM (setPs' [4,2] [.niliface,.niliface] (enterP 0 [.ptr 2 0 0,.ptr 1 0 0])) ⟨By fd n' m (v8 fd n' s.out st e) s,(By fd n' m (v8 fd n' s.out st e) s).length,[]⟩)=some (.ok .normal fr3 ⟨By fd n' m (v8 fd n' s.out st e) s,(By fd n' m (v8 fd n' s.out st e) s).length,t1⟩):=by
  unfold sM By v8;unfold mB Modl.F;cases fd<;>cases n'<;>(
   simp only[dA,dR,nB,oQ,oG,setPs',Nat.reduceAdd,zqc,zqb,zqd];simp -implicitDefEqProofs only[BT,BU,uB,XP,seval];exact⟨_,_,rfl⟩)
 obtain⟨fr3,t1,h⟩:=key;exact⟨fr3,t1,CJ (b:=false) rfl (by decide) h⟩
theorem yF:∃fr3 t1,evP ⟨A0,T,A1⟩ (.rcv (.fn (.func 23) [] [.ptr 2 0 0,.ptr 1 0 0]) (E0 st e) ⟨By fd n' m Bx s,(By fd n' m Bx s).length,[]⟩)=some (.ok .normal fr3 ⟨By fd n' m (v8 fd n' s.out st e) s,(By fd n' m Bx s).length,t1⟩):=by
 have key:∃fr3 t1,evP ⟨A0,T,A1⟩ (.code sM (setPs' [4,2] [E0 st e,E0 st e] (enterP 0 [.ptr 2 0 0,.ptr 1 0 0])) ⟨By fd n' m Bx s,(By fd n' m Bx s).length,[]⟩)=some (.ok .normal fr3 ⟨By fd n' m (v8 fd n' s.out st e) s,(By fd n' m Bx s).length,t1⟩):=by
  unfold sM By v8 E0 Bx;unfold mB Modl.F;cases fd<;>cases n'<;>(
   simp only[dA,dR,nB,oQ,oG,setPs',Nat.reduceAdd,zqc,zqb,zqd];simp -implicitDefEqProofs only[BT,BU,uB,JX,ZO,Xw,Xx,XP,seval];exact⟨_,_,rfl⟩)
 obtain⟨fr3,t1,h⟩:=key;exact⟨fr3,t1,CJ (b:=false) rfl (by decide) h⟩
end
section
variable {m:Modl}{input:List Int}{steps:Int}
def P0(m:Modl)(input:List Int)(steps:Int):Rs:=I3 m 33 (r9 m) [] (sI steps input m.gs)
def Rs.sc:Rs->Int×Int | .ret v _=>(1,v) | .stop st c _=>(st,c)
def Oo(m:Modl)(input:List Int)(steps:Int):List Int:=(P0 m input steps).st.out
structure RunOk(m:Modl)(steps:Int):Prop where
 mr:ModR' m
 gz:∀g∈m.gs,g.size<=100000
 gl:m.gs.length<=100000
 fl:m.fs.length<=bigN
 mn:0<=r9 m/\r9 m<m.fs.length
 st:steps<=20000
theorem yG(l:List Glo):k7 ⟨l,m.fs⟩ (Cm l):=by
 refine⟨by simp[Cm],fun i r g hr hg=>?_⟩;unfold Cm at hr;rw[zqm]at hr
 replace hg:l[i]?=some g:=hg
 rw[hg]at hr;cases hr;rw[zkb];unfold Jn;omega
theorem KZ(h:RunOk m steps):Sok m (sI steps input m.gs):=⟨yG (m:=m) m.gs,h.st,by have:=h.st;show 0+steps.toNat<=30000;omega,by show(0:Int)<=0/\(0:Int)<=33;decide⟩
def gsB(m:Modl):Bool:=!m.gs.isEmpty
theorem EC(s:Mst)(h:gsB m=false->s.data=[])(h2:gsB m=true->s.data≠[])(ho:s.out=[]):jT m s=⟨By (gsB m) false m Bx s,0,[]⟩:=by
 unfold jT By Bx;cases hb:gsB m with
 |false=>rw[h hb];rfl
 |true=>rw[uN (h2 hb),uO (h2 hb)];rfl
def bE(o:List Int)(st e:Int):AV:=.agg [ownd 0 1 (ints o),.int .i64 st,.int .i64 e]
theorem fE{fd n':Bool}{s:Mst}{st e:Int}(hz:n'=false->s.out=[]):backOk [v8 fd n' s.out st e] [bE s.out st e] (By fd n' m (v8 fd n' s.out st e) s):=by
 have hl:(ints s.out).length=s.out.length:=by simp[ints]
 cases n' with
 | true =>
  unfold v8 By bE oQ;cases fd<;>(
   refine back_of (vs':=[.agg [.msl _ 0 s.out.length 1,.int .i64 st,.int .i64 e]]) rfl (by simp[refsL,I6]) (us:=[.agg [.msl 0 0 (ints s.out).length 1,.int .i64 st,.int .i64 e]]) (ps:=[.row 0 (ints s.out) 1]) rfl ?_ ?_
   . rw[hl];rfl
   . rfl)
 | false =>
  rw[hz rfl];unfold v8 By bE oQ;cases fd<;>exact back_of (vs':=[.agg [.msl _ 0 0 1,.int .i64 st,.int .i64 e]]) rfl (by simp[refsL,I6]) rfl rfl rfl
theorem mJ(h:gsB m=false):(sI steps input m.gs).data=[]:=by
 have:m.gs=[]:=by unfold gsB at h;simpa using h
 show Cm m.gs=[];rw[this];rfl
theorem LA(h:gsB m=true):(sI steps input m.gs).data≠[]:=by
 show Cm m.gs≠[]
 unfold gsB at h;unfold Cm;cases hg:m.gs with|nil=>rw[hg]at h;cases h|cons _ _=>simp
theorem pY(R:RunT T)(hm:T 21=some L4)(h:RunOk m steps):AM.Comes ⟨A0,T,A1⟩ 10 [m.F,fslN (ints input),.int .i64 steps] [bE (Oo m input steps) (P0 m input steps).sc.1 (P0 m input steps).sc.2]:=by
 have hs:=KZ (input:=input) h;obtain⟨n',t0,q1,q2⟩:=(fD R h.mr 33 0 (by decide) (by decide)).2 false (gsB m) false (r9 m) [] (sI steps input m.gs) ⟨h.mn,hs,rfl⟩ (fun _=>rfl) (fun e=>mJ e) (fun _=>rfl)
 replace q2:evP ⟨A0,T,A1⟩ (.body 24 [.ptr 0 0 0,.int .i64 (r9 m),.nilsl] ⟨E8 false (gsB m) false false m (sI steps input m.gs) [],nE false (gsB m) false,[]⟩)=some (yB (P0 m input steps) fun s'=>⟨E8 false (gsB m) false n' m s' [],nE false (gsB m) false,t0⟩):=q2
 replace q1:false=false->n'=false->(P0 m input steps).st.out=[]:=q1
 have ha:=KW (T:=T) (steps:=steps) (input:=input) h.gz h.gl;rw[EC _ (fun e=>mJ e) (fun e=>LA e) rfl]at ha;have hlen:(By (gsB m) false m Bx (sI steps input m.gs)).length=4+nB (gsB m):=by unfold By dR oG nB;cases gsB m<;>rfl
 unfold Oo;cases hy:P0 m input steps with
 | ret v s2 =>
  rw[hy]at q1 q2;obtain⟨t1,hc⟩:=KY R hm h.fl q2;rw[<-hlen]at hc;obtain⟨fr3,t2,hr⟩:=EB (T:=T) (m:=m) (fd:=gsB m) (n':=n') (s:=s2) (st:=1) (e:=v);refine⟨[v8 (gsB m) n' s2.out 1 v],⟨By (gsB m) n' m (v8 (gsB m) n' s2.out 1 v) s2,0,t2++(t1++[])⟩,?_,fE fun e=>q1 rfl e⟩;rw[nO (a:=sL) (g:=.tmp 37) (c:=iZ) (nt:=49) (rs:=[.cell 6 35]) rfl (by simp),show K0=(⟨[],0,[]⟩:PK)from rfl,MU (g:=.tmp 37) ha hc hr];clear hc hr ha hlen q2;generalize gsB m=fd;cases fd<;>cases n'<;>rfl
 | stop st e s2 =>
  rw[hy]at q1 q2;obtain⟨t1,hc⟩:=EA R hm h.fl q2;rw[<-hlen]at hc;obtain⟨fr3,t2,hr⟩:=yF (T:=T) (m:=m) (fd:=gsB m) (n':=n') (s:=s2) (st:=st) (e:=e);refine⟨[v8 (gsB m) n' s2.out st e],⟨By (gsB m) n' m (v8 (gsB m) n' s2.out st e) s2,0,t2++(t1++[])⟩,?_,fE fun e=>q1 rfl e⟩;rw[nO (a:=sL) (g:=.tmp 37) (c:=iZ) (nt:=49) (rs:=[.cell 6 35]) rfl (by simp),show K0=(⟨[],0,[]⟩:PK)from rfl,FR (g:=.tmp 37) ha hc hr];clear hc hr ha hlen q2;generalize gsB m=fd;cases fd<;>cases n'<;>rfl
end
theorem Tn{l:List Int}(h:G4 l=0):∀e∈l,e=0:=by
 induction l with
 |nil=>intro e he;cases he
 | cons a l ih =>
  unfold G4 at h;by_cases q:a=0
  . rw[if_pos q]at h
    intro e he;rcases zqx.1 he with rfl|he
    . exact q
    . exact ih h e he
  . rw[if_neg q]at h;exact absurd h q
theorem Jo{m:Modl}(h:N3 m=0):(∀c∈m.fs,R7 m c=0)/\Td m=0:=by
 unfold N3 at h;by_cases q:G4 (m.gs.map Tc)=0
 . rw [if_pos q]at h
   by_cases q2:G4 (m.fs.map (R7 m))=0
   . rw[if_pos q2]at h
     exact⟨fun c hc=>Tn q2 _ (zkh hc),h⟩
   . rw[if_neg q2]at h;exact absurd h q2
 . rw[if_neg q]at h;exact absurd h q
theorem Pt{m:Modl}{c:Cod}(h:R7 m c=0):(1<=c.blocks.length/\c.regs.length<=4096/\c.ps<=c.regs.length)/\∀b∈c.blocks,Ol m c b=0:=by
 unfold R7 at h;split at h
 . cases h
 . rename_i h1
   split at h
   . cases h
   . split at h
     . cases h
     . exact⟨by omega,fun b hb=>Tn h _ (zkh hb)⟩
theorem jU{m:Modl}{c:Cod}{b:Blk}(h:Ol m c b=0):(∀x∈b.code,J0 m c x=0)/\Bw c b.e=0:=by
 unfold Ol at h;split at h
 . rename_i q;exact⟨fun x hx=>Tn q _ (zkh hx),h⟩
 . rename_i q;exact absurd h q
theorem ED{m:Modl}{n:Int}{b:Bool}(h:N2 m n b=true):0<=n/\n<m.gs.length:=by
 unfold N2 at h;exact thereD_iff.1 (zji.1 h).1
theorem yH{x:Ins}(h:Dw x=true):1<=x.op/\x.op<=11:=by
 unfold Dw at h;by_cases h3:x.op=3
 . omega
 . rw [if_neg h3]at h
   by_cases h4:x.op=4
   . omega
   . rw[if_neg h4,Bool.and_eq_true]at h
     exact⟨of_decide_eq_true h.1,of_decide_eq_true h.2⟩
theorem EE{c:Cod}{x:Ins}(h:r6 x=false)(hw:cK c x=true)(ho:x.op=1\/x.op=2\/x.op=3\/x.op=4\/x.op=5\/x.op=7\/x.op=10):0<=x.dst/\x.dst<c.regs.length:=by
 have hwd:writesD x=x.dst:=by unfold writesD;rcases ho with e|e|e|e|e|e|e<;>simp[e]
 have h9:¬x.op=9:=by omega
 have hd:¬x.dst<0:=by
  intro hn;unfold r6 at h;rw[decide_eq_true hn,Bool.and_true]at h
  have:(Ls.any fun n=>decide (x.op=n))=true:=by
   rw[List.any_eq_true];refine⟨x.op,?_,by simp⟩;rcases ho with e|e|e|e|e|e|e<;>rw[e]<;>decide
  rw[this]at h;cases h
 unfold cK at hw;rw[hwd,decide_eq_false h9,decide_eq_false (show ¬x.dst=-1 by omega)]at hw;simp only[Bool.not_false,Bool.true_or,Bool.true_and,Bool.not_not]at hw;exact thereD_iff.1 hw
theorem EF{m:Modl}{c:Cod}{x:Ins}(hp:∀c∈m.fs,c.ps<=c.regs.length/\c.regs.length<=4096)(h:J0 m c x=0):InsR m c.regs.length x:=by
 unfold J0 at h;split at h
 . rename_i hf
   split at h
   . rename_i hpl
     have hop:=yH hf;unfold E1 at hpl;obtain⟨h1,h2⟩:=zji.1 hpl;obtain⟨h2,h3⟩:=zji.1 h2;obtain⟨h3,h4⟩:=zji.1 h3;have h3:r6 x=false:=by simpa using h3
     have hrd:∀r∈readsD x,0<=r/\r<(c.regs.length:Int):=fun r hr=>thereD_iff.1 (zkm.1 h1 r hr)
     refine⟨hop,EE h3 h2,fun ho=>hrd _ ?_,fun ho=>hrd _ ?_,fun ho=>?_,fun ho=>?_⟩
     . unfold readsD;rcases ho with e|e|e|e|e|e|e<;>simp[e]
     . unfold readsD;rcases ho with e|e<;>simp[e]
     . unfold jM at h4
       rcases ho with e|e|e|e<;>(simp only[e,Int.reduceEq,↓reduceIte]at h4;exact ED h4)
     . unfold jM at h4
       simp only[ho,Int.reduceEq,↓reduceIte]at h4;obtain⟨h5,h6⟩:=zji.1 h4;have h5:=thereD_iff.1 h5;rw[if_pos ho]at h;split at h
       . rename_i hl
         have hm:codI m.fs x.n∈m.fs:=by
          unfold codI;rw[zqj,zql (show x.n.toNat<m.fs.length by omega)];exact zqf _
         have:=hp _ hm
         refine⟨h5,fun y hy=>hrd _ ?_,by omega,?_⟩
         . unfold readsD;simp only[ho,Int.reduceEq,↓reduceIte];exact hy
         . by_cases hd:0<=x.dst
           . have hwd:writesD x=x.dst:=by unfold writesD;simp only[ho,Int.reduceEq,↓reduceIte];rw[if_pos (by omega)]
             unfold cK at h2;rw[hwd,decide_eq_true ho,decide_eq_true hd,decide_eq_false (show ¬x.dst=-1 by omega)]at h2;simp only[Bool.not_true,Bool.not_false,zjj,Bool.true_and,Bool.not_not]at h2;exact(thereD_iff.1 h2).2
           . omega
       . cases h
   . cases h
 . cases h
theorem jV{c:Cod}{e:Endd}(h:Bw c e=0):EndR c.blocks.length c.regs.length e:=by
 unfold Bw at h;by_cases k1:e.kind=1
 . rw [if_pos k1]at h
   split at h
   . rename_i q
     exact⟨by omega,fun k=>by omega,fun k=>by omega,fun _=>thereD_iff.1 q,fun k=>by omega⟩
   . cases h
 . rw [if_neg k1]at h
   by_cases k2:e.kind=2
   . rw [if_pos k2]at h
     split at h
     . rename_i q1
       split at h
       . rename_i q2
         split at h
         . rename_i q3
           exact⟨by omega,fun k=>by omega,fun _=>thereD_iff.1 q3,fun _=>thereD_iff.1 q1,fun _=>thereD_iff.1 q2⟩
         . cases h
       . cases h
     . cases h
   . rw [if_neg k2]at h
     split at h
     . rename_i k3
       refine⟨by omega,fun _=>?_,fun k=>by omega,fun k=>by omega,fun k=>by omega⟩;split at h
       . omega
       . split at h
         . rename_i q;exact(thereD_iff.1 q).2
         . cases h
     . cases h
theorem uP{m:Modl}(hm:m.ok)(h:N3 m=0):ModR' m:=by
 obtain⟨h1,h2⟩:=Jo h;have hp:∀c∈m.fs,c.ps<=c.regs.length/\c.regs.length<=4096:=fun c hc=>by have:=(Pt (h1 c hc)).1;omega
 refine⟨fun c hc=>?_⟩;obtain⟨q1,q2⟩:=Pt (h1 c hc);refine⟨q1.1,fun b hb=>?_,by omega⟩;obtain⟨q3,q4⟩:=jU (q2 b hb);have hb':=((hm.1 c hc).1.2.1 b hb).2;exact⟨by simp only[bigN]at hb';omega,fun x hx=>EF hp (q3 x hx),jV q4⟩
theorem EG{α:Type}{p:α->Bool}{l:List α}:idxOf p l<l.length:=by
 unfold idxOf;split
 . rename_i i h
   obtain⟨h1,_⟩:=zkn.1 h;omega
 . omega
theorem bF{m:Modl}{steps:Int}(hm:m.ok)(hb:j9 m=false)(h:N3 m=0)(hs:steps<=20000):RunOk m steps:=by
 obtain⟨h1,h2⟩:=Jo h;unfold j9 at hb;split at hb
 . cases hb
 . rename_i hg
   split at hb
   . cases hb
   . rename_i hf
     split at hb
     . rename_i ha
       refine⟨uP hm h,fun g hgm=>?_,by omega,by simp only[bigN];omega,?_,hs⟩
       . have:=zkm.1 ha g hgm
         simp at this;omega
       . have hmi:y9 m=r9 m:=rfl
         rw[<-hmi];unfold Td at h2;split at h2
         . cases h2
         . rename_i hn
           exact⟨by omega,EG⟩
     . cases hb
end Go.Proofs.AmEnv
set_option maxRecDepth 100000
namespace Go.AM
section
variable {K:PK}{os:List PO}{es cs:List AV}{c v:AV}{t te:TI}
end
end Go.AM
namespace Go.Proofs.AmEnv
open Go Go.AM
variable {T:Nat->Option (List AV->Option (List AV))}
theorem bG(hword_Bin:T 55=some V4)(hword_Wrap:T 56=some F8)(nir_trap:T 39=none)(nir_machine_element:T 57=none)(hir_there:T 54=some D6)(nir_machine_next:T 58=none)(nir_machine_step:T 40=none)(nir_machine_does:T 42=none)(nir_machine_calling:T 41=none)(nir_machine_call:T 24=none)(hir_mainOf:T 21=some L4){m:Modl}{input:List Int}{steps:Int}(hk:RunOk m steps):AM.Comes ⟨A0,T,A1⟩ 10 [m.F,fslN (ints input),.int .i64 steps] [.agg [ownd 0 1 (ints (Oo m input steps)),.int .i64 (P0 m input steps).sc.1,.int .i64 (P0 m input steps).sc.2]]:=by
 exact pY ⟨hword_Bin,hword_Wrap,nir_trap,nir_machine_element,hir_there,nir_machine_next,nir_machine_step,nir_machine_does,nir_machine_calling,nir_machine_call⟩ hir_mainOf hk
def z6:=S7 (fun p:(Modl)×(List Int)×(Int)=>[p.1.F,fslN (ints p.2.1),.int .i64 p.2.2]) (fun p=>[.agg [ownd 0 1 (ints (Oo p.1 p.2.1 p.2.2)),.int .i64 (P0 p.1 p.2.1 p.2.2).sc.1,.int .i64 (P0 p.1 p.2.1 p.2.2).sc.2]]) (fun p=>RunOk p.1 p.2.2)
theorem yI(hir_Run:T 10=some z6){m:Modl}{input:List Int}{steps:Int}{K:PK}(hk:RunOk m steps):evP ⟨A0,T,A1⟩ (.call 10 [m.F,fslN (ints input),.int .i64 steps] K)=some (.val (openTs K.os.length [.agg [ownd 0 1 (ints (Oo m input steps)),.int .i64 (P0 m input steps).sc.1,.int .i64 (P0 m input steps).sc.2]]).1 ⟨K.os++(openTs K.os.length [.agg [ownd 0 1 (ints (Oo m input steps)),.int .i64 (P0 m input steps).sc.1,.int .i64 (P0 m input steps).sc.2]]).2,K.ext,K.tch⟩):=B5 hir_Run (by simp -implicitDefEqProofs only[VV,XP,seval]) (B9 (a:=fun p:(Modl)×(List Int)×(Int)=>[p.1.F,fslN (ints p.2.1),.int .i64 p.2.2]) (r:=fun p=>[.agg [ownd 0 1 (ints (Oo p.1 p.2.1 p.2.2)),.int .i64 (P0 p.1 p.2.1 p.2.2).sc.1,.int .i64 (P0 p.1 p.2.1 p.2.2).sc.2]]) (fun x y e=>by simp only[VJ]at e;simp only[e]) (m,input,steps) hk) (by simp -implicitDefEqProofs only[VN,XP,seval])
theorem pZ(hword_Bin:T 55=some V4)(hword_Wrap:T 56=some F8)(nir_trap:T 39=none)(nir_machine_element:T 57=none)(hir_there:T 54=some D6)(nir_machine_next:T 58=none)(nir_machine_step:T 40=none)(nir_machine_does:T 42=none)(nir_machine_calling:T 41=none)(nir_machine_call:T 24=none)(hir_mainOf:T 21=some L4)(hP:PEok ⟨A0,T,A1⟩):TC A0 10 z6:=C0 hP fun p h=>bG hword_Bin hword_Wrap nir_trap nir_machine_element hir_there nir_machine_next nir_machine_step nir_machine_does nir_machine_calling nir_machine_call hir_mainOf h
section
variable {K:PK}
end
theorem Wf(hSameInts:T 11=some R2){o1:List Int}{o2:List Int}{a:Int}{b:Int}{c:Int}{d:Int}(hk:o1.length*8<=bigN):AM.Comes ⟨A0,T,A1⟩ 12 [.agg [fslN (ints o1),.int .i64 a,.int .i64 b],.agg [fslN (ints o2),.int .i64 c,.int .i64 d]] [.bool (decide (a=c/\b=d/\o1=o2))]:=by
 refine⟨[.bool (decide (a=c/\b=d/\o1=o2))],⟨[],0,[]⟩,?_,back_of rfl zqq rfl rfl rfl⟩;rw[A3 (c:=NN) (nt:=24) (rs:=[.tmp 4]) rfl (by simp)];unfold NN;unfold K0;have ts:=fun K=>Xs (K:=K) hSameInts (m:=o2) hk
 by_cases h1:a=c
 . by_cases h2:b=d
   . have e:decide (a=c/\b=d/\o1=o2)=decide (o1=o2):=by simp[h1,h2]
     rw[e];simp -implicitDefEqProofs only[eq_true h1,eq_true h2,ts,XP,seval]
   . rw[decide_eq_false (show ¬(a=c/\b=d/\o1=o2)from fun e=>h2 e.2.1)]
     simp -implicitDefEqProofs only[eq_true h1,h2,XP,seval]
 . rw[decide_eq_false (show ¬(a=c/\b=d/\o1=o2)from fun e=>h1 e.1)]
   simp -implicitDefEqProofs only[h1,XP,seval]
def s4:=S7 (fun p:(List Int)×(List Int)×(Int)×(Int)×(Int)×(Int)=>[.agg [fslN (ints p.1),.int .i64 p.2.2.1,.int .i64 p.2.2.2.1],.agg [fslN (ints p.2.1),.int .i64 p.2.2.2.2.1,.int .i64 p.2.2.2.2.2]]) (fun p=>[.bool (decide (p.2.2.1=p.2.2.2.2.1/\p.2.2.2.1=p.2.2.2.2.2/\p.1=p.2.1))]) (fun p=>p.1.length*8<=bigN)
theorem jW(hSameInts:T 11=some R2)(hP:PEok ⟨A0,T,A1⟩):TC A0 12 s4:=C0 hP fun p h=>Wf hSameInts h
section
variable {m:Modl}{d:Int}{C:Int->List Int->Mst->Rs}
def Fa(d:Int)(s:Mst):Mst:={s with steps:=s.steps+d}
structure Pl(s r:Mst):Prop where
 pre:s.out <+: r.out
 me:r.out.length+r.steps.toNat<=s.out.length+s.steps.toNat
theorem Pl.refl(s:Mst):Pl s s:=⟨zqn,zku _⟩
theorem Pl.trans{a b c:Mst}(h:Pl a b)(k:Pl b c):Pl a c:=⟨h.pre.trans k.pre,zkz k.me h.me⟩
theorem Pl.stp{s:Mst}(h:1<=s.steps):Pl s (stp s)/\(AmEnv.stp s).out.length+(AmEnv.stp s).steps.toNat+1<=s.out.length+s.steps.toNat:=by
 refine⟨⟨zqn,?_⟩,?_⟩<;>(simp only[AmEnv.stp];omega)
def bH(st c:Int):Prop:=(st=3/\c=0)\/(st=2/\1<=c/\c<=4)
def Rs.so:Rs->Prop | .ret _ _=>True | .stop st c _=>bH st c
def I2.so:I2->Prop | .go _ _=>True | .stop st c _=>bH st c
theorem uQ(t:Int)(op:List UInt8)(a b:Int):(g9 t op a b).2=0\/(1<=(g9 t op a b).2/\(g9 t op a b).2<=4):=by
 unfold g9 J7 X2
 repeat' split
 all_goals simp
theorem yJ{x:Ins}{r:List Int}{s:Mst}:s.out <+: (doesI m x r s).2.1.out/\(doesI m x r s).2.1.out.length<=s.out.length+1/\(doesI m x r s).2.1.steps=s.steps/\((doesI m x r s).1=0\/(1<=(doesI m x r s).1/\(doesI m x r s).1<=4)):=by
 have hb:=uQ x.ty x.s (at' r x.a) (at' r x.b);unfold doesI
 repeat' split
 all_goals first
  |exact⟨zqn,zkw _,rfl,.inl rfl⟩
  |exact⟨zqn,zkw _,rfl,.inr ⟨(by decide:(1:Int)<=3),(by decide:(3:Int)<=4)⟩⟩
  |exact⟨zqn,zkw _,rfl,hb⟩
  |exact⟨List.prefix_append _ _,by simp,rfl,.inl rfl⟩
theorem uR(x:Ins)(r:List Int)(s:Mst):doesI m x r (Fa d s)=((doesI m x r s).1,Fa d (doesI m x r s).2.1,(doesI m x r s).2.2):=by
 unfold doesI Fa dAt;dsimp only;by_cases h1:x.op=1
 . simp only[if_pos h1]
 simp only[if_neg h1];by_cases h2:x.op=2
 . simp only[if_pos h2]
 simp only[if_neg h2];by_cases h3:x.op=3
 . simp only[if_pos h3]
   by_cases hv:(g9 x.ty x.s (at' r x.a) (at' r x.b)).2=0
   . simp only[if_pos hv]
   . simp only[if_neg hv]
 simp only[if_neg h3];by_cases h4:x.op=4
 . simp only[if_pos h4]
 simp only[if_neg h4];by_cases h5:x.op=5
 . simp only[if_pos h5]
   by_cases hv:thereD (at' r x.a) (gAt m x.n).size=true
   . simp only[if_pos hv]
   . simp only[if_neg hv]
 simp only[if_neg h5];by_cases h6:x.op=6
 . simp only[if_pos h6]
   by_cases hv:thereD (at' r x.a) (gAt m x.n).size=true
   . simp only[if_pos hv]
   . simp only[if_neg hv]
 simp only[if_neg h6];by_cases h7:x.op=7
 . simp only[if_pos h7]
 simp only[if_neg h7];by_cases h8:x.op=8
 . simp only[if_pos h8]
 simp only[if_neg h8];by_cases h10:x.op=10
 . simp only[if_pos h10]
 simp only[if_neg h10];by_cases h11:x.op=11
 . simp only[if_pos h11]
 simp only[if_neg h11]
theorem mK(s:Mst):stp (Fa d s)=Fa d (stp s):=by
 unfold stp Fa;simp only
 congr 1;omega
theorem Hj(hC:∀f a s,Pl s (C f a s).st/\(C f a s).so):∀(l:List Ins)(r:List Int)(s:Mst),Pl s (insF m C l r s).st/\(insF m C l r s).so
 |[],r,s=>⟨Pl.refl s,trivial⟩
 | x :: l,r,s=>by
  rw[insF];by_cases h1:s.steps<1
  . rw[if_pos h1];exact⟨Pl.refl s,.inl ⟨rfl,rfl⟩⟩
  . rw [if_neg h1]
    obtain⟨p1,p2⟩:=Pl.stp (s:=s) (by omega);by_cases h9:x.op=9
    . rw [if_pos h9]
      obtain⟨q1,q2⟩:=hC x.n (argsI x r) (stp s);cases hy:C x.n (argsI x r) (stp s)with
      |stop z e s2=>rw[hy]at q1 q2;exact⟨p1.trans q1,q2⟩
      | ret v s2 =>
       rw[hy]at q1;obtain⟨t1,t2⟩:=Hj hC l (if 0<=x.dst then put' r x.dst v else r) s2;exact⟨(p1.trans q1).trans t1,t2⟩
    . rw [if_neg h9]
      obtain⟨k1,k2,k3,k4⟩:=yJ (m:=m) (x:=x) (r:=r) (s:=stp s);by_cases hv:(doesI m x r (stp s)).1=0
      . rw[if_pos hv]
        obtain⟨t1,t2⟩:=Hj hC l (doesI m x r (stp s)).2.2 (doesI m x r (stp s)).2.1;exact⟨Pl.trans ⟨p1.pre.trans k1,by rw[k3];omega⟩ t1,t2⟩
      . rw[if_neg hv]
        refine⟨p1,.inr ⟨rfl,?_⟩⟩;rcases k4 with k4|k4
        . exact absurd k4 hv
        . exact k4
theorem Jp{c:Cod}(hC:∀f a s,Pl s (C f a s).st/\(C f a s).so):∀(n:Nat)(i:Int)(r:List Int)(s:Mst),Pl s (E9 m C c n i r s).st/\(E9 m C c n i r s).so
 |0,i,r,s=>⟨Pl.refl s,.inl ⟨rfl,rfl⟩⟩
 | n + 1,i,r,s=>by
  rw[E9];obtain⟨q1,q2⟩:=Hj (m:=m) hC (blkAt c i).code r s;cases hy:insF m C (blkAt c i).code r s with
  |stop z e s2=>rw[hy]at q1 q2;exact⟨q1,q2⟩
  | go r2 s2 =>
   rw[hy]at q1;dsimp only;by_cases h1:s2.steps<1
   . rw[if_pos h1];exact⟨q1,.inl ⟨rfl,rfl⟩⟩
   . rw [if_neg h1]
     obtain⟨p1,p2⟩:=Pl.stp (s:=s2) (by omega);by_cases h3:(blkAt c i).e.kind=3
     . rw[if_pos h3];exact⟨q1.trans ⟨p1.pre,p1.me⟩,trivial⟩
     . rw[if_neg h3]
       obtain⟨t1,t2⟩:=Jp hC n (if(blkAt c i).e.kind=2/\at' r2 (blkAt c i).e.a=0 then(blkAt c i).e.els else(blkAt c i).e.to) r2 (stp s2);exact⟨(Pl.trans q1 p1).trans t1,t2⟩
theorem bI:∀(k:Nat)(f:Int)(a:List Int)(s:Mst),Pl s (I3 m k f a s).st/\(I3 m k f a s).so
 |0,f,a,s=>⟨Pl.refl s,.inr ⟨rfl,by decide⟩⟩
 | k + 1,f,a,s=>by
  rw[I3];by_cases h:32<=s.calls
  . rw[if_pos h];exact⟨Pl.refl s,.inr ⟨rfl,by decide⟩⟩
  . rw[if_neg h]
    obtain⟨q1,q2⟩:=Jp (m:=m) (c:=Eb m f) (bI k) (s.steps.toNat+1) 0 (initR (Eb m f).regs.length a) {s with calls:=s.calls+1};exact⟨⟨q1.pre,q1.me⟩,q2⟩
def Oq(d:Int)(x y:Rs):Prop:=match x with
 | .ret v s=>y=.ret v (Fa d s)
 | .stop st c s=>if st=3 then s.out <+: y.st.out else y=.stop st c (Fa d s)
def yK(d:Int)(x y:I2):Prop:=match x with
 | .go r s=>y=.go r (Fa d s)
 | .stop st c s=>if st=3 then s.out <+: y.st.out else y=.stop st c (Fa d s)
theorem bJ(hd:0<=d)(hC:∀f a s,Pl s (C f a s).st/\(C f a s).so)(hS:∀f a s,Oq d (C f a s) (C f a (Fa d s))):∀(l:List Ins)(r:List Int)(s:Mst),yK d (insF m C l r s) (insF m C l r (Fa d s))
 |[],r,s=>rfl
 | x :: l,r,s=>by
  have hpl:=(Hj (m:=m) hC (x::l) r (Fa d s)).1.pre;rw[insF];by_cases h1:s.steps<1
  . rw[if_pos h1];exact hpl
  . rw [if_neg h1]
    rw[insF];have h1':¬(Fa d s).steps<1:=by show ¬s.steps+d<1;omega
    rw[if_neg h1',mK];by_cases h9:x.op=9
    . rw [if_pos h9,if_pos h9]
      have q:=hS x.n (argsI x r) (stp s);have ql:=hC x.n (argsI x r) (Fa d (stp s));cases hy:C x.n (argsI x r) (stp s)with
      | stop z e s2 =>
       rw[hy]at q;unfold Oq at q;unfold yK;dsimp only at q|-;by_cases hz:z=3
       . rw [if_pos hz]at q|-
         cases hy2:C x.n (argsI x r) (Fa d (stp s))with
         |stop z2 e2 s3=>rw[hy2]at q;exact q
         | ret v s3 =>
          rw[hy2]at q;exact q.trans (Hj (m:=m) hC l (if 0<=x.dst then put' r x.dst v else r) s3).1.pre
       . rw[if_neg hz]at q|-
         rw[q]
      | ret v s2 =>
       rw[hy]at q;have q:C x.n (argsI x r) (Fa d (stp s))=.ret v (Fa d s2):=q;rw[q];exact bJ hd hC hS l (if 0<=x.dst then put' r x.dst v else r) s2
    . rw [if_neg h9,if_neg h9,uR]
      by_cases hv:(doesI m x r (stp s)).1=0
      . rw[if_pos hv,if_pos hv]
        exact bJ hd hC hS l (doesI m x r (stp s)).2.2 (doesI m x r (stp s)).2.1
      . rw[if_neg hv,if_neg hv]
        unfold yK;dsimp only;rw[if_neg (by decide)]
theorem fF{c:Cod}(hd:0<=d)(hC:∀f a s,Pl s (C f a s).st/\(C f a s).so)(hS:∀f a s,Oq d (C f a s) (C f a (Fa d s))):∀(n n':Nat)(i:Int)(r:List Int)(s:Mst),s.steps.toNat<n->(Fa d s).steps.toNat<n'->Oq d (E9 m C c n i r s) (E9 m C c n' i r (Fa d s))
 |0,n',i,r,s,h,h'=>absurd h (zky _)
 |n+1,0,i,r,s,h,h'=>absurd h' (zky _)
 | n + 1,n'+1,i,r,s,h,h'=>by
  have hpl:=(Jp (m:=m) (c:=c) hC (n'+1) i r (Fa d s)).1.pre;have q:=bJ (m:=m) hd hC hS (blkAt c i).code r s;have pp:=(Hj (m:=m) hC (blkAt c i).code r s).1;have pq:=(Hj (m:=m) hC (blkAt c i).code r (Fa d s)).1;rw[E9,E9];cases hy:insF m C (blkAt c i).code r s with
  | stop z e s2 =>
   rw[hy]at q;unfold yK at q;unfold Oq;dsimp only at q|-;by_cases hz:z=3
   . rw [if_pos hz]at q|-
     rw[E9]at hpl;cases hy2:insF m C (blkAt c i).code r (Fa d s)with
     |stop z2 e2 s3=>rw[hy2]at q;exact q
     | go r3 s3 =>
      rw[hy2]at q;have q:s2.out <+: s3.out:=q;dsimp only;by_cases h1:s3.steps<1
      . rw[if_pos h1];exact q
      . rw [if_neg h1]
        by_cases h3:(blkAt c i).e.kind=3
        . rw[if_pos h3];exact q
        . rw[if_neg h3]
          exact q.trans (Jp (m:=m) (c:=c) hC n' _ r3 (stp s3)).1.pre
   . rw[if_neg hz]at q|-
     rw[q]
  | go r2 s2 =>
   rw[hy]at q pp;have q:insF m C (blkAt c i).code r (Fa d s)=.go r2 (Fa d s2):=q;rw[q];rw[q]at pq;have hm1:s2.out.length+s2.steps.toNat<=s.out.length+s.steps.toNat:=pp.me;have hle1:s.out.length<=s2.out.length:=pp.pre.length_le;have hm2:s2.out.length+(s2.steps+d).toNat<=s.out.length+(s.steps+d).toNat:=pq.me;dsimp only;by_cases h1:s2.steps<1
   . rw [if_pos h1]
     show Oq d (.stop 3 0 s2) _
     unfold Oq;dsimp only;rw[if_pos rfl];by_cases h1':(Fa d s2).steps<1
     . rw[if_pos h1'];exact zqn
     . rw [if_neg h1']
       by_cases h3:(blkAt c i).e.kind=3
       . rw[if_pos h3];exact zqn
       . rw[if_neg h3]
         exact(Jp (m:=m) (c:=c) hC n' _ r2 (stp (Fa d s2))).1.pre
   . have h1':¬(Fa d s2).steps<1:=by show ¬s2.steps+d<1;omega
     rw[if_neg h1,if_neg h1',mK];by_cases h3:(blkAt c i).e.kind=3
     . rw[if_pos h3,if_pos h3];rfl
     . rw[if_neg h3,if_neg h3]
       have h':(s.steps+d).toNat<n'+1:=h';exact fF hd hC hS n n' _ r2 (stp s2) (by show(s2.steps-1).toNat<n;omega) (by show(s2.steps-1+d).toNat<n';omega)
theorem fG(hd:0<=d):∀(k:Nat)(f:Int)(a:List Int)(s:Mst),Oq d (I3 m k f a s) (I3 m k f a (Fa d s))
 |0,f,a,s=>by unfold Oq I3;dsimp only;rw[if_neg (by decide)]
 | k + 1,f,a,s=>by
  rw[I3,I3];by_cases h:32<=s.calls
  . rw[if_pos h,if_pos (show 32<=(Fa d s).calls from h)]
    unfold Oq;dsimp only;rw[if_neg (by decide)]
  . rw[if_neg h,if_neg (show ¬32<=(Fa d s).calls from h)]
    exact fF (m:=m) (c:=Eb m f) hd (bI k) (fG hd k) (s.steps.toNat+1) ((Fa d s).steps.toNat+1) 0 (initR (Eb m f).regs.length a) {s with calls:=s.calls+1} (zjb _) (zjb _)
structure More(x y:Rs)(steps:Int):Prop where
 st:1<=x.sc.1/\x.sc.1<=3
 le:(x.st.out.length:Int)<=steps
 pre:x.st.out <+: y.st.out
 eq:x.sc.1≠3->x.sc=y.sc/\x.st.out=y.st.out
 go:x.sc.1=3->x.sc.2=0
 tr:x.sc.1=2->1<=x.sc.2/\x.sc.2<=4
theorem uS{input:List Int}{steps:Int}(hs:0<=steps)(hd:0<=d):More (P0 m input steps) (P0 m input (steps+d)) steps:=by
 obtain⟨p1,p2⟩:=bI (m:=m) 33 (r9 m) [] (sI steps input m.gs);have q:Oq d (P0 m input steps) (P0 m input (steps+d)):=fG (m:=m) hd 33 (r9 m) [] (sI steps input m.gs)
 replace p1:Pl (sI steps input m.gs) (P0 m input steps).st:=p1
 replace p2:(P0 m input steps).so:=p2
 have hle:((P0 m input steps).st.out.length:Int)<=steps:=by
  have:(P0 m input steps).st.out.length+(P0 m input steps).st.steps.toNat<=0+steps.toNat:=p1.me
  omega
 cases hy:P0 m input steps with
 | ret v s =>
  rw[hy]at q p2 hle;have q:P0 m input (steps+d)=.ret v (Fa d s):=q;rw[q];exact⟨⟨(by decide:(1:Int)<=1),(by decide:(1:Int)<=3)⟩,hle,zqn,fun _=>⟨rfl,rfl⟩,fun h=>absurd h (by show ¬(1:Int)=3;decide),fun h=>absurd h (by show ¬(1:Int)=2;decide)⟩
 | stop st c s =>
  rw[hy]at q p2 hle;unfold Oq at q;dsimp only at q
  replace p2:bH st c:=p2
  unfold bH at p2;by_cases h3:st=3
  . rw[if_pos h3]at q
    exact⟨by show 1<=st/\st<=3;omega,hle,q,fun h=>absurd h3 h,fun _=>by show c=0;omega,fun h=>by have h:st=2:=h;omega⟩
  . rw[if_neg h3]at q
    rw[q];exact⟨by show 1<=st/\st<=3;omega,hle,zqn,fun _=>⟨rfl,rfl⟩,fun h=>absurd h h3,fun _=>by show 1<=c/\c<=4;omega⟩
end
section
variable {m:Modl}{inp oth:List Int}{st mo:Int}
end
section
variable {m:Modl}{C:Int->List Int->Mst->Rs}
end
end Go.Proofs.AmEnv
set_option maxRecDepth 100000
namespace Go.AM
section
variable {K:PK}{os:List PO}{es base xs:List AV}{s:AV}{te:TI}
end
end Go.AM
namespace Go.Proofs.AmEnv
open Go Go.AM
variable {T:Nat->Option (List AV->Option (List AV))}
section
variable {m:Modl}{inp oth:List Int}{st mo:Int}
end
section
variable {m:Modl}{c:Cod}{i j k:Nat}{n:Int}
theorem EH(hi:i<m.fs.length)(hj:j<m.fs[i].blocks.length)(hs:m.fs[i].ok):evP ⟨A0,T,A1⟩ (.code Rm [(1,.ptr 0 0 0),(3,.int .i64 n),(4,.int .i64 (i:Int)),(5,.int .i64 (j:Int))] ⟨[.row 1 [m.F] 2],0,[]⟩)=some (.ok .normal [(1,.ptr 0 0 0),(3,.int .i64 (S4 n m.fs[i].blocks[j].code.length)),(4,.int .i64 (i:Int)),(5,.int .i64 ((j+1:Nat):Int))] ⟨[.row 1 [m.F] 2],0,[]⟩):=by
 unfold Rm S4;have hlt:decide ((j:Int)<(m.fs[i].blocks.length:Int))=true:=by simp[hj]
 have hw:=B3 (i:=j) (by have:=hs.2.2;simp only[bigN]at this;omega);have h1:=A8 (F:=Cod.F) hi;have h2:=A8 (F:=Blk.F) hj;simp only[Blk.F,Modl.F,Cod.F]at h1 h2|-;simp -implicitDefEqProofs only[hlt,h1,h2,hw,zqa,XP,seval]
theorem EI(hi:i<m.fs.length):∃fr',evP ⟨A0,T,A1⟩ (.code Rm [(1,.ptr 0 0 0),(3,.int .i64 n),(4,.int .i64 (i:Int)),(5,.int .i64 (m.fs[i].blocks.length:Int))] ⟨[.row 1 [m.F] 2],0,[]⟩)=some (.ok (.exit 2) fr' ⟨[.row 1 [m.F] 2],0,[]⟩)/\(lookP fr' 1=.ptr 0 0 0/\lookP fr' 3=.int .i64 n/\lookP fr' 4=.int .i64 (i:Int)):=by
 unfold Rm;have hlt:decide ((m.fs[i].blocks.length:Int)<(m.fs[i].blocks.length:Int))=false:=by simp
 have h1:=A8 (F:=Cod.F) hi;simp only[Modl.F,Cod.F]at h1|-;simp -implicitDefEqProofs only[hlt,h1,zqa,XP,seval];exact⟨_,rfl,rfl,rfl,rfl⟩
theorem EJ(hi:i<m.fs.length)(hs:m.ok):evP ⟨A0,T,A1⟩ (.code Rn [(1,.ptr 0 0 0),(3,.int .i64 n),(4,.int .i64 (i:Int))] ⟨[.row 1 [m.F] 2],0,[]⟩)=some (.ok .normal [(1,.ptr 0 0 0),(3,.int .i64 (JI n m.fs[i])),(4,.int .i64 ((i+1:Nat):Int))] ⟨[.row 1 [m.F] 2],0,[]⟩):=by
 have hc:=(hs.1 _ (zqf hi)).1;have hlt:decide ((i:Int)<(m.fs.length:Int))=true:=by simp[hi]
 have hw:=B3 (i:=i) (by have:=hs.2.1;simp only[bigN]at this;omega);have hg:=A8 (F:=Cod.F) hi;obtain⟨fr',h1,h2,h3,h4⟩:=Ey (P:=⟨A0,T,A1⟩) (c:=Rm) (f:=fun a (b:Blk)=>S4 a b.code.length) (l:=m.fs[i].blocks) (S:=fun j n=>[(1,.ptr 0 0 0),(3,.int .i64 n),(4,.int .i64 (i:Int)),(5,.int .i64 (j:Int))]) (K:=fun _=>⟨[.row 1 [m.F] 2],0,[]⟩) (x:=2) (Q:=fun n fr'=>lookP fr' 1=.ptr 0 0 0/\lookP fr' 3=.int .i64 n/\lookP fr' 4=.int .i64 (i:Int)) (fun k a h=>EH hi h hc) (fun a=>EI hi) (S4 (S4 n m.fs[i].regs.length) m.fs[i].blocks.length);have h1:evP ⟨A0,T,A1⟩ (.code (.loop Rm) [(1,.ptr 0 0 0),(3,.int .i64 (S4 (S4 n m.fs[i].regs.length) m.fs[i].blocks.length)),(4,.int .i64 (i:Int)),(5,.int .i64 0)] ⟨[.row 1 [m.F] 2],0,[]⟩)=_:=h1;have hn:JI n m.fs[i]=m.fs[i].blocks.foldl (fun a (b:Blk)=>S4 a b.code.length) (S4 (S4 n m.fs[i].regs.length) m.fs[i].blocks.length):=rfl;rw[<-hn]at h3;unfold Rn;unfold S4 at h1;simp only[Modl.F,Cod.F]at hg h1|-;simp -implicitDefEqProofs only[hlt,hg,h1,h2,h3,h4,hw,zqa,XP,seval]
theorem EK:∃fr',evP ⟨A0,T,A1⟩ (.code Rn [(1,.ptr 0 0 0),(3,.int .i64 n),(4,.int .i64 (m.fs.length:Int))] ⟨[.row 1 [m.F] 2],0,[]⟩)=some (.ok (.exit 0) fr' ⟨[.row 1 [m.F] 2],0,[]⟩)/\(lookP fr' 1=.ptr 0 0 0/\lookP fr' 3=.int .i64 n):=by
 unfold Rn;have hlt:decide ((m.fs.length:Int)<(m.fs.length:Int))=false:=by simp
 simp only[Modl.F];simp -implicitDefEqProofs only[hlt,zqa,XP,seval];exact⟨_,rfl,rfl,rfl⟩
theorem Ot(hlaw06_Big:T 6=some r7)(hir_Check:T 7=some O6){m:Modl}(hk:m.ok):AM.Comes ⟨A0,T,A1⟩ 15 [m.F] [.bool (Z5 m)]:=by
 refine⟨[.bool (Z5 m)],⟨[],0,[]⟩,?_,back_of rfl zqq rfl rfl rfl⟩;rw[A3 (c:=NO) (nt:=71) (rs:=[.tmp 2]) rfl (by simp)];unfold NO;unfold K0;have tb:=fun K=>jQ (K:=K) hlaw06_Big hk
 have tc:=fun K=>pM (K:=K) hir_Check hk
 obtain⟨fr',h1,h2,h3⟩:=Ey (P:=⟨A0,T,A1⟩) (c:=Rn) (f:=JI) (l:=m.fs) (S:=fun i n=>[(1,.ptr 0 0 0),(3,.int .i64 n),(4,.int .i64 (i:Int))]) (K:=fun _=>⟨[.row 1 [m.F] 2],0,[]⟩) (x:=0) (Q:=fun n fr'=>lookP fr' 1=.ptr 0 0 0/\lookP fr' 3=.int .i64 n) (fun k a h=>EJ h hk) (fun a=>EK) 0;have h1:evP ⟨A0,T,A1⟩ (.code (.loop Rn) [(1,.ptr 0 0 0),(3,.int .i64 0),(4,.int .i64 0)] ⟨[.row 1 [m.F] 2],0,[]⟩)=_:=h1;have q12:decide ((12:Int)<(m.fs.length:Int))=decide (12<m.fs.length):=decide_eq_decide.2 (by omega);unfold Z5;simp only[Modl.F]at tb tc h1|-;by_cases h5:1000<m.fs.foldl JI 0
 . simp -implicitDefEqProofs only[h1,h2,h3,q12,eq_true h5,zqa,XP,seval]
 by_cases h12:12<m.fs.length
 . simp -implicitDefEqProofs only[h1,h2,h3,q12,h5,eq_true h12,zqa,XP,seval]
 cases hb:j9 m with
 |true=>simp -implicitDefEqProofs only[h1,h2,h3,q12,h5,h12,tb,hb,zqa,XP,seval]
 |false=>simp -implicitDefEqProofs only[h1,h2,h3,q12,h5,h12,tb,hb,tc,zqa,XP,seval]
def Z6:=S7 (fun p:(Modl)=>[p.F]) (fun p=>[.bool (Z5 p)]) (fun p=>p.ok)
theorem To(hlaw15_Big:T 15=some Z6){m:Modl}{K:PK}(hk:m.ok):evP ⟨A0,T,A1⟩ (.call 15 [m.F] K)=some (.val (openTs K.os.length [.bool (Z5 m)]).1 ⟨K.os++(openTs K.os.length [.bool (Z5 m)]).2,K.ext,K.tch⟩):=B5 hlaw15_Big (by simp -implicitDefEqProofs only[VV,XP,seval]) (B9 (a:=fun p:(Modl)=>[p.F]) (r:=fun p=>[.bool (Z5 p)]) (fun x y e=>by simp only[VJ]at e;simp only[e]) (m) hk) (by simp -implicitDefEqProofs only[VN,XP,seval])
theorem bK(hlaw06_Big:T 6=some r7)(hir_Check:T 7=some O6)(hP:PEok ⟨A0,T,A1⟩):TC A0 15 Z6:=C0 hP fun p h=>Ot hlaw06_Big hir_Check h
end
def fstN(l:List Blk)(t:Nat):Nat:=l.findIdx fun o=>decide (some o=l[t]?)
theorem Lv{l:List Blk}{t:Nat}(h:t<l.length):fstN l t<=t/\l[fstN l t]?=l[t]?/\∀j,j<fstN l t->l[j]?≠l[t]?:=by
 have ht:l[t]?=some l[t]:=zql h;have hle:fstN l t<=t:=by
  refine Nat.le_of_not_lt fun hlt=>?_
  have:=zko (p:=fun o=>decide (some o=l[t]?)) (xs:=l) hlt
  simp at this
 have hlt:fstN l t<l.length:=by omega
 refine⟨hle,?_,fun j hj hje=>?_⟩
 . have:=List.findIdx_getElem (p:=fun o=>decide (some o=l[t]?)) (xs:=l) (w:=hlt)
   simp only[decide_eq_true_eq]at this;rw[zql hlt];exact this
 . have hjl:j<l.length:=by omega
   have:=zko (p:=fun o=>decide (some o=l[t]?)) (xs:=l) hj
   rw[zql hjl]at hje;simp[hje]at this
def fstI(l:List Blk)(t:Int):Int:=if 0<=t/\t<l.length then(fstN l t.toNat:Int)else t
theorem fstI_le(l:List Blk)(t:Int):fstI l t=t\/(0<=fstI l t/\fstI l t<t):=by
 unfold fstI;split
 . rename_i h
   have:=(Lv (l:=l) (t:=t.toNat) (by omega)).1
   omega
 . exact .inl rfl
def Endd.R(l:List Blk)(e:Endd):Endd:=if e.kind=1 then{e with to:=fstI l e.to}else if e.kind=2 then{e with to:=fstI l e.to,els:=fstI l e.els}else e
def Blk.R(l:List Blk)(b:Blk):Blk:={b with e:=b.e.R l}
def rnd(l:List Blk):List Blk:=l.map (Blk.R l)
def Endd.w(e:Endd):Nat:=e.to.toNat+e.els.toNat
def mL:List Blk->Nat
 |[]=>0
 |b::l=>b.e.w+mL l
theorem Endd.R_w(l:List Blk)(e:Endd):(e.R l).w<=e.w/\(¬e.R l=e->(e.R l).w<e.w):=by
 obtain⟨k,a,t,s⟩:=e;have h1:=fstI_le l t;have h2:=fstI_le l s;unfold Endd.R Endd.w;simp only;split
 . refine⟨by simp only;omega,fun hne=>?_⟩
   simp only[Endd.mk.injEq,true_and,and_true]at hne;simp only;omega
 . split
   . refine ⟨by simp only;omega,fun hne=>?_⟩
     simp only[Endd.mk.injEq,true_and]at hne;simp only;by_cases q:fstI l t=t
     . have:¬fstI l s=s:=fun q2=>hne ⟨q,q2⟩
       omega
     . omega
   . exact⟨zku _,fun hne=>absurd rfl hne⟩
theorem mM(L:List Blk):∀l:List Blk,mL (l.map (Blk.R L))<=mL l/\(¬l.map (Blk.R L)=l->mL (l.map (Blk.R L))<mL l)
 |[]=>⟨zku _,fun h=>absurd rfl h⟩
 | b :: l=>by
  obtain⟨h1,h2⟩:=mM L l;obtain⟨h3,h4⟩:=b.e.R_w L;simp only[zqg,mL];have hb:(Blk.R L b).e=b.e.R L:=rfl;rw[hb];refine⟨by omega,fun hne=>?_⟩;by_cases q:b.e.R L=b.e
  . have:¬l.map (Blk.R L)=l:=fun q2=>hne (by
     rw[q2];congr 1;unfold Blk.R;rw[q])
    have:=h2 this
    omega
  . have:=h4 q
    omega
theorem Lw{l:List Blk}(h:¬rnd l=l):mL (rnd l)<mL l:=(mM l l).2 h
def twin(l:List Blk):List Blk:=if h:rnd l=l then l else twin (rnd l)
termination_by mL l
decreasing_by exact Lw h
theorem s5{l:List Blk}(h:rnd l=l):twin l=l:=by rw[twin,dif_pos h]
theorem Bz{l:List Blk}(h:¬rnd l=l):twin l=twin (rnd l):=by rw[twin,dif_neg h]
def rndTo(l:List Blk)(i:Nat):List Blk:=(l.take i).map (Blk.R l)++l.drop i
theorem qA(l:List Blk):rndTo l l.length=rnd l:=by unfold rndTo rnd;simp
theorem qB(l:List Blk)(i:Nat):(rndTo l i).length=l.length:=by unfold rndTo;simp;omega
theorem qC{l:List Blk}{i:Nat}(h:i<l.length):(rndTo l i)[i]?=some l[i]:=by
 unfold rndTo;have e:((l.take i).map (Blk.R l)).length=i:=by simp;omega
 rw[zki (by omega),zkj,e,zkv,zja,zql h]
theorem qD{l:List Blk}{i:Nat}(h:i<l.length):(rndTo l i).set i (Blk.R l l[i])=rndTo l (i+1):=by
 unfold rndTo;have e:((l.take i).map (Blk.R l)).length=i:=by simp;omega
 rw[zkk _ _ (by omega),e,zkv,zqu h,zqs,zqz h,zkp];simp
def Ns(n:Nat)(e:Endd):Prop:=((e.kind=1\/e.kind=2)->0<=e.to/\e.to<n)/\(e.kind=2->0<=e.els/\e.els<n)
theorem Fb{l:List Blk}{t:Int}(h:0<=t/\t<l.length):0<=fstI l t/\fstI l t<l.length:=by
 rcases fstI_le l t with e|e<;>omega
theorem Ns.R{l:List Blk}{e:Endd}(h:Ns l.length e):Ns l.length (e.R l):=by
 unfold Endd.R;split
 . rename_i q
   exact⟨fun _=>Fb (h.1 (.inl q)),fun q2=>absurd (q.symm.trans q2) (by decide)⟩
 . split
   . rename_i q1 q
     exact⟨fun _=>Fb (h.1 (.inr q)),fun _=>Fb (h.2 q)⟩
   . exact h
theorem Jq(l:List Blk):(rnd l).length=l.length:=zqa ..
theorem yL{l:List Blk}(h:∀b∈l,Ns l.length b.e):∀b∈rnd l,Ns (rnd l).length b.e:=fun b hb=>by
 obtain⟨x,hx,rfl⟩:=zqk.1 hb;rw[Jq];exact(h x hx).R
theorem EL{l:List Blk}(h:∀b∈l,b.ok):∀b∈rnd l,b.ok:=fun b hb=>by
 obtain⟨x,hx,rfl⟩:=zqk.1 hb;exact h x hx
theorem uT{α:Type}{l:List α}{i:Nat}{v:α}(h:l[i]?=some v):l.set i v=l:=by
 obtain⟨hi,rfl⟩:=zqy.1 h;exact List.set_getElem_self hi
theorem c9{α:Type}{l:List α}{i:Nat}{v:α}(h:i<l.length):(l.set i v)[i]?=some v:=List.getElem?_set_self h
section
variable {l:List Blk}{i:Nat}{c:Cod}
def k8(l:List Blk):Prop:=(∀b∈l,b.ok)/\l.length*56<=bigN/\∀b∈l,Ns l.length b.e
theorem k8.rnd(h:k8 l):k8 (rnd l):=⟨EL h.1,by rw[Jq];exact h.2.1,yL h.2.2⟩
theorem k8.len(h:k8 l):l.length<=bigN:=by have:=h.2.1;simp only[bigN]at this|-;omega
theorem qE{os:List PO}{id:Nat}{l:List Blk}(h:os[id]?=some (.row 0 (l.map Blk.O) 5)):viewA os (.msl id 0 l.length 5)=some (fslN (l.map Blk.F)):=by
 have e:(l.map Blk.O).take l.length=l.map Blk.O:=zqi (by simp);simp -implicitDefEqProofs only[h,e,Ew,zqa,XP,seval]
theorem Tp(l:List Blk):(twin l).length=l.length:=by
 have:∀(n:Nat)(l:List Blk),mL l=n->(twin l).length=l.length:=fun n=>by
  induction n using zkx with
  | ind n ih =>
   intro l hn;by_cases q:rnd l=l
   . rw[s5 q]
   . rw[Bz q,ih _ (hn▸Lw q) (rnd l) rfl,Jq]
 exact this _ l rfl
def twinC(c:Cod):Cod:={c with blocks:=twin c.blocks}
def Cod.tok(c:Cod):Prop:=c.regs.length*8<=bigN/\k8 c.blocks
def m8:=S7 (fun x:Cod=>[x.F]) (fun x=>[x.O]) Cod.ok
def Au:=S7 (fun p:Cod×Cod=>[p.1.F,p.2.F]) (fun p=>[.bool (decide (p.1=p.2))]) (fun p=>p.1.ok)
theorem Xz(hT:T 62=some m8){x:Cod}(h:x.ok){K:PK}:evP ⟨A0,T,A1⟩ (.call 62 [x.F] K)=some (.val (openTs K.os.length [x.O]).1 ⟨K.os++(openTs K.os.length [x.O]).2,K.ext,K.tch⟩):=B5 hT (by simp -implicitDefEqProofs only[Cod.viewF,XP,seval]) (B9 (a:=fun x:Cod=>[x.F]) (r:=fun x=>[x.O]) (fun x y e=>by simp only[List.cons.injEq,Cod.F_iff,and_true]at e;simp only[e]) x h) (by
 simp -implicitDefEqProofs only[Cod.okO,Cod.noF,XP,seval])
end
section
variable {l:List Blk}{i n:Nat}{x b:Blk}{K:PK}{tch:List Nat}
theorem qF{sz:Nat}{es:List AV}{f:Bool}{n:Nat}(hn:n<=es.length)(h0:Q9 sz es=true):Ab sz es f none (some (.int .i64 (n:Int))) none=some (.fsl (es.take n) (f&&Nat.beq n (lenL es))):=by
 unfold Ab;show B1 (Nat.ble 0 n&&Nat.ble n (lenL es)&&Nat.ble (lenL es) (lenL es)&&Q9 sz es) (some (AV.fsl (takeL (dropL es 0) (Nat.sub n 0)) (f&&Nat.beq n (lenL es))))=_
 rw[h0,A6,show Nat.ble 0 n=true from rfl,zjc hn,zjc (zku _),F7,F6];rfl
theorem uU(h0:0<l.length)(hn:n<=l.length):w3 (Mg A0 (.slice 54) none (some (.int .i64 (n:Int))) none (fslN (l.map Blk.F))) K=.val (fslN ((l.take n).map Blk.F)) K:=by
 cases l with
 |nil=>cases h0
 | cons b r =>
  show w3 ((Ab 5 ((b::r).map Blk.F) false none (some (.int .i64 (n:Int))) none).map fun y=>match y with | .fsl l _=>AV.fsl l l.isEmpty|y=>y) K=_
  rw[qF (by simpa using hn) rfl];show OpS.val (fslN (((b::r).map Blk.F).take n)) K=_
  rw[List.map_take]
theorem EM(hT:T 75=some X0){x y:Blk}(h:x.ok){K:PK}:evP ⟨A0,T,A1⟩ (.call 75 [x.F,y.F] K)=some (.val [.bool (decide (x=y))] ⟨K.os++[],K.ext,K.tch⟩):=B5 hT (by simp -implicitDefEqProofs only[Blk.viewF,XP,seval]) (pH h) (by simp -implicitDefEqProofs only[XP,seval])
theorem Ya(hN:T 74=none)(hT:T 75=some X0)(hb:b.ok):evP ⟨A0,T,A1⟩ (.call 74 [b.F,.ptr 0 0 0] ⟨[.row 1 [x.F] 5],1,tch⟩)=some (.val [.bool (decide (b=x))] ⟨[.row 1 [x.F] 5,.row 1 [b.F] 5],1,tch⟩):=by
 have ta:=fun K=>EM (K:=K) (x:=b) (y:=x) hT hb
 rw[Ch hN rfl];rw[A3 (c:=PI) (nt:=7) (rs:=[.tmp 3]) rfl (by simp)];unfold PI;simp only[Blk.F]at ta|-;simp -implicitDefEqProofs only[ta,XP,seval]
theorem LB(hN:T 74=none)(hT:T 75=some X0)(h:i<l.length)(hs:l.length<=bigN)(hb:l[i].ok)(hp:decide (l[i]=x)=false):evP ⟨A0,T,A1⟩ (.code Ge [(0,fslN (l.map Blk.F)),(1,.fn (.func 74) [] [.ptr 0 0 0]),(7,.int .i64 (l.length:Int)),(8,.int .i64 (i:Int))] ⟨[.row 1 [x.F] 5],1,[]⟩)=some (.ok .normal [(0,fslN (l.map Blk.F)),(1,.fn (.func 74) [] [.ptr 0 0 0]),(7,.int .i64 (l.length:Int)),(8,.int .i64 ((i+1:Nat):Int))] ⟨[.row 1 [x.F] 5],1,[]⟩):=by
 unfold Ge;have hlt:decide ((i:Int)<(l.length:Int))=true:=by simp[h]
 have hw:=B3 (i:=i) (by simp only[bigN]at hs;omega);have hi:=A8 (F:=Blk.F) h;have t:=Ya (x:=x) (b:=l[i]) (tch:=[]) hN hT hb;rw[hp]at t;simp only[Blk.F]at hi t|-;simp -implicitDefEqProofs only[hlt,hi,hw,t,XP,seval]
theorem LC(hN:T 74=none)(hT:T 75=some X0)(h:i<l.length)(hb:l[i].ok)(hp:decide (l[i]=x)=true):∃fr',evP ⟨A0,T,A1⟩ (.code Ge [(0,fslN (l.map Blk.F)),(1,.fn (.func 74) [] [.ptr 0 0 0]),(7,.int .i64 (l.length:Int)),(8,.int .i64 (i:Int))] ⟨[.row 1 [x.F] 5],1,[]⟩)=some (.ok .ret fr' ⟨[.row 1 [x.F] 5],1,[]⟩)/\lookP fr' 4=.int .i64 (i:Int):=by
 unfold Ge;have hlt:decide ((i:Int)<(l.length:Int))=true:=by simp[h]
 have hi:=A8 (F:=Blk.F) h;have t:=Ya (x:=x) (b:=l[i]) (tch:=[]) hN hT hb;rw[hp]at t;simp only[Blk.F]at hi t|-;simp -implicitDefEqProofs only[hlt,hi,t,XP,seval];exact⟨_,rfl,rfl⟩
theorem LD:∃fr',evP ⟨A0,T,A1⟩ (.code Ge [(0,fslN (l.map Blk.F)),(1,.fn (.func 74) [] [.ptr 0 0 0]),(7,.int .i64 (l.length:Int)),(8,.int .i64 (l.length:Int))] ⟨[.row 1 [x.F] 5],1,[]⟩)=some (.ok (.exit 0) fr' ⟨[.row 1 [x.F] 5],1,[]⟩):=by
 unfold Ge;have hlt:decide ((l.length:Int)<(l.length:Int))=false:=by simp
 simp -implicitDefEqProofs only[hlt,XP,seval];exact⟨_,rfl⟩
theorem Ed(hN:T 74=none)(hT:T 75=some X0)(hs:l.length<=bigN)(hok:∀b∈l,b.ok):evP ⟨A0,T,A1⟩ (.body 73 [fslN (l.map Blk.F),.fn (.func 74) [] [.ptr 0 0 0]] ⟨[.row 1 [x.F] 5],1,[]⟩)=some (.val [.int .i64 (idxOf (fun o=>decide (o=x)) l)] ⟨[.row 1 [x.F] 5],1,[]⟩):=by
 rw[A3 (c:=PH) (nt:=19) (rs:=[.tmp 4]) rfl (by simp)];unfold PH;rcases idx_loop (P:=⟨A0,T,A1⟩) (c:=Ge) (p:=fun o=>decide (o=x)) (l:=l) (S:=fun i=>[(0,fslN (l.map Blk.F)),(1,.fn (.func 74) [] [.ptr 0 0 0]),(7,.int .i64 (l.length:Int)),(8,.int .i64 (i:Int))]) (K:=⟨[.row 1 [x.F] 5],1,[]⟩) (fun i h hp=>LB hN hT h hs (hok _ (zqf h)) hp) (fun i h hp=>LC hN hT h (hok _ (zqf h)) hp) LD with⟨i,e,fr',h1,h2⟩|⟨e,fr',h1⟩
 . have h1:evP ⟨A0,T,A1⟩ (.code (.loop Ge) [(0,fslN (l.map Blk.F)),(1,.fn (.func 74) [] [.ptr 0 0 0]),(7,.int .i64 (l.length:Int)),(8,.int .i64 0)] ⟨[.row 1 [x.F] 5],1,[]⟩)=_:=h1
   simp only[Blk.F]at h1|-;simp -implicitDefEqProofs only[h1,h2,e,zqa,XP,seval]
 . have h1:evP ⟨A0,T,A1⟩ (.code (.loop Ge) [(0,fslN (l.map Blk.F)),(1,.fn (.func 74) [] [.ptr 0 0 0]),(7,.int .i64 (l.length:Int)),(8,.int .i64 0)] ⟨[.row 1 [x.F] 5],1,[]⟩)=_:=h1
   simp only[Blk.F]at h1|-;simp -implicitDefEqProofs only[h1,e,zqa,XP,seval]
theorem mN(h:i<l.length):idxOf (fun o=>decide (o=l[i])) (l.take (i+1))=(fstN l i:Int):=by
 obtain⟨h1,h2,h3⟩:=Lv h;have hi:l[i]?=some l[i]:=zql h;have hl:fstN l i<(l.take (i+1)).length:=by simp;omega
 have:(l.take (i+1)).findIdx? (fun o=>decide (o=l[i]))=some (fstN l i):=by
  rw[zkn];refine⟨hl,?_,fun j hj=>?_⟩
  . rw[zkq]
    rw[zql (by omega),hi]at h2;simpa using h2
  . rw[zkq]
    have:=h3 j hj
    rw[zql (by omega),hi]at this;simpa using this
 unfold idxOf;rw[this]
def J1(l:List Blk)(i:Nat):List Int:=(List.range i).map fun i=>(fstN l i:Int)
theorem Hk(l:List Blk)(i:Nat):(J1 l i).length=i:=by simp[J1]
theorem fH(l:List Blk)(i:Nat):J1 l (i+1)=J1 l i++[(fstN l i:Int)]:=by simp[J1,List.range_succ]
theorem uV(hI:T 73=none)(hN:T 74=none)(hT:T 75=some X0)(h:i<l.length)(hs:l.length<=bigN)(hok:∀b∈l,b.ok):evP ⟨A0,T,A1⟩ (.call 73 [fslN ((l.take (i+1)).map Blk.F),.fn (.func 74) [] [.ptr 0 0 0]] ⟨[.row 1 [l[i].F] 5],0,tch⟩)=some (.val [.int .i64 (fstN l i:Int)] ⟨[.row 1 [l[i].F] 5],0,tch⟩):=by
 rw[<-mN h];exact Vi (ids:=[0]) hI rfl rfl rfl rfl (Ed hN hT (by simp;omega) fun b hb=>hok b (zkr hb)) rfl rfl
theorem uW{es:List AV}(hI:T 73=none)(hN:T 74=none)(hT:T 75=some X0)(h:i<l.length)(hs:l.length<=bigN)(hok:∀b∈l,b.ok):evP ⟨A0,T,A1⟩ (.call 73 [fslN ((l.take (i+1)).map Blk.F),.fn (.func 74) [] [.ptr 1 0 0]] ⟨[.row 0 es 1,.row 1 [l[i].F] 5],0,tch⟩)=some (.val [.int .i64 (fstN l i:Int)] ⟨[.row 0 es 1,.row 1 [l[i].F] 5],0,tch⟩):=by
 rw[<-mN h];exact Vi (ids:=[1]) hI rfl rfl rfl rfl (Ed hN hT (by simp;omega) fun b hb=>hok b (zkr hb)) rfl rfl
theorem A0F(hI:T 73=none)(hN:T 74=none)(hT:T 75=some X0)(h:0<l.length)(hs:l.length<=bigN)(hok:∀b∈l,b.ok):evP ⟨A0,T,A1⟩ (.code Jd [(0,fslN (l.map Blk.F)),(3,.nilsl),(6,fslN (l.map Blk.F)),(7,.int .i64 (l.length:Int)),(8,.int .i64 0)] ⟨[],0,[]⟩)=some (.ok .normal [(0,fslN (l.map Blk.F)),(3,.msl 0 0 1 1),(6,fslN (l.map Blk.F)),(7,.int .i64 (l.length:Int)),(8,.int .i64 ((1:Nat):Int))] ⟨[.row 0 (ints (J1 l 1)) 1],0,[]⟩):=by
 unfold Jd;have hlt:decide ((0:Int)<(l.length:Int))=true:=by simp[h]
 have hi:=ix_fslN (te:=Ak) (k:=.i64) (i:=0) (A8 (F:=Blk.F) h) rfl;have hi:Kq Ak (fslN (l.map Blk.F)) (.int .i64 0)=some (.fptr (Blk.F l[0]) 0):=hi;have tc:=fun tch=>uV (i:=0) (tch:=tch) hI hN hT h hs hok
 have hsl:=fun K=>uU (n:=1) (l:=l) (K:=K) h h
 have hsl:∀K:PK,w3 (Mg A0 (.slice 54) none (some (.int .i64 1)) none (fslN (l.map Blk.F))) K=.val (fslN ((l.take (0+1)).map Blk.F)) K:=hsl;have hx:ints (J1 l 1)=[.int .i64 (fstN l 0:Int)]:=rfl;rw[hx];simp only[Blk.F]at hi tc|-;simp -implicitDefEqProofs only[hlt,hi,tc,hsl,show IntKind.i64.wrap (0+1)=((1:Nat):Int)from rfl,show((1:Nat):Int)=1 from rfl,XQ,sp_eq,Nat.reduceAdd,Nat.reduceSub,Nat.reduceLT,Nat.reduceLeDiff,Nat.reduceEqDiff,Nat.reduceMul,↓reduceIte]
end
section
variable {l:List Blk}{i n:Nat}{x b:Blk}{K:PK}{tch:List Nat}
theorem A0G(hI:T 73=none)(hN:T 74=none)(hT:T 75=some X0)(h:i<l.length)(hs:l.length*56<=bigN)(hok:∀b∈l,b.ok):evP ⟨A0,T,A1⟩ (.code Jd [(0,fslN (l.map Blk.F)),(3,.msl 0 0 i 1),(6,fslN (l.map Blk.F)),(7,.int .i64 (l.length:Int)),(8,.int .i64 (i:Int))] ⟨[.row 0 (ints (J1 l i)) 1],0,[]⟩)=some (.ok .normal [(0,fslN (l.map Blk.F)),(3,.msl 0 0 (i+1) 1),(6,fslN (l.map Blk.F)),(7,.int .i64 (l.length:Int)),(8,.int .i64 ((i+1:Nat):Int))] ⟨[.row 0 (ints (J1 l (i+1))) 1],0,[]⟩):=by
 unfold Jd;have hlt:decide ((i:Int)<(l.length:Int))=true:=by simp[h]
 have hw:=B3 (i:=i) (by simp only[bigN]at hs;omega);have hi:=A8 (F:=Blk.F) h;have tc:=fun es tch=>uW (i:=i) (es:=es) (tch:=tch) hI hN hT h (by simp only[bigN]at hs|-;omega) hok
 have hsl:=fun K=>uU (n:=i+1) (l:=l) (K:=K) (by omega) h
 have hx:ints (J1 l (i+1))=ints (J1 l i)++[.int .i64 (fstN l i:Int)]:=by rw[fH];simp[ints]
 have hm:(ints (J1 l i)).length=i:=by rw[zqa,Hk]
 have hz:(i+1)*8<=140737488355328:=by simp only[bigN]at hs;omega
 rw[hx];simp only[Blk.F]at hi tc|-;simp -implicitDefEqProofs only[hlt,hi,tc,hsl,hw,hm,hz,XP,seval]
theorem LF{y:AV}{K:PK}:∃fr',evP ⟨A0,T,A1⟩ (.code Jd [(0,fslN (l.map Blk.F)),(3,y),(6,fslN (l.map Blk.F)),(7,.int .i64 (l.length:Int)),(8,.int .i64 (l.length:Int))] K)=some (.ok (.exit 0) fr' K)/\lookP fr' 3=y:=by
 unfold Jd;have hlt:decide ((l.length:Int)<(l.length:Int))=false:=by simp
 simp -implicitDefEqProofs only[hlt,XP,seval];exact⟨_,rfl,rfl⟩
theorem LG(hI:T 73=none)(hN:T 74=none)(hT:T 75=some X0)(hs:l.length*56<=bigN)(hok:∀b∈l,b.ok):∀(n i:Nat),l.length=i+n->0<i->∃fr',evP ⟨A0,T,A1⟩ (.code (.loop Jd) [(0,fslN (l.map Blk.F)),(3,.msl 0 0 i 1),(6,fslN (l.map Blk.F)),(7,.int .i64 (l.length:Int)),(8,.int .i64 (i:Int))] ⟨[.row 0 (ints (J1 l i)) 1],0,[]⟩)=some (.ok (.exit 0) fr' ⟨[.row 0 (ints (J1 l l.length)) 1],0,[]⟩)/\lookP fr' 3=.msl 0 0 l.length 1
 | 0,i,e,h0=>by
  obtain rfl:i=l.length:=by omega
  obtain⟨fr',h1,h2⟩:=LF (T:=T) (l:=l) (y:=.msl 0 0 l.length 1) (K:=⟨[.row 0 (ints (J1 l l.length)) 1],0,[]⟩);exact⟨fr',C7 h1,h2⟩
 | n+1,i,e,h0=>by
  rw[loop_more (A0G hI hN hT (by omega) hs hok)];exact LG hI hN hT hs hok n (i+1) (by omega) (by omega)
theorem Jr(nIdxBlocks:T 73=none)(ntwin_firsts_1:T 74=none)(htwin_alike:T 75=some X0){l:List Blk}(hk:l.length*56<=bigN/\(∀b∈l,b.ok)):AM.Comes ⟨A0,T,A1⟩ 59 [fslN (l.map Blk.F)] [ownd 0 1 (ints (J1 l l.length))]:=by
 obtain⟨hs,hok⟩:=hk;cases hl:l with
 | nil =>
  subst hl;obtain⟨fr',h1,h2⟩:=LF (T:=T) (l:=[]) (y:=.nilsl) (K:=⟨[],0,[]⟩);have hl:=C7 h1;have hl:evP ⟨A0,T,A1⟩ (.code (.loop Jd) [(0,fslN (([]:List Blk).map Blk.F)),(3,.nilsl),(6,fslN (([]:List Blk).map Blk.F)),(7,.int .i64 0),(8,.int .i64 0)] ⟨[],0,[]⟩)=_:=hl;refine⟨[.nilsl],⟨[],0,[]⟩,?_,D2 (.inl ⟨rfl,rfl,rfl⟩)⟩;rw[A3 (c:=GH) (nt:=24) (rs:=[.tmp 2]) rfl (by simp)];unfold GH;unfold K0;simp only[zqh]at hl|-;have z:((0:Nat):Int)=0:=rfl;simp -implicitDefEqProofs only[hl,h2,z,XP,seval]
 | cons b r =>
  rw[<-hl];have h0:0<l.length:=by rw[hl];simp
  obtain⟨fr',h1,h2⟩:=LG nIdxBlocks ntwin_firsts_1 htwin_alike hs hok (l.length-1) 1 (by omega) (by decide);have hl:=(loop_more (A0F nIdxBlocks ntwin_firsts_1 htwin_alike h0 (by simp only[bigN]at hs|-;omega) hok)).trans h1;refine⟨[.msl 0 0 l.length 1],⟨[.row 0 (ints (J1 l l.length)) 1],0,[]⟩,?_,D2 (.inr ⟨by rw[zqa,Hk],rfl⟩)⟩;rw[A3 (c:=GH) (nt:=24) (rs:=[.tmp 2]) rfl (by simp)];unfold GH;unfold K0;simp -implicitDefEqProofs only[hl,h2,zqa,XP,seval]
def H2:=S7 (fun p:(List Blk)=>[fslN (p.map Blk.F)]) (fun p=>[ownd 0 1 (ints (J1 p p.length))]) (fun p=>p.length*56<=bigN/\(∀b∈p,b.ok))
theorem Tq(htwin_firsts:T 59=some H2){l:List Blk}{K:PK}{args:List AV}(hv:viewAs K.os args=some [fslN (l.map Blk.F)])(hk:l.length*56<=bigN/\(∀b∈l,b.ok)):evP ⟨A0,T,A1⟩ (.call 59 args K)=some (.val (openTs K.os.length [ownd 0 1 (ints (J1 l l.length))]).1 ⟨K.os++(openTs K.os.length [ownd 0 1 (ints (J1 l l.length))]).2,K.ext,K.tch⟩):=B5 htwin_firsts hv (B9 (a:=fun p:(List Blk)=>[fslN (p.map Blk.F)]) (r:=fun p=>[ownd 0 1 (ints (J1 p p.length))]) (fun x y e=>by simp only[VJ]at e;simp only[e]) (l) hk) (by generalize (refsL args).isEmpty=z;simp -implicitDefEqProofs only[VN,XP,seval])
theorem Ts(nIdxBlocks:T 73=none)(ntwin_firsts_1:T 74=none)(htwin_alike:T 75=some X0)(hP:PEok ⟨A0,T,A1⟩):TC A0 59 H2:=C0 hP fun p h=>Jr nIdxBlocks ntwin_firsts_1 htwin_alike h
def FI(l:List Blk):List Int:=J1 l l.length
theorem uX{l:List Blk}{t:Int}(h:0<=t/\t<l.length):(ints (FI l))[t.toNat]?=some (.int .i64 (fstI l t)):=by
 have ht:t.toNat<l.length:=by omega
 unfold FI J1 fstI;rw[if_pos h,zqm,zqm,List.getElem?_range ht];rfl
theorem EN(l:List Blk):(FI l).length=l.length:=Hk l _
def rK(l:List Blk)(bs:List AV)(t:Bool):List PO:=[.row 0 bs 5,.row 1 [.bool t] 1,.row 1 [.msl 3 0 l.length 1] 1,.row 0 (ints (FI l)) 1]
variable {bs:List AV}{t:Bool}{u v w:Int}{c0:AV}{tl:List AV}
theorem nc_ptr(id i o:Nat):U7 (.ptr id i o)=some (.ptr id i o):=rfl
theorem mO{k a s:Int}(hN:T 60=none)(hb:bs[i]?=some (.agg [c0,.int .i64 k,.int .i64 a,.int .i64 u,.int .i64 s]))(hu:0<=u/\u<l.length):
 ∃tch',evP ⟨A0,T,A1⟩ (.call 60 [.ptr 0 i 3,.ptr 1 0 0,.ptr 2 0 0] ⟨rK l bs t,1,tch⟩)=some (.val [] ⟨rK l (bs.set i (.agg [c0,.int .i64 k,.int .i64 a,.int .i64 (fstI l u),.int .i64 s])) (t || !decide (fstI l u=u)),1,tch'⟩):=by
 have hix:=uX hu;obtain⟨n,rfl⟩:=zjg hu.1;have hn:n<l.length:=by omega
 have hix:(ints (FI l))[n]?=some (.int .i64 (fstI l n)):=hix;have hbi:i<bs.length:=(zqy.1 hb).1;unfold rK;refine⟨?_,?_⟩
 rotate_left 1
 . rw [Ch hN rfl]
   rw[A3 (c:=GI) (nt:=25) (rs:=[]) rfl (by simp)];unfold GI;cases t with
   | true =>
    simp -implicitDefEqProofs only[hb,hbi,hix,hn,c9 hbi,nc_ptr,XP,seval]
    all_goals rfl
   | false =>
    simp -implicitDefEqProofs only[hb,hbi,hix,hn,c9 hbi,nc_ptr,XP,seval]
    all_goals rfl
theorem uY{k a s:Int}(hN:T 60=none)(hb:bs[i]?=some (.agg [c0,.int .i64 k,.int .i64 a,.int .i64 s,.int .i64 u]))(hu:0<=u/\u<l.length):
 ∃tch',evP ⟨A0,T,A1⟩ (.call 60 [.ptr 0 i 4,.ptr 1 0 0,.ptr 2 0 0] ⟨rK l bs t,1,tch⟩)=some (.val [] ⟨rK l (bs.set i (.agg [c0,.int .i64 k,.int .i64 a,.int .i64 s,.int .i64 (fstI l u)])) (t || !decide (fstI l u=u)),1,tch'⟩):=by
 have hix:=uX hu;obtain⟨n,rfl⟩:=zjg hu.1;have hn:n<l.length:=by omega
 have hix:(ints (FI l))[n]?=some (.int .i64 (fstI l n)):=hix;have hbi:i<bs.length:=(zqy.1 hb).1;unfold rK;refine⟨?_,?_⟩
 rotate_left 1
 . rw [Ch hN rfl]
   rw[A3 (c:=GI) (nt:=25) (rs:=[]) rfl (by simp)];unfold GI;cases t with
   | true =>
    simp -implicitDefEqProofs only[hb,hbi,hix,hn,c9 hbi,nc_ptr,XP,seval]
    all_goals rfl
   | false =>
    simp -implicitDefEqProofs only[hb,hbi,hix,hn,c9 hbi,nc_ptr,XP,seval]
    all_goals rfl
def tTo(l:List Blk)(i:Nat):Bool:=!((l.take i).all fun b=>decide (Blk.R l b=b))
theorem uZ{l:List Blk}{i:Nat}(h:i<l.length):tTo l (i+1)=(tTo l i || !decide (Blk.R l l[i]=l[i])):=by
 unfold tTo;rw[zqu h,List.all_append];simp[Bool.not_and]
theorem yM(l:List Blk):tTo l l.length=!decide (rnd l=l):=by
 unfold tTo rnd;rw[zks]
 congr 1
 have key:∀m:List Blk,(m.all fun b=>decide (Blk.R l b=b))=decide (m.map (Blk.R l)=m):=fun m=>by
  induction m with
  |nil=>rfl
  |cons b m ih=>rw[List.all_cons,ih];simp
 exact key l
theorem LH{l:List Blk}{b:Blk}:decide (Blk.R l b=b)=decide (b.e.R l=b.e):=decide_eq_decide.2 (by cases b;simp[Blk.R])
theorem A0H(hN:T 60=none)(h:i<l.length)(hs:l.length<=bigN)(htg:∀b∈l,Ns l.length b.e)(tch:List Nat):
 ∃tch',evP ⟨A0,T,A1⟩ (.code Sb [(0,.msl 0 0 l.length 5),(2,.ptr 1 0 0),(4,.fn (.func 60) [] [.ptr 1 0 0,.ptr 2 0 0]),(11,.int .i64 (l.length:Int)),(12,.int .i64 (i:Int))] ⟨rK l ((rndTo l i).map Blk.O) (tTo l i),1,tch⟩)=some (.ok .normal [(0,.msl 0 0 l.length 5),(2,.ptr 1 0 0),(4,.fn (.func 60) [] [.ptr 1 0 0,.ptr 2 0 0]),(11,.int .i64 (l.length:Int)),(12,.int .i64 ((i+1:Nat):Int))] ⟨rK l ((rndTo l (i+1)).map Blk.O) (tTo l (i+1)),1,tch'⟩):=by
 have hlt:decide ((i:Int)<(l.length:Int))=true:=by simp[h]
 have hw:=B3 (i:=i) (by simp only[bigN]at hs;omega);have hg:((rndTo l i).map Blk.O)[i]?=some l[i].O:=by rw[zqm,qC h];rfl
 have hset:((rndTo l i).map Blk.O).set i (Blk.R l l[i]).O=(rndTo l (i+1)).map Blk.O:=by rw[<-List.map_set,qD h]
 have hb:=htg _ (zqf h);have hil:i<((rndTo l i).map Blk.O).length:=by rw[zqa,qB];exact h
 rw[uZ h,LH];generalize (rndTo l i).map Blk.O=bs at hg hset hil;generalize tTo l i=t;unfold Blk.R Endd.R at hset;unfold Endd.R;generalize l[i]=b at hg hset hb;obtain⟨code,k,a,to,els⟩:=b;simp only[Blk.O]at hg;unfold Sb;by_cases k2:k=2
 . have k1:¬k=1:=by omega
   simp only[if_neg k1,if_pos k2,Blk.O]at hset;obtain⟨tc1,h1⟩:=uY (T:=T) (l:=l) (t:=t) (tch:=tch.filter (· < 1)) hN hg (hb.2 k2);have hg2:=c9 (v:=AV.agg [ownd 0 8 (code.map Ins.O),.int .i64 k,.int .i64 a,.int .i64 to,.int .i64 (fstI l els)]) hil;obtain⟨tc2,h2⟩:=mO (T:=T) (l:=l) (t:=t || !decide (fstI l els=els)) (tch:=tc1.filter (· < 1)) hN hg2 (hb.1 (.inr k2));rw[zkc,hset]at h2;have ht:(t || !decide ((if k=1 then(⟨k,a,fstI l to,els⟩:Endd)else if k=2 then⟨k,a,fstI l to,fstI l els⟩else⟨k,a,to,els⟩)=⟨k,a,to,els⟩))=((t || !decide (fstI l els=els)) || !decide (fstI l to=to)):=by
    rw[if_neg k1,if_pos k2];by_cases q1:fstI l to=to<;>by_cases q2:fstI l els=els<;>simp[q1,q2]
   simp only at ht|-;rw[ht];refine⟨?_,?_⟩
   rotate_left 1
   . unfold rK at h1 h2|-
     simp -implicitDefEqProofs only[hlt,hw,h,hg,h1,h2,eq_false k1,eq_true k2,nc_ptr,XP,seval]
     all_goals rfl
 by_cases k1:k=1
 . simp only[if_pos k1,Blk.O]at hset
   obtain ⟨tc2,h2⟩:=mO (T:=T) (l:=l) (t:=t) (tch:=tch.filter (· < 1)) hN hg (hb.1 (.inl k1));rw[hset]at h2;have ht:(t || !decide ((if k=1 then(⟨k,a,fstI l to,els⟩:Endd)else if k=2 then⟨k,a,fstI l to,fstI l els⟩else⟨k,a,to,els⟩)=⟨k,a,to,els⟩))=(t || !decide (fstI l to=to)):=by
    rw[if_pos k1];by_cases q1:fstI l to=to<;>simp[q1]
   simp only at ht|-;rw[ht];refine⟨?_,?_⟩
   rotate_left 1
   . unfold rK at h2|-
     simp -implicitDefEqProofs only[hlt,hw,h,hg,h2,eq_true k1,eq_false k2,nc_ptr,XP,seval]
     all_goals rfl
 . simp only[if_neg k1,if_neg k2,Blk.O]at hset
   have ht:(t || !decide ((if k=1 then(⟨k,a,fstI l to,els⟩:Endd)else if k=2 then⟨k,a,fstI l to,fstI l els⟩else⟨k,a,to,els⟩)=⟨k,a,to,els⟩))=t:=by
    rw[if_neg k1,if_neg k2];simp
   have hsame:bs=(rndTo l (i+1)).map Blk.O:=by rw[<-hset,uT hg]
   simp only at ht|-;rw[ht,<-hsame];refine⟨?_,?_⟩
   rotate_left 1
   . unfold rK
     simp -implicitDefEqProofs only[hlt,hw,h,hg,eq_false k1,eq_false k2,nc_ptr,XP,seval]
     all_goals rfl
end
section
variable {l:List Blk}{i k:Nat}{tch:List Nat}
theorem A0I{K:PK}{f:AV}:∃fr',evP ⟨A0,T,A1⟩ (.code Sb [(0,.msl 0 0 l.length 5),(2,.ptr 1 0 0),(4,f),(11,.int .i64 (l.length:Int)),(12,.int .i64 (l.length:Int))] K)=some (.ok (.exit 0) fr' K)/\lookP fr' 2=.ptr 1 0 0:=by
 unfold Sb;have hlt:decide ((l.length:Int)<(l.length:Int))=false:=by simp
 simp -implicitDefEqProofs only[hlt,XP,seval];exact⟨_,rfl,rfl⟩
theorem LI(hN:T 60=none)(hs:l.length<=bigN)(htg:∀b∈l,Ns l.length b.e):∀(n i:Nat)(tch:List Nat),l.length=i+n ->
 ∃fr' tch',evP ⟨A0,T,A1⟩ (.code (.loop Sb) [(0,.msl 0 0 l.length 5),(2,.ptr 1 0 0),(4,.fn (.func 60) [] [.ptr 1 0 0,.ptr 2 0 0]),(11,.int .i64 (l.length:Int)),(12,.int .i64 (i:Int))] ⟨rK l ((rndTo l i).map Blk.O) (tTo l i),1,tch⟩)=some (.ok (.exit 0) fr' ⟨rK l ((rnd l).map Blk.O) (!decide (rnd l=l)),1,tch'⟩)/\lookP fr' 2=.ptr 1 0 0
 | 0,i,tch,e=>by
  obtain rfl:i=l.length:=by omega
  rw[qA,yM];obtain⟨fr',h1,h2⟩:=A0I (T:=T) (l:=l) (K:=⟨rK l ((rnd l).map Blk.O) (!decide (rnd l=l)),1,tch⟩);exact⟨fr',tch,C7 h1,h2⟩
 | n+1,i,tch,e=>by
  obtain⟨tch1,h1⟩:=A0H hN (show i<l.length by omega) hs htg tch;obtain⟨fr',tch',h2,h3⟩:=LI hN hs htg n (i+1) tch1 (by omega);exact⟨fr',tch',(loop_more h1).trans h2,h3⟩
theorem jX(hN:T 60=none)(hF:T 59=some H2)(hok:k8 l):
 ∃tch',evP ⟨A0,T,A1⟩ (.body 46 [.msl 0 0 l.length 5] ⟨[.row 0 (l.map Blk.O) 5],1,[]⟩)=some (.val [.bool (!decide (rnd l=l))] ⟨[.row 0 ((rnd l).map Blk.O) 5,.row 1 [.bool (!decide (rnd l=l))] 1],1,tch'⟩):=by
 have tf:∀K:PK,K.os[0]?=some (.row 0 (l.map Blk.O) 5)->evP ⟨A0,T,A1⟩ (.call 59 [.msl 0 0 l.length 5] K)=some (.val (openTs K.os.length [ownd 0 1 (ints (FI l))]).1 ⟨K.os++(openTs K.os.length [ownd 0 1 (ints (FI l))]).2,K.ext,K.tch⟩):=fun K hK=>Tq hF (by have:=qE hK;simp -implicitDefEqProofs only[this,XP,seval]) ⟨hok.2.1,hok.1⟩
 obtain⟨fr',tch1,h1,h2⟩:=LI (T:=T) hN hok.len hok.2.2 l.length 0 [] (by omega);have h1:evP ⟨A0,T,A1⟩ (.code (.loop Sb) [(0,.msl 0 0 l.length 5),(2,.ptr 1 0 0),(4,.fn (.func 60) [] [.ptr 1 0 0,.ptr 2 0 0]),(11,.int .i64 (l.length:Int)),(12,.int .i64 0)] ⟨rK l (l.map Blk.O) false,1,[]⟩)=_:=h1;unfold rK at h1;refine⟨?_,?_⟩
 rotate_left 1
 . rw[A3 (c:=OI) (nt:=39) (rs:=[.cell 2 4]) rfl (by simp)];unfold OI
   simp -implicitDefEqProofs only[tf,h1,h2,EN,zqa,XP,seval]
   all_goals rfl
end
section
variable {bs es tl R:List AV}{i k:Nat}{x:Ins}{c1 c2:AV}{n m:Int}
variable {e1 e2 e3 e4:AV}{nm:List UInt8}{ty ps:Int}{nr nb:Nat}
theorem Tt(hT:T 43=some F3){l:List Int}(h:l.length*8<=bigN){K:PK}:evP ⟨A0,T,A1⟩ (.call 43 [fslN (ints l)] K)=some (.val (openTs K.os.length [ownd 0 1 (ints l)]).1 ⟨K.os++(openTs K.os.length [ownd 0 1 (ints l)]).2,K.ext,K.tch⟩):=B5 hT (by simp -implicitDefEqProofs only[frzL_ints,XP,seval]) (l9 h) rfl
theorem jY{l:List Ins}(h:l.length*88<=bigN):m0 [fslN (l.map Ins.F)]=some [ownd 0 8 (l.map Ins.F)]:=B9 (a:=fun l:List Ins=>[fslN (l.map Ins.F)]) (fun x y e=>by simp only[List.cons.injEq,fslN_iff,insL_iff,and_true]at e;rw[e]) l h
theorem yN(hT:T 45=some m0){l:List Ins}(h:l.length*88<=bigN){K:PK}:evP ⟨A0,T,A1⟩ (.call 45 [fslN (l.map Ins.F)] K)=some (.val (openTs K.os.length [ownd 0 8 (l.map Ins.F)]).1 ⟨K.os++(openTs K.os.length [ownd 0 8 (l.map Ins.F)]).2,K.ext,K.tch⟩):=B5 hT (by simp -implicitDefEqProofs only[frzL_insF,XP,seval]) (jY h) rfl
theorem jZ{l:List Blk}(h:l.length*56<=bigN):Bs [fslN (l.map Blk.F)]=some [ownd 0 5 (l.map Blk.F)]:=B9 (a:=fun l:List Blk=>[fslN (l.map Blk.F)]) (fun x y e=>by simp only[List.cons.injEq,fslN_iff,blkL_iff,and_true]at e;rw[e]) l h
theorem yO(hT:T 44=some Bs){l:List Blk}(h:l.length*56<=bigN){K:PK}:evP ⟨A0,T,A1⟩ (.call 44 [fslN (l.map Blk.F)] K)=some (.val (openTs K.os.length [ownd 0 5 (l.map Blk.F)]).1 ⟨K.os++(openTs K.os.length [ownd 0 5 (l.map Blk.F)]).2,K.ext,K.tch⟩):=B5 hT (by simp -implicitDefEqProofs only[frzL_blkF,XP,seval]) (jZ h) rfl
theorem A0J(hT:T 43=some F3)(hb:bs[i]?=some (.agg [ownd 0 8 es,e1,e2,e3,e4]))(he:es[k]?=some x.F)(hx:x.ok)(hs:es.length<=bigN):
 evP ⟨A0,T,A1⟩ (.code Ry [(1,.ptr 0 0 0),(2,.ptr 1 0 0),(4,.ptr 2 i 0),(16,.int .i64 n),(17,.int .i64 m),(36,.int .i64 (es.length:Int)),(37,.int .i64 (k:Int))] ⟨[(PO.row 1 [AV.agg [.str nm,.int .i64 ty,.int .i64 ps,.msl 3 0 nr 1,.msl 2 0 nb 5]] 5),.row 1 [(AV.agg [.str [],.int .i64 0,.int .i64 0,.nilsl,.nilsl])] 5,.row 0 bs 5,.row 0 R 1],0,[]⟩)=some (.ok .normal [(1,.ptr 0 0 0),(2,.ptr 1 0 0),(4,.ptr 2 i 0),(16,.int .i64 n),(17,.int .i64 m),(36,.int .i64 (es.length:Int)),(37,.int .i64 ((k+1:Nat):Int))] ⟨[(PO.row 1 [AV.agg [.str nm,.int .i64 ty,.int .i64 ps,.msl 3 0 nr 1,.msl 2 0 nb 5]] 5),.row 1 [(AV.agg [.str [],.int .i64 0,.int .i64 0,.nilsl,.nilsl])] 5,.row 0 (bs.set i (.agg [ownd 0 8 (es.set k x.O),e1,e2,e3,e4])) 5,.row 0 R 1],0,[]⟩):=by
 have hi:i<bs.length:=(zqy.1 hb).1;have hk:k<es.length:=(zqy.1 he).1;have hlt:decide ((k:Int)<(es.length:Int))=true:=by simp[hk]
 have hw:=B3 (i:=k) (by simp only[bigN]at hs;omega);have tc:=fun K=>Tt (K:=K) hT hx
 have g1:=fun v=>c9 (v:=v) hi
 have g2:=fun v=>c9 (v:=v) hk
 simp only[Ins.F]at he;simp only[Ins.O];unfold Ry sN AO;simp -implicitDefEqProofs only[hb,he,hi,hk,hlt,hw,tc,g1,g2,nc_ptr,zkc,zkt,zqa,XP,seval]
end
def mix{X:Type}(F O:X->AV)(l:List X)(k:Nat):List AV:=(l.take k).map O++(l.drop k).map F
section
variable {X:Type}{F O:X->AV}{L:List X}{k:Nat}
theorem BZ:mix F O L 0=L.map F:=rfl
theorem mP:mix F O L L.length=L.map O:=by unfold mix;simp
theorem bL:(mix F O L k).length=L.length:=by unfold mix;simp;omega
theorem mQ(h:k<L.length):(mix F O L k)[k]?=some (F L[k]):=by
 unfold mix;have e:((L.take k).map O).length=k:=by simp;omega
 rw[zki (by omega),zqm,zkj,e,zkv,zja,zql h];rfl
theorem mR(h:k<L.length):(mix F O L k).set k (O L[k])=mix F O L (k+1):=by
 unfold mix;have e:((L.take k).map O).length=k:=by simp;omega
 rw[zkk _ _ (by omega),e,zkv,zqu h,zqs,zqz h,zqg,zkp];simp
end
section
variable {bs es tl R:List AV}{i k:Nat}{x:Ins}{b:Blk}{l:List Blk}{n m:Int}{e1 e2 e3 e4:AV}{nm:List UInt8}{ty ps:Int}{nr nb:Nat}
theorem A0K(hb:bs[i]?=some (.agg [ownd 0 8 es,e1,e2,e3,e4])):∃fr',evP ⟨A0,T,A1⟩ (.code Ry [(1,.ptr 0 0 0),(2,.ptr 1 0 0),(4,.ptr 2 i 0),(16,.int .i64 n),(17,.int .i64 m),(36,.int .i64 (k:Int)),(37,.int .i64 (k:Int))] ⟨[(PO.row 1 [AV.agg [.str nm,.int .i64 ty,.int .i64 ps,.msl 3 0 nr 1,.msl 2 0 nb 5]] 5),.row 1 [(AV.agg [.str [],.int .i64 0,.int .i64 0,.nilsl,.nilsl])] 5,.row 0 bs 5,.row 0 R 1],0,[]⟩)=some (.ok (.exit 2) fr' ⟨[(PO.row 1 [AV.agg [.str nm,.int .i64 ty,.int .i64 ps,.msl 3 0 nr 1,.msl 2 0 nb 5]] 5),.row 1 [(AV.agg [.str [],.int .i64 0,.int .i64 0,.nilsl,.nilsl])] 5,.row 0 bs 5,.row 0 R 1],0,[]⟩)/\lookP fr' 1=.ptr 0 0 0/\lookP fr' 2=.ptr 1 0 0/\lookP fr' 16=.int .i64 n/\lookP fr' 17=.int .i64 m:=by
 unfold Ry sN;have hlt:decide ((k:Int)<(k:Int))=false:=by simp
 simp -implicitDefEqProofs only[hlt,XP,seval];exact⟨_,rfl,rfl,rfl,rfl,rfl⟩
theorem LJ(hT:T 43=some F3)(hb:b.ok)(hi:i<bs.length):∀(q k:Nat),b.code.length=k+q ->
 ∃ fr',evP ⟨A0,T,A1⟩ (.code (.loop Ry) [(1,.ptr 0 0 0),(2,.ptr 1 0 0),(4,.ptr 2 i 0),(16,.int .i64 n),(17,.int .i64 m),(36,.int .i64 (b.code.length:Int)),(37,.int .i64 (k:Int))] ⟨[(PO.row 1 [AV.agg [.str nm,.int .i64 ty,.int .i64 ps,.msl 3 0 nr 1,.msl 2 0 nb 5]] 5),.row 1 [(AV.agg [.str [],.int .i64 0,.int .i64 0,.nilsl,.nilsl])] 5,.row 0 (bs.set i (.agg [ownd 0 8 (mix Ins.F Ins.O b.code k),e1,e2,e3,e4])) 5,.row 0 R 1],0,[]⟩) =
   some (.ok (.exit 2) fr' ⟨[(PO.row 1 [AV.agg [.str nm,.int .i64 ty,.int .i64 ps,.msl 3 0 nr 1,.msl 2 0 nb 5]] 5),.row 1 [(AV.agg [.str [],.int .i64 0,.int .i64 0,.nilsl,.nilsl])] 5,.row 0 (bs.set i (.agg [ownd 0 8 (b.code.map Ins.O),e1,e2,e3,e4])) 5,.row 0 R 1],0,[]⟩)/\lookP fr' 1=.ptr 0 0 0/\lookP fr' 2=.ptr 1 0 0/\lookP fr' 16=.int .i64 n/\lookP fr' 17=.int .i64 m
 | 0,k,e=>by
  obtain rfl:k=b.code.length:=by omega
  rw[mP];obtain⟨fr',h1,h2⟩:=A0K (T:=T) (R:=R) (i:=i) (k:=b.code.length) (n:=n) (m:=m) (nm:=nm) (ty:=ty) (ps:=ps) (nr:=nr) (nb:=nb) (c9 (v:=AV.agg [ownd 0 8 (b.code.map Ins.O),e1,e2,e3,e4]) hi);exact⟨fr',C7 h1,h2⟩
 | q+1,k,e=>by
  have hk:k<b.code.length:=by omega
  have h1:=A0J (T:=T) (R:=R) (i:=i) (k:=k) (n:=n) (m:=m) (nm:=nm) (ty:=ty) (ps:=ps) (nr:=nr) (nb:=nb) hT (c9 (v:=AV.agg [ownd 0 8 (mix Ins.F Ins.O b.code k),e1,e2,e3,e4]) hi) (mQ hk) (hb.1 _ (zqf hk)) (by rw[bL];have:=hb.2;simp only[bigN]at this|-;omega);rw[bL,mR hk,zkc]at h1;rw[loop_more h1];exact LJ hT hb hi q (k+1) (by omega)
theorem A0L(hT:T 43=some F3)(hC:T 45=some m0)(h:i<l.length)(hs:l.length<=bigN)(hb:l[i].ok):
 evP ⟨A0,T,A1⟩ (.code Rz [(1,.ptr 0 0 0),(2,.ptr 1 0 0),(16,.int .i64 (l.length:Int)),(17,.int .i64 (i:Int))] ⟨[PO.row 1 [AV.agg [.str nm,.int .i64 ty,.int .i64 ps,.msl 2 0 nr 1,.msl 3 0 l.length 5]] 5,.row 1 [(AV.agg [.str [],.int .i64 0,.int .i64 0,.nilsl,.nilsl])] 5,.row 0 R 1,.row 0 (mix Blk.F Blk.O l i) 5],0,[]⟩)=some (.ok .normal [(1,.ptr 0 0 0),(2,.ptr 1 0 0),(16,.int .i64 (l.length:Int)),(17,.int .i64 ((i+1:Nat):Int))] ⟨[PO.row 1 [AV.agg [.str nm,.int .i64 ty,.int .i64 ps,.msl 2 0 nr 1,.msl 3 0 l.length 5]] 5,.row 1 [(AV.agg [.str [],.int .i64 0,.int .i64 0,.nilsl,.nilsl])] 5,.row 0 R 1,.row 0 (mix Blk.F Blk.O l (i+1)) 5],0,[]⟩):=by
 have hlt:decide ((i:Int)<(l.length:Int))=true:=by simp[h]
 have hw:=B3 (i:=i) (by simp only[bigN]at hs;omega);have hg:=mQ (F:=Blk.F) (O:=Blk.O) h;have hset:=mR (F:=Blk.F) (O:=Blk.O) h;have hil:i<(mix Blk.F Blk.O l i).length:=by rw[bL];exact h
 generalize mix Blk.F Blk.O l i=bs at hg hset hil;rw[<-hset];generalize l[i]=b at hg hb;have tc:=fun K=>yN (K:=K) hC hb.2
 obtain⟨fr',h1,h2,h3,h4,h5⟩:=LJ (T:=T) (R:=R) (b:=b) (bs:=bs) (i:=i) (n:=(l.length:Int)) (m:=(i:Int)) (nm:=nm) (ty:=ty) (ps:=ps) (nr:=nr) (nb:=l.length) (e1:=.int .i64 b.e.kind) (e2:=.int .i64 b.e.a) (e3:=.int .i64 b.e.to) (e4:=.int .i64 b.e.els) hT hb hil b.code.length 0 (by omega);rw[BZ]at h1;have h1:evP ⟨A0,T,A1⟩ (.code (.loop Ry) [(1,.ptr 0 0 0),(2,.ptr 1 0 0),(4,.ptr 2 i 0),(16,.int .i64 (l.length:Int)),(17,.int .i64 (i:Int)),(36,.int .i64 (b.code.length:Int)),(37,.int .i64 0)] _)=_:=h1;have g1:=fun v=>c9 (v:=v) hil
 simp only[Blk.F]at hg;simp only[Blk.O];unfold Rz sO AT AS AR AQ AP;simp -implicitDefEqProofs only[hlt,hw,h,hg,hil,tc,h1,h2,h3,h4,h5,g1,nc_ptr,zkc,zkt,zqa,XP,seval]
end
section
variable {bs es tl R:List AV}{i k:Nat}{l:List Blk}{c:Cod}{nm:List UInt8}{ty ps:Int}{nr nb:Nat}{tch:List Nat}
theorem A0M:∃fr',evP ⟨A0,T,A1⟩ (.code Rz [(1,.ptr 0 0 0),(2,.ptr 1 0 0),(16,.int .i64 (l.length:Int)),(17,.int .i64 (l.length:Int))] ⟨[(PO.row 1 [AV.agg [.str nm,.int .i64 ty,.int .i64 ps,.msl 2 0 nr 1,.msl 3 0 l.length 5]] 5),.row 1 [(AV.agg [.str [],.int .i64 0,.int .i64 0,.nilsl,.nilsl])] 5,.row 0 R 1,.row 0 bs 5],0,[]⟩)=some (.ok (.exit 0) fr' ⟨[(PO.row 1 [AV.agg [.str nm,.int .i64 ty,.int .i64 ps,.msl 2 0 nr 1,.msl 3 0 l.length 5]] 5),.row 1 [(AV.agg [.str [],.int .i64 0,.int .i64 0,.nilsl,.nilsl])] 5,.row 0 R 1,.row 0 bs 5],0,[]⟩)/\lookP fr' 1=.ptr 0 0 0/\lookP fr' 2=.ptr 1 0 0:=by
 unfold Rz sO;have hlt:decide ((l.length:Int)<(l.length:Int))=false:=by simp
 simp -implicitDefEqProofs only[hlt,XP,seval];exact⟨_,rfl,rfl,rfl⟩
theorem A0N(hT:T 43=some F3)(hC:T 45=some m0)(hs:l.length<=bigN)(hok:∀b∈l,b.ok):∃fr',evP ⟨A0,T,A1⟩ (.code (.loop Rz) [(1,.ptr 0 0 0),(2,.ptr 1 0 0),(16,.int .i64 (l.length:Int)),(17,.int .i64 0)] ⟨[(PO.row 1 [AV.agg [.str nm,.int .i64 ty,.int .i64 ps,.msl 2 0 nr 1,.msl 3 0 l.length 5]] 5),.row 1 [(AV.agg [.str [],.int .i64 0,.int .i64 0,.nilsl,.nilsl])] 5,.row 0 R 1,.row 0 (l.map Blk.F) 5],0,[]⟩)=some (.ok (.exit 0) fr' ⟨[(PO.row 1 [AV.agg [.str nm,.int .i64 ty,.int .i64 ps,.msl 2 0 nr 1,.msl 3 0 l.length 5]] 5),.row 1 [(AV.agg [.str [],.int .i64 0,.int .i64 0,.nilsl,.nilsl])] 5,.row 0 R 1,.row 0 (l.map Blk.O) 5],0,[]⟩)/\lookP fr' 1=.ptr 0 0 0/\lookP fr' 2=.ptr 1 0 0:=by
 have hl:=Cd (P:=⟨A0,T,A1⟩) (c:=Rz) (fun i=>([(1,.ptr 0 0 0),(2,.ptr 1 0 0),(16,.int .i64 (l.length:Int)),(17,.int .i64 (i:Int))],⟨[(PO.row 1 [AV.agg [.str nm,.int .i64 ty,.int .i64 ps,.msl 2 0 nr 1,.msl 3 0 l.length 5]] 5),.row 1 [(AV.agg [.str [],.int .i64 0,.int .i64 0,.nilsl,.nilsl])] 5,.row 0 R 1,.row 0 (mix Blk.F Blk.O l i) 5],0,[]⟩)) l.length (fun i h=>A0L hT hC h hs (hok _ (zqf h)));simp only[BZ,mP]at hl;obtain⟨fr',h1,h2,h3⟩:=A0M (T:=T) (R:=R) (bs:=l.map Blk.O) (l:=l) (nm:=nm) (ty:=ty) (ps:=ps) (nr:=nr);exact⟨fr',hl.trans (C7 h1),h2,h3⟩
theorem Tu(hN:T 46=none)(hN1:T 60=none)(hF:T 59=some H2)(hok:k8 l):∃tch2,evP ⟨A0,T,A1⟩ (.call 46 [.msl 3 0 l.length 5] ⟨[(PO.row 1 [AV.agg [.str nm,.int .i64 ty,.int .i64 ps,.msl 2 0 nr 1,.msl 3 0 l.length 5]] 5),.row 1 [(AV.agg [.str [],.int .i64 0,.int .i64 0,.nilsl,.nilsl])] 5,.row 0 R 1,.row 0 (l.map Blk.O) 5],0,tch⟩)=some (.val [.bool (!decide (rnd l=l))] ⟨[(PO.row 1 [AV.agg [.str nm,.int .i64 ty,.int .i64 ps,.msl 2 0 nr 1,.msl 3 0 l.length 5]] 5),.row 1 [(AV.agg [.str [],.int .i64 0,.int .i64 0,.nilsl,.nilsl])] 5,.row 0 R 1,.row 0 ((rnd l).map Blk.O) 5,.row 1 [.bool (!decide (rnd l=l))] 1],0,tch2⟩):=by
 obtain⟨t',hb⟩:=jX (T:=T) hN1 hF hok;exact⟨_,Vi (ids:=[3]) hN rfl rfl rfl rfl hb rfl rfl⟩
theorem A0O(hN:T 46=none)(hN1:T 60=none)(hF:T 59=some H2)(hok:k8 l)(hn:¬rnd l=l):
 evP ⟨A0,T,A1⟩ (.code Xp [(1,.ptr 0 0 0),(2,.ptr 1 0 0)] ⟨[(PO.row 1 [AV.agg [.str nm,.int .i64 ty,.int .i64 ps,.msl 2 0 nr 1,.msl 3 0 l.length 5]] 5),.row 1 [(AV.agg [.str [],.int .i64 0,.int .i64 0,.nilsl,.nilsl])] 5,.row 0 R 1,.row 0 (l.map Blk.O) 5],0,[]⟩)=some (.ok .normal [(1,.ptr 0 0 0),(2,.ptr 1 0 0)] ⟨[(PO.row 1 [AV.agg [.str nm,.int .i64 ty,.int .i64 ps,.msl 2 0 nr 1,.msl 3 0 l.length 5]] 5),.row 1 [(AV.agg [.str [],.int .i64 0,.int .i64 0,.nilsl,.nilsl])] 5,.row 0 R 1,.row 0 ((rnd l).map Blk.O) 5],0,[]⟩):=by
 obtain⟨t2,h⟩:=Tu (T:=T) (R:=R) (nm:=nm) (ty:=ty) (ps:=ps) (nr:=nr) (tch:=[]) hN hN1 hF hok;rw[C5 hn]at h;unfold Xp sQ sP;simp -implicitDefEqProofs only[h,XP,seval]
theorem A0P(hN:T 46=none)(hN1:T 60=none)(hF:T 59=some H2)(hok:k8 l)(hn:rnd l=l):
 ∃fr' K',evP ⟨A0,T,A1⟩ (.code Xp [(1,.ptr 0 0 0),(2,.ptr 1 0 0)] ⟨[(PO.row 1 [AV.agg [.str nm,.int .i64 ty,.int .i64 ps,.msl 2 0 nr 1,.msl 3 0 l.length 5]] 5),.row 1 [(AV.agg [.str [],.int .i64 0,.int .i64 0,.nilsl,.nilsl])] 5,.row 0 R 1,.row 0 (l.map Blk.O) 5],0,[]⟩)=some (.ok (.exit 4) fr' K')/\lookP fr' 1=.ptr 0 0 0/\lookP fr' 2=.ptr 1 0 0/\∃t,K'=⟨[(PO.row 1 [AV.agg [.str nm,.int .i64 ty,.int .i64 ps,.msl 2 0 nr 1,.msl 3 0 l.length 5]] 5),.row 1 [(AV.agg [.str [],.int .i64 0,.int .i64 0,.nilsl,.nilsl])] 5,.row 0 R 1,.row 0 (l.map Blk.O) 5,.row 1 [.bool false] 1],0,t⟩:=by
 obtain⟨t2,h⟩:=Tu (T:=T) (R:=R) (nm:=nm) (ty:=ty) (ps:=ps) (nr:=nr) (tch:=[]) hN hN1 hF hok;rw[B0 hn,hn]at h;unfold Xp sP;simp -implicitDefEqProofs only[h,XP,seval];exact⟨_,_,rfl,rfl,rfl,_,rfl⟩
theorem A0Q(hN:T 46=none)(hN1:T 60=none)(hF:T 59=some H2):∀(n:Nat)(l:List Blk),mL l=n->k8 l ->
 ∃fr' t,evP ⟨A0,T,A1⟩ (.code (.loop Xp) [(1,.ptr 0 0 0),(2,.ptr 1 0 0)] ⟨[(PO.row 1 [AV.agg [.str nm,.int .i64 ty,.int .i64 ps,.msl 2 0 nr 1,.msl 3 0 l.length 5]] 5),.row 1 [(AV.agg [.str [],.int .i64 0,.int .i64 0,.nilsl,.nilsl])] 5,.row 0 R 1,.row 0 (l.map Blk.O) 5],0,[]⟩)=some (.ok (.exit 4) fr' ⟨[(PO.row 1 [AV.agg [.str nm,.int .i64 ty,.int .i64 ps,.msl 2 0 nr 1,.msl 3 0 l.length 5]] 5),.row 1 [(AV.agg [.str [],.int .i64 0,.int .i64 0,.nilsl,.nilsl])] 5,.row 0 R 1,.row 0 ((twin l).map Blk.O) 5,.row 1 [.bool false] 1],0,t⟩)/\lookP fr' 1=.ptr 0 0 0/\lookP fr' 2=.ptr 1 0 0:=by
 intro n
 induction n using zkx with
 | ind n ih =>
  intro l hn hok;by_cases q:rnd l=l
  . obtain⟨fr',K',h1,h2,h3,t,rfl⟩:=A0P (T:=T) (R:=R) (nm:=nm) (ty:=ty) (ps:=ps) (nr:=nr) hN hN1 hF hok q
    rw[s5 q];exact⟨fr',t,C7 h1,h2,h3⟩
  . obtain⟨fr',t,h1,h2,h3⟩:=ih _ (hn▸Lw q) (rnd l) rfl hok.rnd
    rw[Jq]at h1;rw[Bz q];exact⟨fr',t,(loop_more (A0O hN hN1 hF hok q)).trans h1,h2,h3⟩
theorem Ou(hCloneInts:T 43=some F3)(hCloneBlocks:T 44=some Bs)(hCloneInstrs:T 45=some m0)(ntwin_round:T 46=none)(ntwin_round_1:T 60=none)(htwin_firsts:T 59=some H2){c:Cod}(hk:c.tok):AM.Comes ⟨A0,T,A1⟩ 25 [c.F] [(twinC c).O]:=by
 have tc1:=fun K=>Tt (K:=K) hCloneInts hk.1
 have tc2:=fun K=>yO (K:=K) hCloneBlocks hk.2.2.1
 obtain⟨fr1,h1,h2,h3⟩:=A0N (T:=T) (R:=ints c.regs) (l:=c.blocks) (nm:=c.name) (ty:=c.ty) (ps:=c.ps) (nr:=c.regs.length) hCloneInts hCloneInstrs hk.2.len hk.2.1;obtain⟨fr2,t,h4,h5,h6⟩:=A0Q (T:=T) (R:=ints c.regs) (nm:=c.name) (ty:=c.ty) (ps:=c.ps) (nr:=c.regs.length) ntwin_round ntwin_round_1 htwin_firsts _ c.blocks rfl hk.2;refine⟨[.agg (c.cs (.msl 1 0 c.regs.length 1) (.msl 2 0 c.blocks.length 5))],⟨[.row 1 [.agg (c.cs (.msl 1 0 c.regs.length 1) (.msl 2 0 c.blocks.length 5))] 5,.row 0 (ints c.regs) 1,.row 0 ((twin c.blocks).map Blk.O) 5],0,[]⟩,?_,?_⟩
 . rw[A3 (c:=NV) (nt:=62) (rs:=[.cell 2 49]) rfl (by simp)];unfold NV
   unfold K0;simp only[Cod.F];unfold sT sS sR AU;simp -implicitDefEqProofs only[tc1,tc2,h1,h2,h3,h4,h5,h6,Cod.cs,zqa,XP,seval]
 . refine back_of (vs':=[.agg (c.cs (.msl 1 0 c.regs.length 1) (.msl 2 0 c.blocks.length 5))]) (os':=[.row 1 [.agg (c.cs (.msl 1 0 c.regs.length 1) (.msl 2 0 c.blocks.length 5))] 5,.row 0 (ints c.regs) 1,.row 0 ((twin c.blocks).map Blk.O) 5]) ?_ ?_ (us:=[.agg (c.cs (.msl 0 0 c.regs.length 1) (.msl 1 0 c.blocks.length 5))]) (ps:=[.row 0 (ints c.regs) 1,.row 0 ((twin c.blocks).map Blk.O) 5]) ?_ ?_ ?_
   all_goals simp -implicitDefEqProofs only[Cod.cs,Cod.O,twinC,zqa,Tp,XP,seval]
def N4:=S7 (fun p:(Cod)=>[p.F]) (fun p=>[(twinC p).O]) (fun p=>p.tok)
theorem Js(htwin_Twin:T 25=some N4){c:Cod}{K:PK}{args:List AV}(hv:viewAs K.os args=some [c.F])(hk:c.tok):evP ⟨A0,T,A1⟩ (.call 25 args K)=some (.val (openTs K.os.length [(twinC c).O]).1 ⟨K.os++(openTs K.os.length [(twinC c).O]).2,K.ext,K.tch⟩):=B5 htwin_Twin hv (B9 (a:=fun p:(Cod)=>[p.F]) (r:=fun p=>[(twinC p).O]) (fun x y e=>by simp only[VJ]at e;simp only[e]) (c) hk) (by generalize (refsL args).isEmpty=z;simp -implicitDefEqProofs only[VN,XP,seval])
theorem bM(hCloneInts:T 43=some F3)(hCloneBlocks:T 44=some Bs)(hCloneInstrs:T 45=some m0)(ntwin_round:T 46=none)(ntwin_round_1:T 60=none)(htwin_firsts:T 59=some H2)(hP:PEok ⟨A0,T,A1⟩):TC A0 25 N4:=C0 hP fun p h=>Ou hCloneInts hCloneBlocks hCloneInstrs ntwin_round ntwin_round_1 htwin_firsts h
end
section
variable {es:List Endd}{e:Endd}{i:Nat}
theorem vA{l m:List Endd}:l.map Endd.F=m.map Endd.F↔l=m:=⟨map_inj fun _ _=>Endd.F_inj,fun h=>h▸rfl⟩
theorem Lx  {a:Int} {b:Int}:AM.Comes ⟨A0,T,A1⟩ 27 [.int .i64 a,.int .i64 b] [.agg [.int .i64 2,.int .i64 1,.int .i64 a,.int .i64 b]]:=by
 refine⟨[.agg [.int .i64 2,.int .i64 1,.int .i64 a,.int .i64 b]],⟨[.row 1 [.agg [.int .i64 2,.int .i64 1,.int .i64 a,.int .i64 b]] 4],0,[]⟩,?_,back_of rfl zqq rfl rfl rfl⟩;rw[A3 (c:=NX) (nt:=8) (rs:=[.cell 4 52]) rfl (by simp)];unfold NX;unfold K0;simp -implicitDefEqProofs only[XP,seval]
def i6:=S7 (fun p:(Int)×(Int)=>[.int .i64 p.1,.int .i64 p.2]) (fun p=>[.agg [.int .i64 2,.int .i64 1,.int .i64 p.1,.int .i64 p.2]]) (fun p=>True)
theorem fI(hlaw19_fork:T 27=some i6){a:Int}{b:Int}{K:PK}:evP ⟨A0,T,A1⟩ (.call 27 [.int .i64 a,.int .i64 b] K)=some (.val (openTs K.os.length [.agg [.int .i64 2,.int .i64 1,.int .i64 a,.int .i64 b]]).1 ⟨K.os++(openTs K.os.length [.agg [.int .i64 2,.int .i64 1,.int .i64 a,.int .i64 b]]).2,K.ext,K.tch⟩):=B5 hlaw19_fork (by simp -implicitDefEqProofs only[VV,XP,seval]) (B9 (a:=fun p:(Int)×(Int)=>[.int .i64 p.1,.int .i64 p.2]) (r:=fun p=>[.agg [.int .i64 2,.int .i64 1,.int .i64 p.1,.int .i64 p.2]]) (fun x y e=>by simp only[VJ]at e;simp only[e]) (a,b) trivial) (by simp -implicitDefEqProofs only[VN,XP,seval])
theorem Wg  (hP:PEok ⟨A0,T,A1⟩):TC A0 27 i6:=C0 hP fun p h=>Lx
theorem Ly  {a:Int}:AM.Comes ⟨A0,T,A1⟩ 28 [.int .i64 a] [.agg [.int .i64 1,.int .i64 0,.int .i64 a,.int .i64 0]]:=by
 refine⟨[.agg [.int .i64 1,.int .i64 0,.int .i64 a,.int .i64 0]],⟨[.row 1 [.agg [.int .i64 1,.int .i64 0,.int .i64 a,.int .i64 0]] 4],0,[]⟩,?_,back_of rfl zqq rfl rfl rfl⟩;rw[A3 (c:=NY) (nt:=5) (rs:=[.cell 2 52]) rfl (by simp)];unfold NY;unfold K0;simp -implicitDefEqProofs only[XP,seval]
def i7:=S7 (fun p:(Int)=>[.int .i64 p]) (fun p=>[.agg [.int .i64 1,.int .i64 0,.int .i64 p,.int .i64 0]]) (fun p=>True)
theorem fJ(hlaw19_jump:T 28=some i7){a:Int}{K:PK}:evP ⟨A0,T,A1⟩ (.call 28 [.int .i64 a] K)=some (.val (openTs K.os.length [.agg [.int .i64 1,.int .i64 0,.int .i64 a,.int .i64 0]]).1 ⟨K.os++(openTs K.os.length [.agg [.int .i64 1,.int .i64 0,.int .i64 a,.int .i64 0]]).2,K.ext,K.tch⟩):=B5 hlaw19_jump (by simp -implicitDefEqProofs only[VV,XP,seval]) (B9 (a:=fun p:(Int)=>[.int .i64 p]) (r:=fun p=>[.agg [.int .i64 1,.int .i64 0,.int .i64 p,.int .i64 0]]) (fun x y e=>by simp only[VJ]at e;simp only[e]) (a) trivial) (by simp -implicitDefEqProofs only[VN,XP,seval])
theorem Wh  (hP:PEok ⟨A0,T,A1⟩):TC A0 28 i7:=C0 hP fun p h=>Ly
theorem Lz  :AM.Comes ⟨A0,T,A1⟩ 29 [] [.agg [.int .i64 3,.int .i64 1,.int .i64 0,.int .i64 0]]:=by
 refine⟨[.agg [.int .i64 3,.int .i64 1,.int .i64 0,.int .i64 0]],⟨[.row 1 [.agg [.int .i64 3,.int .i64 1,.int .i64 0,.int .i64 0]] 4],0,[]⟩,?_,back_of rfl zqq rfl rfl rfl⟩;rw[A3 (c:=NZ) (nt:=2) (rs:=[.cell 0 52]) rfl (by simp)];unfold NZ;unfold K0;simp -implicitDefEqProofs only[XP,seval]
def j1:=S7 (fun p:Unit=>[]) (fun p=>[.agg [.int .i64 3,.int .i64 1,.int .i64 0,.int .i64 0]]) (fun p=>True)
theorem fK(hlaw19_back:T 29=some j1)  {K:PK}:evP ⟨A0,T,A1⟩ (.call 29 [] K)=some (.val (openTs K.os.length [.agg [.int .i64 3,.int .i64 1,.int .i64 0,.int .i64 0]]).1 ⟨K.os++(openTs K.os.length [.agg [.int .i64 3,.int .i64 1,.int .i64 0,.int .i64 0]]).2,K.ext,K.tch⟩):=B5 hlaw19_back (by simp -implicitDefEqProofs only[VV,XP,seval]) (B9 (a:=fun p:Unit=>[]) (r:=fun p=>[.agg [.int .i64 3,.int .i64 1,.int .i64 0,.int .i64 0]]) (fun x y e=>by simp only[VJ]at e;simp only[e]) () trivial) (by simp -implicitDefEqProofs only[VN,XP,seval])
theorem Wi  (hP:PEok ⟨A0,T,A1⟩):TC A0 29 j1:=C0 hP fun p h=>Lz
def BN(e:Endd):AV:=.agg [.nilsl,.int .i64 e.kind,.int .i64 e.a,.int .i64 e.to,.int .i64 e.els]
def Jt(es:List Endd):AV:=.agg [.str B2,.int .i64 1,.int .i64 0,ownd 0 1 (ints [1,1]),ownd 0 5 (es.map BN)]
theorem A0R(h:0<es.length):evP ⟨A0,T,A1⟩ (.code Nj [(0,fslN (es.map Endd.F)),(2,.ptr 0 0 0),(3,.ptr 1 0 0),(4,.int .i64 0)] ⟨[.row 1 [(AV.agg [.str [],.int .i64 0,.int .i64 0,.nilsl,.nilsl])] 5,.row 1 [.agg [.str B2,.int .i64 1,.int .i64 0,.msl 2 0 2 1,.nilsl]] 5,.row 0 (ints [1,1]) 1],0,[]⟩)=some (.ok .normal [(0,fslN (es.map Endd.F)),(2,.ptr 0 0 0),(3,.ptr 1 0 0),(4,.int .i64 ((1:Nat):Int))] ⟨[.row 1 [(AV.agg [.str [],.int .i64 0,.int .i64 0,.nilsl,.nilsl])] 5,.row 1 [.agg [.str B2,.int .i64 1,.int .i64 0,.msl 2 0 2 1,.msl 3 0 1 5]] 5,.row 0 (ints [1,1]) 1,.row 0 ((es.take 1).map BN) 5],0,[]⟩):=by
 unfold Nj;have hlt:decide ((0:Int)<(es.length:Int))=true:=by simp[h]
 have hi:=ix_fslN (te:=Ds) (k:=.i64) (i:=0) (A8 (F:=Endd.F) h) rfl;have hi:Kq Ds (fslN (es.map Endd.F)) (.int .i64 0)=some (.fptr (Endd.F es[0]) 0):=hi;have hx:=map_take (F:=BN) h;rw[zka]at hx;have hx:[BN es[0]]=(es.take 1).map BN:=hx;rw[<-hx];simp only[Endd.F,BN]at hi|-;simp -implicitDefEqProofs only[hlt,hi,show IntKind.i64.wrap (0+1)=((1:Nat):Int)from rfl,zqa,XP,Nat.reduceAdd,Nat.reduceSub,Nat.reduceLT,Nat.reduceLeDiff,Nat.reduceEqDiff,Nat.reduceMul,↓reduceIte]
theorem A0S(h:i<es.length)(hs:es.length*56<=bigN):evP ⟨A0,T,A1⟩ (.code Nj [(0,fslN (es.map Endd.F)),(2,.ptr 0 0 0),(3,.ptr 1 0 0),(4,.int .i64 (i:Int))] ⟨[.row 1 [(AV.agg [.str [],.int .i64 0,.int .i64 0,.nilsl,.nilsl])] 5,.row 1 [.agg [.str B2,.int .i64 1,.int .i64 0,.msl 2 0 2 1,.msl 3 0 i 5]] 5,.row 0 (ints [1,1]) 1,.row 0 ((es.take i).map BN) 5],0,[]⟩)=some (.ok .normal [(0,fslN (es.map Endd.F)),(2,.ptr 0 0 0),(3,.ptr 1 0 0),(4,.int .i64 ((i+1:Nat):Int))] ⟨[.row 1 [(AV.agg [.str [],.int .i64 0,.int .i64 0,.nilsl,.nilsl])] 5,.row 1 [.agg [.str B2,.int .i64 1,.int .i64 0,.msl 2 0 2 1,.msl 3 0 (i+1) 5]] 5,.row 0 (ints [1,1]) 1,.row 0 ((es.take (i+1)).map BN) 5],0,[]⟩):=by
 unfold Nj;have hlt:decide ((i:Int)<(es.length:Int))=true:=by simp[h]
 have hw:=B3 (i:=i) (by simp only[bigN]at hs;omega);have hi:=A8 (F:=Endd.F) h;have hm:((es.take i).map BN).length=i:=by simp;omega
 have hz:(i+1)*56<=140737488355328:=by simp only[bigN]at hs;omega
 have hx:=map_take (F:=BN) h;rw[<-hx];simp only[Endd.F,BN]at hi|-;simp -implicitDefEqProofs only[hlt,hi,hm,hw,hz,zqa,XP,seval]
theorem A0T{K:PK}:∃fr',evP ⟨A0,T,A1⟩ (.code Nj [(0,fslN (es.map Endd.F)),(2,.ptr 0 0 0),(3,.ptr 1 0 0),(4,.int .i64 (es.length:Int))] K)=some (.ok (.exit 0) fr' K)/\lookP fr' 2=.ptr 0 0 0/\lookP fr' 3=.ptr 1 0 0:=by
 unfold Nj;have hlt:decide ((es.length:Int)<(es.length:Int))=false:=by simp
 simp -implicitDefEqProofs only[hlt,zqa,XP,seval];exact⟨_,rfl,rfl,rfl⟩
theorem LK(hs:es.length*56<=bigN):∀(n i:Nat),es.length=i+n->0<i->∃fr',evP ⟨A0,T,A1⟩ (.code (.loop Nj) [(0,fslN (es.map Endd.F)),(2,.ptr 0 0 0),(3,.ptr 1 0 0),(4,.int .i64 (i:Int))] ⟨[.row 1 [(AV.agg [.str [],.int .i64 0,.int .i64 0,.nilsl,.nilsl])] 5,.row 1 [.agg [.str B2,.int .i64 1,.int .i64 0,.msl 2 0 2 1,.msl 3 0 i 5]] 5,.row 0 (ints [1,1]) 1,.row 0 ((es.take i).map BN) 5],0,[]⟩)=some (.ok (.exit 0) fr' ⟨[.row 1 [(AV.agg [.str [],.int .i64 0,.int .i64 0,.nilsl,.nilsl])] 5,.row 1 [.agg [.str B2,.int .i64 1,.int .i64 0,.msl 2 0 2 1,.msl 3 0 es.length 5]] 5,.row 0 (ints [1,1]) 1,.row 0 (es.map BN) 5],0,[]⟩)/\lookP fr' 2=.ptr 0 0 0/\lookP fr' 3=.ptr 1 0 0
 | 0,i,e,h0=>by
  obtain rfl:i=es.length:=by omega
  rw[zks];obtain⟨fr',h1,h2⟩:=A0T (T:=T) (es:=es) (K:=⟨[.row 1 [(AV.agg [.str [],.int .i64 0,.int .i64 0,.nilsl,.nilsl])] 5,.row 1 [.agg [.str B2,.int .i64 1,.int .i64 0,.msl 2 0 2 1,.msl 3 0 es.length 5]] 5,.row 0 (ints [1,1]) 1,.row 0 (es.map BN) 5],0,[]⟩);exact⟨fr',C7 h1,h2⟩
 | n+1,i,e,h0=>by
  rw[loop_more (A0S (by omega) hs)];exact LK hs n (i+1) (by omega) (by omega)
theorem EO(e:Endd):noF (BN e)=true:=by unfold BN;rfl
theorem yP(l:List Endd):noFL (l.map BN)=true:=Al EO l
theorem vB:noF (Jt es)=true:=by unfold Jt;simp -implicitDefEqProofs only[yP,noFL_ints,XP,seval]
theorem yQ:((Jt es).cells.all fun c=>(ownOf c).isSome||clo c)=true:=rfl
theorem EP(e:Endd):frzC (BN e)=some (Blk.F ⟨[],e⟩):=by unfold BN Blk.F;rfl
theorem yR(l:List Endd):frzL (l.map BN)=some ((l.map fun e=>Blk.mk [] e).map Blk.F):=by
 rw[List.map_map];exact f7 EP l
theorem Ma  {es:List Endd} (hk:0<es.length/\es.length*56<=bigN):AM.Comes ⟨A0,T,A1⟩ 26 [fslN (es.map Endd.F)] [Jt es]:=by
 obtain⟨fr',h1,h2,h3⟩:=LK (T:=T) hk.2 (es.length-1) 1 (by omega) (by decide);have hl:=(loop_more (A0R (T:=T) hk.1)).trans h1;refine⟨[.agg [.str B2,.int .i64 1,.int .i64 0,.msl 1 0 2 1,.msl 2 0 es.length 5]],⟨[.row 1 [.agg [.str B2,.int .i64 1,.int .i64 0,.msl 1 0 2 1,.msl 2 0 es.length 5]] 5,.row 0 (ints [1,1]) 1,.row 0 (es.map BN) 5],0,[]⟩,?_,?_⟩
 . rw[A3 (c:=NW) (nt:=24) (rs:=[.cell 2 49]) rfl (by simp)];unfold NW
   unfold K0;simp only[B2,ints,zqg,zqh]at hl|-;simp -implicitDefEqProofs only[hl,h2,h3,XP,seval]
 . refine back_of (vs':=[.agg [.str B2,.int .i64 1,.int .i64 0,.msl 1 0 2 1,.msl 2 0 es.length 5]]) (os':=[.row 1 [.agg [.str B2,.int .i64 1,.int .i64 0,.msl 1 0 2 1,.msl 2 0 es.length 5]] 5,.row 0 (ints [1,1]) 1,.row 0 (es.map BN) 5]) ?_ ?_ (us:=[.agg [.str B2,.int .i64 1,.int .i64 0,.msl 0 0 2 1,.msl 1 0 es.length 5]]) (ps:=[.row 0 (ints [1,1]) 1,.row 0 (es.map BN) 5]) ?_ ?_ ?_
   all_goals simp -implicitDefEqProofs only[Jt,zqa,XP,seval]
def j2:=S7 (fun p:(List Endd)=>[fslN (p.map Endd.F)]) (fun p=>[Jt p]) (fun p=>0<p.length/\p.length*56<=bigN)
theorem Gk(hlaw19_code:T 26=some j2){es:List Endd}{K:PK}{args:List AV}(hv:viewAs K.os args=some [fslN (es.map Endd.F)])(hk:0<es.length/\es.length*56<=bigN):evP ⟨A0,T,A1⟩ (.call 26 args K)=some (.val (openTs K.os.length [Jt es]).1 ⟨K.os++(openTs K.os.length [Jt es]).2,K.ext,K.tch⟩):=B5 hlaw19_code hv (B9 (a:=fun p:(List Endd)=>[fslN (p.map Endd.F)]) (r:=fun p=>[Jt p]) (fun x y e=>by simp only[VJ,vA]at e;simp only[e]) (es) hk) (by generalize (refsL args).isEmpty=z;simp -implicitDefEqProofs only[VN,vB,yQ,XP,seval])
theorem Wj  (hP:PEok ⟨A0,T,A1⟩):TC A0 26 j2:=C0 hP fun p h=>Ma  h
end
section
variable {K:PK}{i j i' j':Nat}{c d:Cod}
theorem vC(h1:K.os[i]?=some (.row 0 (ints c.regs) 1))(h2:K.os[j]?=some (.row 0 (c.blocks.map Blk.O) 5)):viewA K.os (.agg [.str c.name,.int .i64 c.ty,.int .i64 c.ps,.msl i 0 c.regs.length 1,.msl j 0 c.blocks.length 5])=some c.F:=by
 have e1:(ints c.regs).take c.regs.length=ints c.regs:=zqi (by simp);have e2:(c.blocks.map Blk.O).take c.blocks.length=c.blocks.map Blk.O:=zqi (by simp);unfold Cod.F;simp -implicitDefEqProofs only[h1,h2,e1,e2,frzL_ints,Ew,zqa,XP,seval]
theorem Yb{es:List Endd}(h1:K.os[i]?=some (.row 0 (ints [1,1]) 1))(h2:K.os[j]?=some (.row 0 (es.map BN) 5)):viewA K.os (.agg [.str B2,.int .i64 1,.int .i64 0,.msl i 0 2 1,.msl j 0 es.length 5])=some (Cod.F ⟨B2,1,0,[1,1],es.map fun e=>⟨[],e⟩⟩):=by
 have e2:(es.map BN).take es.length=es.map BN:=zqi (by simp);unfold Cod.F;simp only[ints,zqg,zqh]at h1|-;simp -implicitDefEqProofs only[h1,h2,e2,yR,zqa,XP,seval]
theorem bN(h:c.ok):Au [c.F,d.F]=some [.bool (decide (c=d))]:=B9 (a:=fun p:Cod×Cod=>[p.1.F,p.2.F]) (r:=fun p=>[.bool (decide (p.1=p.2))]) (fun x y e=>by simp only[List.cons.injEq,Cod.F_iff,and_true]at e;simp only[e]) (c,d) h
theorem fL(hT:T 30=some Au)(h:c.ok){args:List AV}(hv:viewAs K.os args=some [c.F,d.F]):evP ⟨A0,T,A1⟩ (.call 30 args K)=some (.val [.bool (decide (c=d))] ⟨K.os++[],K.ext,K.tch⟩):=B5 hT hv (bN h) (by show(true&&(_||true))=true;simp)
def wL1:List Blk:=[Endd.mk 2 1 1 2,Endd.mk 1 0 3 0,Endd.mk 1 0 4 0,Endd.mk 3 1 0 0,Endd.mk 3 1 0 0].map fun e=>⟨[],e⟩
def wL2:List Blk:=[Endd.mk 2 1 1 2,Endd.mk 1 0 3 0,Endd.mk 1 0 3 0,Endd.mk 3 1 0 0,Endd.mk 3 1 0 0].map fun e=>⟨[],e⟩
def GM:List Blk:=[Endd.mk 2 1 1 1,Endd.mk 1 0 3 0,Endd.mk 1 0 3 0,Endd.mk 3 1 0 0,Endd.mk 3 1 0 0].map fun e=>⟨[],e⟩
theorem EQ:twin wL1=GM:=by
 rw[Bz (by decide),show rnd wL1=wL2 by decide,Bz (by decide),show rnd wL2=GM by decide,s5 (by decide)]
theorem A0U:k8 wL1:=by
 refine⟨fun b hb=>?_,by decide,fun b hb=>?_⟩
 . obtain⟨e,he,rfl⟩:=zqk.1 hb
   exact⟨fun x hx=>(zqr hx).elim,(by show 0*88<=bigN;decide)⟩
 . have:∀b∈wL1,(b.e.kind=1\/b.e.kind=2->0<=b.e.to/\b.e.to<wL1.length)/\(b.e.kind=2->0<=b.e.els/\b.e.els<wL1.length):=by decide
   exact this b hb
theorem Ju(hlaw19_fork:T 27=some i6)(hlaw19_jump:T 28=some i7)(hlaw19_back:T 29=some j1)(hlaw19_code:T 26=some j2)(htwin_Twin:T 25=some N4)(hSameCode:T 30=some Au):AM.Comes ⟨A0,T,A1⟩ 16 [] [.bool true]:=by
 refine⟨[.bool true],⟨[],0,[]⟩,?_,back_of rfl zqq rfl rfl rfl⟩;rw[A3 (c:=NP) (nt:=19) (rs:=[.tmp 0]) rfl (by simp)];unfold NP;unfold K0;have t1:=fun a b K=>fI (K:=K) (a:=a) (b:=b) hlaw19_fork
 have t2:=fun a K=>fJ (K:=K) (a:=a) hlaw19_jump
 have t3:=fun K=>fK (K:=K) hlaw19_back
 have t4:∀K:PK,K.os[0]?=some (.row 0 ([Endd.mk 2 1 1 2,Endd.mk 1 0 3 0,Endd.mk 1 0 4 0,Endd.mk 3 1 0 0,Endd.mk 3 1 0 0].map Endd.F) 4)->evP ⟨A0,T,A1⟩ (.call 26 [.msl 0 0 5 4] K)=some (.val (openTs K.os.length [Jt [Endd.mk 2 1 1 2,Endd.mk 1 0 3 0,Endd.mk 1 0 4 0,Endd.mk 3 1 0 0,Endd.mk 3 1 0 0]]).1 ⟨K.os++(openTs K.os.length [Jt [Endd.mk 2 1 1 2,Endd.mk 1 0 3 0,Endd.mk 1 0 4 0,Endd.mk 3 1 0 0,Endd.mk 3 1 0 0]]).2,K.ext,K.tch⟩):=fun K hK=>Gk hlaw19_code (by
  simp only[Endd.F,zqg,zqh]at hK|-;simp -implicitDefEqProofs only[hK,XP,seval]) (by decide)
 have t5:∀K:PK,K.os[1]?=some (.row 0 (ints [1,1]) 1)->K.os[2]?=some (.row 0 ([Endd.mk 2 1 1 2,Endd.mk 1 0 3 0,Endd.mk 1 0 4 0,Endd.mk 3 1 0 0,Endd.mk 3 1 0 0].map BN) 5)->evP ⟨A0,T,A1⟩ (.call 25 [.agg [.str B2,.int .i64 1,.int .i64 0,.msl 1 0 2 1,.msl 2 0 5 5]] K)=some (.val (openTs K.os.length [(twinC ⟨B2,1,0,[1,1],wL1⟩).O]).1 ⟨K.os++(openTs K.os.length [(twinC ⟨B2,1,0,[1,1],wL1⟩).O]).2,K.ext,K.tch⟩):=fun K h1 h2=>Js htwin_Twin (by
  have:=Yb h1 h2
  exact(congrArg (fun a=>consO a (some [])) this).trans rfl) ⟨by decide,A0U⟩
 have t6:∀K:PK,K.os[6]?=some (.row 0 ([Endd.mk 2 1 1 1,Endd.mk 1 0 3 0,Endd.mk 1 0 3 0,Endd.mk 3 1 0 0,Endd.mk 3 1 0 0].map Endd.F) 4)->evP ⟨A0,T,A1⟩ (.call 26 [.msl 6 0 5 4] K)=some (.val (openTs K.os.length [Jt [Endd.mk 2 1 1 1,Endd.mk 1 0 3 0,Endd.mk 1 0 3 0,Endd.mk 3 1 0 0,Endd.mk 3 1 0 0]]).1 ⟨K.os++(openTs K.os.length [Jt [Endd.mk 2 1 1 1,Endd.mk 1 0 3 0,Endd.mk 1 0 3 0,Endd.mk 3 1 0 0,Endd.mk 3 1 0 0]]).2,K.ext,K.tch⟩):=fun K hK=>Gk hlaw19_code (by
  simp only[Endd.F,zqg,zqh]at hK|-;simp -implicitDefEqProofs only[hK,XP,seval]) (by decide)
 have t7:∀K:PK,K.os[3]?=some (.row 0 (ints [1,1]) 1)->K.os[4]?=some (.row 0 (GM.map Blk.O) 5)->K.os[7]?=some (.row 0 (ints [1,1]) 1)->K.os[8]?=some (.row 0 ([Endd.mk 2 1 1 1,Endd.mk 1 0 3 0,Endd.mk 1 0 3 0,Endd.mk 3 1 0 0,Endd.mk 3 1 0 0].map BN) 5)->evP ⟨A0,T,A1⟩ (.call 30 [.agg [.str B2,.int .i64 1,.int .i64 0,.msl 3 0 2 1,.msl 4 0 5 5],.agg [.str B2,.int .i64 1,.int .i64 0,.msl 7 0 2 1,.msl 8 0 5 5]] K)=some (.val [.bool true] ⟨K.os++[],K.ext,K.tch⟩):=fun K h1 h2 h3 h4=>by
  have e1:=vC (c:=⟨B2,1,0,[1,1],GM⟩) h1 h2;have e2:=Yb h3 h4;exact fL (c:=⟨B2,1,0,[1,1],GM⟩) (d:=⟨B2,1,0,[1,1],[Endd.mk 2 1 1 1,Endd.mk 1 0 3 0,Endd.mk 1 0 3 0,Endd.mk 3 1 0 0,Endd.mk 3 1 0 0].map fun e=>⟨[],e⟩⟩) hSameCode ⟨by decide,fun b hb=>by
   obtain⟨e,he,rfl⟩:=zqk.1 hb;exact⟨fun x hx=>(zqr hx).elim,(by show 0*88<=bigN;decide)⟩,by decide⟩ ((congrArg (fun a=>consO a (consO _ (some []))) e1).trans ((congrArg (fun b=>consO (some _) (consO b (some []))) e2).trans rfl))
 simp only[twinC,EQ,Jt,Cod.O,B2,ints,zqg,zqh,Endd.F]at t4 t5 t6 t7;have hl5:(GM.map Blk.O).length=5:=rfl;simp -implicitDefEqProofs only[t1,t2,t3,t4,t5,t6,t7,hl5,XP,seval]
def R4:=S7 (fun p:Unit=>[]) (fun p=>[.bool true]) (fun p=>True)
theorem Jv(hlaw19_works:T 16=some R4)  {K:PK}:evP ⟨A0,T,A1⟩ (.call 16 [] K)=some (.val (openTs K.os.length [.bool true]).1 ⟨K.os++(openTs K.os.length [.bool true]).2,K.ext,K.tch⟩):=B5 hlaw19_works (by simp -implicitDefEqProofs only[VV,XP,seval]) (B9 (a:=fun p:Unit=>[]) (r:=fun p=>[.bool true]) (fun x y e=>by simp only[VJ]at e;simp only[e]) () trivial) (by simp -implicitDefEqProofs only[VN,XP,seval])
theorem Tv(hlaw19_fork:T 27=some i6)(hlaw19_jump:T 28=some i7)(hlaw19_back:T 29=some j1)(hlaw19_code:T 26=some j2)(htwin_Twin:T 25=some N4)(hSameCode:T 30=some Au)(hP:PEok ⟨A0,T,A1⟩):TC A0 16 R4:=C0 hP fun p h=>Ju hlaw19_fork hlaw19_jump hlaw19_back hlaw19_code htwin_Twin hSameCode
end
section
variable {m m':Modl}{C:Int->List Int->Mst->Rs}{c:Cod}
theorem yS(h:m'.gs=m.gs)(x:Ins)(r:List Int)(s:Mst):doesI m' x r s=doesI m x r s:=by unfold doesI gAt;rw[h]
theorem vD(h:m'.gs=m.gs):∀(l:List Ins)(r:List Int)(s:Mst),insF m' C l r s=insF m C l r s
 |[],r,s=>rfl
 | x::l,r,s=>by
  have ih:=vD h l;rw[insF,insF];simp only[yS h,ih]
theorem mS(h:m'.gs=m.gs):∀(n:Nat)(i:Int)(r:List Int)(s:Mst),E9 m' C c n i r s=E9 m C c n i r s
 |0,i,r,s=>rfl
 | n+1,i,r,s=>by
  have ih:=mS h n;rw[E9,E9,vD h];simp only[ih]
theorem Tw{i j:Int}(h:blkAt c i=blkAt c j)(n:Nat)(r:List Int)(s:Mst):E9 m C c n i r s=E9 m C c n j r s:=by
 cases n with
 |zero=>rfl
 |succ n=>rw[E9,E9,h]
theorem bO(t:Int):blkAt c (fstI c.blocks t)=blkAt c t:=by
 unfold fstI;split
 . rename_i h
   obtain⟨_,h2,_⟩:=Lv (l:=c.blocks) (t:=t.toNat) (by omega);unfold blkAt;rw[zje,zqj,zqj,h2]
 . rfl
theorem yT(i:Int):blkAt {c with blocks:=rnd c.blocks} i=Blk.R c.blocks (blkAt c i):=by
 unfold blkAt rnd;rw[zqj,zqj];show((c.blocks.map (Blk.R c.blocks))[i.toNat]?).getD _=_
 rw[zqm];cases c.blocks[i.toNat]? with
 |none=>rfl
 |some b=>rfl
theorem fM:∀(n:Nat)(i:Int)(r:List Int)(s:Mst),E9 m C {c with blocks:=rnd c.blocks} n i r s=E9 m C c n i r s
 |0,i,r,s=>rfl
 | n + 1,i,r,s=>by
  rw[E9,E9,yT];show(match insF m C (blkAt c i).code r s with | .stop st e s=>_ | .go r s=>_)=_
  cases insF m C (blkAt c i).code r s with
  |stop z e s2=>rfl
  | go r2 s2 =>
   dsimp only;have hk:((Blk.R c.blocks (blkAt c i)).e.kind)=(blkAt c i).e.kind/\((Blk.R c.blocks (blkAt c i)).e.a)=(blkAt c i).e.a:=by
    show(Endd.R c.blocks (blkAt c i).e).kind=_/\(Endd.R c.blocks (blkAt c i).e).a=_
    unfold Endd.R;split<;>(try split)<;>exact⟨rfl,rfl⟩
   rw[hk.1,hk.2];by_cases h1:s2.steps<1
   . rw[if_pos h1,if_pos h1]
   . rw [if_neg h1,if_neg h1]
     by_cases h3:(blkAt c i).e.kind=3
     . rw[if_pos h3,if_pos h3]
     . rw [if_neg h3,if_neg h3]
       rw[fM n];show E9 m C c n (if(blkAt c i).e.kind=2/\at' r2 (blkAt c i).e.a=0 then(Endd.R c.blocks (blkAt c i).e).els else(Endd.R c.blocks (blkAt c i).e).to) r2 (stp s2)=_
       unfold Endd.R;by_cases k1:(blkAt c i).e.kind=1
       . rw[if_pos k1,if_neg (by omega),if_neg (by omega)]
         exact Tw (bO _) n r2 _
       . rw [if_neg k1]
         by_cases k2:(blkAt c i).e.kind=2
         . rw[if_pos k2]
           by_cases hv:at' r2 (blkAt c i).e.a=0
           . rw[if_pos ⟨k2,hv⟩,if_pos ⟨k2,hv⟩];exact Tw (bO _) n r2 _
           . rw[if_neg (fun e=>hv e.2),if_neg (fun e=>hv e.2)];exact Tw (bO _) n r2 _
         . rw[if_neg k2]
theorem qG(n:Nat)(i:Int)(r:List Int)(s:Mst):E9 m C (twinC c) n i r s=E9 m C c n i r s:=by
 have:∀(w:Nat)(c:Cod),mL c.blocks=w->E9 m C (twinC c) n i r s=E9 m C c n i r s:=fun w=>by
  induction w using zkx with
  | ind w ih =>
   intro c hw;unfold twinC;by_cases q:rnd c.blocks=c.blocks
   . rw[s5 q]
   . rw[Bz q]
     have:=ih _ (hw▸Lw q) {c with blocks:=rnd c.blocks} rfl
     unfold twinC at this;exact this.trans (fM n i r s)
 exact this _ c rfl
def H8(m:Modl):Modl:=⟨m.gs,m.fs.map twinC⟩
theorem fN:twin []=[]:=s5 rfl
theorem vE(f:Int):Eb (H8 m) f=twinC (Eb m f):=by
 unfold Eb H8;rw[zqj,zqj,zqm];cases m.fs[f.toNat]? with
 |none=>show(⟨[],0,0,[],[]⟩:Cod)=⟨[],0,0,[],twin []⟩;rw[fN]
 |some b=>rfl
theorem call_twin:∀(k:Nat)(f:Int)(a:List Int)(s:Mst),I3 (H8 m) k f a s=I3 m k f a s
 |0,f,a,s=>rfl
 | k+1,f,a,s=>by
  have ih:I3 (H8 m) k=I3 m k:=by funext f a s;exact call_twin k f a s
  rw[I3,I3,ih,vE,mS (m':=H8 m) (m:=m) rfl,qG];rfl
theorem Mb:r9 (H8 m)=r9 m:=by
 unfold r9 H8 idxOf
 have:∀l:List Cod,(l.map twinC).findIdx? (fun c=>decide (c.name=B2))=l.findIdx? fun c=>decide (c.name=B2):=fun l=>by
  rw[List.findIdx?_map];rfl
 rw[this]
theorem vF(input:List Int)(steps:Int):P0 (H8 m) input steps=P0 m input steps:=by
 unfold P0;rw[Mb,call_twin];rfl
end
section
variable {m:Modl}{c:Cod}
theorem Fc(n:Int):codI (H8 m).fs n=twinC (codI m.fs n):=by
 unfold codI H8;rw[zqj,zqj];show((m.fs.map twinC)[n.toNat]?).getD _=_
 rw[zqm];cases m.fs[n.toNat]? with
 |none=>show(⟨[],0,0,[],[]⟩:Cod)=⟨[],0,0,[],twin []⟩;rw[fN]
 |some b=>rfl
theorem kA(x:Ins):J0 (H8 m) (twinC c) x=J0 m c x:=by
 have hl:(H8 m).fs.length=m.fs.length:=zqa ..;have h1:E1 (H8 m) (twinC c) x=E1 m c x:=by
  unfold E1 jM N2;rw[Fc,hl];rfl
 have h2:X1 (H8 m) (twinC c) x=X1 m c x:=by
  unfold X1 y6;rw[Fc];rfl
 unfold J0;rw[h1,h2,Fc];rfl
def Wl(m:Modl)(c:Cod)(l:List Blk):Prop:=∀b∈l,(∀x∈b.code,J0 m c x=0)/\Bw c b.e=0
theorem LL{l:List Blk}(hl:l.length=c.blocks.length){e:Endd}(h:Bw c e=0):Bw c (e.R l)=0:=by
 have hr:=jV h;unfold Endd.R;by_cases k1:e.kind=1
 . rw[if_pos k1]
   have:=Fb (l:=l) (t:=e.to) (by rw[hl];exact hr.to (by omega))
   rw[hl]at this;unfold Bw;dsimp only;rw[if_pos k1,if_pos (thereD_iff.2 this)]
 . rw [if_neg k1]
   by_cases k2:e.kind=2
   . rw[if_pos k2]
     have t1:=Fb (l:=l) (t:=e.to) (by rw[hl];exact hr.to (by omega));have t2:=Fb (l:=l) (t:=e.els) (by rw[hl];exact hr.els k2);rw[hl]at t1 t2;unfold Bw at h|-;dsimp only;rw[if_neg k1,if_pos k2]at h|-;rw[if_pos (thereD_iff.2 t1),if_pos (thereD_iff.2 t2)];rw[if_pos (thereD_iff.2 (hr.to (by omega))),if_pos (thereD_iff.2 (hr.els k2))]at h;exact h
   . rw[if_neg k2];exact h
theorem Wl.rnd{l:List Blk}(hl:l.length=c.blocks.length)(h:Wl m c l):Wl m c (rnd l):=fun b hb=>by
 unfold AmEnv.rnd at hb;obtain⟨b0,hb0,rfl⟩:=zqk.1 hb;exact⟨(h b0 hb0).1,LL hl (h b0 hb0).2⟩
theorem Wl.twin{l:List Blk}(hl:l.length=c.blocks.length)(h:Wl m c l):Wl m c (twin l):=by
 have:∀(n:Nat)(l:List Blk),mL l=n->l.length=c.blocks.length->Wl m c l->Wl m c (AmEnv.twin l):=fun n=>by
  induction n using zkx with
  | ind n ih =>
   intro l hn hl h;by_cases q:AmEnv.rnd l=l
   . rw[s5 q];exact h
   . rw[Bz q];exact ih _ (hn▸Lw q) (AmEnv.rnd l) rfl (by rw[Jq];exact hl) (h.rnd hl)
 exact this _ l rfl hl h
theorem bP{l:List Int}(h:∀e∈l,e=0):G4 l=0:=by
 induction l with
 |nil=>rfl
 | cons a l ih =>
  unfold G4;rw[if_pos (h a (List.mem_cons_self ..))];exact ih fun e he=>h e (List.mem_cons_of_mem _ he)
theorem qH(h:R7 m c=0):R7 (H8 m) (twinC c)=0:=by
 obtain⟨_,q2⟩:=Pt h;have hg:Wl m c (twin c.blocks):=Wl.twin rfl fun b hb=>jU (q2 b hb)
 have hlen:(twinC c).blocks.length=c.blocks.length:=Tp _;have hz:G4 ((twinC c).blocks.map (Ol (H8 m) (twinC c)))=0:=bP fun e he=>by
  obtain⟨b,hb,rfl⟩:=zqk.1 he;obtain⟨g1,g2⟩:=hg b hb;have e2:Bw (twinC c) b.e=Bw c b.e:=by unfold Bw;rw[hlen];rfl
  unfold Ol;rw[if_pos (bP fun e he=>by
   obtain⟨x,hx,rfl⟩:=zqk.1 he;rw[kA];exact g1 x hx),e2]
  exact g2
 unfold R7 at h|-;rw[hlen];split at h
 . cases h
 . rename_i h1
   rw[if_neg (show ¬(c.blocks.length<1\/400<c.blocks.length\/4096<(twinC c).regs.length)from h1)];split at h
   . cases h
   . rename_i h2
     rw[if_neg (show ¬((twinC c).ps<0\/((twinC c).regs.length:Int)<(twinC c).ps)from h2)];split at h
     . cases h
     . rename_i h3
       rw[if_neg (show ¬((twinC c).ty<0\/2<(twinC c).ty\/((twinC c).regs.any fun n=>!F5 n)=true)from h3)];exact hz
theorem Tx(h:N3 m=0):N3 (H8 m)=0:=by
 obtain ⟨h1,h2⟩:=Jo h;have hf:G4 ((H8 m).fs.map (R7 (H8 m)))=0:=bP fun e he=>by
  obtain⟨c',hc',rfl⟩:=zqk.1 he;obtain⟨c,hc,rfl⟩:=zqk.1 hc';exact qH (h1 c hc)
 have hm:Td (H8 m)=Td m:=by
  have:y9 (H8 m)=y9 m:=Mb
  unfold Td;rw[this,Fc];rfl
 unfold N3 at h|-;by_cases q:G4 (m.gs.map Tc)=0
 . rw[if_pos (show G4 ((H8 m).gs.map Tc)=0 from q),if_pos hf,hm];exact h2
 . rw[if_neg q]at h;exact absurd h q
end
section
variable {l:List Glo}{i:Nat}
theorem LM(hl:i<l.length)(hs:l.length*40<=bigN):
 evP ⟨A0,T,A1⟩ (.code Nl [(0,fslN (l.map Glo.F)),(3,.msl 0 0 i 4),(4,.int .i64 i)] ⟨[.row 0 ((l.take i).map Glo.F) 4],0,[]⟩)=some (.ok .normal [(0,fslN (l.map Glo.F)),(3,.msl 0 0 (i+1) 4),(4,.int .i64 ((i+1:Nat):Int))] ⟨[.row 0 ((l.take (i+1)).map Glo.F) 4],0,[]⟩):=by
 unfold Nl;have hlt:decide ((i:Int)<((l.map Glo.F).length:Int))=true:=by simp[hl]
 have hi:=A8 (F:=Glo.F) hl;have hm:((l.take i).map Glo.F).length=i:=by simp;omega
 have hw:=B3 (i:=i) (by simp only[bigN]at hs;omega);have hz:(i+1)*40<=140737488355328:=by simp only[bigN]at hs;omega
 have hx:=map_take (F:=Glo.F) hl;simp only[Glo.F]at hi hx;simp -implicitDefEqProofs only[hlt,hi,hm,hw,hz,Glo.F,hx,XP,seval]
theorem LN(hl:0<l.length):
 evP ⟨A0,T,A1⟩ (.code Nl [(0,fslN (l.map Glo.F)),(3,.nilsl),(4,.int .i64 0)] ⟨[],0,[]⟩)=some (.ok .normal [(0,fslN (l.map Glo.F)),(3,.msl 0 0 1 4),(4,.int .i64 ((1:Nat):Int))] ⟨[.row 0 ((l.take 1).map Glo.F) 4],0,[]⟩):=by
 unfold Nl;have hlt:decide ((0:Int)<((l.map Glo.F).length:Int))=true:=by simp[hl]
 have hi:Kq Ck (fslN (l.map Glo.F)) (.int .i64 0)=some (.fptr (Glo.F l[0]) 0):=ix_fslN (te:=Ck) (k:=.i64) (i:=0) (A8 (F:=Glo.F) hl) rfl;have hx:=map_take (F:=Glo.F) hl;rw[zka]at hx;have hx:[Glo.F l[0]]=(l.take 1).map Glo.F:=hx;simp only[Glo.F]at hi;rw[<-hx];simp -implicitDefEqProofs only[hlt,hi,Glo.F,show IntKind.i64.wrap (0+1)=((1:Nat):Int)from rfl,XP,Nat.reduceAdd,Nat.reduceSub,Nat.reduceLT,Nat.reduceLeDiff,Nat.reduceEqDiff,Nat.reduceMul,↓reduceIte]
theorem LO{y:AV}{K:PK}:∃fr',evP ⟨A0,T,A1⟩ (.code Nl [(0,fslN (l.map Glo.F)),(3,y),(4,.int .i64 l.length)] K)=some (.ok (.exit 0) fr' K)/\lookP fr' 3=y:=by
 unfold Nl;have hlt:decide ((l.length:Int)<((l.map Glo.F).length:Int))=false:=by simp
 simp -implicitDefEqProofs only[hlt,XP,seval];exact⟨_,rfl,rfl⟩
theorem Jw  {l:List Glo} (hk:l.length*40<=bigN):AM.Comes ⟨A0,T,A1⟩ 48 [fslN (l.map Glo.F)] [ownd 0 4 (l.map Glo.F)]:=by
 obtain⟨fr',y,os,h1,h2,h3⟩:=Fl (P:=⟨A0,T,A1⟩) (c:=Nl) (A:=fslN (l.map Glo.F)) (O:=Glo.F) (sz:=4) (l:=l) (fun h=>LN h) (fun i h=>LM h hk) (fun y K=>LO);refine⟨[y],⟨os,0,[]⟩,?_,D2 h3⟩;rw[A3 (c:=OL) (nt:=19) (rs:=[.tmp 2]) rfl (by simp)];unfold OL;unfold K0;rcases h3 with⟨_,rfl,rfl⟩|⟨rfl,rfl⟩
 . simp -implicitDefEqProofs only[h1,h2,XP,seval]
 . simp -implicitDefEqProofs only[h1,h2,XP,seval]
def X3:=S7 (fun p:(List Glo)=>[fslN (p.map Glo.F)]) (fun p=>[ownd 0 4 (p.map Glo.F)]) (fun p=>p.length*40<=bigN)
theorem bQ(hCopyGlobals:T 48=some X3){l:List Glo}{K:PK}(hk:l.length*40<=bigN):evP ⟨A0,T,A1⟩ (.call 48 [fslN (l.map Glo.F)] K)=some (.val (openTs K.os.length [ownd 0 4 (l.map Glo.F)]).1 ⟨K.os++(openTs K.os.length [ownd 0 4 (l.map Glo.F)]).2,K.ext,K.tch⟩):=B5 hCopyGlobals (by simp -implicitDefEqProofs only[VV,XP,seval]) (B9 (a:=fun p:(List Glo)=>[fslN (p.map Glo.F)]) (r:=fun p=>[ownd 0 4 (p.map Glo.F)]) (fun x y e=>by simp only[VJ]at e;simp only[e]) (l) hk) (by simp -implicitDefEqProofs only[VN,XP,seval])
theorem Ty  (hP:PEok ⟨A0,T,A1⟩):TC A0 48 X3:=C0 hP fun p h=>Jw  h
end
section
variable {l:List Cod}{i:Nat}
theorem LP(hT:T 62=some m8)(hl:i<l.length)(hk:l[i].ok)(hs:l.length*80<=bigN):
 evP ⟨A0,T,A1⟩ (.code Nm [(0,fslN (l.map Cod.F)),(3,.msl 0 0 i 5),(4,.int .i64 i)] ⟨[.row 0 ((l.take i).map Cod.O) 5],0,[]⟩)=some (.ok .normal [(0,fslN (l.map Cod.F)),(3,.msl 0 0 (i+1) 5),(4,.int .i64 ((i+1:Nat):Int))] ⟨[.row 0 ((l.take (i+1)).map Cod.O) 5],0,[]⟩):=by
 unfold Nm;have hlt:decide ((i:Int)<((l.map Cod.F).length:Int))=true:=by simp[hl]
 have hi:=A8 (F:=Cod.F) hl;have hm:((l.take i).map Cod.O).length=i:=by simp;omega
 have hw:=B3 (i:=i) (by simp only[bigN]at hs;omega);have hz:(i+1)*80<=140737488355328:=by simp only[bigN]at hs;omega
 have ht:=fun K=>Xz (K:=K) hT hk
 have hx:=map_take (F:=Cod.O) hl;simp only[Cod.F]at hi ht;simp only[Cod.O]at hx;simp -implicitDefEqProofs only[hlt,hi,hm,hw,hz,Cod.O,ht,hx,XP,seval]
theorem LQ(hT:T 62=some m8)(hl:0<l.length)(hk:l[0].ok):
 evP ⟨A0,T,A1⟩ (.code Nm [(0,fslN (l.map Cod.F)),(3,.nilsl),(4,.int .i64 0)] ⟨[],0,[]⟩)=some (.ok .normal [(0,fslN (l.map Cod.F)),(3,.msl 0 0 1 5),(4,.int .i64 ((1:Nat):Int))] ⟨[.row 0 ((l.take 1).map Cod.O) 5],0,[]⟩):=by
 unfold Nm;have hlt:decide ((0:Int)<((l.map Cod.F).length:Int))=true:=by simp[hl]
 have hi:Kq o9 (fslN (l.map Cod.F)) (.int .i64 0)=some (.fptr (Cod.F l[0]) 0):=ix_fslN (te:=o9) (k:=.i64) (i:=0) (A8 (F:=Cod.F) hl) rfl;have ht:=fun K=>Xz (K:=K) hT hk
 have hx:=map_take (F:=Cod.O) hl;rw[zka]at hx;have hx:[Cod.O l[0]]=(l.take 1).map Cod.O:=hx;simp only[Cod.F]at hi ht;rw[<-hx];simp -implicitDefEqProofs only[hlt,hi,Cod.O,ht,show IntKind.i64.wrap (0+1)=((1:Nat):Int)from rfl,XP,Nat.reduceAdd,Nat.reduceSub,Nat.reduceLT,Nat.reduceLeDiff,Nat.reduceEqDiff,Nat.reduceMul,↓reduceIte]
theorem LR{y:AV}{K:PK}:∃fr',evP ⟨A0,T,A1⟩ (.code Nm [(0,fslN (l.map Cod.F)),(3,y),(4,.int .i64 l.length)] K)=some (.ok (.exit 0) fr' K)/\lookP fr' 3=y:=by
 unfold Nm;have hlt:decide ((l.length:Int)<((l.map Cod.F).length:Int))=false:=by simp
 simp -implicitDefEqProofs only[hlt,XP,seval];exact⟨_,rfl,rfl⟩
end
theorem Ov(hCopyCode:T 62=some m8){l:List Cod}(hk:(∀x∈l,x.ok)/\l.length*80<=bigN):AM.Comes ⟨A0,T,A1⟩ 49 [fslN (l.map Cod.F)] [ownd 0 5 (l.map Cod.O)]:=by
 obtain⟨fr',y,os,h1,h2,h3⟩:=Fl (P:=⟨A0,T,A1⟩) (c:=Nm) (A:=fslN (l.map Cod.F)) (O:=Cod.O) (sz:=5) (l:=l) (fun h=>LQ hCopyCode h (hk.1 _ (zqf h))) (fun i h=>LP hCopyCode h (hk.1 _ (zqf h)) hk.2) (fun y K=>LR);refine⟨[y],⟨os,0,[]⟩,?_,D2 h3⟩;rw[A3 (c:=OM) (nt:=20) (rs:=[.tmp 2]) rfl (by simp)];unfold OM;unfold K0;rcases h3 with⟨_,rfl,rfl⟩|⟨rfl,rfl⟩
 . simp -implicitDefEqProofs only[h1,h2,XP,seval]
 . simp -implicitDefEqProofs only[h1,h2,XP,seval]
def s8:=S7 (fun p:(List Cod)=>[fslN (p.map Cod.F)]) (fun p=>[ownd 0 5 (p.map Cod.O)]) (fun p=>(∀x∈p,x.ok)/\p.length*80<=bigN)
theorem kB(hCopyCodes:T 49=some s8){l:List Cod}{K:PK}(hk:(∀x∈l,x.ok)/\l.length*80<=bigN):evP ⟨A0,T,A1⟩ (.call 49 [fslN (l.map Cod.F)] K)=some (.val (openTs K.os.length [ownd 0 5 (l.map Cod.O)]).1 ⟨K.os++(openTs K.os.length [ownd 0 5 (l.map Cod.O)]).2,K.ext,K.tch⟩):=B5 hCopyCodes (by simp -implicitDefEqProofs only[VV,XP,seval]) (B9 (a:=fun p:(List Cod)=>[fslN (p.map Cod.F)]) (r:=fun p=>[ownd 0 5 (p.map Cod.O)]) (fun x y e=>by simp only[VJ]at e;simp only[e]) (l) hk) (by simp -implicitDefEqProofs only[VN,XP,seval])
theorem bR(hCopyCode:T 62=some m8)(hP:PEok ⟨A0,T,A1⟩):TC A0 49 s8:=C0 hP fun p h=>Ov hCopyCode h
theorem Modl.copied{m:Modl}(h:m.ok):m.gs.length*40<=bigN/\(∀x∈m.fs,x.ok):=⟨h.2.2,fun c hc=>(h.1 c hc).1⟩
theorem Mc(hCopyGlobals:T 48=some X3)(hCopyCodes:T 49=some s8){m:Modl}(hk:m.ok/\m.fs.length*80<=bigN):AM.Comes ⟨A0,T,A1⟩ 31 [m.F] [m.O]:=by
 have t1:=fun K=>bQ (K:=K) hCopyGlobals (Modl.copied hk.1).1
 have t2:=fun K=>kB (K:=K) hCopyCodes ⟨(Modl.copied hk.1).2,hk.2⟩
 refine⟨[.agg [.msl 1 0 m.gs.length 4,.msl 2 0 m.fs.length 5]],⟨[.row 1 [.agg [.msl 1 0 m.gs.length 4,.msl 2 0 m.fs.length 5]] 2,.row 0 (m.gs.map Glo.F) 4,.row 0 (m.fs.map Cod.O) 5],0,[]⟩,?_,?_⟩
 . rw[A3 (c:=OB) (nt:=10) (rs:=[.cell 2 25]) rfl (by simp)];unfold OB
   unfold K0 Modl.F;simp -implicitDefEqProofs only[t1,t2,zqa,Ad,zqo,zqp,Nat.reduceBEq,XP,seval]
 . refine back_of (vs':=[.agg [.msl 1 0 m.gs.length 4,.msl 2 0 m.fs.length 5]]) (os':=[.row 1 [.agg [.msl 1 0 m.gs.length 4,.msl 2 0 m.fs.length 5]] 2,.row 0 (m.gs.map Glo.F) 4,.row 0 (m.fs.map Cod.O) 5]) ?_ ?_ (us:=[.agg [.msl 0 0 (m.gs.map Glo.F).length 4,.msl 1 0 (m.fs.map Cod.O).length 5]]) (ps:=[.row 0 (m.gs.map Glo.F) 4,.row 0 (m.fs.map Cod.O) 5]) ?_ ?_ ?_
   all_goals simp -implicitDefEqProofs only[Modl.O,zqa,XP,seval]
def j3:=S7 (fun p:(Modl)=>[p.F]) (fun p=>[p.O]) (fun p=>p.ok/\p.fs.length*80<=bigN)
theorem fO(hCopyModule:T 31=some j3){m:Modl}{K:PK}(hk:m.ok/\m.fs.length*80<=bigN):evP ⟨A0,T,A1⟩ (.call 31 [m.F] K)=some (.val (openTs K.os.length [m.O]).1 ⟨K.os++(openTs K.os.length [m.O]).2,K.ext,K.tch⟩):=B5 hCopyModule (by simp -implicitDefEqProofs only[VV,XP,seval]) (B9 (a:=fun p:(Modl)=>[p.F]) (r:=fun p=>[p.O]) (fun x y e=>by simp only[VJ]at e;simp only[e]) (m) hk) (by simp -implicitDefEqProofs only[VN,XP,seval])
theorem Wm(hCopyGlobals:T 48=some X3)(hCopyCodes:T 49=some s8)(hP:PEok ⟨A0,T,A1⟩):TC A0 31 j3:=C0 hP fun p h=>Mc hCopyGlobals hCopyCodes h
def Av(v n:Int):Int:=if n<1 then 0 else if v.tmod n<0 then v.tmod n+n else v.tmod n
theorem kC  {v:Int} {n:Int} (hk:n<=1000000):AM.Comes ⟨A0,T,A1⟩ 18 [.int .i64 v,.int .i64 n] [.int .i64 (Av v n)]:=by
 refine⟨[.int .i64 (Av v n)],⟨[],0,[]⟩,?_,back_of rfl zqq rfl rfl rfl⟩;rw[A3 (c:=NR) (nt:=16) (rs:=[.tmp 4]) rfl (by simp)];unfold NR;unfold K0;unfold Av;by_cases h1:n<1
 . simp -implicitDefEqProofs only[eq_true h1,XP,seval]
 . have h0:¬n=0:=by omega
   have hr:=fun t K=>tW (K:=K) (E:=A0) t .i64 v h0
   by_cases h2:v.tmod n<0
   . have hw:=Ez (n:=v.tmod n+n) (by have:=zjh v (show 0<n by omega);omega) (by omega)
     simp -implicitDefEqProofs only[h1,eq_true h2,hr,hw,XP,seval]
   . simp -implicitDefEqProofs only[h1,h2,hr,XP,seval]
def Yc:=S7 (fun p:(Int)×(Int)=>[.int .i64 p.1,.int .i64 p.2]) (fun p=>[.int .i64 (Av p.1 p.2)]) (fun p=>p.2<=1000000)
theorem LS(hPick:T 18=some Yc){v:Int}{n:Int}{K:PK}(hk:n<=1000000):evP ⟨A0,T,A1⟩ (.call 18 [.int .i64 v,.int .i64 n] K)=some (.val (openTs K.os.length [.int .i64 (Av v n)]).1 ⟨K.os++(openTs K.os.length [.int .i64 (Av v n)]).2,K.ext,K.tch⟩):=B5 hPick (by simp -implicitDefEqProofs only[VV,XP,seval]) (B9 (a:=fun p:(Int)×(Int)=>[.int .i64 p.1,.int .i64 p.2]) (r:=fun p=>[.int .i64 (Av p.1 p.2)]) (fun x y e=>by simp only[VJ]at e;simp only[e]) (v,n) hk) (by simp -implicitDefEqProofs only[VN,XP,seval])
theorem yU  (hP:PEok ⟨A0,T,A1⟩):TC A0 18 Yc:=C0 hP fun p h=>kC  h
section
variable {m:Modl}{i:Nat}{os:List PO}{c:Cod}
theorem qI{p q:Nat}(h1:rowOf os 6 p=some (0,ints c.regs,1))(h2:rowOf os 6 q=some (0,c.blocks.map Blk.O,5)):viewAs os [.agg [.str c.name,.int .i64 c.ty,.int .i64 c.ps,.msl p 0 c.regs.length 1,.msl q 0 c.blocks.length 5]]=some [c.F]:=by
 have v1:viewV os (.msl p 0 c.regs.length 1)=some (fslN (ints c.regs)):=by
  rw[wv_msl,h1];show(if 0=0/\1=1/\0+c.regs.length<=(ints c.regs).length then(match frzL (((ints c.regs).drop 0).take c.regs.length)with|some es=>some (fslN es)|none=>none)else none)=_
  rw[if_pos ⟨rfl,rfl,by simp[ints]⟩,zqt,zqi (by simp[ints]),frzL_ints]
 have v2:viewV os (.msl q 0 c.blocks.length 5)=some (fslN (c.blocks.map Blk.F)):=by
  rw[wv_msl,h2];show(if 0=0/\5=5/\0+c.blocks.length<=(c.blocks.map Blk.O).length then(match frzL (((c.blocks.map Blk.O).drop 0).take c.blocks.length)with|some es=>some (fslN es)|none=>none)else none)=_
  rw[if_pos ⟨rfl,rfl,by simp⟩,zqt,zqi (by simp),Ew]
 rw[va_cons,va_nil];show consO (match viewL os [.str c.name,.int .i64 c.ty,.int .i64 c.ps,.msl p 0 c.regs.length 1,.msl q 0 c.blocks.length 5]with|some cs=>some (AV.agg cs)|none=>none) _=_
 rw[vl_cons,vl_cons,vl_cons,vl_cons,vl_cons,v1,v2];rfl
def trTo(l:List Cod)(i:Nat):List Cod:=(l.take i).map twinC++l.drop i
theorem vG(l:List Cod)(i:Nat):(trTo l i).length=l.length:=by unfold trTo;simp;omega
theorem vH{l:List Cod}(h:i<l.length):(trTo l i)[i]?=some l[i]:=by
 unfold trTo;rw[zki (by rw[zqa,zkg];omega),zqa,zkg,Nat.min_eq_left (by omega),zkv,zkj,zja,zql h]
theorem vI{l:List Cod}(h:i<l.length):(trTo l i).set i (twinC l[i])=trTo l (i+1):=by
 unfold trTo;have hl:((l.take i).map twinC).length=i:=by simp;omega
 rw[zkk _ _ (by omega),hl,zkv,zqu h,zqs,List.append_assoc,zqz h];rfl
def xD(m:Modl)(l:List Cod):PK:=⟨[.row 1 [.agg [.msl 2 0 m.gs.length 4,.msl 3 0 m.fs.length 5]] 2,.row 1 [.agg [.nilsl,.nilsl]] 2,.row 0 (m.gs.map Glo.F) 4,.row 0 (l.map Cod.O) 5],0,[]⟩
theorem A0V(hT:T 25=some N4)(h:i<m.fs.length)(hs:m.fs.length*80<=bigN)(hk:m.fs[i].tok):evP ⟨A0,T,A1⟩ (.code Ro [(1,.ptr 0 0 0),(2,.ptr 1 0 0),(3,.int .i64 (i:Int))] (xD m (trTo m.fs i)))=some (.ok .normal [(1,.ptr 0 0 0),(2,.ptr 1 0 0),(3,.int .i64 ((i+1:Nat):Int))] (xD m (trTo m.fs (i+1)))):=by
 have hlt:decide ((i:Int)<(m.fs.length:Int))=true:=by simp[h]
 have hw:=B3 (i:=i) (by simp only[bigN]at hs;omega);have hg:((trTo m.fs i).map Cod.O)[i]?=some m.fs[i].O:=by rw[zqm,vH h];rfl
 have hl:((trTo m.fs i).map Cod.O).length=m.fs.length:=by rw[zqa,vG]
 have hset:((trTo m.fs i).map Cod.O).set i (twinC m.fs[i]).O=(trTo m.fs (i+1)).map Cod.O:=by rw[<-vI h,List.map_set]
 have ht:=fun K p q (h1:rowOf K.os 6 p=some (0,ints m.fs[i].regs,1)) (h2:rowOf K.os 6 q=some (0,m.fs[i].blocks.map Blk.O,5))=>Js (K:=K) hT (qI h1 h2) hk
 unfold Ro xD;rw[<-hset];simp only[Cod.O]at hg ht|-;simp -implicitDefEqProofs only[hlt,hw,hg,hl,ht,h,Ad,zqo,zqp,Nat.reduceBEq,zqa,XP,seval]
end
section
variable {m:Modl}{K:PK}
theorem A0W(l:List Cod)(hl:l.length=m.fs.length):∃fr',evP ⟨A0,T,A1⟩ (.code Ro [(1,.ptr 0 0 0),(2,.ptr 1 0 0),(3,.int .i64 (m.fs.length:Int))] (xD m l))=some (.ok (.exit 0) fr' (xD m l))/\lookP fr' 1=.ptr 0 0 0/\lookP fr' 2=.ptr 1 0 0:=by
 unfold Ro xD;have hlt:decide ((m.fs.length:Int)<(m.fs.length:Int))=false:=by simp
 simp -implicitDefEqProofs only[hlt,XP,seval];exact⟨_,rfl,rfl,rfl⟩
theorem A0X(hT:T 25=some N4)(hs:m.fs.length*80<=bigN)(hk:∀c∈m.fs,c.tok):∃fr',evP ⟨A0,T,A1⟩ (.code (.loop Ro) [(1,.ptr 0 0 0),(2,.ptr 1 0 0),(3,.int .i64 0)] (xD m m.fs))=some (.ok (.exit 0) fr' (xD m (m.fs.map twinC)))/\lookP fr' 1=.ptr 0 0 0/\lookP fr' 2=.ptr 1 0 0:=by
 have:=Cd (P:=⟨A0,T,A1⟩) (c:=Ro) (fun i=>([(1,.ptr 0 0 0),(2,.ptr 1 0 0),(3,.int .i64 (i:Int))],xD m (trTo m.fs i))) m.fs.length fun i hi=>A0V hT hi hs (hk _ (zqf hi))
 have e0:trTo m.fs 0=m.fs:=by unfold trTo;simp
 have e1:trTo m.fs m.fs.length=m.fs.map twinC:=by unfold trTo;simp
 simp only[e0,e1,show((0:Nat):Int)=0 from rfl]at this;obtain⟨fr',h,p⟩:=A0W (T:=T) (m:=m) (m.fs.map twinC) (zqa ..);exact⟨fr',by rw[this];exact C7 h,p⟩
end
theorem Hl(hCopyModule:T 31=some j3)(htwin_Twin:T 25=some N4){m:Modl}(hk:(m.ok/\m.fs.length*80<=bigN)/\∀c∈m.fs,c.tok):AM.Comes ⟨A0,T,A1⟩ 17 [m.F] [(H8 m).O]:=by
 have tc:=fun K=>fO (K:=K) hCopyModule hk.1
 obtain⟨fr',h1,h2,h3⟩:=A0X htwin_Twin hk.1.2 hk.2;refine⟨[.agg [.msl 1 0 m.gs.length 4,.msl 2 0 m.fs.length 5]],⟨[.row 1 [.agg [.msl 1 0 m.gs.length 4,.msl 2 0 m.fs.length 5]] 2,.row 0 (m.gs.map Glo.F) 4,.row 0 ((m.fs.map twinC).map Cod.O) 5],0,[]⟩,?_,?_⟩
 . rw[A3 (c:=NQ) (nt:=24) (rs:=[.cell 2 25]) rfl (by simp)];unfold NQ
   unfold K0;unfold xD at h1;simp only[Modl.F,Modl.O]at tc|-;simp -implicitDefEqProofs only[tc,h1,h2,h3,zqa,XP,seval]
 . refine back_of (vs':=[.agg [.msl 1 0 m.gs.length 4,.msl 2 0 m.fs.length 5]]) (os':=[.row 1 [.agg [.msl 1 0 m.gs.length 4,.msl 2 0 m.fs.length 5]] 2,.row 0 (m.gs.map Glo.F) 4,.row 0 ((m.fs.map twinC).map Cod.O) 5]) ?_ ?_ (us:=[.agg [.msl 0 0 (m.gs.map Glo.F).length 4,.msl 1 0 ((m.fs.map twinC).map Cod.O).length 5]]) (ps:=[.row 0 (m.gs.map Glo.F) 4,.row 0 ((m.fs.map twinC).map Cod.O) 5]) ?_ ?_ ?_
   all_goals simp -implicitDefEqProofs only[Modl.O,H8,zqa,XP,seval]
def O7:=S7 (fun p:(Modl)=>[p.F]) (fun p=>[(H8 p).O]) (fun p=>(p.ok/\p.fs.length*80<=bigN)/\∀c∈p.fs,c.tok)
theorem Wn(hlaw19_turned:T 17=some O7){m:Modl}{K:PK}(hk:(m.ok/\m.fs.length*80<=bigN)/\∀c∈m.fs,c.tok):evP ⟨A0,T,A1⟩ (.call 17 [m.F] K)=some (.val (openTs K.os.length [(H8 m).O]).1 ⟨K.os++(openTs K.os.length [(H8 m).O]).2,K.ext,K.tch⟩):=B5 hlaw19_turned (by simp -implicitDefEqProofs only[VV,XP,seval]) (B9 (a:=fun p:(Modl)=>[p.F]) (r:=fun p=>[(H8 p).O]) (fun x y e=>by simp only[VJ]at e;simp only[e]) (m) hk) (by simp -implicitDefEqProofs only[VN,XP,seval])
theorem Ow(hCopyModule:T 31=some j3)(htwin_Twin:T 25=some N4)(hP:PEok ⟨A0,T,A1⟩):TC A0 17 O7:=C0 hP fun p h=>Hl hCopyModule htwin_Twin h
theorem Cod.toks{m:Modl}{c:Cod}(hs:c.sok)(h:R7 m c=0):c.tok:=by
 refine⟨hs.1.1,hs.1.2.1,hs.1.2.2,fun b hb=>?_⟩;have r:=jV (jU ((Pt h).2 b hb)).2;exact⟨fun k=>r.to (by omega),fun k=>r.els k⟩
section
variable {m M:Modl}{os:List PO}{K:PK}
theorem qJ{l:List Blk}:∀b∈twin l,∃b0∈l,b.code=b0.code:=by
 have:∀(n:Nat)(l:List Blk),mL l=n->∀b∈twin l,∃b0∈l,b.code=b0.code:=fun n=>by
  induction n using zkx with
  | ind n ih =>
   intro l hn b hb;by_cases q:rnd l=l
   . rw[s5 q]at hb;exact⟨b,hb,rfl⟩
   . rw[Bz q]at hb
     obtain⟨b1,h1,e1⟩:=ih _ (hn▸Lw q) (rnd l) rfl b hb;unfold rnd at h1;obtain⟨b0,h0,rfl⟩:=zqk.1 h1;exact⟨b0,h0,e1⟩
 exact this _ l rfl
theorem vJ{c:Cod}(h:c.sok):(twinC c).sok:=by
 have hb:∀b∈(twinC c).blocks,b.sok:=fun b hb=>by
  obtain⟨b0,h0,e⟩:=qJ b hb
  have:=h.2 b0 h0
  unfold Blk.sok Blk.ok at this|-;rw[e];exact this
 exact⟨⟨h.1.1,fun b h'=>(hb b h').1,by rw[show(twinC c).blocks.length=c.blocks.length from Tp _];exact h.1.2.2⟩,hb⟩
theorem fP(h:m.ok):(H8 m).ok:=by
 refine⟨fun c hc=>?_,by rw[show(H8 m).fs.length=m.fs.length from zqa ..];exact h.2.1,h.2.2⟩;obtain⟨c0,h0,rfl⟩:=zqk.1 hc;exact vJ (h.1 c0 h0)
theorem Yd{p q:Nat}{ng nf:Nat}(hg:M.gs.length=ng)(hf:M.fs.length=nf)(h1:rowOf os 6 p=some (0,M.gs.map Glo.F,4))(h2:rowOf os 6 q=some (0,M.fs.map Cod.O,5)):viewA os (.agg [.msl p 0 ng 4,.msl q 0 nf 5])=some M.F:=by
 have v1:viewV os (.msl p 0 ng 4)=some (fslN (M.gs.map Glo.F)):=by
  rw[wv_msl,h1];show(if 0=0/\4=4/\0+ng<=(M.gs.map Glo.F).length then(match frzL (((M.gs.map Glo.F).drop 0).take ng)with|some es=>some (fslN es)|none=>none)else none)=_
  rw[if_pos ⟨rfl,rfl,by simp;omega⟩,zqt,zqi (by simp;omega),frzL_gloF]
 have v2:viewV os (.msl q 0 nf 5)=some (fslN (M.fs.map Cod.F)):=by
  rw[wv_msl,h2];show(if 0=0/\5=5/\0+nf<=(M.fs.map Cod.O).length then(match frzL (((M.fs.map Cod.O).drop 0).take nf)with|some es=>some (fslN es)|none=>none)else none)=_
  rw[if_pos ⟨rfl,rfl,by simp;omega⟩,zqt,zqi (by simp;omega),pI]
 show(match viewL os [.msl p 0 ng 4,.msl q 0 nf 5]with|some cs=>some (AV.agg cs)|none=>none)=_
 rw[vl_cons,vl_cons,v1,v2];rfl
end
section
variable {m M:Modl}{K:PK}{inp o:List Int}{st s1 x y:Int}
theorem LU{p q ng nf:Nat}(hC:T 7=some O6)(hM:M.ok)(hc:N3 M=0)(hg:M.gs.length=ng)(hf:M.fs.length=nf)(h1:rowOf K.os 6 p=some (0,M.gs.map Glo.F,4))(h2:rowOf K.os 6 q=some (0,M.fs.map Cod.O,5)):
 evP ⟨A0,T,A1⟩ (.call 7 [.agg [.msl p 0 ng 4,.msl q 0 nf 5]] K)=some (.val [.int .i64 0] ⟨K.os++[],K.ext,K.tch⟩):=by
 have hv:viewAs K.os [.agg [.msl p 0 ng 4,.msl q 0 nf 5]]=some [M.F]:=by rw[va_cons,va_nil,Yd hg hf h1 h2];rfl
 have hgc:O6 [M.F]=some [.int .i64 (N3 M)]:=B9 (a:=fun m:Modl=>[m.F]) (r:=fun m=>[.int .i64 (N3 m)]) (fun x y e=>by simp only[Modl.F_iff,List.cons.injEq,and_true]at e;rw[e]) M hM;rw[hc]at hgc;rw[B5 hC hv hgc rfl];rfl
theorem LV{p q ng nf:Nat}(hR:T 10=some z6)(hk:RunOk M s1)(hx:(P0 M inp s1).sc=(x,y))(ho:Oo M inp s1=o)(hg:M.gs.length=ng)(hf:M.fs.length=nf)(h1:rowOf K.os 6 p=some (0,M.gs.map Glo.F,4))(h2:rowOf K.os 6 q=some (0,M.fs.map Cod.O,5)):
 evP ⟨A0,T,A1⟩ (.call 10 [.agg [.msl p 0 ng 4,.msl q 0 nf 5],fslN (ints inp),.int .i64 s1] K)=some (.val [.agg [.msl K.os.length 0 o.length 1,.int .i64 x,.int .i64 y]] ⟨K.os++[.row 0 (ints o) 1],K.ext,K.tch⟩):=by
 have hv:viewAs K.os [.agg [.msl p 0 ng 4,.msl q 0 nf 5],fslN (ints inp),.int .i64 s1]=some [M.F,fslN (ints inp),.int .i64 s1]:=by
  rw[va_cons,va_cons,va_cons,va_nil,Yd hg hf h1 h2];show consO _ (consO (match frzL (ints inp)with|some es=>some (fslN es)|none=>none) _)=_
  rw[frzL_ints];rfl
 have hg:z6 [M.F,fslN (ints inp),.int .i64 s1]=some [.agg [ownd 0 1 (ints (Oo M inp s1)),.int .i64 (P0 M inp s1).sc.1,.int .i64 (P0 M inp s1).sc.2]]:=B9 (a:=fun p:Modl×List Int×Int=>[p.1.F,fslN (ints p.2.1),.int .i64 p.2.2]) (r:=fun p=>[.agg [ownd 0 1 (ints (Oo p.1 p.2.1 p.2.2)),.int .i64 (P0 p.1 p.2.1 p.2.2).sc.1,.int .i64 (P0 p.1 p.2.1 p.2.2).sc.2]]) (fun x y e=>by simp only[Modl.F_iff,fslN_iff,ints_iff,List.cons.injEq,AV.int.injEq,and_true,true_and]at e;obtain⟨x1,x2,x3⟩:=x;obtain⟨y1,y2,y3⟩:=y;simp only at e|-;obtain⟨rfl,rfl,rfl⟩:=e;rfl) (M,inp,s1) hk;rw[hx,ho]at hg;have hol:(ints o).length=o.length:=by simp[ints]
 rw[B5 hR hv hg (by simp[okRs,ownOf,ownd,clo,AV.cells,noFL,noF,noFL_ints]),<-hol];rfl
theorem ER{p q:Nat}(hE:T 12=some s4)(hk:o.length*8<=bigN)(r1:rowOf K.os 6 p=some (0,ints o,1))(r2:rowOf K.os 6 q=some (0,ints o,1)):
 evP ⟨A0,T,A1⟩ (.call 12 [.agg [.msl p 0 o.length 1,.int .i64 x,.int .i64 y],.agg [.msl q 0 o.length 1,.int .i64 x,.int .i64 y]] K)=some (.val [.bool true] ⟨K.os++[],K.ext,K.tch⟩):=by
 have v:∀i,rowOf K.os 6 i=some (0,ints o,1)->viewA K.os (.agg [.msl i 0 o.length 1,.int .i64 x,.int .i64 y])=some (.agg [fslN (ints o),.int .i64 x,.int .i64 y]):=fun i r2=>by
  have w:viewV K.os (.msl i 0 o.length 1)=some (fslN (ints o)):=by
   rw[wv_msl,r2];show(if 0=0/\1=1/\0+o.length<=(ints o).length then(match frzL (((ints o).drop 0).take o.length)with|some es=>some (fslN es)|none=>none)else none)=_
   rw[if_pos ⟨rfl,rfl,by simp[ints]⟩,zqt,zqi (by simp[ints]),frzL_ints]
  show(match consO (viewV K.os (.msl i 0 o.length 1)) _ with|some cs=>some (AV.agg cs)|none=>none)=_
  rw[w];rfl
 have hv:viewAs K.os [.agg [.msl p 0 o.length 1,.int .i64 x,.int .i64 y],.agg [.msl q 0 o.length 1,.int .i64 x,.int .i64 y]]=some [.agg [fslN (ints o),.int .i64 x,.int .i64 y],.agg [fslN (ints o),.int .i64 x,.int .i64 y]]:=by
  rw[va_cons,va_cons,va_nil,v p r1,v q r2];rfl
 have hg:s4 [.agg [fslN (ints o),.int .i64 x,.int .i64 y],.agg [fslN (ints o),.int .i64 x,.int .i64 y]]=some [.bool (decide (x=x/\y=y/\o=o))]:=B9 (a:=fun p:List Int×List Int×Int×Int×Int×Int=>[.agg [fslN (ints p.1),.int .i64 p.2.2.1,.int .i64 p.2.2.2.1],.agg [fslN (ints p.2.1),.int .i64 p.2.2.2.2.1,.int .i64 p.2.2.2.2.2]]) (r:=fun p=>[.bool (decide (p.2.2.1=p.2.2.2.2.1/\p.2.2.2.1=p.2.2.2.2.2/\p.1=p.2.1))]) (fun x y e=>by simp only[List.cons.injEq,AV.agg.injEq,AV.int.injEq,true_and,fslN_iff,ints_iff,and_true]at e;simp only[e]) (o,o,x,y,x,y) hk;rw[B5 hE hv hg rfl,decide_eq_true ⟨rfl,rfl,rfl⟩];rfl
theorem b15(h:Z5 m=false):j9 m=false/\N3 m=0/\m.fs.length<=12:=by
 unfold Z5 at h;split at h
 . cases h
 . split at h
   . cases h
   . rename_i h2
     split at h
     . cases h
     . rename_i h3
       exact⟨by simpa using h3,by simpa using h,by omega⟩
theorem vK(hB:T 15=some Z6)(hW:T 16=some R4)(hU:T 17=some O7)(hP:T 18=some Yc)(hC:T 7=some O6)(hR:T 10=some z6)(hE:T 12=some s4)(hm:m.ok)(h:Z5 m=true\/(Z5 m=false/\1000<inp.length)):evP ⟨A0,T,A1⟩ (.body 5 [m.F,fslN (ints inp),.int .i64 st] K0)=some (.val [.bool true] ⟨[],0,[]⟩):=by
 have tb:=fun K=>To (K:=K) hB hm
 have tk:=fun K=>Jv (K:=K) hW
 simp only[Modl.F]at tb;have hl:(ints inp).length=inp.length:=by simp[ints]
 rw[A3 (c:=p5) (nt:=37) (rs:=[.tmp 6]) rfl (by simp)];unfold p5;unfold K0 Modl.F;rcases h with h|⟨h,h2⟩
 . rw[h]at tb
   simp -implicitDefEqProofs only[tb,tk,hl,Ad,zqo,zqp,Nat.reduceBEq,XP,seval]
 . rw[h]at tb
   have h2:decide ((inp.length:Int)>1000)=true:=decide_eq_true (by omega);simp -implicitDefEqProofs only[tb,tk,hl,h2,Ad,zqo,zqp,Nat.reduceBEq,XP,seval]
theorem LW(hB:T 15=some Z6)(hW:T 16=some R4)(hU:T 17=some O7)(hP:T 18=some Yc)(hC:T 7=some O6)(hR:T 10=some z6)(hE:T 12=some s4)(hm:m.ok)(h:Z5 m=false)(h2:¬1000<inp.length)(e1:Av st 3000=s1)(hs:s1<=20000)(hx:(P0 m inp s1).sc=(x,y))(ho:Oo m inp s1=o)(hol:o.length<=30000):evP ⟨A0,T,A1⟩ (.body 5 [m.F,fslN (ints inp),.int .i64 st] K0)=some (.val [.bool true] ⟨[],0,[]⟩):=by
 obtain⟨g1,g2,g3⟩:=b15 h;have tb:=fun K=>To (K:=K) hB hm
 have tk:=fun K=>Jv (K:=K) hW
 have tt:=fun K=>Wn (K:=K) hU ⟨⟨hm,by simp only[bigN];omega⟩,fun c hc=>Cod.toks (hm.1 c hc) ((Jo g2).1 c hc)⟩
 have tp:=fun K=>LS (K:=K) hP (v:=st) (n:=3000) (by decide)
 rw[e1]at tp;rw[h]at tb;have hl:(ints inp).length=inp.length:=by simp[ints]
 have lo':(ints o).length=o.length:=by simp[ints]
 have h2d:decide ((inp.length:Int)>1000)=false:=decide_eq_false (by omega);have ra:=fun K=>yI (K:=K) (input:=inp) hR (bF (steps:=s1) hm g1 g2 hs)
 rw[hx,ho]at ra;have kM:RunOk (H8 m) s1:=⟨uP (fP hm) (Tx g2),(bF (steps:=s1) hm g1 g2 hs).gz,(bF (steps:=s1) hm g1 g2 hs).gl,by show(m.fs.map twinC).length<=bigN;simp only[bigN,zqa];omega,by rw[Mb];have:=(bF (steps:=s1) hm g1 g2 hs).mn;show _/\_<((m.fs.map twinC).length:Int);rw[zqa];exact this,hs⟩
 have rt:=vF (m:=m) inp s1;have rb:=fun K p q=>LV (K:=K) (M:=H8 m) (p:=p) (q:=q) (inp:=inp) (ng:=m.gs.length) (nf:=m.fs.length) (x:=x) (y:=y) (o:=o) hR kM (by rw[rt];exact hx) (by unfold Oo;rw[rt];exact ho) rfl (zqa ..)
 have ck:=fun K p q=>LU (K:=K) (M:=H8 m) (p:=p) (q:=q) (ng:=m.gs.length) (nf:=m.fs.length) hC (fP hm) (Tx g2) rfl (zqa ..)
 have se:=fun K p q=>ER (K:=K) (p:=p) (q:=q) (o:=o) (x:=x) (y:=y) hE (by simp only[bigN];omega)
 simp only[Modl.F,Modl.O,H8]at tb tt ra rb ck;rw[A3 (c:=p5) (nt:=37) (rs:=[.tmp 6]) rfl (by simp)];unfold p5;unfold K0 Modl.F;simp -implicitDefEqProofs only[tb,tk,tt,tp,ra,rb,ck,se,hl,lo',h2d,Ad,zqo,zqp,Nat.reduceBEq,zqa,show decide ((0:Int)=0)=true from rfl,XP,seval]
end
theorem yV(v:Int):0<=Av v 3000/\Av v 3000<=3000:=by
 have h1:=zjh v (show(0:Int)<3000 by decide);have h2:=Int.tmod_lt_of_pos v (show(0:Int)<3000 by decide);unfold Av;rw[if_neg (by decide)];split<;>omega
theorem Ee(hlaw15_Big:T 15=some Z6)(hlaw19_works:T 16=some R4)(hlaw19_turned:T 17=some O7)(hPick:T 18=some Yc)(hir_Check:T 7=some O6)(hir_Run:T 10=some z6)(hSameRun:T 12=some s4){m:Modl}{inp:List Int}{st:Int}(hk:m.ok):AM.Comes ⟨A0,T,A1⟩ 5 [m.F,fslN (ints inp),.int .i64 st] [.bool true]:=by
 refine⟨[.bool true],⟨[],0,[]⟩,?_,back_of rfl zqq rfl rfl rfl⟩;cases h1:Z5 m with
 |true=>exact vK hlaw15_Big hlaw19_works hlaw19_turned hPick hir_Check hir_Run hSameRun hk (.inl h1)
 | false =>
  by_cases h2:1000<inp.length
  . exact vK hlaw15_Big hlaw19_works hlaw19_turned hPick hir_Check hir_Run hSameRun hk (.inr ⟨h1,h2⟩)
  . obtain⟨p1,p2⟩:=yV st
    have q:=uS (m:=m) (input:=inp) (steps:=Av st 3000) (d:=0) p1 (zjd _);refine LW hlaw15_Big hlaw19_works hlaw19_turned hPick hir_Check hir_Run hSameRun hk h1 h2 rfl (by omega) rfl rfl ?_
    have:=q.le
    show(P0 m inp (Av st 3000)).st.out.length<=30000
    omega
open Go.ChangeShapes Go.WideShapes Go.ChangeAt
section
variable {H:Type}{enc:TypeId×Value->H}{P:Program}{W:World}{base:Nat}{spare:Nat->Bool}{held:Bool}
theorem M1{E:Env}(hE:EnvOk E P){t:Nat}{x:TI}(ht:E.ti t=some x):P.cellsOf t=x.size:=by
 obtain⟨i,z,h1,h2,_⟩:=(hE.ti t x ht).info;unfold Program.cellsOf;rw[h1];exact h2
theorem Ef{E:Env}(hE:EnvOk E P){t:Nat}{x:TI}(ht:E.ti t=some x):P.bytesOf t=x.bytes:=by
 obtain⟨i,z,h1,_,h2,_⟩:=(hE.ti t x ht).info;unfold Program.bytesOf;rw[h1];exact h2
variable (hE:EnvOk A0 P)
include hE
theorem vL:P.underlying 3=some (.int .i64):=(hE.ti 3 ty3 rfl).desc
theorem CA:P.underlying 9=some .string:=(hE.ti 9 HG rfl).desc
theorem ES:P.underlying 26=some (.slice 3):=(hE.ti 26 Fo rfl).desc
theorem vM:P.underlying 50=some (.slice 56):=(hE.ti 50 eI rfl).desc
theorem vN:P.underlying 47=some (.slice 54):=(hE.ti 47 eH rfl).desc
theorem yW:P.underlying 23=some (.slice 49):=(hE.ti 23 jB rfl).desc
theorem yX:P.underlying 22=some (.slice 46):=(hE.ti 22 jA rfl).desc
theorem Eg:P.cellsOf 3=1:=M1 hE ti3
theorem Tz:P.cellsOf 9=1:=M1 hE ti9
theorem Ua:P.cellsOf 26=1:=M1 hE YR
theorem Ub:P.cellsOf 50=1:=M1 hE YT
theorem fQ:P.cellsOf 47=1:=M1 hE YS
theorem mT:P.cellsOf 23=1:=M1 hE YP
theorem bS:P.cellsOf 22=1:=M1 hE YO
theorem mU:P.cellsOf 56=8:=M1 hE DI
theorem CB:P.cellsOf 52=4:=M1 hE YU
theorem mV:P.cellsOf 54=5:=M1 hE DG
theorem vO:P.cellsOf 49=5:=M1 hE DF
theorem vP:P.cellsOf 46=4:=M1 hE DD
theorem LX:P.cellsOf 25=2:=M1 hE YQ
theorem Ca{m n:Nat}{cs:List Value}{d:DataW H}{ps:List MemPlace}(h:DataW.trod enc P W base spare held n 3 cs=some (d,ps))(hw:Wt P 3 d):∃s,R8 P (m+1) 3 d=some s/\s.length=P.cellsOf 3/\∃z,s=[.int .i64 z]:=by
 obtain⟨z,rfl,e,_⟩:=DataW.trod_int (vL hE) h;cases e;refine⟨[.int .i64 z],?_,by rw[Eg hE];rfl,z,rfl⟩;unfold R8;rw[vL hE]
theorem bT{m n:Nat}{cs:List Value}{d:DataW H}{ps:List MemPlace}(h:DataW.trod enc P W base spare held n 9 cs=some (d,ps))(hw:Wt P 9 d):∃s,R8 P (m+1) 9 d=some s/\s.length=P.cellsOf 9/\∃b,s=[.str b]/\b.length<=140737488355328:=by
 obtain⟨b,rfl,e,_⟩:=DataW.trod_string (CA hE) h;cases e;refine⟨[.str b.data.toList],?_,by rw[Tz hE];rfl,_,rfl,?_⟩
 . unfold R8
   rw[CA hE]
 . have:=hw b.data.toList.length (by unfold DataW.weights;simp)
   exact zkz this (by decide)
omit hE in
def kD(acs:List AV)(z:Int):Prop:=acs=[.int .i64 z]
theorem Uc{m n:Nat}{cs:List Value}{d:DataW H}{ps:List MemPlace}(h:DataW.trod enc P W base spare held n 26 cs=some (d,ps))(hw:Wt P 26 d):∃s,R8 P (m+2) 26 d=some s/\s.length=P.cellsOf 26/\∃v l,s=[v]/\Vj P 3 kD v l:=by
 obtain ⟨v,l,h1,h2⟩:=u5 (Q:=kD) (m:=m+1) (ES hE) (by rw[Eg hE];decide) (fun n cs d ps h hw=>by
  obtain⟨s,h1,h2,z,rfl⟩:=Ca hE (m:=m) h hw;exact⟨_,z,h1,⟨h2,.inr rfl⟩,rfl⟩) h hw
 exact⟨[v],h1,by rw[Ua hE];rfl,v,l,rfl,h2⟩
omit hE in
def Hm(P:Program)(acs:List AV)(I:Ins):Prop:=∃av,acs=[.int .i64 I.op,.int .i64 I.ty,.int .i64 I.dst,.int .i64 I.a,.int .i64 I.b,.int .i64 I.n,.str I.s,av]/\Vj P 3 kD av I.args/\I.s.length<=140737488355328
omit hE in
theorem A0Y{ss:List (List AV)}(h:ss.length=8):∃a b c d e f g i,ss=[a,b,c,d,e,f,g,i]:=by
 match ss,h with
 |[a,b,c,d,e,f,g,i],_=>exact⟨a,b,c,d,e,f,g,i,rfl⟩
theorem qK{m n:Nat}{cs:List Value}{d:DataW H}{ps:List MemPlace}(h:DataW.trod enc P W base spare held n 56 cs=some (d,ps))(hw:Wt P 56 d):∃acs I,R8 P (m+3) 56 d=some acs/\(acs.length=P.cellsOf 56/\(u9 P 56=true\/acs.length=1))/\Hm P acs I:=by
 obtain ⟨fs,hu,hm,_⟩:=(hE.ti 56 v7 rfl).desc;have hm:fs.toList.map (fun f=>(f.type,f.offset))=[(3,0),(3,1),(3,2),(3,3),(3,4),(3,5),(9,6),(26,7)]:=hm;obtain⟨ss,h1,h2,h3,h4⟩:=Z9 (m:=m+2) (Qs:=fun i s=>(i<6->∃z,s=[.int .i64 z])/\(i=6->∃b,s=[.str b]/\b.length<=140737488355328)/\(i=7->∃v l,s=[v]/\Vj P 3 kD v l)) hu hm
  (by simp only[Kp,Eg hE,Tz hE,Ua hE,and_self]) (by simp only[mU hE,zqg,zqh,zqv,zqw,Nat.reduceAdd,Eg hE,Tz hE,Ua hE])
  (fun i ty off hL n cs d ps h hw=>by
    rcases i with _|_|_|_|_|_|_|_|i
    iterate 6
     . cases hL
       obtain⟨s,k1,k2,k3⟩:=Ca hE (m:=m+1) h hw;exact⟨s,k1,k2,fun _=>k3,fun hh=>by omega,fun hh=>by omega⟩
    . cases hL
      obtain⟨s,k1,k2,k3⟩:=bT hE (m:=m+1) h hw;exact⟨s,k1,k2,fun hh=>by omega,fun _=>k3,fun hh=>by omega⟩
    . cases hL
      obtain⟨s,k1,k2,k3⟩:=Uc hE (m:=m) h hw;exact⟨s,k1,k2,fun hh=>by omega,fun hh=>by omega,fun _=>k3⟩
    . simp at hL) h hw
 obtain⟨a,b,c,e,f,g,s6,s7,rfl⟩:=A0Y h3;obtain⟨z0,rfl⟩:=(h4 0 _ rfl).1 (by omega);obtain⟨z1,rfl⟩:=(h4 1 _ rfl).1 (by omega);obtain⟨z2,rfl⟩:=(h4 2 _ rfl).1 (by omega);obtain⟨z3,rfl⟩:=(h4 3 _ rfl).1 (by omega);obtain⟨z4,rfl⟩:=(h4 4 _ rfl).1 (by omega);obtain⟨z5,rfl⟩:=(h4 5 _ rfl).1 (by omega);obtain⟨b6,rfl,hb6⟩:=(h4 6 _ rfl).2.1 rfl;obtain⟨v,l,rfl,hv⟩:=(h4 7 _ rfl).2.2 rfl;exact⟨_,⟨z0,z1,z2,z3,z4,z5,b6,l⟩,h1,⟨h2,.inl (by unfold u9;rw[hu])⟩,v,rfl,hv,hb6⟩
omit hE in
def Hn(P:Program)(acs:List AV)(B:Blk):Prop:=∃cv,acs=[cv,.int .i64 B.e.kind,.int .i64 B.e.a,.int .i64 B.e.to,.int .i64 B.e.els]/\Vj P 56 (Hm P) cv B.code
theorem kE{m n:Nat}{cs:List Value}{d:DataW H}{ps:List MemPlace}(h:DataW.trod enc P W base spare held n 50 cs=some (d,ps))(hw:Wt P 50 d):∃s,R8 P (m+4) 50 d=some s/\s.length=P.cellsOf 50/\∃v l,s=[v]/\Vj P 56 (Hm P) v l:=by
 obtain⟨v,l,h1,h2⟩:=u5 (Q:=Hm P) (m:=m+3) (vM hE) (by rw[mU hE];decide) (fun n cs d ps h hw=>qK hE h hw) h hw;exact⟨[v],h1,by rw[Ub hE];rfl,v,l,rfl,h2⟩
theorem yY{m n:Nat}{cs:List Value}{d:DataW H}{ps:List MemPlace}(h:DataW.trod enc P W base spare held n 52 cs=some (d,ps))(hw:Wt P 52 d):∃s,R8 P (m+2) 52 d=some s/\s.length=P.cellsOf 52/\∃x y z w,s=[.int .i64 x,.int .i64 y,.int .i64 z,.int .i64 w]:=by
 obtain ⟨fs,hu,hm,_⟩:=(hE.ti 52 Ds rfl).desc;have hm:fs.toList.map (fun f=>(f.type,f.offset))=[(3,0),(3,1),(3,2),(3,3)]:=hm;obtain⟨ss,h1,h2,h3,h4⟩:=Z9 (m:=m+1) (Qs:=fun i s=>∃z,s=[.int .i64 z]) hu hm
  (by simp only[Kp,Eg hE,and_self]) (by simp only[CB hE,zqg,zqh,zqv,zqw,Nat.reduceAdd,Eg hE])
  (fun i ty off hL n cs d ps h hw=>by
    rcases i with _|_|_|_|i
    iterate 4
     . cases hL
       exact Ca hE (m:=m) h hw
    . simp at hL) h hw
 match ss,h3 with
 | [a,b,c,e],_ =>
  obtain⟨z0,rfl⟩:=h4 0 _ rfl;obtain⟨z1,rfl⟩:=h4 1 _ rfl;obtain⟨z2,rfl⟩:=h4 2 _ rfl;obtain⟨z3,rfl⟩:=h4 3 _ rfl;exact⟨_,h1,h2,z0,z1,z2,z3,rfl⟩
theorem qL{m n:Nat}{cs:List Value}{d:DataW H}{ps:List MemPlace}(h:DataW.trod enc P W base spare held n 54 cs=some (d,ps))(hw:Wt P 54 d):∃acs B,R8 P (m+5) 54 d=some acs/\(acs.length=P.cellsOf 54/\(u9 P 54=true\/acs.length=1))/\Hn P acs B:=by
 obtain ⟨fs,hu,hm,_⟩:=(hE.ti 54 Ak rfl).desc;have hm:fs.toList.map (fun f=>(f.type,f.offset))=[(50,0),(52,1)]:=hm;obtain⟨ss,h1,h2,h3,h4⟩:=Z9 (m:=m+4) (Qs:=fun i s=>(i=0->∃v l,s=[v]/\Vj P 56 (Hm P) v l)/\(i=1->∃x y z w,s=[.int .i64 x,.int .i64 y,.int .i64 z,.int .i64 w])) hu hm
  (by simp only[Kp,Ub hE,and_self]) (by simp only[mV hE,zqg,zqh,zqv,zqw,Nat.reduceAdd,Ub hE,CB hE])
  (fun i ty off hL n cs d ps h hw=>by
    rcases i with _|_|i
    . cases hL
      obtain⟨s,k1,k2,k3⟩:=kE hE (m:=m) h hw;exact⟨s,k1,k2,fun _=>k3,fun hh=>by omega⟩
    . cases hL
      obtain⟨s,k1,k2,k3⟩:=yY hE (m:=m+2) h hw;exact⟨s,k1,k2,fun hh=>by omega,fun _=>k3⟩
    . simp at hL) h hw
 match ss,h3 with
 | [a,b],_ =>
  obtain⟨v,l,rfl,hv⟩:=(h4 0 _ rfl).1 rfl;obtain⟨x,y,z,w,rfl⟩:=(h4 1 _ rfl).2 rfl;exact⟨_,⟨l,⟨x,y,z,w⟩⟩,h1,⟨h2,.inl (by unfold u9;rw[hu])⟩,v,rfl,hv⟩
theorem kF{m n:Nat}{cs:List Value}{d:DataW H}{ps:List MemPlace}(h:DataW.trod enc P W base spare held n 47 cs=some (d,ps))(hw:Wt P 47 d):∃s,R8 P (m+6) 47 d=some s/\s.length=P.cellsOf 47/\∃v l,s=[v]/\Vj P 54 (Hn P) v l:=by
 obtain⟨v,l,h1,h2⟩:=u5 (Q:=Hn P) (m:=m+5) (vN hE) (by rw[mV hE];decide) (fun n cs d ps h hw=>qL hE h hw) h hw;exact⟨[v],h1,by rw[fQ hE];rfl,v,l,rfl,h2⟩
omit hE in
def Ud(P:Program)(acs:List AV)(C:Cod):Prop:=∃rv bv,acs=[.str C.name,.int .i64 C.ty,.int .i64 C.ps,rv,bv]/\Vj P 3 kD rv C.regs/\Vj P 54 (Hn P) bv C.blocks
theorem vQ{m n:Nat}{cs:List Value}{d:DataW H}{ps:List MemPlace}(h:DataW.trod enc P W base spare held n 49 cs=some (d,ps))(hw:Wt P 49 d):∃acs C,R8 P (m+7) 49 d=some acs/\(acs.length=P.cellsOf 49/\(u9 P 49=true\/acs.length=1))/\Ud P acs C:=by
 obtain ⟨fs,hu,hm,_⟩:=(hE.ti 49 o9 rfl).desc;have hm:fs.toList.map (fun f=>(f.type,f.offset))=[(9,0),(3,1),(3,2),(26,3),(47,4)]:=hm;obtain⟨ss,h1,h2,h3,h4⟩:=Z9 (m:=m+6) (Qs:=fun i s=>(i=0->∃b,s=[.str b]/\b.length<=140737488355328)/\((i=1\/i=2)->∃z,s=[.int .i64 z])/\(i=3->∃v l,s=[v]/\Vj P 3 kD v l)/\(i=4->∃v l,s=[v]/\Vj P 54 (Hn P) v l)) hu hm
  (by simp only[Kp,Eg hE,Tz hE,Ua hE,and_self]) (by simp only[vO hE,zqg,zqh,zqv,zqw,Nat.reduceAdd,Eg hE,Tz hE,Ua hE,fQ hE])
  (fun i ty off hL n cs d ps h hw=>by
    rcases i with _|_|_|_|_|i
    . cases hL
      obtain⟨s,k1,k2,k3⟩:=bT hE (m:=m+5) h hw;exact⟨s,k1,k2,fun _=>k3,fun hh=>by omega,fun hh=>by omega,fun hh=>by omega⟩
    . cases hL
      obtain⟨s,k1,k2,k3⟩:=Ca hE (m:=m+5) h hw;exact⟨s,k1,k2,fun hh=>by omega,fun _=>k3,fun hh=>by omega,fun hh=>by omega⟩
    . cases hL
      obtain⟨s,k1,k2,k3⟩:=Ca hE (m:=m+5) h hw;exact⟨s,k1,k2,fun hh=>by omega,fun _=>k3,fun hh=>by omega,fun hh=>by omega⟩
    . cases hL
      obtain⟨s,k1,k2,k3⟩:=Uc hE (m:=m+4) h hw;exact⟨s,k1,k2,fun hh=>by omega,fun hh=>by omega,fun _=>k3,fun hh=>by omega⟩
    . cases hL
      obtain⟨s,k1,k2,k3⟩:=kF hE (m:=m) h hw;exact⟨s,k1,k2,fun hh=>by omega,fun hh=>by omega,fun hh=>by omega,fun _=>k3⟩
    . simp at hL) h hw
 match ss,h3 with
 | [a,b,c,e,f],_ =>
  obtain⟨b0,rfl,_⟩:=(h4 0 _ rfl).1 rfl;obtain⟨z1,rfl⟩:=(h4 1 _ rfl).2.1 (.inl rfl);obtain⟨z2,rfl⟩:=(h4 2 _ rfl).2.1 (.inr rfl);obtain⟨v3,l3,rfl,hv3⟩:=(h4 3 _ rfl).2.2.1 rfl;obtain⟨v4,l4,rfl,hv4⟩:=(h4 4 _ rfl).2.2.2 rfl;exact⟨_,⟨b0,z1,z2,l3,l4⟩,h1,⟨h2,.inl (by unfold u9;rw[hu])⟩,v3,v4,rfl,hv3,hv4⟩
omit hE in
def Ye(acs:List AV)(G:Glo):Prop:=acs=[.str G.name,.int .i64 G.ty,.int .i64 G.size,.int .i64 G.at_]
theorem vR{m n:Nat}{cs:List Value}{d:DataW H}{ps:List MemPlace}(h:DataW.trod enc P W base spare held n 46 cs=some (d,ps))(hw:Wt P 46 d):∃acs G,R8 P (m+2) 46 d=some acs/\(acs.length=P.cellsOf 46/\(u9 P 46=true\/acs.length=1))/\Ye acs G:=by
 obtain ⟨fs,hu,hm,_⟩:=(hE.ti 46 Ck rfl).desc;have hm:fs.toList.map (fun f=>(f.type,f.offset))=[(9,0),(3,1),(3,2),(3,3)]:=hm;obtain⟨ss,h1,h2,h3,h4⟩:=Z9 (m:=m+1) (Qs:=fun i s=>(i=0->∃b,s=[.str b]/\b.length<=140737488355328)/\(0<i->∃z,s=[.int .i64 z])) hu hm
  (by simp only[Kp,Eg hE,Tz hE,and_self]) (by simp only[vP hE,zqg,zqh,zqv,zqw,Nat.reduceAdd,Eg hE,Tz hE])
  (fun i ty off hL n cs d ps h hw=>by
    rcases i with _|_|_|_|i
    . cases hL
      obtain⟨s,k1,k2,k3⟩:=bT hE (m:=m) h hw;exact⟨s,k1,k2,fun _=>k3,fun hh=>by omega⟩
    iterate 3
     . cases hL
       obtain⟨s,k1,k2,k3⟩:=Ca hE (m:=m) h hw;exact⟨s,k1,k2,fun hh=>by omega,fun _=>k3⟩
    . simp at hL) h hw
 match ss,h3 with
 | [a,b,c,e],_ =>
  obtain⟨b0,rfl,_⟩:=(h4 0 _ rfl).1 rfl;obtain⟨z1,rfl⟩:=(h4 1 _ rfl).2 (by omega);obtain⟨z2,rfl⟩:=(h4 2 _ rfl).2 (by omega);obtain⟨z3,rfl⟩:=(h4 3 _ rfl).2 (by omega);exact⟨_,⟨b0,z1,z2,z3⟩,h1,⟨h2,.inl (by unfold u9;rw[hu])⟩,rfl⟩
theorem yZ{n:Nat}{cs:List Value}{d:DataW H}{ps:List MemPlace}(h:DataW.trod enc P W base spare held n 25 cs=some (d,ps))(hw:Wt P 25 d):∃gv fv,∃M:Modl,R8 P 9 25 d=some [gv,fv]/\Vj P 46 Ye gv M.gs/\Vj P 49 (Ud P) fv M.fs:=by
 obtain ⟨fs,hu,hm,_⟩:=(hE.ti 25 Sd rfl).desc;have hm:fs.toList.map (fun f=>(f.type,f.offset))=[(22,0),(23,1)]:=hm;obtain⟨ss,h1,h2,h3,h4⟩:=Z9 (m:=8) (Qs:=fun i s=>(i=0->∃v l,s=[v]/\Vj P 46 Ye v l)/\(i=1->∃v l,s=[v]/\Vj P 49 (Ud P) v l)) hu hm
  (by simp only[Kp,bS hE,and_self]) (by simp only[LX hE,zqg,zqh,zqv,zqw,Nat.reduceAdd,bS hE,mT hE])
  (fun i ty off hL n cs d ps h hw=>by
    rcases i with _|_|i
    . cases hL
      obtain⟨v,l,k1,k2⟩:=u5 (Q:=Ye) (m:=7) (yX hE) (by rw[vP hE];decide) (fun n cs d ps h hw=>vR hE (m:=5) h hw) h hw;exact⟨[v],k1,by rw[bS hE];rfl,fun _=>⟨v,l,rfl,k2⟩,fun hh=>by omega⟩
    . cases hL
      obtain⟨v,l,k1,k2⟩:=u5 (Q:=Ud P) (m:=7) (yW hE) (by rw[vO hE];decide) (fun n cs d ps h hw=>vQ hE (m:=0) h hw) h hw;exact⟨[v],k1,by rw[mT hE];rfl,fun hh=>by omega,fun _=>⟨v,l,rfl,k2⟩⟩
    . simp at hL) h hw
 match ss,h3 with
 | [a,b],_ =>
  obtain⟨v0,l0,rfl,hv0⟩:=(h4 0 _ rfl).1 rfl;obtain⟨v1,l1,rfl,hv1⟩:=(h4 1 _ rfl).2 rfl;exact⟨v0,v1,⟨l0,l1⟩,h1,hv0,hv1⟩
omit hE in
theorem bU{t:TypeId}{acs:List AV}(h:u9 P t=true):seeV P t acs=.agg acs:=by unfold seeV;rw[h];rfl
theorem vS:P.bytesOf 3=8:=Ef hE ti3
theorem zA:P.bytesOf 56=88:=Ef hE DI
theorem zB:P.bytesOf 54=56:=Ef hE DG
theorem ET:P.bytesOf 49=80:=Ef hE DF
theorem EU:P.bytesOf 46=40:=Ef hE DD
theorem zC{t:TypeId}{x:TI}{L:List (Nat×Nat)}{fl:Bool}(ht:A0.ti t=some x)(hd:x.desc=.struct L fl):u9 P t=true:=by
 have h:=(hE.ti t x ht).desc;unfold H4 at h;rw[hd]at h;obtain⟨fs,hu,_⟩:=h;unfold u9;rw[hu]
theorem A0Z:u9 P 3=false:=by unfold u9;rw[vL hE]
theorem kG{v:AV}{l:List Int}(hq:Vj P 3 kD v l){Z:Nat->Prop}{h:Heap}:Fz Z h v (fslN (ints l)):=hq.fz fun r X hr=>by
 have hr:r=[.int .i64 X]:=hr;subst hr
 have:seeV P 3 [.int .i64 X]=.int .i64 X:=by unfold seeV;rw[A0Z hE];rfl
 rw[this];exact .int _ _
omit hE in
theorem fS{Z:Nat->Prop}{h:Heap}{xs ys:List AV}(hl:xs.length=ys.length)(hc:ys.all clo=true)(hz:∀p∈xs.zip ys,Fz Z h p.1 p.2):Fz Z h (.agg xs) (.agg ys):=by
 refine .agg hl (fun i x y hx hy=>hz (x,y) ?_) hc;exact List.mem_of_getElem? (i:=i) (by rw[List.getElem?_zip_eq_some];exact⟨hx,hy⟩)
theorem zD{acs:List AV}{I:Ins}(hq:Hm P acs I){Z:Nat->Prop}{h:Heap}:Fz Z h (seeV P 56 acs) I.F:=by
 obtain⟨av,rfl,h1,_⟩:=hq;rw[bU (zC hE DI rfl)];refine fS rfl rfl fun p hp=>?_
 simp only[zkd,zke,zqx,zqr,or_false]at hp;rcases hp with rfl|rfl|rfl|rfl|rfl|rfl|rfl|rfl
 iterate 6
  . exact .int _ _
 . exact .str _
 . exact kG hE h1
theorem zE{acs:List AV}{B:Blk}(hq:Hn P acs B){Z:Nat->Prop}{h:Heap}:Fz Z h (seeV P 54 acs) B.F:=by
 obtain⟨av,rfl,h1⟩:=hq;rw[bU (zC hE DG rfl)];refine fS rfl rfl fun p hp=>?_
 simp only[zkd,zke,zqx,zqr,or_false]at hp;rcases hp with rfl|rfl|rfl|rfl|rfl
 . exact h1.fz fun r X hr=>zD hE hr
 iterate 4
  . exact .int _ _
theorem EV{acs:List AV}{C:Cod}(hq:Ud P acs C){Z:Nat->Prop}{h:Heap}:Fz Z h (seeV P 49 acs) C.F:=by
 obtain⟨rv,bv,rfl,h1,h2⟩:=hq;rw[bU (zC hE DF rfl)];refine fS rfl rfl fun p hp=>?_
 simp only[zkd,zke,zqx,zqr,or_false]at hp;rcases hp with rfl|rfl|rfl|rfl|rfl
 . exact .str _
 . exact .int _ _
 . exact .int _ _
 . exact kG hE h1
 . exact h2.fz fun r X hr=>zE hE hr
theorem EW{acs:List AV}{G:Glo}(hq:Ye acs G){Z:Nat->Prop}{h:Heap}:Fz Z h (seeV P 46 acs) G.F:=by
 have hq:acs=_:=hq;subst hq;rw[bU (zC hE DD rfl)];refine fS rfl rfl fun p hp=>?_
 simp only[zkd,zke,zqx,zqr,or_false]at hp;rcases hp with rfl|rfl|rfl|rfl
 . exact .str _
 iterate 3
  . exact .int _ _
theorem Ho{n b k:Nat}(h:n*b<=reachBytes)(hb:b=k):n*k<=bigN:=by
 subst hb;exact zkz h (by decide)
theorem vT{acs:List AV}{I:Ins}(hq:Hm P acs I):I.sok:=by
 obtain⟨av,_,h1,h2⟩:=hq;exact⟨Ho hE h1.2 (vS hE),h2⟩
theorem vU{acs:List AV}{B:Blk}(hq:Hn P acs B):B.sok:=by
 obtain ⟨av,_,h1⟩:=hq;have hx:∀x∈B.code,x.sok:=fun x hx=>by
  obtain⟨r,hr⟩:=h1.mem hx;exact vT hE hr
 exact⟨⟨fun x h=>(hx x h).1,Ho hE h1.2 (zA hE)⟩,hx⟩
theorem zF{acs:List AV}{C:Cod}(hq:Ud P acs C):C.sok:=by
 obtain ⟨rv,bv,_,h1,h2⟩:=hq;have hx:∀x∈C.blocks,x.sok:=fun x hx=>by
  obtain⟨r,hr⟩:=h2.mem hx;exact vU hE hr
 exact⟨⟨Ho hE h1.2 (vS hE),fun x h=>(hx x h).1,Ho hE h2.2 (zB hE)⟩,hx⟩
theorem EX{gv fv:AV}{M:Modl}(h2:Vj P 46 Ye gv M.gs)(h3:Vj P 49 (Ud P) fv M.fs):M.ok:=by
 refine⟨fun C hC=>?_,?_,Ho hE h2.2 (EU hE)⟩
 . obtain⟨r,hr⟩:=h3.mem hC
   exact zF hE hr
 . have:=Ho hE h3.2 (ET hE)
   simp only[bigN]at this|-;omega
end
end Go.Proofs.AmEnv
namespace Go.AM
theorem vV{E:Env}{f:Nat}{args:List AV}{h:Heap}(hg:E.gc f=false)(ht:E.told f=true):callω E f args h=toldA args h:=by
 refine (Aw (E:=E) f args h).unique ?_;have e:∀m,G1 E (ev E m) f args h=toldA args h:=fun m=>by
  unfold G1;rw[hg];show N0 E (ev E m) f args h=_
  unfold N0;rw[ht];rfl
 simp only[e];exact .const
end Go.AM
namespace Go.Proofs.AmEnv
open Go Go.AM
theorem fT(hg:A0.gc 63=false)(ht:A0.told 63=true):TC A0 63 R3:=by
 intro args rs hgc Z h xs hl hz hb;unfold R3 at hgc;split at hgc
 . rename_i s p
   split at hgc
   . rename_i hs
     cases hgc
     match xs,hl with
     | [x,y],_ =>
      have h0:=hz 0 x (.str s) rfl rfl;have h1:=hz 1 y (.str p) rfl rfl;cases h0;cases h1;refine⟨[.bool (contS p s)],h,Z,fun _=>none,?_,MR hb,VL.cons (.fz (.bool _)) VL.nil,zku _,fun id hz=>⟨hz,rfl⟩,fun id hz=>.inl hz,fun id _=>rfl,fun id L e=>(by cases e),[],rfl,fun id hi=>(zqr hi).elim⟩;rw[vV hg ht];show(bif Nat.ble (j5 s) 4000000000||oneB p then(match contS p s with|true=>Res.ok (.bool true) h|false=>.ok (.bool false) h)else .bad)=_
      have hs:(Nat.ble (j5 s) 4000000000||oneB p)=true:=hs;rw[hs];cases contS p s<;>rfl
   . cases hgc
 . cases hgc
def F4(T:Nat->Option (List AV->Option (List AV)))(f:Nat)(g:List AV->Option (List AV))(k:Nat):Option (List AV->Option (List AV)):=bif Nat.beq k f then some g else T k
theorem B8{E:Env}{T:Nat->Option (List AV->Option (List AV))}{F:Nat->Option PFn}{f:Nat}{g:List AV->Option (List AV)}(hP:PEok ⟨E,T,F⟩)(h:TC E f g):PEok ⟨E,F4 T f g,F⟩:=by
 refine⟨hP.gl,hP.ti,fun k q e=>?_,hP.fn⟩;have e:(bif Nat.beq k f then some g else T k)=some q:=e;cases hb:Nat.beq k f with
 |true=>rw[hb]at e;cases e;rw[Nat.eq_of_beq_eq_true hb];exact h
 |false=>rw[hb]at e;exact hP.T k q e
def T0(k:Nat):Option (List AV->Option (List AV)):=none
section
variable (hP:PEok ⟨A0,T0,A1⟩)
include hP
omit hP in
def T1:=F4 T0 13 F3
theorem P1:PEok ⟨A0,T1,A1⟩:=B8 hP (C0 hP fun l h=>Se h)
omit hP in
def T2:=F4 T1 11 R2
theorem P2:PEok ⟨A0,T2,A1⟩:=B8 (P1 hP) (C0 (P1 hP) fun p h=>Sf (by simp only[bigN]at h|-;omega))
omit hP in
def T3:=F4 T2 91 Y9
theorem P3:PEok ⟨A0,T3,A1⟩:=B8 (P2 hP) (C0 (P2 hP) fun x h=>Oe rfl h)
omit hP in
def T4:=F4 T3 76 G7
theorem P4:PEok ⟨A0,T4,A1⟩:=B8 (P3 hP) (C0 (P3 hP) fun p h=>Of rfl h)
omit hP in
def T5:=F4 T4 86 V2
theorem P5:PEok ⟨A0,T5,A1⟩:=B8 (P4 hP) (C0 (P4 hP) fun l h=>Lj rfl h.1 h.2)
omit hP in
def T6:=F4 T5 61 V3
theorem P6:PEok ⟨A0,T6,A1⟩:=B8 (P5 hP) (C0 (P5 hP) fun p h=>Ll rfl h.1 h.2)
omit hP in
def T7:=F4 T6 77 y4
theorem P7:PEok ⟨A0,T7,A1⟩:=B8 (P6 hP) (C0 (P6 hP) fun l h=>Lm rfl h.1 h.2)
omit hP in
def T8:=F4 T7 47 y5
theorem P8:PEok ⟨A0,T8,A1⟩:=B8 (P7 hP) (C0 (P7 hP) fun p h=>Ln rfl h.1 h.2)
omit hP in
def T9:=F4 T8 62 m8
theorem P9:PEok ⟨A0,T9,A1⟩:=B8 (P8 hP) (C0 (P8 hP) fun x h=>Sm rfl rfl h)
omit hP in
def T10:=F4 T9 30 Au
theorem P10:PEok ⟨A0,T10,A1⟩:=B8 (P9 hP) (C0 (P9 hP) fun p h=>Sn rfl rfl h)
omit hP in
def T11:=F4 T10 43 F3
theorem P11:PEok ⟨A0,T11,A1⟩:=B8 (P10 hP) (tN (P10 hP) rfl)
omit hP in
def T12:=F4 T11 45 m0
theorem P12:PEok ⟨A0,T12,A1⟩:=B8 (P11 hP) (pF (P11 hP) rfl)
omit hP in
def T13:=F4 T12 44 Bs
theorem P13:PEok ⟨A0,T13,A1⟩:=B8 (P12 hP) (pG (P12 hP) rfl)
omit hP in
def T14:=F4 T13 90 R2
theorem P14:PEok ⟨A0,T14,A1⟩:=B8 (P13 hP) (C0 (P13 hP) fun p h=>eO h)
omit hP in
def T15:=F4 T14 85 G7
theorem P15:PEok ⟨A0,T15,A1⟩:=B8 (P14 hP) (C0 (P14 hP) fun p h=>Og rfl h)
omit hP in
def T16:=F4 T15 75 X0
theorem P16:PEok ⟨A0,T16,A1⟩:=B8 (P15 hP) (C0 (P15 hP) fun p h=>eP rfl rfl h)
omit hP in
def T17:=F4 T16 63 R3
theorem P17:PEok ⟨A0,T17,A1⟩:=B8 (P16 hP) (fT rfl rfl)
omit hP in
def T18:=F4 T17 19 N1
theorem P18:PEok ⟨A0,T18,A1⟩:=B8 (P17 hP) (aP (P17 hP))
omit hP in
def T19:=F4 T18 54 D6
theorem P19:PEok ⟨A0,T19,A1⟩:=B8 (P18 hP) (eQ (P18 hP))
omit hP in
def T20:=F4 T19 69 Dt
theorem P20:PEok ⟨A0,T20,A1⟩:=B8 (P19 hP) (jI (P19 hP))
omit hP in
def T21:=F4 T20 56 F8
theorem P21:PEok ⟨A0,T21,A1⟩:=B8 (P20 hP) (aQ (P20 hP))
omit hP in
def T22:=F4 T21 33 D1
theorem P22:PEok ⟨A0,T22,A1⟩:=B8 (P21 hP) (Du rfl (P21 hP))
omit hP in
def T23:=F4 T22 37 K7
theorem P23:PEok ⟨A0,T23,A1⟩:=B8 (P22 hP) (Su (P22 hP))
omit hP in
def T24:=F4 T23 65 Z4
theorem P24:PEok ⟨A0,T24,A1⟩:=B8 (P23 hP) (aS (P23 hP))
omit hP in
def T25:=F4 T24 64 An
theorem P25:PEok ⟨A0,T25,A1⟩:=B8 (P24 hP) (eR rfl (P24 hP))
omit hP in
def T26:=F4 T25 79 Dv
theorem P26:PEok ⟨A0,T26,A1⟩:=B8 (P25 hP) (jK (P25 hP))
omit hP in
def T27:=F4 T26 66 m7
theorem P27:PEok ⟨A0,T27,A1⟩:=B8 (P26 hP) (eS rfl (P26 hP))
omit hP in
def T28:=F4 T27 21 L4
theorem P28:PEok ⟨A0,T28,A1⟩:=B8 (P27 hP) (aT rfl rfl (P27 hP))
omit hP in
def T29:=F4 T28 51 Dx
theorem P29:PEok ⟨A0,T29,A1⟩:=B8 (P28 hP) (jL rfl (P28 hP))
omit hP in
def T30:=F4 T29 67 E2
theorem P30:PEok ⟨A0,T30,A1⟩:=B8 (P29 hP) (Dy rfl (P29 hP))
omit hP in
def T31:=F4 T30 52 I9
theorem P31:PEok ⟨A0,T31,A1⟩:=B8 (P30 hP) (Dz rfl rfl rfl rfl rfl rfl (P30 hP))
omit hP in
def T32:=F4 T31 53 K8
theorem P32:PEok ⟨A0,T32,A1⟩:=B8 (P31 hP) (Fp rfl rfl rfl rfl (P31 hP))
omit hP in
def T33:=F4 T32 34 C9
theorem P33:PEok ⟨A0,T33,A1⟩:=B8 (P32 hP) (Fq rfl rfl rfl (P32 hP))
omit hP in
def T34:=F4 T33 35 I0
theorem P34:PEok ⟨A0,T34,A1⟩:=B8 (P33 hP) (Jk rfl (P33 hP))
omit hP in
def T35:=F4 T34 20 G9
theorem P35:PEok ⟨A0,T35,A1⟩:=B8 (P34 hP) (Hi rfl rfl rfl rfl rfl (P34 hP))
omit hP in
def T36:=F4 T35 7 O6
theorem P36:PEok ⟨A0,T36,A1⟩:=B8 (P35 hP) (eT rfl rfl rfl (P35 hP))
omit hP in
def T37:=F4 T36 6 r7
theorem P37:PEok ⟨A0,T37,A1⟩:=B8 (P36 hP) (aW (P36 hP))
omit hP in
def T38:=F4 T37 15 Z6
theorem P38:PEok ⟨A0,T38,A1⟩:=B8 (P37 hP) (bK rfl rfl (P37 hP))
omit hP in
def T39:=F4 T38 59 H2
theorem P39:PEok ⟨A0,T39,A1⟩:=B8 (P38 hP) (Ts rfl rfl rfl (P38 hP))
omit hP in
def T40:=F4 T39 25 N4
theorem P40:PEok ⟨A0,T40,A1⟩:=B8 (P39 hP) (bM rfl rfl rfl rfl rfl rfl (P39 hP))
omit hP in
def T41:=F4 T40 27 i6
theorem P41:PEok ⟨A0,T41,A1⟩:=B8 (P40 hP) (Wg (P40 hP))
omit hP in
def T42:=F4 T41 28 i7
theorem P42:PEok ⟨A0,T42,A1⟩:=B8 (P41 hP) (Wh (P41 hP))
omit hP in
def T43:=F4 T42 29 j1
theorem P43:PEok ⟨A0,T43,A1⟩:=B8 (P42 hP) (Wi (P42 hP))
omit hP in
def T44:=F4 T43 26 j2
theorem P44:PEok ⟨A0,T44,A1⟩:=B8 (P43 hP) (Wj (P43 hP))
omit hP in
def T45:=F4 T44 16 R4
theorem P45:PEok ⟨A0,T45,A1⟩:=B8 (P44 hP) (Tv rfl rfl rfl rfl rfl rfl (P44 hP))
omit hP in
def T46:=F4 T45 88 Tg
theorem P46:PEok ⟨A0,T46,A1⟩:=B8 (P45 hP) (tX (P45 hP))
omit hP in
def T47:=F4 T46 80 Ar
theorem P47:PEok ⟨A0,T47,A1⟩:=B8 (P46 hP) (eW (P46 hP))
omit hP in
def T48:=F4 T47 81 Jl
theorem P48:PEok ⟨A0,T48,A1⟩:=B8 (P47 hP) (pO rfl (P47 hP))
omit hP in
def T49:=F4 T48 89 Ti
theorem P49:PEok ⟨A0,T49,A1⟩:=B8 (P48 hP) (tY (P48 hP))
omit hP in
def T50:=F4 T49 82 As
theorem P50:PEok ⟨A0,T50,A1⟩:=B8 (P49 hP) (eY (P49 hP))
omit hP in
def T51:=F4 T50 83 Jm
theorem P51:PEok ⟨A0,T51,A1⟩:=B8 (P50 hP) (pQ rfl (P50 hP))
omit hP in
def T52:=F4 T51 71 Tk
theorem P52:PEok ⟨A0,T52,A1⟩:=B8 (P51 hP) (tZ rfl rfl (P51 hP))
omit hP in
def T53:=F4 T52 72 Tl
theorem P53:PEok ⟨A0,T53,A1⟩:=B8 (P52 hP) (uA rfl rfl (P52 hP))
omit hP in
def T54:=F4 T53 55 V4
theorem P54:PEok ⟨A0,T54,A1⟩:=B8 (P53 hP) (fB rfl rfl (P53 hP))
omit hP in
def T55:=F4 T54 10 z6
theorem P55:PEok ⟨A0,T55,A1⟩:=B8 (P54 hP) (pZ rfl rfl rfl rfl rfl rfl rfl rfl rfl rfl rfl (P54 hP))
omit hP in
def T56:=F4 T55 12 s4
theorem P56:PEok ⟨A0,T56,A1⟩:=B8 (P55 hP) (jW rfl (P55 hP))
omit hP in
def T57:=F4 T56 48 X3
theorem P57:PEok ⟨A0,T57,A1⟩:=B8 (P56 hP) (Ty (P56 hP))
omit hP in
def T58:=F4 T57 49 s8
theorem P58:PEok ⟨A0,T58,A1⟩:=B8 (P57 hP) (bR rfl (P57 hP))
omit hP in
def T59:=F4 T58 31 j3
theorem P59:PEok ⟨A0,T59,A1⟩:=B8 (P58 hP) (Wm rfl rfl (P58 hP))
omit hP in
def T60:=F4 T59 18 Yc
theorem P60:PEok ⟨A0,T60,A1⟩:=B8 (P59 hP) (yU (P59 hP))
omit hP in
def T61:=F4 T60 17 O7
theorem P61:PEok ⟨A0,T61,A1⟩:=B8 (P60 hP) (Ow rfl rfl (P60 hP))
end
end Go.Proofs.AmEnv
