/- What this program's functions do, at any data. Conditions: none. -/
import Derived.Test.YthoghikipmifeaaGenA
set_option linter.unusedVariables false
set_option linter.unusedSimpArgs false
set_option linter.unusedSectionVars false
set_option linter.defProp false
set_option maxRecDepth 100000
noncomputable section
namespace Go.Proofs.AmEnv
open Go Go.AM
variable {T:Nat->Option (List AV->Option (List AV))}
section
variable {m:Modl} {s s2:Mst} {fa fd fo n n':Bool} {r r2 a:List Int} {c:Cod} {l:List Ins} {k:Nat} {at0:Int} {tch t0:List Nat} {x:Ins} {cs xs:List AV} {cz xz:Nat}
theorem wG (R:RunT T) (hb:evP ⟨A0,T,A6⟩ (.body 41 [.ptr 0 0 0,x.F,.msl 1 0 r.length 1] ⟨D9 true fd (fo || n) false m s r,nE true fd (fo || n),[]⟩)=some (.val [] ⟨D9 true fd (fo || n) n' m s2 r2,nE true fd (fo || n),t0⟩)) :
 ∃ t1,∀ tch,evP ⟨A0,T,A6⟩ (.call 41 [.ptr 0 0 0,x.F,.msl (nE fa fd fo + nB n + 1) 0 r.length 1] ⟨D9 fa fd fo n m s a ++ [.row 1 cs cz,.row 0 (ints r) 1,.row 1 xs xz],nE fa fd fo,tch⟩)=some (.val [] ⟨kP fa fd fo n n' m s2 a (nE fa fd fo + nB n + 3) ++ (.row 1 cs cz :: .row 0 (ints r2) 1 :: .row 1 xs xz :: oG n' s2.out),nE fa fd fo,t1 ++ tch⟩):=by
 refine ⟨((t0.filter (· < (Lu fa fd fo n (nE fa fd fo + nB n + 1)).length)).map fun j=>(Lu fa fd fo n (nE fa fd fo + nB n + 1)).getD j 0),fun tch=>gR (ids:=Lu fa fd fo n (nE fa fd fo + nB n + 1)) (args':=[.ptr 0 0 0,x.F,.msl 1 0 r.length 1]) (Kf:=⟨D9 true fd (fo || n) false m s r,nE true fd (fo || n),[]⟩) R.hC rfl ?_ ?_ ?_ hb ?_ ?_⟩ <;> cases fa <;> cases fd <;> cases fo <;> cases n <;> cases n' <;> rfl
theorem rE {st e:Int} (R:RunT T) (hb:evP ⟨A0,T,A6⟩ (.body 41 [.ptr 0 0 0,x.F,.msl 1 0 r.length 1] ⟨D9 true fd (fo || n) false m s r,nE true fd (fo || n),[]⟩)=some (.pan (D1 st e) ⟨D9 true fd (fo || n) n' m s2 r,nE true fd (fo || n),t0⟩)) :
 ∃ t1,∀ tch,evP ⟨A0,T,A6⟩ (.call 41 [.ptr 0 0 0,x.F,.msl (nE fa fd fo + nB n + 1) 0 r.length 1] ⟨D9 fa fd fo n m s a ++ [.row 1 cs cz,.row 0 (ints r) 1,.row 1 xs xz],nE fa fd fo,tch⟩)=some (.pan (D1 st e) ⟨kP fa fd fo n n' m s2 a (nE fa fd fo + nB n + 3) ++ (.row 1 cs cz :: .row 0 (ints r) 1 :: .row 1 xs xz :: oG n' s2.out),nE fa fd fo,t1 ++ tch⟩):=by
 refine ⟨((t0.filter (· < (Lu fa fd fo n (nE fa fd fo + nB n + 1)).length)).map fun j=>(Lu fa fd fo n (nE fa fd fo + nB n + 1)).getD j 0),fun tch=>Wl (ids:=Lu fa fd fo n (nE fa fd fo + nB n + 1)) (args':=[.ptr 0 0 0,x.F,.msl 1 0 r.length 1]) (Kf:=⟨D9 true fd (fo || n) false m s r,nE true fd (fo || n),[]⟩) R.hC rfl ?_ ?_ ?_ hb ?_ ?_⟩ <;> cases fa <;> cases fd <;> cases fo <;> cases n <;> cases n' <;> rfl
set_option maxHeartbeats 16000000 in
theorem rF (R:RunT T) (hk:k < l.length) (hl:l.length≤2000000000000) (h:1≤s.steps) (hs:s.steps≤20000) (hop:l[k].op=9) (hb:evP ⟨A0,T,A6⟩ (.body 41 [.ptr 0 0 0,l[k].F,.msl 1 0 r.length 1] ⟨D9 true fd (fo || n) false m (stp s) r,nE true fd (fo || n),[]⟩)=some (.val [] ⟨D9 true fd (fo || n) n' m s2 r2,nE true fd (fo || n),t0⟩)) :
 ∃ t1,evP ⟨A0,T,A6⟩ (.code U4 (O5 fa fd fo n r at0 ++ frI l k) (msL fa fd fo n m s a c r tch))=some (.ok .normal (O5 fa fd fo (n || n') r at0 ++ frI l (k + 1)) (msL fa fd fo (n || n') m s2 a c r2 t1)):=by
 have hlt:decide ((k:Int) < (l.length:Int))=true:=by simp [hk]
 have hi:=B4 (F:=Ins.F) hk
 have hw:=D3 (i:=k) (by omega)
 have st:=fun d o rest ext tch=>d8 (T:=T) (m:=m) (s:=s) (d:=d) (o:=o) (rest:=rest) (ext:=ext) (tch:=tch) R.hS h hs
 have h9:(l[k].op=9)=True:=eq_true hop
 obtain ⟨t1,hd⟩:=wG (fa:=fa) (a:=a) (cs:=[c.F]) (cz:=5) (xs:=[l[k].F]) (xz:=8) R hb
 clear hb
 unfold U4 Om Ol Ok Oj Oi O5 frI msL D9 Mo
 unfold D9 at hd
 unfold mB at st hd ⊢
 simp only [Ins.F,Cod.F,stp] at hi st hd ⊢
 cases fa <;> cases fd <;> cases fo <;> cases n <;> cases n' <;> (
  simp only [dA,dR,oA,oR,aR,nB,nE,kP,oG,dd,D9,mB,Nat.reduceAdd,List.cons_append,List.nil_append,List.append_nil,Bool.or_false,Bool.or_true] at hd ⊢
  simp -implicitDefEqProofs only [hlt,hi,st,hd,h9,hw,XP,seval]
  exact ⟨_,rfl⟩)
set_option maxHeartbeats 16000000 in
theorem nQ {z e:Int} (R:RunT T) (hk:k < l.length) (hl:l.length≤2000000000000) (h:1≤s.steps) (hs:s.steps≤20000) (hop:l[k].op=9) (hb:evP ⟨A0,T,A6⟩ (.body 41 [.ptr 0 0 0,l[k].F,.msl 1 0 r.length 1] ⟨D9 true fd (fo || n) false m (stp s) r,nE true fd (fo || n),[]⟩)=some (.pan (D1 z e) ⟨D9 true fd (fo || n) n' m s2 r,nE true fd (fo || n),t0⟩)) :
 ∃ t1,evP ⟨A0,T,A6⟩ (.code U4 (O5 fa fd fo n r at0 ++ frI l k) (msL fa fd fo n m s a c r tch))=some (.pan (D1 z e) ⟨D9 fa fd fo (n || n') m s2 a,nE fa fd fo,t1⟩):=by
 have hlt:decide ((k:Int) < (l.length:Int))=true:=by simp [hk]
 have hi:=B4 (F:=Ins.F) hk
 have st:=fun d o rest ext tch=>d8 (T:=T) (m:=m) (s:=s) (d:=d) (o:=o) (rest:=rest) (ext:=ext) (tch:=tch) R.hS h hs
 have h9:(l[k].op=9)=True:=eq_true hop
 obtain ⟨t1,hd⟩:=rE (fa:=fa) (a:=a) (cs:=[c.F]) (cz:=5) (xs:=[l[k].F]) (xz:=8) R hb
 clear hb
 unfold D1 at hd ⊢
 unfold U4 Om Ol Ok Oj Oi O5 frI msL D9 Mo
 unfold D9 at hd
 unfold mB at st hd ⊢
 simp only [Ins.F,Cod.F,stp] at hi st hd ⊢
 cases fa <;> cases fd <;> cases fo <;> cases n <;> cases n' <;> (
  simp only [dA,dR,oA,oR,aR,nB,nE,kP,oG,dd,D9,mB,Nat.reduceAdd,List.cons_append,List.nil_append,List.append_nil,Bool.or_false,Bool.or_true] at hd ⊢
  simp -implicitDefEqProofs only [hlt,hi,st,hd,h9,XP,seval]
  exact ⟨_,rfl⟩)
theorem MK:evP ⟨A0,T,A6⟩ (.code U4 (O5 fa fd fo n r at0 ++ frI l l.length) (msL fa fd fo n m s a c r2 tch))=some (.ok (.exit 2) ((49,.bool false) :: (O5 fa fd fo n r at0 ++ frI l l.length)) (msL fa fd fo n m s a c r2 tch)):=by
 have hlt:decide ((l.length:Int) < (l.length:Int))=false:=by simp
 unfold U4 Om Ol Ok Oj Oi O5 frI
 simp -implicitDefEqProofs only [hlt,XP,seval]
end
end Go.Proofs.AmEnv
set_option maxRecDepth 100000
namespace Go.Proofs.AmEnv
open Go Go.AM
variable {T:Nat->Option (List AV->Option (List AV))}
section
variable {m:Modl} {s:Mst} {fa fd fo n:Bool} {r a:List Int} {c:Cod} {i:Nat} {tch:List Nat}
theorem DN (R:RunT T) (hi:i < c.blocks.length) (h:¬ 1≤s.steps):∃ t1,evP ⟨A0,T,A6⟩ (.code N0 (O5 fa fd fo n r (i:Int)) (msL fa fd fo n m s a c r tch))=some (.pan (D1 3 0) ⟨D9 fa fd fo n m s a ++ [Mo c,.row 0 (ints r) 1],nE fa fd fo,t1⟩):=by
 have st:=fun d o rest ext tch=>fH (T:=T) (m:=m) (s:=s) (d:=d) (o:=o) (rest:=rest) (ext:=ext) (tch:=tch) R.hS h
 unfold N0 Fi Fh Fg Oq Oo On O5 msL D9 Mo
 unfold mB at st ⊢
 simp only [Cod.F,D1] at st ⊢
 cases fa <;> cases fd <;> cases fo <;> cases n <;> (
  simp only [dA,dR,oA,oR,aR,nB,nE]
  simp -implicitDefEqProofs only [st,XP,seval]
  exact ⟨_,rfl⟩)
theorem DO (R:RunT T) (hi:i < c.blocks.length) (h:1≤s.steps) (hs:s.steps≤20000) (hk:c.blocks[i].e.kind=3) (ha:c.blocks[i].e.a < 0) (h1:0≤s.calls) (h2:s.calls≤40):∃ t1,evP ⟨A0,T,A6⟩ (.code N0 (O5 fa fd fo n r (i:Int)) (msL fa fd fo n m s a c r tch))=some (.ok .ret [(6,.int .i64 0)] ⟨D9 fa fd fo n m { stp s with calls:=s.calls - 1 } a,nE fa fd fo,t1⟩):=by
 have st:=fun d o rest ext tch=>d8 (T:=T) (m:=m) (s:=s) (d:=d) (o:=o) (rest:=rest) (ext:=ext) (tch:=tch) R.hS h hs
 have hb:=B4 (F:=Blk.F) hi
 have hc:=Dn (n:=s.calls - 1) (by omega) (by omega)
 unfold N0 Fi Fh Fg Oq Oo On O5 msL D9 Mo
 unfold mB at st ⊢
 simp only [Cod.F,Blk.F,stp] at hb st ⊢
 cases fa <;> cases fd <;> cases fo <;> cases n <;> (
  simp only [dA,dR,oA,oR,aR,nB,nE,D9,mB,Nat.reduceAdd,List.cons_append,List.nil_append,List.append_nil]
  simp -implicitDefEqProofs only [st,hb,hc,eq_true hk,eq_true ha,XP,seval]
  exact ⟨_,rfl⟩)
theorem DQ (R:RunT T) (hi:i < c.blocks.length) (h:1≤s.steps) (hs:s.steps≤20000) (hk:c.blocks[i].e.kind=3) (ha:0≤c.blocks[i].e.a∧c.blocks[i].e.a < r.length) (h1:0≤s.calls) (h2:s.calls≤40):∃ t1,evP ⟨A0,T,A6⟩ (.code N0 (O5 fa fd fo n r (i:Int)) (msL fa fd fo n m s a c r tch))=some (.ok .ret [(6,.int .i64 (at' r c.blocks[i].e.a))] ⟨D9 fa fd fo n m { stp s with calls:=s.calls - 1 } a,nE fa fd fo,t1⟩):=by
 have st:=fun d o rest ext tch=>d8 (T:=T) (m:=m) (s:=s) (d:=d) (o:=o) (rest:=rest) (ext:=ext) (tch:=tch) R.hS h hs
 have hb:=B4 (F:=Blk.F) hi
 have hc:=Dn (n:=s.calls - 1) (by omega) (by omega)
 obtain ⟨d,hd,hd2⟩:∃ d:Nat,c.blocks[i].e.a=d∧d < r.length:=⟨c.blocks[i].e.a.toNat,by omega,by omega⟩
 have ha2:((d:Int) < 0)=False:=eq_false (by omega)
 simp only [at',hd,Int.toNat_natCast,gD hd2]
 unfold N0 Fi Fh Fg Oq Oo On O5 msL D9 Mo
 unfold mB at st ⊢
 simp only [Cod.F,Blk.F,stp] at hb st ⊢
 cases fa <;> cases fd <;> cases fo <;> cases n <;> (
  simp only [dA,dR,oA,oR,aR,nB,nE,D9,mB,Nat.reduceAdd,List.cons_append,List.nil_append,List.append_nil]
  simp -implicitDefEqProofs only [st,hb,hc,eq_true hk,hd,ha2,A8 hd2,hd2,XP,seval]
  exact ⟨_,rfl⟩)
theorem DS (R:RunT T) (hi:i < c.blocks.length) (h:1≤s.steps) (hs:s.steps≤20000) (hk:c.blocks[i].e.kind=2) (ha:0≤c.blocks[i].e.a∧c.blocks[i].e.a < r.length) (hv:at' r c.blocks[i].e.a=0):∃ t1,evP ⟨A0,T,A6⟩ (.code N0 (O5 fa fd fo n r (i:Int)) (msL fa fd fo n m s a c r tch))=some (.ok .normal (O5 fa fd fo n r c.blocks[i].e.els) (msL fa fd fo n m (stp s) a c r t1)):=by
 have st:=fun d o rest ext tch=>d8 (T:=T) (m:=m) (s:=s) (d:=d) (o:=o) (rest:=rest) (ext:=ext) (tch:=tch) R.hS h hs
 have hb:=B4 (F:=Blk.F) hi
 obtain ⟨d,hd,hd2⟩:∃ d:Nat,c.blocks[i].e.a=d∧d < r.length:=⟨c.blocks[i].e.a.toNat,by omega,by omega⟩
 simp only [at',hd,Int.toNat_natCast,gD hd2] at hv
 unfold N0 Fi Fh Fg Oq Oo On O5 msL D9 Mo
 unfold mB at st ⊢
 simp only [Cod.F,Blk.F,stp] at hb st ⊢
 cases fa <;> cases fd <;> cases fo <;> cases n <;> (
  simp only [dA,dR,oA,oR,aR,nB,nE,D9,mB,Nat.reduceAdd,List.cons_append,List.nil_append,List.append_nil]
  simp -implicitDefEqProofs only [st,hb,eq_true hk,eq_false (show ¬ c.blocks[i].e.kind=3 by omega),hd,A8 hd2,hd2,hv,XP,seval]
  exact ⟨_,rfl⟩)
theorem DT (R:RunT T) (hi:i < c.blocks.length) (h:1≤s.steps) (hs:s.steps≤20000) (hk:c.blocks[i].e.kind=2) (ha:0≤c.blocks[i].e.a∧c.blocks[i].e.a < r.length) (hv:¬ at' r c.blocks[i].e.a=0):∃ t1,evP ⟨A0,T,A6⟩ (.code N0 (O5 fa fd fo n r (i:Int)) (msL fa fd fo n m s a c r tch))=some (.ok .normal (O5 fa fd fo n r c.blocks[i].e.to) (msL fa fd fo n m (stp s) a c r t1)):=by
 have st:=fun d o rest ext tch=>d8 (T:=T) (m:=m) (s:=s) (d:=d) (o:=o) (rest:=rest) (ext:=ext) (tch:=tch) R.hS h hs
 have hb:=B4 (F:=Blk.F) hi
 obtain ⟨d,hd,hd2⟩:∃ d:Nat,c.blocks[i].e.a=d∧d < r.length:=⟨c.blocks[i].e.a.toNat,by omega,by omega⟩
 simp only [at',hd,Int.toNat_natCast,gD hd2] at hv
 unfold N0 Fi Fh Fg Oq Oo On O5 msL D9 Mo
 unfold mB at st ⊢
 simp only [Cod.F,Blk.F,stp] at hb st ⊢
 cases fa <;> cases fd <;> cases fo <;> cases n <;> (
  simp only [dA,dR,oA,oR,aR,nB,nE,D9,mB,Nat.reduceAdd,List.cons_append,List.nil_append,List.append_nil]
  simp -implicitDefEqProofs only [st,hb,eq_true hk,eq_false (show ¬ c.blocks[i].e.kind=3 by omega),hd,A8 hd2,hd2,eq_false hv,XP,seval]
  exact ⟨_,rfl⟩)
theorem DU (R:RunT T) (hi:i < c.blocks.length) (h:1≤s.steps) (hs:s.steps≤20000) (hk:c.blocks[i].e.kind=1):∃ t1,evP ⟨A0,T,A6⟩ (.code N0 (O5 fa fd fo n r (i:Int)) (msL fa fd fo n m s a c r tch))=some (.ok .normal (O5 fa fd fo n r c.blocks[i].e.to) (msL fa fd fo n m (stp s) a c r t1)):=by
 have st:=fun d o rest ext tch=>d8 (T:=T) (m:=m) (s:=s) (d:=d) (o:=o) (rest:=rest) (ext:=ext) (tch:=tch) R.hS h hs
 have hb:=B4 (F:=Blk.F) hi
 unfold N0 Fi Fh Fg Oq Oo On O5 msL D9 Mo
 unfold mB at st ⊢
 simp only [Cod.F,Blk.F,stp] at hb st ⊢
 cases fa <;> cases fd <;> cases fo <;> cases n <;> (
  simp only [dA,dR,oA,oR,aR,nB,nE,D9,mB,Nat.reduceAdd,List.cons_append,List.nil_append,List.append_nil]
  simp -implicitDefEqProofs only [st,hb,eq_false (show ¬ c.blocks[i].e.kind=3 by omega),eq_false (show ¬ c.blocks[i].e.kind=2 by omega),XP,seval]
  exact ⟨_,rfl⟩)
end
end Go.Proofs.AmEnv
set_option maxRecDepth 100000
namespace Go.Proofs.AmEnv
open Go Go.AM
variable {T:Nat->Option (List AV->Option (List AV))}
inductive I2 where
 | go (r:List Int) (s:Mst)
 | stop (st c:Int) (s:Mst)
def insF (m:Modl) (C:Int->List Int->Mst->Rs):List Ins->List Int->Mst->I2
 | [],r,s=>.go r s
 | x :: l,r,s=>if s.steps < 1 then .stop 3 0 s else if x.op=9 then (match C x.n (argsI x r) (stp s) with
     | .ret v s2=>insF m C l (if 0≤x.dst then put' r x.dst v else r) s2
     | .stop st c s2=>.stop st c s2)
  else if (doesI m x r (stp s)).1=0 then insF m C l (doesI m x r (stp s)).2.2 (doesI m x r (stp s)).2.1 else .stop 2 (doesI m x r (stp s)).1 (stp s)
def blkAt (c:Cod) (i:Int):Blk:=c.blocks.getD i.toNat ⟨[],⟨0,0,0,0⟩⟩
def L3 (m:Modl) (C:Int->List Int->Mst->Rs) (c:Cod):Nat->Int->List Int->Mst->Rs
 | 0,_,_,s=>.stop 3 0 s
 | n + 1,i,r,s=>match insF m C (blkAt c i).code r s with
  | .stop st e s=>.stop st e s
  | .go r s=>if s.steps < 1 then .stop 3 0 s
   else if (blkAt c i).e.kind=3 then .ret (if (blkAt c i).e.a < 0 then 0 else at' r (blkAt c i).e.a) { stp s with calls:=s.calls - 1 }
   else L3 m C c n (if (blkAt c i).e.kind=2∧at' r (blkAt c i).e.a=0 then (blkAt c i).e.els else (blkAt c i).e.to) r (stp s)
def Kx (m:Modl) (f:Int):Cod:=m.fs.getD f.toNat ⟨[],0,0,[],[]⟩
def initR (n:Nat) (a:List Int):List Int:=a.take n ++ List.replicate (n - a.length) 0
def K5 (m:Modl):Nat->Int->List Int->Mst->Rs
 | 0,_,_,s=>.stop 2 4 s
 | d + 1,f,a,s=>if 32≤s.calls then .stop 2 4 s
  else L3 m (K5 m d) (Kx m f) (s.steps.toNat + 1) 0 (initR (Kx m f).regs.length a) { s with calls:=s.calls + 1 }
def Y9 (m:Modl) (d:List (List Int)):Prop:=d.length=m.gs.length∧∀ (i:Nat) l g,d[i]?=some l->m.gs[i]?=some g->(l.length:Int)=max g.size 1
structure Sok (m:Modl) (s:Mst):Prop where
 d:Y9 m s.data
 st:s.steps≤20000
 ou:s.out.length + s.steps.toNat≤30000
 ca:0≤s.calls∧s.calls≤33
structure InsR (m:Modl) (nr:Nat) (x:Ins):Prop where
 op:1≤x.op∧x.op≤11
 dst:x.op=1∨x.op=2∨x.op=3∨x.op=4∨x.op=5∨x.op=7∨x.op=10->0≤x.dst∧x.dst < nr
 a:x.op=2∨x.op=3∨x.op=4∨x.op=5∨x.op=6∨x.op=8∨x.op=11->0≤x.a∧x.a < nr
 b:x.op=3∨x.op=6->0≤x.b∧x.b < nr
 n:x.op=5∨x.op=6∨x.op=7∨x.op=8->0≤x.n∧x.n < m.gs.length
 c:x.op=9->(0≤x.n∧x.n < m.fs.length)∧(∀ y∈x.args,0≤y∧y < nr)∧x.args.length≤100000∧x.dst < nr
structure EndR (nb nr:Nat) (e:Endd):Prop where
 k:1≤e.kind∧e.kind≤3
 a3:e.kind=3->e.a < nr
 a2:e.kind=2->0≤e.a∧e.a < nr
 to:e.kind ≠ 3->0≤e.to∧e.to < nb
 els:e.kind=2->0≤e.els∧e.els < nb
structure CodR (m:Modl) (c:Cod):Prop where
 nb:1≤c.blocks.length
 b:∀ b∈c.blocks,b.code.length≤2000000000000∧(∀ x∈b.code,InsR m c.regs.length x)∧EndR c.blocks.length c.regs.length b.e
 nr:c.regs.length≤100000
structure ModR' (m:Modl):Prop where
 f:∀ c∈m.fs,CodR m c
theorem Sok.stp {m:Modl} {s:Mst} (h:Sok m s) (h1:1≤s.steps):Sok m (stp s)∧(stp s).out.length + (stp s).steps.toNat + 1≤30000:=by
 have:=h.ou; have:=h.st
 refine ⟨⟨h.d,?_,?_,h.ca⟩,?_⟩ <;> simp only [AmEnv.stp] <;> omega
theorem InsR.ok {m:Modl} {s:Mst} {x:Ins} {r:List Int} (h:InsR m r.length x) (hs:Y9 m s.data):InsOk m x r s:=⟨h.dst,h.a,h.b,h.n,hs⟩
theorem put_len (l:List Int) (i v:Int):(put' l i v).length=l.length:=by simp [put']
theorem Y9.set {m:Modl} {d:List (List Int)} (h:Y9 m d) (i:Nat) (j v:Int):Y9 m (d.set i (put' (d.getD i []) j v)):=by
 refine ⟨by simp [h.1],fun k l g hk hg=>?_⟩
 rw [List.getElem?_set] at hk
 split at hk
 . rename_i e; subst e
   split at hk
   . rename_i hl
     cases hk
     rw [put_len]
     exact h.2 i _ g (by simp [hl]) hg
   . cases hk
 . exact h.2 k l g hk hg
theorem jQ {m:Modl} {s:Mst} {x:Ins} {r:List Int} (hd:Y9 m s.data):Y9 m (doesI m x r s).2.1.data∧(doesI m x r s).2.1.steps=s.steps∧(doesI m x r s).2.1.calls=s.calls∧(doesI m x r s).2.1.out.length≤s.out.length + 1∧(doesI m x r s).2.2.length=r.length∧(x.op ≠ 11->(doesI m x r s).2.1.out=s.out):=by
 unfold doesI
 repeat' split
 all_goals first
  | exact ⟨hd,rfl,rfl,Nat.le_succ _,by first | rfl | exact put_len _ _ _,fun _=>rfl⟩
  | exact ⟨hd.set _ _ _,rfl,rfl,Nat.le_succ _,rfl,fun _=>rfl⟩
  | exact ⟨hd,rfl,rfl,by simp,rfl,fun h=>absurd (by assumption) h⟩
end Go.Proofs.AmEnv
set_option maxRecDepth 100000
namespace Go.Proofs.AmEnv
open Go Go.AM
variable {T:Nat->Option (List AV->Option (List AV))}
def jR (m:Modl) (cl:Int) (f:Int) (a:List Int) (s:Mst):Prop:=(0≤f∧f < m.fs.length)∧Sok m s∧s.calls=cl
def nR (m:Modl) (cl:Int) (C:Int->List Int->Mst->Rs):Prop:=∀ f a s,jR m cl f a s->Sok m (C f a s).st∧(C f a s).st.steps≤s.steps∧∀ v s',C f a s=.ret v s'->s'.calls=s.calls
theorem Cs {P:PE} {c:PC} {fr:PF} {K K':PK} {v:AV} (h:evP P (.code c fr K)=some (.pan v K')):evP P (.code (.loop c) fr K)=some (.pan v K'):=by rw [Xl,h]; rfl
theorem fJ {fa fd fo n:Bool} {r r2:List Int} {at0:Int} (h:r2.length=r.length):O5 fa fd fo n r2 at0=O5 fa fd fo n r at0:=by unfold O5; rw [h]
theorem Y9.nil {m:Modl} {s:Mst} (h:Y9 m s.data) (hg:m.gs=[]):s.data=[]:=List.length_eq_zero_iff.1 (by rw [h.1,hg]; rfl)
def I2.st:I2->Mst | .go _ s=>s | .stop _ _ s=>s
section
variable {m:Modl} {C:Int->List Int->Mst->Rs} {fa fd fo:Bool} {a:List Int} {c:Cod} {l:List Ins} {at0 cl:Int} {nr:Nat}
def PM (fa fd fo:Bool) (m:Modl) (a:List Int) (c:Cod) (l:List Ins) (at0:Int) (y:I2) (n2:Bool) (t1:List Nat):PR:=match y with
 | .go r2 s2=>.ok (.exit 2) ((49,.bool false) :: (O5 fa fd fo n2 r2 at0 ++ frI l l.length)) (msL fa fd fo n2 m s2 a c r2 t1)
 | .stop st e s2=>.pan (D1 st e) ⟨D9 fa fd fo n2 m s2 a,nE fa fd fo,t1⟩
structure InE (m:Modl) (nr:Nat) (s:Mst) (y:I2):Prop where
 ok:Sok m y.st
 st:y.st.steps≤s.steps
 go:∀ r2 s2,y=.go r2 s2->r2.length=nr∧s2.calls=s.calls
theorem InE.of {s s1:Mst} {y:I2} (h:InE m nr s1 y) (h1:s1.steps≤s.steps) (h2:s1.calls=s.calls):InE m nr s y:=⟨h.ok,Int.le_trans h.st h1,fun r2 s2 e=>⟨(h.go r2 s2 e).1,(h.go r2 s2 e).2.trans h2⟩⟩
theorem wH (R:RunT T) (hc:nO T m C (jR m cl)) (hp:nR m cl C) (hl:l.length≤2000000000000) (hx:∀ x∈l,InsR m nr x) (hd0:fd=false->m.gs=[]) :
 ∀ (j k:Nat) (n:Bool) (r:List Int) (s:Mst) (tch:List Nat),l.length=k + j->r.length=nr->Sok m s->s.calls=cl->(fo=false->n=false->s.out=[]) ->
   InE m nr s (insF m C (l.drop k) r s)∧∃ n2 t1,evP ⟨A0,T,A6⟩ (.code (.loop U4) (O5 fa fd fo n r at0 ++ frI l k) (msL fa fd fo n m s a c r tch))=some (PM fa fd fo m a c l at0 (insF m C (l.drop k) r s) n2 t1)∧(fo=false->n2=false->(insF m C (l.drop k) r s).st.out=[])
 | 0,k,n,r,s,tch,e,hr,hs,hcl,ho=>by
  obtain rfl:k=l.length:=by omega
  rw [List.drop_length]
  exact ⟨⟨hs,Int.le_refl _,fun _ _ e=>by cases e; exact ⟨hr,rfl⟩⟩,n,tch,K7 MK,ho⟩
 | j + 1,k,n,r,s,tch,e,hr,hs,hcl,ho=>by
  have hk:k < l.length:=by omega
  have hxk:InsR m r.length l[k]:=hr ▸ hx _ (List.getElem_mem hk)
  rw [List.drop_eq_getElem_cons hk,insF]
  by_cases h1:s.steps < 1
  . rw [if_pos h1]
    obtain ⟨t1,h⟩:=DG (T:=T) (m:=m) (s:=s) (fa:=fa) (fd:=fd) (fo:=fo) (n:=n) (r:=r) (a:=a) (c:=c) (at0:=at0) (tch:=tch) R hk hl (by omega)
    exact ⟨⟨hs,Int.le_refl _,fun _ _ e=>by cases e⟩,n,t1,Cs h,ho⟩
  . rw [if_neg h1]
    have hs1:=hs.stp (by omega)
    have hst:(stp s).steps≤s.steps:=by simp only [stp]; omega
    have hfo:(fo || n)=false->(stp s).out=[]:=fun e=>by
     rw [Bool.or_eq_false_iff] at e; exact ho e.1 e.2
    by_cases h9:l[k].op=9
    . rw [if_pos h9]
      obtain ⟨hn,hy,hal,hdst⟩:=hxk.c h9
      have hpr:jR m cl l[k].n (argsI l[k] r) (stp s):=⟨hn,hs1.1,hcl⟩
      obtain ⟨p1,p2,p3⟩:=hp _ _ _ hpr
      obtain ⟨n',t0,q1,q2⟩:=hc (neE (argsI l[k] r)) fd (fo || n) l[k].n (argsI l[k] r) (stp s) hpr (fun e=>by
       revert e; cases argsI l[k] r with | nil=>intro _; rfl | cons _ _=>intro e; cases e) (fun e=>hs1.1.d.nil (hd0 e)) hfo
      have hq:fo=false->(n || n')=false->(C l[k].n (argsI l[k] r) (stp s)).st.out=[]:=fun e1 e2=>by
       rw [Bool.or_eq_false_iff] at e2; exact q1 (by rw [e1,e2.1]; rfl) e2.2
      cases hC:C l[k].n (argsI l[k] r) (stp s) with
      | stop z e s2 =>
       rw [hC] at p1 p2 q1 q2 hq
       obtain ⟨t2,b⟩:=DM R hy hal q2
       obtain ⟨t3,b⟩:=nQ (fa:=fa) (a:=a) (c:=c) (at0:=at0) (tch:=tch) R hk hl (by omega) hs.st h9 b
       exact ⟨⟨p1,Int.le_trans p2 hst,fun _ _ e=>by cases e⟩,n || n',t3,Cs b,hq⟩
      | ret v s2 =>
       rw [hC] at p1 p2 q1 q2 hq
       have p3:=p3 v s2 hC
       have fin:∀ (r2:List Int),r2.length=r.length->(∃ t1,evP ⟨A0,T,A6⟩ (.body 41 [.ptr 0 0 0,l[k].F,.msl 1 0 r.length 1] ⟨D9 true fd (fo || n) false m (stp s) r,nE true fd (fo || n),[]⟩)=some (.val [] ⟨D9 true fd (fo || n) n' m s2 r2,nE true fd (fo || n),t1⟩)) ->
        InE m nr s (insF m C (l.drop (k + 1)) r2 s2)∧∃ n2 t1,evP ⟨A0,T,A6⟩ (.code (.loop U4) (O5 fa fd fo n r at0 ++ frI l k) (msL fa fd fo n m s a c r tch))=some (PM fa fd fo m a c l at0 (insF m C (l.drop (k + 1)) r2 s2) n2 t1)∧(fo=false->n2=false->(insF m C (l.drop (k + 1)) r2 s2).st.out=[]):=by
        intro r2 hr2 ⟨t1,b⟩
        obtain ⟨t3,b⟩:=rF (fa:=fa) (a:=a) (c:=c) (at0:=at0) (tch:=tch) R hk hl (by omega) hs.st h9 b
        obtain ⟨g1,n2,t4,g2,g3⟩:=wH R hc hp hl hx hd0 j (k + 1) (n || n') r2 s2 t3 (by omega) (hr2.trans hr) p1 (p3.trans hcl) hq
        refine ⟨g1.of (Int.le_trans p2 hst) p3,n2,t4,?_,g3⟩
        rw [I7 b,← fJ hr2]; exact g2
       by_cases hdd:0≤l[k].dst
       . simp only [if_pos hdd]
         exact fin _ (put_len _ _ _) (DK R hy hal hdd hdst q2)
       . simp only [if_neg hdd]
         exact fin _ rfl (DL R hy hal hdd q2)
    . rw [if_neg h9]
      have hop:1≤l[k].op∧l[k].op≤11∧l[k].op ≠ 9:=⟨hxk.op.1,hxk.op.2,h9⟩
      have hio:=hxk.ok hs1.1.d
      obtain ⟨k1,k2,k3,k4,k5,k6⟩:=jQ (x:=l[k]) (r:=r) hs1.1.d
      have hol:s.out.length≤30000:=by have:=hs.ou; omega
      by_cases hv:(doesI m l[k] r (stp s)).1=0
      . rw [if_pos hv]
        obtain ⟨t3,b⟩:=DH (T:=T) (fa:=fa) (fd:=fd) (fo:=fo) (n:=n) (n':=decide (l[k].op=11)) (a:=a) (c:=c) (at0:=at0) (tch:=tch) R hk hl (by omega) hs.st hop hio (fun e=>hs1.1.d.nil (hd0 e)) ho hol rfl hv
        have hs2:Sok m (doesI m l[k] r (stp s)).2.1:=⟨k1,by rw [k2]; exact hs1.1.st,by rw [k2]; have:=hs1.2; omega,by rw [k3]; exact hs1.1.ca⟩
        obtain ⟨g1,n2,t4,g2,g3⟩:=wH R hc hp hl hx hd0 j (k + 1) (n || decide (l[k].op=11)) _ _ t3 (by omega) (k5.trans hr) hs2 (k3.trans hcl) (fun e1 e2=>by
         rw [Bool.or_eq_false_iff] at e2
         rw [k6 (of_decide_eq_false e2.2)]; exact ho e1 e2.1)
        refine ⟨g1.of (by rw [k2]; exact hst) k3,n2,t4,?_,g3⟩
        rw [I7 b,← fJ k5]; exact g2
      . rw [if_neg hv]
        obtain ⟨t3,b⟩:=wF (T:=T) (fa:=fa) (fd:=fd) (fo:=fo) (n:=n) (a:=a) (c:=c) (at0:=at0) (tch:=tch) R hk hl (by omega) hs.st hop hio (fun e=>hs1.1.d.nil (hd0 e)) ho hol hv
        exact ⟨⟨hs1.1,hst,fun _ _ e=>by cases e⟩,n,t3,Cs b,fun e1 e2=>ho e1 e2⟩
end
end Go.Proofs.AmEnv
set_option maxRecDepth 100000
namespace Go.Proofs.AmEnv
open Go Go.AM
variable {T:Nat->Option (List AV->Option (List AV))}
def yM (e:Nat) (l:List Nat):List Nat:=l.filter fun x=>decide (x < e)
theorem Wm (e:Nat) (l:List Nat):l.filter (fun x=>decide (x < e))=yM e l:=rfl
section
variable {m:Modl} {s s2 s3:Mst} {fa fd fo n n2:Bool} {r r2 a:List Int} {c:Cod} {i:Nat} {tch t1:List Nat} {F:List Nat->List Nat} {j:Int}
set_option maxHeartbeats 16000000 in
theorem ML (hi:i < c.blocks.length) (hin:evP ⟨A0,T,A6⟩ (.code (.loop U4) (O5 fa fd fo n r (i:Int) ++ frI c.blocks[i].code 0) (msL fa fd fo n m s a c r (yM (nE fa fd fo) tch)))=some (.ok (.exit 2) ((49,.bool false) :: (O5 fa fd fo n2 r2 (i:Int) ++ frI c.blocks[i].code c.blocks[i].code.length)) (msL fa fd fo n2 m s2 a c r2 t1))) (hF:∀ t,evP ⟨A0,T,A6⟩ (.code N0 (O5 fa fd fo n2 r2 (i:Int)) (msL fa fd fo n2 m s2 a c r2 t))=some (.ok .normal (O5 fa fd fo n2 r2 j) (msL fa fd fo n2 m s3 a c r2 (F t)))):∃ t',evP ⟨A0,T,A6⟩ (.code j3 (O5 fa fd fo n r (i:Int)) (msL fa fd fo n m s a c r tch))=some (.ok .normal (O5 fa fd fo n2 r2 j) (msL fa fd fo n2 m s3 a c r2 t')):=by
 have hb:=B4 (F:=Blk.F) hi
 unfold j3 Ze
 unfold O5 frI msL D9 Mo at hin
 unfold O5 msL D9 Mo at hF ⊢
 unfold mB at hin hF ⊢
 simp only [Cod.F,Blk.F] at hb hin hF ⊢
 cases fa <;> cases fd <;> cases fo <;> cases n <;> cases n2 <;> (
  simp only [dA,dR,oA,oR,aR,nB,nE,Nat.reduceAdd,List.cons_append,List.nil_append,List.append_nil,show ((0:Nat):Int)=0 from rfl] at hin hF ⊢
  simp -implicitDefEqProofs only [hb,hin,hF,Wm,List.length_map,XP,Nat.reduceAdd,Nat.reduceSub,Nat.reduceLT,Nat.reduceLeDiff,Nat.reduceEqDiff,Nat.reduceMul,↓reduceIte]
  exact ⟨_,rfl⟩)
set_option maxHeartbeats 16000000 in
theorem MM {v:Int} (hi:i < c.blocks.length) (hin:evP ⟨A0,T,A6⟩ (.code (.loop U4) (O5 fa fd fo n r (i:Int) ++ frI c.blocks[i].code 0) (msL fa fd fo n m s a c r (yM (nE fa fd fo) tch)))=some (.ok (.exit 2) ((49,.bool false) :: (O5 fa fd fo n2 r2 (i:Int) ++ frI c.blocks[i].code c.blocks[i].code.length)) (msL fa fd fo n2 m s2 a c r2 t1))) (hF:∀ t,evP ⟨A0,T,A6⟩ (.code N0 (O5 fa fd fo n2 r2 (i:Int)) (msL fa fd fo n2 m s2 a c r2 t))=some (.ok .ret [(6,.int .i64 v)] ⟨D9 fa fd fo n2 m s3 a,nE fa fd fo,F t⟩)):∃ t',evP ⟨A0,T,A6⟩ (.code j3 (O5 fa fd fo n r (i:Int)) (msL fa fd fo n m s a c r tch))=some (.ok .ret [(6,.int .i64 v)] ⟨D9 fa fd fo n2 m s3 a,nE fa fd fo,t'⟩):=by
 have hb:=B4 (F:=Blk.F) hi
 unfold j3 Ze
 unfold O5 frI msL D9 Mo at hin
 unfold O5 msL D9 Mo at hF ⊢
 unfold mB at hin hF ⊢
 simp only [Cod.F,Blk.F] at hb hin hF ⊢
 cases fa <;> cases fd <;> cases fo <;> cases n <;> cases n2 <;> (
  simp only [dA,dR,oA,oR,aR,nB,nE,Nat.reduceAdd,List.cons_append,List.nil_append,List.append_nil,show ((0:Nat):Int)=0 from rfl] at hin hF ⊢
  simp -implicitDefEqProofs only [hb,hin,hF,Wm,List.length_map,XP,Nat.reduceAdd,Nat.reduceSub,Nat.reduceLT,Nat.reduceLeDiff,Nat.reduceEqDiff,Nat.reduceMul,↓reduceIte]
  exact ⟨_,rfl⟩)
set_option maxHeartbeats 16000000 in
theorem MN {z e:Int} (hi:i < c.blocks.length) (hin:evP ⟨A0,T,A6⟩ (.code (.loop U4) (O5 fa fd fo n r (i:Int) ++ frI c.blocks[i].code 0) (msL fa fd fo n m s a c r (yM (nE fa fd fo) tch)))=some (.ok (.exit 2) ((49,.bool false) :: (O5 fa fd fo n2 r2 (i:Int) ++ frI c.blocks[i].code c.blocks[i].code.length)) (msL fa fd fo n2 m s2 a c r2 t1))) (hF:∀ t,evP ⟨A0,T,A6⟩ (.code N0 (O5 fa fd fo n2 r2 (i:Int)) (msL fa fd fo n2 m s2 a c r2 t))=some (.pan (D1 z e) ⟨D9 fa fd fo n2 m s2 a ++ [Mo c,.row 0 (ints r2) 1],nE fa fd fo,F t⟩)):∃ t',evP ⟨A0,T,A6⟩ (.code j3 (O5 fa fd fo n r (i:Int)) (msL fa fd fo n m s a c r tch))=some (.pan (D1 z e) ⟨D9 fa fd fo n2 m s2 a,nE fa fd fo,t'⟩):=by
 have hb:=B4 (F:=Blk.F) hi
 unfold D1 at hF ⊢
 unfold j3 Ze
 unfold O5 frI msL D9 Mo at hin
 unfold O5 msL D9 Mo at hF ⊢
 unfold mB at hin hF ⊢
 simp only [Cod.F,Blk.F] at hb hin hF ⊢
 cases fa <;> cases fd <;> cases fo <;> cases n <;> cases n2 <;> (
  simp only [dA,dR,oA,oR,aR,nB,nE,Nat.reduceAdd,List.cons_append,List.nil_append,List.append_nil,show ((0:Nat):Int)=0 from rfl] at hin hF ⊢
  simp -implicitDefEqProofs only [hb,hin,hF,Wm,Th,Ti,List.length_map,XP,Nat.reduceAdd,Nat.reduceSub,Nat.reduceLT,Nat.reduceLeDiff,Nat.reduceEqDiff,Nat.reduceMul,↓reduceIte]
  exact ⟨_,rfl⟩)
set_option maxHeartbeats 16000000 in
theorem MO {z e:Int} (hi:i < c.blocks.length) (hin:evP ⟨A0,T,A6⟩ (.code (.loop U4) (O5 fa fd fo n r (i:Int) ++ frI c.blocks[i].code 0) (msL fa fd fo n m s a c r (yM (nE fa fd fo) tch)))=some (.pan (D1 z e) ⟨D9 fa fd fo n2 m s2 a,nE fa fd fo,t1⟩)):∃ t',evP ⟨A0,T,A6⟩ (.code j3 (O5 fa fd fo n r (i:Int)) (msL fa fd fo n m s a c r tch))=some (.pan (D1 z e) ⟨D9 fa fd fo n2 m s2 a,nE fa fd fo,t'⟩):=by
 have hb:=B4 (F:=Blk.F) hi
 unfold D1 at hin ⊢
 unfold j3 Ze
 unfold O5 frI msL D9 Mo at hin
 unfold O5 msL D9 Mo at ⊢
 unfold mB at hin ⊢
 simp only [Cod.F,Blk.F] at hb hin ⊢
 cases fa <;> cases fd <;> cases fo <;> cases n <;> cases n2 <;> (
  simp only [dA,dR,oA,oR,aR,nB,nE,Nat.reduceAdd,List.cons_append,List.nil_append,List.append_nil,show ((0:Nat):Int)=0 from rfl] at hin ⊢
  simp -implicitDefEqProofs only [hb,hin,Wm,Th,Ti,List.length_map,XP,Nat.reduceAdd,Nat.reduceSub,Nat.reduceLT,Nat.reduceLeDiff,Nat.reduceEqDiff,Nat.reduceMul,↓reduceIte]
  exact ⟨_,rfl⟩)
end
end Go.Proofs.AmEnv
set_option maxRecDepth 100000
namespace Go.Proofs.AmEnv
open Go Go.AM
variable {T:Nat->Option (List AV->Option (List AV))}
theorem Wn (l c:Operand) (fr:PF) (K:PK):prim A0 (.makeSlice 26 l c) fr K=To A0 Dz (opvP A0 l fr) (opvP A0 c fr) K:=rfl
theorem HH {k k':IntKind} {n:Nat} {K:PK} (h:n * 8≤140737488355328):To A0 Dz (.int k (n:Int)) (.int k' (n:Int)) K=.val (.msl K.os.length 0 n 1) ⟨K.os ++ [.row 0 (ints (List.replicate n 0)) 1],K.ext,K.tch⟩:=by
 have e:ints (List.replicate n 0)=List.replicate n (AV.int .i64 0):=by simp [ints]
 rw [e]
 show (match some ty3,some n,some n with | some te,some n,some m=>(if n≤m∧m * te.bytes≤140737488355328∧0 < te.size then OpS.val (.msl K.os.length 0 n te.size) (AM.newRow 0 (List.replicate n te.zero) te.size K) else .bad) | _,_,_=>.bad)=_
 exact if_pos ⟨Nat.le_refl _,h,by decide⟩
theorem nS {os:List PO} {id N ext:Nat} {tch:List Nat} {x:AV} {a:List Int} {os2:List PO} (hr:os[id]?=some (.row 0 (ints (List.replicate N 0)) 1)) (hx:takeE ty3 x ext [] os=some (ints a,os2)) :
 E5 A0 .copy [26,26] [.msl id 0 N 1,x] ⟨os,ext,tch⟩=some (.int .i64 (Int.ofNat (min N a.length)),⟨os.set id (.row 0 (ints (initR N a)) 1),ext,id :: tch⟩):=by
 show (match takeE ty3 x ext [] os with | some q=>gC 1 id 0 N q.1 ⟨os,ext,tch⟩ | none=>none)=_
 rw [hx]
 show (match os[id]? with | some (.row 0 es z)=>if z=1∧0 + N≤es.length∧x5 es=true∧x5 (ints a)=true then some (AV.int .i64 (Int.ofNat (min N (ints a).length)),(⟨os.set id (.row 0 (es.take 0 ++ ((ints a).take (min N (ints a).length) ++ es.drop (0 + min N (ints a).length))) z),ext,id :: tch⟩:PK)) else none | _=>none)=_
 rw [hr]
 show (if 1=1∧_ then _ else _)=_
 rw [if_pos ⟨rfl,by simp [ints],Vv _,Vv _⟩]
 have hl:(ints a).length=a.length:=by simp [ints]
 have:(ints (List.replicate N 0)).take 0 ++ ((ints a).take (min N (ints a).length) ++ (ints (List.replicate N 0)).drop (0 + min N (ints a).length))=ints (initR N a):=by
  rw [hl]
  unfold initR ints
  rw [List.take_zero,List.nil_append,List.map_append,← List.map_take,← List.map_drop,List.drop_replicate]
  congr 1
  . congr 1
    rw [Nat.min_def]; split
    . rfl
    . rw [List.take_of_length_le (Nat.le_refl _),List.take_of_length_le (by omega)]
  . congr 2; omega
 rw [this,hl]
section
variable {m:Modl} {s s2:Mst} {fa fd fo n2:Bool} {a:List Int} {f:Nat} {t1:List Nat}
theorem uG (R:RunT T) (h:32≤s.calls):∃ t1,evP ⟨A0,T,A6⟩ (.body 24 [.ptr 0 0 0,.int .i64 (f:Int),d9 fa 1 a] ⟨D9 fa fd fo false m s a,nE fa fd fo,[]⟩)=some (.pan (D1 2 4) ⟨D9 fa fd fo false m s a,nE fa fd fo,t1⟩):=by
 have hg:decide (s.calls ≥ 32)=true:=by simp; omega
 have tn:=fun K=>Mn (T:=T) (K:=K) R.hN (t:=4) (by decide)
 unfold D1 at tn ⊢
 rw [A7 (c:=tG) (nt:=109) (rs:=[.tmp 6]) rfl (by simp)]; unfold tG
 unfold Vq Vp Vo Vn Vm Vl Vk eR D9
 unfold mB
 cases fa <;> cases fd <;> cases fo <;> (
  simp only [dA,dR,oA,oR,aR,nB,nE,d9,Nat.reduceAdd,List.cons_append,List.nil_append,List.append_nil]
  simp -implicitDefEqProofs only [hg,tn,Th,Ti,XP,seval]
  exact ⟨_,rfl⟩)
theorem DV {N:Nat} {C:PO} {tch:List Nat} (hz:fa=false->a=[]):E5 A0 .copy [26,26] [.msl (nE fa fd fo + 1) 0 N 1,d9 fa 1 a] ⟨D9 fa fd fo false m s a ++ [C,.row 0 (ints (List.replicate N 0)) 1],nE fa fd fo,tch⟩=some (.int .i64 (Int.ofNat (min N a.length)),⟨D9 fa fd fo false m s a ++ [C,.row 0 (ints (initR N a)) 1],nE fa fd fo,(nE fa fd fo + 1) :: tch⟩):=by
 cases fa with
 | false =>
  rw [hz rfl]
  rw [nS (a:=[]) (os2:=D9 false fd fo false m s [] ++ [C,.row 0 (ints (List.replicate N 0)) 1]) (by cases fd <;> cases fo <;> rfl) (by cases fd <;> cases fo <;> rfl)]
  cases fd <;> cases fo <;> rfl
 | true =>
  rw [nS (a:=a) (os2:=D9 true fd fo false m s a ++ [C,.row 0 (ints (List.replicate N 0)) 1]) (by cases fd <;> cases fo <;> rfl) ?_]
  . cases fd <;> cases fo <;> rfl
  . unfold D9 d9 aR
    have hl:(ints a).length=a.length:=by simp [ints]
    cases fd <;> cases fo <;> (
     simp only [dA,dR,oA,oR,nB,Nat.reduceAdd,List.cons_append,List.nil_append,List.append_nil]
     simp -implicitDefEqProofs only [hl,Vv,XP,seval])
def Wo (s:Mst):Mst:={ s with calls:=s.calls + 1 }
theorem Jp (n:Nat) (a:List Int):(initR n a).length=n:=by unfold initR; rw [List.length_append,List.length_take,List.length_replicate]; omega
set_option maxHeartbeats 4000000 in
theorem DW {v:Int} (h:¬ 32≤s.calls) (h0:0≤s.calls) (hf:f < m.fs.length) (hn:m.fs[f].regs.length≤100000) (hz:fa=false->a=[]) (hl:evP ⟨A0,T,A6⟩ (.code (.loop j3) (O5 fa fd fo false (initR m.fs[f].regs.length a) 0) (msL fa fd fo false m (Wo s) a m.fs[f] (initR m.fs[f].regs.length a) [0]))=some (.ok .ret [(6,.int .i64 v)] ⟨D9 fa fd fo n2 m s2 a,nE fa fd fo,t1⟩)):∃ t1,evP ⟨A0,T,A6⟩ (.body 24 [.ptr 0 0 0,.int .i64 (f:Int),d9 fa 1 a] ⟨D9 fa fd fo false m s a,nE fa fd fo,[]⟩)=some (.val [.int .i64 v] ⟨D9 fa fd fo n2 m s2 a,nE fa fd fo,t1⟩):=by
 have hg:decide (s.calls ≥ 32)=false:=by simp; omega
 have hc:=Dn (n:=s.calls + 1) (by omega) (by omega)
 have hi:=B4 (F:=Cod.F) hf
 have cp:=fun tch=>DV (m:=m) (s:=Wo s) (fd:=fd) (fo:=fo) (N:=m.fs[f].regs.length) (C:=.row 1 [m.fs[f].F] 5) (tch:=tch) hz
 have mk:=fun k k' K=>HH (k:=k) (k':=k') (n:=m.fs[f].regs.length) (K:=K) (by omega)
 have hil:=Jp m.fs[f].regs.length a
 generalize initR m.fs[f].regs.length a=r0 at cp hl hil
 unfold O5 msL Mo at hl
 rw [hil] at hl
 rw [A7 (c:=tG) (nt:=109) (rs:=[.tmp 6]) rfl (by simp)]; unfold tG
 unfold Vq Vp Vo Vn Vm Vl Vk eR
 unfold D9 at cp hl ⊢
 unfold mB at cp hl ⊢
 simp only [Cod.F,Wo] at hi cp hl ⊢
 cases fa <;> cases fd <;> cases fo <;> (
  simp only [dA,dR,oA,oR,aR,nB,nE,d9,Nat.reduceAdd,List.cons_append,List.nil_append,List.append_nil] at cp hl ⊢
  simp -implicitDefEqProofs only [hg,hc,hi,cp,hl,Wn,mk,List.length_map,XP,Nat.reduceAdd,Nat.reduceSub,Nat.reduceLT,Nat.reduceLeDiff,Nat.reduceEqDiff,Nat.reduceMul,↓reduceIte]
  exact ⟨_,rfl⟩)
set_option maxHeartbeats 4000000 in
theorem DY {z e:Int} (h:¬ 32≤s.calls) (h0:0≤s.calls) (hf:f < m.fs.length) (hn:m.fs[f].regs.length≤100000) (hz:fa=false->a=[]) (hl:evP ⟨A0,T,A6⟩ (.code (.loop j3) (O5 fa fd fo false (initR m.fs[f].regs.length a) 0) (msL fa fd fo false m (Wo s) a m.fs[f] (initR m.fs[f].regs.length a) [0]))=some (.pan (D1 z e) ⟨D9 fa fd fo n2 m s2 a,nE fa fd fo,t1⟩)):∃ t1,evP ⟨A0,T,A6⟩ (.body 24 [.ptr 0 0 0,.int .i64 (f:Int),d9 fa 1 a] ⟨D9 fa fd fo false m s a,nE fa fd fo,[]⟩)=some (.pan (D1 z e) ⟨D9 fa fd fo n2 m s2 a,nE fa fd fo,t1⟩):=by
 have hg:decide (s.calls ≥ 32)=false:=by simp; omega
 have hc:=Dn (n:=s.calls + 1) (by omega) (by omega)
 have hi:=B4 (F:=Cod.F) hf
 have cp:=fun tch=>DV (m:=m) (s:=Wo s) (fd:=fd) (fo:=fo) (N:=m.fs[f].regs.length) (C:=.row 1 [m.fs[f].F] 5) (tch:=tch) hz
 have mk:=fun k k' K=>HH (k:=k) (k':=k') (n:=m.fs[f].regs.length) (K:=K) (by omega)
 have hil:=Jp m.fs[f].regs.length a
 generalize initR m.fs[f].regs.length a=r0 at cp hl hil
 unfold D1 at hl ⊢
 unfold O5 msL Mo at hl
 rw [hil] at hl
 rw [A7 (c:=tG) (nt:=109) (rs:=[.tmp 6]) rfl (by simp)]; unfold tG
 unfold Vq Vp Vo Vn Vm Vl Vk eR
 unfold D9 at cp hl ⊢
 unfold mB at cp hl ⊢
 simp only [Cod.F,Wo] at hi cp hl ⊢
 cases fa <;> cases fd <;> cases fo <;> cases n2 <;> (
  simp only [dA,dR,oA,oR,aR,nB,nE,d9,Nat.reduceAdd,List.cons_append,List.nil_append,List.append_nil] at cp hl ⊢
  simp -implicitDefEqProofs only [hg,hc,hi,cp,hl,Wn,mk,Th,Ti,List.length_map,XP,Nat.reduceAdd,Nat.reduceSub,Nat.reduceLT,Nat.reduceLeDiff,Nat.reduceEqDiff,Nat.reduceMul,↓reduceIte]
  exact ⟨_,rfl⟩)
end
end Go.Proofs.AmEnv
set_option maxRecDepth 100000
namespace Go.Proofs.AmEnv
open Go Go.AM
variable {T:Nat->Option (List AV->Option (List AV))}
theorem nT {c:Cod} {i:Nat} (h:i < c.blocks.length):blkAt c (i:Int)=c.blocks[i]:=by simp [blkAt,List.getD_eq_getElem?_getD,h]
theorem nU {m:Modl} {i:Nat} (h:i < m.fs.length):Kx m (i:Int)=m.fs[i]:=by simp [Kx,List.getD_eq_getElem?_getD,h]
section
variable {m:Modl} {C:Int->List Int->Mst->Rs} {fa fd fo:Bool} {a:List Int} {c:Cod} {cl:Int}
def HI (fa fd fo:Bool) (m:Modl) (a:List Int) (y:Rs) (n2:Bool) (t1:List Nat):PR:=match y with
 | .ret v s2=>.ok .ret [(6,.int .i64 v)] ⟨D9 fa fd fo n2 m s2 a,nE fa fd fo,t1⟩
 | .stop st e s2=>.pan (D1 st e) ⟨D9 fa fd fo n2 m s2 a,nE fa fd fo,t1⟩
structure OutE (m:Modl) (s:Mst) (y:Rs):Prop where
 ok:Sok m y.st
 st:y.st.steps≤s.steps
 rt:∀ v s2,y=.ret v s2->s2.calls=s.calls - 1
theorem OutE.of {s s1:Mst} {y:Rs} (h:OutE m s1 y) (h1:s1.steps≤s.steps) (h2:s1.calls=s.calls):OutE m s y:=⟨h.ok,Int.le_trans h.st h1,fun v s2 e=>by rw [h.rt v s2 e,h2]⟩
theorem uH (R:RunT T) (hc:nO T m C (jR m cl)) (hp:nR m cl C) (hC:CodR m c) (hd0:fd=false->m.gs=[]) :
 ∀ (f i:Nat) (n:Bool) (r:List Int) (s:Mst) (tch:List Nat),i < c.blocks.length->r.length=c.regs.length->Sok m s->1≤s.calls->s.calls=cl->s.steps.toNat < f->(fo=false->n=false->s.out=[]) ->
   OutE m s (L3 m C c f i r s)∧∃ n2 t1,evP ⟨A0,T,A6⟩ (.code (.loop j3) (O5 fa fd fo n r (i:Int)) (msL fa fd fo n m s a c r tch))=some (HI fa fd fo m a (L3 m C c f i r s) n2 t1)∧(fo=false->n2=false->(L3 m C c f i r s).st.out=[])
 | 0,i,n,r,s,tch,hi,hr,hs,hca,hcl,hf,ho=>absurd hf (Nat.not_lt_zero _)
 | f + 1,i,n,r,s,tch,hi,hr,hs,hca,hcl,hf,ho=>by
  obtain ⟨b1,b2,b3⟩:=hC.b _ (List.getElem_mem hi)
  obtain ⟨g1,n2,t1,g2,g3⟩:=wH (fa:=fa) (fo:=fo) (a:=a) (c:=c) (at0:=(i:Int)) R hc hp b1 b2 hd0 c.blocks[i].code.length 0 n r s (yM (nE fa fd fo) tch) (by omega) hr hs hcl ho
  rw [List.drop_zero] at g1 g2 g3
  rw [L3,nT hi]
  cases hy:insF m C c.blocks[i].code r s with
  | stop z e s2 =>
   rw [hy] at g1 g2 g3
   obtain ⟨t2,q⟩:=MO (tch:=tch) hi g2
   exact ⟨⟨g1.ok,g1.st,fun _ _ e=>by cases e⟩,n2,t2,Cs q,g3⟩
  | go r2 s2 =>
   rw [hy] at g1 g2 g3
   obtain ⟨hr2,hc2⟩:=g1.go _ _ rfl
   have k1:Sok m s2:=g1.ok
   have k2:s2.steps≤s.steps:=g1.st
   dsimp only
   by_cases h1:s2.steps < 1
   . rw [if_pos h1]
     have K:=fun t=>DN (T:=T) (m:=m) (s:=s2) (fa:=fa) (fd:=fd) (fo:=fo) (n:=n2) (r:=r2) (a:=a) (c:=c) (tch:=t) R hi (by omega)
     obtain ⟨t2,q⟩:=MN (tch:=tch) (F:=fun t=>(K t).choose) hi g2 (fun t=>(K t).choose_spec)
     exact ⟨⟨k1,k2,fun _ _ e=>by cases e⟩,n2,t2,Cs q,g3⟩
   . rw [if_neg h1]
     have k3:=k1.stp (by omega)
     have hst:(stp s2).steps≤s.steps:=by simp only [stp]; omega
     have hst2:(stp s2).steps.toNat < f:=by simp only [stp]; omega
     by_cases hk3:c.blocks[i].e.kind=3
     . rw [if_pos hk3]
       have fin:∀ v,(∀ t,∃ t1,evP ⟨A0,T,A6⟩ (.code N0 (O5 fa fd fo n2 r2 (i:Int)) (msL fa fd fo n2 m s2 a c r2 t))=some (.ok .ret [(6,.int .i64 v)] ⟨D9 fa fd fo n2 m { stp s2 with calls:=s2.calls - 1 } a,nE fa fd fo,t1⟩)) ->
        OutE m s (.ret v { stp s2 with calls:=s2.calls - 1 })∧∃ n3 t1,evP ⟨A0,T,A6⟩ (.code (.loop j3) (O5 fa fd fo n r (i:Int)) (msL fa fd fo n m s a c r tch))=some (HI fa fd fo m a (.ret v { stp s2 with calls:=s2.calls - 1 }) n3 t1)∧(fo=false->n3=false->(Rs.ret v { stp s2 with calls:=s2.calls - 1 }).st.out=[]):=by
        intro v K
        obtain ⟨t2,q⟩:=MM (tch:=tch) (F:=fun t=>(K t).choose) hi g2 (fun t=>(K t).choose_spec)
        have hca2:=k1.ca
        refine ⟨⟨⟨k3.1.d,k3.1.st,k3.1.ou,?_⟩,hst,fun _ _ e=>by cases e; rw [← hc2]⟩,n2,t2,y5 q,g3⟩
        show 0≤s2.calls - 1∧s2.calls - 1≤33
        omega
       by_cases ha:c.blocks[i].e.a < 0
       . rw [if_pos ha]
         exact fin 0 fun t=>DO R hi (by omega) k1.st hk3 ha k1.ca.1 (by have:=k1.ca; omega)
       . rw [if_neg ha]
         exact fin _ fun t=>DQ R hi (by omega) k1.st hk3 ⟨by omega,by have:=b3.a3 hk3; omega⟩ k1.ca.1 (by have:=k1.ca; omega)
     . rw [if_neg hk3]
       have fin:∀ (j:Int),0≤j->j < c.blocks.length->(∀ t,∃ t1,evP ⟨A0,T,A6⟩ (.code N0 (O5 fa fd fo n2 r2 (i:Int)) (msL fa fd fo n2 m s2 a c r2 t))=some (.ok .normal (O5 fa fd fo n2 r2 j) (msL fa fd fo n2 m (stp s2) a c r2 t1))) ->
        OutE m s (L3 m C c f j r2 (stp s2))∧∃ n3 t1,evP ⟨A0,T,A6⟩ (.code (.loop j3) (O5 fa fd fo n r (i:Int)) (msL fa fd fo n m s a c r tch))=some (HI fa fd fo m a (L3 m C c f j r2 (stp s2)) n3 t1)∧(fo=false->n3=false->(L3 m C c f j r2 (stp s2)).st.out=[]):=by
        intro j h0 hj K
        obtain ⟨j,rfl⟩:∃ k:Nat,j=k:=⟨j.toNat,by omega⟩
        obtain ⟨t2,q⟩:=ML (tch:=tch) (F:=fun t=>(K t).choose) hi g2 (fun t=>(K t).choose_spec)
        obtain ⟨u1,n3,t3,u2,u3⟩:=uH R hc hp hC hd0 f j n2 r2 (stp s2) t2 (by omega) hr2 k3.1 (by show 1≤s2.calls; omega) (hc2.trans hcl) hst2 g3
        exact ⟨u1.of hst hc2,n3,t3,by rw [I7 q]; exact u2,u3⟩
       by_cases hk2:c.blocks[i].e.kind=2
       . obtain ⟨a1,a2⟩:=b3.a2 hk2
         by_cases hv:at' r2 c.blocks[i].e.a=0
         . rw [if_pos ⟨hk2,hv⟩]
           exact fin _ (b3.els hk2).1 (b3.els hk2).2 fun t=>DS R hi (by omega) k1.st hk2 ⟨a1,by omega⟩ hv
         . rw [if_neg (fun e=>hv e.2)]
           exact fin _ (b3.to hk3).1 (b3.to hk3).2 fun t=>DT R hi (by omega) k1.st hk2 ⟨a1,by omega⟩ hv
       . rw [if_neg (fun e=>hk2 e.1)]
         exact fin _ (b3.to hk3).1 (b3.to hk3).2 fun t=>DU R hi (by omega) k1.st (by have:=b3.k; omega)
theorem Y9.len0 {s:Mst} (h:Y9 m s.data) (e:s.data=[]):m.gs=[]:=List.length_eq_zero_iff.1 (by rw [← h.1,e]; rfl)
theorem Zu (R:RunT T) (hM:ModR' m):∀ (d:Nat) (cl:Int),33 - cl≤d->0≤cl->nR m cl (K5 m d)∧nO T m (K5 m d) (jR m cl)
 | 0,cl,h,h0=>by
  refine ⟨fun f a s hp=>?_,fun fa fd fo f a s hp hz hd ho=>?_⟩
  . exact ⟨hp.2.1,Int.le_refl _,fun _ _ e=>by cases e⟩
  . obtain ⟨t1,e⟩:=uG (T:=T) (m:=m) (s:=s) (fa:=fa) (fd:=fd) (fo:=fo) (a:=a) (f:=f.toNat) R (by have:=hp.2.2; omega)
    rw [Int.toNat_of_nonneg hp.1.1] at e
    exact ⟨false,t1,fun e _=>ho e,e⟩
 | d + 1,cl,h,h0=>by
  obtain ⟨i1,i2⟩:=Zu R hM d (cl + 1) (by omega) (by omega)
  have key:∀ (fa fd fo:Bool) (f:Int) (a:List Int) (s:Mst),jR m cl f a s->(fa=false->a=[])->(fd=false->s.data=[])->(fo=false->s.out=[]) ->
   (Sok m (K5 m (d + 1) f a s).st∧(K5 m (d + 1) f a s).st.steps≤s.steps∧∀ v s',K5 m (d + 1) f a s=.ret v s'->s'.calls=s.calls) ∧
   ∃ n' t1,(fo=false->n'=false->(K5 m (d + 1) f a s).st.out=[])∧evP ⟨A0,T,A6⟩ (.body 24 [.ptr 0 0 0,.int .i64 f,d9 fa 1 a] ⟨D9 fa fd fo false m s a,nE fa fd fo,[]⟩)=some (rC (K5 m (d + 1) f a s) fun s'=>⟨D9 fa fd fo n' m s' a,nE fa fd fo,t1⟩):=by
   intro fa fd fo f a s hp hz hd ho
   obtain ⟨⟨f0,f1⟩,hs,hcl⟩:=hp
   obtain ⟨f,rfl⟩:∃ k:Nat,f=k:=⟨f.toNat,by omega⟩
   have hf:f < m.fs.length:=by omega
   rw [K5]
   by_cases h32:32≤s.calls
   . rw [if_pos h32]
     obtain ⟨t1,e⟩:=uG (T:=T) (m:=m) (s:=s) (fa:=fa) (fd:=fd) (fo:=fo) (a:=a) (f:=f) R h32
     exact ⟨⟨hs,Int.le_refl _,fun _ _ e=>by cases e⟩,false,t1,fun e _=>ho e,e⟩
   . rw [if_neg h32,nU hf]
     have hC:=hM.f _ (List.getElem_mem hf)
     have hs':Sok m (Wo s):=⟨hs.d,hs.st,hs.ou,by show 0≤s.calls + 1∧s.calls + 1≤33; have:=hs.ca; omega⟩
     obtain ⟨g1,n2,t1,g2,g3⟩:=uH (fa:=fa) (fd:=fd) (fo:=fo) (a:=a) R i2 i1 hC (fun e=>hs.d.len0 (hd e)) (s.steps.toNat + 1) 0 false (initR m.fs[f].regs.length a) (Wo s) [0] hC.nb (Jp _ _) hs' (by show 1≤s.calls + 1; have:=hs.ca; omega) (by show s.calls + 1=cl + 1; omega) (by show s.steps.toNat < s.steps.toNat + 1; omega) (fun e _=>ho e)
     have hb:=hs.ca.1
     show (Sok m (L3 m (K5 m d) m.fs[f] (s.steps.toNat + 1) 0 (initR m.fs[f].regs.length a) (Wo s)).st∧(L3 m (K5 m d) m.fs[f] (s.steps.toNat + 1) 0 (initR m.fs[f].regs.length a) (Wo s)).st.steps≤s.steps∧∀ v s',L3 m (K5 m d) m.fs[f] (s.steps.toNat + 1) 0 (initR m.fs[f].regs.length a) (Wo s)=.ret v s'->s'.calls=s.calls)∧∃ n' t1,(fo=false->n'=false->(L3 m (K5 m d) m.fs[f] (s.steps.toNat + 1) 0 (initR m.fs[f].regs.length a) (Wo s)).st.out=[])∧_=some (rC (L3 m (K5 m d) m.fs[f] (s.steps.toNat + 1) 0 (initR m.fs[f].regs.length a) (Wo s)) _)
     replace g1:OutE m (Wo s) (L3 m (K5 m d) m.fs[f] (s.steps.toNat + 1) 0 (initR m.fs[f].regs.length a) (Wo s)):=g1
     replace g3:fo=false->n2=false->(L3 m (K5 m d) m.fs[f] (s.steps.toNat + 1) 0 (initR m.fs[f].regs.length a) (Wo s)).st.out=[]:=g3
     replace g2:evP ⟨A0,T,A6⟩ (.code (.loop j3) (O5 fa fd fo false (initR m.fs[f].regs.length a) 0) (msL fa fd fo false m (Wo s) a m.fs[f] (initR m.fs[f].regs.length a) [0]))=some (HI fa fd fo m a (L3 m (K5 m d) m.fs[f] (s.steps.toNat + 1) 0 (initR m.fs[f].regs.length a) (Wo s)) n2 t1):=g2
     cases hy:L3 m (K5 m d) m.fs[f] (s.steps.toNat + 1) 0 (initR m.fs[f].regs.length a) (Wo s) with
     | ret v s2 =>
      rw [hy] at g1 g2 g3
      obtain ⟨t2,e⟩:=DW h32 hb hf hC.nr hz g2
      refine ⟨⟨g1.ok,g1.st,fun v' s' e=>?_⟩,n2,t2,g3,e⟩
      cases e
      have:s2.calls=s.calls + 1 - 1:=g1.rt _ _ rfl
      omega
     | stop z e s2 =>
      rw [hy] at g1 g2 g3
      obtain ⟨t2,e⟩:=DY h32 hb hf hC.nr hz g2
      exact ⟨⟨g1.ok,g1.st,fun _ _ e=>by cases e⟩,n2,t2,g3,e⟩
  refine ⟨fun f a s hp=>?_,fun fa fd fo f a s hp hz hd ho=>(key fa fd fo f a s hp hz hd ho).2⟩
  exact (key true true true f a s hp (fun e=>by cases e) (fun e=>by cases e) (fun e=>by cases e)).1
end
end Go.Proofs.AmEnv
set_option maxRecDepth 100000
namespace Go.Proofs.AmEnv
open Go Go.AM
variable {T:Nat->Option (List AV->Option (List AV))}
def Hs (g:Glo):Nat:=(max g.size 1).toNat
def Be (l:List Glo):List (List Int):=l.map fun g=>List.replicate (Hs g) 0
section
variable {m:Modl} {input:List Int} {steps:Int} {i:Nat} {K:PK}
def sI (steps:Int) (input:List Int) (l:List Glo):Mst:=⟨steps,input,Be l,[],0⟩
theorem DZ {a:Int}:E5 A0 .max [3,3] [.int .i64 a,.int .i64 1] K=some (.int .i64 (max a 1),K):=by
 have e:E5 A0 .max [3,3] [.int .i64 a,.int .i64 1] K=some (.int .i64 (bif intLe 1 a then a else 1),K):=rfl
 rw [e,J0]
 by_cases h:1≤a
 . rw [decide_eq_true h,cond_true,Int.max_eq_left h]
 . rw [decide_eq_false h,cond_false,Int.max_eq_right (by omega)]
theorem nV {x:AV}:AV.withCells .nilptr 0 [x]=x:=rfl
theorem fK (a b d e:Nat):Hy (.msl a b d e)=false:=rfl
theorem fL:Hy .nilsl=false:=rfl
def dV (d:List (List Int)):AV:=match d with | []=>.nilsl | _ :: _=>.msl 4 0 d.length 1
def dW (d:List (List Int)):List PO:=match d with | []=>[] | _ :: _=>[.row 0 (d.map rowO) 1]
def dB (m:Modl) (s:Mst):PK:=⟨.row 1 [m.F] 2 :: .row 1 [.agg [.nilsl,.int .i64 0,.int .i64 0]] 3 :: .row 1 [.ptr 3 0 0] 1 :: .row 1 [mB m s (dV s.data) .nilsl] 9 :: dW s.data,0,[]⟩
theorem nW {d:List (List Int)} (h:d ≠ []):dV d=.msl 4 0 d.length 1:=by cases d with | nil=>exact absurd rfl h | cons _ _=>rfl
theorem nX {d:List (List Int)} (h:d ≠ []):dW d=[.row 0 (d.map rowO) 1]:=by cases d with | nil=>exact absurd rfl h | cons _ _=>rfl
theorem MP (h:0 < m.gs.length) (hz:∀ g∈m.gs,g.size≤100000):evP ⟨A0,T,A6⟩ (.code Hg [(3,.ptr 0 0 0),(6,.ptr 1 0 0),(7,.ptr 2 0 0),(17,fslN (m.gs.map Glo.F)),(18,.int .i64 (m.gs.length:Int)),(19,.int .i64 0)] (dB m (sI steps input [])))=some (.ok .normal [(3,.ptr 0 0 0),(6,.ptr 1 0 0),(7,.ptr 2 0 0),(17,fslN (m.gs.map Glo.F)),(18,.int .i64 (m.gs.length:Int)),(19,.int .i64 ((1:Nat):Int))] (dB m (sI steps input (m.gs.take 1)))):=by
 have hzi:=hz _ (List.getElem_mem h)
 have hlt:decide ((0:Int) < (m.gs.length:Int))=true:=by simp [h]
 have hi:Ug Ll (fslN (m.gs.map Glo.F)) (.int .i64 0)=some (.fptr m.gs[0].F 0):=ix_fslN (i:=0) (B4 (F:=Glo.F) h) rfl
 have hm:max m.gs[0].size 1=(Hs m.gs[0]:Int):=by unfold Hs; omega
 have mk:=fun k k' K=>HH (k:=k) (k':=k') (n:=Hs m.gs[0]) (K:=K) (by unfold Hs; omega)
 have ht:m.gs.take 1=[m.gs[0]]:=by
  rw [List.take_succ_eq_append_getElem h]; rfl
 rw [ht]
 unfold Hg dB sI
 unfold mB Modl.F
 simp only [Glo.F] at hi ⊢
 simp only [dV,dW,Be,List.length_nil,List.map_nil,List.map_cons,List.length_cons,Nat.zero_add]
 simp -implicitDefEqProofs only [hlt,hi,hm,Wn,mk,fK,fL,List.length_replicate,List.length_map,DZ,show IntKind.i64.wrap (0 + 1)=((1:Nat):Int) from rfl,XP,Nat.reduceAdd,Nat.reduceSub,Nat.reduceLT,Nat.reduceLeDiff,Nat.reduceEqDiff,Nat.reduceMul,↓reduceIte]
 rfl
theorem MQ (h:i < m.gs.length) (h0:0 < i) (hz:∀ g∈m.gs,g.size≤100000) (hl:m.gs.length≤100000):evP ⟨A0,T,A6⟩ (.code Hg [(3,.ptr 0 0 0),(6,.ptr 1 0 0),(7,.ptr 2 0 0),(17,fslN (m.gs.map Glo.F)),(18,.int .i64 (m.gs.length:Int)),(19,.int .i64 (i:Int))] (dB m (sI steps input (m.gs.take i))))=some (.ok .normal [(3,.ptr 0 0 0),(6,.ptr 1 0 0),(7,.ptr 2 0 0),(17,fslN (m.gs.map Glo.F)),(18,.int .i64 (m.gs.length:Int)),(19,.int .i64 ((i + 1:Nat):Int))] (dB m (sI steps input (m.gs.take (i + 1))))):=by
 have hzi:=hz _ (List.getElem_mem h)
 have hlt:decide ((i:Int) < (m.gs.length:Int))=true:=by simp [h]
 have hw:=D3 (i:=i) (by omega)
 have hi:=B4 (F:=Glo.F) h
 have hm:max m.gs[i].size 1=(Hs m.gs[i]:Int):=by unfold Hs; omega
 have mk:=fun k k' K=>HH (k:=k) (k':=k') (n:=Hs m.gs[i]) (K:=K) (by unfold Hs; omega)
 have hz8:(i + 1) * 24≤140737488355328:=by omega
 have hd:Be (m.gs.take (i + 1))=Be (m.gs.take i) ++ [List.replicate (Hs m.gs[i]) 0]:=by
  rw [List.take_succ_eq_append_getElem h]; unfold Be; rw [List.map_append]; rfl
 have hdl:(Be (m.gs.take i)).length=i:=by simp [Be]; omega
 unfold sI
 rw [hd]
 have hne:Be (m.gs.take i) ≠ []:=fun e=>by rw [e] at hdl; simp at hdl; omega
 have hne2:Be (m.gs.take i) ++ [List.replicate (Hs m.gs[i]) 0] ≠ []:=by simp
 have hv:=nW hne
 have hwv:=nX hne
 have hv2:=nW hne2
 have hwv2:=nX hne2
 rw [List.map_append,show [List.replicate (Hs m.gs[i]) (0:Int)].map rowO=[ownd 0 1 (ints (List.replicate (Hs m.gs[i]) 0))] from rfl] at hwv2
 rw [List.length_append,List.length_singleton,hdl] at hv2
 rw [hdl] at hv
 unfold Hg dB
 dsimp only
 rw [hv,hwv,hv2,hwv2]
 unfold mB Modl.F
 simp only [Glo.F] at hi ⊢
 simp -implicitDefEqProofs only [hlt,hi,hw,hm,hdl,hz8,Wn,mk,fK,fL,List.length_replicate,List.length_map,DZ,j9,List.contains_cons,List.contains_nil,Nat.reduceBEq,XP,Nat.reduceAdd,Nat.reduceSub,Nat.reduceLT,Nat.reduceLeDiff,Nat.reduceEqDiff,Nat.reduceMul,↓reduceIte]
theorem EA:∃ fr',evP ⟨A0,T,A6⟩ (.code Hg [(3,.ptr 0 0 0),(6,.ptr 1 0 0),(7,.ptr 2 0 0),(17,fslN (m.gs.map Glo.F)),(18,.int .i64 (m.gs.length:Int)),(19,.int .i64 (m.gs.length:Int))] K)=some (.ok (.exit 0) fr' K)∧lookP fr' 3=.ptr 0 0 0∧lookP fr' 6=.ptr 1 0 0∧lookP fr' 7=.ptr 2 0 0:=by
 unfold Hg
 have hlt:decide ((m.gs.length:Int) < (m.gs.length:Int))=false:=by simp
 simp -implicitDefEqProofs only [hlt,XP,seval]
 exact ⟨_,rfl,rfl,rfl,rfl⟩
theorem MR (hz:∀ g∈m.gs,g.size≤100000) (hl:m.gs.length≤100000):∃ fr',evP ⟨A0,T,A6⟩ (.code (.loop Hg) [(3,.ptr 0 0 0),(6,.ptr 1 0 0),(7,.ptr 2 0 0),(17,fslN (m.gs.map Glo.F)),(18,.int .i64 (m.gs.length:Int)),(19,.int .i64 0)] (dB m (sI steps input [])))=some (.ok (.exit 0) fr' (dB m (sI steps input m.gs)))∧lookP fr' 3=.ptr 0 0 0∧lookP fr' 6=.ptr 1 0 0∧lookP fr' 7=.ptr 2 0 0:=by
 by_cases h0:m.gs.length=0
 . have h1:m.gs=[]:=List.length_eq_zero_iff.1 h0
   obtain ⟨fr',e,p⟩:=EA (T:=T) (m:=m) (K:=dB m (sI steps input []))
   rw [h1] at e ⊢
   exact ⟨fr',K7 e,p⟩
 . have:=Rb (P:=⟨A0,T,A6⟩) (c:=Hg) (fun i=>([(3,.ptr 0 0 0),(6,.ptr 1 0 0),(7,.ptr 2 0 0),(17,fslN (m.gs.map Glo.F)),(18,.int .i64 (m.gs.length:Int)),(19,.int .i64 ((i + 1:Nat):Int))],dB m (sI steps input (m.gs.take (i + 1))))) (m.gs.length - 1) fun i hi=>MQ (by omega) (by omega) hz hl
   obtain ⟨fr',e,p⟩:=EA (T:=T) (m:=m) (K:=dB m (sI steps input m.gs))
   refine ⟨fr',?_,p⟩
   rw [I7 (MP (by omega) hz),this]
   simp only [show m.gs.length - 1 + 1=m.gs.length by omega]
   rw [List.take_of_length_le (by omega)]
   exact K7 e
theorem EB (hz:∀ g∈m.gs,g.size≤100000) (hl:m.gs.length≤100000):evP ⟨A0,T,A6⟩ (.code lY (enterP 0 [m.F,fslN (ints input),.int .i64 steps]) ⟨[],0,[]⟩)=some (.ok .normal [(3,.ptr 0 0 0),(6,.ptr 1 0 0),(7,.ptr 2 0 0),(37,.fn (.func 23) [] [.ptr 2 0 0,.ptr 1 0 0])] (dB m (sI steps input m.gs))):=by
 obtain ⟨fr',h,h1,h2,h3⟩:=MR (T:=T) (steps:=steps) (input:=input) hz hl
 unfold lY
 unfold dB at h ⊢
 cases hd:Be m.gs with
 | nil =>
  simp only [sI,hd,dV,dW,show Be []=[] from rfl] at h ⊢
  unfold mB Modl.F at h ⊢
  dsimp only at h ⊢
  simp -implicitDefEqProofs only [h,h1,h2,h3,nV,List.length_map,XP,Nat.reduceAdd,Nat.reduceSub,Nat.reduceLT,Nat.reduceLeDiff,Nat.reduceEqDiff,Nat.reduceMul,↓reduceIte]
 | cons y ys =>
  simp only [sI,hd,dV,dW,show Be []=[] from rfl] at h ⊢
  unfold mB Modl.F at h ⊢
  dsimp only at h ⊢
  simp -implicitDefEqProofs only [h,h1,h2,h3,nV,List.length_map,XP,Nat.reduceAdd,Nat.reduceSub,Nat.reduceLT,Nat.reduceLeDiff,Nat.reduceEqDiff,Nat.reduceMul,↓reduceIte]
end
end Go.Proofs.AmEnv
set_option maxRecDepth 100000
namespace Go.Proofs.AmEnv
open Go Go.AM
variable {T:Nat->Option (List AV->Option (List AV))}
section
variable {m:Modl} {s s2:Mst} {fd n':Bool} {f v st e:Int} {t0:List Nat}
def oQ (n':Bool) (i:Nat) (o:List Int):AV:=match n' with | true=>.msl i 0 o.length 1 | false=>.nilsl
def Am:AV:=.agg [.nilsl,.int .i64 0,.int .i64 0]
def An (fd n':Bool) (m:Modl) (x:AV) (s:Mst):List PO:=.row 1 [m.F] 2 :: .row 1 [x] 3 :: .row 1 [.ptr 3 0 0] 1 :: .row 1 [mB m s (dA fd 4 s) (oQ n' (4 + nB fd) s.out)] 9 :: (dR fd s ++ oG n' s.out)
def jS (fd:Bool):List Nat:=3 :: (match fd with | true=>[4] | false=>[])
theorem EC (R:RunT T) (hb:evP ⟨A0,T,A6⟩ (.body 24 [.ptr 0 0 0,.int .i64 f,.nilsl] ⟨D9 false fd false false m s [],nE false fd false,[]⟩)=some (.val [.int .i64 v] ⟨D9 false fd false n' m s2 [],nE false fd false,t0⟩)) :
 ∃ t1,∀ tch,evP ⟨A0,T,A6⟩ (.call 24 [.ptr 3 0 0,.int .i64 f,.nilsl] ⟨An fd false m Am s,4 + nB fd,tch⟩)=some (.val [.int .i64 v] ⟨An fd n' m Am s2,4 + nB fd,t1 ++ tch⟩):=by
 refine ⟨((t0.filter (· < (jS fd).length)).map fun j=>(jS fd).getD j 0),fun tch=>gR (ids:=jS fd) (args':=[.ptr 0 0 0,.int .i64 f,.nilsl]) (Kf:=⟨D9 false fd false false m s [],nE false fd false,[]⟩) R.hL rfl ?_ ?_ ?_ hb ?_ ?_⟩ <;> cases fd <;> cases n' <;> rfl
theorem wI (R:RunT T) (hb:evP ⟨A0,T,A6⟩ (.body 24 [.ptr 0 0 0,.int .i64 f,.nilsl] ⟨D9 false fd false false m s [],nE false fd false,[]⟩)=some (.pan (D1 st e) ⟨D9 false fd false n' m s2 [],nE false fd false,t0⟩)) :
 ∃ t1,∀ tch,evP ⟨A0,T,A6⟩ (.call 24 [.ptr 3 0 0,.int .i64 f,.nilsl] ⟨An fd false m Am s,4 + nB fd,tch⟩)=some (.pan (D1 st e) ⟨An fd n' m Am s2,4 + nB fd,t1 ++ tch⟩):=by
 refine ⟨((t0.filter (· < (jS fd).length)).map fun j=>(jS fd).getD j 0),fun tch=>Wl (ids:=jS fd) (args':=[.ptr 0 0 0,.int .i64 f,.nilsl]) (Kf:=⟨D9 false fd false false m s [],nE false fd false,[]⟩) R.hL rfl ?_ ?_ ?_ hb ?_ ?_⟩ <;> cases fd <;> cases n' <;> rfl
def Az (m:Modl):Int:=idxOf (fun c:Cod=>decide (c.name=E4)) m.fs
def l9 (fd n':Bool) (o:List Int) (st e:Int):AV:=.agg [oQ n' (4 + nB fd) o,.int .i64 st,.int .i64 e]
theorem ED (R:RunT T) (hm:T 21=some J7) (hs:m.fs.length≤bigN) (hb:evP ⟨A0,T,A6⟩ (.body 24 [.ptr 0 0 0,.int .i64 (Az m),.nilsl] ⟨D9 false fd false false m s [],nE false fd false,[]⟩)=some (.val [.int .i64 v] ⟨D9 false fd false n' m s2 [],nE false fd false,t0⟩)) :
 ∃ t1,evP ⟨A0,T,A6⟩ (.code cM [(3,.ptr 0 0 0),(6,.ptr 1 0 0),(7,.ptr 2 0 0),(37,.fn (.func 23) [] [.ptr 2 0 0,.ptr 1 0 0])] ⟨An fd false m Am s,4 + nB fd,[]⟩)=some (.ok .ret [(6,.ptr 1 0 0)] ⟨An fd n' m (l9 fd n' s2.out 1 v) s2,4 + nB fd,t1⟩):=by
 obtain ⟨t1,hc⟩:=EC R hb
 have hq:=fun K=>Fk (K:=K) (m:=m) hm hs
 unfold Az at hc
 unfold cM An l9
 unfold An at hc
 unfold mB Modl.F Am at hc ⊢
 unfold Modl.F at hq
 cases fd <;> cases n' <;> (
  simp only [dA,dR,nB,oQ,oG,Nat.reduceAdd,List.cons_append,List.nil_append,List.append_nil] at hc ⊢
  simp -implicitDefEqProofs only [hc,hq,j9,List.contains_cons,List.contains_nil,Nat.reduceBEq,XP,seval]
  exact ⟨_,rfl⟩)
theorem wJ (R:RunT T) (hm:T 21=some J7) (hs:m.fs.length≤bigN) (hb:evP ⟨A0,T,A6⟩ (.body 24 [.ptr 0 0 0,.int .i64 (Az m),.nilsl] ⟨D9 false fd false false m s [],nE false fd false,[]⟩)=some (.pan (D1 st e) ⟨D9 false fd false n' m s2 [],nE false fd false,t0⟩)) :
 ∃ t1,evP ⟨A0,T,A6⟩ (.code cM [(3,.ptr 0 0 0),(6,.ptr 1 0 0),(7,.ptr 2 0 0),(37,.fn (.func 23) [] [.ptr 2 0 0,.ptr 1 0 0])] ⟨An fd false m Am s,4 + nB fd,[]⟩)=some (.pan (D1 st e) ⟨An fd n' m Am s2,4 + nB fd,t1⟩):=by
 obtain ⟨t1,hc⟩:=wI R hb
 have hq:=fun K=>Fk (K:=K) (m:=m) hm hs
 unfold Az at hc
 unfold cM An
 unfold An at hc
 unfold mB Modl.F Am D1 at hc ⊢
 unfold Modl.F at hq
 cases fd <;> cases n' <;> (
  simp only [dA,dR,nB,oQ,oG,Nat.reduceAdd,List.cons_append,List.nil_append,List.append_nil] at hc ⊢
  simp -implicitDefEqProofs only [hc,hq,Th,Ti,j9,List.contains_cons,List.contains_nil,Nat.reduceBEq,XP,seval]
  exact ⟨_,rfl⟩)
theorem wK:∃ fr3 t1,evP ⟨A0,T,A6⟩ (.rcv (.fn (.func 23) [] [.ptr 2 0 0,.ptr 1 0 0]) .niliface ⟨An fd n' m (l9 fd n' s.out st e) s,(An fd n' m (l9 fd n' s.out st e) s).length,[]⟩)=some (.ok .normal fr3 ⟨An fd n' m (l9 fd n' s.out st e) s,(An fd n' m (l9 fd n' s.out st e) s).length,t1⟩):=by
 have key:∃ fr3 t1,evP ⟨A0,T,A6⟩ (.code lZ (setPs' [4,2] [.niliface,.niliface] (enterP 0 [.ptr 2 0 0,.ptr 1 0 0])) ⟨An fd n' m (l9 fd n' s.out st e) s,(An fd n' m (l9 fd n' s.out st e) s).length,[]⟩)=some (.ok .normal fr3 ⟨An fd n' m (l9 fd n' s.out st e) s,(An fd n' m (l9 fd n' s.out st e) s).length,t1⟩):=by
  unfold lZ An l9
  unfold mB Modl.F
  cases fd <;> cases n' <;> (
   simp only [dA,dR,nB,oQ,oG,setPs',Nat.reduceAdd,List.cons_append,List.nil_append,List.append_nil]
   simp -implicitDefEqProofs only [uC,uD,nK,XP,seval]
   exact ⟨_,_,rfl⟩)
 obtain ⟨fr3,t1,h⟩:=key
 exact ⟨fr3,t1,uT (b:=false) rfl (by decide) h⟩
theorem rG:∃ fr3 t1,evP ⟨A0,T,A6⟩ (.rcv (.fn (.func 23) [] [.ptr 2 0 0,.ptr 1 0 0]) (D1 st e) ⟨An fd n' m Am s,(An fd n' m Am s).length,[]⟩)=some (.ok .normal fr3 ⟨An fd n' m (l9 fd n' s.out st e) s,(An fd n' m Am s).length,t1⟩):=by
 have key:∃ fr3 t1,evP ⟨A0,T,A6⟩ (.code lZ (setPs' [4,2] [D1 st e,D1 st e] (enterP 0 [.ptr 2 0 0,.ptr 1 0 0])) ⟨An fd n' m Am s,(An fd n' m Am s).length,[]⟩)=some (.ok .normal fr3 ⟨An fd n' m (l9 fd n' s.out st e) s,(An fd n' m Am s).length,t1⟩):=by
  unfold lZ An l9 D1 Am
  unfold mB Modl.F
  cases fd <;> cases n' <;> (
   simp only [dA,dR,nB,oQ,oG,setPs',Nat.reduceAdd,List.cons_append,List.nil_append,List.append_nil]
   simp -implicitDefEqProofs only [uC,uD,nK,CY,MB,Th,Ti,XP,seval]
   exact ⟨_,_,rfl⟩)
 obtain ⟨fr3,t1,h⟩:=key
 exact ⟨fr3,t1,uT (b:=false) rfl (by decide) h⟩
end
end Go.Proofs.AmEnv
set_option maxRecDepth 100000
namespace Go.Proofs.AmEnv
open Go Go.AM
variable {T:Nat->Option (List AV->Option (List AV))}
section
variable {m:Modl} {input:List Int} {steps:Int}
def M4 (m:Modl) (input:List Int) (steps:Int):Rs:=K5 m 33 (Az m) [] (sI steps input m.gs)
def Rs.sc:Rs->Int × Int | .ret v _=>(1,v) | .stop st c _=>(st,c)
def Pt (m:Modl) (input:List Int) (steps:Int):List Int:=(M4 m input steps).st.out
structure RunOk (m:Modl) (steps:Int):Prop where
 mr:ModR' m
 gz:∀ g∈m.gs,g.size≤100000
 gl:m.gs.length≤100000
 fl:m.fs.length≤bigN
 mn:0≤Az m∧Az m < m.fs.length
 st:steps≤20000
theorem rH (l:List Glo):Y9 ⟨l,m.fs⟩ (Be l):=by
 refine ⟨by simp [Be],fun i r g hr hg=>?_⟩
 unfold Be at hr
 rw [List.getElem?_map] at hr
 replace hg:l[i]?=some g:=hg
 rw [hg] at hr
 cases hr
 rw [List.length_replicate]
 unfold Hs; omega
theorem EE (h:RunOk m steps):Sok m (sI steps input m.gs):=⟨rH (m:=m) m.gs,h.st,by have:=h.st; show 0 + steps.toNat≤30000; omega,by show (0:Int)≤0∧(0:Int)≤33; decide⟩
def gsB (m:Modl):Bool:=!m.gs.isEmpty
theorem wL (s:Mst) (h:gsB m=false->s.data=[]) (h2:gsB m=true->s.data ≠ []) (ho:s.out=[]):dB m s=⟨An (gsB m) false m Am s,0,[]⟩:=by
 unfold dB An Am
 cases hb:gsB m with
 | false=>rw [h hb]; rfl
 | true=>rw [nW (h2 hb),nX (h2 hb)]; rfl
def Wp (o:List Int) (st e:Int):AV:=.agg [ownd 0 1 (ints o),.int .i64 st,.int .i64 e]
theorem Zw {fd n':Bool} {s:Mst} {st e:Int} (hz:n'=false->s.out=[]):backOk [l9 fd n' s.out st e] [Wp s.out st e] (An fd n' m (l9 fd n' s.out st e) s):=by
 have hl:(ints s.out).length=s.out.length:=by simp [ints]
 cases n' with
 | true =>
  unfold l9 An Wp oQ
  cases fd <;> (
   refine back_of (vs':=[.agg [.msl _ 0 s.out.length 1,.int .i64 st,.int .i64 e]]) rfl (by simp [F3,H3]) (us:=[.agg [.msl 0 0 (ints s.out).length 1,.int .i64 st,.int .i64 e]]) (ps:=[.row 0 (ints s.out) 1]) rfl ?_ ?_
   . rw [hl]; rfl
   . rfl)
 | false =>
  rw [hz rfl]
  unfold l9 An Wp oQ
  cases fd <;> exact back_of (vs':=[.agg [.msl _ 0 0 1,.int .i64 st,.int .i64 e]]) rfl (by simp [F3,H3]) rfl rfl rfl
theorem fM (h:gsB m=false):(sI steps input m.gs).data=[]:=by
 have:m.gs=[]:=by unfold gsB at h; simpa using h
 show Be m.gs=[]; rw [this]; rfl
theorem EF (h:gsB m=true):(sI steps input m.gs).data ≠ []:=by
 show Be m.gs ≠ []
 unfold gsB at h; unfold Be
 cases hg:m.gs with | nil=>rw [hg] at h; cases h | cons _ _=>simp
theorem jT (R:RunT T) (hm:T 21=some J7) (h:RunOk m steps):AM.Comes ⟨A0,T,A6⟩ 10 [m.F,fslN (ints input),.int .i64 steps] [Wp (Pt m input steps) (M4 m input steps).sc.1 (M4 m input steps).sc.2]:=by
 have hs:=EE (input:=input) h
 obtain ⟨n',t0,q1,q2⟩:=(Zu R h.mr 33 0 (by decide) (by decide)).2 false (gsB m) false (Az m) [] (sI steps input m.gs) ⟨h.mn,hs,rfl⟩ (fun _=>rfl) (fun e=>fM e) (fun _=>rfl)
 replace q2:evP ⟨A0,T,A6⟩ (.body 24 [.ptr 0 0 0,.int .i64 (Az m),.nilsl] ⟨D9 false (gsB m) false false m (sI steps input m.gs) [],nE false (gsB m) false,[]⟩)=some (rC (M4 m input steps) fun s'=>⟨D9 false (gsB m) false n' m s' [],nE false (gsB m) false,t0⟩):=q2
 replace q1:false=false->n'=false->(M4 m input steps).st.out=[]:=q1
 have ha:=EB (T:=T) (steps:=steps) (input:=input) h.gz h.gl
 rw [wL _ (fun e=>fM e) (fun e=>EF e) rfl] at ha
 have hlen:(An (gsB m) false m Am (sI steps input m.gs)).length=4 + nB (gsB m):=by unfold An dR oG nB; cases gsB m <;> rfl
 unfold Pt
 cases hy:M4 m input steps with
 | ret v s2 =>
  rw [hy] at q1 q2
  obtain ⟨t1,hc⟩:=ED R hm h.fl q2
  rw [← hlen] at hc
  obtain ⟨fr3,t2,hr⟩:=wK (T:=T) (m:=m) (fd:=gsB m) (n':=n') (s:=s2) (st:=1) (e:=v)
  refine ⟨[l9 (gsB m) n' s2.out 1 v],⟨An (gsB m) n' m (l9 (gsB m) n' s2.out 1 v) s2,0,t2 ++ (t1 ++ [])⟩,?_,Zw fun e=>q1 rfl e⟩
  rw [gO (a:=lY) (g:=.tmp 37) (c:=cM) (nt:=49) (rs:=[.cell 6 35]) rfl (by simp),show K0=(⟨[],0,[]⟩:PK) from rfl,FD (g:=.tmp 37) ha hc hr]
  clear hc hr ha hlen q2
  generalize gsB m=fd
  cases fd <;> cases n' <;> rfl
 | stop st e s2 =>
  rw [hy] at q1 q2
  obtain ⟨t1,hc⟩:=wJ R hm h.fl q2
  rw [← hlen] at hc
  obtain ⟨fr3,t2,hr⟩:=rG (T:=T) (m:=m) (fd:=gsB m) (n':=n') (s:=s2) (st:=st) (e:=e)
  refine ⟨[l9 (gsB m) n' s2.out st e],⟨An (gsB m) n' m (l9 (gsB m) n' s2.out st e) s2,0,t2 ++ (t1 ++ [])⟩,?_,Zw fun e=>q1 rfl e⟩
  rw [gO (a:=lY) (g:=.tmp 37) (c:=cM) (nt:=49) (rs:=[.cell 6 35]) rfl (by simp),show K0=(⟨[],0,[]⟩:PK) from rfl,xU (g:=.tmp 37) ha hc hr]
  clear hc hr ha hlen q2
  generalize gsB m=fd
  cases fd <;> cases n' <;> rfl
end
end Go.Proofs.AmEnv
set_option maxRecDepth 100000
namespace Go.Proofs.AmEnv
open Go Go.AM
variable {T:Nat->Option (List AV->Option (List AV))}
theorem Pu {l:List Int} (h:I5 l=0):∀ e∈l,e=0:=by
 induction l with
 | nil=>intro e he; cases he
 | cons a l ih =>
  unfold I5 at h
  by_cases q:a=0
  . rw [if_pos q] at h
    intro e he
    rcases List.mem_cons.1 he with rfl | he
    . exact q
    . exact ih h e he
  . rw [if_neg q] at h; exact absurd h q
theorem Zx {m:Modl} (h:O4 m=0):(∀ c∈m.fs,Y3 m c=0)∧fF m=0:=by
 unfold O4 at h
 by_cases q:I5 (m.gs.map Wf)=0
 . rw [if_pos q] at h
   by_cases q2:I5 (m.fs.map (Y3 m))=0
   . rw [if_pos q2] at h
     exact ⟨fun c hc=>Pu q2 _ (List.mem_map_of_mem hc),h⟩
   . rw [if_neg q2] at h; exact absurd h q2
 . rw [if_neg q] at h; exact absurd h q
theorem fN {m:Modl} {c:Cod} (h:Y3 m c=0):(1≤c.blocks.length∧c.regs.length≤4096∧c.ps≤c.regs.length)∧∀ b∈c.blocks,Rx m c b=0:=by
 unfold Y3 at h
 split at h
 . cases h
 . rename_i h1
   split at h
   . cases h
   . split at h
     . cases h
     . exact ⟨by omega,fun b hb=>Pu h _ (List.mem_map_of_mem hb)⟩
theorem wM {m:Modl} {c:Cod} {b:Blk} (h:Rx m c b=0):(∀ x∈b.code,M2 m c x=0)∧Pg c b.e=0:=by
 unfold Rx at h
 split at h
 . rename_i q; exact ⟨fun x hx=>Pu q _ (List.mem_map_of_mem hx),h⟩
 . rename_i q; exact absurd h q
theorem wN {m:Modl} {n:Int} {b:Bool} (h:N5 m n b=true):0≤n∧n < m.gs.length:=by
 unfold N5 at h
 exact thereD_iff.1 (Bool.and_eq_true_iff.1 h).1
theorem rI {x:Ins} (h:Cn x=true):1≤x.op∧x.op≤11:=by
 unfold Cn at h
 by_cases h3:x.op=3
 . omega
 . rw [if_neg h3] at h
   by_cases h4:x.op=4
   . omega
   . rw [if_neg h4,Bool.and_eq_true] at h
     exact ⟨of_decide_eq_true h.1,of_decide_eq_true h.2⟩
theorem wO {c:Cod} {x:Ins} (h:j6 x=false) (hw:Xn c x=true) (ho:x.op=1∨x.op=2∨x.op=3∨x.op=4∨x.op=5∨x.op=7∨x.op=10):0≤x.dst∧x.dst < c.regs.length:=by
 have hwd:writesD x=x.dst:=by unfold writesD; rcases ho with e | e | e | e | e | e | e <;> simp [e]
 have h9:¬ x.op=9:=by omega
 have hd:¬ x.dst < 0:=by
  intro hn
  unfold j6 at h
  rw [decide_eq_true hn,Bool.and_true] at h
  have:(Jn.any fun n=>decide (x.op=n))=true:=by
   rw [List.any_eq_true]
   refine ⟨x.op,?_,by simp⟩
   rcases ho with e | e | e | e | e | e | e <;> rw [e] <;> decide
  rw [this] at h; cases h
 unfold Xn at hw
 rw [hwd,decide_eq_false h9,decide_eq_false (show ¬ x.dst=-1 by omega)] at hw
 simp only [Bool.not_false,Bool.true_or,Bool.true_and,Bool.not_not] at hw
 exact thereD_iff.1 hw
theorem wP {m:Modl} {c:Cod} {x:Ins} (hp:∀ c∈m.fs,c.ps≤c.regs.length∧c.regs.length≤4096) (h:M2 m c x=0):InsR m c.regs.length x:=by
 unfold M2 at h
 split at h
 . rename_i hf
   split at h
   . rename_i hpl
     have hop:=rI hf
     unfold E1 at hpl
     obtain ⟨h1,h2⟩:=Bool.and_eq_true_iff.1 hpl
     obtain ⟨h2,h3⟩:=Bool.and_eq_true_iff.1 h2
     obtain ⟨h3,h4⟩:=Bool.and_eq_true_iff.1 h3
     have h3:j6 x=false:=by simpa using h3
     have hrd:∀ r∈readsD x,0≤r∧r < (c.regs.length:Int):=fun r hr=>thereD_iff.1 (List.all_eq_true.1 h1 r hr)
     refine ⟨hop,wO h3 h2,fun ho=>hrd _ ?_,fun ho=>hrd _ ?_,fun ho=>?_,fun ho=>?_⟩
     . unfold readsD; rcases ho with e | e | e | e | e | e | e <;> simp [e]
     . unfold readsD; rcases ho with e | e <;> simp [e]
     . unfold fE at h4
       rcases ho with e | e | e | e <;> (simp only [e,Int.reduceEq,↓reduceIte] at h4; exact wN h4)
     . unfold fE at h4
       simp only [ho,Int.reduceEq,↓reduceIte] at h4
       obtain ⟨h5,h6⟩:=Bool.and_eq_true_iff.1 h4
       have h5:=thereD_iff.1 h5
       rw [if_pos ho] at h
       split at h
       . rename_i hl
         have hm:codI m.fs x.n∈m.fs:=by
          unfold codI
          rw [List.getD_eq_getElem?_getD,List.getElem?_eq_getElem (show x.n.toNat < m.fs.length by omega)]
          exact List.getElem_mem _
         have:=hp _ hm
         refine ⟨h5,fun y hy=>hrd _ ?_,by omega,?_⟩
         . unfold readsD; simp only [ho,Int.reduceEq,↓reduceIte]; exact hy
         . by_cases hd:0≤x.dst
           . have hwd:writesD x=x.dst:=by unfold writesD; simp only [ho,Int.reduceEq,↓reduceIte]; rw [if_pos (by omega)]
             unfold Xn at h2
             rw [hwd,decide_eq_true ho,decide_eq_true hd,decide_eq_false (show ¬ x.dst=-1 by omega)] at h2
             simp only [Bool.not_true,Bool.not_false,Bool.or_true,Bool.true_and,Bool.not_not] at h2
             exact (thereD_iff.1 h2).2
           . omega
       . cases h
   . cases h
 . cases h
theorem wQ {c:Cod} {e:Endd} (h:Pg c e=0):EndR c.blocks.length c.regs.length e:=by
 unfold Pg at h
 by_cases k1:e.kind=1
 . rw [if_pos k1] at h
   split at h
   . rename_i q
     exact ⟨by omega,fun k=>by omega,fun k=>by omega,fun _=>thereD_iff.1 q,fun k=>by omega⟩
   . cases h
 . rw [if_neg k1] at h
   by_cases k2:e.kind=2
   . rw [if_pos k2] at h
     split at h
     . rename_i q1
       split at h
       . rename_i q2
         split at h
         . rename_i q3
           exact ⟨by omega,fun k=>by omega,fun _=>thereD_iff.1 q3,fun _=>thereD_iff.1 q1,fun _=>thereD_iff.1 q2⟩
         . cases h
       . cases h
     . cases h
   . rw [if_neg k2] at h
     split at h
     . rename_i k3
       refine ⟨by omega,fun _=>?_,fun k=>by omega,fun k=>by omega,fun k=>by omega⟩
       split at h
       . omega
       . split at h
         . rename_i q; exact (thereD_iff.1 q).2
         . cases h
     . cases h
theorem wR {m:Modl} (hm:m.ok) (h:O4 m=0):ModR' m:=by
 obtain ⟨h1,h2⟩:=Zx h
 have hp:∀ c∈m.fs,c.ps≤c.regs.length∧c.regs.length≤4096:=fun c hc=>by have:=(fN (h1 c hc)).1; omega
 refine ⟨fun c hc=>?_⟩
 obtain ⟨q1,q2⟩:=fN (h1 c hc)
 refine ⟨q1.1,fun b hb=>?_,by omega⟩
 obtain ⟨q3,q4⟩:=wM (q2 b hb)
 have hb':=((hm.1 c hc).1.2.1 b hb).2
 exact ⟨by simp only [bigN] at hb'; omega,fun x hx=>wP hp (q3 x hx),wQ q4⟩
theorem wS {α:Type} {p:α->Bool} {l:List α}:idxOf p l < l.length:=by
 unfold idxOf
 split
 . rename_i i h
   obtain ⟨h1,_⟩:=List.findIdx?_eq_some_iff_getElem.1 h
   omega
 . omega
theorem dC {m:Modl} {steps:Int} (hm:m.ok) (hb:U5 m=false) (h:O4 m=0) (hs:steps≤20000):RunOk m steps:=by
 obtain ⟨h1,h2⟩:=Zx h
 unfold U5 at hb
 split at hb
 . cases hb
 . rename_i hg
   split at hb
   . cases hb
   . rename_i hf
     split at hb
     . rename_i ha
       refine ⟨wR hm h,fun g hgm=>?_,by omega,by simp only [bigN]; omega,?_,hs⟩
       . have:=List.all_eq_true.1 ha g hgm
         simp at this; omega
       . have hmi:Ay m=Az m:=rfl
         rw [← hmi]
         unfold fF at h2
         split at h2
         . cases h2
         . rename_i hn
           exact ⟨by omega,wS⟩
     . cases hb
end Go.Proofs.AmEnv
set_option maxRecDepth 100000
namespace Go.AM
section
variable {K:PK} {os:List PO} {es cs:List AV} {c v:AV} {t te:TI}
theorem rJ {ext r id i o q m sz z:Nat} (h:¬ ext≤q):NA ext r id i o os cs q m sz (some (.row 0 es z))=none:=if_neg fun e=>h e.2.2.1
theorem nY:FL c none=none:=rfl
theorem nZ (id i off:Nat):FJ t id i off K es v none=none:=rfl
theorem oB (id:Nat) (l:List (Nat × AV)):ND te id l none=none:=rfl
def PN (te:TI) (n:Nat) (K:PK) (r:Option (List AV)):Option (AV × PK):=match r with | some es=>some (.msl K.os.length 0 n te.size,newRow 2 es te.size K) | none=>none
theorem oC (n:Nat) (ps:List (Nat × AV)):NC te n ps K none=PN te n K (placeR te.size ps (List.replicate n te.zero)):=rfl
theorem oD (n:Nat):PN te n K (some es)=some (.msl K.os.length 0 n te.size,newRow 2 es te.size K):=rfl
theorem rK (sz:Nat):placeR sz [] es=some es:=rfl
theorem oE {sz i:Nat} {l:List (Nat × AV)} (h1:i < es.length) (h2:v.cells.length=sz) (h3:v.cells.all Cy=true):placeR sz ((i,v) :: l) es=placeR sz l (es.set i v):=if_pos ⟨h1,h2,h3⟩
end
end Go.AM
namespace Go.Proofs.AmEnv
open Go Go.AM
variable {T:Nat->Option (List AV->Option (List AV))}
theorem Wq (hword_Bin:T 55=some S4) (hword_Wrap:T 56=some E8) (nir_trap:T 39=none) (nir_machine_element:T 57=none) (hir_there:T 54=some C4) (nir_machine_next:T 58=none) (nir_machine_step:T 40=none) (nir_machine_does:T 42=none) (nir_machine_calling:T 41=none) (nir_machine_call:T 24=none) (hir_mainOf:T 21=some J7) {m:Modl} {input:List Int} {steps:Int} (hk:RunOk m steps):AM.Comes ⟨A0,T,A6⟩ 10 [m.F,fslN (ints input),.int .i64 steps] [.agg [ownd 0 1 (ints (Pt m input steps)),.int .i64 (M4 m input steps).sc.1,.int .i64 (M4 m input steps).sc.2]]:=by
 exact jT ⟨hword_Bin,hword_Wrap,nir_trap,nir_machine_element,hir_there,nir_machine_next,nir_machine_step,nir_machine_does,nir_machine_calling,nir_machine_call⟩ hir_mainOf hk
def X4:=y6 (fun p:(Modl) × (List Int) × (Int)=>[p.1.F,fslN (ints p.2.1),.int .i64 p.2.2]) (fun p=>[.agg [ownd 0 1 (ints (Pt p.1 p.2.1 p.2.2)),.int .i64 (M4 p.1 p.2.1 p.2.2).sc.1,.int .i64 (M4 p.1 p.2.1 p.2.2).sc.2]]) (fun p=>RunOk p.1 p.2.2)
theorem fO (hir_Run:T 10=some X4) {m:Modl} {input:List Int} {steps:Int} {K:PK} (hk:RunOk m steps):evP ⟨A0,T,A6⟩ (.call 10 [m.F,fslN (ints input),.int .i64 steps] K)=some (.val (openTs K.os.length [.agg [ownd 0 1 (ints (Pt m input steps)),.int .i64 (M4 m input steps).sc.1,.int .i64 (M4 m input steps).sc.2]]).1 ⟨K.os ++ (openTs K.os.length [.agg [ownd 0 1 (ints (Pt m input steps)),.int .i64 (M4 m input steps).sc.1,.int .i64 (M4 m input steps).sc.2]]).2,K.ext,K.tch⟩):=C7 hir_Run (by simp -implicitDefEqProofs only [VV,XP,seval]) (C2 (a:=fun p:(Modl) × (List Int) × (Int)=>[p.1.F,fslN (ints p.2.1),.int .i64 p.2.2]) (r:=fun p=>[.agg [ownd 0 1 (ints (Pt p.1 p.2.1 p.2.2)),.int .i64 (M4 p.1 p.2.1 p.2.2).sc.1,.int .i64 (M4 p.1 p.2.1 p.2.2).sc.2]]) (fun x y e=>by simp only [VJ] at e; simp only [e]) (m,input,steps) hk) (by simp -implicitDefEqProofs only [VN,XP,seval])
theorem jU (hword_Bin:T 55=some S4) (hword_Wrap:T 56=some E8) (nir_trap:T 39=none) (nir_machine_element:T 57=none) (hir_there:T 54=some C4) (nir_machine_next:T 58=none) (nir_machine_step:T 40=none) (nir_machine_does:T 42=none) (nir_machine_calling:T 41=none) (nir_machine_call:T 24=none) (hir_mainOf:T 21=some J7) (hP:PEok ⟨A0,T,A6⟩):TC A0 10 X4:=D4 hP fun p h=>Wq hword_Bin hword_Wrap nir_trap nir_machine_element hir_there nir_machine_next nir_machine_step nir_machine_does nir_machine_calling nir_machine_call hir_mainOf h
section
variable {K:PK}
theorem SS (a b:Int):E5 A0 .max [3,3] [.int .i64 a,.int .i64 b] K=some (.int .i64 (max a b),K):=by
 have e:E5 A0 .max [3,3] [.int .i64 a,.int .i64 b] K=some (.int .i64 (bif intLe b a then a else b),K):=rfl
 rw [e,J0]
 by_cases h:b≤a
 . rw [decide_eq_true h,cond_true,Int.max_eq_left h]
 . rw [decide_eq_false h,cond_false,Int.max_eq_right (by omega)]
theorem ST (a b:Int):E5 A0 .min [3,3] [.int .i64 a,.int .i64 b] K=some (.int .i64 (min a b),K):=by
 have e:E5 A0 .min [3,3] [.int .i64 a,.int .i64 b] K=some (.int .i64 (bif intLe a b then a else b),K):=rfl
 rw [e,J0]
 by_cases h:a≤b
 . rw [decide_eq_true h,cond_true,Int.min_eq_left h]
 . rw [decide_eq_false h,cond_false,Int.min_eq_right (by omega)]
end
theorem jV  {v:Int} {lo:Int} {hi:Int}:AM.Comes ⟨A0,T,A6⟩ 9 [.int .i64 v,.int .i64 lo,.int .i64 hi] [.int .i64 (max lo (min v hi))]:=by
 refine ⟨[.int .i64 (max lo (min v hi))],⟨[],0,[]⟩,?_,back_of rfl List.nodup_nil rfl rfl rfl⟩
 rw [A7 (c:=p9) (nt:=12) (rs:=[.tmp 6]) rfl (by simp)]; unfold p9
 unfold K0
 simp -implicitDefEqProofs only [SS,ST,XP,seval]
def jW:=y6 (fun p:(Int) × (Int) × (Int)=>[.int .i64 p.1,.int .i64 p.2.1,.int .i64 p.2.2]) (fun p=>[.int .i64 (max p.2.1 (min p.1 p.2.2))]) (fun p=>True)
theorem EG (hCut:T 9=some jW) {v:Int} {lo:Int} {hi:Int} {K:PK}:evP ⟨A0,T,A6⟩ (.call 9 [.int .i64 v,.int .i64 lo,.int .i64 hi] K)=some (.val (openTs K.os.length [.int .i64 (max lo (min v hi))]).1 ⟨K.os ++ (openTs K.os.length [.int .i64 (max lo (min v hi))]).2,K.ext,K.tch⟩):=C7 hCut (by simp -implicitDefEqProofs only [VV,XP,seval]) (C2 (a:=fun p:(Int) × (Int) × (Int)=>[.int .i64 p.1,.int .i64 p.2.1,.int .i64 p.2.2]) (r:=fun p=>[.int .i64 (max p.2.1 (min p.1 p.2.2))]) (fun x y e=>by simp only [VJ] at e; simp only [e]) (v,lo,hi) trivial) (by simp -implicitDefEqProofs only [VN,XP,seval])
theorem wT  (hP:PEok ⟨A0,T,A6⟩):TC A0 9 jW:=D4 hP fun p h=>jV
theorem Ry (hSameInts:T 11=some M6) {o1:List Int} {o2:List Int} {a:Int} {b:Int} {c:Int} {d:Int} (hk:o1.length * 8≤bigN):AM.Comes ⟨A0,T,A6⟩ 12 [.agg [fslN (ints o1),.int .i64 a,.int .i64 b],.agg [fslN (ints o2),.int .i64 c,.int .i64 d]] [.bool (decide (a=c∧b=d∧o1=o2))]:=by
 refine ⟨[.bool (decide (a=c∧b=d∧o1=o2))],⟨[],0,[]⟩,?_,back_of rfl List.nodup_nil rfl rfl rfl⟩
 rw [A7 (c:=FZ) (nt:=24) (rs:=[.tmp 4]) rfl (by simp)]; unfold FZ
 unfold K0
 have ts:=fun K=>jC (K:=K) hSameInts (m:=o2) hk
 by_cases h1:a=c
 . by_cases h2:b=d
   . have e:decide (a=c∧b=d∧o1=o2)=decide (o1=o2):=by simp [h1,h2]
     rw [e]
     simp -implicitDefEqProofs only [eq_true h1,eq_true h2,ts,XP,seval]
   . rw [decide_eq_false (show ¬ (a=c∧b=d∧o1=o2) from fun e=>h2 e.2.1)]
     simp -implicitDefEqProofs only [eq_true h1,eq_false h2,XP,seval]
 . rw [decide_eq_false (show ¬ (a=c∧b=d∧o1=o2) from fun e=>h1 e.1)]
   simp -implicitDefEqProofs only [eq_false h1,XP,seval]
def k7:=y6 (fun p:(List Int) × (List Int) × (Int) × (Int) × (Int) × (Int)=>[.agg [fslN (ints p.1),.int .i64 p.2.2.1,.int .i64 p.2.2.2.1],.agg [fslN (ints p.2.1),.int .i64 p.2.2.2.2.1,.int .i64 p.2.2.2.2.2]]) (fun p=>[.bool (decide (p.2.2.1=p.2.2.2.2.1∧p.2.2.2.1=p.2.2.2.2.2∧p.1=p.2.1))]) (fun p=>p.1.length * 8≤bigN)
theorem dD (hSameInts:T 11=some M6) (hP:PEok ⟨A0,T,A6⟩):TC A0 12 k7:=D4 hP fun p h=>Ry hSameInts h
def Ct:Modl:=⟨[],[⟨E4,1,0,[1],[⟨[⟨1,0,0,0,0,7,[],[]⟩],⟨3,0,0,0⟩⟩]⟩]⟩
theorem oF:Ct.ok:=by
 refine ⟨fun c hc=>?_,by decide,by decide⟩
 rw [List.mem_singleton.1 hc]
 refine ⟨⟨by decide,fun b hb=>?_,by decide⟩,fun b hb=>?_⟩ <;> rw [List.mem_singleton.1 hb]
 . exact ⟨fun x hx=>by rw [List.mem_singleton.1 hx]; exact (by decide:(0:Nat) * 8≤bigN),by decide⟩
 . refine ⟨⟨fun x hx=>?_,by decide⟩,fun x hx=>?_⟩ <;> rw [List.mem_singleton.1 hx]
   . exact (by decide:(0:Nat) * 8≤bigN)
   . exact ⟨(by decide:(0:Nat) * 8≤bigN),(by decide:(0:Nat)≤bigN)⟩
theorem Tk:O4 Ct=0:=by rfl
theorem oH:(M4 Ct [] 1).sc=(3,0):=by rfl
theorem Zy:(M4 Ct [] 2).sc=(1,7)∧Pt Ct [] 2=[]:=by exact ⟨rfl,rfl⟩
theorem rL (hS:T 22=none) (K:PK):evP ⟨A0,T,A6⟩ (.call 22 [] K)=kO K (Ir A0 [.cell 0 25] (evP ⟨A0,T,A6⟩ (.code zJ (enterP 0 []) ⟨K.os,K.os.length,[]⟩))):=by
 rw [Df hS rfl,A7 (c:=zJ) (nt:=8) (rs:=[.cell 0 25]) rfl (by simp)]
theorem rM (hS:T 38=none) (a b:AV) (K:PK):evP ⟨A0,T,A6⟩ (.call 38 [a,b] K)=kO K (Ir A0 [.cell 4 25] (evP ⟨A0,T,A6⟩ (.code zT (enterP 0 [a,b]) ⟨K.os,K.os.length,[]⟩))):=by
 rw [Df hS rfl,A7 (c:=zT) (nt:=10) (rs:=[.cell 4 25]) rfl (by simp)]
def Zz (b:Nat):List PO:=[.row 1 [.agg [.nilsl,.msl (b + 5) 0 1 5]] 2,.row 0 [.int .i64 1] 1,.sub (b + 3) 0 0,.row 0 [.agg [ownd 0 8 [.agg [.int .i64 1,.int .i64 0,.int .i64 0,.int .i64 0,.int .i64 0,.int .i64 7,.str [],.nilsl]],.int .i64 3,.int .i64 0,.int .i64 0,.int .i64 0]] 5,.row 1 [.agg [.nilsl,.msl (b + 5) 0 1 5]] 2,.row 2 [.agg [.str [109,97,105,110],.int .i64 1,.int .i64 0,.msl (b + 1) 0 1 1,.msl (b + 3) 0 1 5]] 5]
def HJ (j:Nat) (st c:Int):List PO:=[.row 0 [] 1,.row 1 [.agg [.msl j 0 0 1,.int .i64 st,.int .i64 c]] 3]
theorem fP (hR:T 10=some X4) {os:List PO} {b ext:Nat} {tch:List Nat} {steps:Int} (hv:viewX os [.agg [.nilsl,.msl (b + 5) 0 1 5],.nilsl,.int .i64 steps]=some [Ct.F,fslN (ints []),.int .i64 steps]) (hs:steps≤20000) (ho:Pt Ct [] steps=[]) {st c:Int} (hc:(M4 Ct [] steps).sc=(st,c)) :
 evP ⟨A0,T,A6⟩ (.call 10 [.agg [.nilsl,.msl (b + 5) 0 1 5],.nilsl,.int .i64 steps] ⟨os,ext,tch⟩)=some (.val [.agg [.msl os.length 0 0 1,.int .i64 st,.int .i64 c]] ⟨os ++ [.row 0 [] 1],ext,tch⟩):=by
 have hg:X4 [Ct.F,fslN (ints []),.int .i64 steps]=some [.agg [ownd 0 1 (ints (Pt Ct [] steps)),.int .i64 (M4 Ct [] steps).sc.1,.int .i64 (M4 Ct [] steps).sc.2]]:=C2 (a:=fun p:Modl × List Int × Int=>[p.1.F,fslN (ints p.2.1),.int .i64 p.2.2]) (r:=fun p=>[.agg [ownd 0 1 (ints (Pt p.1 p.2.1 p.2.2)),.int .i64 (M4 p.1 p.2.1 p.2.2).sc.1,.int .i64 (M4 p.1 p.2.1 p.2.2).sc.2]]) (fun x y e=>by simp only [Modl.F_iff,fslN_iff,ints_iff,List.cons.injEq,AV.int.injEq,and_true,true_and] at e; obtain ⟨x1,x2,x3⟩:=x; obtain ⟨y1,y2,y3⟩:=y; simp only at e ⊢; obtain ⟨rfl,rfl,rfl⟩:=e; rfl) (Ct,[],steps) (dC oF (by rfl) Tk hs)
 rw [ho,hc] at hg
 rw [gP (K:=⟨os,ext,tch⟩) hR hv hg rfl]
 rfl
theorem rN (hR:T 7=some M8) {os:List PO} {b ext:Nat} {tch:List Nat} (hv:viewX os [.agg [.nilsl,.msl (b + 5) 0 1 5]]=some [Ct.F]) :
 evP ⟨A0,T,A6⟩ (.call 7 [.agg [.nilsl,.msl (b + 5) 0 1 5]] ⟨os,ext,tch⟩)=some (.val [.int .i64 0] ⟨os ++ [],ext,tch⟩):=by
 have hg:M8 [Ct.F]=some [.int .i64 (O4 Ct)]:=C2 (a:=fun m:Modl=>[m.F]) (r:=fun m=>[.int .i64 (O4 m)]) (fun x y e=>by simp only [Modl.F_iff,List.cons.injEq,and_true] at e; rw [e]) Ct oF
 rw [Tk] at hg
 rw [gP (K:=⟨os,ext,tch⟩) hR hv hg rfl]
 rfl
theorem Ht (nlaw06_seven:T 22=none) (nlaw06_mainOf:T 38=none) (hir_Run:T 10=some X4) (hir_Check:T 7=some M8) :AM.Comes ⟨A0,T,A6⟩ 8 [] [.bool true]:=by
 refine ⟨[.bool true],⟨[],0,[]⟩,?_,back_of rfl List.nodup_nil rfl rfl rfl⟩
 rw [A7 (c:=p8) (nt:=31) (rs:=[.tmp 0]) rfl (by simp)]; unfold p8
 unfold K0
 have r1:=fun ext tch=>fP (b:=0) (os:=Zz 0) (ext:=ext) (tch:=tch) (steps:=1) hir_Run rfl (by decide) rfl oH
 have r2:=fun ext tch=>fP (b:=8) (os:=Zz 0 ++ (HJ 6 3 0 ++ Zz 8)) (ext:=ext) (tch:=tch) (steps:=2) hir_Run rfl (by decide) Zy.2 Zy.1
 have r3:=fun ext tch=>rN (b:=16) (os:=Zz 0 ++ (HJ 6 3 0 ++ (Zz 8 ++ (HJ 14 1 7 ++ Zz 16)))) (ext:=ext) (tch:=tch) hir_Check rfl
 unfold Zz at r1
 unfold Zz HJ at r2 r3
 simp only [Nat.zero_add,Nat.reduceAdd,List.cons_append,List.nil_append,List.append_nil,List.length_cons,List.length_nil] at r1 r2 r3
 simp -implicitDefEqProofs only [rL nlaw06_seven,rM nlaw06_mainOf,rJ,nY,nZ,oB,oC,oD,rK,oE,zJ,zT,r1,r2,r3,show decide ((3:Int)=3)=true from rfl,show decide ((1:Int)=1)=true from rfl,show decide ((7:Int)=7)=true from rfl,show decide (((0:Nat):Int)=0)=true from rfl,XP,Nat.reduceAdd,Nat.reduceSub,Nat.reduceLT,Nat.reduceLeDiff,Nat.reduceEqDiff,Nat.reduceMul,↓reduceIte]
def O9:=y6 (fun p:Unit=>[]) (fun p=>[.bool true]) (fun p=>True)
theorem Hu (hlaw06_known:T 8=some O9)  {K:PK}:evP ⟨A0,T,A6⟩ (.call 8 [] K)=some (.val (openTs K.os.length [.bool true]).1 ⟨K.os ++ (openTs K.os.length [.bool true]).2,K.ext,K.tch⟩):=C7 hlaw06_known (by simp -implicitDefEqProofs only [VV,XP,seval]) (C2 (a:=fun p:Unit=>[]) (r:=fun p=>[.bool true]) (fun x y e=>by simp only [VJ] at e; simp only [e]) () trivial) (by simp -implicitDefEqProofs only [VN,XP,seval])
theorem Pv (nlaw06_seven:T 22=none) (nlaw06_mainOf:T 38=none) (hir_Run:T 10=some X4) (hir_Check:T 7=some M8) (hP:PEok ⟨A0,T,A6⟩):TC A0 8 O9:=D4 hP fun p h=>Ht nlaw06_seven nlaw06_mainOf hir_Run hir_Check
end Go.Proofs.AmEnv
set_option maxRecDepth 100000
namespace Go.Proofs.AmEnv
open Go Go.AM
section
variable {m:Modl} {d:Int} {C:Int->List Int->Mst->Rs}
def Do (d:Int) (s:Mst):Mst:={ s with steps:=s.steps + d }
structure Pl (s r:Mst):Prop where
 pre:s.out <+: r.out
 me:r.out.length + r.steps.toNat≤s.out.length + s.steps.toNat
theorem Pl.refl (s:Mst):Pl s s:=⟨List.prefix_rfl,Nat.le_refl _⟩
theorem Pl.trans {a b c:Mst} (h:Pl a b) (k:Pl b c):Pl a c:=⟨h.pre.trans k.pre,Nat.le_trans k.me h.me⟩
theorem Pl.stp {s:Mst} (h:1≤s.steps):Pl s (stp s)∧(AmEnv.stp s).out.length + (AmEnv.stp s).steps.toNat + 1≤s.out.length + s.steps.toNat:=by
 refine ⟨⟨List.prefix_rfl,?_⟩,?_⟩ <;> (simp only [AmEnv.stp]; omega)
def Wr (st c:Int):Prop:=(st=3∧c=0)∨(st=2∧1≤c∧c≤4)
def Rs.so:Rs->Prop | .ret _ _=>True | .stop st c _=>Wr st c
def I2.so:I2->Prop | .go _ _=>True | .stop st c _=>Wr st c
theorem oI (t:Int) (op:List UInt8) (a b:Int):(Y4 t op a b).2=0∨(1≤(Y4 t op a b).2∧(Y4 t op a b).2≤4):=by
 unfold Y4 I3 U6
 repeat' split
 all_goals simp
theorem rO {x:Ins} {r:List Int} {s:Mst}:s.out <+: (doesI m x r s).2.1.out∧(doesI m x r s).2.1.out.length≤s.out.length + 1∧(doesI m x r s).2.1.steps=s.steps∧((doesI m x r s).1=0∨(1≤(doesI m x r s).1∧(doesI m x r s).1≤4)):=by
 have hb:=oI x.ty x.s (at' r x.a) (at' r x.b)
 unfold doesI
 repeat' split
 all_goals first
  | exact ⟨List.prefix_rfl,Nat.le_succ _,rfl,.inl rfl⟩
  | exact ⟨List.prefix_rfl,Nat.le_succ _,rfl,.inr ⟨(by decide:(1:Int)≤3),(by decide:(3:Int)≤4)⟩⟩
  | exact ⟨List.prefix_rfl,Nat.le_succ _,rfl,hb⟩
  | exact ⟨List.prefix_append _ _,by simp,rfl,.inl rfl⟩
theorem oJ (x:Ins) (r:List Int) (s:Mst):doesI m x r (Do d s)=((doesI m x r s).1,Do d (doesI m x r s).2.1,(doesI m x r s).2.2):=by
 unfold doesI Do dAt
 dsimp only
 by_cases h1:x.op=1
 . simp only [if_pos h1]
 simp only [if_neg h1]
 by_cases h2:x.op=2
 . simp only [if_pos h2]
 simp only [if_neg h2]
 by_cases h3:x.op=3
 . simp only [if_pos h3]
   by_cases hv:(Y4 x.ty x.s (at' r x.a) (at' r x.b)).2=0
   . simp only [if_pos hv]
   . simp only [if_neg hv]
 simp only [if_neg h3]
 by_cases h4:x.op=4
 . simp only [if_pos h4]
 simp only [if_neg h4]
 by_cases h5:x.op=5
 . simp only [if_pos h5]
   by_cases hv:thereD (at' r x.a) (gAt m x.n).size=true
   . simp only [if_pos hv]
   . simp only [if_neg hv]
 simp only [if_neg h5]
 by_cases h6:x.op=6
 . simp only [if_pos h6]
   by_cases hv:thereD (at' r x.a) (gAt m x.n).size=true
   . simp only [if_pos hv]
   . simp only [if_neg hv]
 simp only [if_neg h6]
 by_cases h7:x.op=7
 . simp only [if_pos h7]
 simp only [if_neg h7]
 by_cases h8:x.op=8
 . simp only [if_pos h8]
 simp only [if_neg h8]
 by_cases h10:x.op=10
 . simp only [if_pos h10]
 simp only [if_neg h10]
 by_cases h11:x.op=11
 . simp only [if_pos h11]
 simp only [if_neg h11]
theorem fQ (s:Mst):stp (Do d s)=Do d (stp s):=by
 unfold stp Do
 simp only
 congr 1; omega
theorem Fp (hC:∀ f a s,Pl s (C f a s).st∧(C f a s).so):∀ (l:List Ins) (r:List Int) (s:Mst),Pl s (insF m C l r s).st∧(insF m C l r s).so
 | [],r,s=>⟨Pl.refl s,trivial⟩
 | x :: l,r,s=>by
  rw [insF]
  by_cases h1:s.steps < 1
  . rw [if_pos h1]; exact ⟨Pl.refl s,.inl ⟨rfl,rfl⟩⟩
  . rw [if_neg h1]
    obtain ⟨p1,p2⟩:=Pl.stp (s:=s) (by omega)
    by_cases h9:x.op=9
    . rw [if_pos h9]
      obtain ⟨q1,q2⟩:=hC x.n (argsI x r) (stp s)
      cases hy:C x.n (argsI x r) (stp s) with
      | stop z e s2=>rw [hy] at q1 q2; exact ⟨p1.trans q1,q2⟩
      | ret v s2 =>
       rw [hy] at q1
       obtain ⟨t1,t2⟩:=Fp hC l (if 0≤x.dst then put' r x.dst v else r) s2
       exact ⟨(p1.trans q1).trans t1,t2⟩
    . rw [if_neg h9]
      obtain ⟨k1,k2,k3,k4⟩:=rO (m:=m) (x:=x) (r:=r) (s:=stp s)
      by_cases hv:(doesI m x r (stp s)).1=0
      . rw [if_pos hv]
        obtain ⟨t1,t2⟩:=Fp hC l (doesI m x r (stp s)).2.2 (doesI m x r (stp s)).2.1
        exact ⟨Pl.trans ⟨p1.pre.trans k1,by rw [k3]; omega⟩ t1,t2⟩
      . rw [if_neg hv]
        refine ⟨p1,.inr ⟨rfl,?_⟩⟩
        rcases k4 with k4 | k4
        . exact absurd k4 hv
        . exact k4
theorem Hv {c:Cod} (hC:∀ f a s,Pl s (C f a s).st∧(C f a s).so):∀ (n:Nat) (i:Int) (r:List Int) (s:Mst),Pl s (L3 m C c n i r s).st∧(L3 m C c n i r s).so
 | 0,i,r,s=>⟨Pl.refl s,.inl ⟨rfl,rfl⟩⟩
 | n + 1,i,r,s=>by
  rw [L3]
  obtain ⟨q1,q2⟩:=Fp (m:=m) hC (blkAt c i).code r s
  cases hy:insF m C (blkAt c i).code r s with
  | stop z e s2=>rw [hy] at q1 q2; exact ⟨q1,q2⟩
  | go r2 s2 =>
   rw [hy] at q1
   dsimp only
   by_cases h1:s2.steps < 1
   . rw [if_pos h1]; exact ⟨q1,.inl ⟨rfl,rfl⟩⟩
   . rw [if_neg h1]
     obtain ⟨p1,p2⟩:=Pl.stp (s:=s2) (by omega)
     by_cases h3:(blkAt c i).e.kind=3
     . rw [if_pos h3]; exact ⟨q1.trans ⟨p1.pre,p1.me⟩,trivial⟩
     . rw [if_neg h3]
       obtain ⟨t1,t2⟩:=Hv hC n (if (blkAt c i).e.kind=2∧at' r2 (blkAt c i).e.a=0 then (blkAt c i).e.els else (blkAt c i).e.to) r2 (stp s2)
       exact ⟨(Pl.trans q1 p1).trans t1,t2⟩
theorem Ws:∀ (k:Nat) (f:Int) (a:List Int) (s:Mst),Pl s (K5 m k f a s).st∧(K5 m k f a s).so
 | 0,f,a,s=>⟨Pl.refl s,.inr ⟨rfl,by decide⟩⟩
 | k + 1,f,a,s=>by
  rw [K5]
  by_cases h:32≤s.calls
  . rw [if_pos h]; exact ⟨Pl.refl s,.inr ⟨rfl,by decide⟩⟩
  . rw [if_neg h]
    obtain ⟨q1,q2⟩:=Hv (m:=m) (c:=Kx m f) (Ws k) (s.steps.toNat + 1) 0 (initR (Kx m f).regs.length a) { s with calls:=s.calls + 1 }
    exact ⟨⟨q1.pre,q1.me⟩,q2⟩
def Lv (d:Int) (x y:Rs):Prop:=match x with
 | .ret v s=>y=.ret v (Do d s)
 | .stop st c s=>if st=3 then s.out <+: y.st.out else y=.stop st c (Do d s)
def rP (d:Int) (x y:I2):Prop:=match x with
 | .go r s=>y=.go r (Do d s)
 | .stop st c s=>if st=3 then s.out <+: y.st.out else y=.stop st c (Do d s)
theorem Wu (hd:0≤d) (hC:∀ f a s,Pl s (C f a s).st∧(C f a s).so) (hS:∀ f a s,Lv d (C f a s) (C f a (Do d s))):∀ (l:List Ins) (r:List Int) (s:Mst),rP d (insF m C l r s) (insF m C l r (Do d s))
 | [],r,s=>rfl
 | x :: l,r,s=>by
  have hpl:=(Fp (m:=m) hC (x :: l) r (Do d s)).1.pre
  rw [insF]
  by_cases h1:s.steps < 1
  . rw [if_pos h1]; exact hpl
  . rw [if_neg h1]
    rw [insF]
    have h1':¬ (Do d s).steps < 1:=by show ¬ s.steps + d < 1; omega
    rw [if_neg h1',fQ]
    by_cases h9:x.op=9
    . rw [if_pos h9,if_pos h9]
      have q:=hS x.n (argsI x r) (stp s)
      have ql:=hC x.n (argsI x r) (Do d (stp s))
      cases hy:C x.n (argsI x r) (stp s) with
      | stop z e s2 =>
       rw [hy] at q
       unfold Lv at q
       unfold rP
       dsimp only at q ⊢
       by_cases hz:z=3
       . rw [if_pos hz] at q ⊢
         cases hy2:C x.n (argsI x r) (Do d (stp s)) with
         | stop z2 e2 s3=>rw [hy2] at q; exact q
         | ret v s3 =>
          rw [hy2] at q
          exact q.trans (Fp (m:=m) hC l (if 0≤x.dst then put' r x.dst v else r) s3).1.pre
       . rw [if_neg hz] at q ⊢
         rw [q]
      | ret v s2 =>
       rw [hy] at q
       have q:C x.n (argsI x r) (Do d (stp s))=.ret v (Do d s2):=q
       rw [q]
       exact Wu hd hC hS l (if 0≤x.dst then put' r x.dst v else r) s2
    . rw [if_neg h9,if_neg h9,oJ]
      by_cases hv:(doesI m x r (stp s)).1=0
      . rw [if_pos hv,if_pos hv]
        exact Wu hd hC hS l (doesI m x r (stp s)).2.2 (doesI m x r (stp s)).2.1
      . rw [if_neg hv,if_neg hv]
        unfold rP
        dsimp only
        rw [if_neg (by decide)]
theorem aA {c:Cod} (hd:0≤d) (hC:∀ f a s,Pl s (C f a s).st∧(C f a s).so) (hS:∀ f a s,Lv d (C f a s) (C f a (Do d s))):∀ (n n':Nat) (i:Int) (r:List Int) (s:Mst),s.steps.toNat < n->(Do d s).steps.toNat < n'->Lv d (L3 m C c n i r s) (L3 m C c n' i r (Do d s))
 | 0,n',i,r,s,h,h'=>absurd h (Nat.not_lt_zero _)
 | n + 1,0,i,r,s,h,h'=>absurd h' (Nat.not_lt_zero _)
 | n + 1,n' + 1,i,r,s,h,h'=>by
  have hpl:=(Hv (m:=m) (c:=c) hC (n' + 1) i r (Do d s)).1.pre
  have q:=Wu (m:=m) hd hC hS (blkAt c i).code r s
  have pp:=(Fp (m:=m) hC (blkAt c i).code r s).1
  have pq:=(Fp (m:=m) hC (blkAt c i).code r (Do d s)).1
  rw [L3,L3]
  cases hy:insF m C (blkAt c i).code r s with
  | stop z e s2 =>
   rw [hy] at q
   unfold rP at q
   unfold Lv
   dsimp only at q ⊢
   by_cases hz:z=3
   . rw [if_pos hz] at q ⊢
     rw [L3] at hpl
     cases hy2:insF m C (blkAt c i).code r (Do d s) with
     | stop z2 e2 s3=>rw [hy2] at q; exact q
     | go r3 s3 =>
      rw [hy2] at q
      have q:s2.out <+: s3.out:=q
      dsimp only
      by_cases h1:s3.steps < 1
      . rw [if_pos h1]; exact q
      . rw [if_neg h1]
        by_cases h3:(blkAt c i).e.kind=3
        . rw [if_pos h3]; exact q
        . rw [if_neg h3]
          exact q.trans (Hv (m:=m) (c:=c) hC n' _ r3 (stp s3)).1.pre
   . rw [if_neg hz] at q ⊢
     rw [q]
  | go r2 s2 =>
   rw [hy] at q pp
   have q:insF m C (blkAt c i).code r (Do d s)=.go r2 (Do d s2):=q
   rw [q]
   rw [q] at pq
   have hm1:s2.out.length + s2.steps.toNat≤s.out.length + s.steps.toNat:=pp.me
   have hle1:s.out.length≤s2.out.length:=pp.pre.length_le
   have hm2:s2.out.length + (s2.steps + d).toNat≤s.out.length + (s.steps + d).toNat:=pq.me
   dsimp only
   by_cases h1:s2.steps < 1
   . rw [if_pos h1]
     show Lv d (.stop 3 0 s2) _
     unfold Lv
     dsimp only
     rw [if_pos rfl]
     by_cases h1':(Do d s2).steps < 1
     . rw [if_pos h1']; exact List.prefix_rfl
     . rw [if_neg h1']
       by_cases h3:(blkAt c i).e.kind=3
       . rw [if_pos h3]; exact List.prefix_rfl
       . rw [if_neg h3]
         exact (Hv (m:=m) (c:=c) hC n' _ r2 (stp (Do d s2))).1.pre
   . have h1':¬ (Do d s2).steps < 1:=by show ¬ s2.steps + d < 1; omega
     rw [if_neg h1,if_neg h1',fQ]
     by_cases h3:(blkAt c i).e.kind=3
     . rw [if_pos h3,if_pos h3]; rfl
     . rw [if_neg h3,if_neg h3]
       have h':(s.steps + d).toNat < n' + 1:=h'
       exact aA hd hC hS n n' _ r2 (stp s2) (by show (s2.steps - 1).toNat < n; omega) (by show (s2.steps - 1 + d).toNat < n'; omega)
theorem aB (hd:0≤d):∀ (k:Nat) (f:Int) (a:List Int) (s:Mst),Lv d (K5 m k f a s) (K5 m k f a (Do d s))
 | 0,f,a,s=>by unfold Lv K5; dsimp only; rw [if_neg (by decide)]
 | k + 1,f,a,s=>by
  rw [K5,K5]
  by_cases h:32≤s.calls
  . rw [if_pos h,if_pos (show 32≤(Do d s).calls from h)]
    unfold Lv; dsimp only; rw [if_neg (by decide)]
  . rw [if_neg h,if_neg (show ¬ 32≤(Do d s).calls from h)]
    exact aA (m:=m) (c:=Kx m f) hd (Ws k) (aB hd k) (s.steps.toNat + 1) ((Do d s).steps.toNat + 1) 0 (initR (Kx m f).regs.length a) { s with calls:=s.calls + 1 } (Nat.lt_succ_self _) (Nat.lt_succ_self _)
structure More (x y:Rs) (steps:Int):Prop where
 st:1≤x.sc.1∧x.sc.1≤3
 le:(x.st.out.length:Int)≤steps
 pre:x.st.out <+: y.st.out
 eq:x.sc.1 ≠ 3->x.sc=y.sc∧x.st.out=y.st.out
 go:x.sc.1=3->x.sc.2=0
 tr:x.sc.1=2->1≤x.sc.2∧x.sc.2≤4
theorem oK {input:List Int} {steps:Int} (hs:0≤steps) (hd:0≤d):More (M4 m input steps) (M4 m input (steps + d)) steps:=by
 obtain ⟨p1,p2⟩:=Ws (m:=m) 33 (Az m) [] (sI steps input m.gs)
 have q:Lv d (M4 m input steps) (M4 m input (steps + d)):=aB (m:=m) hd 33 (Az m) [] (sI steps input m.gs)
 replace p1:Pl (sI steps input m.gs) (M4 m input steps).st:=p1
 replace p2:(M4 m input steps).so:=p2
 have hle:((M4 m input steps).st.out.length:Int)≤steps:=by
  have:(M4 m input steps).st.out.length + (M4 m input steps).st.steps.toNat≤0 + steps.toNat:=p1.me
  omega
 cases hy:M4 m input steps with
 | ret v s =>
  rw [hy] at q p2 hle
  have q:M4 m input (steps + d)=.ret v (Do d s):=q
  rw [q]
  exact ⟨⟨(by decide:(1:Int)≤1),(by decide:(1:Int)≤3)⟩,hle,List.prefix_rfl,fun _=>⟨rfl,rfl⟩,fun h=>absurd h (by show ¬ (1:Int)=3; decide),fun h=>absurd h (by show ¬ (1:Int)=2; decide)⟩
 | stop st c s =>
  rw [hy] at q p2 hle
  unfold Lv at q
  dsimp only at q
  replace p2:Wr st c:=p2
  unfold Wr at p2
  by_cases h3:st=3
  . rw [if_pos h3] at q
    exact ⟨by show 1≤st∧st≤3; omega,hle,q,fun h=>absurd h3 h,fun _=>by show c=0; omega,fun h=>by have h:st=2:=h; omega⟩
  . rw [if_neg h3] at q
    rw [q]
    exact ⟨by show 1≤st∧st≤3; omega,hle,List.prefix_rfl,fun _=>⟨rfl,rfl⟩,fun h=>absurd h h3,fun _=>by show 1≤c∧c≤4; omega⟩
end
end Go.Proofs.AmEnv
set_option maxRecDepth 100000
namespace Go.Proofs.AmEnv
open Go Go.AM
variable {T:Nat->Option (List AV->Option (List AV))}
def wU (m:Modl) (inp oth:List Int) (st mo:Int):AV:=.agg [fslN (m.gs.map Glo.F),fslN (m.fs.map Cod.F),fslN (ints inp),fslN (ints oth),.int .i64 st,.int .i64 mo]
section
variable {m:Modl} {inp oth:List Int} {st mo:Int}
theorem Pw (hB:T 6=some W7) (hC:T 7=some M8) (hK:T 8=some O9) (hU:T 9=some jW) (hR:T 10=some X4) (hS:T 11=some M6) (hE:T 12=some k7) (hm:m.ok) (h:U5 m=true∨(U5 m=false∧1000 < inp.length)∨(U5 m=false∧¬ 1000 < inp.length∧¬ O4 m=0)):evP ⟨A0,T,A6⟩ (.body 3 [wU m inp oth st mo] K0)=some (.val [.bool true] ⟨[],0,[]⟩):=by
 have tb:=fun K=>Pk (K:=K) hB hm
 have tc:=fun K=>Tc (K:=K) hC hm
 have tk:=fun K=>Hu (K:=K) hK
 simp only [Modl.F] at tb tc
 rw [A7 (c:=p3) (nt:=114) (rs:=[.tmp 2]) rfl (by simp)]; unfold p3
 unfold K0 wU
 have hl:(ints inp).length=inp.length:=by simp [ints]
 rcases h with h | ⟨h,h2⟩ | ⟨h,h2,h3⟩
 . rw [h] at tb
   simp -implicitDefEqProofs only [tb,tc,tk,hl,j9,List.contains_cons,List.contains_nil,Nat.reduceBEq,XP,seval]
 . rw [h] at tb
   have h2:decide ((inp.length:Int) > 1000)=true:=decide_eq_true (by omega)
   simp -implicitDefEqProofs only [tb,tc,tk,hl,h2,j9,List.contains_cons,List.contains_nil,Nat.reduceBEq,XP,seval]
 . rw [h] at tb
   have h2:decide ((inp.length:Int) > 1000)=false:=decide_eq_false (by omega)
   simp -implicitDefEqProofs only [tb,tc,tk,hl,h2,eq_false h3,j9,List.contains_cons,List.contains_nil,Nat.reduceBEq,XP,seval]
theorem oL {K:PK} {id N n:Nat} (h:n≤N):t7 (Jt A0 (.slice 3) none (some (.int .i64 (n:Int))) none (.msl id 0 N 1)) K=.val (.msl id 0 n 1) K:=by
 have e:Jt A0 (.slice 3) none (some (.int .i64 (n:Int))) none (.msl id 0 N 1)=Ew 1 id 0 N 1 none (some (.int .i64 (n:Int))) none:=rfl
 rw [e,Jv (l:=0) (r:=n) (m:=N) rfl (show C6 (some (AV.int .i64 (n:Int))) N=some n from as_nat _ _) rfl (Nat.zero_le _) h (Nat.le_refl _)]
 rfl
theorem wV {K:PK} {i j:Nat} {oa ob:List Int} (hS:T 11=some M6) (hk:oa.length * 8≤bigN) (ht:ob.take oa.length=oa) (hle:oa.length≤ob.length) (r1:rowOf K.os 6 i=some (0,ints ob,1)) (r2:rowOf K.os 6 j=some (0,ints oa,1)) :
 evP ⟨A0,T,A6⟩ (.call 11 [.msl i 0 oa.length 1,.msl j 0 oa.length 1] K)=some (.val [.bool true] ⟨K.os ++ [],K.ext,K.tch⟩):=by
 have v1:viewV K.os (.msl i 0 oa.length 1)=some (fslN (ints oa)):=by
  rw [wv_msl,r1]
  show (if 0=0∧1=1∧0 + oa.length≤(ints ob).length then (match frzL (((ints ob).drop 0).take oa.length) with | some es=>some (fslN es) | none=>none) else none)=_
  rw [if_pos ⟨rfl,rfl,by simp [ints]; exact hle⟩,List.drop_zero,ints,← List.map_take,ht,frzL_ints]
 have v2:viewV K.os (.msl j 0 oa.length 1)=some (fslN (ints oa)):=by
  rw [wv_msl,r2]
  show (if 0=0∧1=1∧0 + oa.length≤(ints oa).length then (match frzL (((ints oa).drop 0).take oa.length) with | some es=>some (fslN es) | none=>none) else none)=_
  rw [if_pos ⟨rfl,rfl,by simp [ints]⟩,List.drop_zero,List.take_of_length_le (by simp [ints]),frzL_ints]
 have hv:viewAs K.os [.msl i 0 oa.length 1,.msl j 0 oa.length 1]=some [fslN (ints oa),fslN (ints oa)]:=by
  rw [va_cons,va_cons,va_nil]
  rw [show viewA K.os (.msl i 0 oa.length 1)=viewV K.os (.msl i 0 oa.length 1) from rfl,show viewA K.os (.msl j 0 oa.length 1)=viewV K.os (.msl j 0 oa.length 1) from rfl,v1,v2]; rfl
 have hg:M6 [fslN (ints oa),fslN (ints oa)]=some [.bool (decide (oa=oa))]:=C2 (a:=fun p:List Int × List Int=>[fslN (ints p.1),fslN (ints p.2)]) (r:=fun p=>[.bool (decide (p.1=p.2))]) (fun x y e=>by simp only [List.cons.injEq,fslN_iff,ints_iff,and_true] at e; simp only [e]) (oa,oa) hk
 rw [C7 hS hv hg rfl,decide_eq_true rfl]
 rfl
theorem uI {K:PK} {i j:Nat} {oa:List Int} {x y:Int} (hE:T 12=some k7) (hk:oa.length * 8≤bigN) (r1:rowOf K.os 6 i=some (0,ints oa,1)) (r2:rowOf K.os 6 j=some (0,ints oa,1)) :
 evP ⟨A0,T,A6⟩ (.call 12 [.agg [.msl i 0 oa.length 1,.int .i64 x,.int .i64 y],.agg [.msl j 0 oa.length 1,.int .i64 x,.int .i64 y]] K)=some (.val [.bool true] ⟨K.os ++ [],K.ext,K.tch⟩):=by
 have v:∀ i,rowOf K.os 6 i=some (0,ints oa,1)->viewV K.os (.msl i 0 oa.length 1)=some (fslN (ints oa)):=fun i r2=>by
  rw [wv_msl,r2]
  show (if 0=0∧1=1∧0 + oa.length≤(ints oa).length then (match frzL (((ints oa).drop 0).take oa.length) with | some es=>some (fslN es) | none=>none) else none)=_
  rw [if_pos ⟨rfl,rfl,by simp [ints]⟩,List.drop_zero,List.take_of_length_le (by simp [ints]),frzL_ints]
 have w:∀ i,rowOf K.os 6 i=some (0,ints oa,1)->viewA K.os (.agg [.msl i 0 oa.length 1,.int .i64 x,.int .i64 y])=some (.agg [fslN (ints oa),.int .i64 x,.int .i64 y]):=fun i r=>by
  show (match consO (viewV K.os (.msl i 0 oa.length 1)) _ with | some cs=>some (AV.agg cs) | none=>none)=_
  rw [v i r]; rfl
 have hv:viewAs K.os [.agg [.msl i 0 oa.length 1,.int .i64 x,.int .i64 y],.agg [.msl j 0 oa.length 1,.int .i64 x,.int .i64 y]]=some [.agg [fslN (ints oa),.int .i64 x,.int .i64 y],.agg [fslN (ints oa),.int .i64 x,.int .i64 y]]:=by
  rw [va_cons,va_cons,va_nil,w i r1,w j r2]; rfl
 have hg:k7 [.agg [fslN (ints oa),.int .i64 x,.int .i64 y],.agg [fslN (ints oa),.int .i64 x,.int .i64 y]]=some [.bool (decide (x=x∧y=y∧oa=oa))]:=C2 (a:=fun p:List Int × List Int × Int × Int × Int × Int=>[.agg [fslN (ints p.1),.int .i64 p.2.2.1,.int .i64 p.2.2.2.1],.agg [fslN (ints p.2.1),.int .i64 p.2.2.2.2.1,.int .i64 p.2.2.2.2.2]]) (r:=fun p=>[.bool (decide (p.2.2.1=p.2.2.2.2.1∧p.2.2.2.1=p.2.2.2.2.2∧p.1=p.2.1))]) (fun x y e=>by simp only [List.cons.injEq,AV.agg.injEq,AV.int.injEq,true_and,fslN_iff,ints_iff,and_true] at e; simp only [e]) (oa,oa,x,y,x,y) hk
 rw [C7 hE hv hg rfl,decide_eq_true ⟨rfl,rfl,rfl⟩]
 rfl
theorem rQ (hB:T 6=some W7) (hC:T 7=some M8) (hK:T 8=some O9) (hU:T 9=some jW) (hR:T 10=some X4) (hS:T 11=some M6) (hE:T 12=some k7) (hm:m.ok) (h1:U5 m=false) (h2:¬ 1000 < inp.length) (h3:O4 m=0) {s1 m1 sa ca sb cb:Int} {oa ob:List Int} (e1:max 0 (min st 8000)=s1) (e2:max 0 (min mo 8000)=m1)
 (ra:∀ K,evP ⟨A0,T,A6⟩ (.call 10 [m.F,fslN (ints inp),.int .i64 s1] K)=some (.val [.agg [.msl K.os.length 0 oa.length 1,.int .i64 sa,.int .i64 ca]] ⟨K.os ++ [.row 0 (ints oa) 1],K.ext,K.tch⟩))
 (rb:∀ K,evP ⟨A0,T,A6⟩ (.call 10 [m.F,fslN (ints inp),.int .i64 (s1 + m1)] K)=some (.val [.agg [.msl K.os.length 0 ob.length 1,.int .i64 sb,.int .i64 cb]] ⟨K.os ++ [.row 0 (ints ob) 1],K.ext,K.tch⟩))
 (c1:1≤sa∧sa≤3) (c2:(oa.length:Int)≤s1) (c3:oa <+: ob) (c4:sa ≠ 3->(sa=sb∧ca=cb)∧oa=ob) (c5:sa=3->ca=0) (c6:sa=2->1≤ca∧ca≤4):evP ⟨A0,T,A6⟩ (.body 3 [wU m inp oth st mo] K0)=some (.val [.bool true] ⟨[],0,[]⟩):=by
 have tb:=fun K=>Pk (K:=K) hB hm
 have tc:=fun K=>Tc (K:=K) hC hm
 have tk:=fun K=>Hu (K:=K) hK
 have u1:=fun K=>EG (K:=K) hU (v:=st) (lo:=0) (hi:=8000)
 have u2:=fun K=>EG (K:=K) hU (v:=mo) (lo:=0) (hi:=8000)
 rw [e1] at u1
 rw [e2] at u2
 rw [h1] at tb
 rw [h3] at tc
 simp only [Modl.F] at tb tc ra rb
 have hl:(ints inp).length=inp.length:=by simp [ints]
 have hw:=Dn (n:=s1 + m1) (by omega) (by omega)
 have h2:decide ((inp.length:Int) > 1000)=false:=decide_eq_false (by omega)
 have hlen:=c3.length_le
 have d1:decide (sa < 1)=false:=decide_eq_false (by omega)
 have d2:decide (sa > 3)=false:=decide_eq_false (by omega)
 have d3:decide ((oa.length:Int) > s1)=false:=decide_eq_false (by omega)
 have d4:decide ((ob.length:Int) < (oa.length:Int))=false:=decide_eq_false (by omega)
 have ht:ob.take oa.length=oa:=(List.prefix_iff_eq_take.1 c3).symm
 have la:(ints oa).length=oa.length:=by simp [ints]
 have lb:(ints ob).length=ob.length:=by simp [ints]
 rw [A7 (c:=p3) (nt:=114) (rs:=[.tmp 2]) rfl (by simp)]; unfold p3
 unfold K0 wU
 have ts:=fun K i j=>wV (K:=K) (i:=i) (j:=j) hS (by simp only [bigN]; omega) ht hlen
 have q1:3=sa∨sa=1∨sa=2:=by omega
 rcases q1 with rfl | rfl | rfl
 . obtain rfl:=c5 rfl
   simp -implicitDefEqProofs only [tb,tc,tk,u1,u2,ra,rb,hl,h2,hw,d1,d2,d3,d4,la,lb,oL hlen,ts,j9,List.contains_cons,List.contains_nil,Nat.reduceBEq,show decide ((3:Int)=3)=true from rfl,show decide ((3:Int)=2)=false from rfl,show decide ((0:Int)=0)=true from rfl,XP,Nat.reduceAdd,Nat.reduceSub,Nat.reduceLT,Nat.reduceLeDiff,Nat.reduceEqDiff,Nat.reduceMul,↓reduceIte]
 . obtain ⟨⟨rfl,rfl⟩,rfl⟩:=c4 (by decide)
   have te:=fun K i j x=>uI (K:=K) (i:=i) (j:=j) (oa:=oa) (x:=x) (y:=ca) hE (by simp only [bigN]; omega)
   simp -implicitDefEqProofs only [tb,tc,tk,u1,u2,ra,rb,hl,h2,hw,d1,d2,d3,d4,la,lb,oL hlen,ts,j9,List.contains_cons,List.contains_nil,Nat.reduceBEq,te,show decide ((1:Int)=3)=false from rfl,show decide ((1:Int)=2)=false from rfl,XP,Nat.reduceAdd,Nat.reduceSub,Nat.reduceLT,Nat.reduceLeDiff,Nat.reduceEqDiff,Nat.reduceMul,↓reduceIte]
 . obtain ⟨⟨rfl,rfl⟩,rfl⟩:=c4 (by decide)
   have te:=fun K i j x=>uI (K:=K) (i:=i) (j:=j) (oa:=oa) (x:=x) (y:=ca) hE (by simp only [bigN]; omega)
   have g1:decide (ca ≥ 1)=true:=decide_eq_true (c6 rfl).1
   have g2:decide (ca≤4)=true:=decide_eq_true (c6 rfl).2
   simp -implicitDefEqProofs only [tb,tc,tk,u1,u2,ra,rb,hl,h2,hw,d1,d2,d3,d4,la,lb,oL hlen,ts,j9,List.contains_cons,List.contains_nil,Nat.reduceBEq,te,show decide ((2:Int)=3)=false from rfl,show decide ((2:Int)=2)=true from rfl,g1,g2,XP,Nat.reduceAdd,Nat.reduceSub,Nat.reduceLT,Nat.reduceLeDiff,Nat.reduceEqDiff,Nat.reduceMul,↓reduceIte]
end
theorem Fq (hlaw06_Big:T 6=some W7) (hir_Check:T 7=some M8) (hlaw06_known:T 8=some O9) (hCut:T 9=some jW) (hir_Run:T 10=some X4) (hSameInts:T 11=some M6) (hSameRun:T 12=some k7) {m:Modl} {inp:List Int} {oth:List Int} {st:Int} {mo:Int} (hk:m.ok):AM.Comes ⟨A0,T,A6⟩ 3 [wU m inp oth st mo] [.bool true]:=by
 refine ⟨[.bool true],⟨[],0,[]⟩,?_,back_of rfl List.nodup_nil rfl rfl rfl⟩
 cases h1:U5 m with
 | true=>exact Pw hlaw06_Big hir_Check hlaw06_known hCut hir_Run hSameInts hSameRun hk (.inl h1)
 | false =>
  by_cases h2:1000 < inp.length
  . exact Pw hlaw06_Big hir_Check hlaw06_known hCut hir_Run hSameInts hSameRun hk (.inr (.inl ⟨h1,h2⟩))
  . by_cases h3:O4 m=0
    . have q:=oK (m:=m) (input:=inp) (steps:=max 0 (min st 8000)) (d:=max 0 (min mo 8000)) (by omega) (by omega)
      have ra:=fun K=>fO (K:=K) (input:=inp) hir_Run (dC (steps:=max 0 (min st 8000)) hk h1 h3 (by omega))
      have rb:=fun K=>fO (K:=K) (input:=inp) hir_Run (dC (steps:=max 0 (min st 8000) + max 0 (min mo 8000)) hk h1 h3 (by omega))
      have hl:∀ l:List Int,(ints l).length=l.length:=fun l=>by simp [ints]
      refine rQ (sb:=(M4 m inp (max 0 (min st 8000) + max 0 (min mo 8000))).sc.1) (cb:=(M4 m inp (max 0 (min st 8000) + max 0 (min mo 8000))).sc.2) hlaw06_Big hir_Check hlaw06_known hCut hir_Run hSameInts hSameRun hk h1 h2 h3 rfl rfl (fun K=>?_) (fun K=>?_) q.st q.le q.pre (fun h=>?_) q.go q.tr
      . have:=ra K
        rw [← hl (M4 m inp (max 0 (min st 8000))).st.out]; exact this
      . have:=rb K
        rw [← hl (M4 m inp (max 0 (min st 8000) + max 0 (min mo 8000))).st.out]; exact this
      . obtain ⟨e1,e2⟩:=q.eq h
        exact ⟨⟨by rw [e1],by rw [e1]⟩,e2⟩
    . exact Pw hlaw06_Big hir_Check hlaw06_known hCut hir_Run hSameInts hSameRun hk (.inr (.inr ⟨h1,h2,h3⟩))
end Go.Proofs.AmEnv
namespace Go.Proofs.AmEnv
open Go Go.AM
open Go.ChangeShapes Go.WideShapes Go.ChangeAt
section
variable {H:Type} {enc:TypeId × Value->H} {P:Program} {W:World} {base:Nat} {spare:Nat->Bool} {held:Bool}
theorem J4 {E:Env} (hE:EnvOk E P) {t:Nat} {x:TI} (ht:E.ti t=some x):P.cellsOf t=x.size:=by
 obtain ⟨i,z,h1,h2,_⟩:=(hE.ti t x ht).info
 unfold Program.cellsOf
 rw [h1]; exact h2
theorem Cu {E:Env} (hE:EnvOk E P) {t:Nat} {x:TI} (ht:E.ti t=some x):P.bytesOf t=x.bytes:=by
 obtain ⟨i,z,h1,_,h2,_⟩:=(hE.ti t x ht).info
 unfold Program.bytesOf
 rw [h1]; exact h2
variable (hE:EnvOk A0 P)
include hE
theorem oM:P.underlying 3=some (.int .i64):=(hE.ti 3 ty3 rfl).desc
theorem uJ:P.underlying 9=some .string:=(hE.ti 9 BB rfl).desc
theorem wW:P.underlying 26=some (.slice 3):=(hE.ti 26 Dz rfl).desc
theorem oN:P.underlying 50=some (.slice 56):=(hE.ti 50 cP rfl).desc
theorem oO:P.underlying 47=some (.slice 54):=(hE.ti 47 cO rfl).desc
theorem rR:P.underlying 23=some (.slice 49):=(hE.ti 23 cN rfl).desc
theorem rS:P.underlying 22=some (.slice 46):=(hE.ti 22 iY rfl).desc
theorem w8:P.cellsOf 3=1:=J4 hE PL
theorem Px:P.cellsOf 9=1:=J4 hE SR
theorem Fr:P.cellsOf 26=1:=J4 hE LK
theorem Py:P.cellsOf 50=1:=J4 hE LN
theorem aC:P.cellsOf 47=1:=J4 hE LM
theorem fS:P.cellsOf 23=1:=J4 hE LI
theorem Wv:P.cellsOf 22=1:=J4 hE LH
theorem fT:P.cellsOf 56=8:=J4 hE vS
theorem uK:P.cellsOf 52=4:=J4 hE LO
theorem fU:P.cellsOf 54=5:=J4 hE vQ
theorem oP:P.cellsOf 49=5:=J4 hE vP
theorem oS:P.cellsOf 46=4:=J4 hE vO
theorem fV:P.cellsOf 25=2:=J4 hE LJ
theorem Ao {m n:Nat} {cs:List Value} {d:DataW H} {ps:List MemPlace} (h:DataW.trod enc P W base spare held n 3 cs=some (d,ps)) (hw:Wt P 3 d):∃ s,Q7 P (m + 1) 3 d=some s∧s.length=P.cellsOf 3∧∃ z,s=[.int .i64 z]:=by
 obtain ⟨z,rfl,e,_⟩:=DataW.trod_int (oM hE) h
 cases e
 refine ⟨[.int .i64 z],?_,by rw [w8 hE]; rfl,z,rfl⟩
 unfold Q7
 rw [oM hE]
theorem Ww {m n:Nat} {cs:List Value} {d:DataW H} {ps:List MemPlace} (h:DataW.trod enc P W base spare held n 9 cs=some (d,ps)) (hw:Wt P 9 d):∃ s,Q7 P (m + 1) 9 d=some s∧s.length=P.cellsOf 9∧∃ b,s=[.str b]∧b.length≤140737488355328:=by
 obtain ⟨b,rfl,e,_⟩:=DataW.trod_string (uJ hE) h
 cases e
 refine ⟨[.str b.data.toList],?_,by rw [Px hE]; rfl,_,rfl,?_⟩
 . unfold Q7
   rw [uJ hE]
 . have:=hw b.data.toList.length (by unfold DataW.weights; simp)
   exact Nat.le_trans this (by decide)
omit hE in
def Rz (acs:List AV) (z:Int):Prop:=acs=[.int .i64 z]
theorem Pz {m n:Nat} {cs:List Value} {d:DataW H} {ps:List MemPlace} (h:DataW.trod enc P W base spare held n 26 cs=some (d,ps)) (hw:Wt P 26 d):∃ s,Q7 P (m + 2) 26 d=some s∧s.length=P.cellsOf 26∧∃ v l,s=[v]∧Ge P 3 Rz v l:=by
 obtain ⟨v,l,h1,h2⟩:=l6 (Q:=Rz) (m:=m + 1) (wW hE) (by rw [w8 hE]; decide) (fun n cs d ps h hw=>by
  obtain ⟨s,h1,h2,z,rfl⟩:=Ao hE (m:=m) h hw
  exact ⟨_,z,h1,⟨h2,.inr rfl⟩,rfl⟩) h hw
 exact ⟨[v],h1,by rw [Fr hE]; rfl,v,l,rfl,h2⟩
omit hE in
def Fs (P:Program) (acs:List AV) (I:Ins):Prop:=∃ av,acs=[.int .i64 I.op,.int .i64 I.ty,.int .i64 I.dst,.int .i64 I.a,.int .i64 I.b,.int .i64 I.n,.str I.s,av]∧Ge P 3 Rz av I.args∧I.s.length≤140737488355328
omit hE in
theorem MS {ss:List (List AV)} (h:ss.length=8):∃ a b c d e f g i,ss=[a,b,c,d,e,f,g,i]:=by
 match ss,h with
 | [a,b,c,d,e,f,g,i],_=>exact ⟨a,b,c,d,e,f,g,i,rfl⟩
theorem jX {m n:Nat} {cs:List Value} {d:DataW H} {ps:List MemPlace} (h:DataW.trod enc P W base spare held n 56 cs=some (d,ps)) (hw:Wt P 56 d):∃ acs I,Q7 P (m + 3) 56 d=some acs∧(acs.length=P.cellsOf 56∧(l7 P 56=true∨acs.length=1))∧Fs P acs I:=by
 obtain ⟨fs,hu,hm,_⟩:=(hE.ti 56 Ah rfl).desc
 have hm:fs.toList.map (fun f=>(f.type,f.offset))=[(3,0),(3,1),(3,2),(3,3),(3,4),(3,5),(9,6),(26,7)]:=hm
 obtain ⟨ss,h1,h2,h3,h4⟩:=R8 (m:=m + 2) (Qs:=fun i s=>(i < 6->∃ z,s=[.int .i64 z])∧(i=6->∃ b,s=[.str b]∧b.length≤140737488355328)∧(i=7->∃ v l,s=[v]∧Ge P 3 Rz v l)) hu hm
  (by simp only [Er,w8 hE,Px hE,Fr hE,and_self]) (by simp only [fT hE,List.map_cons,List.map_nil,List.sum_cons,List.sum_nil,Nat.reduceAdd,w8 hE,Px hE,Fr hE])
  (fun i ty off hL n cs d ps h hw=>by
    rcases i with _ | _ | _ | _ | _ | _ | _ | _ | i
    iterate 6
     . cases hL
       obtain ⟨s,k1,k2,k3⟩:=Ao hE (m:=m + 1) h hw
       exact ⟨s,k1,k2,fun _=>k3,fun hh=>by omega,fun hh=>by omega⟩
    . cases hL
      obtain ⟨s,k1,k2,k3⟩:=Ww hE (m:=m + 1) h hw
      exact ⟨s,k1,k2,fun hh=>by omega,fun _=>k3,fun hh=>by omega⟩
    . cases hL
      obtain ⟨s,k1,k2,k3⟩:=Pz hE (m:=m) h hw
      exact ⟨s,k1,k2,fun hh=>by omega,fun hh=>by omega,fun _=>k3⟩
    . simp at hL) h hw
 obtain ⟨a,b,c,e,f,g,s6,s7,rfl⟩:=MS h3
 obtain ⟨z0,rfl⟩:=(h4 0 _ rfl).1 (by omega)
 obtain ⟨z1,rfl⟩:=(h4 1 _ rfl).1 (by omega)
 obtain ⟨z2,rfl⟩:=(h4 2 _ rfl).1 (by omega)
 obtain ⟨z3,rfl⟩:=(h4 3 _ rfl).1 (by omega)
 obtain ⟨z4,rfl⟩:=(h4 4 _ rfl).1 (by omega)
 obtain ⟨z5,rfl⟩:=(h4 5 _ rfl).1 (by omega)
 obtain ⟨b6,rfl,hb6⟩:=(h4 6 _ rfl).2.1 rfl
 obtain ⟨v,l,rfl,hv⟩:=(h4 7 _ rfl).2.2 rfl
 exact ⟨_,⟨z0,z1,z2,z3,z4,z5,b6,l⟩,h1,⟨h2,.inl (by unfold l7; rw [hu])⟩,v,rfl,hv,hb6⟩
omit hE in
def Ft (P:Program) (acs:List AV) (B:Blk):Prop:=∃ cv,acs=[cv,.int .i64 B.e.kind,.int .i64 B.e.a,.int .i64 B.e.to,.int .i64 B.e.els]∧Ge P 56 (Fs P) cv B.code
theorem dE {m n:Nat} {cs:List Value} {d:DataW H} {ps:List MemPlace} (h:DataW.trod enc P W base spare held n 50 cs=some (d,ps)) (hw:Wt P 50 d):∃ s,Q7 P (m + 4) 50 d=some s∧s.length=P.cellsOf 50∧∃ v l,s=[v]∧Ge P 56 (Fs P) v l:=by
 obtain ⟨v,l,h1,h2⟩:=l6 (Q:=Fs P) (m:=m + 3) (oN hE) (by rw [fT hE]; decide) (fun n cs d ps h hw=>jX hE h hw) h hw
 exact ⟨[v],h1,by rw [Py hE]; rfl,v,l,rfl,h2⟩
theorem rT {m n:Nat} {cs:List Value} {d:DataW H} {ps:List MemPlace} (h:DataW.trod enc P W base spare held n 52 cs=some (d,ps)) (hw:Wt P 52 d):∃ s,Q7 P (m + 2) 52 d=some s∧s.length=P.cellsOf 52∧∃ x y z w,s=[.int .i64 x,.int .i64 y,.int .i64 z,.int .i64 w]:=by
 obtain ⟨fs,hu,hm,_⟩:=(hE.ti 52 Jj rfl).desc
 have hm:fs.toList.map (fun f=>(f.type,f.offset))=[(3,0),(3,1),(3,2),(3,3)]:=hm
 obtain ⟨ss,h1,h2,h3,h4⟩:=R8 (m:=m + 1) (Qs:=fun i s=>∃ z,s=[.int .i64 z]) hu hm
  (by simp only [Er,w8 hE,and_self]) (by simp only [uK hE,List.map_cons,List.map_nil,List.sum_cons,List.sum_nil,Nat.reduceAdd,w8 hE])
  (fun i ty off hL n cs d ps h hw=>by
    rcases i with _ | _ | _ | _ | i
    iterate 4
     . cases hL
       exact Ao hE (m:=m) h hw
    . simp at hL) h hw
 match ss,h3 with
 | [a,b,c,e],_ =>
  obtain ⟨z0,rfl⟩:=h4 0 _ rfl
  obtain ⟨z1,rfl⟩:=h4 1 _ rfl
  obtain ⟨z2,rfl⟩:=h4 2 _ rfl
  obtain ⟨z3,rfl⟩:=h4 3 _ rfl
  exact ⟨_,h1,h2,z0,z1,z2,z3,rfl⟩
theorem jY {m n:Nat} {cs:List Value} {d:DataW H} {ps:List MemPlace} (h:DataW.trod enc P W base spare held n 54 cs=some (d,ps)) (hw:Wt P 54 d):∃ acs B,Q7 P (m + 5) 54 d=some acs∧(acs.length=P.cellsOf 54∧(l7 P 54=true∨acs.length=1))∧Ft P acs B:=by
 obtain ⟨fs,hu,hm,_⟩:=(hE.ti 54 Jk rfl).desc
 have hm:fs.toList.map (fun f=>(f.type,f.offset))=[(50,0),(52,1)]:=hm
 obtain ⟨ss,h1,h2,h3,h4⟩:=R8 (m:=m + 4) (Qs:=fun i s=>(i=0->∃ v l,s=[v]∧Ge P 56 (Fs P) v l)∧(i=1->∃ x y z w,s=[.int .i64 x,.int .i64 y,.int .i64 z,.int .i64 w])) hu hm
  (by simp only [Er,Py hE,and_self]) (by simp only [fU hE,List.map_cons,List.map_nil,List.sum_cons,List.sum_nil,Nat.reduceAdd,Py hE,uK hE])
  (fun i ty off hL n cs d ps h hw=>by
    rcases i with _ | _ | i
    . cases hL
      obtain ⟨s,k1,k2,k3⟩:=dE hE (m:=m) h hw
      exact ⟨s,k1,k2,fun _=>k3,fun hh=>by omega⟩
    . cases hL
      obtain ⟨s,k1,k2,k3⟩:=rT hE (m:=m + 2) h hw
      exact ⟨s,k1,k2,fun hh=>by omega,fun _=>k3⟩
    . simp at hL) h hw
 match ss,h3 with
 | [a,b],_ =>
  obtain ⟨v,l,rfl,hv⟩:=(h4 0 _ rfl).1 rfl
  obtain ⟨x,y,z,w,rfl⟩:=(h4 1 _ rfl).2 rfl
  exact ⟨_,⟨l,⟨x,y,z,w⟩⟩,h1,⟨h2,.inl (by unfold l7; rw [hu])⟩,v,rfl,hv⟩
theorem dF {m n:Nat} {cs:List Value} {d:DataW H} {ps:List MemPlace} (h:DataW.trod enc P W base spare held n 47 cs=some (d,ps)) (hw:Wt P 47 d):∃ s,Q7 P (m + 6) 47 d=some s∧s.length=P.cellsOf 47∧∃ v l,s=[v]∧Ge P 54 (Ft P) v l:=by
 obtain ⟨v,l,h1,h2⟩:=l6 (Q:=Ft P) (m:=m + 5) (oO hE) (by rw [fU hE]; decide) (fun n cs d ps h hw=>jY hE h hw) h hw
 exact ⟨[v],h1,by rw [aC hE]; rfl,v,l,rfl,h2⟩
omit hE in
def Hw (P:Program) (acs:List AV) (C:Cod):Prop:=∃ rv bv,acs=[.str C.name,.int .i64 C.ty,.int .i64 C.ps,rv,bv]∧Ge P 3 Rz rv C.regs∧Ge P 54 (Ft P) bv C.blocks
theorem oT {m n:Nat} {cs:List Value} {d:DataW H} {ps:List MemPlace} (h:DataW.trod enc P W base spare held n 49 cs=some (d,ps)) (hw:Wt P 49 d):∃ acs C,Q7 P (m + 7) 49 d=some acs∧(acs.length=P.cellsOf 49∧(l7 P 49=true∨acs.length=1))∧Hw P acs C:=by
 obtain ⟨fs,hu,hm,_⟩:=(hE.ti 49 Bc rfl).desc
 have hm:fs.toList.map (fun f=>(f.type,f.offset))=[(9,0),(3,1),(3,2),(26,3),(47,4)]:=hm
 obtain ⟨ss,h1,h2,h3,h4⟩:=R8 (m:=m + 6) (Qs:=fun i s=>(i=0->∃ b,s=[.str b]∧b.length≤140737488355328)∧((i=1∨i=2)->∃ z,s=[.int .i64 z])∧(i=3->∃ v l,s=[v]∧Ge P 3 Rz v l)∧(i=4->∃ v l,s=[v]∧Ge P 54 (Ft P) v l)) hu hm
  (by simp only [Er,w8 hE,Px hE,Fr hE,and_self]) (by simp only [oP hE,List.map_cons,List.map_nil,List.sum_cons,List.sum_nil,Nat.reduceAdd,w8 hE,Px hE,Fr hE,aC hE])
  (fun i ty off hL n cs d ps h hw=>by
    rcases i with _ | _ | _ | _ | _ | i
    . cases hL
      obtain ⟨s,k1,k2,k3⟩:=Ww hE (m:=m + 5) h hw
      exact ⟨s,k1,k2,fun _=>k3,fun hh=>by omega,fun hh=>by omega,fun hh=>by omega⟩
    . cases hL
      obtain ⟨s,k1,k2,k3⟩:=Ao hE (m:=m + 5) h hw
      exact ⟨s,k1,k2,fun hh=>by omega,fun _=>k3,fun hh=>by omega,fun hh=>by omega⟩
    . cases hL
      obtain ⟨s,k1,k2,k3⟩:=Ao hE (m:=m + 5) h hw
      exact ⟨s,k1,k2,fun hh=>by omega,fun _=>k3,fun hh=>by omega,fun hh=>by omega⟩
    . cases hL
      obtain ⟨s,k1,k2,k3⟩:=Pz hE (m:=m + 4) h hw
      exact ⟨s,k1,k2,fun hh=>by omega,fun hh=>by omega,fun _=>k3,fun hh=>by omega⟩
    . cases hL
      obtain ⟨s,k1,k2,k3⟩:=dF hE (m:=m) h hw
      exact ⟨s,k1,k2,fun hh=>by omega,fun hh=>by omega,fun hh=>by omega,fun _=>k3⟩
    . simp at hL) h hw
 match ss,h3 with
 | [a,b,c,e,f],_ =>
  obtain ⟨b0,rfl,_⟩:=(h4 0 _ rfl).1 rfl
  obtain ⟨z1,rfl⟩:=(h4 1 _ rfl).2.1 (.inl rfl)
  obtain ⟨z2,rfl⟩:=(h4 2 _ rfl).2.1 (.inr rfl)
  obtain ⟨v3,l3,rfl,hv3⟩:=(h4 3 _ rfl).2.2.1 rfl
  obtain ⟨v4,l4,rfl,hv4⟩:=(h4 4 _ rfl).2.2.2 rfl
  exact ⟨_,⟨b0,z1,z2,l3,l4⟩,h1,⟨h2,.inl (by unfold l7; rw [hu])⟩,v3,v4,rfl,hv3,hv4⟩
omit hE in
def Ky (acs:List AV) (G:Glo):Prop:=acs=[.str G.name,.int .i64 G.ty,.int .i64 G.size,.int .i64 G.at_]
theorem oU {m n:Nat} {cs:List Value} {d:DataW H} {ps:List MemPlace} (h:DataW.trod enc P W base spare held n 46 cs=some (d,ps)) (hw:Wt P 46 d):∃ acs G,Q7 P (m + 2) 46 d=some acs∧(acs.length=P.cellsOf 46∧(l7 P 46=true∨acs.length=1))∧Ky acs G:=by
 obtain ⟨fs,hu,hm,_⟩:=(hE.ti 46 Ll rfl).desc
 have hm:fs.toList.map (fun f=>(f.type,f.offset))=[(9,0),(3,1),(3,2),(3,3)]:=hm
 obtain ⟨ss,h1,h2,h3,h4⟩:=R8 (m:=m + 1) (Qs:=fun i s=>(i=0->∃ b,s=[.str b]∧b.length≤140737488355328)∧(0 < i->∃ z,s=[.int .i64 z])) hu hm
  (by simp only [Er,w8 hE,Px hE,and_self]) (by simp only [oS hE,List.map_cons,List.map_nil,List.sum_cons,List.sum_nil,Nat.reduceAdd,w8 hE,Px hE])
  (fun i ty off hL n cs d ps h hw=>by
    rcases i with _ | _ | _ | _ | i
    . cases hL
      obtain ⟨s,k1,k2,k3⟩:=Ww hE (m:=m) h hw
      exact ⟨s,k1,k2,fun _=>k3,fun hh=>by omega⟩
    iterate 3
     . cases hL
       obtain ⟨s,k1,k2,k3⟩:=Ao hE (m:=m) h hw
       exact ⟨s,k1,k2,fun hh=>by omega,fun _=>k3⟩
    . simp at hL) h hw
 match ss,h3 with
 | [a,b,c,e],_ =>
  obtain ⟨b0,rfl,_⟩:=(h4 0 _ rfl).1 rfl
  obtain ⟨z1,rfl⟩:=(h4 1 _ rfl).2 (by omega)
  obtain ⟨z2,rfl⟩:=(h4 2 _ rfl).2 (by omega)
  obtain ⟨z3,rfl⟩:=(h4 3 _ rfl).2 (by omega)
  exact ⟨_,⟨b0,z1,z2,z3⟩,h1,⟨h2,.inl (by unfold l7; rw [hu])⟩,rfl⟩
theorem rU {n:Nat} {cs:List Value} {d:DataW H} {ps:List MemPlace} (h:DataW.trod enc P W base spare held n 25 cs=some (d,ps)) (hw:Wt P 25 d):∃ gv fv,∃ M:Modl,Q7 P 9 25 d=some [gv,fv]∧Ge P 46 Ky gv M.gs∧Ge P 49 (Hw P) fv M.fs:=by
 obtain ⟨fs,hu,hm,_⟩:=(hE.ti 25 Ov rfl).desc
 have hm:fs.toList.map (fun f=>(f.type,f.offset))=[(22,0),(23,1)]:=hm
 obtain ⟨ss,h1,h2,h3,h4⟩:=R8 (m:=8) (Qs:=fun i s=>(i=0->∃ v l,s=[v]∧Ge P 46 Ky v l)∧(i=1->∃ v l,s=[v]∧Ge P 49 (Hw P) v l)) hu hm
  (by simp only [Er,Wv hE,and_self]) (by simp only [fV hE,List.map_cons,List.map_nil,List.sum_cons,List.sum_nil,Nat.reduceAdd,Wv hE,fS hE])
  (fun i ty off hL n cs d ps h hw=>by
    rcases i with _ | _ | i
    . cases hL
      obtain ⟨v,l,k1,k2⟩:=l6 (Q:=Ky) (m:=7) (rS hE) (by rw [oS hE]; decide) (fun n cs d ps h hw=>oU hE (m:=5) h hw) h hw
      exact ⟨[v],k1,by rw [Wv hE]; rfl,fun _=>⟨v,l,rfl,k2⟩,fun hh=>by omega⟩
    . cases hL
      obtain ⟨v,l,k1,k2⟩:=l6 (Q:=Hw P) (m:=7) (rR hE) (by rw [oP hE]; decide) (fun n cs d ps h hw=>oT hE (m:=0) h hw) h hw
      exact ⟨[v],k1,by rw [fS hE]; rfl,fun hh=>by omega,fun _=>⟨v,l,rfl,k2⟩⟩
    . simp at hL) h hw
 match ss,h3 with
 | [a,b],_ =>
  obtain ⟨v0,l0,rfl,hv0⟩:=(h4 0 _ rfl).1 rfl
  obtain ⟨v1,l1,rfl,hv1⟩:=(h4 1 _ rfl).2 rfl
  exact ⟨v0,v1,⟨l0,l1⟩,h1,hv0,hv1⟩
omit hE in
theorem Wx {t:TypeId} {acs:List AV} (h:l7 P t=true):seeV P t acs=.agg acs:=by unfold seeV; rw [h]; rfl
theorem fW:P.bytesOf 3=8:=Cu hE PL
theorem rV:P.bytesOf 56=88:=Cu hE vS
theorem rW:P.bytesOf 54=56:=Cu hE vQ
theorem wX:P.bytesOf 49=80:=Cu hE vP
theorem wY:P.bytesOf 46=40:=Cu hE vO
theorem rX {t:TypeId} {x:TI} {L:List (Nat × Nat)} {fl:Bool} (ht:A0.ti t=some x) (hd:x.desc=.struct L fl):l7 P t=true:=by
 have h:=(hE.ti t x ht).desc
 unfold G2 at h
 rw [hd] at h
 obtain ⟨fs,hu,_⟩:=h
 unfold l7
 rw [hu]
theorem MT:l7 P 3=false:=by unfold l7; rw [oM hE]
theorem Wy {v:AV} {l:List Int} (hq:Ge P 3 Rz v l) {Z:Nat->Prop} {h:Heap}:Fz Z h v (fslN (ints l)):=hq.fz fun r X hr=>by
 have hr:r=[.int .i64 X]:=hr
 subst hr
 have:seeV P 3 [.int .i64 X]=.int .i64 X:=by unfold seeV; rw [MT hE]; rfl
 rw [this]; exact .int _ _
omit hE in
theorem aD {Z:Nat->Prop} {h:Heap} {xs ys:List AV} (hl:xs.length=ys.length) (hc:ys.all clo=true) (hz:∀ p∈xs.zip ys,Fz Z h p.1 p.2):Fz Z h (.agg xs) (.agg ys):=by
 refine .agg hl (fun i x y hx hy=>hz (x,y) ?_) hc
 exact List.mem_of_getElem? (i:=i) (by rw [List.getElem?_zip_eq_some]; exact ⟨hx,hy⟩)
theorem rY {acs:List AV} {I:Ins} (hq:Fs P acs I) {Z:Nat->Prop} {h:Heap}:Fz Z h (seeV P 56 acs) I.F:=by
 obtain ⟨av,rfl,h1,_⟩:=hq
 rw [Wx (rX hE vS rfl)]
 refine aD rfl rfl fun p hp=>?_
 simp only [List.zip_cons_cons,List.zip_nil_left,List.mem_cons,List.not_mem_nil,or_false] at hp
 rcases hp with rfl | rfl | rfl | rfl | rfl | rfl | rfl | rfl
 iterate 6
  . exact .int _ _
 . exact .str _
 . exact Wy hE h1
theorem rZ {acs:List AV} {B:Blk} (hq:Ft P acs B) {Z:Nat->Prop} {h:Heap}:Fz Z h (seeV P 54 acs) B.F:=by
 obtain ⟨av,rfl,h1⟩:=hq
 rw [Wx (rX hE vQ rfl)]
 refine aD rfl rfl fun p hp=>?_
 simp only [List.zip_cons_cons,List.zip_nil_left,List.mem_cons,List.not_mem_nil,or_false] at hp
 rcases hp with rfl | rfl | rfl | rfl | rfl
 . exact h1.fz fun r X hr=>rY hE hr
 iterate 4
  . exact .int _ _
theorem wZ {acs:List AV} {C:Cod} (hq:Hw P acs C) {Z:Nat->Prop} {h:Heap}:Fz Z h (seeV P 49 acs) C.F:=by
 obtain ⟨rv,bv,rfl,h1,h2⟩:=hq
 rw [Wx (rX hE vP rfl)]
 refine aD rfl rfl fun p hp=>?_
 simp only [List.zip_cons_cons,List.zip_nil_left,List.mem_cons,List.not_mem_nil,or_false] at hp
 rcases hp with rfl | rfl | rfl | rfl | rfl
 . exact .str _
 . exact .int _ _
 . exact .int _ _
 . exact Wy hE h1
 . exact h2.fz fun r X hr=>rZ hE hr
theorem xA {acs:List AV} {G:Glo} (hq:Ky acs G) {Z:Nat->Prop} {h:Heap}:Fz Z h (seeV P 46 acs) G.F:=by
 have hq:acs=_:=hq
 subst hq
 rw [Wx (rX hE vO rfl)]
 refine aD rfl rfl fun p hp=>?_
 simp only [List.zip_cons_cons,List.zip_nil_left,List.mem_cons,List.not_mem_nil,or_false] at hp
 rcases hp with rfl | rfl | rfl | rfl
 . exact .str _
 iterate 3
  . exact .int _ _
theorem Cv {n b k:Nat} (h:n * b≤reachBytes) (hb:b=k):n * k≤bigN:=by
 subst hb
 exact Nat.le_trans h (by decide)
theorem oV {acs:List AV} {I:Ins} (hq:Fs P acs I):I.sok:=by
 obtain ⟨av,_,h1,h2⟩:=hq
 exact ⟨Cv hE h1.2 (fW hE),h2⟩
theorem oW {acs:List AV} {B:Blk} (hq:Ft P acs B):B.sok:=by
 obtain ⟨av,_,h1⟩:=hq
 have hx:∀ x∈B.code,x.sok:=fun x hx=>by
  obtain ⟨r,hr⟩:=h1.mem hx
  exact oV hE hr
 exact ⟨⟨fun x h=>(hx x h).1,Cv hE h1.2 (rV hE)⟩,hx⟩
theorem sA {acs:List AV} {C:Cod} (hq:Hw P acs C):C.sok:=by
 obtain ⟨rv,bv,_,h1,h2⟩:=hq
 have hx:∀ x∈C.blocks,x.sok:=fun x hx=>by
  obtain ⟨r,hr⟩:=h2.mem hx
  exact oW hE hr
 exact ⟨⟨Cv hE h1.2 (fW hE),fun x h=>(hx x h).1,Cv hE h2.2 (rW hE)⟩,hx⟩
theorem xB {gv fv:AV} {M:Modl} (h2:Ge P 46 Ky gv M.gs) (h3:Ge P 49 (Hw P) fv M.fs):M.ok:=by
 refine ⟨fun C hC=>?_,?_,Cv hE h2.2 (wY hE)⟩
 . obtain ⟨r,hr⟩:=h3.mem hC
   exact sA hE hr
 . have:=Cv hE h3.2 (wX hE)
   simp only [bigN] at this ⊢
   omega
theorem sB:P.cellsOf 28=6:=J4 hE LL
theorem jZ {n:Nat} {cs:List Value} {d:DataW H} {ps:List MemPlace} (h:DataW.trod enc P W base spare held n 28 cs=some (d,ps)) (hw:Wt P 28 d):∃ gv fv iv ov,∃ (M:Modl) (inp oth:List Int) (st mo:Int),Q7 P 10 28 d=some [gv,fv,iv,ov,.int .i64 st,.int .i64 mo]∧Ge P 46 Ky gv M.gs∧Ge P 49 (Hw P) fv M.fs∧Ge P 3 Rz iv inp∧Ge P 3 Rz ov oth:=by
 obtain ⟨fs,hu,hm,_⟩:=(hE.ti 28 Vt rfl).desc
 have hm:fs.toList.map (fun f=>(f.type,f.offset))=[(25,0),(26,2),(26,3),(3,4),(3,5)]:=hm
 obtain ⟨ss,h1,h2,h3,h4⟩:=R8 (m:=9) (Qs:=fun i s=>(i=0->∃ gv fv,∃ M:Modl,s=[gv,fv]∧Ge P 46 Ky gv M.gs∧Ge P 49 (Hw P) fv M.fs)∧((i=1∨i=2)->∃ v l,s=[v]∧Ge P 3 Rz v l)∧((i=3∨i=4)->∃ z,s=[.int .i64 z])) hu hm
  (by simp only [Er,fV hE,w8 hE,Fr hE,and_self]) (by simp only [sB hE,List.map_cons,List.map_nil,List.sum_cons,List.sum_nil,Nat.reduceAdd,fV hE,w8 hE,Fr hE])
  (fun i ty off hL n cs d ps h hw=>by
    rcases i with _ | _ | _ | _ | _ | i
    . cases hL
      obtain ⟨gv,fv,M,k1,k2,k3⟩:=rU hE h hw
      exact ⟨[gv,fv],k1,by rw [fV hE]; rfl,fun _=>⟨gv,fv,M,rfl,k2,k3⟩,fun hh=>by omega,fun hh=>by omega⟩
    iterate 2
     . cases hL
       obtain ⟨s,k1,k2,k3⟩:=Pz hE (m:=7) h hw
       exact ⟨s,k1,k2,fun hh=>by omega,fun _=>k3,fun hh=>by omega⟩
    iterate 2
     . cases hL
       obtain ⟨s,k1,k2,k3⟩:=Ao hE (m:=8) h hw
       exact ⟨s,k1,k2,fun hh=>by omega,fun hh=>by omega,fun _=>k3⟩
    . simp at hL) h hw
 match ss,h3 with
 | [a,b,c,e,f],_ =>
  obtain ⟨gv,fv,M,rfl,q1,q2⟩:=(h4 0 _ rfl).1 rfl
  obtain ⟨v1,l1,rfl,q3⟩:=(h4 1 _ rfl).2.1 (.inl rfl)
  obtain ⟨v2,l2,rfl,q4⟩:=(h4 2 _ rfl).2.1 (.inr rfl)
  obtain ⟨z3,rfl⟩:=(h4 3 _ rfl).2.2 (.inl rfl)
  obtain ⟨z4,rfl⟩:=(h4 4 _ rfl).2.2 (.inr rfl)
  exact ⟨gv,fv,v1,v2,M,l1,l2,z3,z4,h1,q1,q2,q3,q4⟩
theorem steps_see {n:Nat} {cs:List Value} {d:DataW H} {ps:List MemPlace} (h:DataW.trod enc P W base spare held n 28 cs=some (d,ps)) (hw:Wt P 28 d):∃ acs,∃ (M:Modl) (inp oth:List Int) (st mo:Int),Q7 P 10 28 d=some acs∧acs.length=6∧(∀ Z h,Fz Z h (.agg acs) (wU M inp oth st mo))∧M.ok∧inp.length * 8≤bigN∧oth.length * 8≤bigN:=by
 obtain ⟨gv,fv,iv,ov,M,inp,oth,st,mo,h1,h2,h3,h4,h5⟩:=jZ hE h hw
 refine ⟨_,M,inp,oth,st,mo,h1,rfl,fun Z h=>?_,xB hE h2 h3,Cv hE h4.2 (fW hE),Cv hE h5.2 (fW hE)⟩
 refine aD rfl rfl fun p hp=>?_
 simp only [List.zip_cons_cons,List.zip_nil_left,List.mem_cons,List.not_mem_nil,or_false] at hp
 rcases hp with rfl | rfl | rfl | rfl | rfl | rfl
 . exact h2.fz fun r X hr=>xA hE hr
 . exact h3.fz fun r X hr=>wZ hE hr
 . exact Wy hE h4
 . exact Wy hE h5
 . exact .int _ _
 . exact .int _ _
end
end Go.Proofs.AmEnv
namespace Go.AM
theorem oX {E:Env} {f:Nat} {args:List AV} {h:Heap} (hg:E.gc f=false) (ht:E.told f=true):callω E f args h=toldA args h:=by
 refine (w9 (E:=E) f args h).unique ?_
 have e:∀ m,F1 E (ev E m) f args h=toldA args h:=fun m=>by
  unfold F1
  rw [hg]
  show M0 E (ev E m) f args h=_
  unfold M0
  rw [ht]; rfl
 simp only [e]
 exact .const
end Go.AM
namespace Go.Proofs.AmEnv
open Go Go.AM
theorem aE (hg:A0.gc 63=false) (ht:A0.told 63=true):TC A0 63 O8:=by
 intro args rs hgc Z h xs hl hz hb
 unfold O8 at hgc
 split at hgc
 . rename_i s p
   split at hgc
   . rename_i hs
     cases hgc
     match xs,hl with
     | [x,y],_ =>
      have h0:=hz 0 x (.str s) rfl rfl
      have h1:=hz 1 y (.str p) rfl rfl
      cases h0; cases h1
      refine ⟨[.bool (contS p s)],h,Z,fun _=>none,?_,FA hb,VL.cons (.fz (.bool _)) VL.nil,Nat.le_refl _,fun id hz=>⟨hz,rfl⟩,fun id hz=>.inl hz,fun id _=>rfl,fun id L e=>(by cases e),[],rfl,fun id hi=>(List.not_mem_nil hi).elim⟩
      rw [oX hg ht]
      show (bif Nat.ble (Y5 s) 4000000000 || oneB p then (match contS p s with | true=>Res.ok (.bool true) h | false=>.ok (.bool false) h) else .bad)=_
      have hs:(Nat.ble (Y5 s) 4000000000 || oneB p)=true:=hs
      rw [hs]
      cases contS p s <;> rfl
   . cases hgc
 . cases hgc
end Go.Proofs.AmEnv
set_option maxRecDepth 100000
namespace Go.Proofs.AmEnv
open Go Go.AM
def N1 (T:Nat->Option (List AV->Option (List AV))) (f:Nat) (g:List AV->Option (List AV)) (k:Nat):Option (List AV->Option (List AV)):=bif Nat.beq k f then some g else T k
theorem C8 {E:Env} {T:Nat->Option (List AV->Option (List AV))} {F:Nat->Option PFn} {f:Nat} {g:List AV->Option (List AV)} (hP:PEok ⟨E,T,F⟩) (h:TC E f g):PEok ⟨E,N1 T f g,F⟩:=by
 refine ⟨hP.gl,hP.ti,fun k q e=>?_,hP.fn⟩
 have e:(bif Nat.beq k f then some g else T k)=some q:=e
 cases hb:Nat.beq k f with
 | true=>rw [hb] at e; cases e; rw [Nat.eq_of_beq_eq_true hb]; exact h
 | false=>rw [hb] at e; exact hP.T k q e
def T0 (k:Nat):Option (List AV->Option (List AV)):=none
section
variable (hP:PEok ⟨A0,T0,A6⟩)
include hP
omit hP in
def T1:=N1 T0 11 M6
theorem P1:PEok ⟨A0,T1,A6⟩:=C8 hP (D4 hP fun p h=>Ow (by simp only [bigN] at h ⊢; omega))
omit hP in
def T2:=N1 T1 43 f7
theorem P2:PEok ⟨A0,T2,A6⟩:=C8 (P1 hP) (mV (P1 hP) rfl)
omit hP in
def T3:=N1 T2 63 O8
theorem P3:PEok ⟨A0,T3,A6⟩:=C8 (P2 hP) (aE rfl rfl)
omit hP in
def T4:=N1 T3 19 M1
theorem P4:PEok ⟨A0,T4,A6⟩:=C8 (P3 hP) (Vz (P3 hP))
omit hP in
def T5:=N1 T4 54 C4
theorem P5:PEok ⟨A0,T5,A6⟩:=C8 (P4 hP) (Zh (P4 hP))
omit hP in
def T6:=N1 T5 69 Ck
theorem P6:PEok ⟨A0,T6,A6⟩:=C8 (P5 hP) (cR (P5 hP))
omit hP in
def T7:=N1 T6 56 E8
theorem P7:PEok ⟨A0,T7,A6⟩:=C8 (P6 hP) (Wa (P6 hP))
omit hP in
def T8:=N1 T7 33 B9
theorem P8:PEok ⟨A0,T8,A6⟩:=C8 (P7 hP) (Cl rfl (P7 hP))
omit hP in
def T9:=N1 T8 37 J2
theorem P9:PEok ⟨A0,T9,A6⟩:=C8 (P8 hP) (Oy (P8 hP))
omit hP in
def PP:=N1 T9 65 W6
theorem PQ:PEok ⟨A0,PP,A6⟩:=C8 (P9 hP) (Wb (P9 hP))
omit hP in
def PS:=N1 PP 64 v6
theorem PU:PEok ⟨A0,PS,A6⟩:=C8 (PQ hP) (Zi rfl (PQ hP))
omit hP in
def PV:=N1 PS 79 Cm
theorem PW:PEok ⟨A0,PV,A6⟩:=C8 (PU hP) (cT (PU hP))
omit hP in
def PX:=N1 PV 66 f8
theorem PY:PEok ⟨A0,PX,A6⟩:=C8 (PW hP) (Zj rfl (PW hP))
omit hP in
def PZ:=N1 PX 21 J7
theorem QA:PEok ⟨A0,PZ,A6⟩:=C8 (PY hP) (Wc rfl rfl (PY hP))
omit hP in
def QB:=N1 PZ 51 Co
theorem QC:PEok ⟨A0,QB,A6⟩:=C8 (QA hP) (cU rfl (QA hP))
omit hP in
def QD:=N1 QB 67 D2
theorem QE:PEok ⟨A0,QD,A6⟩:=C8 (QC hP) (Cp rfl (QC hP))
omit hP in
def QF:=N1 QD 52 H6
theorem QG:PEok ⟨A0,QF,A6⟩:=C8 (QE hP) (Cq rfl rfl rfl rfl rfl rfl (QE hP))
omit hP in
def QH:=N1 QF 53 J3
theorem QI:PEok ⟨A0,QH,A6⟩:=C8 (QG hP) (Ea rfl rfl rfl rfl (QG hP))
omit hP in
def QJ:=N1 QH 34 B8
theorem QK:PEok ⟨A0,QJ,A6⟩:=C8 (QI hP) (Eb rfl rfl rfl (QI hP))
omit hP in
def QL:=N1 QJ 35 G7
theorem QM:PEok ⟨A0,QL,A6⟩:=C8 (QK hP) (Hp rfl (QK hP))
omit hP in
def QN:=N1 QL 20 F9
theorem QO:PEok ⟨A0,QN,A6⟩:=C8 (QM hP) (Fo rfl rfl rfl rfl rfl (QM hP))
omit hP in
def QP:=N1 QN 7 M8
theorem QQ:PEok ⟨A0,QP,A6⟩:=C8 (QO hP) (Zk rfl rfl rfl (QO hP))
omit hP in
def QR:=N1 QP 6 W7
theorem QS:PEok ⟨A0,QR,A6⟩:=C8 (QQ hP) (Wg (QQ hP))
omit hP in
def QT:=N1 QR 88 Pm
theorem QU:PEok ⟨A0,QT,A6⟩:=C8 (QS hP) (nG (QS hP))
omit hP in
def QV:=N1 QT 80 w5
theorem QW:PEok ⟨A0,QV,A6⟩:=C8 (QU hP) (Zn (QU hP))
omit hP in
def QX:=N1 QV 81 Hq
theorem QY:PEok ⟨A0,QX,A6⟩:=C8 (QW hP) (jJ rfl (QW hP))
omit hP in
def QZ:=N1 QX 89 Po
theorem RA:PEok ⟨A0,QZ,A6⟩:=C8 (QY hP) (nH (QY hP))
omit hP in
def RB:=N1 QZ 82 w6
theorem RD:PEok ⟨A0,RB,A6⟩:=C8 (RA hP) (Zp (RA hP))
omit hP in
def RE:=N1 RB 83 Hr
theorem RF:PEok ⟨A0,RE,A6⟩:=C8 (RD hP) (jL rfl (RD hP))
omit hP in
def RG:=N1 RE 71 Pq
theorem RH:PEok ⟨A0,RG,A6⟩:=C8 (RF hP) (nI rfl rfl (RF hP))
omit hP in
def RI:=N1 RG 72 Pr
theorem RJ:PEok ⟨A0,RI,A6⟩:=C8 (RH hP) (nJ rfl rfl (RH hP))
omit hP in
def RK:=N1 RI 55 S4
theorem RL:PEok ⟨A0,RK,A6⟩:=C8 (RJ hP) (Zs rfl rfl (RJ hP))
omit hP in
def RM:=N1 RK 10 X4
theorem RN:PEok ⟨A0,RM,A6⟩:=C8 (RL hP) (jU rfl rfl rfl rfl rfl rfl rfl rfl rfl rfl rfl (RL hP))
omit hP in
def RO:=N1 RM 9 jW
theorem RP:PEok ⟨A0,RO,A6⟩:=C8 (RN hP) (wT (RN hP))
omit hP in
def RQ:=N1 RO 12 k7
theorem RR:PEok ⟨A0,RQ,A6⟩:=C8 (RP hP) (dD rfl (RP hP))
omit hP in
def RS:=N1 RQ 8 O9
theorem SU:PEok ⟨A0,RS,A6⟩:=C8 (RR hP) (Pv rfl rfl rfl rfl (RR hP))
end
end Go.Proofs.AmEnv
set_option maxRecDepth 100000
namespace Go.Proofs.AmEnv
open Go Go.AM
theorem sC {f:Nat} {T:Nat->Option (List AV->Option (List AV))} (hP:PEok ⟨A0,T,A6⟩) {a x:AV} (H:AM.Comes ⟨A0,T,A6⟩ f [a] [.bool true]) (hz:∀ Z h,Fz Z h x a):∃ h',callω A0 f [x] Heap.empty=.ok (.bool true) h':=by
 obtain ⟨vcs,h1,Z1,ow1,e,_,l,_⟩:=De hP H (Z:=fun _=>False) (h:=Heap.empty) (xs:=[x]) rfl (fun i u v hu hv=>by
  cases i with
  | zero=>cases hu; cases hv; exact hz _ _
  | succ i=>simp at hu) (fun id h=>h.elim)
 have l:VL Z1 ow1 h1 (openTs 0 [AV.bool true]).2 vcs [.bool true]:=l
 match vcs,l.1 with
 | [v],_ =>
  have hv:=l.2 0 v (.bool true) rfl rfl
  have:v=.bool true:=by
   cases hv with
   | fz h=>cases h; rfl
  subst this
  exact ⟨h1,e⟩
theorem IrMore_ok (hP:PEok ⟨A0,T0,A6⟩) {m:Modl} {inp oth:List Int} {st mo:Int} (hm:m.ok) {x:AV} (hz:∀ Z h,Fz Z h x (wU m inp oth st mo)):∃ h',callω A0 3 [x] Heap.empty=.ok (.bool true) h':=sC (SU hP) (Fq (T:=RS) rfl rfl rfl rfl rfl rfl rfl hm) hz
end Go.Proofs.AmEnv
