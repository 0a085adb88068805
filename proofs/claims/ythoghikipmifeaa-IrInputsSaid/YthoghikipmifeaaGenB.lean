/- What this program's functions do, at any data. Conditions: none. -/
import Derived.Test.YthoghikipmifeaaGenA
set_option linter.unusedVariables false
set_option linter.unusedSimpArgs false
set_option linter.unusedSectionVars false
set_option linter.defProp false
set_option maxRecDepth 100000
noncomputable section
namespace Go.Proofs.AmEnv
open Go Go.AM
variable {T:Nat->Option (List AV->Option (List AV))}
section
variable {m:Modl} {s s2:Mst} {fa fd fo n n':Bool} {r r2 a:List Int} {c:Cod} {l:List Ins} {k:Nat} {at0:Int} {tch t0:List Nat} {x:Ins} {cs xs:List AV} {cz xz:Nat}
theorem wY (R:RunT T) (hb:evP ⟨A0,T,A4⟩ (.body 41 [.ptr 0 0 0,x.F,.msl 1 0 r.length 1] ⟨D9 true fd (fo || n) false m s r,nE true fd (fo || n),[]⟩)=some (.val [] ⟨D9 true fd (fo || n) n' m s2 r2,nE true fd (fo || n),t0⟩)) :
 ∃ t1,∀ tch,evP ⟨A0,T,A4⟩ (.call 41 [.ptr 0 0 0,x.F,.msl (nE fa fd fo + nB n + 1) 0 r.length 1] ⟨D9 fa fd fo n m s a ++ [.row 1 cs cz,.row 0 (ints r) 1,.row 1 xs xz],nE fa fd fo,tch⟩)=some (.val [] ⟨lD fa fd fo n n' m s2 a (nE fa fd fo + nB n + 3) ++ (.row 1 cs cz :: .row 0 (ints r2) 1 :: .row 1 xs xz :: oG n' s2.out),nE fa fd fo,t1 ++ tch⟩):=by
 refine ⟨((t0.filter (· < (Lz fa fd fo n (nE fa fd fo + nB n + 1)).length)).map fun j=>(Lz fa fd fo n (nE fa fd fo + nB n + 1)).getD j 0),fun tch=>iH (ids:=Lz fa fd fo n (nE fa fd fo + nB n + 1)) (args':=[.ptr 0 0 0,x.F,.msl 1 0 r.length 1]) (Kf:=⟨D9 true fd (fo || n) false m s r,nE true fd (fo || n),[]⟩) R.hC rfl ?_ ?_ ?_ hb ?_ ?_⟩ <;> cases fa <;> cases fd <;> cases fo <;> cases n <;> cases n' <;> rfl
theorem rT {st e:Int} (R:RunT T) (hb:evP ⟨A0,T,A4⟩ (.body 41 [.ptr 0 0 0,x.F,.msl 1 0 r.length 1] ⟨D9 true fd (fo || n) false m s r,nE true fd (fo || n),[]⟩)=some (.pan (D3 st e) ⟨D9 true fd (fo || n) n' m s2 r,nE true fd (fo || n),t0⟩)) :
 ∃ t1,∀ tch,evP ⟨A0,T,A4⟩ (.call 41 [.ptr 0 0 0,x.F,.msl (nE fa fd fo + nB n + 1) 0 r.length 1] ⟨D9 fa fd fo n m s a ++ [.row 1 cs cz,.row 0 (ints r) 1,.row 1 xs xz],nE fa fd fo,tch⟩)=some (.pan (D3 st e) ⟨lD fa fd fo n n' m s2 a (nE fa fd fo + nB n + 3) ++ (.row 1 cs cz :: .row 0 (ints r) 1 :: .row 1 xs xz :: oG n' s2.out),nE fa fd fo,t1 ++ tch⟩):=by
 refine ⟨((t0.filter (· < (Lz fa fd fo n (nE fa fd fo + nB n + 1)).length)).map fun j=>(Lz fa fd fo n (nE fa fd fo + nB n + 1)).getD j 0),fun tch=>Ww (ids:=Lz fa fd fo n (nE fa fd fo + nB n + 1)) (args':=[.ptr 0 0 0,x.F,.msl 1 0 r.length 1]) (Kf:=⟨D9 true fd (fo || n) false m s r,nE true fd (fo || n),[]⟩) R.hC rfl ?_ ?_ ?_ hb ?_ ?_⟩ <;> cases fa <;> cases fd <;> cases fo <;> cases n <;> cases n' <;> rfl
set_option maxHeartbeats 16000000 in
theorem rU (R:RunT T) (hk:k < l.length) (hl:l.length≤2000000000000) (h:1≤s.steps) (hs:s.steps≤20000) (hop:l[k].op=9) (hb:evP ⟨A0,T,A4⟩ (.body 41 [.ptr 0 0 0,l[k].F,.msl 1 0 r.length 1] ⟨D9 true fd (fo || n) false m (stp s) r,nE true fd (fo || n),[]⟩)=some (.val [] ⟨D9 true fd (fo || n) n' m s2 r2,nE true fd (fo || n),t0⟩)) :
 ∃ t1,evP ⟨A0,T,A4⟩ (.code U9 (O6 fa fd fo n r at0 ++ frI l k) (msL fa fd fo n m s a c r tch))=some (.ok .normal (O6 fa fd fo (n || n') r at0 ++ frI l (k + 1)) (msL fa fd fo (n || n') m s2 a c r2 t1)):=by
 have hlt:decide ((k:Int) < (l.length:Int))=true:=by simp [hk]
 have hi:=B4 (F:=Ins.F) hk
 have hw:=C8 (i:=k) (by omega)
 have st:=fun d o rest ext tch=>f8 (T:=T) (m:=m) (s:=s) (d:=d) (o:=o) (rest:=rest) (ext:=ext) (tch:=tch) R.hS h hs
 have h9:(l[k].op=9)=True:=eq_true hop
 obtain ⟨t1,hd⟩:=wY (fa:=fa) (a:=a) (cs:=[c.F]) (cz:=5) (xs:=[l[k].F]) (xz:=8) R hb
 clear hb
 unfold U9 Ou Ot Oq Oo On O6 frI msL D9 Mt
 unfold D9 at hd
 unfold mB at st hd ⊢
 simp only [Ins.F,Cod.F,stp] at hi st hd ⊢
 cases fa <;> cases fd <;> cases fo <;> cases n <;> cases n' <;> (
  simp only [dA,dR,oA,oR,aR,nB,nE,lD,oG,dd,D9,mB,Nat.reduceAdd,List.cons_append,List.nil_append,List.append_nil,Bool.or_false,Bool.or_true] at hd ⊢
  simp -implicitDefEqProofs only [hlt,hi,st,hd,h9,hw,XP,seval]
  exact ⟨_,rfl⟩)
set_option maxHeartbeats 16000000 in
theorem oF {z e:Int} (R:RunT T) (hk:k < l.length) (hl:l.length≤2000000000000) (h:1≤s.steps) (hs:s.steps≤20000) (hop:l[k].op=9) (hb:evP ⟨A0,T,A4⟩ (.body 41 [.ptr 0 0 0,l[k].F,.msl 1 0 r.length 1] ⟨D9 true fd (fo || n) false m (stp s) r,nE true fd (fo || n),[]⟩)=some (.pan (D3 z e) ⟨D9 true fd (fo || n) n' m s2 r,nE true fd (fo || n),t0⟩)) :
 ∃ t1,evP ⟨A0,T,A4⟩ (.code U9 (O6 fa fd fo n r at0 ++ frI l k) (msL fa fd fo n m s a c r tch))=some (.pan (D3 z e) ⟨D9 fa fd fo (n || n') m s2 a,nE fa fd fo,t1⟩):=by
 have hlt:decide ((k:Int) < (l.length:Int))=true:=by simp [hk]
 have hi:=B4 (F:=Ins.F) hk
 have st:=fun d o rest ext tch=>f8 (T:=T) (m:=m) (s:=s) (d:=d) (o:=o) (rest:=rest) (ext:=ext) (tch:=tch) R.hS h hs
 have h9:(l[k].op=9)=True:=eq_true hop
 obtain ⟨t1,hd⟩:=rT (fa:=fa) (a:=a) (cs:=[c.F]) (cz:=5) (xs:=[l[k].F]) (xz:=8) R hb
 clear hb
 unfold D3 at hd ⊢
 unfold U9 Ou Ot Oq Oo On O6 frI msL D9 Mt
 unfold D9 at hd
 unfold mB at st hd ⊢
 simp only [Ins.F,Cod.F,stp] at hi st hd ⊢
 cases fa <;> cases fd <;> cases fo <;> cases n <;> cases n' <;> (
  simp only [dA,dR,oA,oR,aR,nB,nE,lD,oG,dd,D9,mB,Nat.reduceAdd,List.cons_append,List.nil_append,List.append_nil,Bool.or_false,Bool.or_true] at hd ⊢
  simp -implicitDefEqProofs only [hlt,hi,st,hd,h9,XP,seval]
  exact ⟨_,rfl⟩)
theorem NN:evP ⟨A0,T,A4⟩ (.code U9 (O6 fa fd fo n r at0 ++ frI l l.length) (msL fa fd fo n m s a c r2 tch))=some (.ok (.exit 2) ((49,.bool false) :: (O6 fa fd fo n r at0 ++ frI l l.length)) (msL fa fd fo n m s a c r2 tch)):=by
 have hlt:decide ((l.length:Int) < (l.length:Int))=false:=by simp
 unfold U9 Ou Ot Oq Oo On O6 frI
 simp -implicitDefEqProofs only [hlt,XP,seval]
end
end Go.Proofs.AmEnv
set_option maxRecDepth 100000
namespace Go.Proofs.AmEnv
open Go Go.AM
variable {T:Nat->Option (List AV->Option (List AV))}
section
variable {m:Modl} {s:Mst} {fa fd fo n:Bool} {r a:List Int} {c:Cod} {i:Nat} {tch:List Nat}
theorem EM (R:RunT T) (hi:i < c.blocks.length) (h:¬ 1≤s.steps):∃ t1,evP ⟨A0,T,A4⟩ (.code N3 (O6 fa fd fo n r (i:Int)) (msL fa fd fo n m s a c r tch))=some (.pan (D3 3 0) ⟨D9 fa fd fo n m s a ++ [Mt c,.row 0 (ints r) 1],nE fa fd fo,t1⟩):=by
 have st:=fun d o rest ext tch=>fW (T:=T) (m:=m) (s:=s) (d:=d) (o:=o) (rest:=rest) (ext:=ext) (tch:=tch) R.hS h
 unfold N3 Fi Fh Fg Ox Ow Ov O6 msL D9 Mt
 unfold mB at st ⊢
 simp only [Cod.F,D3] at st ⊢
 cases fa <;> cases fd <;> cases fo <;> cases n <;> (
  simp only [dA,dR,oA,oR,aR,nB,nE]
  simp -implicitDefEqProofs only [st,XP,seval]
  exact ⟨_,rfl⟩)
theorem EN (R:RunT T) (hi:i < c.blocks.length) (h:1≤s.steps) (hs:s.steps≤20000) (hk:c.blocks[i].e.kind=3) (ha:c.blocks[i].e.a < 0) (h1:0≤s.calls) (h2:s.calls≤40):∃ t1,evP ⟨A0,T,A4⟩ (.code N3 (O6 fa fd fo n r (i:Int)) (msL fa fd fo n m s a c r tch))=some (.ok .ret [(6,.int .i64 0)] ⟨D9 fa fd fo n m { stp s with calls:=s.calls - 1 } a,nE fa fd fo,t1⟩):=by
 have st:=fun d o rest ext tch=>f8 (T:=T) (m:=m) (s:=s) (d:=d) (o:=o) (rest:=rest) (ext:=ext) (tch:=tch) R.hS h hs
 have hb:=B4 (F:=Blk.F) hi
 have hc:=Hu (n:=s.calls - 1) (by omega) (by omega)
 unfold N3 Fi Fh Fg Ox Ow Ov O6 msL D9 Mt
 unfold mB at st ⊢
 simp only [Cod.F,Blk.F,stp] at hb st ⊢
 cases fa <;> cases fd <;> cases fo <;> cases n <;> (
  simp only [dA,dR,oA,oR,aR,nB,nE,D9,mB,Nat.reduceAdd,List.cons_append,List.nil_append,List.append_nil]
  simp -implicitDefEqProofs only [st,hb,hc,eq_true hk,eq_true ha,XP,seval]
  exact ⟨_,rfl⟩)
theorem EO (R:RunT T) (hi:i < c.blocks.length) (h:1≤s.steps) (hs:s.steps≤20000) (hk:c.blocks[i].e.kind=3) (ha:0≤c.blocks[i].e.a∧c.blocks[i].e.a < r.length) (h1:0≤s.calls) (h2:s.calls≤40):∃ t1,evP ⟨A0,T,A4⟩ (.code N3 (O6 fa fd fo n r (i:Int)) (msL fa fd fo n m s a c r tch))=some (.ok .ret [(6,.int .i64 (at' r c.blocks[i].e.a))] ⟨D9 fa fd fo n m { stp s with calls:=s.calls - 1 } a,nE fa fd fo,t1⟩):=by
 have st:=fun d o rest ext tch=>f8 (T:=T) (m:=m) (s:=s) (d:=d) (o:=o) (rest:=rest) (ext:=ext) (tch:=tch) R.hS h hs
 have hb:=B4 (F:=Blk.F) hi
 have hc:=Hu (n:=s.calls - 1) (by omega) (by omega)
 obtain ⟨d,hd,hd2⟩:∃ d:Nat,c.blocks[i].e.a=d∧d < r.length:=⟨c.blocks[i].e.a.toNat,by omega,by omega⟩
 have ha2:((d:Int) < 0)=False:=eq_false (by omega)
 simp only [at',hd,Int.toNat_natCast,gD hd2]
 unfold N3 Fi Fh Fg Ox Ow Ov O6 msL D9 Mt
 unfold mB at st ⊢
 simp only [Cod.F,Blk.F,stp] at hb st ⊢
 cases fa <;> cases fd <;> cases fo <;> cases n <;> (
  simp only [dA,dR,oA,oR,aR,nB,nE,D9,mB,Nat.reduceAdd,List.cons_append,List.nil_append,List.append_nil]
  simp -implicitDefEqProofs only [st,hb,hc,eq_true hk,hd,ha2,A8 hd2,hd2,XP,seval]
  exact ⟨_,rfl⟩)
theorem EP (R:RunT T) (hi:i < c.blocks.length) (h:1≤s.steps) (hs:s.steps≤20000) (hk:c.blocks[i].e.kind=2) (ha:0≤c.blocks[i].e.a∧c.blocks[i].e.a < r.length) (hv:at' r c.blocks[i].e.a=0):∃ t1,evP ⟨A0,T,A4⟩ (.code N3 (O6 fa fd fo n r (i:Int)) (msL fa fd fo n m s a c r tch))=some (.ok .normal (O6 fa fd fo n r c.blocks[i].e.els) (msL fa fd fo n m (stp s) a c r t1)):=by
 have st:=fun d o rest ext tch=>f8 (T:=T) (m:=m) (s:=s) (d:=d) (o:=o) (rest:=rest) (ext:=ext) (tch:=tch) R.hS h hs
 have hb:=B4 (F:=Blk.F) hi
 obtain ⟨d,hd,hd2⟩:∃ d:Nat,c.blocks[i].e.a=d∧d < r.length:=⟨c.blocks[i].e.a.toNat,by omega,by omega⟩
 simp only [at',hd,Int.toNat_natCast,gD hd2] at hv
 unfold N3 Fi Fh Fg Ox Ow Ov O6 msL D9 Mt
 unfold mB at st ⊢
 simp only [Cod.F,Blk.F,stp] at hb st ⊢
 cases fa <;> cases fd <;> cases fo <;> cases n <;> (
  simp only [dA,dR,oA,oR,aR,nB,nE,D9,mB,Nat.reduceAdd,List.cons_append,List.nil_append,List.append_nil]
  simp -implicitDefEqProofs only [st,hb,eq_true hk,eq_false (show ¬ c.blocks[i].e.kind=3 by omega),hd,A8 hd2,hd2,hv,XP,seval]
  exact ⟨_,rfl⟩)
theorem EQ (R:RunT T) (hi:i < c.blocks.length) (h:1≤s.steps) (hs:s.steps≤20000) (hk:c.blocks[i].e.kind=2) (ha:0≤c.blocks[i].e.a∧c.blocks[i].e.a < r.length) (hv:¬ at' r c.blocks[i].e.a=0):∃ t1,evP ⟨A0,T,A4⟩ (.code N3 (O6 fa fd fo n r (i:Int)) (msL fa fd fo n m s a c r tch))=some (.ok .normal (O6 fa fd fo n r c.blocks[i].e.to) (msL fa fd fo n m (stp s) a c r t1)):=by
 have st:=fun d o rest ext tch=>f8 (T:=T) (m:=m) (s:=s) (d:=d) (o:=o) (rest:=rest) (ext:=ext) (tch:=tch) R.hS h hs
 have hb:=B4 (F:=Blk.F) hi
 obtain ⟨d,hd,hd2⟩:∃ d:Nat,c.blocks[i].e.a=d∧d < r.length:=⟨c.blocks[i].e.a.toNat,by omega,by omega⟩
 simp only [at',hd,Int.toNat_natCast,gD hd2] at hv
 unfold N3 Fi Fh Fg Ox Ow Ov O6 msL D9 Mt
 unfold mB at st ⊢
 simp only [Cod.F,Blk.F,stp] at hb st ⊢
 cases fa <;> cases fd <;> cases fo <;> cases n <;> (
  simp only [dA,dR,oA,oR,aR,nB,nE,D9,mB,Nat.reduceAdd,List.cons_append,List.nil_append,List.append_nil]
  simp -implicitDefEqProofs only [st,hb,eq_true hk,eq_false (show ¬ c.blocks[i].e.kind=3 by omega),hd,A8 hd2,hd2,eq_false hv,XP,seval]
  exact ⟨_,rfl⟩)
theorem ER (R:RunT T) (hi:i < c.blocks.length) (h:1≤s.steps) (hs:s.steps≤20000) (hk:c.blocks[i].e.kind=1):∃ t1,evP ⟨A0,T,A4⟩ (.code N3 (O6 fa fd fo n r (i:Int)) (msL fa fd fo n m s a c r tch))=some (.ok .normal (O6 fa fd fo n r c.blocks[i].e.to) (msL fa fd fo n m (stp s) a c r t1)):=by
 have st:=fun d o rest ext tch=>f8 (T:=T) (m:=m) (s:=s) (d:=d) (o:=o) (rest:=rest) (ext:=ext) (tch:=tch) R.hS h hs
 have hb:=B4 (F:=Blk.F) hi
 unfold N3 Fi Fh Fg Ox Ow Ov O6 msL D9 Mt
 unfold mB at st ⊢
 simp only [Cod.F,Blk.F,stp] at hb st ⊢
 cases fa <;> cases fd <;> cases fo <;> cases n <;> (
  simp only [dA,dR,oA,oR,aR,nB,nE,D9,mB,Nat.reduceAdd,List.cons_append,List.nil_append,List.append_nil]
  simp -implicitDefEqProofs only [st,hb,eq_false (show ¬ c.blocks[i].e.kind=3 by omega),eq_false (show ¬ c.blocks[i].e.kind=2 by omega),XP,seval]
  exact ⟨_,rfl⟩)
end
end Go.Proofs.AmEnv
set_option maxRecDepth 100000
namespace Go.Proofs.AmEnv
open Go Go.AM
variable {T:Nat->Option (List AV->Option (List AV))}
inductive I2 where
 | go (r:List Int) (s:Mst)
 | stop (st c:Int) (s:Mst)
def insF (m:Modl) (C:Int->List Int->Mst->Rs):List Ins->List Int->Mst->I2
 | [],r,s=>.go r s
 | x :: l,r,s=>if s.steps < 1 then .stop 3 0 s else if x.op=9 then (match C x.n (argsI x r) (stp s) with
     | .ret v s2=>insF m C l (if 0≤x.dst then put' r x.dst v else r) s2
     | .stop st c s2=>.stop st c s2)
  else if (doesI m x r (stp s)).1=0 then insF m C l (doesI m x r (stp s)).2.2 (doesI m x r (stp s)).2.1 else .stop 2 (doesI m x r (stp s)).1 (stp s)
def blkAt (c:Cod) (i:Int):Blk:=c.blocks.getD i.toNat ⟨[],⟨0,0,0,0⟩⟩
def I7 (m:Modl) (C:Int->List Int->Mst->Rs) (c:Cod):Nat->Int->List Int->Mst->Rs
 | 0,_,_,s=>.stop 3 0 s
 | n + 1,i,r,s=>match insF m C (blkAt c i).code r s with
  | .stop st e s=>.stop st e s
  | .go r s=>if s.steps < 1 then .stop 3 0 s
   else if (blkAt c i).e.kind=3 then .ret (if (blkAt c i).e.a < 0 then 0 else at' r (blkAt c i).e.a) { stp s with calls:=s.calls - 1 }
   else I7 m C c n (if (blkAt c i).e.kind=2∧at' r (blkAt c i).e.a=0 then (blkAt c i).e.els else (blkAt c i).e.to) r (stp s)
def Es (m:Modl) (f:Int):Cod:=m.fs.getD f.toNat ⟨[],0,0,[],[]⟩
def initR (n:Nat) (a:List Int):List Int:=a.take n ++ List.replicate (n - a.length) 0
def I8 (m:Modl):Nat->Int->List Int->Mst->Rs
 | 0,_,_,s=>.stop 2 4 s
 | d + 1,f,a,s=>if 32≤s.calls then .stop 2 4 s
  else I7 m (I8 m d) (Es m f) (s.steps.toNat + 1) 0 (initR (Es m f).regs.length a) { s with calls:=s.calls + 1 }
def a8 (m:Modl) (d:List (List Int)):Prop:=d.length=m.gs.length∧∀ (i:Nat) l g,d[i]?=some l->m.gs[i]?=some g->(l.length:Int)=max g.size 1
structure Sok (m:Modl) (s:Mst):Prop where
 d:a8 m s.data
 st:s.steps≤20000
 ou:s.out.length + s.steps.toNat≤30000
 ca:0≤s.calls∧s.calls≤33
structure InsR (m:Modl) (nr:Nat) (x:Ins):Prop where
 op:1≤x.op∧x.op≤11
 dst:x.op=1∨x.op=2∨x.op=3∨x.op=4∨x.op=5∨x.op=7∨x.op=10->0≤x.dst∧x.dst < nr
 a:x.op=2∨x.op=3∨x.op=4∨x.op=5∨x.op=6∨x.op=8∨x.op=11->0≤x.a∧x.a < nr
 b:x.op=3∨x.op=6->0≤x.b∧x.b < nr
 n:x.op=5∨x.op=6∨x.op=7∨x.op=8->0≤x.n∧x.n < m.gs.length
 c:x.op=9->(0≤x.n∧x.n < m.fs.length)∧(∀ y∈x.args,0≤y∧y < nr)∧x.args.length≤100000∧x.dst < nr
structure EndR (nb nr:Nat) (e:Endd):Prop where
 k:1≤e.kind∧e.kind≤3
 a3:e.kind=3->e.a < nr
 a2:e.kind=2->0≤e.a∧e.a < nr
 to:e.kind ≠ 3->0≤e.to∧e.to < nb
 els:e.kind=2->0≤e.els∧e.els < nb
structure CodR (m:Modl) (c:Cod):Prop where
 nb:1≤c.blocks.length
 b:∀ b∈c.blocks,b.code.length≤2000000000000∧(∀ x∈b.code,InsR m c.regs.length x)∧EndR c.blocks.length c.regs.length b.e
 nr:c.regs.length≤100000
structure ModR' (m:Modl):Prop where
 f:∀ c∈m.fs,CodR m c
theorem Sok.stp {m:Modl} {s:Mst} (h:Sok m s) (h1:1≤s.steps):Sok m (stp s)∧(stp s).out.length + (stp s).steps.toNat + 1≤30000:=by
 have:=h.ou; have:=h.st
 refine ⟨⟨h.d,?_,?_,h.ca⟩,?_⟩ <;> simp only [AmEnv.stp] <;> omega
theorem InsR.ok {m:Modl} {s:Mst} {x:Ins} {r:List Int} (h:InsR m r.length x) (hs:a8 m s.data):InsOk m x r s:=⟨h.dst,h.a,h.b,h.n,hs⟩
theorem put_len (l:List Int) (i v:Int):(put' l i v).length=l.length:=by simp [put']
theorem a8.set {m:Modl} {d:List (List Int)} (h:a8 m d) (i:Nat) (j v:Int):a8 m (d.set i (put' (d.getD i []) j v)):=by
 refine ⟨by simp [h.1],fun k l g hk hg=>?_⟩
 rw [List.getElem?_set] at hk
 split at hk
 . rename_i e; subst e
   split at hk
   . rename_i hl
     cases hk
     rw [put_len]
     exact h.2 i _ g (by simp [hl]) hg
   . cases hk
 . exact h.2 k l g hk hg
theorem kF {m:Modl} {s:Mst} {x:Ins} {r:List Int} (hd:a8 m s.data):a8 m (doesI m x r s).2.1.data∧(doesI m x r s).2.1.steps=s.steps∧(doesI m x r s).2.1.calls=s.calls∧(doesI m x r s).2.1.out.length≤s.out.length + 1∧(doesI m x r s).2.2.length=r.length∧(x.op ≠ 11->(doesI m x r s).2.1.out=s.out):=by
 unfold doesI
 repeat' split
 all_goals first
  | exact ⟨hd,rfl,rfl,Nat.le_succ _,by first | rfl | exact put_len _ _ _,fun _=>rfl⟩
  | exact ⟨hd.set _ _ _,rfl,rfl,Nat.le_succ _,rfl,fun _=>rfl⟩
  | exact ⟨hd,rfl,rfl,by simp,rfl,fun h=>absurd (by assumption) h⟩
end Go.Proofs.AmEnv
set_option maxRecDepth 100000
namespace Go.Proofs.AmEnv
open Go Go.AM
variable {T:Nat->Option (List AV->Option (List AV))}
def kG (m:Modl) (cl:Int) (f:Int) (a:List Int) (s:Mst):Prop:=(0≤f∧f < m.fs.length)∧Sok m s∧s.calls=cl
def oH (m:Modl) (cl:Int) (C:Int->List Int->Mst->Rs):Prop:=∀ f a s,kG m cl f a s->Sok m (C f a s).st∧(C f a s).st.steps≤s.steps∧∀ v s',C f a s=.ret v s'->s'.calls=s.calls
theorem Ct {P:PE} {c:PC} {fr:PF} {K K':PK} {v:AV} (h:evP P (.code c fr K)=some (.pan v K')):evP P (.code (.loop c) fr K)=some (.pan v K'):=by rw [Xw,h]; rfl
theorem fY {fa fd fo n:Bool} {r r2:List Int} {at0:Int} (h:r2.length=r.length):O6 fa fd fo n r2 at0=O6 fa fd fo n r at0:=by unfold O6; rw [h]
theorem a8.nil {m:Modl} {s:Mst} (h:a8 m s.data) (hg:m.gs=[]):s.data=[]:=List.length_eq_zero_iff.1 (by rw [h.1,hg]; rfl)
def I2.st:I2->Mst | .go _ s=>s | .stop _ _ s=>s
section
variable {m:Modl} {C:Int->List Int->Mst->Rs} {fa fd fo:Bool} {a:List Int} {c:Cod} {l:List Ins} {at0 cl:Int} {nr:Nat}
def QY (fa fd fo:Bool) (m:Modl) (a:List Int) (c:Cod) (l:List Ins) (at0:Int) (y:I2) (n2:Bool) (t1:List Nat):PR:=match y with
 | .go r2 s2=>.ok (.exit 2) ((49,.bool false) :: (O6 fa fd fo n2 r2 at0 ++ frI l l.length)) (msL fa fd fo n2 m s2 a c r2 t1)
 | .stop st e s2=>.pan (D3 st e) ⟨D9 fa fd fo n2 m s2 a,nE fa fd fo,t1⟩
structure InE (m:Modl) (nr:Nat) (s:Mst) (y:I2):Prop where
 ok:Sok m y.st
 st:y.st.steps≤s.steps
 go:∀ r2 s2,y=.go r2 s2->r2.length=nr∧s2.calls=s.calls
theorem InE.of {s s1:Mst} {y:I2} (h:InE m nr s1 y) (h1:s1.steps≤s.steps) (h2:s1.calls=s.calls):InE m nr s y:=⟨h.ok,Int.le_trans h.st h1,fun r2 s2 e=>⟨(h.go r2 s2 e).1,(h.go r2 s2 e).2.trans h2⟩⟩
theorem wZ (R:RunT T) (hc:oD T m C (kG m cl)) (hp:oH m cl C) (hl:l.length≤2000000000000) (hx:∀ x∈l,InsR m nr x) (hd0:fd=false->m.gs=[]) :
 ∀ (j k:Nat) (n:Bool) (r:List Int) (s:Mst) (tch:List Nat),l.length=k + j->r.length=nr->Sok m s->s.calls=cl->(fo=false->n=false->s.out=[]) ->
   InE m nr s (insF m C (l.drop k) r s)∧∃ n2 t1,evP ⟨A0,T,A4⟩ (.code (.loop U9) (O6 fa fd fo n r at0 ++ frI l k) (msL fa fd fo n m s a c r tch))=some (QY fa fd fo m a c l at0 (insF m C (l.drop k) r s) n2 t1)∧(fo=false->n2=false->(insF m C (l.drop k) r s).st.out=[])
 | 0,k,n,r,s,tch,e,hr,hs,hcl,ho=>by
  obtain rfl:k=l.length:=by omega
  rw [List.drop_length]
  exact ⟨⟨hs,Int.le_refl _,fun _ _ e=>by cases e; exact ⟨hr,rfl⟩⟩,n,tch,H6 NN,ho⟩
 | j + 1,k,n,r,s,tch,e,hr,hs,hcl,ho=>by
  have hk:k < l.length:=by omega
  have hxk:InsR m r.length l[k]:=hr ▸ hx _ (List.getElem_mem hk)
  rw [List.drop_eq_getElem_cons hk,insF]
  by_cases h1:s.steps < 1
  . rw [if_pos h1]
    obtain ⟨t1,h⟩:=EF (T:=T) (m:=m) (s:=s) (fa:=fa) (fd:=fd) (fo:=fo) (n:=n) (r:=r) (a:=a) (c:=c) (at0:=at0) (tch:=tch) R hk hl (by omega)
    exact ⟨⟨hs,Int.le_refl _,fun _ _ e=>by cases e⟩,n,t1,Ct h,ho⟩
  . rw [if_neg h1]
    have hs1:=hs.stp (by omega)
    have hst:(stp s).steps≤s.steps:=by simp only [stp]; omega
    have hfo:(fo || n)=false->(stp s).out=[]:=fun e=>by
     rw [Bool.or_eq_false_iff] at e; exact ho e.1 e.2
    by_cases h9:l[k].op=9
    . rw [if_pos h9]
      obtain ⟨hn,hy,hal,hdst⟩:=hxk.c h9
      have hpr:kG m cl l[k].n (argsI l[k] r) (stp s):=⟨hn,hs1.1,hcl⟩
      obtain ⟨p1,p2,p3⟩:=hp _ _ _ hpr
      obtain ⟨n',t0,q1,q2⟩:=hc (neE (argsI l[k] r)) fd (fo || n) l[k].n (argsI l[k] r) (stp s) hpr (fun e=>by
       revert e; cases argsI l[k] r with | nil=>intro _; rfl | cons _ _=>intro e; cases e) (fun e=>hs1.1.d.nil (hd0 e)) hfo
      have hq:fo=false->(n || n')=false->(C l[k].n (argsI l[k] r) (stp s)).st.out=[]:=fun e1 e2=>by
       rw [Bool.or_eq_false_iff] at e2; exact q1 (by rw [e1,e2.1]; rfl) e2.2
      cases hC:C l[k].n (argsI l[k] r) (stp s) with
      | stop z e s2 =>
       rw [hC] at p1 p2 q1 q2 hq
       obtain ⟨t2,b⟩:=EL R hy hal q2
       obtain ⟨t3,b⟩:=oF (fa:=fa) (a:=a) (c:=c) (at0:=at0) (tch:=tch) R hk hl (by omega) hs.st h9 b
       exact ⟨⟨p1,Int.le_trans p2 hst,fun _ _ e=>by cases e⟩,n || n',t3,Ct b,hq⟩
      | ret v s2 =>
       rw [hC] at p1 p2 q1 q2 hq
       have p3:=p3 v s2 hC
       have fin:∀ (r2:List Int),r2.length=r.length->(∃ t1,evP ⟨A0,T,A4⟩ (.body 41 [.ptr 0 0 0,l[k].F,.msl 1 0 r.length 1] ⟨D9 true fd (fo || n) false m (stp s) r,nE true fd (fo || n),[]⟩)=some (.val [] ⟨D9 true fd (fo || n) n' m s2 r2,nE true fd (fo || n),t1⟩)) ->
        InE m nr s (insF m C (l.drop (k + 1)) r2 s2)∧∃ n2 t1,evP ⟨A0,T,A4⟩ (.code (.loop U9) (O6 fa fd fo n r at0 ++ frI l k) (msL fa fd fo n m s a c r tch))=some (QY fa fd fo m a c l at0 (insF m C (l.drop (k + 1)) r2 s2) n2 t1)∧(fo=false->n2=false->(insF m C (l.drop (k + 1)) r2 s2).st.out=[]):=by
        intro r2 hr2 ⟨t1,b⟩
        obtain ⟨t3,b⟩:=rU (fa:=fa) (a:=a) (c:=c) (at0:=at0) (tch:=tch) R hk hl (by omega) hs.st h9 b
        obtain ⟨g1,n2,t4,g2,g3⟩:=wZ R hc hp hl hx hd0 j (k + 1) (n || n') r2 s2 t3 (by omega) (hr2.trans hr) p1 (p3.trans hcl) hq
        refine ⟨g1.of (Int.le_trans p2 hst) p3,n2,t4,?_,g3⟩
        rw [G6 b,← fY hr2]; exact g2
       by_cases hdd:0≤l[k].dst
       . simp only [if_pos hdd]
         exact fin _ (put_len _ _ _) (EJ R hy hal hdd hdst q2)
       . simp only [if_neg hdd]
         exact fin _ rfl (EK R hy hal hdd q2)
    . rw [if_neg h9]
      have hop:1≤l[k].op∧l[k].op≤11∧l[k].op ≠ 9:=⟨hxk.op.1,hxk.op.2,h9⟩
      have hio:=hxk.ok hs1.1.d
      obtain ⟨k1,k2,k3,k4,k5,k6⟩:=kF (x:=l[k]) (r:=r) hs1.1.d
      have hol:s.out.length≤30000:=by have:=hs.ou; omega
      by_cases hv:(doesI m l[k] r (stp s)).1=0
      . rw [if_pos hv]
        obtain ⟨t3,b⟩:=EG (T:=T) (fa:=fa) (fd:=fd) (fo:=fo) (n:=n) (n':=decide (l[k].op=11)) (a:=a) (c:=c) (at0:=at0) (tch:=tch) R hk hl (by omega) hs.st hop hio (fun e=>hs1.1.d.nil (hd0 e)) ho hol rfl hv
        have hs2:Sok m (doesI m l[k] r (stp s)).2.1:=⟨k1,by rw [k2]; exact hs1.1.st,by rw [k2]; have:=hs1.2; omega,by rw [k3]; exact hs1.1.ca⟩
        obtain ⟨g1,n2,t4,g2,g3⟩:=wZ R hc hp hl hx hd0 j (k + 1) (n || decide (l[k].op=11)) _ _ t3 (by omega) (k5.trans hr) hs2 (k3.trans hcl) (fun e1 e2=>by
         rw [Bool.or_eq_false_iff] at e2
         rw [k6 (of_decide_eq_false e2.2)]; exact ho e1 e2.1)
        refine ⟨g1.of (by rw [k2]; exact hst) k3,n2,t4,?_,g3⟩
        rw [G6 b,← fY k5]; exact g2
      . rw [if_neg hv]
        obtain ⟨t3,b⟩:=wX (T:=T) (fa:=fa) (fd:=fd) (fo:=fo) (n:=n) (a:=a) (c:=c) (at0:=at0) (tch:=tch) R hk hl (by omega) hs.st hop hio (fun e=>hs1.1.d.nil (hd0 e)) ho hol hv
        exact ⟨⟨hs1.1,hst,fun _ _ e=>by cases e⟩,n,t3,Ct b,fun e1 e2=>ho e1 e2⟩
end
end Go.Proofs.AmEnv
set_option maxRecDepth 100000
namespace Go.Proofs.AmEnv
open Go Go.AM
variable {T:Nat->Option (List AV->Option (List AV))}
def zE (e:Nat) (l:List Nat):List Nat:=l.filter fun x=>decide (x < e)
theorem Wx (e:Nat) (l:List Nat):l.filter (fun x=>decide (x < e))=zE e l:=rfl
section
variable {m:Modl} {s s2 s3:Mst} {fa fd fo n n2:Bool} {r r2 a:List Int} {c:Cod} {i:Nat} {tch t1:List Nat} {F:List Nat->List Nat} {j:Int}
set_option maxHeartbeats 16000000 in
theorem NO (hi:i < c.blocks.length) (hin:evP ⟨A0,T,A4⟩ (.code (.loop U9) (O6 fa fd fo n r (i:Int) ++ frI c.blocks[i].code 0) (msL fa fd fo n m s a c r (zE (nE fa fd fo) tch)))=some (.ok (.exit 2) ((49,.bool false) :: (O6 fa fd fo n2 r2 (i:Int) ++ frI c.blocks[i].code c.blocks[i].code.length)) (msL fa fd fo n2 m s2 a c r2 t1))) (hF:∀ t,evP ⟨A0,T,A4⟩ (.code N3 (O6 fa fd fo n2 r2 (i:Int)) (msL fa fd fo n2 m s2 a c r2 t))=some (.ok .normal (O6 fa fd fo n2 r2 j) (msL fa fd fo n2 m s3 a c r2 (F t)))):∃ t',evP ⟨A0,T,A4⟩ (.code j5 (O6 fa fd fo n r (i:Int)) (msL fa fd fo n m s a c r tch))=some (.ok .normal (O6 fa fd fo n2 r2 j) (msL fa fd fo n2 m s3 a c r2 t')):=by
 have hb:=B4 (F:=Blk.F) hi
 unfold j5 Zp
 unfold O6 frI msL D9 Mt at hin
 unfold O6 msL D9 Mt at hF ⊢
 unfold mB at hin hF ⊢
 simp only [Cod.F,Blk.F] at hb hin hF ⊢
 cases fa <;> cases fd <;> cases fo <;> cases n <;> cases n2 <;> (
  simp only [dA,dR,oA,oR,aR,nB,nE,Nat.reduceAdd,List.cons_append,List.nil_append,List.append_nil,show ((0:Nat):Int)=0 from rfl] at hin hF ⊢
  simp -implicitDefEqProofs only [hb,hin,hF,Wx,List.length_map,XP,Nat.reduceAdd,Nat.reduceSub,Nat.reduceLT,Nat.reduceLeDiff,Nat.reduceEqDiff,Nat.reduceMul,↓reduceIte]
  exact ⟨_,rfl⟩)
set_option maxHeartbeats 16000000 in
theorem NP {v:Int} (hi:i < c.blocks.length) (hin:evP ⟨A0,T,A4⟩ (.code (.loop U9) (O6 fa fd fo n r (i:Int) ++ frI c.blocks[i].code 0) (msL fa fd fo n m s a c r (zE (nE fa fd fo) tch)))=some (.ok (.exit 2) ((49,.bool false) :: (O6 fa fd fo n2 r2 (i:Int) ++ frI c.blocks[i].code c.blocks[i].code.length)) (msL fa fd fo n2 m s2 a c r2 t1))) (hF:∀ t,evP ⟨A0,T,A4⟩ (.code N3 (O6 fa fd fo n2 r2 (i:Int)) (msL fa fd fo n2 m s2 a c r2 t))=some (.ok .ret [(6,.int .i64 v)] ⟨D9 fa fd fo n2 m s3 a,nE fa fd fo,F t⟩)):∃ t',evP ⟨A0,T,A4⟩ (.code j5 (O6 fa fd fo n r (i:Int)) (msL fa fd fo n m s a c r tch))=some (.ok .ret [(6,.int .i64 v)] ⟨D9 fa fd fo n2 m s3 a,nE fa fd fo,t'⟩):=by
 have hb:=B4 (F:=Blk.F) hi
 unfold j5 Zp
 unfold O6 frI msL D9 Mt at hin
 unfold O6 msL D9 Mt at hF ⊢
 unfold mB at hin hF ⊢
 simp only [Cod.F,Blk.F] at hb hin hF ⊢
 cases fa <;> cases fd <;> cases fo <;> cases n <;> cases n2 <;> (
  simp only [dA,dR,oA,oR,aR,nB,nE,Nat.reduceAdd,List.cons_append,List.nil_append,List.append_nil,show ((0:Nat):Int)=0 from rfl] at hin hF ⊢
  simp -implicitDefEqProofs only [hb,hin,hF,Wx,List.length_map,XP,Nat.reduceAdd,Nat.reduceSub,Nat.reduceLT,Nat.reduceLeDiff,Nat.reduceEqDiff,Nat.reduceMul,↓reduceIte]
  exact ⟨_,rfl⟩)
set_option maxHeartbeats 16000000 in
theorem NQ {z e:Int} (hi:i < c.blocks.length) (hin:evP ⟨A0,T,A4⟩ (.code (.loop U9) (O6 fa fd fo n r (i:Int) ++ frI c.blocks[i].code 0) (msL fa fd fo n m s a c r (zE (nE fa fd fo) tch)))=some (.ok (.exit 2) ((49,.bool false) :: (O6 fa fd fo n2 r2 (i:Int) ++ frI c.blocks[i].code c.blocks[i].code.length)) (msL fa fd fo n2 m s2 a c r2 t1))) (hF:∀ t,evP ⟨A0,T,A4⟩ (.code N3 (O6 fa fd fo n2 r2 (i:Int)) (msL fa fd fo n2 m s2 a c r2 t))=some (.pan (D3 z e) ⟨D9 fa fd fo n2 m s2 a ++ [Mt c,.row 0 (ints r2) 1],nE fa fd fo,F t⟩)):∃ t',evP ⟨A0,T,A4⟩ (.code j5 (O6 fa fd fo n r (i:Int)) (msL fa fd fo n m s a c r tch))=some (.pan (D3 z e) ⟨D9 fa fd fo n2 m s2 a,nE fa fd fo,t'⟩):=by
 have hb:=B4 (F:=Blk.F) hi
 unfold D3 at hF ⊢
 unfold j5 Zp
 unfold O6 frI msL D9 Mt at hin
 unfold O6 msL D9 Mt at hF ⊢
 unfold mB at hin hF ⊢
 simp only [Cod.F,Blk.F] at hb hin hF ⊢
 cases fa <;> cases fd <;> cases fo <;> cases n <;> cases n2 <;> (
  simp only [dA,dR,oA,oR,aR,nB,nE,Nat.reduceAdd,List.cons_append,List.nil_append,List.append_nil,show ((0:Nat):Int)=0 from rfl] at hin hF ⊢
  simp -implicitDefEqProofs only [hb,hin,hF,Wx,Tp,Tq,List.length_map,XP,Nat.reduceAdd,Nat.reduceSub,Nat.reduceLT,Nat.reduceLeDiff,Nat.reduceEqDiff,Nat.reduceMul,↓reduceIte]
  exact ⟨_,rfl⟩)
set_option maxHeartbeats 16000000 in
theorem NR {z e:Int} (hi:i < c.blocks.length) (hin:evP ⟨A0,T,A4⟩ (.code (.loop U9) (O6 fa fd fo n r (i:Int) ++ frI c.blocks[i].code 0) (msL fa fd fo n m s a c r (zE (nE fa fd fo) tch)))=some (.pan (D3 z e) ⟨D9 fa fd fo n2 m s2 a,nE fa fd fo,t1⟩)):∃ t',evP ⟨A0,T,A4⟩ (.code j5 (O6 fa fd fo n r (i:Int)) (msL fa fd fo n m s a c r tch))=some (.pan (D3 z e) ⟨D9 fa fd fo n2 m s2 a,nE fa fd fo,t'⟩):=by
 have hb:=B4 (F:=Blk.F) hi
 unfold D3 at hin ⊢
 unfold j5 Zp
 unfold O6 frI msL D9 Mt at hin
 unfold O6 msL D9 Mt at ⊢
 unfold mB at hin ⊢
 simp only [Cod.F,Blk.F] at hb hin ⊢
 cases fa <;> cases fd <;> cases fo <;> cases n <;> cases n2 <;> (
  simp only [dA,dR,oA,oR,aR,nB,nE,Nat.reduceAdd,List.cons_append,List.nil_append,List.append_nil,show ((0:Nat):Int)=0 from rfl] at hin ⊢
  simp -implicitDefEqProofs only [hb,hin,Wx,Tp,Tq,List.length_map,XP,Nat.reduceAdd,Nat.reduceSub,Nat.reduceLT,Nat.reduceLeDiff,Nat.reduceEqDiff,Nat.reduceMul,↓reduceIte]
  exact ⟨_,rfl⟩)
end
end Go.Proofs.AmEnv
set_option maxRecDepth 100000
namespace Go.Proofs.AmEnv
open Go Go.AM
variable {T:Nat->Option (List AV->Option (List AV))}
theorem Wy (l c:Operand) (fr:PF) (K:PK):prim A0 (.makeSlice 26 l c) fr K=Tz A0 Ea (opvP A0 l fr) (opvP A0 c fr) K:=rfl
theorem IK {k k':IntKind} {n:Nat} {K:PK} (h:n * 8≤140737488355328):Tz A0 Ea (.int k (n:Int)) (.int k' (n:Int)) K=.val (.msl K.os.length 0 n 1) ⟨K.os ++ [.row 0 (ints (List.replicate n 0)) 1],K.ext,K.tch⟩:=by
 have e:ints (List.replicate n 0)=List.replicate n (AV.int .i64 0):=by simp [ints]
 rw [e]
 show (match some ty3,some n,some n with | some te,some n,some m=>(if n≤m∧m * te.bytes≤140737488355328∧0 < te.size then OpS.val (.msl K.os.length 0 n te.size) (AM.newRow 0 (List.replicate n te.zero) te.size K) else .bad) | _,_,_=>.bad)=_
 exact if_pos ⟨Nat.le_refl _,h,by decide⟩
theorem oI {os:List PO} {id N ext:Nat} {tch:List Nat} {x:AV} {a:List Int} {os2:List PO} (hr:os[id]?=some (.row 0 (ints (List.replicate N 0)) 1)) (hx:takeE ty3 x ext [] os=some (ints a,os2)) :
 E0 A0 .copy [26,26] [.msl id 0 N 1,x] ⟨os,ext,tch⟩=some (.int .i64 (Int.ofNat (min N a.length)),⟨os.set id (.row 0 (ints (initR N a)) 1),ext,id :: tch⟩):=by
 show (match takeE ty3 x ext [] os with | some q=>gT 1 id 0 N q.1 ⟨os,ext,tch⟩ | none=>none)=_
 rw [hx]
 show (match os[id]? with | some (.row 0 es z)=>if z=1∧0 + N≤es.length∧y4 es=true∧y4 (ints a)=true then some (AV.int .i64 (Int.ofNat (min N (ints a).length)),(⟨os.set id (.row 0 (es.take 0 ++ ((ints a).take (min N (ints a).length) ++ es.drop (0 + min N (ints a).length))) z),ext,id :: tch⟩:PK)) else none | _=>none)=_
 rw [hr]
 show (if 1=1∧_ then _ else _)=_
 rw [if_pos ⟨rfl,by simp [ints],Wh _,Wh _⟩]
 have hl:(ints a).length=a.length:=by simp [ints]
 have:(ints (List.replicate N 0)).take 0 ++ ((ints a).take (min N (ints a).length) ++ (ints (List.replicate N 0)).drop (0 + min N (ints a).length))=ints (initR N a):=by
  rw [hl]
  unfold initR ints
  rw [List.take_zero,List.nil_append,List.map_append,← List.map_take,← List.map_drop,List.drop_replicate]
  congr 1
  . congr 1
    rw [Nat.min_def]; split
    . rfl
    . rw [List.take_of_length_le (Nat.le_refl _),List.take_of_length_le (by omega)]
  . congr 2; omega
 rw [this,hl]
section
variable {m:Modl} {s s2:Mst} {fa fd fo n2:Bool} {a:List Int} {f:Nat} {t1:List Nat}
theorem uZ (R:RunT T) (h:32≤s.calls):∃ t1,evP ⟨A0,T,A4⟩ (.body 24 [.ptr 0 0 0,.int .i64 (f:Int),f9 fa 1 a] ⟨D9 fa fd fo false m s a,nE fa fd fo,[]⟩)=some (.pan (D3 2 4) ⟨D9 fa fd fo false m s a,nE fa fd fo,t1⟩):=by
 have hg:decide (s.calls ≥ 32)=true:=by simp; omega
 have tn:=fun K=>Ms (T:=T) (K:=K) R.hN (t:=4) (by decide)
 unfold D3 at tn ⊢
 rw [A7 (c:=tZ) (nt:=109) (rs:=[.tmp 6]) rfl (by simp)]; unfold tZ
 unfold Wc Wb Wa Vz Vy Vw Vv fF D9
 unfold mB
 cases fa <;> cases fd <;> cases fo <;> (
  simp only [dA,dR,oA,oR,aR,nB,nE,f9,Nat.reduceAdd,List.cons_append,List.nil_append,List.append_nil]
  simp -implicitDefEqProofs only [hg,tn,Tp,Tq,XP,seval]
  exact ⟨_,rfl⟩)
theorem ES {N:Nat} {C:PO} {tch:List Nat} (hz:fa=false->a=[]):E0 A0 .copy [26,26] [.msl (nE fa fd fo + 1) 0 N 1,f9 fa 1 a] ⟨D9 fa fd fo false m s a ++ [C,.row 0 (ints (List.replicate N 0)) 1],nE fa fd fo,tch⟩=some (.int .i64 (Int.ofNat (min N a.length)),⟨D9 fa fd fo false m s a ++ [C,.row 0 (ints (initR N a)) 1],nE fa fd fo,(nE fa fd fo + 1) :: tch⟩):=by
 cases fa with
 | false =>
  rw [hz rfl]
  rw [oI (a:=[]) (os2:=D9 false fd fo false m s [] ++ [C,.row 0 (ints (List.replicate N 0)) 1]) (by cases fd <;> cases fo <;> rfl) (by cases fd <;> cases fo <;> rfl)]
  cases fd <;> cases fo <;> rfl
 | true =>
  rw [oI (a:=a) (os2:=D9 true fd fo false m s a ++ [C,.row 0 (ints (List.replicate N 0)) 1]) (by cases fd <;> cases fo <;> rfl) ?_]
  . cases fd <;> cases fo <;> rfl
  . unfold D9 f9 aR
    have hl:(ints a).length=a.length:=by simp [ints]
    cases fd <;> cases fo <;> (
     simp only [dA,dR,oA,oR,nB,Nat.reduceAdd,List.cons_append,List.nil_append,List.append_nil]
     simp -implicitDefEqProofs only [hl,Wh,XP,seval])
def Wz (s:Mst):Mst:={ s with calls:=s.calls + 1 }
theorem Jw (n:Nat) (a:List Int):(initR n a).length=n:=by unfold initR; rw [List.length_append,List.length_take,List.length_replicate]; omega
set_option maxHeartbeats 4000000 in
theorem ET {v:Int} (h:¬ 32≤s.calls) (h0:0≤s.calls) (hf:f < m.fs.length) (hn:m.fs[f].regs.length≤100000) (hz:fa=false->a=[]) (hl:evP ⟨A0,T,A4⟩ (.code (.loop j5) (O6 fa fd fo false (initR m.fs[f].regs.length a) 0) (msL fa fd fo false m (Wz s) a m.fs[f] (initR m.fs[f].regs.length a) [0]))=some (.ok .ret [(6,.int .i64 v)] ⟨D9 fa fd fo n2 m s2 a,nE fa fd fo,t1⟩)):∃ t1,evP ⟨A0,T,A4⟩ (.body 24 [.ptr 0 0 0,.int .i64 (f:Int),f9 fa 1 a] ⟨D9 fa fd fo false m s a,nE fa fd fo,[]⟩)=some (.val [.int .i64 v] ⟨D9 fa fd fo n2 m s2 a,nE fa fd fo,t1⟩):=by
 have hg:decide (s.calls ≥ 32)=false:=by simp; omega
 have hc:=Hu (n:=s.calls + 1) (by omega) (by omega)
 have hi:=B4 (F:=Cod.F) hf
 have cp:=fun tch=>ES (m:=m) (s:=Wz s) (fd:=fd) (fo:=fo) (N:=m.fs[f].regs.length) (C:=.row 1 [m.fs[f].F] 5) (tch:=tch) hz
 have mk:=fun k k' K=>IK (k:=k) (k':=k') (n:=m.fs[f].regs.length) (K:=K) (by omega)
 have hil:=Jw m.fs[f].regs.length a
 generalize initR m.fs[f].regs.length a=r0 at cp hl hil
 unfold O6 msL Mt at hl
 rw [hil] at hl
 rw [A7 (c:=tZ) (nt:=109) (rs:=[.tmp 6]) rfl (by simp)]; unfold tZ
 unfold Wc Wb Wa Vz Vy Vw Vv fF
 unfold D9 at cp hl ⊢
 unfold mB at cp hl ⊢
 simp only [Cod.F,Wz] at hi cp hl ⊢
 cases fa <;> cases fd <;> cases fo <;> (
  simp only [dA,dR,oA,oR,aR,nB,nE,f9,Nat.reduceAdd,List.cons_append,List.nil_append,List.append_nil] at cp hl ⊢
  simp -implicitDefEqProofs only [hg,hc,hi,cp,hl,Wy,mk,List.length_map,XP,Nat.reduceAdd,Nat.reduceSub,Nat.reduceLT,Nat.reduceLeDiff,Nat.reduceEqDiff,Nat.reduceMul,↓reduceIte]
  exact ⟨_,rfl⟩)
set_option maxHeartbeats 4000000 in
theorem EU {z e:Int} (h:¬ 32≤s.calls) (h0:0≤s.calls) (hf:f < m.fs.length) (hn:m.fs[f].regs.length≤100000) (hz:fa=false->a=[]) (hl:evP ⟨A0,T,A4⟩ (.code (.loop j5) (O6 fa fd fo false (initR m.fs[f].regs.length a) 0) (msL fa fd fo false m (Wz s) a m.fs[f] (initR m.fs[f].regs.length a) [0]))=some (.pan (D3 z e) ⟨D9 fa fd fo n2 m s2 a,nE fa fd fo,t1⟩)):∃ t1,evP ⟨A0,T,A4⟩ (.body 24 [.ptr 0 0 0,.int .i64 (f:Int),f9 fa 1 a] ⟨D9 fa fd fo false m s a,nE fa fd fo,[]⟩)=some (.pan (D3 z e) ⟨D9 fa fd fo n2 m s2 a,nE fa fd fo,t1⟩):=by
 have hg:decide (s.calls ≥ 32)=false:=by simp; omega
 have hc:=Hu (n:=s.calls + 1) (by omega) (by omega)
 have hi:=B4 (F:=Cod.F) hf
 have cp:=fun tch=>ES (m:=m) (s:=Wz s) (fd:=fd) (fo:=fo) (N:=m.fs[f].regs.length) (C:=.row 1 [m.fs[f].F] 5) (tch:=tch) hz
 have mk:=fun k k' K=>IK (k:=k) (k':=k') (n:=m.fs[f].regs.length) (K:=K) (by omega)
 have hil:=Jw m.fs[f].regs.length a
 generalize initR m.fs[f].regs.length a=r0 at cp hl hil
 unfold D3 at hl ⊢
 unfold O6 msL Mt at hl
 rw [hil] at hl
 rw [A7 (c:=tZ) (nt:=109) (rs:=[.tmp 6]) rfl (by simp)]; unfold tZ
 unfold Wc Wb Wa Vz Vy Vw Vv fF
 unfold D9 at cp hl ⊢
 unfold mB at cp hl ⊢
 simp only [Cod.F,Wz] at hi cp hl ⊢
 cases fa <;> cases fd <;> cases fo <;> cases n2 <;> (
  simp only [dA,dR,oA,oR,aR,nB,nE,f9,Nat.reduceAdd,List.cons_append,List.nil_append,List.append_nil] at cp hl ⊢
  simp -implicitDefEqProofs only [hg,hc,hi,cp,hl,Wy,mk,Tp,Tq,List.length_map,XP,Nat.reduceAdd,Nat.reduceSub,Nat.reduceLT,Nat.reduceLeDiff,Nat.reduceEqDiff,Nat.reduceMul,↓reduceIte]
  exact ⟨_,rfl⟩)
end
end Go.Proofs.AmEnv
set_option maxRecDepth 100000
namespace Go.Proofs.AmEnv
open Go Go.AM
variable {T:Nat->Option (List AV->Option (List AV))}
theorem oJ {c:Cod} {i:Nat} (h:i < c.blocks.length):blkAt c (i:Int)=c.blocks[i]:=by simp [blkAt,List.getD_eq_getElem?_getD,h]
theorem oK {m:Modl} {i:Nat} (h:i < m.fs.length):Es m (i:Int)=m.fs[i]:=by simp [Es,List.getD_eq_getElem?_getD,h]
section
variable {m:Modl} {C:Int->List Int->Mst->Rs} {fa fd fo:Bool} {a:List Int} {c:Cod} {cl:Int}
def IL (fa fd fo:Bool) (m:Modl) (a:List Int) (y:Rs) (n2:Bool) (t1:List Nat):PR:=match y with
 | .ret v s2=>.ok .ret [(6,.int .i64 v)] ⟨D9 fa fd fo n2 m s2 a,nE fa fd fo,t1⟩
 | .stop st e s2=>.pan (D3 st e) ⟨D9 fa fd fo n2 m s2 a,nE fa fd fo,t1⟩
structure OutE (m:Modl) (s:Mst) (y:Rs):Prop where
 ok:Sok m y.st
 st:y.st.steps≤s.steps
 rt:∀ v s2,y=.ret v s2->s2.calls=s.calls - 1
theorem OutE.of {s s1:Mst} {y:Rs} (h:OutE m s1 y) (h1:s1.steps≤s.steps) (h2:s1.calls=s.calls):OutE m s y:=⟨h.ok,Int.le_trans h.st h1,fun v s2 e=>by rw [h.rt v s2 e,h2]⟩
theorem vA (R:RunT T) (hc:oD T m C (kG m cl)) (hp:oH m cl C) (hC:CodR m c) (hd0:fd=false->m.gs=[]) :
 ∀ (f i:Nat) (n:Bool) (r:List Int) (s:Mst) (tch:List Nat),i < c.blocks.length->r.length=c.regs.length->Sok m s->1≤s.calls->s.calls=cl->s.steps.toNat < f->(fo=false->n=false->s.out=[]) ->
   OutE m s (I7 m C c f i r s)∧∃ n2 t1,evP ⟨A0,T,A4⟩ (.code (.loop j5) (O6 fa fd fo n r (i:Int)) (msL fa fd fo n m s a c r tch))=some (IL fa fd fo m a (I7 m C c f i r s) n2 t1)∧(fo=false->n2=false->(I7 m C c f i r s).st.out=[])
 | 0,i,n,r,s,tch,hi,hr,hs,hca,hcl,hf,ho=>absurd hf (Nat.not_lt_zero _)
 | f + 1,i,n,r,s,tch,hi,hr,hs,hca,hcl,hf,ho=>by
  obtain ⟨b1,b2,b3⟩:=hC.b _ (List.getElem_mem hi)
  obtain ⟨g1,n2,t1,g2,g3⟩:=wZ (fa:=fa) (fo:=fo) (a:=a) (c:=c) (at0:=(i:Int)) R hc hp b1 b2 hd0 c.blocks[i].code.length 0 n r s (zE (nE fa fd fo) tch) (by omega) hr hs hcl ho
  rw [List.drop_zero] at g1 g2 g3
  rw [I7,oJ hi]
  cases hy:insF m C c.blocks[i].code r s with
  | stop z e s2 =>
   rw [hy] at g1 g2 g3
   obtain ⟨t2,q⟩:=NR (tch:=tch) hi g2
   exact ⟨⟨g1.ok,g1.st,fun _ _ e=>by cases e⟩,n2,t2,Ct q,g3⟩
  | go r2 s2 =>
   rw [hy] at g1 g2 g3
   obtain ⟨hr2,hc2⟩:=g1.go _ _ rfl
   have k1:Sok m s2:=g1.ok
   have k2:s2.steps≤s.steps:=g1.st
   dsimp only
   by_cases h1:s2.steps < 1
   . rw [if_pos h1]
     have K:=fun t=>EM (T:=T) (m:=m) (s:=s2) (fa:=fa) (fd:=fd) (fo:=fo) (n:=n2) (r:=r2) (a:=a) (c:=c) (tch:=t) R hi (by omega)
     obtain ⟨t2,q⟩:=NQ (tch:=tch) (F:=fun t=>(K t).choose) hi g2 (fun t=>(K t).choose_spec)
     exact ⟨⟨k1,k2,fun _ _ e=>by cases e⟩,n2,t2,Ct q,g3⟩
   . rw [if_neg h1]
     have k3:=k1.stp (by omega)
     have hst:(stp s2).steps≤s.steps:=by simp only [stp]; omega
     have hst2:(stp s2).steps.toNat < f:=by simp only [stp]; omega
     by_cases hk3:c.blocks[i].e.kind=3
     . rw [if_pos hk3]
       have fin:∀ v,(∀ t,∃ t1,evP ⟨A0,T,A4⟩ (.code N3 (O6 fa fd fo n2 r2 (i:Int)) (msL fa fd fo n2 m s2 a c r2 t))=some (.ok .ret [(6,.int .i64 v)] ⟨D9 fa fd fo n2 m { stp s2 with calls:=s2.calls - 1 } a,nE fa fd fo,t1⟩)) ->
        OutE m s (.ret v { stp s2 with calls:=s2.calls - 1 })∧∃ n3 t1,evP ⟨A0,T,A4⟩ (.code (.loop j5) (O6 fa fd fo n r (i:Int)) (msL fa fd fo n m s a c r tch))=some (IL fa fd fo m a (.ret v { stp s2 with calls:=s2.calls - 1 }) n3 t1)∧(fo=false->n3=false->(Rs.ret v { stp s2 with calls:=s2.calls - 1 }).st.out=[]):=by
        intro v K
        obtain ⟨t2,q⟩:=NP (tch:=tch) (F:=fun t=>(K t).choose) hi g2 (fun t=>(K t).choose_spec)
        have hca2:=k1.ca
        refine ⟨⟨⟨k3.1.d,k3.1.st,k3.1.ou,?_⟩,hst,fun _ _ e=>by cases e; rw [← hc2]⟩,n2,t2,z6 q,g3⟩
        show 0≤s2.calls - 1∧s2.calls - 1≤33
        omega
       by_cases ha:c.blocks[i].e.a < 0
       . rw [if_pos ha]
         exact fin 0 fun t=>EN R hi (by omega) k1.st hk3 ha k1.ca.1 (by have:=k1.ca; omega)
       . rw [if_neg ha]
         exact fin _ fun t=>EO R hi (by omega) k1.st hk3 ⟨by omega,by have:=b3.a3 hk3; omega⟩ k1.ca.1 (by have:=k1.ca; omega)
     . rw [if_neg hk3]
       have fin:∀ (j:Int),0≤j->j < c.blocks.length->(∀ t,∃ t1,evP ⟨A0,T,A4⟩ (.code N3 (O6 fa fd fo n2 r2 (i:Int)) (msL fa fd fo n2 m s2 a c r2 t))=some (.ok .normal (O6 fa fd fo n2 r2 j) (msL fa fd fo n2 m (stp s2) a c r2 t1))) ->
        OutE m s (I7 m C c f j r2 (stp s2))∧∃ n3 t1,evP ⟨A0,T,A4⟩ (.code (.loop j5) (O6 fa fd fo n r (i:Int)) (msL fa fd fo n m s a c r tch))=some (IL fa fd fo m a (I7 m C c f j r2 (stp s2)) n3 t1)∧(fo=false->n3=false->(I7 m C c f j r2 (stp s2)).st.out=[]):=by
        intro j h0 hj K
        obtain ⟨j,rfl⟩:∃ k:Nat,j=k:=⟨j.toNat,by omega⟩
        obtain ⟨t2,q⟩:=NO (tch:=tch) (F:=fun t=>(K t).choose) hi g2 (fun t=>(K t).choose_spec)
        obtain ⟨u1,n3,t3,u2,u3⟩:=vA R hc hp hC hd0 f j n2 r2 (stp s2) t2 (by omega) hr2 k3.1 (by show 1≤s2.calls; omega) (hc2.trans hcl) hst2 g3
        exact ⟨u1.of hst hc2,n3,t3,by rw [G6 q]; exact u2,u3⟩
       by_cases hk2:c.blocks[i].e.kind=2
       . obtain ⟨a1,a2⟩:=b3.a2 hk2
         by_cases hv:at' r2 c.blocks[i].e.a=0
         . rw [if_pos ⟨hk2,hv⟩]
           exact fin _ (b3.els hk2).1 (b3.els hk2).2 fun t=>EP R hi (by omega) k1.st hk2 ⟨a1,by omega⟩ hv
         . rw [if_neg (fun e=>hv e.2)]
           exact fin _ (b3.to hk3).1 (b3.to hk3).2 fun t=>EQ R hi (by omega) k1.st hk2 ⟨a1,by omega⟩ hv
       . rw [if_neg (fun e=>hk2 e.1)]
         exact fin _ (b3.to hk3).1 (b3.to hk3).2 fun t=>ER R hi (by omega) k1.st (by have:=b3.k; omega)
theorem a8.len0 {s:Mst} (h:a8 m s.data) (e:s.data=[]):m.gs=[]:=List.length_eq_zero_iff.1 (by rw [← h.1,e]; rfl)
theorem aG (R:RunT T) (hM:ModR' m):∀ (d:Nat) (cl:Int),33 - cl≤d->0≤cl->oH m cl (I8 m d)∧oD T m (I8 m d) (kG m cl)
 | 0,cl,h,h0=>by
  refine ⟨fun f a s hp=>?_,fun fa fd fo f a s hp hz hd ho=>?_⟩
  . exact ⟨hp.2.1,Int.le_refl _,fun _ _ e=>by cases e⟩
  . obtain ⟨t1,e⟩:=uZ (T:=T) (m:=m) (s:=s) (fa:=fa) (fd:=fd) (fo:=fo) (a:=a) (f:=f.toNat) R (by have:=hp.2.2; omega)
    rw [Int.toNat_of_nonneg hp.1.1] at e
    exact ⟨false,t1,fun e _=>ho e,e⟩
 | d + 1,cl,h,h0=>by
  obtain ⟨i1,i2⟩:=aG R hM d (cl + 1) (by omega) (by omega)
  have key:∀ (fa fd fo:Bool) (f:Int) (a:List Int) (s:Mst),kG m cl f a s->(fa=false->a=[])->(fd=false->s.data=[])->(fo=false->s.out=[]) ->
   (Sok m (I8 m (d + 1) f a s).st∧(I8 m (d + 1) f a s).st.steps≤s.steps∧∀ v s',I8 m (d + 1) f a s=.ret v s'->s'.calls=s.calls) ∧
   ∃ n' t1,(fo=false->n'=false->(I8 m (d + 1) f a s).st.out=[])∧evP ⟨A0,T,A4⟩ (.body 24 [.ptr 0 0 0,.int .i64 f,f9 fa 1 a] ⟨D9 fa fd fo false m s a,nE fa fd fo,[]⟩)=some (rR (I8 m (d + 1) f a s) fun s'=>⟨D9 fa fd fo n' m s' a,nE fa fd fo,t1⟩):=by
   intro fa fd fo f a s hp hz hd ho
   obtain ⟨⟨f0,f1⟩,hs,hcl⟩:=hp
   obtain ⟨f,rfl⟩:∃ k:Nat,f=k:=⟨f.toNat,by omega⟩
   have hf:f < m.fs.length:=by omega
   rw [I8]
   by_cases h32:32≤s.calls
   . rw [if_pos h32]
     obtain ⟨t1,e⟩:=uZ (T:=T) (m:=m) (s:=s) (fa:=fa) (fd:=fd) (fo:=fo) (a:=a) (f:=f) R h32
     exact ⟨⟨hs,Int.le_refl _,fun _ _ e=>by cases e⟩,false,t1,fun e _=>ho e,e⟩
   . rw [if_neg h32,oK hf]
     have hC:=hM.f _ (List.getElem_mem hf)
     have hs':Sok m (Wz s):=⟨hs.d,hs.st,hs.ou,by show 0≤s.calls + 1∧s.calls + 1≤33; have:=hs.ca; omega⟩
     obtain ⟨g1,n2,t1,g2,g3⟩:=vA (fa:=fa) (fd:=fd) (fo:=fo) (a:=a) R i2 i1 hC (fun e=>hs.d.len0 (hd e)) (s.steps.toNat + 1) 0 false (initR m.fs[f].regs.length a) (Wz s) [0] hC.nb (Jw _ _) hs' (by show 1≤s.calls + 1; have:=hs.ca; omega) (by show s.calls + 1=cl + 1; omega) (by show s.steps.toNat < s.steps.toNat + 1; omega) (fun e _=>ho e)
     have hb:=hs.ca.1
     show (Sok m (I7 m (I8 m d) m.fs[f] (s.steps.toNat + 1) 0 (initR m.fs[f].regs.length a) (Wz s)).st∧(I7 m (I8 m d) m.fs[f] (s.steps.toNat + 1) 0 (initR m.fs[f].regs.length a) (Wz s)).st.steps≤s.steps∧∀ v s',I7 m (I8 m d) m.fs[f] (s.steps.toNat + 1) 0 (initR m.fs[f].regs.length a) (Wz s)=.ret v s'->s'.calls=s.calls)∧∃ n' t1,(fo=false->n'=false->(I7 m (I8 m d) m.fs[f] (s.steps.toNat + 1) 0 (initR m.fs[f].regs.length a) (Wz s)).st.out=[])∧_=some (rR (I7 m (I8 m d) m.fs[f] (s.steps.toNat + 1) 0 (initR m.fs[f].regs.length a) (Wz s)) _)
     replace g1:OutE m (Wz s) (I7 m (I8 m d) m.fs[f] (s.steps.toNat + 1) 0 (initR m.fs[f].regs.length a) (Wz s)):=g1
     replace g3:fo=false->n2=false->(I7 m (I8 m d) m.fs[f] (s.steps.toNat + 1) 0 (initR m.fs[f].regs.length a) (Wz s)).st.out=[]:=g3
     replace g2:evP ⟨A0,T,A4⟩ (.code (.loop j5) (O6 fa fd fo false (initR m.fs[f].regs.length a) 0) (msL fa fd fo false m (Wz s) a m.fs[f] (initR m.fs[f].regs.length a) [0]))=some (IL fa fd fo m a (I7 m (I8 m d) m.fs[f] (s.steps.toNat + 1) 0 (initR m.fs[f].regs.length a) (Wz s)) n2 t1):=g2
     cases hy:I7 m (I8 m d) m.fs[f] (s.steps.toNat + 1) 0 (initR m.fs[f].regs.length a) (Wz s) with
     | ret v s2 =>
      rw [hy] at g1 g2 g3
      obtain ⟨t2,e⟩:=ET h32 hb hf hC.nr hz g2
      refine ⟨⟨g1.ok,g1.st,fun v' s' e=>?_⟩,n2,t2,g3,e⟩
      cases e
      have:s2.calls=s.calls + 1 - 1:=g1.rt _ _ rfl
      omega
     | stop z e s2 =>
      rw [hy] at g1 g2 g3
      obtain ⟨t2,e⟩:=EU h32 hb hf hC.nr hz g2
      exact ⟨⟨g1.ok,g1.st,fun _ _ e=>by cases e⟩,n2,t2,g3,e⟩
  refine ⟨fun f a s hp=>?_,fun fa fd fo f a s hp hz hd ho=>(key fa fd fo f a s hp hz hd ho).2⟩
  exact (key true true true f a s hp (fun e=>by cases e) (fun e=>by cases e) (fun e=>by cases e)).1
end
end Go.Proofs.AmEnv
set_option maxRecDepth 100000
namespace Go.Proofs.AmEnv
open Go Go.AM
variable {T:Nat->Option (List AV->Option (List AV))}
def Hv (g:Glo):Nat:=(max g.size 1).toNat
def Bf (l:List Glo):List (List Int):=l.map fun g=>List.replicate (Hv g) 0
section
variable {m:Modl} {input:List Int} {steps:Int} {i:Nat} {K:PK}
def sI (steps:Int) (input:List Int) (l:List Glo):Mst:=⟨steps,input,Bf l,[],0⟩
theorem EV {a:Int}:E0 A0 .max [3,3] [.int .i64 a,.int .i64 1] K=some (.int .i64 (max a 1),K):=by
 have e:E0 A0 .max [3,3] [.int .i64 a,.int .i64 1] K=some (.int .i64 (bif intLe 1 a then a else 1),K):=rfl
 rw [e,J4]
 by_cases h:1≤a
 . rw [decide_eq_true h,cond_true,Int.max_eq_left h]
 . rw [decide_eq_false h,cond_false,Int.max_eq_right (by omega)]
theorem oL {x:AV}:AV.withCells .nilptr 0 [x]=x:=rfl
theorem fZ (a b d e:Nat):Ie (.msl a b d e)=false:=rfl
theorem gA:Ie .nilsl=false:=rfl
def dV (d:List (List Int)):AV:=match d with | []=>.nilsl | _ :: _=>.msl 4 0 d.length 1
def dW (d:List (List Int)):List PO:=match d with | []=>[] | _ :: _=>[.row 0 (d.map rowO) 1]
def dN (m:Modl) (s:Mst):PK:=⟨.row 1 [m.F] 2 :: .row 1 [.agg [.nilsl,.int .i64 0,.int .i64 0]] 3 :: .row 1 [.ptr 3 0 0] 1 :: .row 1 [mB m s (dV s.data) .nilsl] 9 :: dW s.data,0,[]⟩
theorem oM {d:List (List Int)} (h:d ≠ []):dV d=.msl 4 0 d.length 1:=by cases d with | nil=>exact absurd rfl h | cons _ _=>rfl
theorem oN {d:List (List Int)} (h:d ≠ []):dW d=[.row 0 (d.map rowO) 1]:=by cases d with | nil=>exact absurd rfl h | cons _ _=>rfl
theorem NS (h:0 < m.gs.length) (hz:∀ g∈m.gs,g.size≤100000):evP ⟨A0,T,A4⟩ (.code Hg [(3,.ptr 0 0 0),(6,.ptr 1 0 0),(7,.ptr 2 0 0),(17,fslN (m.gs.map Glo.F)),(18,.int .i64 (m.gs.length:Int)),(19,.int .i64 0)] (dN m (sI steps input [])))=some (.ok .normal [(3,.ptr 0 0 0),(6,.ptr 1 0 0),(7,.ptr 2 0 0),(17,fslN (m.gs.map Glo.F)),(18,.int .i64 (m.gs.length:Int)),(19,.int .i64 ((1:Nat):Int))] (dN m (sI steps input (m.gs.take 1)))):=by
 have hzi:=hz _ (List.getElem_mem h)
 have hlt:decide ((0:Int) < (m.gs.length:Int))=true:=by simp [h]
 have hi:Si Ls (fslN (m.gs.map Glo.F)) (.int .i64 0)=some (.fptr m.gs[0].F 0):=ix_fslN (i:=0) (B4 (F:=Glo.F) h) rfl
 have hm:max m.gs[0].size 1=(Hv m.gs[0]:Int):=by unfold Hv; omega
 have mk:=fun k k' K=>IK (k:=k) (k':=k') (n:=Hv m.gs[0]) (K:=K) (by unfold Hv; omega)
 have ht:m.gs.take 1=[m.gs[0]]:=by
  rw [List.take_succ_eq_append_getElem h]; rfl
 rw [ht]
 unfold Hg dN sI
 unfold mB Modl.F
 simp only [Glo.F] at hi ⊢
 simp only [dV,dW,Bf,List.length_nil,List.map_nil,List.map_cons,List.length_cons,Nat.zero_add]
 simp -implicitDefEqProofs only [hlt,hi,hm,Wy,mk,fZ,gA,List.length_replicate,List.length_map,EV,show IntKind.i64.wrap (0 + 1)=((1:Nat):Int) from rfl,XP,Nat.reduceAdd,Nat.reduceSub,Nat.reduceLT,Nat.reduceLeDiff,Nat.reduceEqDiff,Nat.reduceMul,↓reduceIte]
 rfl
theorem NT (h:i < m.gs.length) (h0:0 < i) (hz:∀ g∈m.gs,g.size≤100000) (hl:m.gs.length≤100000):evP ⟨A0,T,A4⟩ (.code Hg [(3,.ptr 0 0 0),(6,.ptr 1 0 0),(7,.ptr 2 0 0),(17,fslN (m.gs.map Glo.F)),(18,.int .i64 (m.gs.length:Int)),(19,.int .i64 (i:Int))] (dN m (sI steps input (m.gs.take i))))=some (.ok .normal [(3,.ptr 0 0 0),(6,.ptr 1 0 0),(7,.ptr 2 0 0),(17,fslN (m.gs.map Glo.F)),(18,.int .i64 (m.gs.length:Int)),(19,.int .i64 ((i + 1:Nat):Int))] (dN m (sI steps input (m.gs.take (i + 1))))):=by
 have hzi:=hz _ (List.getElem_mem h)
 have hlt:decide ((i:Int) < (m.gs.length:Int))=true:=by simp [h]
 have hw:=C8 (i:=i) (by omega)
 have hi:=B4 (F:=Glo.F) h
 have hm:max m.gs[i].size 1=(Hv m.gs[i]:Int):=by unfold Hv; omega
 have mk:=fun k k' K=>IK (k:=k) (k':=k') (n:=Hv m.gs[i]) (K:=K) (by unfold Hv; omega)
 have hz8:(i + 1) * 24≤140737488355328:=by omega
 have hd:Bf (m.gs.take (i + 1))=Bf (m.gs.take i) ++ [List.replicate (Hv m.gs[i]) 0]:=by
  rw [List.take_succ_eq_append_getElem h]; unfold Bf; rw [List.map_append]; rfl
 have hdl:(Bf (m.gs.take i)).length=i:=by simp [Bf]; omega
 unfold sI
 rw [hd]
 have hne:Bf (m.gs.take i) ≠ []:=fun e=>by rw [e] at hdl; simp at hdl; omega
 have hne2:Bf (m.gs.take i) ++ [List.replicate (Hv m.gs[i]) 0] ≠ []:=by simp
 have hv:=oM hne
 have hwv:=oN hne
 have hv2:=oM hne2
 have hwv2:=oN hne2
 rw [List.map_append,show [List.replicate (Hv m.gs[i]) (0:Int)].map rowO=[ownd 0 1 (ints (List.replicate (Hv m.gs[i]) 0))] from rfl] at hwv2
 rw [List.length_append,List.length_singleton,hdl] at hv2
 rw [hdl] at hv
 unfold Hg dN
 dsimp only
 rw [hv,hwv,hv2,hwv2]
 unfold mB Modl.F
 simp only [Glo.F] at hi ⊢
 simp -implicitDefEqProofs only [hlt,hi,hw,hm,hdl,hz8,Wy,mk,fZ,gA,List.length_replicate,List.length_map,EV,k8,List.contains_cons,List.contains_nil,Nat.reduceBEq,XP,Nat.reduceAdd,Nat.reduceSub,Nat.reduceLT,Nat.reduceLeDiff,Nat.reduceEqDiff,Nat.reduceMul,↓reduceIte]
theorem EW:∃ fr',evP ⟨A0,T,A4⟩ (.code Hg [(3,.ptr 0 0 0),(6,.ptr 1 0 0),(7,.ptr 2 0 0),(17,fslN (m.gs.map Glo.F)),(18,.int .i64 (m.gs.length:Int)),(19,.int .i64 (m.gs.length:Int))] K)=some (.ok (.exit 0) fr' K)∧lookP fr' 3=.ptr 0 0 0∧lookP fr' 6=.ptr 1 0 0∧lookP fr' 7=.ptr 2 0 0:=by
 unfold Hg
 have hlt:decide ((m.gs.length:Int) < (m.gs.length:Int))=false:=by simp
 simp -implicitDefEqProofs only [hlt,XP,seval]
 exact ⟨_,rfl,rfl,rfl,rfl⟩
theorem NU (hz:∀ g∈m.gs,g.size≤100000) (hl:m.gs.length≤100000):∃ fr',evP ⟨A0,T,A4⟩ (.code (.loop Hg) [(3,.ptr 0 0 0),(6,.ptr 1 0 0),(7,.ptr 2 0 0),(17,fslN (m.gs.map Glo.F)),(18,.int .i64 (m.gs.length:Int)),(19,.int .i64 0)] (dN m (sI steps input [])))=some (.ok (.exit 0) fr' (dN m (sI steps input m.gs)))∧lookP fr' 3=.ptr 0 0 0∧lookP fr' 6=.ptr 1 0 0∧lookP fr' 7=.ptr 2 0 0:=by
 by_cases h0:m.gs.length=0
 . have h1:m.gs=[]:=List.length_eq_zero_iff.1 h0
   obtain ⟨fr',e,p⟩:=EW (T:=T) (m:=m) (K:=dN m (sI steps input []))
   rw [h1] at e ⊢
   exact ⟨fr',H6 e,p⟩
 . have:=Rg (P:=⟨A0,T,A4⟩) (c:=Hg) (fun i=>([(3,.ptr 0 0 0),(6,.ptr 1 0 0),(7,.ptr 2 0 0),(17,fslN (m.gs.map Glo.F)),(18,.int .i64 (m.gs.length:Int)),(19,.int .i64 ((i + 1:Nat):Int))],dN m (sI steps input (m.gs.take (i + 1))))) (m.gs.length - 1) fun i hi=>NT (by omega) (by omega) hz hl
   obtain ⟨fr',e,p⟩:=EW (T:=T) (m:=m) (K:=dN m (sI steps input m.gs))
   refine ⟨fr',?_,p⟩
   rw [G6 (NS (by omega) hz),this]
   simp only [show m.gs.length - 1 + 1=m.gs.length by omega]
   rw [List.take_of_length_le (by omega)]
   exact H6 e
theorem EX (hz:∀ g∈m.gs,g.size≤100000) (hl:m.gs.length≤100000):evP ⟨A0,T,A4⟩ (.code mN (enterP 0 [m.F,fslN (ints input),.int .i64 steps]) ⟨[],0,[]⟩)=some (.ok .normal [(3,.ptr 0 0 0),(6,.ptr 1 0 0),(7,.ptr 2 0 0),(37,.fn (.func 23) [] [.ptr 2 0 0,.ptr 1 0 0])] (dN m (sI steps input m.gs))):=by
 obtain ⟨fr',h,h1,h2,h3⟩:=NU (T:=T) (steps:=steps) (input:=input) hz hl
 unfold mN
 unfold dN at h ⊢
 cases hd:Bf m.gs with
 | nil =>
  simp only [sI,hd,dV,dW,show Bf []=[] from rfl] at h ⊢
  unfold mB Modl.F at h ⊢
  dsimp only at h ⊢
  simp -implicitDefEqProofs only [h,h1,h2,h3,oL,List.length_map,XP,Nat.reduceAdd,Nat.reduceSub,Nat.reduceLT,Nat.reduceLeDiff,Nat.reduceEqDiff,Nat.reduceMul,↓reduceIte]
 | cons y ys =>
  simp only [sI,hd,dV,dW,show Bf []=[] from rfl] at h ⊢
  unfold mB Modl.F at h ⊢
  dsimp only at h ⊢
  simp -implicitDefEqProofs only [h,h1,h2,h3,oL,List.length_map,XP,Nat.reduceAdd,Nat.reduceSub,Nat.reduceLT,Nat.reduceLeDiff,Nat.reduceEqDiff,Nat.reduceMul,↓reduceIte]
end
end Go.Proofs.AmEnv
set_option maxRecDepth 100000
namespace Go.Proofs.AmEnv
open Go Go.AM
variable {T:Nat->Option (List AV->Option (List AV))}
section
variable {m:Modl} {s s2:Mst} {fd n':Bool} {f v st e:Int} {t0:List Nat}
def oQ (n':Bool) (i:Nat) (o:List Int):AV:=match n' with | true=>.msl i 0 o.length 1 | false=>.nilsl
def Aq:AV:=.agg [.nilsl,.int .i64 0,.int .i64 0]
def Ar (fd n':Bool) (m:Modl) (x:AV) (s:Mst):List PO:=.row 1 [m.F] 2 :: .row 1 [x] 3 :: .row 1 [.ptr 3 0 0] 1 :: .row 1 [mB m s (dA fd 4 s) (oQ n' (4 + nB fd) s.out)] 9 :: (dR fd s ++ oG n' s.out)
def kH (fd:Bool):List Nat:=3 :: (match fd with | true=>[4] | false=>[])
theorem EY (R:RunT T) (hb:evP ⟨A0,T,A4⟩ (.body 24 [.ptr 0 0 0,.int .i64 f,.nilsl] ⟨D9 false fd false false m s [],nE false fd false,[]⟩)=some (.val [.int .i64 v] ⟨D9 false fd false n' m s2 [],nE false fd false,t0⟩)) :
 ∃ t1,∀ tch,evP ⟨A0,T,A4⟩ (.call 24 [.ptr 3 0 0,.int .i64 f,.nilsl] ⟨Ar fd false m Aq s,4 + nB fd,tch⟩)=some (.val [.int .i64 v] ⟨Ar fd n' m Aq s2,4 + nB fd,t1 ++ tch⟩):=by
 refine ⟨((t0.filter (· < (kH fd).length)).map fun j=>(kH fd).getD j 0),fun tch=>iH (ids:=kH fd) (args':=[.ptr 0 0 0,.int .i64 f,.nilsl]) (Kf:=⟨D9 false fd false false m s [],nE false fd false,[]⟩) R.hL rfl ?_ ?_ ?_ hb ?_ ?_⟩ <;> cases fd <;> cases n' <;> rfl
theorem xA (R:RunT T) (hb:evP ⟨A0,T,A4⟩ (.body 24 [.ptr 0 0 0,.int .i64 f,.nilsl] ⟨D9 false fd false false m s [],nE false fd false,[]⟩)=some (.pan (D3 st e) ⟨D9 false fd false n' m s2 [],nE false fd false,t0⟩)) :
 ∃ t1,∀ tch,evP ⟨A0,T,A4⟩ (.call 24 [.ptr 3 0 0,.int .i64 f,.nilsl] ⟨Ar fd false m Aq s,4 + nB fd,tch⟩)=some (.pan (D3 st e) ⟨Ar fd n' m Aq s2,4 + nB fd,t1 ++ tch⟩):=by
 refine ⟨((t0.filter (· < (kH fd).length)).map fun j=>(kH fd).getD j 0),fun tch=>Ww (ids:=kH fd) (args':=[.ptr 0 0 0,.int .i64 f,.nilsl]) (Kf:=⟨D9 false fd false false m s [],nE false fd false,[]⟩) R.hL rfl ?_ ?_ ?_ hb ?_ ?_⟩ <;> cases fd <;> cases n' <;> rfl
def x6 (m:Modl):Int:=idxOf (fun c:Cod=>decide (c.name=E6)) m.fs
def m5 (fd n':Bool) (o:List Int) (st e:Int):AV:=.agg [oQ n' (4 + nB fd) o,.int .i64 st,.int .i64 e]
theorem EZ (R:RunT T) (hm:T 21=some K5) (hs:m.fs.length≤bigN) (hb:evP ⟨A0,T,A4⟩ (.body 24 [.ptr 0 0 0,.int .i64 (x6 m),.nilsl] ⟨D9 false fd false false m s [],nE false fd false,[]⟩)=some (.val [.int .i64 v] ⟨D9 false fd false n' m s2 [],nE false fd false,t0⟩)) :
 ∃ t1,evP ⟨A0,T,A4⟩ (.code cY [(3,.ptr 0 0 0),(6,.ptr 1 0 0),(7,.ptr 2 0 0),(37,.fn (.func 23) [] [.ptr 2 0 0,.ptr 1 0 0])] ⟨Ar fd false m Aq s,4 + nB fd,[]⟩)=some (.ok .ret [(6,.ptr 1 0 0)] ⟨Ar fd n' m (m5 fd n' s2.out 1 v) s2,4 + nB fd,t1⟩):=by
 obtain ⟨t1,hc⟩:=EY R hb
 have hq:=fun K=>Fk (K:=K) (m:=m) hm hs
 unfold x6 at hc
 unfold cY Ar m5
 unfold Ar at hc
 unfold mB Modl.F Aq at hc ⊢
 unfold Modl.F at hq
 cases fd <;> cases n' <;> (
  simp only [dA,dR,nB,oQ,oG,Nat.reduceAdd,List.cons_append,List.nil_append,List.append_nil] at hc ⊢
  simp -implicitDefEqProofs only [hc,hq,k8,List.contains_cons,List.contains_nil,Nat.reduceBEq,XP,seval]
  exact ⟨_,rfl⟩)
theorem xB (R:RunT T) (hm:T 21=some K5) (hs:m.fs.length≤bigN) (hb:evP ⟨A0,T,A4⟩ (.body 24 [.ptr 0 0 0,.int .i64 (x6 m),.nilsl] ⟨D9 false fd false false m s [],nE false fd false,[]⟩)=some (.pan (D3 st e) ⟨D9 false fd false n' m s2 [],nE false fd false,t0⟩)) :
 ∃ t1,evP ⟨A0,T,A4⟩ (.code cY [(3,.ptr 0 0 0),(6,.ptr 1 0 0),(7,.ptr 2 0 0),(37,.fn (.func 23) [] [.ptr 2 0 0,.ptr 1 0 0])] ⟨Ar fd false m Aq s,4 + nB fd,[]⟩)=some (.pan (D3 st e) ⟨Ar fd n' m Aq s2,4 + nB fd,t1⟩):=by
 obtain ⟨t1,hc⟩:=xA R hb
 have hq:=fun K=>Fk (K:=K) (m:=m) hm hs
 unfold x6 at hc
 unfold cY Ar
 unfold Ar at hc
 unfold mB Modl.F Aq D3 at hc ⊢
 unfold Modl.F at hq
 cases fd <;> cases n' <;> (
  simp only [dA,dR,nB,oQ,oG,Nat.reduceAdd,List.cons_append,List.nil_append,List.append_nil] at hc ⊢
  simp -implicitDefEqProofs only [hc,hq,Tp,Tq,k8,List.contains_cons,List.contains_nil,Nat.reduceBEq,XP,seval]
  exact ⟨_,rfl⟩)
theorem xC:∃ fr3 t1,evP ⟨A0,T,A4⟩ (.rcv (.fn (.func 23) [] [.ptr 2 0 0,.ptr 1 0 0]) .niliface ⟨Ar fd n' m (m5 fd n' s.out st e) s,(Ar fd n' m (m5 fd n' s.out st e) s).length,[]⟩)=some (.ok .normal fr3 ⟨Ar fd n' m (m5 fd n' s.out st e) s,(Ar fd n' m (m5 fd n' s.out st e) s).length,t1⟩):=by
 have key:∃ fr3 t1,evP ⟨A0,T,A4⟩ (.code mO (setPs' [4,2] [.niliface,.niliface] (enterP 0 [.ptr 2 0 0,.ptr 1 0 0])) ⟨Ar fd n' m (m5 fd n' s.out st e) s,(Ar fd n' m (m5 fd n' s.out st e) s).length,[]⟩)=some (.ok .normal fr3 ⟨Ar fd n' m (m5 fd n' s.out st e) s,(Ar fd n' m (m5 fd n' s.out st e) s).length,t1⟩):=by
  unfold mO Ar m5
  unfold mB Modl.F
  cases fd <;> cases n' <;> (
   simp only [dA,dR,nB,oQ,oG,setPs',Nat.reduceAdd,List.cons_append,List.nil_append,List.append_nil]
   simp -implicitDefEqProofs only [uV,uW,nY,XP,seval]
   exact ⟨_,_,rfl⟩)
 obtain ⟨fr3,t1,h⟩:=key
 exact ⟨fr3,t1,vM (b:=false) rfl (by decide) h⟩
theorem rV:∃ fr3 t1,evP ⟨A0,T,A4⟩ (.rcv (.fn (.func 23) [] [.ptr 2 0 0,.ptr 1 0 0]) (D3 st e) ⟨Ar fd n' m Aq s,(Ar fd n' m Aq s).length,[]⟩)=some (.ok .normal fr3 ⟨Ar fd n' m (m5 fd n' s.out st e) s,(Ar fd n' m Aq s).length,t1⟩):=by
 have key:∃ fr3 t1,evP ⟨A0,T,A4⟩ (.code mO (setPs' [4,2] [D3 st e,D3 st e] (enterP 0 [.ptr 2 0 0,.ptr 1 0 0])) ⟨Ar fd n' m Aq s,(Ar fd n' m Aq s).length,[]⟩)=some (.ok .normal fr3 ⟨Ar fd n' m (m5 fd n' s.out st e) s,(Ar fd n' m Aq s).length,t1⟩):=by
  unfold mO Ar m5 D3 Aq
  unfold mB Modl.F
  cases fd <;> cases n' <;> (
   simp only [dA,dR,nB,oQ,oG,setPs',Nat.reduceAdd,List.cons_append,List.nil_append,List.append_nil]
   simp -implicitDefEqProofs only [uV,uW,nY,DY,NE,Tp,Tq,XP,seval]
   exact ⟨_,_,rfl⟩)
 obtain ⟨fr3,t1,h⟩:=key
 exact ⟨fr3,t1,vM (b:=false) rfl (by decide) h⟩
end
end Go.Proofs.AmEnv
set_option maxRecDepth 100000
namespace Go.Proofs.AmEnv
open Go Go.AM
variable {T:Nat->Option (List AV->Option (List AV))}
section
variable {m:Modl} {input:List Int} {steps:Int}
def H5 (m:Modl) (input:List Int) (steps:Int):Rs:=I8 m 33 (x6 m) [] (sI steps input m.gs)
def Rs.sc:Rs->Int × Int | .ret v _=>(1,v) | .stop st c _=>(st,c)
def Fp (m:Modl) (input:List Int) (steps:Int):List Int:=(H5 m input steps).st.out
structure RunOk (m:Modl) (steps:Int):Prop where
 mr:ModR' m
 gz:∀ g∈m.gs,g.size≤100000
 gl:m.gs.length≤100000
 fl:m.fs.length≤bigN
 mn:0≤x6 m∧x6 m < m.fs.length
 st:steps≤20000
theorem rW (l:List Glo):a8 ⟨l,m.fs⟩ (Bf l):=by
 refine ⟨by simp [Bf],fun i r g hr hg=>?_⟩
 unfold Bf at hr
 rw [List.getElem?_map] at hr
 replace hg:l[i]?=some g:=hg
 rw [hg] at hr
 cases hr
 rw [List.length_replicate]
 unfold Hv; omega
theorem FA (h:RunOk m steps):Sok m (sI steps input m.gs):=⟨rW (m:=m) m.gs,h.st,by have:=h.st; show 0 + steps.toNat≤30000; omega,by show (0:Int)≤0∧(0:Int)≤33; decide⟩
def gsB (m:Modl):Bool:=!m.gs.isEmpty
theorem xD (s:Mst) (h:gsB m=false->s.data=[]) (h2:gsB m=true->s.data ≠ []) (ho:s.out=[]):dN m s=⟨Ar (gsB m) false m Aq s,0,[]⟩:=by
 unfold dN Ar Aq
 cases hb:gsB m with
 | false=>rw [h hb]; rfl
 | true=>rw [oM (h2 hb),oN (h2 hb)]; rfl
def Xa (o:List Int) (st e:Int):AV:=.agg [ownd 0 1 (ints o),.int .i64 st,.int .i64 e]
theorem aH {fd n':Bool} {s:Mst} {st e:Int} (hz:n'=false->s.out=[]):backOk [m5 fd n' s.out st e] [Xa s.out st e] (Ar fd n' m (m5 fd n' s.out st e) s):=by
 have hl:(ints s.out).length=s.out.length:=by simp [ints]
 cases n' with
 | true =>
  unfold m5 Ar Xa oQ
  cases fd <;> (
   refine back_of (vs':=[.agg [.msl _ 0 s.out.length 1,.int .i64 st,.int .i64 e]]) rfl (by simp [F3,H4]) (us:=[.agg [.msl 0 0 (ints s.out).length 1,.int .i64 st,.int .i64 e]]) (ps:=[.row 0 (ints s.out) 1]) rfl ?_ ?_
   . rw [hl]; rfl
   . rfl)
 | false =>
  rw [hz rfl]
  unfold m5 Ar Xa oQ
  cases fd <;> exact back_of (vs':=[.agg [.msl _ 0 0 1,.int .i64 st,.int .i64 e]]) rfl (by simp [F3,H4]) rfl rfl rfl
theorem gB (h:gsB m=false):(sI steps input m.gs).data=[]:=by
 have:m.gs=[]:=by unfold gsB at h; simpa using h
 show Bf m.gs=[]; rw [this]; rfl
theorem FB (h:gsB m=true):(sI steps input m.gs).data ≠ []:=by
 show Bf m.gs ≠ []
 unfold gsB at h; unfold Bf
 cases hg:m.gs with | nil=>rw [hg] at h; cases h | cons _ _=>simp
theorem kI (R:RunT T) (hm:T 21=some K5) (h:RunOk m steps):AM.Comes ⟨A0,T,A4⟩ 10 [m.F,fslN (ints input),.int .i64 steps] [Xa (Fp m input steps) (H5 m input steps).sc.1 (H5 m input steps).sc.2]:=by
 have hs:=FA (input:=input) h
 obtain ⟨n',t0,q1,q2⟩:=(aG R h.mr 33 0 (by decide) (by decide)).2 false (gsB m) false (x6 m) [] (sI steps input m.gs) ⟨h.mn,hs,rfl⟩ (fun _=>rfl) (fun e=>gB e) (fun _=>rfl)
 replace q2:evP ⟨A0,T,A4⟩ (.body 24 [.ptr 0 0 0,.int .i64 (x6 m),.nilsl] ⟨D9 false (gsB m) false false m (sI steps input m.gs) [],nE false (gsB m) false,[]⟩)=some (rR (H5 m input steps) fun s'=>⟨D9 false (gsB m) false n' m s' [],nE false (gsB m) false,t0⟩):=q2
 replace q1:false=false->n'=false->(H5 m input steps).st.out=[]:=q1
 have ha:=EX (T:=T) (steps:=steps) (input:=input) h.gz h.gl
 rw [xD _ (fun e=>gB e) (fun e=>FB e) rfl] at ha
 have hlen:(Ar (gsB m) false m Aq (sI steps input m.gs)).length=4 + nB (gsB m):=by unfold Ar dR oG nB; cases gsB m <;> rfl
 unfold Fp
 cases hy:H5 m input steps with
 | ret v s2 =>
  rw [hy] at q1 q2
  obtain ⟨t1,hc⟩:=EZ R hm h.fl q2
  rw [← hlen] at hc
  obtain ⟨fr3,t2,hr⟩:=xC (T:=T) (m:=m) (fd:=gsB m) (n':=n') (s:=s2) (st:=1) (e:=v)
  refine ⟨[m5 (gsB m) n' s2.out 1 v],⟨Ar (gsB m) n' m (m5 (gsB m) n' s2.out 1 v) s2,0,t2 ++ (t1 ++ [])⟩,?_,aH fun e=>q1 rfl e⟩
  rw [iE (a:=mN) (g:=.tmp 37) (c:=cY) (nt:=49) (rs:=[.cell 6 35]) rfl (by simp),show K0=(⟨[],0,[]⟩:PK) from rfl,GE (g:=.tmp 37) ha hc hr]
  clear hc hr ha hlen q2
  generalize gsB m=fd
  cases fd <;> cases n' <;> rfl
 | stop st e s2 =>
  rw [hy] at q1 q2
  obtain ⟨t1,hc⟩:=xB R hm h.fl q2
  rw [← hlen] at hc
  obtain ⟨fr3,t2,hr⟩:=rV (T:=T) (m:=m) (fd:=gsB m) (n':=n') (s:=s2) (st:=st) (e:=e)
  refine ⟨[m5 (gsB m) n' s2.out st e],⟨Ar (gsB m) n' m (m5 (gsB m) n' s2.out st e) s2,0,t2 ++ (t1 ++ [])⟩,?_,aH fun e=>q1 rfl e⟩
  rw [iE (a:=mN) (g:=.tmp 37) (c:=cY) (nt:=49) (rs:=[.cell 6 35]) rfl (by simp),show K0=(⟨[],0,[]⟩:PK) from rfl,yM (g:=.tmp 37) ha hc hr]
  clear hc hr ha hlen q2
  generalize gsB m=fd
  cases fd <;> cases n' <;> rfl
end
end Go.Proofs.AmEnv
set_option maxRecDepth 100000
namespace Go.Proofs.AmEnv
open Go Go.AM
variable {T:Nat->Option (List AV->Option (List AV))}
theorem Pz {l:List Int} (h:J0 l=0):∀ e∈l,e=0:=by
 induction l with
 | nil=>intro e he; cases he
 | cons a l ih =>
  unfold J0 at h
  by_cases q:a=0
  . rw [if_pos q] at h
    intro e he
    rcases List.mem_cons.1 he with rfl | he
    . exact q
    . exact ih h e he
  . rw [if_neg q] at h; exact absurd h q
theorem aI {m:Modl} (h:O5 m=0):(∀ c∈m.fs,Y7 m c=0)∧fU m=0:=by
 unfold O5 at h
 by_cases q:J0 (m.gs.map Wq)=0
 . rw [if_pos q] at h
   by_cases q2:J0 (m.fs.map (Y7 m))=0
   . rw [if_pos q2] at h
     exact ⟨fun c hc=>Pz q2 _ (List.mem_map_of_mem hc),h⟩
   . rw [if_neg q2] at h; exact absurd h q2
 . rw [if_neg q] at h; exact absurd h q
theorem gC {m:Modl} {c:Cod} (h:Y7 m c=0):(1≤c.blocks.length∧c.regs.length≤4096∧c.ps≤c.regs.length)∧∀ b∈c.blocks,Sc m c b=0:=by
 unfold Y7 at h
 split at h
 . cases h
 . rename_i h1
   split at h
   . cases h
   . split at h
     . cases h
     . exact ⟨by omega,fun b hb=>Pz h _ (List.mem_map_of_mem hb)⟩
theorem xE {m:Modl} {c:Cod} {b:Blk} (h:Sc m c b=0):(∀ x∈b.code,M5 m c x=0)∧Po c b.e=0:=by
 unfold Sc at h
 split at h
 . rename_i q; exact ⟨fun x hx=>Pz q _ (List.mem_map_of_mem hx),h⟩
 . rename_i q; exact absurd h q
theorem xF {m:Modl} {n:Int} {b:Bool} (h:N7 m n b=true):0≤n∧n < m.gs.length:=by
 unfold N7 at h
 exact thereD_iff.1 (Bool.and_eq_true_iff.1 h).1
theorem rX {x:Ins} (h:Co x=true):1≤x.op∧x.op≤11:=by
 unfold Co at h
 by_cases h3:x.op=3
 . omega
 . rw [if_neg h3] at h
   by_cases h4:x.op=4
   . omega
   . rw [if_neg h4,Bool.and_eq_true] at h
     exact ⟨of_decide_eq_true h.1,of_decide_eq_true h.2⟩
theorem xG {c:Cod} {x:Ins} (h:j8 x=false) (hw:Xy c x=true) (ho:x.op=1∨x.op=2∨x.op=3∨x.op=4∨x.op=5∨x.op=7∨x.op=10):0≤x.dst∧x.dst < c.regs.length:=by
 have hwd:writesD x=x.dst:=by unfold writesD; rcases ho with e | e | e | e | e | e | e <;> simp [e]
 have h9:¬ x.op=9:=by omega
 have hd:¬ x.dst < 0:=by
  intro hn
  unfold j8 at h
  rw [decide_eq_true hn,Bool.and_true] at h
  have:(Ju.any fun n=>decide (x.op=n))=true:=by
   rw [List.any_eq_true]
   refine ⟨x.op,?_,by simp⟩
   rcases ho with e | e | e | e | e | e | e <;> rw [e] <;> decide
  rw [this] at h; cases h
 unfold Xy at hw
 rw [hwd,decide_eq_false h9,decide_eq_false (show ¬ x.dst=-1 by omega)] at hw
 simp only [Bool.not_false,Bool.true_or,Bool.true_and,Bool.not_not] at hw
 exact thereD_iff.1 hw
theorem xH {m:Modl} {c:Cod} {x:Ins} (hp:∀ c∈m.fs,c.ps≤c.regs.length∧c.regs.length≤4096) (h:M5 m c x=0):InsR m c.regs.length x:=by
 unfold M5 at h
 split at h
 . rename_i hf
   split at h
   . rename_i hpl
     have hop:=rX hf
     unfold E3 at hpl
     obtain ⟨h1,h2⟩:=Bool.and_eq_true_iff.1 hpl
     obtain ⟨h2,h3⟩:=Bool.and_eq_true_iff.1 h2
     obtain ⟨h3,h4⟩:=Bool.and_eq_true_iff.1 h3
     have h3:j8 x=false:=by simpa using h3
     have hrd:∀ r∈readsD x,0≤r∧r < (c.regs.length:Int):=fun r hr=>thereD_iff.1 (List.all_eq_true.1 h1 r hr)
     refine ⟨hop,xG h3 h2,fun ho=>hrd _ ?_,fun ho=>hrd _ ?_,fun ho=>?_,fun ho=>?_⟩
     . unfold readsD; rcases ho with e | e | e | e | e | e | e <;> simp [e]
     . unfold readsD; rcases ho with e | e <;> simp [e]
     . unfold fT at h4
       rcases ho with e | e | e | e <;> (simp only [e,Int.reduceEq,↓reduceIte] at h4; exact xF h4)
     . unfold fT at h4
       simp only [ho,Int.reduceEq,↓reduceIte] at h4
       obtain ⟨h5,h6⟩:=Bool.and_eq_true_iff.1 h4
       have h5:=thereD_iff.1 h5
       rw [if_pos ho] at h
       split at h
       . rename_i hl
         have hm:codI m.fs x.n∈m.fs:=by
          unfold codI
          rw [List.getD_eq_getElem?_getD,List.getElem?_eq_getElem (show x.n.toNat < m.fs.length by omega)]
          exact List.getElem_mem _
         have:=hp _ hm
         refine ⟨h5,fun y hy=>hrd _ ?_,by omega,?_⟩
         . unfold readsD; simp only [ho,Int.reduceEq,↓reduceIte]; exact hy
         . by_cases hd:0≤x.dst
           . have hwd:writesD x=x.dst:=by unfold writesD; simp only [ho,Int.reduceEq,↓reduceIte]; rw [if_pos (by omega)]
             unfold Xy at h2
             rw [hwd,decide_eq_true ho,decide_eq_true hd,decide_eq_false (show ¬ x.dst=-1 by omega)] at h2
             simp only [Bool.not_true,Bool.not_false,Bool.or_true,Bool.true_and,Bool.not_not] at h2
             exact (thereD_iff.1 h2).2
           . omega
       . cases h
   . cases h
 . cases h
theorem xI {c:Cod} {e:Endd} (h:Po c e=0):EndR c.blocks.length c.regs.length e:=by
 unfold Po at h
 by_cases k1:e.kind=1
 . rw [if_pos k1] at h
   split at h
   . rename_i q
     exact ⟨by omega,fun k=>by omega,fun k=>by omega,fun _=>thereD_iff.1 q,fun k=>by omega⟩
   . cases h
 . rw [if_neg k1] at h
   by_cases k2:e.kind=2
   . rw [if_pos k2] at h
     split at h
     . rename_i q1
       split at h
       . rename_i q2
         split at h
         . rename_i q3
           exact ⟨by omega,fun k=>by omega,fun _=>thereD_iff.1 q3,fun _=>thereD_iff.1 q1,fun _=>thereD_iff.1 q2⟩
         . cases h
       . cases h
     . cases h
   . rw [if_neg k2] at h
     split at h
     . rename_i k3
       refine ⟨by omega,fun _=>?_,fun k=>by omega,fun k=>by omega,fun k=>by omega⟩
       split at h
       . omega
       . split at h
         . rename_i q; exact (thereD_iff.1 q).2
         . cases h
     . cases h
theorem xJ {m:Modl} (hm:m.ok) (h:O5 m=0):ModR' m:=by
 obtain ⟨h1,h2⟩:=aI h
 have hp:∀ c∈m.fs,c.ps≤c.regs.length∧c.regs.length≤4096:=fun c hc=>by have:=(gC (h1 c hc)).1; omega
 refine ⟨fun c hc=>?_⟩
 obtain ⟨q1,q2⟩:=gC (h1 c hc)
 refine ⟨q1.1,fun b hb=>?_,by omega⟩
 obtain ⟨q3,q4⟩:=xE (q2 b hb)
 have hb':=((hm.1 c hc).1.2.1 b hb).2
 exact ⟨by simp only [bigN] at hb'; omega,fun x hx=>xH hp (q3 x hx),xI q4⟩
theorem xK {α:Type} {p:α->Bool} {l:List α}:idxOf p l < l.length:=by
 unfold idxOf
 split
 . rename_i i h
   obtain ⟨h1,_⟩:=List.findIdx?_eq_some_iff_getElem.1 h
   omega
 . omega
theorem oO {m:Modl} {steps:Int} (hm:m.ok) (hb:S0 m=false) (h:O5 m=0) (hs:steps≤20000):RunOk m steps:=by
 obtain ⟨h1,h2⟩:=aI h
 unfold S0 at hb
 split at hb
 . cases hb
 . rename_i hg
   split at hb
   . cases hb
   . rename_i hf
     split at hb
     . rename_i ha
       refine ⟨xJ hm h,fun g hgm=>?_,by omega,by simp only [bigN]; omega,?_,hs⟩
       . have:=List.all_eq_true.1 ha g hgm
         simp at this; omega
       . have hmi:Ba m=x6 m:=rfl
         rw [← hmi]
         unfold fU at h2
         split at h2
         . cases h2
         . rename_i hn
           exact ⟨by omega,xK⟩
     . cases hb
end Go.Proofs.AmEnv
set_option maxRecDepth 100000
namespace Go.AM
section
variable {K:PK} {os:List PO} {es cs:List AV} {c v:AV} {t te:TI}
theorem rY {ext r id i o q m sz z:Nat} (h:¬ ext≤q):OH ext r id i o os cs q m sz (some (.row 0 es z))=none:=if_neg fun e=>h e.2.2.1
theorem oP:GL c none=none:=rfl
theorem oS (id i off:Nat):GJ t id i off K es v none=none:=rfl
theorem oT (id:Nat) (l:List (Nat × AV)):OL te id l none=none:=rfl
def QZ (te:TI) (n:Nat) (K:PK) (r:Option (List AV)):Option (AV × PK):=match r with | some es=>some (.msl K.os.length 0 n te.size,newRow 2 es te.size K) | none=>none
theorem oU (n:Nat) (ps:List (Nat × AV)):OJ te n ps K none=QZ te n K (placeR te.size ps (List.replicate n te.zero)):=rfl
theorem oV (n:Nat):QZ te n K (some es)=some (.msl K.os.length 0 n te.size,newRow 2 es te.size K):=rfl
theorem rZ (sz:Nat):placeR sz [] es=some es:=rfl
theorem oW {sz i:Nat} {l:List (Nat × AV)} (h1:i < es.length) (h2:v.cells.length=sz) (h3:v.cells.all Da=true):placeR sz ((i,v) :: l) es=placeR sz l (es.set i v):=if_pos ⟨h1,h2,h3⟩
end
end Go.AM
namespace Go.Proofs.AmEnv
open Go Go.AM
variable {T:Nat->Option (List AV->Option (List AV))}
theorem Xb (hword_Bin:T 55=some S9) (hword_Wrap:T 56=some E8) (nir_trap:T 39=none) (nir_machine_element:T 57=none) (hir_there:T 54=some C6) (nir_machine_next:T 58=none) (nir_machine_step:T 40=none) (nir_machine_does:T 42=none) (nir_machine_calling:T 41=none) (nir_machine_call:T 24=none) (hir_mainOf:T 21=some K5) {m:Modl} {input:List Int} {steps:Int} (hk:RunOk m steps):AM.Comes ⟨A0,T,A4⟩ 10 [m.F,fslN (ints input),.int .i64 steps] [.agg [ownd 0 1 (ints (Fp m input steps)),.int .i64 (H5 m input steps).sc.1,.int .i64 (H5 m input steps).sc.2]]:=by
 exact kI ⟨hword_Bin,hword_Wrap,nir_trap,nir_machine_element,hir_there,nir_machine_next,nir_machine_step,nir_machine_does,nir_machine_calling,nir_machine_call⟩ hir_mainOf hk
def R6:=u5 (fun p:(Modl) × (List Int) × (Int)=>[p.1.F,fslN (ints p.2.1),.int .i64 p.2.2]) (fun p=>[.agg [ownd 0 1 (ints (Fp p.1 p.2.1 p.2.2)),.int .i64 (H5 p.1 p.2.1 p.2.2).sc.1,.int .i64 (H5 p.1 p.2.1 p.2.2).sc.2]]) (fun p=>RunOk p.1 p.2.2)
theorem sA (hir_Run:T 10=some R6) {m:Modl} {input:List Int} {steps:Int} {K:PK} (hk:RunOk m steps):evP ⟨A0,T,A4⟩ (.call 10 [m.F,fslN (ints input),.int .i64 steps] K)=some (.val (openTs K.os.length [.agg [ownd 0 1 (ints (Fp m input steps)),.int .i64 (H5 m input steps).sc.1,.int .i64 (H5 m input steps).sc.2]]).1 ⟨K.os ++ (openTs K.os.length [.agg [ownd 0 1 (ints (Fp m input steps)),.int .i64 (H5 m input steps).sc.1,.int .i64 (H5 m input steps).sc.2]]).2,K.ext,K.tch⟩):=C0 hir_Run (by simp -implicitDefEqProofs only [VV,XP,seval]) (C1 (a:=fun p:(Modl) × (List Int) × (Int)=>[p.1.F,fslN (ints p.2.1),.int .i64 p.2.2]) (r:=fun p=>[.agg [ownd 0 1 (ints (Fp p.1 p.2.1 p.2.2)),.int .i64 (H5 p.1 p.2.1 p.2.2).sc.1,.int .i64 (H5 p.1 p.2.1 p.2.2).sc.2]]) (fun x y e=>by simp only [VJ] at e; simp only [e]) (m,input,steps) hk) (by simp -implicitDefEqProofs only [VN,XP,seval])
theorem kJ (hword_Bin:T 55=some S9) (hword_Wrap:T 56=some E8) (nir_trap:T 39=none) (nir_machine_element:T 57=none) (hir_there:T 54=some C6) (nir_machine_next:T 58=none) (nir_machine_step:T 40=none) (nir_machine_does:T 42=none) (nir_machine_calling:T 41=none) (nir_machine_call:T 24=none) (hir_mainOf:T 21=some K5) (hP:PEok ⟨A0,T,A4⟩):TC A0 10 R6:=D1 hP fun p h=>Xb hword_Bin hword_Wrap nir_trap nir_machine_element hir_there nir_machine_next nir_machine_step nir_machine_does nir_machine_calling nir_machine_call hir_mainOf h
section
variable {K:PK}
theorem RA (a b:Int):E0 A0 .max [3,3] [.int .i64 a,.int .i64 b] K=some (.int .i64 (max a b),K):=by
 have e:E0 A0 .max [3,3] [.int .i64 a,.int .i64 b] K=some (.int .i64 (bif intLe b a then a else b),K):=rfl
 rw [e,J4]
 by_cases h:b≤a
 . rw [decide_eq_true h,cond_true,Int.max_eq_left h]
 . rw [decide_eq_false h,cond_false,Int.max_eq_right (by omega)]
theorem RB (a b:Int):E0 A0 .min [3,3] [.int .i64 a,.int .i64 b] K=some (.int .i64 (min a b),K):=by
 have e:E0 A0 .min [3,3] [.int .i64 a,.int .i64 b] K=some (.int .i64 (bif intLe a b then a else b),K):=rfl
 rw [e,J4]
 by_cases h:a≤b
 . rw [decide_eq_true h,cond_true,Int.min_eq_left h]
 . rw [decide_eq_false h,cond_false,Int.min_eq_right (by omega)]
end
theorem kK  {v:Int} {lo:Int} {hi:Int}:AM.Comes ⟨A0,T,A4⟩ 9 [.int .i64 v,.int .i64 lo,.int .i64 hi] [.int .i64 (max lo (min v hi))]:=by
 refine ⟨[.int .i64 (max lo (min v hi))],⟨[],0,[]⟩,?_,back_of rfl List.nodup_nil rfl rfl rfl⟩
 rw [A7 (c:=p9) (nt:=12) (rs:=[.tmp 6]) rfl (by simp)]; unfold p9
 unfold K0
 simp -implicitDefEqProofs only [RA,RB,XP,seval]
def kL:=u5 (fun p:(Int) × (Int) × (Int)=>[.int .i64 p.1,.int .i64 p.2.1,.int .i64 p.2.2]) (fun p=>[.int .i64 (max p.2.1 (min p.1 p.2.2))]) (fun p=>True)
theorem NV (hCut:T 9=some kL) {v:Int} {lo:Int} {hi:Int} {K:PK}:evP ⟨A0,T,A4⟩ (.call 9 [.int .i64 v,.int .i64 lo,.int .i64 hi] K)=some (.val (openTs K.os.length [.int .i64 (max lo (min v hi))]).1 ⟨K.os ++ (openTs K.os.length [.int .i64 (max lo (min v hi))]).2,K.ext,K.tch⟩):=C0 hCut (by simp -implicitDefEqProofs only [VV,XP,seval]) (C1 (a:=fun p:(Int) × (Int) × (Int)=>[.int .i64 p.1,.int .i64 p.2.1,.int .i64 p.2.2]) (r:=fun p=>[.int .i64 (max p.2.1 (min p.1 p.2.2))]) (fun x y e=>by simp only [VJ] at e; simp only [e]) (v,lo,hi) trivial) (by simp -implicitDefEqProofs only [VN,XP,seval])
theorem xL  (hP:PEok ⟨A0,T,A4⟩):TC A0 9 kL:=D1 hP fun p h=>kK
theorem Sd (hSameInts:T 11=some v8) {o1:List Int} {o2:List Int} {a:Int} {b:Int} {c:Int} {d:Int} (hk:o1.length * 8≤bigN):AM.Comes ⟨A0,T,A4⟩ 12 [.agg [fslN (ints o1),.int .i64 a,.int .i64 b],.agg [fslN (ints o2),.int .i64 c,.int .i64 d]] [.bool (decide (a=c∧b=d∧o1=o2))]:=by
 refine ⟨[.bool (decide (a=c∧b=d∧o1=o2))],⟨[],0,[]⟩,?_,back_of rfl List.nodup_nil rfl rfl rfl⟩
 rw [A7 (c:=GY) (nt:=24) (rs:=[.tmp 4]) rfl (by simp)]; unfold GY
 unfold K0
 have ts:=fun K=>jR (K:=K) hSameInts (m:=o2) hk
 by_cases h1:a=c
 . by_cases h2:b=d
   . have e:decide (a=c∧b=d∧o1=o2)=decide (o1=o2):=by simp [h1,h2]
     rw [e]
     simp -implicitDefEqProofs only [eq_true h1,eq_true h2,ts,XP,seval]
   . rw [decide_eq_false (show ¬ (a=c∧b=d∧o1=o2) from fun e=>h2 e.2.1)]
     simp -implicitDefEqProofs only [eq_true h1,eq_false h2,XP,seval]
 . rw [decide_eq_false (show ¬ (a=c∧b=d∧o1=o2) from fun e=>h1 e.1)]
   simp -implicitDefEqProofs only [eq_false h1,XP,seval]
def k9:=u5 (fun p:(List Int) × (List Int) × (Int) × (Int) × (Int) × (Int)=>[.agg [fslN (ints p.1),.int .i64 p.2.2.1,.int .i64 p.2.2.2.1],.agg [fslN (ints p.2.1),.int .i64 p.2.2.2.2.1,.int .i64 p.2.2.2.2.2]]) (fun p=>[.bool (decide (p.2.2.1=p.2.2.2.2.1∧p.2.2.2.1=p.2.2.2.2.2∧p.1=p.2.1))]) (fun p=>p.1.length * 8≤bigN)
theorem dO (hSameInts:T 11=some v8) (hP:PEok ⟨A0,T,A4⟩):TC A0 12 k9:=D1 hP fun p h=>Sd hSameInts h
def Cu:Modl:=⟨[],[⟨E6,1,0,[1],[⟨[⟨1,0,0,0,0,7,[],[]⟩],⟨3,0,0,0⟩⟩]⟩]⟩
theorem oX:Cu.ok:=by
 refine ⟨fun c hc=>?_,by decide,by decide⟩
 rw [List.mem_singleton.1 hc]
 refine ⟨⟨by decide,fun b hb=>?_,by decide⟩,fun b hb=>?_⟩ <;> rw [List.mem_singleton.1 hb]
 . exact ⟨fun x hx=>by rw [List.mem_singleton.1 hx]; exact (by decide:(0:Nat) * 8≤bigN),by decide⟩
 . refine ⟨⟨fun x hx=>?_,by decide⟩,fun x hx=>?_⟩ <;> rw [List.mem_singleton.1 hx]
   . exact (by decide:(0:Nat) * 8≤bigN)
   . exact ⟨(by decide:(0:Nat) * 8≤bigN),(by decide:(0:Nat)≤bigN)⟩
theorem Tt:O5 Cu=0:=by rfl
theorem oY:(H5 Cu [] 1).sc=(3,0):=by rfl
theorem aJ:(H5 Cu [] 2).sc=(1,7)∧Fp Cu [] 2=[]:=by exact ⟨rfl,rfl⟩
theorem sB (hS:T 22=none) (K:PK):evP ⟨A0,T,A4⟩ (.call 22 [] K)=lC K (Iw A0 [.cell 0 25] (evP ⟨A0,T,A4⟩ (.code AD (enterP 0 []) ⟨K.os,K.os.length,[]⟩))):=by
 rw [Dh hS rfl,A7 (c:=AD) (nt:=8) (rs:=[.cell 0 25]) rfl (by simp)]
theorem sC (hS:T 38=none) (a b:AV) (K:PK):evP ⟨A0,T,A4⟩ (.call 38 [a,b] K)=lC K (Iw A0 [.cell 4 25] (evP ⟨A0,T,A4⟩ (.code AO (enterP 0 [a,b]) ⟨K.os,K.os.length,[]⟩))):=by
 rw [Dh hS rfl,A7 (c:=AO) (nt:=10) (rs:=[.cell 4 25]) rfl (by simp)]
def aK (b:Nat):List PO:=[.row 1 [.agg [.nilsl,.msl (b + 5) 0 1 5]] 2,.row 0 [.int .i64 1] 1,.sub (b + 3) 0 0,.row 0 [.agg [ownd 0 8 [.agg [.int .i64 1,.int .i64 0,.int .i64 0,.int .i64 0,.int .i64 0,.int .i64 7,.str [],.nilsl]],.int .i64 3,.int .i64 0,.int .i64 0,.int .i64 0]] 5,.row 1 [.agg [.nilsl,.msl (b + 5) 0 1 5]] 2,.row 2 [.agg [.str [109,97,105,110],.int .i64 1,.int .i64 0,.msl (b + 1) 0 1 1,.msl (b + 3) 0 1 5]] 5]
def IM (j:Nat) (st c:Int):List PO:=[.row 0 [] 1,.row 1 [.agg [.msl j 0 0 1,.int .i64 st,.int .i64 c]] 3]
theorem gE (hR:T 10=some R6) {os:List PO} {b ext:Nat} {tch:List Nat} {steps:Int} (hv:viewX os [.agg [.nilsl,.msl (b + 5) 0 1 5],.nilsl,.int .i64 steps]=some [Cu.F,fslN (ints []),.int .i64 steps]) (hs:steps≤20000) (ho:Fp Cu [] steps=[]) {st c:Int} (hc:(H5 Cu [] steps).sc=(st,c)) :
 evP ⟨A0,T,A4⟩ (.call 10 [.agg [.nilsl,.msl (b + 5) 0 1 5],.nilsl,.int .i64 steps] ⟨os,ext,tch⟩)=some (.val [.agg [.msl os.length 0 0 1,.int .i64 st,.int .i64 c]] ⟨os ++ [.row 0 [] 1],ext,tch⟩):=by
 have hg:R6 [Cu.F,fslN (ints []),.int .i64 steps]=some [.agg [ownd 0 1 (ints (Fp Cu [] steps)),.int .i64 (H5 Cu [] steps).sc.1,.int .i64 (H5 Cu [] steps).sc.2]]:=C1 (a:=fun p:Modl × List Int × Int=>[p.1.F,fslN (ints p.2.1),.int .i64 p.2.2]) (r:=fun p=>[.agg [ownd 0 1 (ints (Fp p.1 p.2.1 p.2.2)),.int .i64 (H5 p.1 p.2.1 p.2.2).sc.1,.int .i64 (H5 p.1 p.2.1 p.2.2).sc.2]]) (fun x y e=>by simp only [Modl.F_iff,fslN_iff,ints_iff,List.cons.injEq,AV.int.injEq,and_true,true_and] at e; obtain ⟨x1,x2,x3⟩:=x; obtain ⟨y1,y2,y3⟩:=y; simp only at e ⊢; obtain ⟨rfl,rfl,rfl⟩:=e; rfl) (Cu,[],steps) (oO oX (by rfl) Tt hs)
 rw [ho,hc] at hg
 rw [iF (K:=⟨os,ext,tch⟩) hR hv hg rfl]
 rfl
theorem sD (hR:T 7=some N1) {os:List PO} {b ext:Nat} {tch:List Nat} (hv:viewX os [.agg [.nilsl,.msl (b + 5) 0 1 5]]=some [Cu.F]) :
 evP ⟨A0,T,A4⟩ (.call 7 [.agg [.nilsl,.msl (b + 5) 0 1 5]] ⟨os,ext,tch⟩)=some (.val [.int .i64 0] ⟨os ++ [],ext,tch⟩):=by
 have hg:N1 [Cu.F]=some [.int .i64 (O5 Cu)]:=C1 (a:=fun m:Modl=>[m.F]) (r:=fun m=>[.int .i64 (O5 m)]) (fun x y e=>by simp only [Modl.F_iff,List.cons.injEq,and_true] at e; rw [e]) Cu oX
 rw [Tt] at hg
 rw [iF (K:=⟨os,ext,tch⟩) hR hv hg rfl]
 rfl
theorem Hw (nlaw06_seven:T 22=none) (nlaw06_mainOf:T 38=none) (hir_Run:T 10=some R6) (hir_Check:T 7=some N1) :AM.Comes ⟨A0,T,A4⟩ 8 [] [.bool true]:=by
 refine ⟨[.bool true],⟨[],0,[]⟩,?_,back_of rfl List.nodup_nil rfl rfl rfl⟩
 rw [A7 (c:=p8) (nt:=31) (rs:=[.tmp 0]) rfl (by simp)]; unfold p8
 unfold K0
 have r1:=fun ext tch=>gE (b:=0) (os:=aK 0) (ext:=ext) (tch:=tch) (steps:=1) hir_Run rfl (by decide) rfl oY
 have r2:=fun ext tch=>gE (b:=8) (os:=aK 0 ++ (IM 6 3 0 ++ aK 8)) (ext:=ext) (tch:=tch) (steps:=2) hir_Run rfl (by decide) aJ.2 aJ.1
 have r3:=fun ext tch=>sD (b:=16) (os:=aK 0 ++ (IM 6 3 0 ++ (aK 8 ++ (IM 14 1 7 ++ aK 16)))) (ext:=ext) (tch:=tch) hir_Check rfl
 unfold aK at r1
 unfold aK IM at r2 r3
 simp only [Nat.zero_add,Nat.reduceAdd,List.cons_append,List.nil_append,List.append_nil,List.length_cons,List.length_nil] at r1 r2 r3
 simp -implicitDefEqProofs only [sB nlaw06_seven,sC nlaw06_mainOf,rY,oP,oS,oT,oU,oV,rZ,oW,AD,AO,r1,r2,r3,show decide ((3:Int)=3)=true from rfl,show decide ((1:Int)=1)=true from rfl,show decide ((7:Int)=7)=true from rfl,show decide (((0:Nat):Int)=0)=true from rfl,XP,Nat.reduceAdd,Nat.reduceSub,Nat.reduceLT,Nat.reduceLeDiff,Nat.reduceEqDiff,Nat.reduceMul,↓reduceIte]
def Q0:=u5 (fun p:Unit=>[]) (fun p=>[.bool true]) (fun p=>True)
theorem Hx (hlaw06_known:T 8=some Q0)  {K:PK}:evP ⟨A0,T,A4⟩ (.call 8 [] K)=some (.val (openTs K.os.length [.bool true]).1 ⟨K.os ++ (openTs K.os.length [.bool true]).2,K.ext,K.tch⟩):=C0 hlaw06_known (by simp -implicitDefEqProofs only [VV,XP,seval]) (C1 (a:=fun p:Unit=>[]) (r:=fun p=>[.bool true]) (fun x y e=>by simp only [VJ] at e; simp only [e]) () trivial) (by simp -implicitDefEqProofs only [VN,XP,seval])
theorem Qa (nlaw06_seven:T 22=none) (nlaw06_mainOf:T 38=none) (hir_Run:T 10=some R6) (hir_Check:T 7=some N1) (hP:PEok ⟨A0,T,A4⟩):TC A0 8 Q0:=D1 hP fun p h=>Hw nlaw06_seven nlaw06_mainOf hir_Run hir_Check
end Go.Proofs.AmEnv
set_option maxRecDepth 100000
namespace Go.Proofs.AmEnv
open Go Go.AM
section
variable {m:Modl} {d:Int} {C:Int->List Int->Mst->Rs}
def Dp (d:Int) (s:Mst):Mst:={ s with steps:=s.steps + d }
structure Pl (s r:Mst):Prop where
 pre:s.out <+: r.out
 me:r.out.length + r.steps.toNat≤s.out.length + s.steps.toNat
theorem Pl.refl (s:Mst):Pl s s:=⟨List.prefix_rfl,Nat.le_refl _⟩
theorem Pl.trans {a b c:Mst} (h:Pl a b) (k:Pl b c):Pl a c:=⟨h.pre.trans k.pre,Nat.le_trans k.me h.me⟩
theorem Pl.stp {s:Mst} (h:1≤s.steps):Pl s (stp s)∧(AmEnv.stp s).out.length + (AmEnv.stp s).steps.toNat + 1≤s.out.length + s.steps.toNat:=by
 refine ⟨⟨List.prefix_rfl,?_⟩,?_⟩ <;> (simp only [AmEnv.stp]; omega)
def Xc (st c:Int):Prop:=(st=3∧c=0)∨(st=2∧1≤c∧c≤4)
def Rs.so:Rs->Prop | .ret _ _=>True | .stop st c _=>Xc st c
def I2.so:I2->Prop | .go _ _=>True | .stop st c _=>Xc st c
theorem oZ (t:Int) (op:List UInt8) (a b:Int):(X2 t op a b).2=0∨(1≤(X2 t op a b).2∧(X2 t op a b).2≤4):=by
 unfold X2 I6 V0
 repeat' split
 all_goals simp
theorem gF {x:Ins} {r:List Int} {s:Mst}:s.out <+: (doesI m x r s).2.1.out∧(doesI m x r s).2.1.out.length≤s.out.length + 1∧(doesI m x r s).2.1.steps=s.steps∧((doesI m x r s).1=0∨(1≤(doesI m x r s).1∧(doesI m x r s).1≤4)):=by
 have hb:=oZ x.ty x.s (at' r x.a) (at' r x.b)
 unfold doesI
 repeat' split
 all_goals first
  | exact ⟨List.prefix_rfl,Nat.le_succ _,rfl,.inl rfl⟩
  | exact ⟨List.prefix_rfl,Nat.le_succ _,rfl,.inr ⟨(by decide:(1:Int)≤3),(by decide:(3:Int)≤4)⟩⟩
  | exact ⟨List.prefix_rfl,Nat.le_succ _,rfl,hb⟩
  | exact ⟨List.prefix_append _ _,by simp,rfl,.inl rfl⟩
theorem pA (x:Ins) (r:List Int) (s:Mst):doesI m x r (Dp d s)=((doesI m x r s).1,Dp d (doesI m x r s).2.1,(doesI m x r s).2.2):=by
 unfold doesI Dp dAt
 dsimp only
 by_cases h1:x.op=1
 . simp only [if_pos h1]
 simp only [if_neg h1]
 by_cases h2:x.op=2
 . simp only [if_pos h2]
 simp only [if_neg h2]
 by_cases h3:x.op=3
 . simp only [if_pos h3]
   by_cases hv:(X2 x.ty x.s (at' r x.a) (at' r x.b)).2=0
   . simp only [if_pos hv]
   . simp only [if_neg hv]
 simp only [if_neg h3]
 by_cases h4:x.op=4
 . simp only [if_pos h4]
 simp only [if_neg h4]
 by_cases h5:x.op=5
 . simp only [if_pos h5]
   by_cases hv:thereD (at' r x.a) (gAt m x.n).size=true
   . simp only [if_pos hv]
   . simp only [if_neg hv]
 simp only [if_neg h5]
 by_cases h6:x.op=6
 . simp only [if_pos h6]
   by_cases hv:thereD (at' r x.a) (gAt m x.n).size=true
   . simp only [if_pos hv]
   . simp only [if_neg hv]
 simp only [if_neg h6]
 by_cases h7:x.op=7
 . simp only [if_pos h7]
 simp only [if_neg h7]
 by_cases h8:x.op=8
 . simp only [if_pos h8]
 simp only [if_neg h8]
 by_cases h10:x.op=10
 . simp only [if_pos h10]
 simp only [if_neg h10]
 by_cases h11:x.op=11
 . simp only [if_pos h11]
 simp only [if_neg h11]
theorem gG (s:Mst):stp (Dp d s)=Dp d (stp s):=by
 unfold stp Dp
 simp only
 congr 1; omega
theorem Fq (hC:∀ f a s,Pl s (C f a s).st∧(C f a s).so):∀ (l:List Ins) (r:List Int) (s:Mst),Pl s (insF m C l r s).st∧(insF m C l r s).so
 | [],r,s=>⟨Pl.refl s,trivial⟩
 | x :: l,r,s=>by
  rw [insF]
  by_cases h1:s.steps < 1
  . rw [if_pos h1]; exact ⟨Pl.refl s,.inl ⟨rfl,rfl⟩⟩
  . rw [if_neg h1]
    obtain ⟨p1,p2⟩:=Pl.stp (s:=s) (by omega)
    by_cases h9:x.op=9
    . rw [if_pos h9]
      obtain ⟨q1,q2⟩:=hC x.n (argsI x r) (stp s)
      cases hy:C x.n (argsI x r) (stp s) with
      | stop z e s2=>rw [hy] at q1 q2; exact ⟨p1.trans q1,q2⟩
      | ret v s2 =>
       rw [hy] at q1
       obtain ⟨t1,t2⟩:=Fq hC l (if 0≤x.dst then put' r x.dst v else r) s2
       exact ⟨(p1.trans q1).trans t1,t2⟩
    . rw [if_neg h9]
      obtain ⟨k1,k2,k3,k4⟩:=gF (m:=m) (x:=x) (r:=r) (s:=stp s)
      by_cases hv:(doesI m x r (stp s)).1=0
      . rw [if_pos hv]
        obtain ⟨t1,t2⟩:=Fq hC l (doesI m x r (stp s)).2.2 (doesI m x r (stp s)).2.1
        exact ⟨Pl.trans ⟨p1.pre.trans k1,by rw [k3]; omega⟩ t1,t2⟩
      . rw [if_neg hv]
        refine ⟨p1,.inr ⟨rfl,?_⟩⟩
        rcases k4 with k4 | k4
        . exact absurd k4 hv
        . exact k4
theorem Hy {c:Cod} (hC:∀ f a s,Pl s (C f a s).st∧(C f a s).so):∀ (n:Nat) (i:Int) (r:List Int) (s:Mst),Pl s (I7 m C c n i r s).st∧(I7 m C c n i r s).so
 | 0,i,r,s=>⟨Pl.refl s,.inl ⟨rfl,rfl⟩⟩
 | n + 1,i,r,s=>by
  rw [I7]
  obtain ⟨q1,q2⟩:=Fq (m:=m) hC (blkAt c i).code r s
  cases hy:insF m C (blkAt c i).code r s with
  | stop z e s2=>rw [hy] at q1 q2; exact ⟨q1,q2⟩
  | go r2 s2 =>
   rw [hy] at q1
   dsimp only
   by_cases h1:s2.steps < 1
   . rw [if_pos h1]; exact ⟨q1,.inl ⟨rfl,rfl⟩⟩
   . rw [if_neg h1]
     obtain ⟨p1,p2⟩:=Pl.stp (s:=s2) (by omega)
     by_cases h3:(blkAt c i).e.kind=3
     . rw [if_pos h3]; exact ⟨q1.trans ⟨p1.pre,p1.me⟩,trivial⟩
     . rw [if_neg h3]
       obtain ⟨t1,t2⟩:=Hy hC n (if (blkAt c i).e.kind=2∧at' r2 (blkAt c i).e.a=0 then (blkAt c i).e.els else (blkAt c i).e.to) r2 (stp s2)
       exact ⟨(Pl.trans q1 p1).trans t1,t2⟩
theorem Xd:∀ (k:Nat) (f:Int) (a:List Int) (s:Mst),Pl s (I8 m k f a s).st∧(I8 m k f a s).so
 | 0,f,a,s=>⟨Pl.refl s,.inr ⟨rfl,by decide⟩⟩
 | k + 1,f,a,s=>by
  rw [I8]
  by_cases h:32≤s.calls
  . rw [if_pos h]; exact ⟨Pl.refl s,.inr ⟨rfl,by decide⟩⟩
  . rw [if_neg h]
    obtain ⟨q1,q2⟩:=Hy (m:=m) (c:=Es m f) (Xd k) (s.steps.toNat + 1) 0 (initR (Es m f).regs.length a) { s with calls:=s.calls + 1 }
    exact ⟨⟨q1.pre,q1.me⟩,q2⟩
def Ma (d:Int) (x y:Rs):Prop:=match x with
 | .ret v s=>y=.ret v (Dp d s)
 | .stop st c s=>if st=3 then s.out <+: y.st.out else y=.stop st c (Dp d s)
def sE (d:Int) (x y:I2):Prop:=match x with
 | .go r s=>y=.go r (Dp d s)
 | .stop st c s=>if st=3 then s.out <+: y.st.out else y=.stop st c (Dp d s)
theorem Xe (hd:0≤d) (hC:∀ f a s,Pl s (C f a s).st∧(C f a s).so) (hS:∀ f a s,Ma d (C f a s) (C f a (Dp d s))):∀ (l:List Ins) (r:List Int) (s:Mst),sE d (insF m C l r s) (insF m C l r (Dp d s))
 | [],r,s=>rfl
 | x :: l,r,s=>by
  have hpl:=(Fq (m:=m) hC (x :: l) r (Dp d s)).1.pre
  rw [insF]
  by_cases h1:s.steps < 1
  . rw [if_pos h1]; exact hpl
  . rw [if_neg h1]
    rw [insF]
    have h1':¬ (Dp d s).steps < 1:=by show ¬ s.steps + d < 1; omega
    rw [if_neg h1',gG]
    by_cases h9:x.op=9
    . rw [if_pos h9,if_pos h9]
      have q:=hS x.n (argsI x r) (stp s)
      have ql:=hC x.n (argsI x r) (Dp d (stp s))
      cases hy:C x.n (argsI x r) (stp s) with
      | stop z e s2 =>
       rw [hy] at q
       unfold Ma at q
       unfold sE
       dsimp only at q ⊢
       by_cases hz:z=3
       . rw [if_pos hz] at q ⊢
         cases hy2:C x.n (argsI x r) (Dp d (stp s)) with
         | stop z2 e2 s3=>rw [hy2] at q; exact q
         | ret v s3 =>
          rw [hy2] at q
          exact q.trans (Fq (m:=m) hC l (if 0≤x.dst then put' r x.dst v else r) s3).1.pre
       . rw [if_neg hz] at q ⊢
         rw [q]
      | ret v s2 =>
       rw [hy] at q
       have q:C x.n (argsI x r) (Dp d (stp s))=.ret v (Dp d s2):=q
       rw [q]
       exact Xe hd hC hS l (if 0≤x.dst then put' r x.dst v else r) s2
    . rw [if_neg h9,if_neg h9,pA]
      by_cases hv:(doesI m x r (stp s)).1=0
      . rw [if_pos hv,if_pos hv]
        exact Xe hd hC hS l (doesI m x r (stp s)).2.2 (doesI m x r (stp s)).2.1
      . rw [if_neg hv,if_neg hv]
        unfold sE
        dsimp only
        rw [if_neg (by decide)]
theorem aL {c:Cod} (hd:0≤d) (hC:∀ f a s,Pl s (C f a s).st∧(C f a s).so) (hS:∀ f a s,Ma d (C f a s) (C f a (Dp d s))):∀ (n n':Nat) (i:Int) (r:List Int) (s:Mst),s.steps.toNat < n->(Dp d s).steps.toNat < n'->Ma d (I7 m C c n i r s) (I7 m C c n' i r (Dp d s))
 | 0,n',i,r,s,h,h'=>absurd h (Nat.not_lt_zero _)
 | n + 1,0,i,r,s,h,h'=>absurd h' (Nat.not_lt_zero _)
 | n + 1,n' + 1,i,r,s,h,h'=>by
  have hpl:=(Hy (m:=m) (c:=c) hC (n' + 1) i r (Dp d s)).1.pre
  have q:=Xe (m:=m) hd hC hS (blkAt c i).code r s
  have pp:=(Fq (m:=m) hC (blkAt c i).code r s).1
  have pq:=(Fq (m:=m) hC (blkAt c i).code r (Dp d s)).1
  rw [I7,I7]
  cases hy:insF m C (blkAt c i).code r s with
  | stop z e s2 =>
   rw [hy] at q
   unfold sE at q
   unfold Ma
   dsimp only at q ⊢
   by_cases hz:z=3
   . rw [if_pos hz] at q ⊢
     rw [I7] at hpl
     cases hy2:insF m C (blkAt c i).code r (Dp d s) with
     | stop z2 e2 s3=>rw [hy2] at q; exact q
     | go r3 s3 =>
      rw [hy2] at q
      have q:s2.out <+: s3.out:=q
      dsimp only
      by_cases h1:s3.steps < 1
      . rw [if_pos h1]; exact q
      . rw [if_neg h1]
        by_cases h3:(blkAt c i).e.kind=3
        . rw [if_pos h3]; exact q
        . rw [if_neg h3]
          exact q.trans (Hy (m:=m) (c:=c) hC n' _ r3 (stp s3)).1.pre
   . rw [if_neg hz] at q ⊢
     rw [q]
  | go r2 s2 =>
   rw [hy] at q pp
   have q:insF m C (blkAt c i).code r (Dp d s)=.go r2 (Dp d s2):=q
   rw [q]
   rw [q] at pq
   have hm1:s2.out.length + s2.steps.toNat≤s.out.length + s.steps.toNat:=pp.me
   have hle1:s.out.length≤s2.out.length:=pp.pre.length_le
   have hm2:s2.out.length + (s2.steps + d).toNat≤s.out.length + (s.steps + d).toNat:=pq.me
   dsimp only
   by_cases h1:s2.steps < 1
   . rw [if_pos h1]
     show Ma d (.stop 3 0 s2) _
     unfold Ma
     dsimp only
     rw [if_pos rfl]
     by_cases h1':(Dp d s2).steps < 1
     . rw [if_pos h1']; exact List.prefix_rfl
     . rw [if_neg h1']
       by_cases h3:(blkAt c i).e.kind=3
       . rw [if_pos h3]; exact List.prefix_rfl
       . rw [if_neg h3]
         exact (Hy (m:=m) (c:=c) hC n' _ r2 (stp (Dp d s2))).1.pre
   . have h1':¬ (Dp d s2).steps < 1:=by show ¬ s2.steps + d < 1; omega
     rw [if_neg h1,if_neg h1',gG]
     by_cases h3:(blkAt c i).e.kind=3
     . rw [if_pos h3,if_pos h3]; rfl
     . rw [if_neg h3,if_neg h3]
       have h':(s.steps + d).toNat < n' + 1:=h'
       exact aL hd hC hS n n' _ r2 (stp s2) (by show (s2.steps - 1).toNat < n; omega) (by show (s2.steps - 1 + d).toNat < n'; omega)
theorem aM (hd:0≤d):∀ (k:Nat) (f:Int) (a:List Int) (s:Mst),Ma d (I8 m k f a s) (I8 m k f a (Dp d s))
 | 0,f,a,s=>by unfold Ma I8; dsimp only; rw [if_neg (by decide)]
 | k + 1,f,a,s=>by
  rw [I8,I8]
  by_cases h:32≤s.calls
  . rw [if_pos h,if_pos (show 32≤(Dp d s).calls from h)]
    unfold Ma; dsimp only; rw [if_neg (by decide)]
  . rw [if_neg h,if_neg (show ¬ 32≤(Dp d s).calls from h)]
    exact aL (m:=m) (c:=Es m f) hd (Xd k) (aM hd k) (s.steps.toNat + 1) ((Dp d s).steps.toNat + 1) 0 (initR (Es m f).regs.length a) { s with calls:=s.calls + 1 } (Nat.lt_succ_self _) (Nat.lt_succ_self _)
structure More (x y:Rs) (steps:Int):Prop where
 st:1≤x.sc.1∧x.sc.1≤3
 le:(x.st.out.length:Int)≤steps
 pre:x.st.out <+: y.st.out
 eq:x.sc.1 ≠ 3->x.sc=y.sc∧x.st.out=y.st.out
 go:x.sc.1=3->x.sc.2=0
 tr:x.sc.1=2->1≤x.sc.2∧x.sc.2≤4
theorem pB {input:List Int} {steps:Int} (hs:0≤steps) (hd:0≤d):More (H5 m input steps) (H5 m input (steps + d)) steps:=by
 obtain ⟨p1,p2⟩:=Xd (m:=m) 33 (x6 m) [] (sI steps input m.gs)
 have q:Ma d (H5 m input steps) (H5 m input (steps + d)):=aM (m:=m) hd 33 (x6 m) [] (sI steps input m.gs)
 replace p1:Pl (sI steps input m.gs) (H5 m input steps).st:=p1
 replace p2:(H5 m input steps).so:=p2
 have hle:((H5 m input steps).st.out.length:Int)≤steps:=by
  have:(H5 m input steps).st.out.length + (H5 m input steps).st.steps.toNat≤0 + steps.toNat:=p1.me
  omega
 cases hy:H5 m input steps with
 | ret v s =>
  rw [hy] at q p2 hle
  have q:H5 m input (steps + d)=.ret v (Dp d s):=q
  rw [q]
  exact ⟨⟨(by decide:(1:Int)≤1),(by decide:(1:Int)≤3)⟩,hle,List.prefix_rfl,fun _=>⟨rfl,rfl⟩,fun h=>absurd h (by show ¬ (1:Int)=3; decide),fun h=>absurd h (by show ¬ (1:Int)=2; decide)⟩
 | stop st c s =>
  rw [hy] at q p2 hle
  unfold Ma at q
  dsimp only at q
  replace p2:Xc st c:=p2
  unfold Xc at p2
  by_cases h3:st=3
  . rw [if_pos h3] at q
    exact ⟨by show 1≤st∧st≤3; omega,hle,q,fun h=>absurd h3 h,fun _=>by show c=0; omega,fun h=>by have h:st=2:=h; omega⟩
  . rw [if_neg h3] at q
    rw [q]
    exact ⟨by show 1≤st∧st≤3; omega,hle,List.prefix_rfl,fun _=>⟨rfl,rfl⟩,fun h=>absurd h h3,fun _=>by show 1≤c∧c≤4; omega⟩
end
end Go.Proofs.AmEnv
set_option maxRecDepth 100000
namespace Go.Proofs.AmEnv
open Go Go.AM
variable {T:Nat->Option (List AV->Option (List AV))}
def xM (m:Modl) (inp oth:List Int) (st mo:Int):AV:=.agg [fslN (m.gs.map Glo.F),fslN (m.fs.map Cod.F),fslN (ints inp),fslN (ints oth),.int .i64 st,.int .i64 mo]
section
variable {m:Modl} {inp oth:List Int} {st mo:Int}
theorem run_v {K:PK} {i j:Nat} {oa:List Int} {x y:Int} (hE:T 12=some k9) (hk:oa.length * 8≤bigN) (r1:rowOf K.os 6 i=some (0,ints oa,1)) (r2:rowOf K.os 6 j=some (0,ints oa,1)) :
 evP ⟨A0,T,A4⟩ (.call 12 [.agg [.msl i 0 oa.length 1,.int .i64 x,.int .i64 y],.agg [.msl j 0 oa.length 1,.int .i64 x,.int .i64 y]] K)=some (.val [.bool true] ⟨K.os ++ [],K.ext,K.tch⟩):=by
 have v:∀ i,rowOf K.os 6 i=some (0,ints oa,1)->viewV K.os (.msl i 0 oa.length 1)=some (fslN (ints oa)):=fun i r2=>by
  rw [wv_msl,r2]
  show (if 0=0∧1=1∧0 + oa.length≤(ints oa).length then (match frzL (((ints oa).drop 0).take oa.length) with | some es=>some (fslN es) | none=>none) else none)=_
  rw [if_pos ⟨rfl,rfl,by simp [ints]⟩,List.drop_zero,List.take_of_length_le (by simp [ints]),frzL_ints]
 have w:∀ i,rowOf K.os 6 i=some (0,ints oa,1)->viewA K.os (.agg [.msl i 0 oa.length 1,.int .i64 x,.int .i64 y])=some (.agg [fslN (ints oa),.int .i64 x,.int .i64 y]):=fun i r=>by
  show (match consO (viewV K.os (.msl i 0 oa.length 1)) _ with | some cs=>some (AV.agg cs) | none=>none)=_
  rw [v i r]; rfl
 have hv:viewAs K.os [.agg [.msl i 0 oa.length 1,.int .i64 x,.int .i64 y],.agg [.msl j 0 oa.length 1,.int .i64 x,.int .i64 y]]=some [.agg [fslN (ints oa),.int .i64 x,.int .i64 y],.agg [fslN (ints oa),.int .i64 x,.int .i64 y]]:=by
  rw [va_cons,va_cons,va_nil,w i r1,w j r2]; rfl
 have hg:k9 [.agg [fslN (ints oa),.int .i64 x,.int .i64 y],.agg [fslN (ints oa),.int .i64 x,.int .i64 y]]=some [.bool (decide (x=x∧y=y∧oa=oa))]:=C1 (a:=fun p:List Int × List Int × Int × Int × Int × Int=>[.agg [fslN (ints p.1),.int .i64 p.2.2.1,.int .i64 p.2.2.2.1],.agg [fslN (ints p.2.1),.int .i64 p.2.2.2.2.1,.int .i64 p.2.2.2.2.2]]) (r:=fun p=>[.bool (decide (p.2.2.1=p.2.2.2.2.1∧p.2.2.2.1=p.2.2.2.2.2∧p.1=p.2.1))]) (fun x y e=>by simp only [List.cons.injEq,AV.agg.injEq,AV.int.injEq,true_and,fslN_iff,ints_iff,and_true] at e; simp only [e]) (oa,oa,x,y,x,y) hk
 rw [C0 hE hv hg rfl,decide_eq_true ⟨rfl,rfl,rfl⟩]
 rfl
end
end Go.Proofs.AmEnv
set_option maxRecDepth 100000
namespace Go.Proofs.AmEnv
open Go Go.AM
section
variable {m:Modl} {C:Int->List Int->Mst->Rs}
def dP (k:Nat) (l l':List Int):Prop:=∀ i,i < k->l.getD i 0=l'.getD i 0
def wi (s:Mst) (l:List Int):Mst:={ s with input:=l }
theorem dP.le {k j:Nat} {l l':List Int} (h:dP k l l') (e:j≤k):dP j l l':=fun i hi=>h i (by omega)
theorem Tu (l:List Int) (i:Nat):l.tail.getD i 0=l.getD (i + 1) 0:=by cases l <;> simp
theorem Tv (l:List Int):l.headD 0=l.getD 0 0:=by cases l <;> simp
theorem sF {x:Ins} {r:List Int} {s:Mst} {l:List Int} (h:dP (s.steps.toNat + 1) s.input l):∃ l',doesI m x r (wi s l)=((doesI m x r s).1,wi (doesI m x r s).2.1 l',(doesI m x r s).2.2)∧dP s.steps.toNat (doesI m x r s).2.1.input l':=by
 by_cases h10:x.op=10
 . refine ⟨l.tail,?_,?_⟩
   . unfold doesI
     simp only [h10,Int.reduceEq,↓reduceIte]
     show (0,wi s l.tail,put' r x.dst (l.headD 0))=(0,wi s l.tail,put' r x.dst (s.input.headD 0))
     rw [Tv,Tv,h 0 (by omega)]
   . unfold doesI
     simp only [h10,Int.reduceEq,↓reduceIte]
     intro i hi
     rw [Tu,Tu]
     exact h (i + 1) (by omega)
 . have e:(doesI m x r s).2.1.input=s.input∧doesI m x r (wi s l)=((doesI m x r s).1,wi (doesI m x r s).2.1 l,(doesI m x r s).2.2):=by
    unfold doesI wi dAt
    dsimp only
    by_cases h1:x.op=1
    . simp only [if_pos h1,and_self]
    simp only [if_neg h1]
    by_cases h2:x.op=2
    . simp only [if_pos h2,and_self]
    simp only [if_neg h2]
    by_cases h3:x.op=3
    . simp only [if_pos h3]
      by_cases hv:(X2 x.ty x.s (at' r x.a) (at' r x.b)).2=0
      . simp only [if_pos hv,and_self]
      . simp only [if_neg hv,and_self]
    simp only [if_neg h3]
    by_cases h4:x.op=4
    . simp only [if_pos h4,and_self]
    simp only [if_neg h4]
    by_cases h5:x.op=5
    . simp only [if_pos h5]
      by_cases hv:thereD (at' r x.a) (gAt m x.n).size=true
      . simp only [if_pos hv,and_self]
      . simp only [if_neg hv,and_self]
    simp only [if_neg h5]
    by_cases h6:x.op=6
    . simp only [if_pos h6]
      by_cases hv:thereD (at' r x.a) (gAt m x.n).size=true
      . simp only [if_pos hv,and_self]
      . simp only [if_neg hv,and_self]
    simp only [if_neg h6]
    by_cases h7:x.op=7
    . simp only [if_pos h7,and_self]
    simp only [if_neg h7]
    by_cases h8:x.op=8
    . simp only [if_pos h8,and_self]
    simp only [if_neg h8,if_neg h10]
    by_cases h11:x.op=11
    . simp only [if_pos h11,and_self]
    simp only [if_neg h11,and_self]
   exact ⟨l,e.2,by rw [e.1]; exact h.le (by omega)⟩
def NW (x y:Rs):Prop:=match x with
 | .ret v s=>∃ l,y=.ret v (wi s l)∧dP s.steps.toNat s.input l
 | .stop st c s=>∃ l,y=.stop st c (wi s l)
def RD (x y:I2):Prop:=match x with
 | .go r s=>∃ l,y=.go r (wi s l)∧dP s.steps.toNat s.input l
 | .stop st c s=>∃ l,y=.stop st c (wi s l)
def NX (C:Int->List Int->Mst->Rs):Prop:=∀ f a s l,dP s.steps.toNat s.input l->NW (C f a s) (C f a (wi s l))
theorem dQ (hC:NX C):∀ (c:List Ins) (r:List Int) (s:Mst) (l:List Int),dP s.steps.toNat s.input l->RD (insF m C c r s) (insF m C c r (wi s l))
 | [],r,s,l,h=>⟨l,rfl,h⟩
 | x :: c,r,s,l,h=>by
  rw [insF,insF]
  by_cases h1:s.steps < 1
  . rw [if_pos h1,if_pos (show (wi s l).steps < 1 from h1)]; exact ⟨l,rfl⟩
  . rw [if_neg h1,if_neg (show ¬ (wi s l).steps < 1 from h1)]
    have hs:(stp s).steps.toNat + 1=s.steps.toNat:=by show (s.steps - 1).toNat + 1=_; omega
    have h':dP ((stp s).steps.toNat + 1) (stp s).input l:=by rw [hs]; exact h
    show RD _ (if x.op=9 then (match C x.n (argsI x r) (wi (stp s) l) with | .ret v s2=>insF m C c (if 0≤x.dst then put' r x.dst v else r) s2 | .stop st c s2=>.stop st c s2) else if (doesI m x r (wi (stp s) l)).1=0 then insF m C c (doesI m x r (wi (stp s) l)).2.2 (doesI m x r (wi (stp s) l)).2.1 else .stop 2 (doesI m x r (wi (stp s) l)).1 (wi (stp s) l))
    by_cases h9:x.op=9
    . rw [if_pos h9,if_pos h9]
      have q:=hC x.n (argsI x r) (stp s) l (h'.le (by omega))
      cases hy:C x.n (argsI x r) (stp s) with
      | stop z e s2 =>
       rw [hy] at q
       obtain ⟨l2,q⟩:=q
       rw [q]; exact ⟨l2,rfl⟩
      | ret v s2 =>
       rw [hy] at q
       obtain ⟨l2,q,qa⟩:=q
       rw [q]
       exact dQ hC c (if 0≤x.dst then put' r x.dst v else r) s2 l2 qa
    . rw [if_neg h9,if_neg h9]
      obtain ⟨l2,q,qa⟩:=sF (m:=m) (x:=x) (r:=r) h'
      have k3:=(gF (m:=m) (x:=x) (r:=r) (s:=stp s)).2.2.1
      rw [q]
      by_cases hv:(doesI m x r (stp s)).1=0
      . rw [if_pos hv,if_pos hv]
        exact dQ hC c _ _ l2 (by rw [k3]; exact qa)
      . rw [if_neg hv,if_neg hv]; exact ⟨l,rfl⟩
theorem gH {c:Cod} (hC:NX C):∀ (n:Nat) (i:Int) (r:List Int) (s:Mst) (l:List Int),dP s.steps.toNat s.input l->NW (I7 m C c n i r s) (I7 m C c n i r (wi s l))
 | 0,i,r,s,l,h=>⟨l,rfl⟩
 | n + 1,i,r,s,l,h=>by
  rw [I7,I7]
  have q:=dQ (m:=m) hC (blkAt c i).code r s l h
  cases hy:insF m C (blkAt c i).code r s with
  | stop z e s2 =>
   rw [hy] at q
   obtain ⟨l2,q⟩:=q
   rw [q]; exact ⟨l2,rfl⟩
  | go r2 s2 =>
   rw [hy] at q
   obtain ⟨l2,q,qa⟩:=q
   rw [q]
   dsimp only
   by_cases h1:s2.steps < 1
   . rw [if_pos h1,if_pos (show (wi s2 l2).steps < 1 from h1)]; exact ⟨l2,rfl⟩
   . rw [if_neg h1,if_neg (show ¬ (wi s2 l2).steps < 1 from h1)]
     have hq:dP (stp s2).steps.toNat (stp s2).input l2:=qa.le (by show (s2.steps - 1).toNat≤s2.steps.toNat; omega)
     by_cases h3:(blkAt c i).e.kind=3
     . rw [if_pos h3,if_pos h3]; exact ⟨l2,rfl,hq⟩
     . rw [if_neg h3,if_neg h3]
       exact gH hC n _ r2 (stp s2) l2 hq
theorem gI:∀ (k:Nat),NX (I8 m k)
 | 0=>fun f a s l h=>⟨l,rfl⟩
 | k + 1=>fun f a s l h=>by
  rw [I8,I8]
  by_cases h32:32≤s.calls
  . rw [if_pos h32,if_pos (show 32≤(wi s l).calls from h32)]; exact ⟨l,rfl⟩
  . rw [if_neg h32,if_neg (show ¬ 32≤(wi s l).calls from h32)]
    exact gH (m:=m) (c:=Es m f) (gI k) (s.steps.toNat + 1) 0 (initR (Es m f).regs.length a) { s with calls:=s.calls + 1 } l h
theorem gJ {i1 i2:List Int} {steps:Int} (h:dP steps.toNat i1 i2):(H5 m i1 steps).sc=(H5 m i2 steps).sc∧(H5 m i1 steps).st.out=(H5 m i2 steps).st.out:=by
 have q:NW (H5 m i1 steps) (H5 m i2 steps):=gI (m:=m) 33 (x6 m) [] (sI steps i1 m.gs) i2 h
 cases hy:H5 m i1 steps with
 | ret v s=>rw [hy] at q; obtain ⟨l,q,_⟩:=q; rw [q]; exact ⟨rfl,rfl⟩
 | stop a b s=>rw [hy] at q; obtain ⟨l,q⟩:=q; rw [q]; exact ⟨rfl,rfl⟩
theorem dS (k j:Nat) (l:List Int):dP k l (l ++ List.replicate j 0):=by
 intro i _
 rw [List.getD_eq_getElem?_getD,List.getD_eq_getElem?_getD,List.getElem?_append]
 split
 . rfl
 . rename_i h
   rw [List.getElem?_eq_none (by omega),List.getElem?_replicate]
   split <;> rfl
theorem pC {k:Nat} {l o:List Int} (h:k < l.length):dP k l (l.take k ++ o):=by
 intro i hi
 rw [List.getD_eq_getElem?_getD,List.getD_eq_getElem?_getD,List.getElem?_append_left (by rw [List.length_take]; omega),List.getElem?_take,if_pos hi]
end
end Go.Proofs.AmEnv
set_option maxRecDepth 100000
namespace Go.AM
section
variable {K:PK} {os:List PO} {es base xs:List AV} {s:AV} {te:TI}
theorem FC {os2:List PO} {tc:List Nat} (hw:wholeP s K.os=true) (hz:(base.length + xs.length) * te.bytes≤140737488355328):tP te s K base tc (some (xs,os2))=some (.msl os2.length 0 (base.length + xs.length) te.size,{ K with os:=os2 ++ [.row 0 (base ++ xs) te.size],tch:=os2.length :: tc ++ K.tch }):=by
 unfold tP joinP
 dsimp only
 rw [hw,Bool.or_true,if_pos rfl,if_pos hz]
def NY (te:TI) (n:Nat) (K:PK) (r:Option (List AV × List PO × List Nat)):Option (AV × PK):=match r with | some (base,os1,tc)=>if (base.length + n) * te.bytes≤140737488355328 then some (.msl os1.length 0 (base.length + n) te.size,{ K with os:=os1 ++ [.row 0 (base ++ List.replicate n te.zero) te.size],tch:=os1.length :: tc ++ K.tch }) else none | none=>none
theorem vB {n:Nat} (h:0 < n):Ic te s n K=NY te n K (takeB te s K.os):=by
 unfold Ic NY
 cases takeB te s K.os with
 | none=>rfl
 | some p =>
  obtain ⟨base,os1,tc⟩:=p
  dsimp only
  rw [decide_eq_true h,Bool.true_or,if_pos rfl]
  unfold joinP
  rw [List.length_replicate]
theorem aN {n:Nat} {tc:List Nat} (hz:(base.length + n) * te.bytes≤140737488355328):NY te n K (some (base,os,tc))=some (.msl os.length 0 (base.length + n) te.size,{ K with os:=os ++ [.row 0 (base ++ List.replicate n te.zero) te.size],tch:=os.length :: tc ++ K.tch }):=if_pos hz
end
end Go.AM
namespace Go.Proofs.AmEnv
open Go Go.AM
variable {T:Nat->Option (List AV->Option (List AV))}
theorem Hz  {l:List Int} {s:Int}:AM.Comes ⟨A0,T,A4⟩ 14 [fslN (ints l),.int .i64 s] [.int .i64 (min (l.length:Int) (max 0 s))]:=by
 refine ⟨[.int .i64 (min (l.length:Int) (max 0 s))],⟨[],0,[]⟩,?_,back_of rfl List.nodup_nil rfl rfl rfl⟩
 rw [A7 (c:=GZ) (nt:=10) (rs:=[.tmp 4]) rfl (by simp)]; unfold GZ
 unfold K0
 simp -implicitDefEqProofs only [RA,RB,List.length_map,XP,seval]
def Q1:=u5 (fun p:(List Int) × (Int)=>[fslN (ints p.1),.int .i64 p.2]) (fun p=>[.int .i64 (min (p.1.length:Int) (max 0 p.2))]) (fun p=>True)
theorem Xf (hlaw06_reads:T 14=some Q1) {l:List Int} {s:Int} {K:PK}:evP ⟨A0,T,A4⟩ (.call 14 [fslN (ints l),.int .i64 s] K)=some (.val (openTs K.os.length [.int .i64 (min (l.length:Int) (max 0 s))]).1 ⟨K.os ++ (openTs K.os.length [.int .i64 (min (l.length:Int) (max 0 s))]).2,K.ext,K.tch⟩):=C0 hlaw06_reads (by simp -implicitDefEqProofs only [VV,XP,seval]) (C1 (a:=fun p:(List Int) × (Int)=>[fslN (ints p.1),.int .i64 p.2]) (r:=fun p=>[.int .i64 (min (p.1.length:Int) (max 0 p.2))]) (fun x y e=>by simp only [VJ] at e; simp only [e]) (l,s) trivial) (by simp -implicitDefEqProofs only [VN,XP,seval])
theorem Qb  (hP:PEok ⟨A0,T,A4⟩):TC A0 14 Q1:=D1 hP fun p h=>Hz
section
variable {m:Modl} {inp oth:List Int} {st mo:Int}
theorem sG (hB:T 6=some X1) (hC:T 7=some N1) (hK:T 8=some Q0) (hU:T 9=some kL) (hR:T 10=some R6) (hD:T 14=some Q1) (hE:T 12=some k9) (hI:T 13=some K9) (hm:m.ok) (h:S0 m=true∨(S0 m=false∧1000 < inp.length)∨(S0 m=false∧¬ 1000 < inp.length∧1000 < oth.length)∨(S0 m=false∧¬ 1000 < inp.length∧¬ 1000 < oth.length∧¬ O5 m=0)):evP ⟨A0,T,A4⟩ (.body 4 [xM m inp oth st mo] K0)=some (.val [.bool true] ⟨[],0,[]⟩):=by
 have tb:=fun K=>Pr (K:=K) hB hm
 have tc:=fun K=>Tk (K:=K) hC hm
 have tk:=fun K=>Hx (K:=K) hK
 simp only [Modl.F] at tb tc
 rw [A7 (c:=p4) (nt:=75) (rs:=[.tmp 2]) rfl (by simp)]; unfold p4
 unfold K0 xM
 have hl:(ints inp).length=inp.length:=by simp [ints]
 have ho:(ints oth).length=oth.length:=by simp [ints]
 rcases h with h | ⟨h,h2⟩ | ⟨h,h2,h3⟩ | ⟨h,h2,h3,h4⟩
 . rw [h] at tb
   simp -implicitDefEqProofs only [tb,tc,tk,hl,ho,k8,List.contains_cons,List.contains_nil,Nat.reduceBEq,XP,seval]
 . rw [h] at tb
   have h2:decide ((inp.length:Int) > 1000)=true:=decide_eq_true (by omega)
   simp -implicitDefEqProofs only [tb,tc,tk,hl,ho,h2,k8,List.contains_cons,List.contains_nil,Nat.reduceBEq,XP,seval]
 . rw [h] at tb
   have h2:decide ((inp.length:Int) > 1000)=false:=decide_eq_false (by omega)
   have h3:decide ((oth.length:Int) > 1000)=true:=decide_eq_true (by omega)
   simp -implicitDefEqProofs only [tb,tc,tk,hl,ho,h2,h3,k8,List.contains_cons,List.contains_nil,Nat.reduceBEq,XP,seval]
 . rw [h] at tb
   have h2:decide ((inp.length:Int) > 1000)=false:=decide_eq_false (by omega)
   have h3:decide ((oth.length:Int) > 1000)=false:=decide_eq_false (by omega)
   simp -implicitDefEqProofs only [tb,tc,tk,hl,ho,h2,h3,eq_false h4,k8,List.contains_cons,List.contains_nil,Nat.reduceBEq,XP,seval]
theorem FD {s:AV} {K:PK}:E0 A0 .append [26,3] [s,.int .i64 9] K=Ic ty3 s 9 K:=rfl
theorem FE {K:PK} {l:List Int} {n:Nat} (h:n < l.length):u4 (Ka A0 (.slice 3) none (some (.int .i64 (n:Int))) none (fslN (ints l))) K=.val (fslN (ints (l.take n))) K:=by
 have hl:(ints l).length=l.length:=by simp [ints]
 have e:Ka A0 (.slice 3) none (some (.int .i64 (n:Int))) none (fslN (ints l))=if (ints l).isEmpty || false then none else (sliceF 1 (ints l) (ints l).isEmpty none (some (.int .i64 (n:Int))) none).map fun y=>match y with | .fsl l _=>.fsl l l.isEmpty | y=>y:=rfl
 have hne:(ints l).isEmpty=false:=by cases l with | nil=>simp at h | cons _ _=>rfl
 rw [e,hne,Ug (l:=0) (r:=n) (m:=(ints l).length) rfl (show C9 (some (AV.int .i64 (n:Int))) (ints l).length=some n from as_nat _ _) rfl (Nat.zero_le _) (by omega) (Nat.le_refl _) (by cases l with | nil=>rfl | cons _ _=>rfl)]
 show OpS.val (fslN ((ints l |>.drop 0).take (n - 0))) K=_
 rw [List.drop_zero,Nat.sub_zero,ints,← List.map_take]
theorem vC {K:PK} {i n:Nat} {l o:List Int} {s1 x y:Int} (hR:T 10=some R6) (hr:rowOf K.os 6 i=some (0,ints l,1)) (hn:l.length=n) (hk:RunOk m s1) (hx:(H5 m l s1).sc=(x,y)) (ho:Fp m l s1=o) :
 evP ⟨A0,T,A4⟩ (.call 10 [m.F,.msl i 0 n 1,.int .i64 s1] K)=some (.val [.agg [.msl K.os.length 0 o.length 1,.int .i64 x,.int .i64 y]] ⟨K.os ++ [.row 0 (ints o) 1],K.ext,K.tch⟩):=by
 have v:viewV K.os (.msl i 0 n 1)=some (fslN (ints l)):=by
  rw [wv_msl,hr]
  show (if 0=0∧1=1∧0 + n≤(ints l).length then (match frzL (((ints l).drop 0).take n) with | some es=>some (fslN es) | none=>none) else none)=_
  rw [if_pos ⟨rfl,rfl,by simp [ints]; omega⟩,List.drop_zero,List.take_of_length_le (by simp [ints]; omega),frzL_ints]
 have hv:viewAs K.os [m.F,.msl i 0 n 1,.int .i64 s1]=some [m.F,fslN (ints l),.int .i64 s1]:=by
  rw [va_cons,va_cons,va_cons,va_nil,Modl.viewF,show viewA K.os (.msl i 0 n 1)=viewV K.os (.msl i 0 n 1) from rfl,v]; rfl
 have hg:R6 [m.F,fslN (ints l),.int .i64 s1]=some [.agg [ownd 0 1 (ints (Fp m l s1)),.int .i64 (H5 m l s1).sc.1,.int .i64 (H5 m l s1).sc.2]]:=C1 (a:=fun p:Modl × List Int × Int=>[p.1.F,fslN (ints p.2.1),.int .i64 p.2.2]) (r:=fun p=>[.agg [ownd 0 1 (ints (Fp p.1 p.2.1 p.2.2)),.int .i64 (H5 p.1 p.2.1 p.2.2).sc.1,.int .i64 (H5 p.1 p.2.1 p.2.2).sc.2]]) (fun x y e=>by simp only [Modl.F_iff,fslN_iff,ints_iff,List.cons.injEq,AV.int.injEq,and_true,true_and] at e; obtain ⟨x1,x2,x3⟩:=x; obtain ⟨y1,y2,y3⟩:=y; simp only at e ⊢; obtain ⟨rfl,rfl,rfl⟩:=e; rfl) (m,l,s1) hk
 rw [hx,ho] at hg
 have hol:(ints o).length=o.length:=by simp [ints]
 rw [C0 hR hv hg (by simp [okRs,ownOf,ownd,clo,AV.cells,noFL,noF,Ti]),← hol]
 rfl
theorem sH (l:List Int):E2 1 (ints l)=true:=by
 induction l with
 | nil=>rfl
 | cons x l ih=>exact ih
theorem xN (hB:T 6=some X1) (hC:T 7=some N1) (hK:T 8=some Q0) (hU:T 9=some kL) (hR:T 10=some R6) (hD:T 14=some Q1) (hE:T 12=some k9) (hI:T 13=some K9) (hm:m.ok) (h1:S0 m=false) (h2:¬ 1000 < inp.length) (h2':¬ 1000 < oth.length) (h3:O5 m=0) {s1 x y:Int} {o:List Int} (e1:max 0 (min st 2000)=s1) (hx:(H5 m inp s1).sc=(x,y)) (ho:Fp m inp s1=o) (hol:o.length≤30000):evP ⟨A0,T,A4⟩ (.body 4 [xM m inp oth st mo] K0)=some (.val [.bool true] ⟨[],0,[]⟩):=by
 have tb:=fun K=>Pr (K:=K) hB hm
 have tc:=fun K=>Tk (K:=K) hC hm
 have tk:=fun K=>Hx (K:=K) hK
 have u1:=fun K=>NV (K:=K) hU (v:=st) (lo:=0) (hi:=2000)
 rw [e1] at u1
 rw [h1] at tb
 rw [h3] at tc
 have hl:(ints inp).length=inp.length:=by simp [ints]
 have hlo:(ints oth).length=oth.length:=by simp [ints]
 have lo':(ints o).length=o.length:=by simp [ints]
 have hs:s1≤20000:=by omega
 have rk:=oO (steps:=s1) hm h1 h3 hs
 have h2d:decide ((inp.length:Int) > 1000)=false:=decide_eq_false (by omega)
 have h2o:decide ((oth.length:Int) > 1000)=false:=decide_eq_false (by omega)
 have ci:=fun K=>Tj (K:=K) hI (l:=inp) (by simp only [bigN]; omega)
 have ra:=fun K=>sA (K:=K) (input:=inp) hR rk
 rw [hx,ho] at ra
 have b:=gJ (m:=m) (dS s1.toNat 9 inp)
 have rb:=fun K i=>vC (K:=K) (i:=i) (n:=inp.length + 9) (l:=inp ++ List.replicate 9 0) hR (hk:=rk) (hx:=b.1.symm.trans hx) (ho:=b.2.symm.trans ho) (hn:=by simp)
 have i9:ints (inp ++ List.replicate 9 0)=ints inp ++ List.replicate 9 (.int .i64 0):=by simp [ints]
 rw [i9] at rb
 have te:=fun K i j=>AmEnv.run_v (K:=K) (i:=i) (j:=j) (oa:=o) (x:=x) (y:=y) hE (by simp only [bigN]; omega)
 have td:=fun K=>Xf (K:=K) hD (l:=inp) (s:=s1)
 simp only [Modl.F] at tb tc ra rb
 have hz9:(inp.length + 9) * 8≤140737488355328:=by omega
 rw [A7 (c:=p4) (nt:=75) (rs:=[.tmp 2]) rfl (by simp)]; unfold p4
 unfold K0 xM
 by_cases hn:min (inp.length:Int) (max 0 s1) < (inp.length:Int)
 . obtain ⟨k,hk,hk2⟩:∃ k:Nat,min (inp.length:Int) (max 0 s1)=k∧k=s1.toNat:=⟨s1.toNat,by omega,rfl⟩
   have hkl:k < inp.length:=by omega
   have hn:decide ((k:Int) < (inp.length:Int))=true:=by rw [← hk]; exact decide_eq_true hn
   rw [hk] at td
   have ci2:=fun K=>Tj (K:=K) hI (l:=inp.take k) (by simp only [bigN,List.length_take]; omega)
   have b2:=gJ (m:=m) (i1:=inp) (i2:=inp.take k ++ oth) (steps:=s1) (by rw [← hk2]; exact pC hkl)
   have rc:=fun K i=>vC (K:=K) (i:=i) (n:=k + oth.length) (l:=inp.take k ++ oth) hR (hk:=rk) (hx:=b2.1.symm.trans hx) (ho:=b2.2.symm.trans ho) (hn:=by simp; omega)
   have i10:ints (inp.take k ++ oth)=ints (inp.take k) ++ ints oth:=by simp [ints]
   rw [i10] at rc
   simp only [Modl.F] at rc
   have lt:(ints (inp.take k)).length=k:=by simp [ints]; omega
   have hz10:(k + oth.length) * 8≤140737488355328:=by omega
   have ao:E2 1 (ints oth)=true:=sH oth
   simp -implicitDefEqProofs only [tb,tc,tk,u1,ci,ra,rb,te,td,hl,hlo,lo',h2d,h2o,hn,FD,vB,aN,hz9,ci2,rc,lt,hz10,ao,FE hkl,te_fslN,FC,k8,List.contains_cons,List.contains_nil,Nat.reduceBEq,List.length_append,List.length_replicate,XP,Nat.reduceAdd,Nat.reduceSub,Nat.reduceLT,Nat.reduceLeDiff,Nat.reduceEqDiff,Nat.reduceMul,↓reduceIte]
 . have hn:decide (min (inp.length:Int) (max 0 s1) < (inp.length:Int))=false:=decide_eq_false hn
   simp -implicitDefEqProofs only [tb,tc,tk,u1,ci,ra,rb,te,td,hl,hlo,lo',h2d,h2o,hn,FD,vB,aN,hz9,k8,List.contains_cons,List.contains_nil,Nat.reduceBEq,List.length_append,List.length_replicate,XP,Nat.reduceAdd,Nat.reduceSub,Nat.reduceLT,Nat.reduceLeDiff,Nat.reduceEqDiff,Nat.reduceMul,↓reduceIte]
end
theorem Cv (hlaw06_Big:T 6=some X1) (hir_Check:T 7=some N1) (hlaw06_known:T 8=some Q0) (hCut:T 9=some kL) (hir_Run:T 10=some R6) (hlaw06_reads:T 14=some Q1) (hSameRun:T 12=some k9) (hCopyInts:T 13=some K9) {m:Modl} {inp:List Int} {oth:List Int} {st:Int} {mo:Int} (hk:m.ok):AM.Comes ⟨A0,T,A4⟩ 4 [xM m inp oth st mo] [.bool true]:=by
 refine ⟨[.bool true],⟨[],0,[]⟩,?_,back_of rfl List.nodup_nil rfl rfl rfl⟩
 have no:=fun h=>sG (inp:=inp) (oth:=oth) (st:=st) (mo:=mo) hlaw06_Big hir_Check hlaw06_known hCut hir_Run hlaw06_reads hSameRun hCopyInts hk h
 cases h1:S0 m with
 | true=>exact no (.inl h1)
 | false =>
  by_cases h2:1000 < inp.length
  . exact no (.inr (.inl ⟨h1,h2⟩))
  . by_cases h4:1000 < oth.length
    . exact no (.inr (.inr (.inl ⟨h1,h2,h4⟩)))
    . by_cases h3:O5 m=0
      . have q:=pB (m:=m) (input:=inp) (steps:=max 0 (min st 2000)) (d:=0) (by omega) (by omega)
        refine xN hlaw06_Big hir_Check hlaw06_known hCut hir_Run hlaw06_reads hSameRun hCopyInts hk h1 h2 h4 h3 rfl rfl rfl ?_
        have:=q.le
        show (H5 m inp (max 0 (min st 2000))).st.out.length≤30000
        omega
      . exact no (.inr (.inr (.inr ⟨h1,h2,h4,h3⟩)))
end Go.Proofs.AmEnv
namespace Go.Proofs.AmEnv
open Go Go.AM
open Go.ChangeShapes Go.WideShapes Go.ChangeAt
section
variable {H:Type} {enc:TypeId × Value->H} {P:Program} {W:World} {base:Nat} {spare:Nat->Bool} {held:Bool}
theorem J8 {E:Env} (hE:EnvOk E P) {t:Nat} {x:TI} (ht:E.ti t=some x):P.cellsOf t=x.size:=by
 obtain ⟨i,z,h1,h2,_⟩:=(hE.ti t x ht).info
 unfold Program.cellsOf
 rw [h1]; exact h2
theorem Cw {E:Env} (hE:EnvOk E P) {t:Nat} {x:TI} (ht:E.ti t=some x):P.bytesOf t=x.bytes:=by
 obtain ⟨i,z,h1,_,h2,_⟩:=(hE.ti t x ht).info
 unfold Program.bytesOf
 rw [h1]; exact h2
variable (hE:EnvOk A0 P)
include hE
theorem pD:P.underlying 3=some (.int .i64):=(hE.ti 3 ty3 rfl).desc
theorem vD:P.underlying 9=some .string:=(hE.ti 9 BV rfl).desc
theorem xO:P.underlying 26=some (.slice 3):=(hE.ti 26 Ea rfl).desc
theorem pE:P.underlying 50=some (.slice 56):=(hE.ti 50 dC rfl).desc
theorem pF:P.underlying 47=some (.slice 54):=(hE.ti 47 dB rfl).desc
theorem sJ:P.underlying 23=some (.slice 49):=(hE.ti 23 cZ rfl).desc
theorem sK:P.underlying 22=some (.slice 46):=(hE.ti 22 jP rfl).desc
theorem x7:P.cellsOf 3=1:=J8 hE QX
theorem Qc:P.cellsOf 9=1:=J8 hE UL
theorem Fr:P.cellsOf 26=1:=J8 hE MM
theorem Qd:P.cellsOf 50=1:=J8 hE MP
theorem aO:P.cellsOf 47=1:=J8 hE MO
theorem gK:P.cellsOf 23=1:=J8 hE MK
theorem Xg:P.cellsOf 22=1:=J8 hE MJ
theorem gL:P.cellsOf 56=8:=J8 hE wK
theorem vE:P.cellsOf 52=4:=J8 hE MQ
theorem gM:P.cellsOf 54=5:=J8 hE wI
theorem pG:P.cellsOf 49=5:=J8 hE wH
theorem pH:P.cellsOf 46=4:=J8 hE wG
theorem gN:P.cellsOf 25=2:=J8 hE ML
theorem As {m n:Nat} {cs:List Value} {d:DataW H} {ps:List MemPlace} (h:DataW.trod enc P W base spare held n 3 cs=some (d,ps)) (hw:Wt P 3 d):∃ s,R0 P (m + 1) 3 d=some s∧s.length=P.cellsOf 3∧∃ z,s=[.int .i64 z]:=by
 obtain ⟨z,rfl,e,_⟩:=DataW.trod_int (pD hE) h
 cases e
 refine ⟨[.int .i64 z],?_,by rw [x7 hE]; rfl,z,rfl⟩
 unfold R0
 rw [pD hE]
theorem Xh {m n:Nat} {cs:List Value} {d:DataW H} {ps:List MemPlace} (h:DataW.trod enc P W base spare held n 9 cs=some (d,ps)) (hw:Wt P 9 d):∃ s,R0 P (m + 1) 9 d=some s∧s.length=P.cellsOf 9∧∃ b,s=[.str b]∧b.length≤140737488355328:=by
 obtain ⟨b,rfl,e,_⟩:=DataW.trod_string (vD hE) h
 cases e
 refine ⟨[.str b.data.toList],?_,by rw [Qc hE]; rfl,_,rfl,?_⟩
 . unfold R0
   rw [vD hE]
 . have:=hw b.data.toList.length (by unfold DataW.weights; simp)
   exact Nat.le_trans this (by decide)
omit hE in
def Se (acs:List AV) (z:Int):Prop:=acs=[.int .i64 z]
theorem Qe {m n:Nat} {cs:List Value} {d:DataW H} {ps:List MemPlace} (h:DataW.trod enc P W base spare held n 26 cs=some (d,ps)) (hw:Wt P 26 d):∃ s,R0 P (m + 2) 26 d=some s∧s.length=P.cellsOf 26∧∃ v l,s=[v]∧Ge P 3 Se v l:=by
 obtain ⟨v,l,h1,h2⟩:=l8 (Q:=Se) (m:=m + 1) (xO hE) (by rw [x7 hE]; decide) (fun n cs d ps h hw=>by
  obtain ⟨s,h1,h2,z,rfl⟩:=As hE (m:=m) h hw
  exact ⟨_,z,h1,⟨h2,.inr rfl⟩,rfl⟩) h hw
 exact ⟨[v],h1,by rw [Fr hE]; rfl,v,l,rfl,h2⟩
omit hE in
def Fs (P:Program) (acs:List AV) (I:Ins):Prop:=∃ av,acs=[.int .i64 I.op,.int .i64 I.ty,.int .i64 I.dst,.int .i64 I.a,.int .i64 I.b,.int .i64 I.n,.str I.s,av]∧Ge P 3 Se av I.args∧I.s.length≤140737488355328
omit hE in
theorem NZ {ss:List (List AV)} (h:ss.length=8):∃ a b c d e f g i,ss=[a,b,c,d,e,f,g,i]:=by
 match ss,h with
 | [a,b,c,d,e,f,g,i],_=>exact ⟨a,b,c,d,e,f,g,i,rfl⟩
theorem kM {m n:Nat} {cs:List Value} {d:DataW H} {ps:List MemPlace} (h:DataW.trod enc P W base spare held n 56 cs=some (d,ps)) (hw:Wt P 56 d):∃ acs I,R0 P (m + 3) 56 d=some acs∧(acs.length=P.cellsOf 56∧(l9 P 56=true∨acs.length=1))∧Fs P acs I:=by
 obtain ⟨fs,hu,hm,_⟩:=(hE.ti 56 Al rfl).desc
 have hm:fs.toList.map (fun f=>(f.type,f.offset))=[(3,0),(3,1),(3,2),(3,3),(3,4),(3,5),(9,6),(26,7)]:=hm
 obtain ⟨ss,h1,h2,h3,h4⟩:=S3 (m:=m + 2) (Qs:=fun i s=>(i < 6->∃ z,s=[.int .i64 z])∧(i=6->∃ b,s=[.str b]∧b.length≤140737488355328)∧(i=7->∃ v l,s=[v]∧Ge P 3 Se v l)) hu hm
  (by simp only [Et,x7 hE,Qc hE,Fr hE,and_self]) (by simp only [gL hE,List.map_cons,List.map_nil,List.sum_cons,List.sum_nil,Nat.reduceAdd,x7 hE,Qc hE,Fr hE])
  (fun i ty off hL n cs d ps h hw=>by
    rcases i with _ | _ | _ | _ | _ | _ | _ | _ | i
    iterate 6
     . cases hL
       obtain ⟨s,k1,k2,k3⟩:=As hE (m:=m + 1) h hw
       exact ⟨s,k1,k2,fun _=>k3,fun hh=>by omega,fun hh=>by omega⟩
    . cases hL
      obtain ⟨s,k1,k2,k3⟩:=Xh hE (m:=m + 1) h hw
      exact ⟨s,k1,k2,fun hh=>by omega,fun _=>k3,fun hh=>by omega⟩
    . cases hL
      obtain ⟨s,k1,k2,k3⟩:=Qe hE (m:=m) h hw
      exact ⟨s,k1,k2,fun hh=>by omega,fun hh=>by omega,fun _=>k3⟩
    . simp at hL) h hw
 obtain ⟨a,b,c,e,f,g,s6,s7,rfl⟩:=NZ h3
 obtain ⟨z0,rfl⟩:=(h4 0 _ rfl).1 (by omega)
 obtain ⟨z1,rfl⟩:=(h4 1 _ rfl).1 (by omega)
 obtain ⟨z2,rfl⟩:=(h4 2 _ rfl).1 (by omega)
 obtain ⟨z3,rfl⟩:=(h4 3 _ rfl).1 (by omega)
 obtain ⟨z4,rfl⟩:=(h4 4 _ rfl).1 (by omega)
 obtain ⟨z5,rfl⟩:=(h4 5 _ rfl).1 (by omega)
 obtain ⟨b6,rfl,hb6⟩:=(h4 6 _ rfl).2.1 rfl
 obtain ⟨v,l,rfl,hv⟩:=(h4 7 _ rfl).2.2 rfl
 exact ⟨_,⟨z0,z1,z2,z3,z4,z5,b6,l⟩,h1,⟨h2,.inl (by unfold l9; rw [hu])⟩,v,rfl,hv,hb6⟩
omit hE in
def Ft (P:Program) (acs:List AV) (B:Blk):Prop:=∃ cv,acs=[cv,.int .i64 B.e.kind,.int .i64 B.e.a,.int .i64 B.e.to,.int .i64 B.e.els]∧Ge P 56 (Fs P) cv B.code
theorem dT {m n:Nat} {cs:List Value} {d:DataW H} {ps:List MemPlace} (h:DataW.trod enc P W base spare held n 50 cs=some (d,ps)) (hw:Wt P 50 d):∃ s,R0 P (m + 4) 50 d=some s∧s.length=P.cellsOf 50∧∃ v l,s=[v]∧Ge P 56 (Fs P) v l:=by
 obtain ⟨v,l,h1,h2⟩:=l8 (Q:=Fs P) (m:=m + 3) (pE hE) (by rw [gL hE]; decide) (fun n cs d ps h hw=>kM hE h hw) h hw
 exact ⟨[v],h1,by rw [Qd hE]; rfl,v,l,rfl,h2⟩
theorem sL {m n:Nat} {cs:List Value} {d:DataW H} {ps:List MemPlace} (h:DataW.trod enc P W base spare held n 52 cs=some (d,ps)) (hw:Wt P 52 d):∃ s,R0 P (m + 2) 52 d=some s∧s.length=P.cellsOf 52∧∃ x y z w,s=[.int .i64 x,.int .i64 y,.int .i64 z,.int .i64 w]:=by
 obtain ⟨fs,hu,hm,_⟩:=(hE.ti 52 Jp rfl).desc
 have hm:fs.toList.map (fun f=>(f.type,f.offset))=[(3,0),(3,1),(3,2),(3,3)]:=hm
 obtain ⟨ss,h1,h2,h3,h4⟩:=S3 (m:=m + 1) (Qs:=fun i s=>∃ z,s=[.int .i64 z]) hu hm
  (by simp only [Et,x7 hE,and_self]) (by simp only [vE hE,List.map_cons,List.map_nil,List.sum_cons,List.sum_nil,Nat.reduceAdd,x7 hE])
  (fun i ty off hL n cs d ps h hw=>by
    rcases i with _ | _ | _ | _ | i
    iterate 4
     . cases hL
       exact As hE (m:=m) h hw
    . simp at hL) h hw
 match ss,h3 with
 | [a,b,c,e],_ =>
  obtain ⟨z0,rfl⟩:=h4 0 _ rfl
  obtain ⟨z1,rfl⟩:=h4 1 _ rfl
  obtain ⟨z2,rfl⟩:=h4 2 _ rfl
  obtain ⟨z3,rfl⟩:=h4 3 _ rfl
  exact ⟨_,h1,h2,z0,z1,z2,z3,rfl⟩
theorem kN {m n:Nat} {cs:List Value} {d:DataW H} {ps:List MemPlace} (h:DataW.trod enc P W base spare held n 54 cs=some (d,ps)) (hw:Wt P 54 d):∃ acs B,R0 P (m + 5) 54 d=some acs∧(acs.length=P.cellsOf 54∧(l9 P 54=true∨acs.length=1))∧Ft P acs B:=by
 obtain ⟨fs,hu,hm,_⟩:=(hE.ti 54 Jq rfl).desc
 have hm:fs.toList.map (fun f=>(f.type,f.offset))=[(50,0),(52,1)]:=hm
 obtain ⟨ss,h1,h2,h3,h4⟩:=S3 (m:=m + 4) (Qs:=fun i s=>(i=0->∃ v l,s=[v]∧Ge P 56 (Fs P) v l)∧(i=1->∃ x y z w,s=[.int .i64 x,.int .i64 y,.int .i64 z,.int .i64 w])) hu hm
  (by simp only [Et,Qd hE,and_self]) (by simp only [gM hE,List.map_cons,List.map_nil,List.sum_cons,List.sum_nil,Nat.reduceAdd,Qd hE,vE hE])
  (fun i ty off hL n cs d ps h hw=>by
    rcases i with _ | _ | i
    . cases hL
      obtain ⟨s,k1,k2,k3⟩:=dT hE (m:=m) h hw
      exact ⟨s,k1,k2,fun _=>k3,fun hh=>by omega⟩
    . cases hL
      obtain ⟨s,k1,k2,k3⟩:=sL hE (m:=m + 2) h hw
      exact ⟨s,k1,k2,fun hh=>by omega,fun _=>k3⟩
    . simp at hL) h hw
 match ss,h3 with
 | [a,b],_ =>
  obtain ⟨v,l,rfl,hv⟩:=(h4 0 _ rfl).1 rfl
  obtain ⟨x,y,z,w,rfl⟩:=(h4 1 _ rfl).2 rfl
  exact ⟨_,⟨l,⟨x,y,z,w⟩⟩,h1,⟨h2,.inl (by unfold l9; rw [hu])⟩,v,rfl,hv⟩
theorem dU {m n:Nat} {cs:List Value} {d:DataW H} {ps:List MemPlace} (h:DataW.trod enc P W base spare held n 47 cs=some (d,ps)) (hw:Wt P 47 d):∃ s,R0 P (m + 6) 47 d=some s∧s.length=P.cellsOf 47∧∃ v l,s=[v]∧Ge P 54 (Ft P) v l:=by
 obtain ⟨v,l,h1,h2⟩:=l8 (Q:=Ft P) (m:=m + 5) (pF hE) (by rw [gM hE]; decide) (fun n cs d ps h hw=>kN hE h hw) h hw
 exact ⟨[v],h1,by rw [aO hE]; rfl,v,l,rfl,h2⟩
omit hE in
def Ia (P:Program) (acs:List AV) (C:Cod):Prop:=∃ rv bv,acs=[.str C.name,.int .i64 C.ty,.int .i64 C.ps,rv,bv]∧Ge P 3 Se rv C.regs∧Ge P 54 (Ft P) bv C.blocks
theorem pI {m n:Nat} {cs:List Value} {d:DataW H} {ps:List MemPlace} (h:DataW.trod enc P W base spare held n 49 cs=some (d,ps)) (hw:Wt P 49 d):∃ acs C,R0 P (m + 7) 49 d=some acs∧(acs.length=P.cellsOf 49∧(l9 P 49=true∨acs.length=1))∧Ia P acs C:=by
 obtain ⟨fs,hu,hm,_⟩:=(hE.ti 49 Bd rfl).desc
 have hm:fs.toList.map (fun f=>(f.type,f.offset))=[(9,0),(3,1),(3,2),(26,3),(47,4)]:=hm
 obtain ⟨ss,h1,h2,h3,h4⟩:=S3 (m:=m + 6) (Qs:=fun i s=>(i=0->∃ b,s=[.str b]∧b.length≤140737488355328)∧((i=1∨i=2)->∃ z,s=[.int .i64 z])∧(i=3->∃ v l,s=[v]∧Ge P 3 Se v l)∧(i=4->∃ v l,s=[v]∧Ge P 54 (Ft P) v l)) hu hm
  (by simp only [Et,x7 hE,Qc hE,Fr hE,and_self]) (by simp only [pG hE,List.map_cons,List.map_nil,List.sum_cons,List.sum_nil,Nat.reduceAdd,x7 hE,Qc hE,Fr hE,aO hE])
  (fun i ty off hL n cs d ps h hw=>by
    rcases i with _ | _ | _ | _ | _ | i
    . cases hL
      obtain ⟨s,k1,k2,k3⟩:=Xh hE (m:=m + 5) h hw
      exact ⟨s,k1,k2,fun _=>k3,fun hh=>by omega,fun hh=>by omega,fun hh=>by omega⟩
    . cases hL
      obtain ⟨s,k1,k2,k3⟩:=As hE (m:=m + 5) h hw
      exact ⟨s,k1,k2,fun hh=>by omega,fun _=>k3,fun hh=>by omega,fun hh=>by omega⟩
    . cases hL
      obtain ⟨s,k1,k2,k3⟩:=As hE (m:=m + 5) h hw
      exact ⟨s,k1,k2,fun hh=>by omega,fun _=>k3,fun hh=>by omega,fun hh=>by omega⟩
    . cases hL
      obtain ⟨s,k1,k2,k3⟩:=Qe hE (m:=m + 4) h hw
      exact ⟨s,k1,k2,fun hh=>by omega,fun hh=>by omega,fun _=>k3,fun hh=>by omega⟩
    . cases hL
      obtain ⟨s,k1,k2,k3⟩:=dU hE (m:=m) h hw
      exact ⟨s,k1,k2,fun hh=>by omega,fun hh=>by omega,fun hh=>by omega,fun _=>k3⟩
    . simp at hL) h hw
 match ss,h3 with
 | [a,b,c,e,f],_ =>
  obtain ⟨b0,rfl,_⟩:=(h4 0 _ rfl).1 rfl
  obtain ⟨z1,rfl⟩:=(h4 1 _ rfl).2.1 (.inl rfl)
  obtain ⟨z2,rfl⟩:=(h4 2 _ rfl).2.1 (.inr rfl)
  obtain ⟨v3,l3,rfl,hv3⟩:=(h4 3 _ rfl).2.2.1 rfl
  obtain ⟨v4,l4,rfl,hv4⟩:=(h4 4 _ rfl).2.2.2 rfl
  exact ⟨_,⟨b0,z1,z2,l3,l4⟩,h1,⟨h2,.inl (by unfold l9; rw [hu])⟩,v3,v4,rfl,hv3,hv4⟩
omit hE in
def Ld (acs:List AV) (G:Glo):Prop:=acs=[.str G.name,.int .i64 G.ty,.int .i64 G.size,.int .i64 G.at_]
theorem pJ {m n:Nat} {cs:List Value} {d:DataW H} {ps:List MemPlace} (h:DataW.trod enc P W base spare held n 46 cs=some (d,ps)) (hw:Wt P 46 d):∃ acs G,R0 P (m + 2) 46 d=some acs∧(acs.length=P.cellsOf 46∧(l9 P 46=true∨acs.length=1))∧Ld acs G:=by
 obtain ⟨fs,hu,hm,_⟩:=(hE.ti 46 Ls rfl).desc
 have hm:fs.toList.map (fun f=>(f.type,f.offset))=[(9,0),(3,1),(3,2),(3,3)]:=hm
 obtain ⟨ss,h1,h2,h3,h4⟩:=S3 (m:=m + 1) (Qs:=fun i s=>(i=0->∃ b,s=[.str b]∧b.length≤140737488355328)∧(0 < i->∃ z,s=[.int .i64 z])) hu hm
  (by simp only [Et,x7 hE,Qc hE,and_self]) (by simp only [pH hE,List.map_cons,List.map_nil,List.sum_cons,List.sum_nil,Nat.reduceAdd,x7 hE,Qc hE])
  (fun i ty off hL n cs d ps h hw=>by
    rcases i with _ | _ | _ | _ | i
    . cases hL
      obtain ⟨s,k1,k2,k3⟩:=Xh hE (m:=m) h hw
      exact ⟨s,k1,k2,fun _=>k3,fun hh=>by omega⟩
    iterate 3
     . cases hL
       obtain ⟨s,k1,k2,k3⟩:=As hE (m:=m) h hw
       exact ⟨s,k1,k2,fun hh=>by omega,fun _=>k3⟩
    . simp at hL) h hw
 match ss,h3 with
 | [a,b,c,e],_ =>
  obtain ⟨b0,rfl,_⟩:=(h4 0 _ rfl).1 rfl
  obtain ⟨z1,rfl⟩:=(h4 1 _ rfl).2 (by omega)
  obtain ⟨z2,rfl⟩:=(h4 2 _ rfl).2 (by omega)
  obtain ⟨z3,rfl⟩:=(h4 3 _ rfl).2 (by omega)
  exact ⟨_,⟨b0,z1,z2,z3⟩,h1,⟨h2,.inl (by unfold l9; rw [hu])⟩,rfl⟩
theorem sM {n:Nat} {cs:List Value} {d:DataW H} {ps:List MemPlace} (h:DataW.trod enc P W base spare held n 25 cs=some (d,ps)) (hw:Wt P 25 d):∃ gv fv,∃ M:Modl,R0 P 9 25 d=some [gv,fv]∧Ge P 46 Ld gv M.gs∧Ge P 49 (Ia P) fv M.fs:=by
 obtain ⟨fs,hu,hm,_⟩:=(hE.ti 25 Pa rfl).desc
 have hm:fs.toList.map (fun f=>(f.type,f.offset))=[(22,0),(23,1)]:=hm
 obtain ⟨ss,h1,h2,h3,h4⟩:=S3 (m:=8) (Qs:=fun i s=>(i=0->∃ v l,s=[v]∧Ge P 46 Ld v l)∧(i=1->∃ v l,s=[v]∧Ge P 49 (Ia P) v l)) hu hm
  (by simp only [Et,Xg hE,and_self]) (by simp only [gN hE,List.map_cons,List.map_nil,List.sum_cons,List.sum_nil,Nat.reduceAdd,Xg hE,gK hE])
  (fun i ty off hL n cs d ps h hw=>by
    rcases i with _ | _ | i
    . cases hL
      obtain ⟨v,l,k1,k2⟩:=l8 (Q:=Ld) (m:=7) (sK hE) (by rw [pH hE]; decide) (fun n cs d ps h hw=>pJ hE (m:=5) h hw) h hw
      exact ⟨[v],k1,by rw [Xg hE]; rfl,fun _=>⟨v,l,rfl,k2⟩,fun hh=>by omega⟩
    . cases hL
      obtain ⟨v,l,k1,k2⟩:=l8 (Q:=Ia P) (m:=7) (sJ hE) (by rw [pG hE]; decide) (fun n cs d ps h hw=>pI hE (m:=0) h hw) h hw
      exact ⟨[v],k1,by rw [gK hE]; rfl,fun hh=>by omega,fun _=>⟨v,l,rfl,k2⟩⟩
    . simp at hL) h hw
 match ss,h3 with
 | [a,b],_ =>
  obtain ⟨v0,l0,rfl,hv0⟩:=(h4 0 _ rfl).1 rfl
  obtain ⟨v1,l1,rfl,hv1⟩:=(h4 1 _ rfl).2 rfl
  exact ⟨v0,v1,⟨l0,l1⟩,h1,hv0,hv1⟩
omit hE in
theorem Xi {t:TypeId} {acs:List AV} (h:l9 P t=true):seeV P t acs=.agg acs:=by unfold seeV; rw [h]; rfl
theorem gO:P.bytesOf 3=8:=Cw hE QX
theorem sN:P.bytesOf 56=88:=Cw hE wK
theorem sO:P.bytesOf 54=56:=Cw hE wI
theorem xP:P.bytesOf 49=80:=Cw hE wH
theorem xQ:P.bytesOf 46=40:=Cw hE wG
theorem sP {t:TypeId} {x:TI} {L:List (Nat × Nat)} {fl:Bool} (ht:A0.ti t=some x) (hd:x.desc=.struct L fl):l9 P t=true:=by
 have h:=(hE.ti t x ht).desc
 unfold G2 at h
 rw [hd] at h
 obtain ⟨fs,hu,_⟩:=h
 unfold l9
 rw [hu]
theorem OA:l9 P 3=false:=by unfold l9; rw [pD hE]
theorem Xj {v:AV} {l:List Int} (hq:Ge P 3 Se v l) {Z:Nat->Prop} {h:Heap}:Fz Z h v (fslN (ints l)):=hq.fz fun r X hr=>by
 have hr:r=[.int .i64 X]:=hr
 subst hr
 have:seeV P 3 [.int .i64 X]=.int .i64 X:=by unfold seeV; rw [OA hE]; rfl
 rw [this]; exact .int _ _
omit hE in
theorem aP {Z:Nat->Prop} {h:Heap} {xs ys:List AV} (hl:xs.length=ys.length) (hc:ys.all clo=true) (hz:∀ p∈xs.zip ys,Fz Z h p.1 p.2):Fz Z h (.agg xs) (.agg ys):=by
 refine .agg hl (fun i x y hx hy=>hz (x,y) ?_) hc
 exact List.mem_of_getElem? (i:=i) (by rw [List.getElem?_zip_eq_some]; exact ⟨hx,hy⟩)
theorem sQ {acs:List AV} {I:Ins} (hq:Fs P acs I) {Z:Nat->Prop} {h:Heap}:Fz Z h (seeV P 56 acs) I.F:=by
 obtain ⟨av,rfl,h1,_⟩:=hq
 rw [Xi (sP hE wK rfl)]
 refine aP rfl rfl fun p hp=>?_
 simp only [List.zip_cons_cons,List.zip_nil_left,List.mem_cons,List.not_mem_nil,or_false] at hp
 rcases hp with rfl | rfl | rfl | rfl | rfl | rfl | rfl | rfl
 iterate 6
  . exact .int _ _
 . exact .str _
 . exact Xj hE h1
theorem sR {acs:List AV} {B:Blk} (hq:Ft P acs B) {Z:Nat->Prop} {h:Heap}:Fz Z h (seeV P 54 acs) B.F:=by
 obtain ⟨av,rfl,h1⟩:=hq
 rw [Xi (sP hE wI rfl)]
 refine aP rfl rfl fun p hp=>?_
 simp only [List.zip_cons_cons,List.zip_nil_left,List.mem_cons,List.not_mem_nil,or_false] at hp
 rcases hp with rfl | rfl | rfl | rfl | rfl
 . exact h1.fz fun r X hr=>sQ hE hr
 iterate 4
  . exact .int _ _
theorem xR {acs:List AV} {C:Cod} (hq:Ia P acs C) {Z:Nat->Prop} {h:Heap}:Fz Z h (seeV P 49 acs) C.F:=by
 obtain ⟨rv,bv,rfl,h1,h2⟩:=hq
 rw [Xi (sP hE wH rfl)]
 refine aP rfl rfl fun p hp=>?_
 simp only [List.zip_cons_cons,List.zip_nil_left,List.mem_cons,List.not_mem_nil,or_false] at hp
 rcases hp with rfl | rfl | rfl | rfl | rfl
 . exact .str _
 . exact .int _ _
 . exact .int _ _
 . exact Xj hE h1
 . exact h2.fz fun r X hr=>sR hE hr
theorem xS {acs:List AV} {G:Glo} (hq:Ld acs G) {Z:Nat->Prop} {h:Heap}:Fz Z h (seeV P 46 acs) G.F:=by
 have hq:acs=_:=hq
 subst hq
 rw [Xi (sP hE wG rfl)]
 refine aP rfl rfl fun p hp=>?_
 simp only [List.zip_cons_cons,List.zip_nil_left,List.mem_cons,List.not_mem_nil,or_false] at hp
 rcases hp with rfl | rfl | rfl | rfl
 . exact .str _
 iterate 3
  . exact .int _ _
theorem Cy {n b k:Nat} (h:n * b≤reachBytes) (hb:b=k):n * k≤bigN:=by
 subst hb
 exact Nat.le_trans h (by decide)
theorem pK {acs:List AV} {I:Ins} (hq:Fs P acs I):I.sok:=by
 obtain ⟨av,_,h1,h2⟩:=hq
 exact ⟨Cy hE h1.2 (gO hE),h2⟩
theorem pL {acs:List AV} {B:Blk} (hq:Ft P acs B):B.sok:=by
 obtain ⟨av,_,h1⟩:=hq
 have hx:∀ x∈B.code,x.sok:=fun x hx=>by
  obtain ⟨r,hr⟩:=h1.mem hx
  exact pK hE hr
 exact ⟨⟨fun x h=>(hx x h).1,Cy hE h1.2 (sN hE)⟩,hx⟩
theorem sS {acs:List AV} {C:Cod} (hq:Ia P acs C):C.sok:=by
 obtain ⟨rv,bv,_,h1,h2⟩:=hq
 have hx:∀ x∈C.blocks,x.sok:=fun x hx=>by
  obtain ⟨r,hr⟩:=h2.mem hx
  exact pL hE hr
 exact ⟨⟨Cy hE h1.2 (gO hE),fun x h=>(hx x h).1,Cy hE h2.2 (sO hE)⟩,hx⟩
theorem xT {gv fv:AV} {M:Modl} (h2:Ge P 46 Ld gv M.gs) (h3:Ge P 49 (Ia P) fv M.fs):M.ok:=by
 refine ⟨fun C hC=>?_,?_,Cy hE h2.2 (xQ hE)⟩
 . obtain ⟨r,hr⟩:=h3.mem hC
   exact sS hE hr
 . have:=Cy hE h3.2 (xP hE)
   simp only [bigN] at this ⊢
   omega
theorem sT:P.cellsOf 28=6:=J8 hE MN
theorem kO {n:Nat} {cs:List Value} {d:DataW H} {ps:List MemPlace} (h:DataW.trod enc P W base spare held n 28 cs=some (d,ps)) (hw:Wt P 28 d):∃ gv fv iv ov,∃ (M:Modl) (inp oth:List Int) (st mo:Int),R0 P 10 28 d=some [gv,fv,iv,ov,.int .i64 st,.int .i64 mo]∧Ge P 46 Ld gv M.gs∧Ge P 49 (Ia P) fv M.fs∧Ge P 3 Se iv inp∧Ge P 3 Se ov oth:=by
 obtain ⟨fs,hu,hm,_⟩:=(hE.ti 28 Wf rfl).desc
 have hm:fs.toList.map (fun f=>(f.type,f.offset))=[(25,0),(26,2),(26,3),(3,4),(3,5)]:=hm
 obtain ⟨ss,h1,h2,h3,h4⟩:=S3 (m:=9) (Qs:=fun i s=>(i=0->∃ gv fv,∃ M:Modl,s=[gv,fv]∧Ge P 46 Ld gv M.gs∧Ge P 49 (Ia P) fv M.fs)∧((i=1∨i=2)->∃ v l,s=[v]∧Ge P 3 Se v l)∧((i=3∨i=4)->∃ z,s=[.int .i64 z])) hu hm
  (by simp only [Et,gN hE,x7 hE,Fr hE,and_self]) (by simp only [sT hE,List.map_cons,List.map_nil,List.sum_cons,List.sum_nil,Nat.reduceAdd,gN hE,x7 hE,Fr hE])
  (fun i ty off hL n cs d ps h hw=>by
    rcases i with _ | _ | _ | _ | _ | i
    . cases hL
      obtain ⟨gv,fv,M,k1,k2,k3⟩:=sM hE h hw
      exact ⟨[gv,fv],k1,by rw [gN hE]; rfl,fun _=>⟨gv,fv,M,rfl,k2,k3⟩,fun hh=>by omega,fun hh=>by omega⟩
    iterate 2
     . cases hL
       obtain ⟨s,k1,k2,k3⟩:=Qe hE (m:=7) h hw
       exact ⟨s,k1,k2,fun hh=>by omega,fun _=>k3,fun hh=>by omega⟩
    iterate 2
     . cases hL
       obtain ⟨s,k1,k2,k3⟩:=As hE (m:=8) h hw
       exact ⟨s,k1,k2,fun hh=>by omega,fun hh=>by omega,fun _=>k3⟩
    . simp at hL) h hw
 match ss,h3 with
 | [a,b,c,e,f],_ =>
  obtain ⟨gv,fv,M,rfl,q1,q2⟩:=(h4 0 _ rfl).1 rfl
  obtain ⟨v1,l1,rfl,q3⟩:=(h4 1 _ rfl).2.1 (.inl rfl)
  obtain ⟨v2,l2,rfl,q4⟩:=(h4 2 _ rfl).2.1 (.inr rfl)
  obtain ⟨z3,rfl⟩:=(h4 3 _ rfl).2.2 (.inl rfl)
  obtain ⟨z4,rfl⟩:=(h4 4 _ rfl).2.2 (.inr rfl)
  exact ⟨gv,fv,v1,v2,M,l1,l2,z3,z4,h1,q1,q2,q3,q4⟩
theorem steps_see {n:Nat} {cs:List Value} {d:DataW H} {ps:List MemPlace} (h:DataW.trod enc P W base spare held n 28 cs=some (d,ps)) (hw:Wt P 28 d):∃ acs,∃ (M:Modl) (inp oth:List Int) (st mo:Int),R0 P 10 28 d=some acs∧acs.length=6∧(∀ Z h,Fz Z h (.agg acs) (xM M inp oth st mo))∧M.ok∧inp.length * 8≤bigN∧oth.length * 8≤bigN:=by
 obtain ⟨gv,fv,iv,ov,M,inp,oth,st,mo,h1,h2,h3,h4,h5⟩:=kO hE h hw
 refine ⟨_,M,inp,oth,st,mo,h1,rfl,fun Z h=>?_,xT hE h2 h3,Cy hE h4.2 (gO hE),Cy hE h5.2 (gO hE)⟩
 refine aP rfl rfl fun p hp=>?_
 simp only [List.zip_cons_cons,List.zip_nil_left,List.mem_cons,List.not_mem_nil,or_false] at hp
 rcases hp with rfl | rfl | rfl | rfl | rfl | rfl
 . exact h2.fz fun r X hr=>xS hE hr
 . exact h3.fz fun r X hr=>xR hE hr
 . exact Xj hE h4
 . exact Xj hE h5
 . exact .int _ _
 . exact .int _ _
end
end Go.Proofs.AmEnv
namespace Go.AM
theorem pM {E:Env} {f:Nat} {args:List AV} {h:Heap} (hg:E.gc f=false) (ht:E.told f=true):callω E f args h=toldA args h:=by
 refine (x8 (E:=E) f args h).unique ?_
 have e:∀ m,F1 E (ev E m) f args h=toldA args h:=fun m=>by
  unfold F1
  rw [hg]
  show M3 E (ev E m) f args h=_
  unfold M3
  rw [ht]; rfl
 simp only [e]
 exact .const
end Go.AM
namespace Go.Proofs.AmEnv
open Go Go.AM
theorem aQ (hg:A0.gc 63=false) (ht:A0.told 63=true):TC A0 63 P0:=by
 intro args rs hgc Z h xs hl hz hb
 unfold P0 at hgc
 split at hgc
 . rename_i s p
   split at hgc
   . rename_i hs
     cases hgc
     match xs,hl with
     | [x,y],_ =>
      have h0:=hz 0 x (.str s) rfl rfl
      have h1:=hz 1 y (.str p) rfl rfl
      cases h0; cases h1
      refine ⟨[.bool (contS p s)],h,Z,fun _=>none,?_,GA hb,VL.cons (.fz (.bool _)) VL.nil,Nat.le_refl _,fun id hz=>⟨hz,rfl⟩,fun id hz=>.inl hz,fun id _=>rfl,fun id L e=>(by cases e),[],rfl,fun id hi=>(List.not_mem_nil hi).elim⟩
      rw [pM hg ht]
      show (bif Nat.ble (Z6 s) 4000000000 || oneB p then (match contS p s with | true=>Res.ok (.bool true) h | false=>.ok (.bool false) h) else .bad)=_
      have hs:(Nat.ble (Z6 s) 4000000000 || oneB p)=true:=hs
      rw [hs]
      cases contS p s <;> rfl
   . cases hgc
 . cases hgc
end Go.Proofs.AmEnv
set_option maxRecDepth 100000
namespace Go.Proofs.AmEnv
open Go Go.AM
def M6 (T:Nat->Option (List AV->Option (List AV))) (f:Nat) (g:List AV->Option (List AV)) (k:Nat):Option (List AV->Option (List AV)):=bif Nat.beq k f then some g else T k
theorem C4 {E:Env} {T:Nat->Option (List AV->Option (List AV))} {F:Nat->Option PFn} {f:Nat} {g:List AV->Option (List AV)} (hP:PEok ⟨E,T,F⟩) (h:TC E f g):PEok ⟨E,M6 T f g,F⟩:=by
 refine ⟨hP.gl,hP.ti,fun k q e=>?_,hP.fn⟩
 have e:(bif Nat.beq k f then some g else T k)=some q:=e
 cases hb:Nat.beq k f with
 | true=>rw [hb] at e; cases e; rw [Nat.eq_of_beq_eq_true hb]; exact h
 | false=>rw [hb] at e; exact hP.T k q e
def T0 (k:Nat):Option (List AV->Option (List AV)):=none
section
variable (hP:PEok ⟨A0,T0,A4⟩)
include hP
omit hP in
def T1:=M6 T0 13 K9
theorem P1:PEok ⟨A0,T1,A4⟩:=C4 hP (D1 hP fun l h=>Pb h)
omit hP in
def T2:=M6 T1 11 v8
theorem P2:PEok ⟨A0,T2,A4⟩:=C4 (P1 hP) (D1 (P1 hP) fun p h=>Pc (by simp only [bigN] at h ⊢; omega))
omit hP in
def T3:=M6 T2 43 K9
theorem P3:PEok ⟨A0,T3,A4⟩:=C4 (P2 hP) (nL (P2 hP) rfl)
omit hP in
def T4:=M6 T3 63 P0
theorem P4:PEok ⟨A0,T4,A4⟩:=C4 (P3 hP) (aQ rfl rfl)
omit hP in
def T5:=M6 T4 19 M4
theorem P5:PEok ⟨A0,T5,A4⟩:=C4 (P4 hP) (Wj (P4 hP))
omit hP in
def T6:=M6 T5 54 C6
theorem P6:PEok ⟨A0,T6,A4⟩:=C4 (P5 hP) (Zs (P5 hP))
omit hP in
def T7:=M6 T6 69 Cl
theorem P7:PEok ⟨A0,T7,A4⟩:=C4 (P6 hP) (dE (P6 hP))
omit hP in
def T8:=M6 T7 56 E8
theorem P8:PEok ⟨A0,T8,A4⟩:=C4 (P7 hP) (Wl (P7 hP))
omit hP in
def T9:=M6 T8 33 B9
theorem P9:PEok ⟨A0,T9,A4⟩:=C4 (P8 hP) (Cm rfl (P8 hP))
omit hP in
def RE:=M6 T9 37 J6
theorem RF:PEok ⟨A0,RE,A4⟩:=C4 (P9 hP) (Pe (P9 hP))
omit hP in
def RG:=M6 RE 65 X0
theorem RH:PEok ⟨A0,RG,A4⟩:=C4 (RF hP) (Wm (RF hP))
omit hP in
def RI:=M6 RG 64 w4
theorem RJ:PEok ⟨A0,RI,A4⟩:=C4 (RH hP) (Zt rfl (RH hP))
omit hP in
def RK:=M6 RI 79 Cn
theorem RL:PEok ⟨A0,RK,A4⟩:=C4 (RJ hP) (dG (RJ hP))
omit hP in
def RM:=M6 RK 66 g8
theorem RN:PEok ⟨A0,RM,A4⟩:=C4 (RL hP) (Zu rfl (RL hP))
omit hP in
def RO:=M6 RM 21 K5
theorem RP:PEok ⟨A0,RO,A4⟩:=C4 (RN hP) (Wn rfl rfl (RN hP))
omit hP in
def RQ:=M6 RO 51 Cp
theorem RR:PEok ⟨A0,RQ,A4⟩:=C4 (RP hP) (dH rfl (RP hP))
omit hP in
def RS:=M6 RQ 67 D4
theorem RT:PEok ⟨A0,RS,A4⟩:=C4 (RR hP) (Cq rfl (RR hP))
omit hP in
def RU:=M6 RS 52 H9
theorem RV:PEok ⟨A0,RU,A4⟩:=C4 (RT hP) (Cr rfl rfl rfl rfl rfl rfl (RT hP))
omit hP in
def RW:=M6 RU 53 J7
theorem RX:PEok ⟨A0,RW,A4⟩:=C4 (RV hP) (Eb rfl rfl rfl rfl (RV hP))
omit hP in
def RY:=M6 RW 34 B8
theorem RZ:PEok ⟨A0,RY,A4⟩:=C4 (RX hP) (Ec rfl rfl rfl (RX hP))
omit hP in
def SA:=M6 RY 35 G8
theorem SB:PEok ⟨A0,SA,A4⟩:=C4 (RZ hP) (Hr rfl (RZ hP))
omit hP in
def SC:=M6 SA 20 F9
theorem SD:PEok ⟨A0,SC,A4⟩:=C4 (SB hP) (Fo rfl rfl rfl rfl rfl (SB hP))
omit hP in
def SE:=M6 SC 7 N1
theorem SF:PEok ⟨A0,SE,A4⟩:=C4 (SD hP) (Zw rfl rfl rfl (SD hP))
omit hP in
def SG:=M6 SE 6 X1
theorem SH:PEok ⟨A0,SG,A4⟩:=C4 (SF hP) (Wr (SF hP))
omit hP in
def SJ:=M6 SG 88 Ps
theorem SK:PEok ⟨A0,SJ,A4⟩:=C4 (SH hP) (nU (SH hP))
omit hP in
def SL:=M6 SJ 80 w9
theorem SM:PEok ⟨A0,SL,A4⟩:=C4 (SK hP) (Zz (SK hP))
omit hP in
def SN:=M6 SL 81 Hs
theorem SO:PEok ⟨A0,SN,A4⟩:=C4 (SM hP) (jY rfl (SM hP))
omit hP in
def SP:=M6 SN 89 Pu
theorem SQ:PEok ⟨A0,SP,A4⟩:=C4 (SO hP) (nV (SO hP))
omit hP in
def SR:=M6 SP 82 x4
theorem SS:PEok ⟨A0,SR,A4⟩:=C4 (SQ hP) (aB (SQ hP))
omit hP in
def ST:=M6 SR 83 Ht
theorem SU:PEok ⟨A0,ST,A4⟩:=C4 (SS hP) (kA rfl (SS hP))
omit hP in
def SV:=M6 ST 71 Pw
theorem SW:PEok ⟨A0,SV,A4⟩:=C4 (SU hP) (nW rfl rfl (SU hP))
omit hP in
def SX:=M6 SV 72 Px
theorem SZ:PEok ⟨A0,SX,A4⟩:=C4 (SW hP) (nX rfl rfl (SW hP))
omit hP in
def TA:=M6 SX 55 S9
theorem TB:PEok ⟨A0,TA,A4⟩:=C4 (SZ hP) (aE rfl rfl (SZ hP))
omit hP in
def TE:=M6 TA 10 R6
theorem TF:PEok ⟨A0,TE,A4⟩:=C4 (TB hP) (kJ rfl rfl rfl rfl rfl rfl rfl rfl rfl rfl rfl (TB hP))
omit hP in
def TG:=M6 TE 9 kL
theorem TH:PEok ⟨A0,TG,A4⟩:=C4 (TF hP) (xL (TF hP))
omit hP in
def TJ:=M6 TG 12 k9
theorem TK:PEok ⟨A0,TJ,A4⟩:=C4 (TH hP) (dO rfl (TH hP))
omit hP in
def TL:=M6 TJ 8 Q0
theorem TM:PEok ⟨A0,TL,A4⟩:=C4 (TK hP) (Qa rfl rfl rfl rfl (TK hP))
omit hP in
def TN:=M6 TL 14 Q1
theorem UM:PEok ⟨A0,TN,A4⟩:=C4 (TM hP) (Qb (TM hP))
end
end Go.Proofs.AmEnv
set_option maxRecDepth 100000
namespace Go.Proofs.AmEnv
open Go Go.AM
theorem sU {f:Nat} {T:Nat->Option (List AV->Option (List AV))} (hP:PEok ⟨A0,T,A4⟩) {a x:AV} (H:AM.Comes ⟨A0,T,A4⟩ f [a] [.bool true]) (hz:∀ Z h,Fz Z h x a):∃ h',callω A0 f [x] Heap.empty=.ok (.bool true) h':=by
 obtain ⟨vcs,h1,Z1,ow1,e,_,l,_⟩:=Dg hP H (Z:=fun _=>False) (h:=Heap.empty) (xs:=[x]) rfl (fun i u v hu hv=>by
  cases i with
  | zero=>cases hu; cases hv; exact hz _ _
  | succ i=>simp at hu) (fun id h=>h.elim)
 have l:VL Z1 ow1 h1 (openTs 0 [AV.bool true]).2 vcs [.bool true]:=l
 match vcs,l.1 with
 | [v],_ =>
  have hv:=l.2 0 v (.bool true) rfl rfl
  have:v=.bool true:=by
   cases hv with
   | fz h=>cases h; rfl
  subst this
  exact ⟨h1,e⟩
theorem IrInputs_ok (hP:PEok ⟨A0,T0,A4⟩) {m:Modl} {inp oth:List Int} {st mo:Int} (hm:m.ok) {x:AV} (hz:∀ Z h,Fz Z h x (xM m inp oth st mo)):∃ h',callω A0 4 [x] Heap.empty=.ok (.bool true) h':=sU (UM hP) (Cv (T:=TN) rfl rfl rfl rfl rfl rfl rfl rfl hm) hz
end Go.Proofs.AmEnv
