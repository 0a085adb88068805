/- What this program's functions do, at any data. Conditions: none. -/
import Derived.Test.YtionlfkdpjgpjaaGenA
set_option linter.unusedVariables false
set_option linter.unusedSimpArgs false
set_option linter.unusedSectionVars false
set_option linter.defProp false
set_option maxRecDepth 100000
noncomputable section
namespace Go.Proofs.AmEnv
open Go Go.AM
variable {T:Nat->Option (List AV->Option (List AV))}
section
variable {bs es tl R:List AV} {i k:Nat} {l:List Blk} {c:Cod} {nm:List UInt8} {ty ps:Int} {nr nb:Nat} {tch:List Nat}
theorem LO:∃ fr',evP ⟨A0,T,A2⟩ (.code Nr [(1,.ptr 0 0 0),(2,.ptr 1 0 0),(16,.int .i64 (l.length:Int)),(17,.int .i64 (l.length:Int))] ⟨[(PO.row 1 [AV.agg [.str nm,.int .i64 ty,.int .i64 ps,.msl 2 0 nr 1,.msl 3 0 l.length 5]] 5),.row 1 [(AV.agg [.str [],.int .i64 0,.int .i64 0,.nilsl,.nilsl])] 5,.row 0 R 1,.row 0 bs 5],0,[]⟩)=some (.ok (.exit 0) fr' ⟨[(PO.row 1 [AV.agg [.str nm,.int .i64 ty,.int .i64 ps,.msl 2 0 nr 1,.msl 3 0 l.length 5]] 5),.row 1 [(AV.agg [.str [],.int .i64 0,.int .i64 0,.nilsl,.nilsl])] 5,.row 0 R 1,.row 0 bs 5],0,[]⟩)∧lookP fr' 1=.ptr 0 0 0∧lookP fr' 2=.ptr 1 0 0:=by
 unfold Nr jZ
 have hlt:decide ((l.length:Int) < (l.length:Int))=false:=by simp
 simp -implicitDefEqProofs only [hlt,XP,seval]
 exact ⟨_,rfl,rfl,rfl⟩
theorem LP (hT:T 70=some E2) (hC:T 72=some Y4) (hs:l.length≤bigN) (hok:∀ b∈l,b.ok):∃ fr',evP ⟨A0,T,A2⟩ (.code (.loop Nr) [(1,.ptr 0 0 0),(2,.ptr 1 0 0),(16,.int .i64 (l.length:Int)),(17,.int .i64 0)] ⟨[(PO.row 1 [AV.agg [.str nm,.int .i64 ty,.int .i64 ps,.msl 2 0 nr 1,.msl 3 0 l.length 5]] 5),.row 1 [(AV.agg [.str [],.int .i64 0,.int .i64 0,.nilsl,.nilsl])] 5,.row 0 R 1,.row 0 (l.map Blk.F) 5],0,[]⟩)=some (.ok (.exit 0) fr' ⟨[(PO.row 1 [AV.agg [.str nm,.int .i64 ty,.int .i64 ps,.msl 2 0 nr 1,.msl 3 0 l.length 5]] 5),.row 1 [(AV.agg [.str [],.int .i64 0,.int .i64 0,.nilsl,.nilsl])] 5,.row 0 R 1,.row 0 (l.map Blk.O) 5],0,[]⟩)∧lookP fr' 1=.ptr 0 0 0∧lookP fr' 2=.ptr 1 0 0:=by
 have hl:=Ey (P:=⟨A0,T,A2⟩) (c:=Nr) (fun i=>([(1,.ptr 0 0 0),(2,.ptr 1 0 0),(16,.int .i64 (l.length:Int)),(17,.int .i64 (i:Int))],⟨[(PO.row 1 [AV.agg [.str nm,.int .i64 ty,.int .i64 ps,.msl 2 0 nr 1,.msl 3 0 l.length 5]] 5),.row 1 [(AV.agg [.str [],.int .i64 0,.int .i64 0,.nilsl,.nilsl])] 5,.row 0 R 1,.row 0 (mix Blk.F Blk.O l i) 5],0,[]⟩)) l.length (fun i h=>LN hT hC h hs (hok _ (List.getElem_mem h)))
 simp only [tU,eL] at hl
 obtain ⟨fr',h1,h2,h3⟩:=LO (T:=T) (R:=R) (bs:=l.map Blk.O) (l:=l) (nm:=nm) (ty:=ty) (ps:=ps) (nr:=nr)
 exact ⟨fr',hl.trans (loop_exit h1),h2,h3⟩
theorem Pj (hN:T 73=none) (hN1:T 158=none) (hF:T 157=some F4) (hok:I2 l):∃ tch2,evP ⟨A0,T,A2⟩ (.call 73 [.msl 3 0 l.length 5] ⟨[(PO.row 1 [AV.agg [.str nm,.int .i64 ty,.int .i64 ps,.msl 2 0 nr 1,.msl 3 0 l.length 5]] 5),.row 1 [(AV.agg [.str [],.int .i64 0,.int .i64 0,.nilsl,.nilsl])] 5,.row 0 R 1,.row 0 (l.map Blk.O) 5],0,tch⟩)=some (.val [.bool (!decide (rnd l=l))] ⟨[(PO.row 1 [AV.agg [.str nm,.int .i64 ty,.int .i64 ps,.msl 2 0 nr 1,.msl 3 0 l.length 5]] 5),.row 1 [(AV.agg [.str [],.int .i64 0,.int .i64 0,.nilsl,.nilsl])] 5,.row 0 R 1,.row 0 ((rnd l).map Blk.O) 5,.row 1 [.bool (!decide (rnd l=l))] 1],0,tch2⟩):=by
 obtain ⟨t',hb⟩:=cE (T:=T) hN1 hF hok
 exact ⟨_,aD (ids:=[3]) hN rfl rfl rfl rfl hb rfl rfl⟩
theorem LQ (hN:T 73=none) (hN1:T 158=none) (hF:T 157=some F4) (hok:I2 l) (hn:¬ rnd l=l) :
 evP ⟨A0,T,A2⟩ (.code Sr [(1,.ptr 0 0 0),(2,.ptr 1 0 0)] ⟨[(PO.row 1 [AV.agg [.str nm,.int .i64 ty,.int .i64 ps,.msl 2 0 nr 1,.msl 3 0 l.length 5]] 5),.row 1 [(AV.agg [.str [],.int .i64 0,.int .i64 0,.nilsl,.nilsl])] 5,.row 0 R 1,.row 0 (l.map Blk.O) 5],0,[]⟩)=some (.ok .normal [(1,.ptr 0 0 0),(2,.ptr 1 0 0)] ⟨[(PO.row 1 [AV.agg [.str nm,.int .i64 ty,.int .i64 ps,.msl 2 0 nr 1,.msl 3 0 l.length 5]] 5),.row 1 [(AV.agg [.str [],.int .i64 0,.int .i64 0,.nilsl,.nilsl])] 5,.row 0 R 1,.row 0 ((rnd l).map Blk.O) 5],0,[]⟩):=by
 obtain ⟨t2,h⟩:=Pj (T:=T) (R:=R) (nm:=nm) (ty:=ty) (ps:=ps) (nr:=nr) (tch:=[]) hN hN1 hF hok
 rw [B8 hn] at h
 unfold Sr kB kA
 simp -implicitDefEqProofs only [h,XP,seval]
theorem LR (hN:T 73=none) (hN1:T 158=none) (hF:T 157=some F4) (hok:I2 l) (hn:rnd l=l) :
 ∃ fr' K',evP ⟨A0,T,A2⟩ (.code Sr [(1,.ptr 0 0 0),(2,.ptr 1 0 0)] ⟨[(PO.row 1 [AV.agg [.str nm,.int .i64 ty,.int .i64 ps,.msl 2 0 nr 1,.msl 3 0 l.length 5]] 5),.row 1 [(AV.agg [.str [],.int .i64 0,.int .i64 0,.nilsl,.nilsl])] 5,.row 0 R 1,.row 0 (l.map Blk.O) 5],0,[]⟩)=some (.ok (.exit 4) fr' K')∧lookP fr' 1=.ptr 0 0 0∧lookP fr' 2=.ptr 1 0 0∧∃ t,K'=⟨[(PO.row 1 [AV.agg [.str nm,.int .i64 ty,.int .i64 ps,.msl 2 0 nr 1,.msl 3 0 l.length 5]] 5),.row 1 [(AV.agg [.str [],.int .i64 0,.int .i64 0,.nilsl,.nilsl])] 5,.row 0 R 1,.row 0 (l.map Blk.O) 5,.row 1 [.bool false] 1],0,t⟩:=by
 obtain ⟨t2,h⟩:=Pj (T:=T) (R:=R) (nm:=nm) (ty:=ty) (ps:=ps) (nr:=nr) (tch:=[]) hN hN1 hF hok
 rw [A5 hn,hn] at h
 unfold Sr kA
 simp -implicitDefEqProofs only [h,XP,seval]
 exact ⟨_,_,rfl,rfl,rfl,_,rfl⟩
theorem LS (hN:T 73=none) (hN1:T 158=none) (hF:T 157=some F4):∀ (n:Nat) (l:List Blk),hU l=n->I2 l ->
 ∃ fr' t,evP ⟨A0,T,A2⟩ (.code (.loop Sr) [(1,.ptr 0 0 0),(2,.ptr 1 0 0)] ⟨[(PO.row 1 [AV.agg [.str nm,.int .i64 ty,.int .i64 ps,.msl 2 0 nr 1,.msl 3 0 l.length 5]] 5),.row 1 [(AV.agg [.str [],.int .i64 0,.int .i64 0,.nilsl,.nilsl])] 5,.row 0 R 1,.row 0 (l.map Blk.O) 5],0,[]⟩)=some (.ok (.exit 4) fr' ⟨[(PO.row 1 [AV.agg [.str nm,.int .i64 ty,.int .i64 ps,.msl 2 0 nr 1,.msl 3 0 l.length 5]] 5),.row 1 [(AV.agg [.str [],.int .i64 0,.int .i64 0,.nilsl,.nilsl])] 5,.row 0 R 1,.row 0 ((L8 l).map Blk.O) 5,.row 1 [.bool false] 1],0,t⟩)∧lookP fr' 1=.ptr 0 0 0∧lookP fr' 2=.ptr 1 0 0:=by
 intro n
 induction n using Nat.strongRecOn with
 | ind n ih =>
  intro l hn hok
  by_cases q:rnd l=l
  . obtain ⟨fr',K',h1,h2,h3,t,rfl⟩:=LR (T:=T) (R:=R) (nm:=nm) (ty:=ty) (ps:=ps) (nr:=nr) hN hN1 hF hok q
    rw [Bw q]
    exact ⟨fr',t,loop_exit h1,h2,h3⟩
  . obtain ⟨fr',t,h1,h2,h3⟩:=ih _ (hn ▸ Pc q) (rnd l) rfl hok.rnd
    rw [Y6] at h1
    rw [Ct q]
    exact ⟨fr',t,(loop_more (LQ hN hN1 hF hok q)).trans h1,h2,h3⟩
set_option maxHeartbeats 8000000 in
theorem Lb (hCloneInts:T 70=some E2) (hCloneBlocks:T 71=some x9) (hCloneInstrs:T 72=some Y4) (ntwin_round:T 73=none) (ntwin_round_1:T 158=none) (htwin_firsts:T 157=some F4) {c:Cod} (hk:c.tok):AM.Comes ⟨A0,T,A2⟩ 17 [c.F] [(K6 c).O]:=by
 have tc1:=fun K=>Pi (K:=K) hCloneInts hk.1
 have tc2:=fun K=>pQ (K:=K) hCloneBlocks hk.2.2.1
 obtain ⟨fr1,h1,h2,h3⟩:=LP (T:=T) (R:=ints c.regs) (l:=c.blocks) (nm:=c.name) (ty:=c.ty) (ps:=c.ps) (nr:=c.regs.length) hCloneInts hCloneInstrs hk.2.len hk.2.1
 obtain ⟨fr2,t,h4,h5,h6⟩:=LS (T:=T) (R:=ints c.regs) (nm:=c.name) (ty:=c.ty) (ps:=c.ps) (nr:=c.regs.length) ntwin_round ntwin_round_1 htwin_firsts _ c.blocks rfl hk.2
 refine ⟨[.agg (c.cs (.msl 1 0 c.regs.length 1) (.msl 2 0 c.blocks.length 5))],⟨[.row 1 [.agg (c.cs (.msl 1 0 c.regs.length 1) (.msl 2 0 c.blocks.length 5))] 5,.row 0 (ints c.regs) 1,.row 0 ((L8 c.blocks).map Blk.O) 5],0,[]⟩,?_,?_⟩
 . rw [A7 (c:=GO) (nt:=62) (rs:=[.cell 2 31]) rfl (by simp)]; unfold GO
   unfold K0
   simp only [Cod.F]
   unfold kE kD kC rU
   simp -implicitDefEqProofs only [tc1,tc2,h1,h2,h3,h4,h5,h6,Cod.cs,List.length_map,XP,seval]
 . refine B4 (vs':=[.agg (c.cs (.msl 1 0 c.regs.length 1) (.msl 2 0 c.blocks.length 5))]) (os':=[.row 1 [.agg (c.cs (.msl 1 0 c.regs.length 1) (.msl 2 0 c.blocks.length 5))] 5,.row 0 (ints c.regs) 1,.row 0 ((L8 c.blocks).map Blk.O) 5]) ?_ ?_ (us:=[.agg (c.cs (.msl 0 0 c.regs.length 1) (.msl 1 0 c.blocks.length 5))]) (ps:=[.row 0 (ints c.regs) 1,.row 0 ((L8 c.blocks).map Blk.O) 5]) ?_ ?_ ?_
   all_goals simp -implicitDefEqProofs only [Cod.cs,Cod.O,K6,List.length_map,Yw,XP,seval]
def Q9:=U4 (fun p:(Cod)=>[p.F]) (fun p=>[(K6 p).O]) (fun p=>p.tok)
theorem Gs (htwin_Twin:T 17=some Q9) {c:Cod} {K:PK} {args:List AV} (hv:viewAs K.os args=some [c.F]) (hk:c.tok):evP ⟨A0,T,A2⟩ (.call 17 args K)=some (.val (openTs K.os.length [(K6 c).O]).1 ⟨K.os ++ (openTs K.os.length [(K6 c).O]).2,K.ext,K.tch⟩):=B5 htwin_Twin hv (C0 (a:=fun p:(Cod)=>[p.F]) (r:=fun p=>[(K6 p).O]) (fun x y e=>by simp only [VJ] at e; simp only [e]) (c) hk) (by generalize (refsL args).isEmpty=z; simp -implicitDefEqProofs only [VN,XP,seval])
theorem Vy (hCloneInts:T 70=some E2) (hCloneBlocks:T 71=some x9) (hCloneInstrs:T 72=some Y4) (ntwin_round:T 73=none) (ntwin_round_1:T 158=none) (htwin_firsts:T 157=some F4) (hP:PEok ⟨A0,T,A2⟩):TC A0 17 Q9:=C1 hP fun p h=>Lb hCloneInts hCloneBlocks hCloneInstrs ntwin_round ntwin_round_1 htwin_firsts h
end
end Go.Proofs.AmEnv
set_option maxRecDepth 100000
namespace Go.Proofs.AmEnv
open Go Go.AM
variable {T:Nat->Option (List AV->Option (List AV))}
section
variable {es:List Endd} {e:Endd} {i:Nat}
theorem lN {l m:List Endd}:l.map Endd.F=m.map Endd.F ↔ l=m:=⟨map_inj fun _ _=>Endd.F_inj,fun h=>h ▸ rfl⟩
theorem It  {a:Int} {b:Int}:AM.Comes ⟨A0,T,A2⟩ 66 [.int .i64 a,.int .i64 b] [.agg [.int .i64 2,.int .i64 1,.int .i64 a,.int .i64 b]]:=by
 refine ⟨[.agg [.int .i64 2,.int .i64 1,.int .i64 a,.int .i64 b]],⟨[.row 1 [.agg [.int .i64 2,.int .i64 1,.int .i64 a,.int .i64 b]] 4],0,[]⟩,?_,B4 rfl List.nodup_nil rfl rfl rfl⟩
 rw [A7 (c:=GZ) (nt:=8) (rs:=[.cell 4 39]) rfl (by simp)]; unfold GZ
 unfold K0
 simp -implicitDefEqProofs only [XP,seval]
def W5:=U4 (fun p:(Int) × (Int)=>[.int .i64 p.1,.int .i64 p.2]) (fun p=>[.agg [.int .i64 2,.int .i64 1,.int .i64 p.1,.int .i64 p.2]]) (fun p=>True)
theorem Yz (hlaw19_fork:T 66=some W5) {a:Int} {b:Int} {K:PK}:evP ⟨A0,T,A2⟩ (.call 66 [.int .i64 a,.int .i64 b] K)=some (.val (openTs K.os.length [.agg [.int .i64 2,.int .i64 1,.int .i64 a,.int .i64 b]]).1 ⟨K.os ++ (openTs K.os.length [.agg [.int .i64 2,.int .i64 1,.int .i64 a,.int .i64 b]]).2,K.ext,K.tch⟩):=B5 hlaw19_fork (by simp -implicitDefEqProofs only [VV,XP,seval]) (C0 (a:=fun p:(Int) × (Int)=>[.int .i64 p.1,.int .i64 p.2]) (r:=fun p=>[.agg [.int .i64 2,.int .i64 1,.int .i64 p.1,.int .i64 p.2]]) (fun x y e=>by simp only [VJ] at e; simp only [e]) (a,b) trivial) (by simp -implicitDefEqProofs only [VN,XP,seval])
theorem Rn  (hP:PEok ⟨A0,T,A2⟩):TC A0 66 W5:=C1 hP fun p h=>It
theorem Iu  {a:Int}:AM.Comes ⟨A0,T,A2⟩ 67 [.int .i64 a] [.agg [.int .i64 1,.int .i64 0,.int .i64 a,.int .i64 0]]:=by
 refine ⟨[.agg [.int .i64 1,.int .i64 0,.int .i64 a,.int .i64 0]],⟨[.row 1 [.agg [.int .i64 1,.int .i64 0,.int .i64 a,.int .i64 0]] 4],0,[]⟩,?_,B4 rfl List.nodup_nil rfl rfl rfl⟩
 rw [A7 (c:=HA) (nt:=5) (rs:=[.cell 2 39]) rfl (by simp)]; unfold HA
 unfold K0
 simp -implicitDefEqProofs only [XP,seval]
def W6:=U4 (fun p:(Int)=>[.int .i64 p]) (fun p=>[.agg [.int .i64 1,.int .i64 0,.int .i64 p,.int .i64 0]]) (fun p=>True)
theorem Za (hlaw19_jump:T 67=some W6) {a:Int} {K:PK}:evP ⟨A0,T,A2⟩ (.call 67 [.int .i64 a] K)=some (.val (openTs K.os.length [.agg [.int .i64 1,.int .i64 0,.int .i64 a,.int .i64 0]]).1 ⟨K.os ++ (openTs K.os.length [.agg [.int .i64 1,.int .i64 0,.int .i64 a,.int .i64 0]]).2,K.ext,K.tch⟩):=B5 hlaw19_jump (by simp -implicitDefEqProofs only [VV,XP,seval]) (C0 (a:=fun p:(Int)=>[.int .i64 p]) (r:=fun p=>[.agg [.int .i64 1,.int .i64 0,.int .i64 p,.int .i64 0]]) (fun x y e=>by simp only [VJ] at e; simp only [e]) (a) trivial) (by simp -implicitDefEqProofs only [VN,XP,seval])
theorem Ro  (hP:PEok ⟨A0,T,A2⟩):TC A0 67 W6:=C1 hP fun p h=>Iu
theorem Iv  :AM.Comes ⟨A0,T,A2⟩ 68 [] [.agg [.int .i64 3,.int .i64 1,.int .i64 0,.int .i64 0]]:=by
 refine ⟨[.agg [.int .i64 3,.int .i64 1,.int .i64 0,.int .i64 0]],⟨[.row 1 [.agg [.int .i64 3,.int .i64 1,.int .i64 0,.int .i64 0]] 4],0,[]⟩,?_,B4 rfl List.nodup_nil rfl rfl rfl⟩
 rw [A7 (c:=HB) (nt:=2) (rs:=[.cell 0 39]) rfl (by simp)]; unfold HB
 unfold K0
 simp -implicitDefEqProofs only [XP,seval]
def W7:=U4 (fun p:Unit=>[]) (fun p=>[.agg [.int .i64 3,.int .i64 1,.int .i64 0,.int .i64 0]]) (fun p=>True)
theorem Zb (hlaw19_back:T 68=some W7)  {K:PK}:evP ⟨A0,T,A2⟩ (.call 68 [] K)=some (.val (openTs K.os.length [.agg [.int .i64 3,.int .i64 1,.int .i64 0,.int .i64 0]]).1 ⟨K.os ++ (openTs K.os.length [.agg [.int .i64 3,.int .i64 1,.int .i64 0,.int .i64 0]]).2,K.ext,K.tch⟩):=B5 hlaw19_back (by simp -implicitDefEqProofs only [VV,XP,seval]) (C0 (a:=fun p:Unit=>[]) (r:=fun p=>[.agg [.int .i64 3,.int .i64 1,.int .i64 0,.int .i64 0]]) (fun x y e=>by simp only [VJ] at e; simp only [e]) () trivial) (by simp -implicitDefEqProofs only [VN,XP,seval])
theorem Rp  (hP:PEok ⟨A0,T,A2⟩):TC A0 68 W7:=C1 hP fun p h=>Iv
def BN (e:Endd):AV:=.agg [.nilsl,.int .i64 e.kind,.int .i64 e.a,.int .i64 e.to,.int .i64 e.els]
def Gt (es:List Endd):AV:=.agg [.str B2,.int .i64 1,.int .i64 0,ownd 0 1 (ints [1,1]),ownd 0 5 (es.map BN)]
set_option maxHeartbeats 4000000 in
theorem LT (h:0 < es.length):evP ⟨A0,T,A2⟩ (.code Ka [(0,fslN (es.map Endd.F)),(2,.ptr 0 0 0),(3,.ptr 1 0 0),(4,.int .i64 0)] ⟨[.row 1 [(AV.agg [.str [],.int .i64 0,.int .i64 0,.nilsl,.nilsl])] 5,.row 1 [.agg [.str B2,.int .i64 1,.int .i64 0,.msl 2 0 2 1,.nilsl]] 5,.row 0 (ints [1,1]) 1],0,[]⟩)=some (.ok .normal [(0,fslN (es.map Endd.F)),(2,.ptr 0 0 0),(3,.ptr 1 0 0),(4,.int .i64 ((1:Nat):Int))] ⟨[.row 1 [(AV.agg [.str [],.int .i64 0,.int .i64 0,.nilsl,.nilsl])] 5,.row 1 [.agg [.str B2,.int .i64 1,.int .i64 0,.msl 2 0 2 1,.msl 3 0 1 5]] 5,.row 0 (ints [1,1]) 1,.row 0 ((es.take 1).map BN) 5],0,[]⟩):=by
 unfold Ka
 have hlt:decide ((0:Int) < (es.length:Int))=true:=by simp [h]
 have hi:=ix_fslN (te:=Bj) (k:=.i64) (i:=0) (B1 (F:=Endd.F) h) rfl
 have hi:Ua Bj (fslN (es.map Endd.F)) (.int .i64 0)=some (.fptr (Endd.F es[0]) 0):=hi
 have hx:=map_take (F:=BN) h
 rw [List.take_zero] at hx
 have hx:[BN es[0]]=(es.take 1).map BN:=hx
 rw [← hx]
 simp only [Endd.F,BN] at hi ⊢
 simp -implicitDefEqProofs only [hlt,hi,show IntKind.i64.wrap (0 + 1)=((1:Nat):Int) from rfl,List.length_map,XP,Nat.reduceAdd,Nat.reduceSub,Nat.reduceLT,Nat.reduceLeDiff,Nat.reduceEqDiff,Nat.reduceMul,↓reduceIte]
set_option maxHeartbeats 4000000 in
theorem LU (h:i < es.length) (hs:es.length * 56≤bigN):evP ⟨A0,T,A2⟩ (.code Ka [(0,fslN (es.map Endd.F)),(2,.ptr 0 0 0),(3,.ptr 1 0 0),(4,.int .i64 (i:Int))] ⟨[.row 1 [(AV.agg [.str [],.int .i64 0,.int .i64 0,.nilsl,.nilsl])] 5,.row 1 [.agg [.str B2,.int .i64 1,.int .i64 0,.msl 2 0 2 1,.msl 3 0 i 5]] 5,.row 0 (ints [1,1]) 1,.row 0 ((es.take i).map BN) 5],0,[]⟩)=some (.ok .normal [(0,fslN (es.map Endd.F)),(2,.ptr 0 0 0),(3,.ptr 1 0 0),(4,.int .i64 ((i + 1:Nat):Int))] ⟨[.row 1 [(AV.agg [.str [],.int .i64 0,.int .i64 0,.nilsl,.nilsl])] 5,.row 1 [.agg [.str B2,.int .i64 1,.int .i64 0,.msl 2 0 2 1,.msl 3 0 (i + 1) 5]] 5,.row 0 (ints [1,1]) 1,.row 0 ((es.take (i + 1)).map BN) 5],0,[]⟩):=by
 unfold Ka
 have hlt:decide ((i:Int) < (es.length:Int))=true:=by simp [h]
 have hw:=A9 (i:=i) (by simp only [bigN] at hs; omega)
 have hi:=B1 (F:=Endd.F) h
 have hm:((es.take i).map BN).length=i:=by simp; omega
 have hz:(i + 1) * 56≤140737488355328:=by simp only [bigN] at hs; omega
 have hx:=map_take (F:=BN) h
 rw [← hx]
 simp only [Endd.F,BN] at hi ⊢
 simp -implicitDefEqProofs only [hlt,hi,hm,hw,hz,List.length_map,XP,seval]
theorem LV {K:PK}:∃ fr',evP ⟨A0,T,A2⟩ (.code Ka [(0,fslN (es.map Endd.F)),(2,.ptr 0 0 0),(3,.ptr 1 0 0),(4,.int .i64 (es.length:Int))] K)=some (.ok (.exit 0) fr' K)∧lookP fr' 2=.ptr 0 0 0∧lookP fr' 3=.ptr 1 0 0:=by
 unfold Ka
 have hlt:decide ((es.length:Int) < (es.length:Int))=false:=by simp
 simp -implicitDefEqProofs only [hlt,List.length_map,XP,seval]
 exact ⟨_,rfl,rfl,rfl⟩
theorem DL (hs:es.length * 56≤bigN):∀ (n i:Nat),es.length=i + n->0 < i->∃ fr',evP ⟨A0,T,A2⟩ (.code (.loop Ka) [(0,fslN (es.map Endd.F)),(2,.ptr 0 0 0),(3,.ptr 1 0 0),(4,.int .i64 (i:Int))] ⟨[.row 1 [(AV.agg [.str [],.int .i64 0,.int .i64 0,.nilsl,.nilsl])] 5,.row 1 [.agg [.str B2,.int .i64 1,.int .i64 0,.msl 2 0 2 1,.msl 3 0 i 5]] 5,.row 0 (ints [1,1]) 1,.row 0 ((es.take i).map BN) 5],0,[]⟩)=some (.ok (.exit 0) fr' ⟨[.row 1 [(AV.agg [.str [],.int .i64 0,.int .i64 0,.nilsl,.nilsl])] 5,.row 1 [.agg [.str B2,.int .i64 1,.int .i64 0,.msl 2 0 2 1,.msl 3 0 es.length 5]] 5,.row 0 (ints [1,1]) 1,.row 0 (es.map BN) 5],0,[]⟩)∧lookP fr' 2=.ptr 0 0 0∧lookP fr' 3=.ptr 1 0 0
 | 0,i,e,h0=>by
  obtain rfl:i=es.length:=by omega
  rw [List.take_length]
  obtain ⟨fr',h1,h2⟩:=LV (T:=T) (es:=es) (K:=⟨[.row 1 [(AV.agg [.str [],.int .i64 0,.int .i64 0,.nilsl,.nilsl])] 5,.row 1 [.agg [.str B2,.int .i64 1,.int .i64 0,.msl 2 0 2 1,.msl 3 0 es.length 5]] 5,.row 0 (ints [1,1]) 1,.row 0 (es.map BN) 5],0,[]⟩)
  exact ⟨fr',loop_exit h1,h2⟩
 | n + 1,i,e,h0=>by
  rw [loop_more (LU (by omega) hs)]
  exact DL hs n (i + 1) (by omega) (by omega)
theorem vG (e:Endd):noF (BN e)=true:=by unfold BN; rfl
theorem pR (l:List Endd):noFL (l.map BN)=true:=s3 vG l
theorem lO:noF (Gt es)=true:=by unfold Gt; simp -implicitDefEqProofs only [pR,noFL_ints,XP,seval]
theorem pS:((Gt es).cells.all fun c=>(ownOf c).isSome || clo c)=true:=rfl
theorem vH (e:Endd):frzC (BN e)=some (Blk.F ⟨[],e⟩):=by unfold BN Blk.F; rfl
theorem pT (l:List Endd):frzL (l.map BN)=some ((l.map fun e=>Blk.mk [] e).map Blk.F):=by
 rw [List.map_map]; exact V8 vH l
theorem Iw  {es:List Endd} (hk:0 < es.length∧es.length * 56≤bigN):AM.Comes ⟨A0,T,A2⟩ 65 [fslN (es.map Endd.F)] [Gt es]:=by
 obtain ⟨fr',h1,h2,h3⟩:=DL (T:=T) hk.2 (es.length - 1) 1 (by omega) (by decide)
 have hl:=(loop_more (LT (T:=T) hk.1)).trans h1
 refine ⟨[.agg [.str B2,.int .i64 1,.int .i64 0,.msl 1 0 2 1,.msl 2 0 es.length 5]],⟨[.row 1 [.agg [.str B2,.int .i64 1,.int .i64 0,.msl 1 0 2 1,.msl 2 0 es.length 5]] 5,.row 0 (ints [1,1]) 1,.row 0 (es.map BN) 5],0,[]⟩,?_,?_⟩
 . rw [A7 (c:=GY) (nt:=24) (rs:=[.cell 2 31]) rfl (by simp)]; unfold GY
   unfold K0
   simp only [B2,ints,List.map_cons,List.map_nil] at hl ⊢
   simp -implicitDefEqProofs only [hl,h2,h3,XP,seval]
 . refine B4 (vs':=[.agg [.str B2,.int .i64 1,.int .i64 0,.msl 1 0 2 1,.msl 2 0 es.length 5]]) (os':=[.row 1 [.agg [.str B2,.int .i64 1,.int .i64 0,.msl 1 0 2 1,.msl 2 0 es.length 5]] 5,.row 0 (ints [1,1]) 1,.row 0 (es.map BN) 5]) ?_ ?_ (us:=[.agg [.str B2,.int .i64 1,.int .i64 0,.msl 0 0 2 1,.msl 1 0 es.length 5]]) (ps:=[.row 0 (ints [1,1]) 1,.row 0 (es.map BN) 5]) ?_ ?_ ?_
   all_goals simp -implicitDefEqProofs only [Gt,List.length_map,XP,seval]
def W8:=U4 (fun p:(List Endd)=>[fslN (p.map Endd.F)]) (fun p=>[Gt p]) (fun p=>0 < p.length∧p.length * 56≤bigN)
theorem Du (hlaw19_code:T 65=some W8) {es:List Endd} {K:PK} {args:List AV} (hv:viewAs K.os args=some [fslN (es.map Endd.F)]) (hk:0 < es.length∧es.length * 56≤bigN):evP ⟨A0,T,A2⟩ (.call 65 args K)=some (.val (openTs K.os.length [Gt es]).1 ⟨K.os ++ (openTs K.os.length [Gt es]).2,K.ext,K.tch⟩):=B5 hlaw19_code hv (C0 (a:=fun p:(List Endd)=>[fslN (p.map Endd.F)]) (r:=fun p=>[Gt p]) (fun x y e=>by simp only [VJ,lN] at e; simp only [e]) (es) hk) (by generalize (refsL args).isEmpty=z; simp -implicitDefEqProofs only [VN,lO,pS,XP,seval])
theorem Rq  (hP:PEok ⟨A0,T,A2⟩):TC A0 65 W8:=C1 hP fun p h=>Iw  h
end
end Go.Proofs.AmEnv
set_option maxRecDepth 100000
namespace Go.Proofs.AmEnv
open Go Go.AM
variable {T:Nat->Option (List AV->Option (List AV))}
section
variable {K:PK} {i j i' j':Nat} {c d:Cod}
theorem Bz (h1:K.os[i]?=some (.row 0 (ints c.regs) 1)) (h2:K.os[j]?=some (.row 0 (c.blocks.map Blk.O) 5)):viewA K.os (.agg [.str c.name,.int .i64 c.ty,.int .i64 c.ps,.msl i 0 c.regs.length 1,.msl j 0 c.blocks.length 5])=some c.F:=by
 have e1:(ints c.regs).take c.regs.length=ints c.regs:=List.take_of_length_le (by simp)
 have e2:(c.blocks.map Blk.O).take c.blocks.length=c.blocks.map Blk.O:=List.take_of_length_le (by simp)
 unfold Cod.F
 simp -implicitDefEqProofs only [h1,h2,e1,e2,frzL_ints,Sy,List.length_map,XP,seval]
theorem Te {es:List Endd} (h1:K.os[i]?=some (.row 0 (ints [1,1]) 1)) (h2:K.os[j]?=some (.row 0 (es.map BN) 5)):viewA K.os (.agg [.str B2,.int .i64 1,.int .i64 0,.msl i 0 2 1,.msl j 0 es.length 5])=some (Cod.F ⟨B2,1,0,[1,1],es.map fun e=>⟨[],e⟩⟩):=by
 have e2:(es.map BN).take es.length=es.map BN:=List.take_of_length_le (by simp)
 unfold Cod.F
 simp only [ints,List.map_cons,List.map_nil] at h1 ⊢
 simp -implicitDefEqProofs only [h1,h2,e2,pT,List.length_map,XP,seval]
theorem Vz (h:c.ok):V3 [c.F,d.F]=some [.bool (decide (c=d))]:=C0 (a:=fun p:Cod × Cod=>[p.1.F,p.2.F]) (r:=fun p=>[.bool (decide (p.1=p.2))]) (fun x y e=>by simp only [List.cons.injEq,Cod.F_iff,and_true] at e; simp only [e]) (c,d) h
theorem Ca (hT:T 19=some V3) (h:c.ok) {args:List AV} (hv:viewAs K.os args=some [c.F,d.F]):evP ⟨A0,T,A2⟩ (.call 19 args K)=some (.val [.bool (decide (c=d))] ⟨K.os ++ [],K.ext,K.tch⟩):=B5 hT hv (Vz h) (by show (true && (_ || true))=true; simp)
def wL1:List Blk:=[Endd.mk 2 1 1 2,Endd.mk 1 0 3 0,Endd.mk 1 0 4 0,Endd.mk 3 1 0 0,Endd.mk 3 1 0 0].map fun e=>⟨[],e⟩
def NM:List Blk:=[Endd.mk 2 1 1 2,Endd.mk 1 0 3 0,Endd.mk 1 0 3 0,Endd.mk 3 1 0 0,Endd.mk 3 1 0 0].map fun e=>⟨[],e⟩
def wM:List Blk:=[Endd.mk 2 1 1 1,Endd.mk 1 0 3 0,Endd.mk 1 0 3 0,Endd.mk 3 1 0 0,Endd.mk 3 1 0 0].map fun e=>⟨[],e⟩
theorem vI:L8 wL1=wM:=by
 rw [Ct (by decide),show rnd wL1=NM by decide,Ct (by decide),show rnd NM=wM by decide,Bw (by decide)]
theorem LW:I2 wL1:=by
 refine ⟨fun b hb=>?_,by decide,fun b hb=>?_⟩
 . obtain ⟨e,he,rfl⟩:=List.mem_map.1 hb
   exact ⟨fun x hx=>(List.not_mem_nil hx).elim,(by show 0 * 88≤bigN; decide)⟩
 . have:∀ b∈wL1,(b.e.kind=1∨b.e.kind=2->0≤b.e.to∧b.e.to < wL1.length)∧(b.e.kind=2->0≤b.e.els∧b.e.els < wL1.length):=by decide
   exact this b hb
set_option maxHeartbeats 8000000 in
theorem Gu (hlaw19_fork:T 66=some W5) (hlaw19_jump:T 67=some W6) (hlaw19_back:T 68=some W7) (hlaw19_code:T 65=some W8) (htwin_Twin:T 17=some Q9) (hSameCode:T 19=some V3) :AM.Comes ⟨A0,T,A2⟩ 15 [] [.bool true]:=by
 refine ⟨[.bool true],⟨[],0,[]⟩,?_,B4 rfl List.nodup_nil rfl rfl rfl⟩
 rw [A7 (c:=GM) (nt:=19) (rs:=[.tmp 0]) rfl (by simp)]; unfold GM
 unfold K0
 have t1:=fun a b K=>Yz (K:=K) (a:=a) (b:=b) hlaw19_fork
 have t2:=fun a K=>Za (K:=K) (a:=a) hlaw19_jump
 have t3:=fun K=>Zb (K:=K) hlaw19_back
 have t4:∀ K:PK,K.os[0]?=some (.row 0 ([Endd.mk 2 1 1 2,Endd.mk 1 0 3 0,Endd.mk 1 0 4 0,Endd.mk 3 1 0 0,Endd.mk 3 1 0 0].map Endd.F) 4)->evP ⟨A0,T,A2⟩ (.call 65 [.msl 0 0 5 4] K)=some (.val (openTs K.os.length [Gt [Endd.mk 2 1 1 2,Endd.mk 1 0 3 0,Endd.mk 1 0 4 0,Endd.mk 3 1 0 0,Endd.mk 3 1 0 0]]).1 ⟨K.os ++ (openTs K.os.length [Gt [Endd.mk 2 1 1 2,Endd.mk 1 0 3 0,Endd.mk 1 0 4 0,Endd.mk 3 1 0 0,Endd.mk 3 1 0 0]]).2,K.ext,K.tch⟩):=fun K hK=>Du hlaw19_code (by
  simp only [Endd.F,List.map_cons,List.map_nil] at hK ⊢
  simp -implicitDefEqProofs only [hK,XP,seval]) (by decide)
 have t5:∀ K:PK,K.os[1]?=some (.row 0 (ints [1,1]) 1)->K.os[2]?=some (.row 0 ([Endd.mk 2 1 1 2,Endd.mk 1 0 3 0,Endd.mk 1 0 4 0,Endd.mk 3 1 0 0,Endd.mk 3 1 0 0].map BN) 5)->evP ⟨A0,T,A2⟩ (.call 17 [.agg [.str B2,.int .i64 1,.int .i64 0,.msl 1 0 2 1,.msl 2 0 5 5]] K)=some (.val (openTs K.os.length [(K6 ⟨B2,1,0,[1,1],wL1⟩).O]).1 ⟨K.os ++ (openTs K.os.length [(K6 ⟨B2,1,0,[1,1],wL1⟩).O]).2,K.ext,K.tch⟩):=fun K h1 h2=>Gs htwin_Twin (by
  have:=Te h1 h2
  exact (congrArg (fun a=>D8 a (some [])) this).trans rfl) ⟨by decide,LW⟩
 have t6:∀ K:PK,K.os[6]?=some (.row 0 ([Endd.mk 2 1 1 1,Endd.mk 1 0 3 0,Endd.mk 1 0 3 0,Endd.mk 3 1 0 0,Endd.mk 3 1 0 0].map Endd.F) 4)->evP ⟨A0,T,A2⟩ (.call 65 [.msl 6 0 5 4] K)=some (.val (openTs K.os.length [Gt [Endd.mk 2 1 1 1,Endd.mk 1 0 3 0,Endd.mk 1 0 3 0,Endd.mk 3 1 0 0,Endd.mk 3 1 0 0]]).1 ⟨K.os ++ (openTs K.os.length [Gt [Endd.mk 2 1 1 1,Endd.mk 1 0 3 0,Endd.mk 1 0 3 0,Endd.mk 3 1 0 0,Endd.mk 3 1 0 0]]).2,K.ext,K.tch⟩):=fun K hK=>Du hlaw19_code (by
  simp only [Endd.F,List.map_cons,List.map_nil] at hK ⊢
  simp -implicitDefEqProofs only [hK,XP,seval]) (by decide)
 have t7:∀ K:PK,K.os[3]?=some (.row 0 (ints [1,1]) 1)->K.os[4]?=some (.row 0 (wM.map Blk.O) 5)->K.os[7]?=some (.row 0 (ints [1,1]) 1)->K.os[8]?=some (.row 0 ([Endd.mk 2 1 1 1,Endd.mk 1 0 3 0,Endd.mk 1 0 3 0,Endd.mk 3 1 0 0,Endd.mk 3 1 0 0].map BN) 5)->evP ⟨A0,T,A2⟩ (.call 19 [.agg [.str B2,.int .i64 1,.int .i64 0,.msl 3 0 2 1,.msl 4 0 5 5],.agg [.str B2,.int .i64 1,.int .i64 0,.msl 7 0 2 1,.msl 8 0 5 5]] K)=some (.val [.bool true] ⟨K.os ++ [],K.ext,K.tch⟩):=fun K h1 h2 h3 h4=>by
  have e1:=Bz (c:=⟨B2,1,0,[1,1],wM⟩) h1 h2
  have e2:=Te h3 h4
  exact Ca (c:=⟨B2,1,0,[1,1],wM⟩) (d:=⟨B2,1,0,[1,1],[Endd.mk 2 1 1 1,Endd.mk 1 0 3 0,Endd.mk 1 0 3 0,Endd.mk 3 1 0 0,Endd.mk 3 1 0 0].map fun e=>⟨[],e⟩⟩) hSameCode ⟨by decide,fun b hb=>by
   obtain ⟨e,he,rfl⟩:=List.mem_map.1 hb
   exact ⟨fun x hx=>(List.not_mem_nil hx).elim,(by show 0 * 88≤bigN; decide)⟩,by decide⟩ ((congrArg (fun a=>D8 a (D8 _ (some []))) e1).trans ((congrArg (fun b=>D8 (some _) (D8 b (some []))) e2).trans rfl))
 simp only [K6,vI,Gt,Cod.O,B2,ints,List.map_cons,List.map_nil,Endd.F] at t4 t5 t6 t7
 have hl5:(wM.map Blk.O).length=5:=rfl
 simp -implicitDefEqProofs only [t1,t2,t3,t4,t5,t6,t7,hl5,XP,seval]
def Y7:=U4 (fun p:Unit=>[]) (fun p=>[.bool true]) (fun p=>True)
theorem Wa (hlaw19_works:T 15=some Y7)  {K:PK}:evP ⟨A0,T,A2⟩ (.call 15 [] K)=some (.val (openTs K.os.length [.bool true]).1 ⟨K.os ++ (openTs K.os.length [.bool true]).2,K.ext,K.tch⟩):=B5 hlaw19_works (by simp -implicitDefEqProofs only [VV,XP,seval]) (C0 (a:=fun p:Unit=>[]) (r:=fun p=>[.bool true]) (fun x y e=>by simp only [VJ] at e; simp only [e]) () trivial) (by simp -implicitDefEqProofs only [VN,XP,seval])
theorem Pk (hlaw19_fork:T 66=some W5) (hlaw19_jump:T 67=some W6) (hlaw19_back:T 68=some W7) (hlaw19_code:T 65=some W8) (htwin_Twin:T 17=some Q9) (hSameCode:T 19=some V3) (hP:PEok ⟨A0,T,A2⟩):TC A0 15 Y7:=C1 hP fun p h=>Gu hlaw19_fork hlaw19_jump hlaw19_back hlaw19_code htwin_Twin hSameCode
end
end Go.Proofs.AmEnv
set_option maxRecDepth 100000
namespace Go.Proofs.AmEnv
open Go Go.AM
variable {T:Nat->Option (List AV->Option (List AV))}
theorem Kh {l:List Int} (h:I1 l=0):∀ e∈l,e=0:=by
 induction l with
 | nil=>intro e he; cases he
 | cons a l ih =>
  unfold I1 at h
  by_cases q:a=0
  . rw [if_pos q] at h
    intro e he
    rcases List.mem_cons.1 he with rfl | he
    . exact q
    . exact ih h e he
  . rw [if_neg q] at h; exact absurd h q
theorem El {a n:Int}:thereD a n=true ↔ 0≤a∧a < n:=by unfold thereD; simp
theorem lP {c:Cod} {e:Endd} (h:Rl c e=0):Ds c.blocks.length e:=by
 unfold Rl at h
 refine ⟨fun hk=>?_,fun hk=>?_⟩
 . rcases hk with hk | hk
   . rw [if_pos hk] at h
     by_cases q:thereD e.to c.blocks.length=true
     . exact El.1 q
     . rw [if_neg q] at h; cases h
   . have k1:¬ e.kind=1:=by omega
     rw [if_neg k1,if_pos hk] at h
     by_cases q:thereD e.to c.blocks.length=true
     . exact El.1 q
     . rw [if_neg q] at h; cases h
 . have k1:¬ e.kind=1:=by omega
   rw [if_neg k1,if_pos hk] at h
   by_cases q:thereD e.to c.blocks.length=true
   . rw [if_pos q] at h
     by_cases q2:thereD e.els c.blocks.length=true
     . exact El.1 q2
     . rw [if_neg q2] at h; cases h
   . rw [if_neg q] at h; cases h
theorem Wb {m:Modl} (h:d9 m=0):∀ c∈m.fs,U3 m c=0:=by
 unfold d9 at h
 by_cases q:I1 (m.gs.map Vr)=0
 . rw [if_pos q] at h
   by_cases q2:I1 (m.fs.map (U3 m))=0
   . exact fun c hc=>Kh q2 _ (List.mem_map_of_mem hc)
   . rw [if_neg q2] at h; exact absurd h q2
 . rw [if_neg q] at h; exact absurd h q
theorem cH {m:Modl} {c:Cod} (h:U3 m c=0):∀ b∈c.blocks,Vq m c b=0:=by
 unfold U3 at h
 split at h
 . cases h
 . split at h
   . cases h
   . split at h
     . cases h
     . exact fun b hb=>Kh h _ (List.mem_map_of_mem hb)
theorem iC {m:Modl} {c:Cod} (hs:c.sok) (h:U3 m c=0):c.tok:=by
 refine ⟨hs.1.1,hs.1.2.1,hs.1.2.2,fun b hb=>?_⟩
 have hb:=cH h b hb
 unfold Vq at hb
 split at hb
 . exact lP hb
 . rename_i q; exact absurd hb q
theorem Zc {m:Modl} (h:o4 m=false):d9 m=0:=by
 unfold o4 at h
 split at h
 . cases h
 . split at h
   . cases h
   . split at h
     . cases h
     . simpa using h
section
variable {c:Cod} {m:Modl} {i:Nat} {mF:AV}
theorem cI (hS:T 20=none) (hT:T 152=some H1) (hN:T 62=none) (hT2:T 160=some F8) (hN2:T 76=none) (hT3:T 161=some I6) (hN3:T 77=none) (hc:c.tok) :
 ∃ r1 r2 tt,∀ tch,evP ⟨A0,T,A2⟩ (.call 20 [.agg [.str c.name,.int .i64 c.ty,.int .i64 c.ps,.msl 4 0 c.regs.length 1,.msl 5 0 (L8 c.blocks).length 5]] ⟨[.row 1 [mF] 2,(PO.row 0 (ints c.regs) 1),.row 0 (c.blocks.map Blk.O) 5,PO.row 1 [.agg [.str c.name,.int .i64 c.ty,.int .i64 c.ps,.msl 1 0 c.regs.length 1,.msl 2 0 c.blocks.length 5]] 5,(PO.row 0 (ints c.regs) 1),(PO.row 0 ((L8 c.blocks).map Blk.O) 5),PO.row 1 [.agg [.str c.name,.int .i64 c.ty,.int .i64 c.ps,.msl 4 0 c.regs.length 1,.msl 5 0 (L8 c.blocks).length 5]] 5,(PO.row 0 (ints c.regs) 1),(PO.row 0 ((L8 c.blocks).map Blk.O) 5),PO.row 1 [.agg [.str c.name,.int .i64 c.ty,.int .i64 c.ps,.msl 7 0 c.regs.length 1,.msl 8 0 (L8 c.blocks).length 5]] 5,(PO.row 0 (ints c.regs) 1),(PO.row 0 ((L8 c.blocks).map Blk.O) 5),PO.row 1 [.agg [.str c.name,.int .i64 c.ty,.int .i64 c.ps,.msl 10 0 c.regs.length 1,.msl 11 0 (L8 c.blocks).length 5]] 5],0,tch⟩) =
   some (.val [] ⟨[.row 1 [mF] 2,(PO.row 0 (ints c.regs) 1),.row 0 (c.blocks.map Blk.O) 5,PO.row 1 [.agg [.str c.name,.int .i64 c.ty,.int .i64 c.ps,.msl 1 0 c.regs.length 1,.msl 2 0 c.blocks.length 5]] 5,.row 0 r1 1,.row 0 r2 5,PO.row 1 [.agg [.str c.name,.int .i64 c.ty,.int .i64 c.ps,.msl 4 0 c.regs.length 1,.msl 5 0 (L8 c.blocks).length 5]] 5,(PO.row 0 (ints c.regs) 1),(PO.row 0 ((L8 c.blocks).map Blk.O) 5),PO.row 1 [.agg [.str c.name,.int .i64 c.ty,.int .i64 c.ps,.msl 7 0 c.regs.length 1,.msl 8 0 (L8 c.blocks).length 5]] 5,(PO.row 0 (ints c.regs) 1),(PO.row 0 ((L8 c.blocks).map Blk.O) 5),PO.row 1 [.agg [.str c.name,.int .i64 c.ty,.int .i64 c.ps,.msl 10 0 c.regs.length 1,.msl 11 0 (L8 c.blocks).length 5]] 5],0,tt ++ tch⟩):=by
 have ht:(K6 c).ok:=⟨hc.1,(Lx hc.2).1,(Lx hc.2).2.1⟩
 obtain ⟨r1,r2,t1,hb⟩:=On (T:=T) hT hN hT2 hN2 hT3 hN3 ht
 exact ⟨r1,r2,_,fun tch=>aD (ids:=[4,5]) hS rfl rfl rfl rfl hb rfl rfl⟩
set_option maxHeartbeats 16000000 in
theorem LX (hCC:T 16=some Z4) (hTw:T 17=some Q9) (hRf:T 18=some W4) (hSC:T 19=some V3) (hS:T 20=none) (hT:T 152=some H1) (hN:T 62=none) (hT2:T 160=some F8) (hN2:T 76=none) (hT3:T 161=some I6) (hN3:T 77=none)
 (h:i < m.fs.length) (hs:m.fs.length≤bigN) (hc:m.fs[i].tok) :
 evP ⟨A0,T,A2⟩ (.code bI [(1,.ptr 0 0 0),(3,.int .i64 (i:Int))] ⟨[.row 1 [m.F] 2],0,[]⟩)=some (.ok .normal [(1,.ptr 0 0 0),(3,.int .i64 ((i + 1:Nat):Int))] ⟨[.row 1 [m.F] 2],0,[]⟩):=by
 have hlt:decide ((i:Int) < (m.fs.length:Int))=true:=by simp [h]
 have hw:=A9 (i:=i) (by simp only [bigN] at hs; omega)
 have hi:=B1 (F:=Cod.F) h
 generalize m.fs[i]=c at hi hc
 have hck:=lG hc
 have htk:(K6 c).ok:=⟨hc.1,(Lx hc.2).1,(Lx hc.2).2.1⟩
 have t1:=fun K=>Tc (K:=K) hCC hck
 have t2:∀ K:PK,K.os[1]?=some (PO.row 0 (ints c.regs) 1)->K.os[2]?=some (.row 0 (c.blocks.map Blk.O) 5)->evP ⟨A0,T,A2⟩ (.call 17 [.agg [.str c.name,.int .i64 c.ty,.int .i64 c.ps,.msl 1 0 c.regs.length 1,.msl 2 0 c.blocks.length 5]] K)=some (.val (openTs K.os.length [(K6 c).O]).1 ⟨K.os ++ (openTs K.os.length [(K6 c).O]).2,K.ext,K.tch⟩):=fun K h1 h2=>Gs hTw ((congrArg (fun a=>D8 a (some [])) (Bz h1 h2)).trans rfl) hc
 have t3:=fun K=>Yx (K:=K) hRf hc
 have s1:∀ (K:PK) (i j i' j':Nat),K.os[i]?=some (PO.row 0 (ints c.regs) 1)->K.os[j]?=some (PO.row 0 ((L8 c.blocks).map Blk.O) 5)->K.os[i']?=some (PO.row 0 (ints c.regs) 1)->K.os[j']?=some (PO.row 0 ((L8 c.blocks).map Blk.O) 5)->evP ⟨A0,T,A2⟩ (.call 19 [.agg [.str c.name,.int .i64 c.ty,.int .i64 c.ps,.msl i 0 c.regs.length 1,.msl j 0 (L8 c.blocks).length 5],.agg [.str c.name,.int .i64 c.ty,.int .i64 c.ps,.msl i' 0 c.regs.length 1,.msl j' 0 (L8 c.blocks).length 5]] K)=some (.val [.bool true] ⟨K.os ++ [],K.ext,K.tch⟩):=fun K i j i' j' h1 h2 h3 h4=>by
  have e1:=Bz (c:=K6 c) h1 h2
  have e2:=Bz (c:=K6 c) h3 h4
  have hv:viewAs K.os [.agg [.str c.name,.int .i64 c.ty,.int .i64 c.ps,.msl i 0 c.regs.length 1,.msl j 0 (L8 c.blocks).length 5],.agg [.str c.name,.int .i64 c.ty,.int .i64 c.ps,.msl i' 0 c.regs.length 1,.msl j' 0 (L8 c.blocks).length 5]]=some [(K6 c).F,(K6 c).F]:=((congrArg (fun a=>D8 a (D8 _ (some []))) e1).trans ((congrArg (fun b=>D8 (some _) (D8 b (some []))) e2).trans rfl))
  have:=Ca (c:=K6 c) (d:=K6 c) hSC htk hv
  rw [A5 rfl] at this
  exact this
 have s2:∀ (K:PK),K.os[1]?=some (PO.row 0 (ints c.regs) 1)->K.os[2]?=some (.row 0 (c.blocks.map Blk.O) 5)->evP ⟨A0,T,A2⟩ (.call 19 [.agg [.str c.name,.int .i64 c.ty,.int .i64 c.ps,.msl 1 0 c.regs.length 1,.msl 2 0 c.blocks.length 5],c.F] K)=some (.val [.bool true] ⟨K.os ++ [],K.ext,K.tch⟩):=fun K h1 h2=>by
  have e1:=Bz (c:=c) h1 h2
  have hv:viewAs K.os [.agg [.str c.name,.int .i64 c.ty,.int .i64 c.ps,.msl 1 0 c.regs.length 1,.msl 2 0 c.blocks.length 5],c.F]=some [c.F,c.F]:=((congrArg (fun a=>D8 a (D8 _ (some []))) e1).trans ((congrArg (fun b=>D8 (some _) (D8 b (some []))) (Cod.viewF c)).trans rfl))
  have:=Ca (c:=c) (d:=c) hSC hck hv
  rw [A5 rfl] at this
  exact this
 obtain ⟨r1,r2,tt,sp⟩:=cI (T:=T) (mF:=m.F) hS hT hN hT2 hN2 hT3 hN3 hc
 unfold bI rJ xN xM xL xK xJ xI xH xG uQ
 simp only [Modl.F,Cod.F,Cod.O,K6] at hi t1 t2 t3 s1 s2 sp ⊢
 simp -implicitDefEqProofs only [hlt,hw,hi,t1,t2,t3,s1,s2,sp,List.length_map,XP,seval]
theorem LY:∃ fr',evP ⟨A0,T,A2⟩ (.code bI [(1,.ptr 0 0 0),(3,.int .i64 (m.fs.length:Int))] ⟨[.row 1 [m.F] 2],0,[]⟩)=some (.ok (.exit 0) fr' ⟨[.row 1 [m.F] 2],0,[]⟩):=by
 unfold bI uQ
 have hlt:decide ((m.fs.length:Int) < (m.fs.length:Int))=false:=by simp
 simp only [Modl.F]
 simp -implicitDefEqProofs only [hlt,List.length_map,XP,seval]
 exact ⟨_,rfl⟩
set_option maxHeartbeats 4000000 in
theorem Ah (hlaw15_Big:T 14=some y3) (hlaw19_works:T 15=some Y7) (hCopyCode:T 16=some Z4) (htwin_Twin:T 17=some Q9) (href19_Twin:T 18=some W4) (hSameCode:T 19=some V3) (nSpoilCode:T 20=none) (hmarkInts:T 152=some H1) (nSpoilInts:T 62=none) (hmarkInstrs:T 160=some F8) (nSpoilInstrs:T 76=none) (hmarkBlocks:T 161=some I6) (nSpoilBlocks:T 77=none) {m:Modl} (hk:m.ok):AM.Comes ⟨A0,T,A2⟩ 3 [m.F] [.bool true]:=by
 refine ⟨[.bool true],⟨[],0,[]⟩,?_,B4 rfl List.nodup_nil rfl rfl rfl⟩
 rw [A7 (c:=p3) (nt:=65) (rs:=[.tmp 2]) rfl (by simp)]; unfold p3
 unfold K0
 have hfl:m.fs.length≤bigN:=by have:=hk.2.1; simp only [bigN] at this ⊢; omega
 have tb:=fun K=>cD (K:=K) hlaw15_Big hk
 have tw:=fun K=>Wa (K:=K) hlaw19_works
 unfold rN rM rL xF
 cases hb:o4 m with
 | true =>
  rw [hb] at tb
  simp only [Modl.F] at tb ⊢
  simp -implicitDefEqProofs only [tb,tw,XP,seval]
 | false =>
  rw [hb] at tb
  have hck:=Wb (Zc hb)
  have hl:=Ey (P:=⟨A0,T,A2⟩) (c:=bI) (fun i=>([(1,.ptr 0 0 0),(3,.int .i64 (i:Int))],⟨[.row 1 [m.F] 2],0,[]⟩)) m.fs.length (fun i h=>LX hCopyCode htwin_Twin href19_Twin hSameCode nSpoilCode hmarkInts nSpoilInts hmarkInstrs nSpoilInstrs hmarkBlocks nSpoilBlocks h hfl (iC (hk.1 _ (List.getElem_mem h)) (hck _ (List.getElem_mem h))))
  obtain ⟨fr',h1⟩:=LY (T:=T) (m:=m)
  have hl:=hl.trans (loop_exit h1)
  have hl:evP ⟨A0,T,A2⟩ (.code (.loop bI) [(1,.ptr 0 0 0),(3,.int .i64 0)] ⟨[.row 1 [m.F] 2],0,[]⟩)=_:=hl
  simp only [Modl.F] at tb hl ⊢
  simp -implicitDefEqProofs only [tb,tw,hl,XP,seval]
end
end Go.Proofs.AmEnv
namespace Go.Proofs.AmEnv
open Go Go.AM
open Go.ChangeShapes Go.WideShapes Go.ChangeAt
section
variable {H:Type} {enc:TypeId × Value->H} {P:Program} {W:World} {base:Nat} {spare:Nat->Bool} {held:Bool}
theorem K3 {E:Env} (hE:EnvOk E P) {t:Nat} {x:TI} (ht:E.ti t=some x):P.cellsOf t=x.size:=by
 obtain ⟨i,z,h1,h2,_⟩:=(hE.ti t x ht).info
 unfold Program.cellsOf
 rw [h1]; exact h2
theorem Cb {E:Env} (hE:EnvOk E P) {t:Nat} {x:TI} (ht:E.ti t=some x):P.bytesOf t=x.bytes:=by
 obtain ⟨i,z,h1,_,h2,_⟩:=(hE.ti t x ht).info
 unfold Program.bytesOf
 rw [h1]; exact h2
variable (hE:EnvOk A0 P)
include hE
theorem lQ:P.underlying 3=some (.int .i64):=(hE.ti 3 aH rfl).desc
theorem tV:P.underlying 9=some .string:=(hE.ti 9 AC rfl).desc
theorem vJ:P.underlying 28=some (.slice 3):=(hE.ti 28 Vf rfl).desc
theorem lR:P.underlying 37=some (.slice 77):=(hE.ti 37 Yj rfl).desc
theorem lS:P.underlying 29=some (.slice 41):=(hE.ti 29 Yi rfl).desc
theorem pU:P.underlying 23=some (.slice 31):=(hE.ti 23 gM rfl).desc
theorem pV:P.underlying 22=some (.slice 96):=(hE.ti 22 gL rfl).desc
theorem Cc:P.cellsOf 3=1:=K3 hE NL
theorem Pl:P.cellsOf 9=1:=K3 hE RO
theorem Pm:P.cellsOf 28=1:=K3 hE KI
theorem Pn:P.cellsOf 37=1:=K3 hE KK
theorem Zd:P.cellsOf 29=1:=K3 hE KJ
theorem eO:P.cellsOf 23=1:=K3 hE KG
theorem Wc:P.cellsOf 22=1:=K3 hE KF
theorem eP:P.cellsOf 77=8:=K3 hE uV
theorem tW:P.cellsOf 39=4:=K3 hE KL
theorem eQ:P.cellsOf 41=5:=K3 hE uT
theorem lT:P.cellsOf 31=5:=K3 hE uS
theorem lU:P.cellsOf 96=4:=K3 hE uW
theorem DM:P.cellsOf 25=2:=K3 hE KH
theorem Cu {m n:Nat} {cs:List Value} {d:DataW H} {ps:List MemPlace} (h:DataW.trod enc P W base spare held n 3 cs=some (d,ps)) (hw:Wt P 3 d):∃ s,Q5 P (m + 1) 3 d=some s∧s.length=P.cellsOf 3∧∃ z,s=[.int .i64 z]:=by
 obtain ⟨z,rfl,e,_⟩:=DataW.trod_int (lQ hE) h
 cases e
 refine ⟨[.int .i64 z],?_,by rw [Cc hE]; rfl,z,rfl⟩
 unfold Q5
 rw [lQ hE]
theorem Wd {m n:Nat} {cs:List Value} {d:DataW H} {ps:List MemPlace} (h:DataW.trod enc P W base spare held n 9 cs=some (d,ps)) (hw:Wt P 9 d):∃ s,Q5 P (m + 1) 9 d=some s∧s.length=P.cellsOf 9∧∃ b,s=[.str b]∧b.length≤140737488355328:=by
 obtain ⟨b,rfl,e,_⟩:=DataW.trod_string (tV hE) h
 cases e
 refine ⟨[.str b.data.toList],?_,by rw [Pl hE]; rfl,_,rfl,?_⟩
 . unfold Q5
   rw [tV hE]
 . have:=hw b.data.toList.length (by unfold DataW.weights; simp)
   exact Nat.le_trans this (by decide)
omit hE in
def cJ (acs:List AV) (z:Int):Prop:=acs=[.int .i64 z]
theorem Ze {m n:Nat} {cs:List Value} {d:DataW H} {ps:List MemPlace} (h:DataW.trod enc P W base spare held n 28 cs=some (d,ps)) (hw:Wt P 28 d):∃ s,Q5 P (m + 2) 28 d=some s∧s.length=P.cellsOf 28∧∃ v l,s=[v]∧Rv P 3 cJ v l:=by
 obtain ⟨v,l,h1,h2⟩:=f8 (Q:=cJ) (m:=m + 1) (vJ hE) (by rw [Cc hE]; decide) (fun n cs d ps h hw=>by
  obtain ⟨s,h1,h2,z,rfl⟩:=Cu hE (m:=m) h hw
  exact ⟨_,z,h1,⟨h2,.inr rfl⟩,rfl⟩) h hw
 exact ⟨[v],h1,by rw [Pm hE]; rfl,v,l,rfl,h2⟩
omit hE in
def Em (P:Program) (acs:List AV) (I:Ins):Prop:=∃ av,acs=[.int .i64 I.op,.int .i64 I.ty,.int .i64 I.dst,.int .i64 I.a,.int .i64 I.b,.int .i64 I.n,.str I.s,av]∧Rv P 3 cJ av I.args∧I.s.length≤140737488355328
omit hE in
theorem LZ {ss:List (List AV)} (h:ss.length=8):∃ a b c d e f g i,ss=[a,b,c,d,e,f,g,i]:=by
 match ss,h with
 | [a,b,c,d,e,f,g,i],_=>exact ⟨a,b,c,d,e,f,g,i,rfl⟩
theorem iD {m n:Nat} {cs:List Value} {d:DataW H} {ps:List MemPlace} (h:DataW.trod enc P W base spare held n 77 cs=some (d,ps)) (hw:Wt P 77 d):∃ acs I,Q5 P (m + 3) 77 d=some acs∧(acs.length=P.cellsOf 77∧(f9 P 77=true∨acs.length=1))∧Em P acs I:=by
 obtain ⟨fs,hu,hm,_⟩:=(hE.ti 77 X6 rfl).desc
 have hm:fs.toList.map (fun f=>(f.type,f.offset))=[(3,0),(3,1),(3,2),(3,3),(3,4),(3,5),(9,6),(28,7)]:=hm
 obtain ⟨ss,h1,h2,h3,h4⟩:=V5 (m:=m + 2) (Qs:=fun i s=>(i < 6->∃ z,s=[.int .i64 z])∧(i=6->∃ b,s=[.str b]∧b.length≤140737488355328)∧(i=7->∃ v l,s=[v]∧Rv P 3 cJ v l)) hu hm
  (by simp only [Hr,Cc hE,Pl hE,Pm hE,and_self]) (by simp only [eP hE,List.map_cons,List.map_nil,List.sum_cons,List.sum_nil,Nat.reduceAdd,Cc hE,Pl hE,Pm hE])
  (fun i ty off hL n cs d ps h hw=>by
    rcases i with _ | _ | _ | _ | _ | _ | _ | _ | i
    iterate 6
     . cases hL
       obtain ⟨s,k1,k2,k3⟩:=Cu hE (m:=m + 1) h hw
       exact ⟨s,k1,k2,fun _=>k3,fun hh=>by omega,fun hh=>by omega⟩
    . cases hL
      obtain ⟨s,k1,k2,k3⟩:=Wd hE (m:=m + 1) h hw
      exact ⟨s,k1,k2,fun hh=>by omega,fun _=>k3,fun hh=>by omega⟩
    . cases hL
      obtain ⟨s,k1,k2,k3⟩:=Ze hE (m:=m) h hw
      exact ⟨s,k1,k2,fun hh=>by omega,fun hh=>by omega,fun _=>k3⟩
    . simp at hL) h hw
 obtain ⟨a,b,c,e,f,g,s6,s7,rfl⟩:=LZ h3
 obtain ⟨z0,rfl⟩:=(h4 0 _ rfl).1 (by omega)
 obtain ⟨z1,rfl⟩:=(h4 1 _ rfl).1 (by omega)
 obtain ⟨z2,rfl⟩:=(h4 2 _ rfl).1 (by omega)
 obtain ⟨z3,rfl⟩:=(h4 3 _ rfl).1 (by omega)
 obtain ⟨z4,rfl⟩:=(h4 4 _ rfl).1 (by omega)
 obtain ⟨z5,rfl⟩:=(h4 5 _ rfl).1 (by omega)
 obtain ⟨b6,rfl,hb6⟩:=(h4 6 _ rfl).2.1 rfl
 obtain ⟨v,l,rfl,hv⟩:=(h4 7 _ rfl).2.2 rfl
 exact ⟨_,⟨z0,z1,z2,z3,z4,z5,b6,l⟩,h1,⟨h2,.inl (by unfold f9; rw [hu])⟩,v,rfl,hv,hb6⟩
omit hE in
def En (P:Program) (acs:List AV) (B:Blk):Prop:=∃ cv,acs=[cv,.int .i64 B.e.kind,.int .i64 B.e.a,.int .i64 B.e.to,.int .i64 B.e.els]∧Rv P 77 (Em P) cv B.code
theorem cK {m n:Nat} {cs:List Value} {d:DataW H} {ps:List MemPlace} (h:DataW.trod enc P W base spare held n 37 cs=some (d,ps)) (hw:Wt P 37 d):∃ s,Q5 P (m + 4) 37 d=some s∧s.length=P.cellsOf 37∧∃ v l,s=[v]∧Rv P 77 (Em P) v l:=by
 obtain ⟨v,l,h1,h2⟩:=f8 (Q:=Em P) (m:=m + 3) (lR hE) (by rw [eP hE]; decide) (fun n cs d ps h hw=>iD hE h hw) h hw
 exact ⟨[v],h1,by rw [Pn hE]; rfl,v,l,rfl,h2⟩
theorem pW {m n:Nat} {cs:List Value} {d:DataW H} {ps:List MemPlace} (h:DataW.trod enc P W base spare held n 39 cs=some (d,ps)) (hw:Wt P 39 d):∃ s,Q5 P (m + 2) 39 d=some s∧s.length=P.cellsOf 39∧∃ x y z w,s=[.int .i64 x,.int .i64 y,.int .i64 z,.int .i64 w]:=by
 obtain ⟨fs,hu,hm,_⟩:=(hE.ti 39 Bj rfl).desc
 have hm:fs.toList.map (fun f=>(f.type,f.offset))=[(3,0),(3,1),(3,2),(3,3)]:=hm
 obtain ⟨ss,h1,h2,h3,h4⟩:=V5 (m:=m + 1) (Qs:=fun i s=>∃ z,s=[.int .i64 z]) hu hm
  (by simp only [Hr,Cc hE,and_self]) (by simp only [tW hE,List.map_cons,List.map_nil,List.sum_cons,List.sum_nil,Nat.reduceAdd,Cc hE])
  (fun i ty off hL n cs d ps h hw=>by
    rcases i with _ | _ | _ | _ | i
    iterate 4
     . cases hL
       exact Cu hE (m:=m) h hw
    . simp at hL) h hw
 match ss,h3 with
 | [a,b,c,e],_ =>
  obtain ⟨z0,rfl⟩:=h4 0 _ rfl
  obtain ⟨z1,rfl⟩:=h4 1 _ rfl
  obtain ⟨z2,rfl⟩:=h4 2 _ rfl
  obtain ⟨z3,rfl⟩:=h4 3 _ rfl
  exact ⟨_,h1,h2,z0,z1,z2,z3,rfl⟩
theorem iE {m n:Nat} {cs:List Value} {d:DataW H} {ps:List MemPlace} (h:DataW.trod enc P W base spare held n 41 cs=some (d,ps)) (hw:Wt P 41 d):∃ acs B,Q5 P (m + 5) 41 d=some acs∧(acs.length=P.cellsOf 41∧(f9 P 41=true∨acs.length=1))∧En P acs B:=by
 obtain ⟨fs,hu,hm,_⟩:=(hE.ti 41 n9 rfl).desc
 have hm:fs.toList.map (fun f=>(f.type,f.offset))=[(37,0),(39,1)]:=hm
 obtain ⟨ss,h1,h2,h3,h4⟩:=V5 (m:=m + 4) (Qs:=fun i s=>(i=0->∃ v l,s=[v]∧Rv P 77 (Em P) v l)∧(i=1->∃ x y z w,s=[.int .i64 x,.int .i64 y,.int .i64 z,.int .i64 w])) hu hm
  (by simp only [Hr,Pn hE,and_self]) (by simp only [eQ hE,List.map_cons,List.map_nil,List.sum_cons,List.sum_nil,Nat.reduceAdd,Pn hE,tW hE])
  (fun i ty off hL n cs d ps h hw=>by
    rcases i with _ | _ | i
    . cases hL
      obtain ⟨s,k1,k2,k3⟩:=cK hE (m:=m) h hw
      exact ⟨s,k1,k2,fun _=>k3,fun hh=>by omega⟩
    . cases hL
      obtain ⟨s,k1,k2,k3⟩:=pW hE (m:=m + 2) h hw
      exact ⟨s,k1,k2,fun hh=>by omega,fun _=>k3⟩
    . simp at hL) h hw
 match ss,h3 with
 | [a,b],_ =>
  obtain ⟨v,l,rfl,hv⟩:=(h4 0 _ rfl).1 rfl
  obtain ⟨x,y,z,w,rfl⟩:=(h4 1 _ rfl).2 rfl
  exact ⟨_,⟨l,⟨x,y,z,w⟩⟩,h1,⟨h2,.inl (by unfold f9; rw [hu])⟩,v,rfl,hv⟩
theorem cL {m n:Nat} {cs:List Value} {d:DataW H} {ps:List MemPlace} (h:DataW.trod enc P W base spare held n 29 cs=some (d,ps)) (hw:Wt P 29 d):∃ s,Q5 P (m + 6) 29 d=some s∧s.length=P.cellsOf 29∧∃ v l,s=[v]∧Rv P 41 (En P) v l:=by
 obtain ⟨v,l,h1,h2⟩:=f8 (Q:=En P) (m:=m + 5) (lS hE) (by rw [eQ hE]; decide) (fun n cs d ps h hw=>iE hE h hw) h hw
 exact ⟨[v],h1,by rw [Zd hE]; rfl,v,l,rfl,h2⟩
omit hE in
def Tf (P:Program) (acs:List AV) (C:Cod):Prop:=∃ rv bv,acs=[.str C.name,.int .i64 C.ty,.int .i64 C.ps,rv,bv]∧Rv P 3 cJ rv C.regs∧Rv P 41 (En P) bv C.blocks
theorem lV {m n:Nat} {cs:List Value} {d:DataW H} {ps:List MemPlace} (h:DataW.trod enc P W base spare held n 31 cs=some (d,ps)) (hw:Wt P 31 d):∃ acs C,Q5 P (m + 7) 31 d=some acs∧(acs.length=P.cellsOf 31∧(f9 P 31=true∨acs.length=1))∧Tf P acs C:=by
 obtain ⟨fs,hu,hm,_⟩:=(hE.ti 31 Bi rfl).desc
 have hm:fs.toList.map (fun f=>(f.type,f.offset))=[(9,0),(3,1),(3,2),(28,3),(29,4)]:=hm
 obtain ⟨ss,h1,h2,h3,h4⟩:=V5 (m:=m + 6) (Qs:=fun i s=>(i=0->∃ b,s=[.str b]∧b.length≤140737488355328)∧((i=1∨i=2)->∃ z,s=[.int .i64 z])∧(i=3->∃ v l,s=[v]∧Rv P 3 cJ v l)∧(i=4->∃ v l,s=[v]∧Rv P 41 (En P) v l)) hu hm
  (by simp only [Hr,Cc hE,Pl hE,Pm hE,and_self]) (by simp only [lT hE,List.map_cons,List.map_nil,List.sum_cons,List.sum_nil,Nat.reduceAdd,Cc hE,Pl hE,Pm hE,Zd hE])
  (fun i ty off hL n cs d ps h hw=>by
    rcases i with _ | _ | _ | _ | _ | i
    . cases hL
      obtain ⟨s,k1,k2,k3⟩:=Wd hE (m:=m + 5) h hw
      exact ⟨s,k1,k2,fun _=>k3,fun hh=>by omega,fun hh=>by omega,fun hh=>by omega⟩
    . cases hL
      obtain ⟨s,k1,k2,k3⟩:=Cu hE (m:=m + 5) h hw
      exact ⟨s,k1,k2,fun hh=>by omega,fun _=>k3,fun hh=>by omega,fun hh=>by omega⟩
    . cases hL
      obtain ⟨s,k1,k2,k3⟩:=Cu hE (m:=m + 5) h hw
      exact ⟨s,k1,k2,fun hh=>by omega,fun _=>k3,fun hh=>by omega,fun hh=>by omega⟩
    . cases hL
      obtain ⟨s,k1,k2,k3⟩:=Ze hE (m:=m + 4) h hw
      exact ⟨s,k1,k2,fun hh=>by omega,fun hh=>by omega,fun _=>k3,fun hh=>by omega⟩
    . cases hL
      obtain ⟨s,k1,k2,k3⟩:=cL hE (m:=m) h hw
      exact ⟨s,k1,k2,fun hh=>by omega,fun hh=>by omega,fun hh=>by omega,fun _=>k3⟩
    . simp at hL) h hw
 match ss,h3 with
 | [a,b,c,e,f],_ =>
  obtain ⟨b0,rfl,_⟩:=(h4 0 _ rfl).1 rfl
  obtain ⟨z1,rfl⟩:=(h4 1 _ rfl).2.1 (.inl rfl)
  obtain ⟨z2,rfl⟩:=(h4 2 _ rfl).2.1 (.inr rfl)
  obtain ⟨v3,l3,rfl,hv3⟩:=(h4 3 _ rfl).2.2.1 rfl
  obtain ⟨v4,l4,rfl,hv4⟩:=(h4 4 _ rfl).2.2.2 rfl
  exact ⟨_,⟨b0,z1,z2,l3,l4⟩,h1,⟨h2,.inl (by unfold f9; rw [hu])⟩,v3,v4,rfl,hv3,hv4⟩
omit hE in
def Zf (acs:List AV) (G:Glo):Prop:=acs=[.str G.name,.int .i64 G.ty,.int .i64 G.size,.int .i64 G.at_]
theorem lW {m n:Nat} {cs:List Value} {d:DataW H} {ps:List MemPlace} (h:DataW.trod enc P W base spare held n 96 cs=some (d,ps)) (hw:Wt P 96 d):∃ acs G,Q5 P (m + 2) 96 d=some acs∧(acs.length=P.cellsOf 96∧(f9 P 96=true∨acs.length=1))∧Zf acs G:=by
 obtain ⟨fs,hu,hm,_⟩:=(hE.ti 96 Ny rfl).desc
 have hm:fs.toList.map (fun f=>(f.type,f.offset))=[(9,0),(3,1),(3,2),(3,3)]:=hm
 obtain ⟨ss,h1,h2,h3,h4⟩:=V5 (m:=m + 1) (Qs:=fun i s=>(i=0->∃ b,s=[.str b]∧b.length≤140737488355328)∧(0 < i->∃ z,s=[.int .i64 z])) hu hm
  (by simp only [Hr,Cc hE,Pl hE,and_self]) (by simp only [lU hE,List.map_cons,List.map_nil,List.sum_cons,List.sum_nil,Nat.reduceAdd,Cc hE,Pl hE])
  (fun i ty off hL n cs d ps h hw=>by
    rcases i with _ | _ | _ | _ | i
    . cases hL
      obtain ⟨s,k1,k2,k3⟩:=Wd hE (m:=m) h hw
      exact ⟨s,k1,k2,fun _=>k3,fun hh=>by omega⟩
    iterate 3
     . cases hL
       obtain ⟨s,k1,k2,k3⟩:=Cu hE (m:=m) h hw
       exact ⟨s,k1,k2,fun hh=>by omega,fun _=>k3⟩
    . simp at hL) h hw
 match ss,h3 with
 | [a,b,c,e],_ =>
  obtain ⟨b0,rfl,_⟩:=(h4 0 _ rfl).1 rfl
  obtain ⟨z1,rfl⟩:=(h4 1 _ rfl).2 (by omega)
  obtain ⟨z2,rfl⟩:=(h4 2 _ rfl).2 (by omega)
  obtain ⟨z3,rfl⟩:=(h4 3 _ rfl).2 (by omega)
  exact ⟨_,⟨b0,z1,z2,z3⟩,h1,⟨h2,.inl (by unfold f9; rw [hu])⟩,rfl⟩
theorem pX {n:Nat} {cs:List Value} {d:DataW H} {ps:List MemPlace} (h:DataW.trod enc P W base spare held n 25 cs=some (d,ps)) (hw:Wt P 25 d):∃ gv fv,∃ M:Modl,Q5 P 9 25 d=some [gv,fv]∧Rv P 96 Zf gv M.gs∧Rv P 31 (Tf P) fv M.fs:=by
 obtain ⟨fs,hu,hm,_⟩:=(hE.ti 25 Yh rfl).desc
 have hm:fs.toList.map (fun f=>(f.type,f.offset))=[(22,0),(23,1)]:=hm
 obtain ⟨ss,h1,h2,h3,h4⟩:=V5 (m:=8) (Qs:=fun i s=>(i=0->∃ v l,s=[v]∧Rv P 96 Zf v l)∧(i=1->∃ v l,s=[v]∧Rv P 31 (Tf P) v l)) hu hm
  (by simp only [Hr,Wc hE,and_self]) (by simp only [DM hE,List.map_cons,List.map_nil,List.sum_cons,List.sum_nil,Nat.reduceAdd,Wc hE,eO hE])
  (fun i ty off hL n cs d ps h hw=>by
    rcases i with _ | _ | i
    . cases hL
      obtain ⟨v,l,k1,k2⟩:=f8 (Q:=Zf) (m:=7) (pV hE) (by rw [lU hE]; decide) (fun n cs d ps h hw=>lW hE (m:=5) h hw) h hw
      exact ⟨[v],k1,by rw [Wc hE]; rfl,fun _=>⟨v,l,rfl,k2⟩,fun hh=>by omega⟩
    . cases hL
      obtain ⟨v,l,k1,k2⟩:=f8 (Q:=Tf P) (m:=7) (pU hE) (by rw [lT hE]; decide) (fun n cs d ps h hw=>lV hE (m:=0) h hw) h hw
      exact ⟨[v],k1,by rw [eO hE]; rfl,fun hh=>by omega,fun _=>⟨v,l,rfl,k2⟩⟩
    . simp at hL) h hw
 match ss,h3 with
 | [a,b],_ =>
  obtain ⟨v0,l0,rfl,hv0⟩:=(h4 0 _ rfl).1 rfl
  obtain ⟨v1,l1,rfl,hv1⟩:=(h4 1 _ rfl).2 rfl
  exact ⟨v0,v1,⟨l0,l1⟩,h1,hv0,hv1⟩
omit hE in
theorem We {t:TypeId} {acs:List AV} (h:f9 P t=true):seeV P t acs=.agg acs:=by unfold seeV; rw [h]; rfl
theorem tX:P.bytesOf 3=8:=Cb hE NL
theorem pY:P.bytesOf 77=88:=Cb hE uV
theorem pZ:P.bytesOf 41=56:=Cb hE uT
theorem vK:P.bytesOf 31=80:=Cb hE uS
theorem vL:P.bytesOf 96=40:=Cb hE uW
theorem qA {t:TypeId} {x:TI} {L:List (Nat × Nat)} {fl:Bool} (ht:A0.ti t=some x) (hd:x.desc=.struct L fl):f9 P t=true:=by
 have h:=(hE.ti t x ht).desc
 unfold G8 at h
 rw [hd] at h
 obtain ⟨fs,hu,_⟩:=h
 unfold f9
 rw [hu]
theorem MA:f9 P 3=false:=by unfold f9; rw [lQ hE]
theorem lX {v:AV} {l:List Int} (hq:Rv P 3 cJ v l) {Z:Nat->Prop} {h:Heap}:Fz Z h v (fslN (ints l)):=hq.fz fun r X hr=>by
 have hr:r=[.int .i64 X]:=hr
 subst hr
 have:seeV P 3 [.int .i64 X]=.int .i64 X:=by unfold seeV; rw [MA hE]; rfl
 rw [this]; exact .int _ _
omit hE in
theorem Zg {Z:Nat->Prop} {h:Heap} {xs ys:List AV} (hl:xs.length=ys.length) (hc:ys.all clo=true) (hz:∀ p∈xs.zip ys,Fz Z h p.1 p.2):Fz Z h (.agg xs) (.agg ys):=by
 refine .agg hl (fun i x y hx hy=>hz (x,y) ?_) hc
 exact List.mem_of_getElem? (i:=i) (by rw [List.getElem?_zip_eq_some]; exact ⟨hx,hy⟩)
theorem qB {acs:List AV} {I:Ins} (hq:Em P acs I) {Z:Nat->Prop} {h:Heap}:Fz Z h (seeV P 77 acs) I.F:=by
 obtain ⟨av,rfl,h1,_⟩:=hq
 rw [We (qA hE uV rfl)]
 refine Zg rfl rfl fun p hp=>?_
 simp only [List.zip_cons_cons,List.zip_nil_left,List.mem_cons,List.not_mem_nil,or_false] at hp
 rcases hp with rfl | rfl | rfl | rfl | rfl | rfl | rfl | rfl
 iterate 6
  . exact .int _ _
 . exact .str _
 . exact lX hE h1
theorem qC {acs:List AV} {B:Blk} (hq:En P acs B) {Z:Nat->Prop} {h:Heap}:Fz Z h (seeV P 41 acs) B.F:=by
 obtain ⟨av,rfl,h1⟩:=hq
 rw [We (qA hE uT rfl)]
 refine Zg rfl rfl fun p hp=>?_
 simp only [List.zip_cons_cons,List.zip_nil_left,List.mem_cons,List.not_mem_nil,or_false] at hp
 rcases hp with rfl | rfl | rfl | rfl | rfl
 . exact h1.fz fun r X hr=>qB hE hr
 iterate 4
  . exact .int _ _
theorem vM {acs:List AV} {C:Cod} (hq:Tf P acs C) {Z:Nat->Prop} {h:Heap}:Fz Z h (seeV P 31 acs) C.F:=by
 obtain ⟨rv,bv,rfl,h1,h2⟩:=hq
 rw [We (qA hE uS rfl)]
 refine Zg rfl rfl fun p hp=>?_
 simp only [List.zip_cons_cons,List.zip_nil_left,List.mem_cons,List.not_mem_nil,or_false] at hp
 rcases hp with rfl | rfl | rfl | rfl | rfl
 . exact .str _
 . exact .int _ _
 . exact .int _ _
 . exact lX hE h1
 . exact h2.fz fun r X hr=>qC hE hr
theorem vN {acs:List AV} {G:Glo} (hq:Zf acs G) {Z:Nat->Prop} {h:Heap}:Fz Z h (seeV P 96 acs) G.F:=by
 have hq:acs=_:=hq
 subst hq
 rw [We (qA hE uW rfl)]
 refine Zg rfl rfl fun p hp=>?_
 simp only [List.zip_cons_cons,List.zip_nil_left,List.mem_cons,List.not_mem_nil,or_false] at hp
 rcases hp with rfl | rfl | rfl | rfl
 . exact .str _
 iterate 3
  . exact .int _ _
theorem Ix {n b k:Nat} (h:n * b≤reachBytes) (hb:b=k):n * k≤bigN:=by
 subst hb
 exact Nat.le_trans h (by decide)
theorem lY {acs:List AV} {I:Ins} (hq:Em P acs I):I.sok:=by
 obtain ⟨av,_,h1,h2⟩:=hq
 exact ⟨Ix hE h1.2 (tX hE),h2⟩
theorem lZ {acs:List AV} {B:Blk} (hq:En P acs B):B.sok:=by
 obtain ⟨av,_,h1⟩:=hq
 have hx:∀ x∈B.code,x.sok:=fun x hx=>by
  obtain ⟨r,hr⟩:=h1.mem hx
  exact lY hE hr
 exact ⟨⟨fun x h=>(hx x h).1,Ix hE h1.2 (pY hE)⟩,hx⟩
theorem qD {acs:List AV} {C:Cod} (hq:Tf P acs C):C.sok:=by
 obtain ⟨rv,bv,_,h1,h2⟩:=hq
 have hx:∀ x∈C.blocks,x.sok:=fun x hx=>by
  obtain ⟨r,hr⟩:=h2.mem hx
  exact lZ hE hr
 exact ⟨⟨Ix hE h1.2 (tX hE),fun x h=>(hx x h).1,Ix hE h2.2 (pZ hE)⟩,hx⟩
theorem mod_see {n:Nat} {cs:List Value} {d:DataW H} {ps:List MemPlace} (h:DataW.trod enc P W base spare held n 25 cs=some (d,ps)) (hw:Wt P 25 d):∃ acs,∃ M:Modl,Q5 P 9 25 d=some acs∧acs.length=2∧(∀ Z h,Fz Z h (.agg acs) M.F)∧M.ok:=by
 obtain ⟨gv,fv,M,h1,h2,h3⟩:=pX hE h hw
 refine ⟨[gv,fv],M,h1,rfl,fun Z h=>?_,fun C hC=>?_,?_,Ix hE h2.2 (vL hE)⟩
 . refine Zg rfl rfl fun p hp=>?_
   simp only [List.zip_cons_cons,List.zip_nil_left,List.mem_cons,List.not_mem_nil,or_false] at hp
   rcases hp with rfl | rfl
   . exact h2.fz fun r X hr=>vN hE hr
   . exact h3.fz fun r X hr=>vM hE hr
 . obtain ⟨r,hr⟩:=h3.mem hC
   exact qD hE hr
 . have:=Ix hE h3.2 (vK hE)
   simp only [bigN] at this ⊢
   omega
end
end Go.Proofs.AmEnv
namespace Go.AM
theorem mA {E:Env} {f:Nat} {args:List AV} {h:Heap} (hg:E.gc f=false) (ht:E.told f=true):callω E f args h=toldA args h:=by
 refine (Cv (E:=E) f args h).unique ?_
 have e:∀ m,E8 E (ev E m) f args h=toldA args h:=fun m=>by
  unfold E8
  rw [hg]
  show M1 E (ev E m) f args h=_
  unfold M1
  rw [ht]; rfl
 simp only [e]
 exact .const
end Go.AM
namespace Go.Proofs.AmEnv
open Go Go.AM
theorem Zh (hg:A0.gc 245=false) (ht:A0.told 245=true):TC A0 245 N8:=by
 intro args rs hgc Z h xs hl hz hb
 unfold N8 at hgc
 split at hgc
 . rename_i s p
   split at hgc
   . rename_i hs
     cases hgc
     match xs,hl with
     | [x,y],_ =>
      have h0:=hz 0 x (.str s) rfl rfl
      have h1:=hz 1 y (.str p) rfl rfl
      cases h0; cases h1
      refine ⟨[.bool (contS p s)],h,Z,fun _=>none,?_,EG hb,VL.cons (.fz (.bool _)) VL.nil,Nat.le_refl _,fun id hz=>⟨hz,rfl⟩,fun id hz=>.inl hz,fun id _=>rfl,fun id L e=>(by cases e),[],rfl,fun id hi=>(List.not_mem_nil hi).elim⟩
      rw [mA hg ht]
      show (bif Nat.ble (X1 s) 4000000000 || oneB p then (match contS p s with | true=>Res.ok (.bool true) h | false=>.ok (.bool false) h) else .bad)=_
      have hs:(Nat.ble (X1 s) 4000000000 || oneB p)=true:=hs
      rw [hs]
      cases contS p s <;> rfl
   . cases hgc
 . cases hgc
end Go.Proofs.AmEnv
set_option maxRecDepth 100000
namespace Go.Proofs.AmEnv
open Go Go.AM
def F9 (T:Nat->Option (List AV->Option (List AV))) (f:Nat) (g:List AV->Option (List AV)) (k:Nat):Option (List AV->Option (List AV)):=bif Nat.beq k f then some g else T k
theorem B7 {E:Env} {T:Nat->Option (List AV->Option (List AV))} {F:Nat->Option PFn} {f:Nat} {g:List AV->Option (List AV)} (hP:PEok ⟨E,T,F⟩) (h:TC E f g):PEok ⟨E,F9 T f g,F⟩:=by
 refine ⟨hP.gl,hP.ti,fun k q e=>?_,hP.fn⟩
 have e:(bif Nat.beq k f then some g else T k)=some q:=e
 cases hb:Nat.beq k f with
 | true=>rw [hb] at e; cases e; rw [Nat.eq_of_beq_eq_true hb]; exact h
 | false=>rw [hb] at e; exact hP.T k q e
def T0 (k:Nat):Option (List AV->Option (List AV)):=none
section
variable (hP:PEok ⟨A0,T0,A2⟩)
include hP
omit hP in
def T1:=F9 T0 69 E2
theorem P1:PEok ⟨A0,T1,A2⟩:=B7 hP (C1 hP fun l h=>Nz h)
omit hP in
def T2:=F9 T1 21 U9
theorem P2:PEok ⟨A0,T2,A2⟩:=B7 (P1 hP) (C1 (P1 hP) fun p h=>Oa (by simp only [bigN] at h ⊢; omega))
omit hP in
def T3:=F9 T2 155 V0
theorem P3:PEok ⟨A0,T3,A2⟩:=B7 (P2 hP) (C1 (P2 hP) fun x h=>Kr rfl h)
omit hP in
def T4:=F9 T3 78 F0
theorem P4:PEok ⟨A0,T4,A2⟩:=B7 (P3 hP) (C1 (P3 hP) fun p h=>Ks rfl h)
omit hP in
def T5:=F9 T4 145 R6
theorem P5:PEok ⟨A0,T5,A2⟩:=B7 (P4 hP) (C1 (P4 hP) fun l h=>Ig rfl h.1 h.2)
omit hP in
def T6:=F9 T5 23 K5
theorem P6:PEok ⟨A0,T6,A2⟩:=B7 (P5 hP) (C1 (P5 hP) fun p h=>Ih rfl h.1 h.2)
omit hP in
def T7:=F9 T6 55 R7
theorem P7:PEok ⟨A0,T7,A2⟩:=B7 (P6 hP) (C1 (P6 hP) fun l h=>Ii rfl h.1 h.2)
omit hP in
def T8:=F9 T7 75 G9
theorem P8:PEok ⟨A0,T8,A2⟩:=B7 (P7 hP) (C1 (P7 hP) fun p h=>Ij rfl h.1 h.2)
omit hP in
def T9:=F9 T8 16 Z4
theorem P9:PEok ⟨A0,T9,A2⟩:=B7 (P8 hP) (C1 (P8 hP) fun x h=>Og rfl rfl h)
omit hP in
def NN:=F9 T9 19 V3
theorem NO:PEok ⟨A0,NN,A2⟩:=B7 (P9 hP) (C1 (P9 hP) fun p h=>Oh rfl rfl h)
omit hP in
def NP:=F9 NN 152 H1
theorem NQ:PEok ⟨A0,NP,A2⟩:=B7 (NO hP) (C1 (NO hP) fun n h=>Oi)
omit hP in
def NR:=F9 NP 160 F8
theorem NS:PEok ⟨A0,NR,A2⟩:=B7 (NQ hP) (C1 (NQ hP) fun n h=>Ik)
omit hP in
def NT:=F9 NR 161 I6
theorem NU:PEok ⟨A0,NT,A2⟩:=B7 (NS hP) (C1 (NS hP) fun n h=>Il)
omit hP in
def NV:=F9 NT 70 E2
theorem NW:PEok ⟨A0,NV,A2⟩:=B7 (NU hP) (kY (NU hP) rfl)
omit hP in
def NX:=F9 NV 72 Y4
theorem NY:PEok ⟨A0,NX,A2⟩:=B7 (NW hP) (gT (NW hP) rfl)
omit hP in
def NZ:=F9 NX 71 x9
theorem OA:PEok ⟨A0,NZ,A2⟩:=B7 (NY hP) (gU (NY hP) rfl)
omit hP in
def OB:=F9 NZ 262 U9
theorem OC:PEok ⟨A0,OB,A2⟩:=B7 (OA hP) (C1 (OA hP) fun p h=>Yo h)
omit hP in
def OD:=F9 OB 242 F0
theorem OE:PEok ⟨A0,OD,A2⟩:=B7 (OC hP) (C1 (OC hP) fun p h=>Kt rfl h)
omit hP in
def OF:=F9 OD 218 S5
theorem RP:PEok ⟨A0,OF,A2⟩:=B7 (OE hP) (C1 (OE hP) fun p h=>Yp rfl rfl h)
omit hP in
def OG:=F9 OF 245 N8
theorem OH:PEok ⟨A0,OG,A2⟩:=B7 (RP hP) (Zh rfl rfl)
omit hP in
def OI:=F9 OG 111 L3
theorem OJ:PEok ⟨A0,OI,A2⟩:=B7 (OH hP) (Vk (OH hP))
omit hP in
def OK:=F9 OI 225 G3
theorem OL:PEok ⟨A0,OK,A2⟩:=B7 (OJ hP) (Ys (OJ hP))
omit hP in
def OM:=F9 OK 249 Bn
theorem ON:PEok ⟨A0,OM,A2⟩:=B7 (OL hP) (bS (OL hP))
omit hP in
def OO:=F9 OM 182 N2
theorem OP:PEok ⟨A0,OO,A2⟩:=B7 (ON hP) (Vl (ON hP))
omit hP in
def OQ:=F9 OO 175 C4
theorem OR:PEok ⟨A0,OQ,A2⟩:=B7 (OP hP) (Bo rfl (OP hP))
omit hP in
def OS:=F9 OQ 178 I7
theorem OT:PEok ⟨A0,OS,A2⟩:=B7 (OR hP) (Oq (OR hP))
omit hP in
def OU:=F9 OS 108 V1
theorem OV:PEok ⟨A0,OU,A2⟩:=B7 (OT hP) (Vm (OT hP))
omit hP in
def OW:=F9 OU 170 s5
theorem OX:PEok ⟨A0,OW,A2⟩:=B7 (OV hP) (Yt rfl (OV hP))
omit hP in
def OY:=F9 OW 264 Bp
theorem OZ:PEok ⟨A0,OY,A2⟩:=B7 (OX hP) (bV (OX hP))
omit hP in
def PA:=F9 OY 246 Z3
theorem PB:PEok ⟨A0,PA,A2⟩:=B7 (OZ hP) (Yu rfl (OZ hP))
omit hP in
def PD:=F9 PA 113 c9
theorem PG:PEok ⟨A0,PD,A2⟩:=B7 (PB hP) (Vn rfl rfl (PB hP))
omit hP in
def PH:=F9 PD 222 Bq
theorem PI:PEok ⟨A0,PH,A2⟩:=B7 (PG hP) (bX rfl (PG hP))
omit hP in
def PL:=F9 PH 247 D2
theorem PM:PEok ⟨A0,PL,A2⟩:=B7 (PI hP) (Br rfl (PI hP))
omit hP in
def PN:=F9 PL 223 H5
theorem PP:PEok ⟨A0,PN,A2⟩:=B7 (PM hP) (Bt rfl rfl rfl rfl rfl rfl (PM hP))
omit hP in
def PQ:=F9 PN 224 I8
theorem PS:PEok ⟨A0,PQ,A2⟩:=B7 (PP hP) (Dc rfl rfl rfl rfl (PP hP))
omit hP in
def PU:=F9 PQ 176 C3
theorem PV:PEok ⟨A0,PU,A2⟩:=B7 (PS hP) (Dd rfl rfl rfl (PS hP))
omit hP in
def PW:=F9 PU 177 G4
theorem PX:PEok ⟨A0,PW,A2⟩:=B7 (PV hP) (Gk rfl (PV hP))
omit hP in
def PY:=F9 PW 112 F2
theorem PZ:PEok ⟨A0,PY,A2⟩:=B7 (PX hP) (Ej rfl rfl rfl rfl rfl (PX hP))
omit hP in
def QA:=F9 PY 40 u3
theorem QB:PEok ⟨A0,QA,A2⟩:=B7 (PZ hP) (Yv rfl rfl rfl (PZ hP))
omit hP in
def QC:=F9 QA 39 f4
theorem QD:PEok ⟨A0,QC,A2⟩:=B7 (QB hP) (Vs (QB hP))
omit hP in
def QE:=F9 QC 14 y3
theorem QF:PEok ⟨A0,QE,A2⟩:=B7 (QD hP) (Vt rfl rfl (QD hP))
omit hP in
def QG:=F9 QE 219 I9
theorem QH:PEok ⟨A0,QG,A2⟩:=B7 (QF hP) (Pd rfl (QF hP))
omit hP in
def QI:=F9 QG 159 L4
theorem QJ:PEok ⟨A0,QI,A2⟩:=B7 (QH hP) (Pe rfl (QH hP))
omit hP in
def QK:=F9 QI 74 J0
theorem QL:PEok ⟨A0,QK,A2⟩:=B7 (QJ hP) (Pf rfl rfl (QJ hP))
omit hP in
def QM:=F9 QK 18 W4
theorem QN:PEok ⟨A0,QM,A2⟩:=B7 (QL hP) (Rm rfl rfl rfl (QL hP))
omit hP in
def QO:=F9 QM 157 F4
theorem QP:PEok ⟨A0,QO,A2⟩:=B7 (QN hP) (Ph rfl rfl rfl (QN hP))
omit hP in
def QQ:=F9 QO 17 Q9
theorem QR:PEok ⟨A0,QQ,A2⟩:=B7 (QP hP) (Vy rfl rfl rfl rfl rfl rfl (QP hP))
omit hP in
def QS:=F9 QQ 66 W5
theorem QT:PEok ⟨A0,QS,A2⟩:=B7 (QR hP) (Rn (QR hP))
omit hP in
def QU:=F9 QS 67 W6
theorem QV:PEok ⟨A0,QU,A2⟩:=B7 (QT hP) (Ro (QT hP))
omit hP in
def QW:=F9 QU 68 W7
theorem QX:PEok ⟨A0,QW,A2⟩:=B7 (QV hP) (Rp (QV hP))
omit hP in
def QY:=F9 QW 65 W8
theorem QZ:PEok ⟨A0,QY,A2⟩:=B7 (QX hP) (Rq (QX hP))
omit hP in
def RA:=F9 QY 15 Y7
theorem RQ:PEok ⟨A0,RA,A2⟩:=B7 (QZ hP) (Pk rfl rfl rfl rfl rfl rfl (QZ hP))
omit hP in
end
end Go.Proofs.AmEnv
set_option maxRecDepth 100000
namespace Go.Proofs.AmEnv
open Go Go.AM
theorem qE {f:Nat} {T:Nat->Option (List AV->Option (List AV))} (hP:PEok ⟨A0,T,A2⟩) {a x:AV} (H:AM.Comes ⟨A0,T,A2⟩ f [a] [.bool true]) (hz:∀ Z h,Fz Z h x a):∃ h',callω A0 f [x] Heap.empty=.ok (.bool true) h':=by
 obtain ⟨vcs,h1,Z1,ow1,e,_,l,_⟩:=Ck hP H (Z:=fun _=>False) (h:=Heap.empty) (xs:=[x]) rfl (fun i u v hu hv=>by
  cases i with
  | zero=>cases hu; cases hv; exact hz _ _
  | succ i=>simp at hu) (fun id h=>h.elim)
 have l:VL Z1 ow1 h1 (openTs 0 [AV.bool true]).2 vcs [.bool true]:=l
 match vcs,l.1 with
 | [v],_ =>
  have hv:=l.2 0 v (.bool true) rfl rfl
  have:v=.bool true:=by
   cases hv with
   | fz h=>cases h; rfl
  subst this
  exact ⟨h1,e⟩
theorem TwinMakes_ok (hP:PEok ⟨A0,T0,A2⟩) {m:Modl} (hm:m.ok) {x:AV} (hz:∀ Z h,Fz Z h x m.F):∃ h',callω A0 3 [x] Heap.empty=.ok (.bool true) h':=qE (RQ hP) (Ah (T:=RA) rfl rfl rfl rfl rfl rfl rfl rfl rfl rfl rfl rfl rfl hm) hz
end Go.Proofs.AmEnv
