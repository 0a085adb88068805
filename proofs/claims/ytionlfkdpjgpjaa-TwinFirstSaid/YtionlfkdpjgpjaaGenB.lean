/- What this program's functions do, at any data. Conditions: none. -/
import Derived.Test.YtionlfkdpjgpjaaGenA
set_option linter.unusedVariables false
set_option linter.unusedSimpArgs false
set_option linter.unusedSectionVars false
set_option linter.defProp false
set_option maxRecDepth 100000
noncomputable section
namespace Go.Proofs.AmEnv
open Go Go.AM
variable {T:Nat->Option (List AV->Option (List AV))}
section
variable {bs es tl R:List AV} {i k:Nat} {l:List Blk} {c:Cod} {nm:List UInt8} {ty ps:Int} {nr nb:Nat} {tch:List Nat}
theorem GW:∃ fr',evP ⟨A0,T,A3⟩ (.code Mq [(1,.ptr 0 0 0),(2,.ptr 1 0 0),(16,.int .i64 (l.length:Int)),(17,.int .i64 (l.length:Int))] ⟨[(PO.row 1 [AV.agg [.str nm,.int .i64 ty,.int .i64 ps,.msl 2 0 nr 1,.msl 3 0 l.length 5]] 5),.row 1 [(AV.agg [.str [],.int .i64 0,.int .i64 0,.nilsl,.nilsl])] 5,.row 0 R 1,.row 0 bs 5],0,[]⟩)=some (.ok (.exit 0) fr' ⟨[(PO.row 1 [AV.agg [.str nm,.int .i64 ty,.int .i64 ps,.msl 2 0 nr 1,.msl 3 0 l.length 5]] 5),.row 1 [(AV.agg [.str [],.int .i64 0,.int .i64 0,.nilsl,.nilsl])] 5,.row 0 R 1,.row 0 bs 5],0,[]⟩)∧lookP fr' 1=.ptr 0 0 0∧lookP fr' 2=.ptr 1 0 0:=by
 unfold Mq iE
 have hlt:decide ((l.length:Int) < (l.length:Int))=false:=by simp
 simp -implicitDefEqProofs only [hlt,XP,seval]
 exact ⟨_,rfl,rfl,rfl⟩
theorem GX (hT:T 70=some G9) (hC:T 72=some X2) (hs:l.length≤bigN) (hok:∀ b∈l,b.ok):∃ fr',evP ⟨A0,T,A3⟩ (.code (.loop Mq) [(1,.ptr 0 0 0),(2,.ptr 1 0 0),(16,.int .i64 (l.length:Int)),(17,.int .i64 0)] ⟨[(PO.row 1 [AV.agg [.str nm,.int .i64 ty,.int .i64 ps,.msl 2 0 nr 1,.msl 3 0 l.length 5]] 5),.row 1 [(AV.agg [.str [],.int .i64 0,.int .i64 0,.nilsl,.nilsl])] 5,.row 0 R 1,.row 0 (l.map Blk.F) 5],0,[]⟩)=some (.ok (.exit 0) fr' ⟨[(PO.row 1 [AV.agg [.str nm,.int .i64 ty,.int .i64 ps,.msl 2 0 nr 1,.msl 3 0 l.length 5]] 5),.row 1 [(AV.agg [.str [],.int .i64 0,.int .i64 0,.nilsl,.nilsl])] 5,.row 0 R 1,.row 0 (l.map Blk.O) 5],0,[]⟩)∧lookP fr' 1=.ptr 0 0 0∧lookP fr' 2=.ptr 1 0 0:=by
 have hl:=Z9 (P:=⟨A0,T,A3⟩) (c:=Mq) (fun i=>([(1,.ptr 0 0 0),(2,.ptr 1 0 0),(16,.int .i64 (l.length:Int)),(17,.int .i64 (i:Int))],⟨[(PO.row 1 [AV.agg [.str nm,.int .i64 ty,.int .i64 ps,.msl 2 0 nr 1,.msl 3 0 l.length 5]] 5),.row 1 [(AV.agg [.str [],.int .i64 0,.int .i64 0,.nilsl,.nilsl])] 5,.row 0 R 1,.row 0 (mix Blk.F Blk.O l i) 5],0,[]⟩)) l.length (fun i h=>GV hT hC h hs (hok _ (List.getElem_mem h)))
 simp only [rO,cN] at hl
 obtain ⟨fr',h1,h2,h3⟩:=GW (T:=T) (R:=R) (bs:=l.map Blk.O) (l:=l) (nm:=nm) (ty:=ty) (ps:=ps) (nr:=nr)
 exact ⟨fr',hl.trans (D3 h1),h2,h3⟩
theorem Ns (hN:T 73=none) (hN1:T 158=none) (hF:T 157=some F5) (hok:O3 l):∃ tch2,evP ⟨A0,T,A3⟩ (.call 73 [.msl 3 0 l.length 5] ⟨[(PO.row 1 [AV.agg [.str nm,.int .i64 ty,.int .i64 ps,.msl 2 0 nr 1,.msl 3 0 l.length 5]] 5),.row 1 [(AV.agg [.str [],.int .i64 0,.int .i64 0,.nilsl,.nilsl])] 5,.row 0 R 1,.row 0 (l.map Blk.O) 5],0,tch⟩)=some (.val [.bool (!decide (rnd l=l))] ⟨[(PO.row 1 [AV.agg [.str nm,.int .i64 ty,.int .i64 ps,.msl 2 0 nr 1,.msl 3 0 l.length 5]] 5),.row 1 [(AV.agg [.str [],.int .i64 0,.int .i64 0,.nilsl,.nilsl])] 5,.row 0 R 1,.row 0 ((rnd l).map Blk.O) 5,.row 1 [.bool (!decide (rnd l=l))] 1],0,tch2⟩):=by
 obtain ⟨t',hb⟩:=aG (T:=T) hN1 hF hok
 exact ⟨_,dL (ids:=[3]) hN rfl rfl rfl rfl hb rfl rfl⟩
theorem GY (hN:T 73=none) (hN1:T 158=none) (hF:T 157=some F5) (hok:O3 l) (hn:¬ rnd l=l) :
 evP ⟨A0,T,A3⟩ (.code Rd [(1,.ptr 0 0 0),(2,.ptr 1 0 0)] ⟨[(PO.row 1 [AV.agg [.str nm,.int .i64 ty,.int .i64 ps,.msl 2 0 nr 1,.msl 3 0 l.length 5]] 5),.row 1 [(AV.agg [.str [],.int .i64 0,.int .i64 0,.nilsl,.nilsl])] 5,.row 0 R 1,.row 0 (l.map Blk.O) 5],0,[]⟩)=some (.ok .normal [(1,.ptr 0 0 0),(2,.ptr 1 0 0)] ⟨[(PO.row 1 [AV.agg [.str nm,.int .i64 ty,.int .i64 ps,.msl 2 0 nr 1,.msl 3 0 l.length 5]] 5),.row 1 [(AV.agg [.str [],.int .i64 0,.int .i64 0,.nilsl,.nilsl])] 5,.row 0 R 1,.row 0 ((rnd l).map Blk.O) 5],0,[]⟩):=by
 obtain ⟨t2,h⟩:=Ns (T:=T) (R:=R) (nm:=nm) (ty:=ty) (ps:=ps) (nr:=nr) (tch:=[]) hN hN1 hF hok
 rw [B5 hn] at h
 unfold Rd iG iF
 simp -implicitDefEqProofs only [h,XP,seval]
theorem GZ (hN:T 73=none) (hN1:T 158=none) (hF:T 157=some F5) (hok:O3 l) (hn:rnd l=l) :
 ∃ fr' K',evP ⟨A0,T,A3⟩ (.code Rd [(1,.ptr 0 0 0),(2,.ptr 1 0 0)] ⟨[(PO.row 1 [AV.agg [.str nm,.int .i64 ty,.int .i64 ps,.msl 2 0 nr 1,.msl 3 0 l.length 5]] 5),.row 1 [(AV.agg [.str [],.int .i64 0,.int .i64 0,.nilsl,.nilsl])] 5,.row 0 R 1,.row 0 (l.map Blk.O) 5],0,[]⟩)=some (.ok (.exit 4) fr' K')∧lookP fr' 1=.ptr 0 0 0∧lookP fr' 2=.ptr 1 0 0∧∃ t,K'=⟨[(PO.row 1 [AV.agg [.str nm,.int .i64 ty,.int .i64 ps,.msl 2 0 nr 1,.msl 3 0 l.length 5]] 5),.row 1 [(AV.agg [.str [],.int .i64 0,.int .i64 0,.nilsl,.nilsl])] 5,.row 0 R 1,.row 0 (l.map Blk.O) 5,.row 1 [.bool false] 1],0,t⟩:=by
 obtain ⟨t2,h⟩:=Ns (T:=T) (R:=R) (nm:=nm) (ty:=ty) (ps:=ps) (nr:=nr) (tch:=[]) hN hN1 hF hok
 rw [A6 hn,hn] at h
 unfold Rd iF
 simp -implicitDefEqProofs only [h,XP,seval]
 exact ⟨_,_,rfl,rfl,rfl,_,rfl⟩
theorem HA (hN:T 73=none) (hN1:T 158=none) (hF:T 157=some F5):∀ (n:Nat) (l:List Blk),cJ l=n->O3 l ->
 ∃ fr' t,evP ⟨A0,T,A3⟩ (.code (.loop Rd) [(1,.ptr 0 0 0),(2,.ptr 1 0 0)] ⟨[(PO.row 1 [AV.agg [.str nm,.int .i64 ty,.int .i64 ps,.msl 2 0 nr 1,.msl 3 0 l.length 5]] 5),.row 1 [(AV.agg [.str [],.int .i64 0,.int .i64 0,.nilsl,.nilsl])] 5,.row 0 R 1,.row 0 (l.map Blk.O) 5],0,[]⟩)=some (.ok (.exit 4) fr' ⟨[(PO.row 1 [AV.agg [.str nm,.int .i64 ty,.int .i64 ps,.msl 2 0 nr 1,.msl 3 0 l.length 5]] 5),.row 1 [(AV.agg [.str [],.int .i64 0,.int .i64 0,.nilsl,.nilsl])] 5,.row 0 R 1,.row 0 ((twin l).map Blk.O) 5,.row 1 [.bool false] 1],0,t⟩)∧lookP fr' 1=.ptr 0 0 0∧lookP fr' 2=.ptr 1 0 0:=by
 intro n
 induction n using Nat.strongRecOn with
 | ind n ih =>
  intro l hn hok
  by_cases q:rnd l=l
  . obtain ⟨fr',K',h1,h2,h3,t,rfl⟩:=GZ (T:=T) (R:=R) (nm:=nm) (ty:=ty) (ps:=ps) (nr:=nr) hN hN1 hF hok q
    rw [Z4 q]
    exact ⟨fr',t,D3 h1,h2,h3⟩
  . obtain ⟨fr',t,h1,h2,h3⟩:=ih _ (hn ▸ Hu q) (rnd l) rfl hok.rnd
    rw [Fv] at h1
    rw [x6 q]
    exact ⟨fr',t,(E6 (GY hN hN1 hF hok q)).trans h1,h2,h3⟩
set_option maxHeartbeats 8000000 in
theorem Kb (hCloneInts:T 70=some G9) (hCloneBlocks:T 71=some w7) (hCloneInstrs:T 72=some X2) (ntwin_round:T 73=none) (ntwin_round_1:T 158=none) (htwin_firsts:T 157=some F5) {c:Cod} (hk:c.tok):AM.Comes ⟨A0,T,A3⟩ 17 [c.F] [(H9 c).O]:=by
 have tc1:=fun K=>Nr (K:=K) hCloneInts hk.1
 have tc2:=fun K=>nK (K:=K) hCloneBlocks hk.2.2.1
 obtain ⟨fr1,h1,h2,h3⟩:=GX (T:=T) (R:=ints c.regs) (l:=c.blocks) (nm:=c.name) (ty:=c.ty) (ps:=c.ps) (nr:=c.regs.length) hCloneInts hCloneInstrs hk.2.len hk.2.1
 obtain ⟨fr2,t,h4,h5,h6⟩:=HA (T:=T) (R:=ints c.regs) (nm:=c.name) (ty:=c.ty) (ps:=c.ps) (nr:=c.regs.length) ntwin_round ntwin_round_1 htwin_firsts _ c.blocks rfl hk.2
 refine ⟨[.agg (c.cs (.msl 1 0 c.regs.length 1) (.msl 2 0 c.blocks.length 5))],⟨[.row 1 [.agg (c.cs (.msl 1 0 c.regs.length 1) (.msl 2 0 c.blocks.length 5))] 5,.row 0 (ints c.regs) 1,.row 0 ((twin c.blocks).map Blk.O) 5],0,[]⟩,?_,?_⟩
 . rw [A8 (c:=CQ) (nt:=62) (rs:=[.cell 2 31]) rfl (by simp)]; unfold CQ
   unfold K0
   simp only [Cod.F]
   unfold iJ iI iH qA
   simp -implicitDefEqProofs only [tc1,tc2,h1,h2,h3,h4,h5,h6,Cod.cs,List.length_map,XP,seval]
 . refine B7 (vs':=[.agg (c.cs (.msl 1 0 c.regs.length 1) (.msl 2 0 c.blocks.length 5))]) (os':=[.row 1 [.agg (c.cs (.msl 1 0 c.regs.length 1) (.msl 2 0 c.blocks.length 5))] 5,.row 0 (ints c.regs) 1,.row 0 ((twin c.blocks).map Blk.O) 5]) ?_ ?_ (us:=[.agg (c.cs (.msl 0 0 c.regs.length 1) (.msl 1 0 c.blocks.length 5))]) (ps:=[.row 0 (ints c.regs) 1,.row 0 ((twin c.blocks).map Blk.O) 5]) ?_ ?_ ?_
   all_goals simp -implicitDefEqProofs only [Cod.cs,Cod.O,H9,List.length_map,jM,XP,seval]
def M7:=b9 (fun p:(Cod)=>[p.F]) (fun p=>[(H9 p).O]) (fun p=>p.tok)
theorem aJ (htwin_Twin:T 17=some M7) {c:Cod} {K:PK} (hk:c.tok):evP ⟨A0,T,A3⟩ (.call 17 [c.F] K)=some (.val (openTs K.os.length [(H9 c).O]).1 ⟨K.os ++ (openTs K.os.length [(H9 c).O]).2,K.ext,K.tch⟩):=B8 htwin_Twin (by simp -implicitDefEqProofs only [VV,XP,seval]) (C3 (a:=fun p:(Cod)=>[p.F]) (r:=fun p=>[(H9 p).O]) (fun x y e=>by simp only [VJ] at e; simp only [e]) (c) hk) (by simp -implicitDefEqProofs only [VN,XP,seval])
theorem Fx (htwin_Twin:T 17=some M7) {c:Cod} {K:PK} {args:List AV} (hv:viewAs K.os args=some [c.F]) (hk:c.tok):evP ⟨A0,T,A3⟩ (.call 17 args K)=some (.val (openTs K.os.length [(H9 c).O]).1 ⟨K.os ++ (openTs K.os.length [(H9 c).O]).2,K.ext,K.tch⟩):=B8 htwin_Twin hv (C3 (a:=fun p:(Cod)=>[p.F]) (r:=fun p=>[(H9 p).O]) (fun x y e=>by simp only [VJ] at e; simp only [e]) (c) hk) (by generalize (refsL args).isEmpty=z; simp -implicitDefEqProofs only [VN,XP,seval])
theorem Tv (hCloneInts:T 70=some G9) (hCloneBlocks:T 71=some w7) (hCloneInstrs:T 72=some X2) (ntwin_round:T 73=none) (ntwin_round_1:T 158=none) (htwin_firsts:T 157=some F5) (hP:PEok ⟨A0,T,A3⟩):TC A0 17 M7:=C8 hP fun p h=>Kb hCloneInts hCloneBlocks hCloneInstrs ntwin_round ntwin_round_1 htwin_firsts h
end
end Go.Proofs.AmEnv
set_option maxRecDepth 100000
namespace Go.Proofs.AmEnv
open Go Go.AM
variable {T:Nat->Option (List AV->Option (List AV))}
section
variable {es:List Endd} {e:Endd} {i:Nat}
theorem jT {l m:List Endd}:l.map Endd.F=m.map Endd.F ↔ l=m:=⟨K5 fun _ _=>Endd.F_inj,fun h=>h ▸ rfl⟩
theorem Hv  {a:Int} {b:Int}:AM.Comes ⟨A0,T,A3⟩ 66 [.int .i64 a,.int .i64 b] [.agg [.int .i64 2,.int .i64 1,.int .i64 a,.int .i64 b]]:=by
 refine ⟨[.agg [.int .i64 2,.int .i64 1,.int .i64 a,.int .i64 b]],⟨[.row 1 [.agg [.int .i64 2,.int .i64 1,.int .i64 a,.int .i64 b]] 4],0,[]⟩,?_,B7 rfl List.nodup_nil rfl rfl rfl⟩
 rw [A8 (c:=CY) (nt:=8) (rs:=[.cell 4 39]) rfl (by simp)]; unfold CY
 unfold K0
 simp -implicitDefEqProofs only [XP,seval]
def U7:=b9 (fun p:(Int) × (Int)=>[.int .i64 p.1,.int .i64 p.2]) (fun p=>[.agg [.int .i64 2,.int .i64 1,.int .i64 p.1,.int .i64 p.2]]) (fun p=>True)
theorem Ww (hlaw19_fork:T 66=some U7) {a:Int} {b:Int} {K:PK}:evP ⟨A0,T,A3⟩ (.call 66 [.int .i64 a,.int .i64 b] K)=some (.val (openTs K.os.length [.agg [.int .i64 2,.int .i64 1,.int .i64 a,.int .i64 b]]).1 ⟨K.os ++ (openTs K.os.length [.agg [.int .i64 2,.int .i64 1,.int .i64 a,.int .i64 b]]).2,K.ext,K.tch⟩):=B8 hlaw19_fork (by simp -implicitDefEqProofs only [VV,XP,seval]) (C3 (a:=fun p:(Int) × (Int)=>[.int .i64 p.1,.int .i64 p.2]) (r:=fun p=>[.agg [.int .i64 2,.int .i64 1,.int .i64 p.1,.int .i64 p.2]]) (fun x y e=>by simp only [VJ] at e; simp only [e]) (a,b) trivial) (by simp -implicitDefEqProofs only [VN,XP,seval])
theorem Pz  (hP:PEok ⟨A0,T,A3⟩):TC A0 66 U7:=C8 hP fun p h=>Hv
theorem Hw  {a:Int}:AM.Comes ⟨A0,T,A3⟩ 67 [.int .i64 a] [.agg [.int .i64 1,.int .i64 0,.int .i64 a,.int .i64 0]]:=by
 refine ⟨[.agg [.int .i64 1,.int .i64 0,.int .i64 a,.int .i64 0]],⟨[.row 1 [.agg [.int .i64 1,.int .i64 0,.int .i64 a,.int .i64 0]] 4],0,[]⟩,?_,B7 rfl List.nodup_nil rfl rfl rfl⟩
 rw [A8 (c:=CZ) (nt:=5) (rs:=[.cell 2 39]) rfl (by simp)]; unfold CZ
 unfold K0
 simp -implicitDefEqProofs only [XP,seval]
def U8:=b9 (fun p:(Int)=>[.int .i64 p]) (fun p=>[.agg [.int .i64 1,.int .i64 0,.int .i64 p,.int .i64 0]]) (fun p=>True)
theorem Wx (hlaw19_jump:T 67=some U8) {a:Int} {K:PK}:evP ⟨A0,T,A3⟩ (.call 67 [.int .i64 a] K)=some (.val (openTs K.os.length [.agg [.int .i64 1,.int .i64 0,.int .i64 a,.int .i64 0]]).1 ⟨K.os ++ (openTs K.os.length [.agg [.int .i64 1,.int .i64 0,.int .i64 a,.int .i64 0]]).2,K.ext,K.tch⟩):=B8 hlaw19_jump (by simp -implicitDefEqProofs only [VV,XP,seval]) (C3 (a:=fun p:(Int)=>[.int .i64 p]) (r:=fun p=>[.agg [.int .i64 1,.int .i64 0,.int .i64 p,.int .i64 0]]) (fun x y e=>by simp only [VJ] at e; simp only [e]) (a) trivial) (by simp -implicitDefEqProofs only [VN,XP,seval])
theorem Qa  (hP:PEok ⟨A0,T,A3⟩):TC A0 67 U8:=C8 hP fun p h=>Hw
theorem Hx  :AM.Comes ⟨A0,T,A3⟩ 68 [] [.agg [.int .i64 3,.int .i64 1,.int .i64 0,.int .i64 0]]:=by
 refine ⟨[.agg [.int .i64 3,.int .i64 1,.int .i64 0,.int .i64 0]],⟨[.row 1 [.agg [.int .i64 3,.int .i64 1,.int .i64 0,.int .i64 0]] 4],0,[]⟩,?_,B7 rfl List.nodup_nil rfl rfl rfl⟩
 rw [A8 (c:=DA) (nt:=2) (rs:=[.cell 0 39]) rfl (by simp)]; unfold DA
 unfold K0
 simp -implicitDefEqProofs only [XP,seval]
def U9:=b9 (fun p:Unit=>[]) (fun p=>[.agg [.int .i64 3,.int .i64 1,.int .i64 0,.int .i64 0]]) (fun p=>True)
theorem Wy (hlaw19_back:T 68=some U9)  {K:PK}:evP ⟨A0,T,A3⟩ (.call 68 [] K)=some (.val (openTs K.os.length [.agg [.int .i64 3,.int .i64 1,.int .i64 0,.int .i64 0]]).1 ⟨K.os ++ (openTs K.os.length [.agg [.int .i64 3,.int .i64 1,.int .i64 0,.int .i64 0]]).2,K.ext,K.tch⟩):=B8 hlaw19_back (by simp -implicitDefEqProofs only [VV,XP,seval]) (C3 (a:=fun p:Unit=>[]) (r:=fun p=>[.agg [.int .i64 3,.int .i64 1,.int .i64 0,.int .i64 0]]) (fun x y e=>by simp only [VJ] at e; simp only [e]) () trivial) (by simp -implicitDefEqProofs only [VN,XP,seval])
theorem Qb  (hP:PEok ⟨A0,T,A3⟩):TC A0 68 U9:=C8 hP fun p h=>Hx
def BN (e:Endd):AV:=.agg [.nilsl,.int .i64 e.kind,.int .i64 e.a,.int .i64 e.to,.int .i64 e.els]
def Fy (es:List Endd):AV:=.agg [.str B0,.int .i64 1,.int .i64 0,ownd 0 1 (ints [1,1]),ownd 0 5 (es.map BN)]
set_option maxHeartbeats 4000000 in
theorem HB (h:0 < es.length):evP ⟨A0,T,A3⟩ (.code Jd [(0,fslN (es.map Endd.F)),(2,.ptr 0 0 0),(3,.ptr 1 0 0),(4,.int .i64 0)] ⟨[.row 1 [(AV.agg [.str [],.int .i64 0,.int .i64 0,.nilsl,.nilsl])] 5,.row 1 [.agg [.str B0,.int .i64 1,.int .i64 0,.msl 2 0 2 1,.nilsl]] 5,.row 0 (ints [1,1]) 1],0,[]⟩)=some (.ok .normal [(0,fslN (es.map Endd.F)),(2,.ptr 0 0 0),(3,.ptr 1 0 0),(4,.int .i64 ((1:Nat):Int))] ⟨[.row 1 [(AV.agg [.str [],.int .i64 0,.int .i64 0,.nilsl,.nilsl])] 5,.row 1 [.agg [.str B0,.int .i64 1,.int .i64 0,.msl 2 0 2 1,.msl 3 0 1 5]] 5,.row 0 (ints [1,1]) 1,.row 0 ((es.take 1).map BN) 5],0,[]⟩):=by
 unfold Jd
 have hlt:decide ((0:Int) < (es.length:Int))=true:=by simp [h]
 have hi:=ix_fslN (te:=Bd) (k:=.i64) (i:=0) (B2 (F:=Endd.F) h) rfl
 have hi:Yb Bd (fslN (es.map Endd.F)) (.int .i64 0)=some (.fptr (Endd.F es[0]) 0):=hi
 have hx:=map_take (F:=BN) h
 rw [List.take_zero] at hx
 have hx:[BN es[0]]=(es.take 1).map BN:=hx
 rw [← hx]
 simp only [Endd.F,BN] at hi ⊢
 simp -implicitDefEqProofs only [hlt,hi,show IntKind.i64.wrap (0 + 1)=((1:Nat):Int) from rfl,List.length_map,XP,Nat.reduceAdd,Nat.reduceSub,Nat.reduceLT,Nat.reduceLeDiff,Nat.reduceEqDiff,Nat.reduceMul,↓reduceIte]
set_option maxHeartbeats 4000000 in
theorem HC (h:i < es.length) (hs:es.length * 56≤bigN):evP ⟨A0,T,A3⟩ (.code Jd [(0,fslN (es.map Endd.F)),(2,.ptr 0 0 0),(3,.ptr 1 0 0),(4,.int .i64 (i:Int))] ⟨[.row 1 [(AV.agg [.str [],.int .i64 0,.int .i64 0,.nilsl,.nilsl])] 5,.row 1 [.agg [.str B0,.int .i64 1,.int .i64 0,.msl 2 0 2 1,.msl 3 0 i 5]] 5,.row 0 (ints [1,1]) 1,.row 0 ((es.take i).map BN) 5],0,[]⟩)=some (.ok .normal [(0,fslN (es.map Endd.F)),(2,.ptr 0 0 0),(3,.ptr 1 0 0),(4,.int .i64 ((i + 1:Nat):Int))] ⟨[.row 1 [(AV.agg [.str [],.int .i64 0,.int .i64 0,.nilsl,.nilsl])] 5,.row 1 [.agg [.str B0,.int .i64 1,.int .i64 0,.msl 2 0 2 1,.msl 3 0 (i + 1) 5]] 5,.row 0 (ints [1,1]) 1,.row 0 ((es.take (i + 1)).map BN) 5],0,[]⟩):=by
 unfold Jd
 have hlt:decide ((i:Int) < (es.length:Int))=true:=by simp [h]
 have hw:=B3 (i:=i) (by simp only [bigN] at hs; omega)
 have hi:=B2 (F:=Endd.F) h
 have hm:((es.take i).map BN).length=i:=by simp; omega
 have hz:(i + 1) * 56≤140737488355328:=by simp only [bigN] at hs; omega
 have hx:=map_take (F:=BN) h
 rw [← hx]
 simp only [Endd.F,BN] at hi ⊢
 simp -implicitDefEqProofs only [hlt,hi,hm,hw,hz,List.length_map,XP,seval]
theorem HE {K:PK}:∃ fr',evP ⟨A0,T,A3⟩ (.code Jd [(0,fslN (es.map Endd.F)),(2,.ptr 0 0 0),(3,.ptr 1 0 0),(4,.int .i64 (es.length:Int))] K)=some (.ok (.exit 0) fr' K)∧lookP fr' 2=.ptr 0 0 0∧lookP fr' 3=.ptr 1 0 0:=by
 unfold Jd
 have hlt:decide ((es.length:Int) < (es.length:Int))=false:=by simp
 simp -implicitDefEqProofs only [hlt,List.length_map,XP,seval]
 exact ⟨_,rfl,rfl,rfl⟩
theorem zR (hs:es.length * 56≤bigN):∀ (n i:Nat),es.length=i + n->0 < i->∃ fr',evP ⟨A0,T,A3⟩ (.code (.loop Jd) [(0,fslN (es.map Endd.F)),(2,.ptr 0 0 0),(3,.ptr 1 0 0),(4,.int .i64 (i:Int))] ⟨[.row 1 [(AV.agg [.str [],.int .i64 0,.int .i64 0,.nilsl,.nilsl])] 5,.row 1 [.agg [.str B0,.int .i64 1,.int .i64 0,.msl 2 0 2 1,.msl 3 0 i 5]] 5,.row 0 (ints [1,1]) 1,.row 0 ((es.take i).map BN) 5],0,[]⟩)=some (.ok (.exit 0) fr' ⟨[.row 1 [(AV.agg [.str [],.int .i64 0,.int .i64 0,.nilsl,.nilsl])] 5,.row 1 [.agg [.str B0,.int .i64 1,.int .i64 0,.msl 2 0 2 1,.msl 3 0 es.length 5]] 5,.row 0 (ints [1,1]) 1,.row 0 (es.map BN) 5],0,[]⟩)∧lookP fr' 2=.ptr 0 0 0∧lookP fr' 3=.ptr 1 0 0
 | 0,i,e,h0=>by
  obtain rfl:i=es.length:=by omega
  rw [List.take_length]
  obtain ⟨fr',h1,h2⟩:=HE (T:=T) (es:=es) (K:=⟨[.row 1 [(AV.agg [.str [],.int .i64 0,.int .i64 0,.nilsl,.nilsl])] 5,.row 1 [.agg [.str B0,.int .i64 1,.int .i64 0,.msl 2 0 2 1,.msl 3 0 es.length 5]] 5,.row 0 (ints [1,1]) 1,.row 0 (es.map BN) 5],0,[]⟩)
  exact ⟨fr',D3 h1,h2⟩
 | n + 1,i,e,h0=>by
  rw [E6 (HC (by omega) hs)]
  exact zR hs n (i + 1) (by omega) (by omega)
theorem tD (e:Endd):noF (BN e)=true:=by unfold BN; rfl
theorem nL (l:List Endd):noFL (l.map BN)=true:=o6 tD l
theorem jU:noF (Fy es)=true:=by unfold Fy; simp -implicitDefEqProofs only [nL,noFL_ints,XP,seval]
theorem nM:((Fy es).cells.all fun c=>(ownOf c).isSome || clo c)=true:=rfl
theorem tE (e:Endd):frzC (BN e)=some (Blk.F ⟨[],e⟩):=by unfold BN Blk.F; rfl
theorem nN (l:List Endd):frzL (l.map BN)=some ((l.map fun e=>Blk.mk [] e).map Blk.F):=by
 rw [List.map_map]; exact U4 tE l
theorem Hy  {es:List Endd} (hk:0 < es.length∧es.length * 56≤bigN):AM.Comes ⟨A0,T,A3⟩ 65 [fslN (es.map Endd.F)] [Fy es]:=by
 obtain ⟨fr',h1,h2,h3⟩:=zR (T:=T) hk.2 (es.length - 1) 1 (by omega) (by decide)
 have hl:=(E6 (HB (T:=T) hk.1)).trans h1
 refine ⟨[.agg [.str B0,.int .i64 1,.int .i64 0,.msl 1 0 2 1,.msl 2 0 es.length 5]],⟨[.row 1 [.agg [.str B0,.int .i64 1,.int .i64 0,.msl 1 0 2 1,.msl 2 0 es.length 5]] 5,.row 0 (ints [1,1]) 1,.row 0 (es.map BN) 5],0,[]⟩,?_,?_⟩
 . rw [A8 (c:=CX) (nt:=24) (rs:=[.cell 2 31]) rfl (by simp)]; unfold CX
   unfold K0
   simp only [B0,ints,List.map_cons,List.map_nil] at hl ⊢
   simp -implicitDefEqProofs only [hl,h2,h3,XP,seval]
 . refine B7 (vs':=[.agg [.str B0,.int .i64 1,.int .i64 0,.msl 1 0 2 1,.msl 2 0 es.length 5]]) (os':=[.row 1 [.agg [.str B0,.int .i64 1,.int .i64 0,.msl 1 0 2 1,.msl 2 0 es.length 5]] 5,.row 0 (ints [1,1]) 1,.row 0 (es.map BN) 5]) ?_ ?_ (us:=[.agg [.str B0,.int .i64 1,.int .i64 0,.msl 0 0 2 1,.msl 1 0 es.length 5]]) (ps:=[.row 0 (ints [1,1]) 1,.row 0 (es.map BN) 5]) ?_ ?_ ?_
   all_goals simp -implicitDefEqProofs only [Fy,List.length_map,XP,seval]
def V0:=b9 (fun p:(List Endd)=>[fslN (p.map Endd.F)]) (fun p=>[Fy p]) (fun p=>0 < p.length∧p.length * 56≤bigN)
theorem Dg (hlaw19_code:T 65=some V0) {es:List Endd} {K:PK} {args:List AV} (hv:viewAs K.os args=some [fslN (es.map Endd.F)]) (hk:0 < es.length∧es.length * 56≤bigN):evP ⟨A0,T,A3⟩ (.call 65 args K)=some (.val (openTs K.os.length [Fy es]).1 ⟨K.os ++ (openTs K.os.length [Fy es]).2,K.ext,K.tch⟩):=B8 hlaw19_code hv (C3 (a:=fun p:(List Endd)=>[fslN (p.map Endd.F)]) (r:=fun p=>[Fy p]) (fun x y e=>by simp only [VJ,jT] at e; simp only [e]) (es) hk) (by generalize (refsL args).isEmpty=z; simp -implicitDefEqProofs only [VN,jU,nM,XP,seval])
theorem Qc  (hP:PEok ⟨A0,T,A3⟩):TC A0 65 V0:=C8 hP fun p h=>Hy  h
end
end Go.Proofs.AmEnv
set_option maxRecDepth 100000
namespace Go.Proofs.AmEnv
open Go Go.AM
variable {T:Nat->Option (List AV->Option (List AV))}
section
variable {K:PK} {i j i' j':Nat} {c d:Cod}
theorem Ga (h1:K.os[i]?=some (.row 0 (ints c.regs) 1)) (h2:K.os[j]?=some (.row 0 (c.blocks.map Blk.O) 5)):viewA K.os (.agg [.str c.name,.int .i64 c.ty,.int .i64 c.ps,.msl i 0 c.regs.length 1,.msl j 0 c.blocks.length 5])=some c.F:=by
 have e1:(ints c.regs).take c.regs.length=ints c.regs:=List.take_of_length_le (by simp)
 have e2:(c.blocks.map Blk.O).take c.blocks.length=c.blocks.map Blk.O:=List.take_of_length_le (by simp)
 unfold Cod.F
 simp -implicitDefEqProofs only [h1,h2,e1,e2,frzL_ints,Rf,List.length_map,XP,seval]
theorem Rh {es:List Endd} (h1:K.os[i]?=some (.row 0 (ints [1,1]) 1)) (h2:K.os[j]?=some (.row 0 (es.map BN) 5)):viewA K.os (.agg [.str B0,.int .i64 1,.int .i64 0,.msl i 0 2 1,.msl j 0 es.length 5])=some (Cod.F ⟨B0,1,0,[1,1],es.map fun e=>⟨[],e⟩⟩):=by
 have e2:(es.map BN).take es.length=es.map BN:=List.take_of_length_le (by simp)
 unfold Cod.F
 simp only [ints,List.map_cons,List.map_nil] at h1 ⊢
 simp -implicitDefEqProofs only [h1,h2,e2,nN,List.length_map,XP,seval]
theorem Tw (h:c.ok):S8 [c.F,d.F]=some [.bool (decide (c=d))]:=C3 (a:=fun p:Cod × Cod=>[p.1.F,p.2.F]) (r:=fun p=>[.bool (decide (p.1=p.2))]) (fun x y e=>by simp only [List.cons.injEq,Cod.F_iff,and_true] at e; simp only [e]) (c,d) h
theorem Jh (hT:T 19=some S8) (h:c.ok) {args:List AV} (hv:viewAs K.os args=some [c.F,d.F]):evP ⟨A0,T,A3⟩ (.call 19 args K)=some (.val [.bool (decide (c=d))] ⟨K.os ++ [],K.ext,K.tch⟩):=B8 hT hv (Tw h) (by show (true && (_ || true))=true; simp)
def wL1:List Blk:=[Endd.mk 2 1 1 2,Endd.mk 1 0 3 0,Endd.mk 1 0 4 0,Endd.mk 3 1 0 0,Endd.mk 3 1 0 0].map fun e=>⟨[],e⟩
def IS:List Blk:=[Endd.mk 2 1 1 2,Endd.mk 1 0 3 0,Endd.mk 1 0 3 0,Endd.mk 3 1 0 0,Endd.mk 3 1 0 0].map fun e=>⟨[],e⟩
def uI:List Blk:=[Endd.mk 2 1 1 1,Endd.mk 1 0 3 0,Endd.mk 1 0 3 0,Endd.mk 3 1 0 0,Endd.mk 3 1 0 0].map fun e=>⟨[],e⟩
theorem tF:twin wL1=uI:=by
 rw [x6 (by decide),show rnd wL1=IS by decide,x6 (by decide),show rnd IS=uI by decide,Z4 (by decide)]
theorem HF:O3 wL1:=by
 refine ⟨fun b hb=>?_,by decide,fun b hb=>?_⟩
 . obtain ⟨e,he,rfl⟩:=List.mem_map.1 hb
   exact ⟨fun x hx=>(List.not_mem_nil hx).elim,(by show 0 * 88≤bigN; decide)⟩
 . have:∀ b∈wL1,(b.e.kind=1∨b.e.kind=2->0≤b.e.to∧b.e.to < wL1.length)∧(b.e.kind=2->0≤b.e.els∧b.e.els < wL1.length):=by decide
   exact this b hb
set_option maxHeartbeats 8000000 in
theorem Gb (hlaw19_fork:T 66=some U7) (hlaw19_jump:T 67=some U8) (hlaw19_back:T 68=some U9) (hlaw19_code:T 65=some V0) (htwin_Twin:T 17=some M7) (hSameCode:T 19=some S8) :AM.Comes ⟨A0,T,A3⟩ 15 [] [.bool true]:=by
 refine ⟨[.bool true],⟨[],0,[]⟩,?_,B7 rfl List.nodup_nil rfl rfl rfl⟩
 rw [A8 (c:=CP) (nt:=19) (rs:=[.tmp 0]) rfl (by simp)]; unfold CP
 unfold K0
 have t1:=fun a b K=>Ww (K:=K) (a:=a) (b:=b) hlaw19_fork
 have t2:=fun a K=>Wx (K:=K) (a:=a) hlaw19_jump
 have t3:=fun K=>Wy (K:=K) hlaw19_back
 have t4:∀ K:PK,K.os[0]?=some (.row 0 ([Endd.mk 2 1 1 2,Endd.mk 1 0 3 0,Endd.mk 1 0 4 0,Endd.mk 3 1 0 0,Endd.mk 3 1 0 0].map Endd.F) 4)->evP ⟨A0,T,A3⟩ (.call 65 [.msl 0 0 5 4] K)=some (.val (openTs K.os.length [Fy [Endd.mk 2 1 1 2,Endd.mk 1 0 3 0,Endd.mk 1 0 4 0,Endd.mk 3 1 0 0,Endd.mk 3 1 0 0]]).1 ⟨K.os ++ (openTs K.os.length [Fy [Endd.mk 2 1 1 2,Endd.mk 1 0 3 0,Endd.mk 1 0 4 0,Endd.mk 3 1 0 0,Endd.mk 3 1 0 0]]).2,K.ext,K.tch⟩):=fun K hK=>Dg hlaw19_code (by
  simp only [Endd.F,List.map_cons,List.map_nil] at hK ⊢
  simp -implicitDefEqProofs only [hK,XP,seval]) (by decide)
 have t5:∀ K:PK,K.os[1]?=some (.row 0 (ints [1,1]) 1)->K.os[2]?=some (.row 0 ([Endd.mk 2 1 1 2,Endd.mk 1 0 3 0,Endd.mk 1 0 4 0,Endd.mk 3 1 0 0,Endd.mk 3 1 0 0].map BN) 5)->evP ⟨A0,T,A3⟩ (.call 17 [.agg [.str B0,.int .i64 1,.int .i64 0,.msl 1 0 2 1,.msl 2 0 5 5]] K)=some (.val (openTs K.os.length [(H9 ⟨B0,1,0,[1,1],wL1⟩).O]).1 ⟨K.os ++ (openTs K.os.length [(H9 ⟨B0,1,0,[1,1],wL1⟩).O]).2,K.ext,K.tch⟩):=fun K h1 h2=>Fx htwin_Twin (by
  have:=Rh h1 h2
  exact (congrArg (fun a=>D2 a (some [])) this).trans rfl) ⟨by decide,HF⟩
 have t6:∀ K:PK,K.os[6]?=some (.row 0 ([Endd.mk 2 1 1 1,Endd.mk 1 0 3 0,Endd.mk 1 0 3 0,Endd.mk 3 1 0 0,Endd.mk 3 1 0 0].map Endd.F) 4)->evP ⟨A0,T,A3⟩ (.call 65 [.msl 6 0 5 4] K)=some (.val (openTs K.os.length [Fy [Endd.mk 2 1 1 1,Endd.mk 1 0 3 0,Endd.mk 1 0 3 0,Endd.mk 3 1 0 0,Endd.mk 3 1 0 0]]).1 ⟨K.os ++ (openTs K.os.length [Fy [Endd.mk 2 1 1 1,Endd.mk 1 0 3 0,Endd.mk 1 0 3 0,Endd.mk 3 1 0 0,Endd.mk 3 1 0 0]]).2,K.ext,K.tch⟩):=fun K hK=>Dg hlaw19_code (by
  simp only [Endd.F,List.map_cons,List.map_nil] at hK ⊢
  simp -implicitDefEqProofs only [hK,XP,seval]) (by decide)
 have t7:∀ K:PK,K.os[3]?=some (.row 0 (ints [1,1]) 1)->K.os[4]?=some (.row 0 (uI.map Blk.O) 5)->K.os[7]?=some (.row 0 (ints [1,1]) 1)->K.os[8]?=some (.row 0 ([Endd.mk 2 1 1 1,Endd.mk 1 0 3 0,Endd.mk 1 0 3 0,Endd.mk 3 1 0 0,Endd.mk 3 1 0 0].map BN) 5)->evP ⟨A0,T,A3⟩ (.call 19 [.agg [.str B0,.int .i64 1,.int .i64 0,.msl 3 0 2 1,.msl 4 0 5 5],.agg [.str B0,.int .i64 1,.int .i64 0,.msl 7 0 2 1,.msl 8 0 5 5]] K)=some (.val [.bool true] ⟨K.os ++ [],K.ext,K.tch⟩):=fun K h1 h2 h3 h4=>by
  have e1:=Ga (c:=⟨B0,1,0,[1,1],uI⟩) h1 h2
  have e2:=Rh h3 h4
  exact Jh (c:=⟨B0,1,0,[1,1],uI⟩) (d:=⟨B0,1,0,[1,1],[Endd.mk 2 1 1 1,Endd.mk 1 0 3 0,Endd.mk 1 0 3 0,Endd.mk 3 1 0 0,Endd.mk 3 1 0 0].map fun e=>⟨[],e⟩⟩) hSameCode ⟨by decide,fun b hb=>by
   obtain ⟨e,he,rfl⟩:=List.mem_map.1 hb
   exact ⟨fun x hx=>(List.not_mem_nil hx).elim,(by show 0 * 88≤bigN; decide)⟩,by decide⟩ ((congrArg (fun a=>D2 a (D2 _ (some []))) e1).trans ((congrArg (fun b=>D2 (some _) (D2 b (some []))) e2).trans rfl))
 simp only [H9,tF,Fy,Cod.O,B0,ints,List.map_cons,List.map_nil,Endd.F] at t4 t5 t6 t7
 have hl5:(uI.map Blk.O).length=5:=rfl
 simp -implicitDefEqProofs only [t1,t2,t3,t4,t5,t6,t7,hl5,XP,seval]
def X4:=b9 (fun p:Unit=>[]) (fun p=>[.bool true]) (fun p=>True)
theorem Tx (hlaw19_works:T 15=some X4)  {K:PK}:evP ⟨A0,T,A3⟩ (.call 15 [] K)=some (.val (openTs K.os.length [.bool true]).1 ⟨K.os ++ (openTs K.os.length [.bool true]).2,K.ext,K.tch⟩):=B8 hlaw19_works (by simp -implicitDefEqProofs only [VV,XP,seval]) (C3 (a:=fun p:Unit=>[]) (r:=fun p=>[.bool true]) (fun x y e=>by simp only [VJ] at e; simp only [e]) () trivial) (by simp -implicitDefEqProofs only [VN,XP,seval])
theorem Nt (hlaw19_fork:T 66=some U7) (hlaw19_jump:T 67=some U8) (hlaw19_back:T 68=some U9) (hlaw19_code:T 65=some V0) (htwin_Twin:T 17=some M7) (hSameCode:T 19=some S8) (hP:PEok ⟨A0,T,A3⟩):TC A0 15 X4:=C8 hP fun p h=>Gb hlaw19_fork hlaw19_jump hlaw19_back hlaw19_code htwin_Twin hSameCode
end
end Go.Proofs.AmEnv
set_option maxRecDepth 100000
namespace Go.Proofs.AmEnv
open Go Go.AM
variable {T:Nat->Option (List AV->Option (List AV))}
theorem Ji {l:List Int} (h:I0 l=0):∀ e∈l,e=0:=by
 induction l with
 | nil=>intro e he; cases he
 | cons a l ih =>
  unfold I0 at h
  by_cases q:a=0
  . rw [if_pos q] at h
    intro e he
    rcases List.mem_cons.1 he with rfl | he
    . exact q
    . exact ih h e he
  . rw [if_neg q] at h; exact absurd h q
theorem Dy {a n:Int}:thereD a n=true ↔ 0≤a∧a < n:=by unfold thereD; simp
theorem jV {c:Cod} {e:Endd} (h:Py c e=0):z6 c.blocks.length e:=by
 unfold Py at h
 refine ⟨fun hk=>?_,fun hk=>?_⟩
 . rcases hk with hk | hk
   . rw [if_pos hk] at h
     by_cases q:thereD e.to c.blocks.length=true
     . exact Dy.1 q
     . rw [if_neg q] at h; cases h
   . have k1:¬ e.kind=1:=by omega
     rw [if_neg k1,if_pos hk] at h
     by_cases q:thereD e.to c.blocks.length=true
     . exact Dy.1 q
     . rw [if_neg q] at h; cases h
 . have k1:¬ e.kind=1:=by omega
   rw [if_neg k1,if_pos hk] at h
   by_cases q:thereD e.to c.blocks.length=true
   . rw [if_pos q] at h
     by_cases q2:thereD e.els c.blocks.length=true
     . exact Dy.1 q2
     . rw [if_neg q2] at h; cases h
   . rw [if_neg q] at h; cases h
theorem Ty {m:Modl} (h:Z0 m=0):∀ c∈m.fs,S2 m c=0:=by
 unfold Z0 at h
 by_cases q:I0 (m.gs.map Tp)=0
 . rw [if_pos q] at h
   by_cases q2:I0 (m.fs.map (S2 m))=0
   . exact fun c hc=>Ji q2 _ (List.mem_map_of_mem hc)
   . rw [if_neg q2] at h; exact absurd h q2
 . rw [if_neg q] at h; exact absurd h q
theorem aK {m:Modl} {c:Cod} (h:S2 m c=0):∀ b∈c.blocks,To m c b=0:=by
 unfold S2 at h
 split at h
 . cases h
 . split at h
   . cases h
   . split at h
     . cases h
     . exact fun b hb=>Ji h _ (List.mem_map_of_mem hb)
theorem fH {m:Modl} {c:Cod} (hs:c.sok) (h:S2 m c=0):c.tok:=by
 refine ⟨hs.1.1,hs.1.2.1,hs.1.2.2,fun b hb=>?_⟩
 have hb:=aK h b hb
 unfold To at hb
 split at hb
 . exact jV hb
 . rename_i q; exact absurd hb q
theorem Wz {m:Modl} (h:m5 m=false):Z0 m=0:=by
 unfold m5 at h
 split at h
 . cases h
 . split at h
   . cases h
   . split at h
     . cases h
     . simpa using h
section
variable {c:Cod} {m:Modl} {i:Nat} {mF:AV}
end
end Go.Proofs.AmEnv
set_option maxRecDepth 100000
namespace Go.Proofs.AmEnv
open Go Go.AM
def tgts (e:Endd):List Int:=if e.kind=1 then [e.to] else if e.kind=2 then [e.to,e.els] else []
theorem Xa {Q:List Blk->Prop} (hs:∀ l,Q l->Q (rnd l)):∀ (n:Nat) (l:List Blk),cJ l≤n->Q l->Q (twin l)
 | n,l,hn,hl=>by
  by_cases h:rnd l=l
  . rw [Z4 h]; exact hl
  . rw [x6 h]
    have hw:=Hu h
    cases n with
    | zero=>omega
    | succ n=>exact Xa hs n (rnd l) (by omega) (hs l hl)
theorem Nu:∀ (n:Nat) (l:List Blk),cJ l≤n->rnd (twin l)=twin l
 | n,l,hn=>by
  by_cases h:rnd l=l
  . rw [Z4 h]; exact h
  . rw [x6 h]
    have hw:=Hu h
    cases n with
    | zero=>omega
    | succ n=>exact Nu n (rnd l) (by omega)
theorem Xb (l:List Blk):rnd (twin l)=twin l:=Nu _ l (Nat.le_refl _)
theorem fI (l:List Blk):twin (twin l)=twin l:=Z4 (Xb l)
theorem Xc (c:Cod):H9 (H9 c)=H9 c:=by unfold H9; simp only [fI]
structure EndLe (e' e:Endd):Prop where
 kind:e'.kind=e.kind
 a:e'.a=e.a
 to:e'.to≤e.to
 els:e'.els≤e.els
theorem EndLe.refl (e:Endd):EndLe e e:=⟨rfl,rfl,Int.le_refl _,Int.le_refl _⟩
theorem EndLe.trans {a b c:Endd} (h:EndLe a b) (k:EndLe b c):EndLe a c:=⟨h.kind.trans k.kind,h.a.trans k.a,Int.le_trans h.to k.to,Int.le_trans h.els k.els⟩
theorem Nv (l:List Blk) (t:Int):fstI l t≤t:=by rcases fstI_le l t with h | h <;> omega
theorem EndLe.R (l:List Blk) (e:Endd):EndLe (e.R l) e:=by
 unfold Endd.R
 split
 . exact ⟨rfl,rfl,Nv _ _,Int.le_refl _⟩
 . split
   . exact ⟨rfl,rfl,Nv _ _,Nv _ _⟩
   . exact .refl e
def Nw (l' l:List Blk):Prop:=l'.length=l.length∧∀ (i:Nat) b' b,l'[i]?=some b'->l[i]?=some b->b'.code=b.code∧EndLe b'.e b.e
theorem Nw.refl (l:List Blk):Nw l l:=⟨rfl,fun i b' b h1 h2=>by rw [h1] at h2; cases h2; exact ⟨rfl,.refl _⟩⟩
theorem Nw.rnd {l' l:List Blk} (h:Nw l' l):Nw (rnd l') l:=by
 refine ⟨(Fv l').trans h.1,fun i b' b h1 h2=>?_⟩
 unfold AmEnv.rnd at h1
 rw [List.getElem?_map] at h1
 obtain ⟨x,hx,rfl⟩:=Option.map_eq_some_iff.1 h1
 obtain ⟨k1,k2⟩:=h.2 i x b hx h2
 exact ⟨k1,(EndLe.R l' x.e).trans k2⟩
theorem Tz (l:List Blk):Nw (twin l) l:=Xa (Q:=fun l'=>Nw l' l) (fun _ h=>h.rnd) _ l (Nat.le_refl _) (.refl l)
theorem EndLe.tgts {e' e:Endd} (h:EndLe e' e):(tgts e').length=(tgts e).length∧∀ (k:Nat) x y,(tgts e')[k]?=some x->(tgts e)[k]?=some y->x≤y:=by
 unfold AmEnv.tgts
 rw [h.kind]
 split
 . refine ⟨rfl,fun k x y h1 h2=>?_⟩
   match k with
   | 0=>cases h1; cases h2; exact h.to
   | k + 1=>simp at h1
 . split
   . refine ⟨rfl,fun k x y h1 h2=>?_⟩
     match k with
     | 0=>cases h1; cases h2; exact h.to
     | 1=>cases h1; cases h2; exact h.els
     | k + 2=>simp at h1
   . exact ⟨rfl,fun k x y h1 h2=>by simp at h1⟩
theorem Nx {t:List Blk} {x:Int} (h:fstI t x=x) (h0:0≤x∧x < t.length):∀ j,j < x.toNat->t[j]? ≠ t[x.toNat]?:=by
 unfold fstI at h
 rw [if_pos h0] at h
 have:=(Ht (l:=t) (t:=x.toNat) (by omega)).2.2
 have e:fstN t x.toNat=x.toNat:=by omega
 rw [e] at this
 exact this
theorem cQ {n:Nat} {e:Endd} (h:z6 n e):∀ x∈tgts e,0≤x∧x < n:=by
 intro x hx
 unfold tgts at hx
 split at hx
 . rename_i q
   simp only [List.mem_singleton] at hx; subst hx; exact h.1 (.inl q)
 . split at hx
   . rename_i q
     simp only [List.mem_cons,List.not_mem_nil,or_false] at hx
     rcases hx with rfl | rfl
     . exact h.1 (.inr q)
     . exact h.2 q
   . cases hx
theorem fJ {t:List Blk} (hr:rnd t=t) (ht:∀ b∈t,z6 t.length b.e) {b:Blk} (hb:b∈t) {x:Int} (hx:x∈tgts b.e):∀ j,j < x.toNat->t[j]? ≠ t[x.toNat]?:=by
 obtain ⟨i,hi,rfl⟩:=List.getElem_of_mem hb
 have e:Blk.R t t[i]=t[i]:=by
  have h1:(rnd t)[i]?=t[i]?:=by rw [hr]
  unfold rnd at h1
  rw [List.getElem?_map,List.getElem?_eq_getElem hi] at h1
  exact Option.some.inj h1
 have e:t[i].e.R t=t[i].e:=by
  have:=congrArg Blk.e e
  exact this
 have h0:=cQ (ht _ hb) x hx
 generalize t[i].e=q at e hx h0
 obtain ⟨k,a,to,els⟩:=q
 unfold tgts at hx
 unfold Endd.R at e
 simp only at hx e
 split at hx
 . rename_i q
   rw [if_pos q] at e
   simp only [Endd.mk.injEq,true_and,and_true] at e
   simp only [List.mem_singleton] at hx; subst hx
   exact Nx e h0
 . rename_i q1
   rw [if_neg q1] at e
   split at hx
   . rename_i q
     rw [if_pos q] at e
     simp only [Endd.mk.injEq,true_and] at e
     simp only [List.mem_cons,List.not_mem_nil,or_false] at hx
     rcases hx with rfl | rfl
     . exact Nx e.1 h0
     . exact Nx e.2 h0
   . cases hx
end Go.Proofs.AmEnv
set_option maxRecDepth 100000
namespace Go.Proofs.AmEnv
open Go Go.AM
variable {T:Nat->Option (List AV->Option (List AV))}
theorem Cr  {e:Endd}:AM.Comes ⟨A0,T,A3⟩ 22 [e.F] [ownd 0 1 (ints (tgts e))]:=by
 obtain ⟨k,a,t,s⟩:=e
 unfold tgts
 simp only [Endd.F]
 by_cases h1:k=1
 . rw [if_pos h1]
   refine ⟨[.msl 0 0 1 1],⟨[.row 0 (ints [t]) 1],0,[]⟩,?_,?_⟩
   . rw [A8 (c:=qB) (nt:=17) (rs:=[.tmp 2]) rfl (by simp)]; unfold qB
     unfold K0
     simp -implicitDefEqProofs only [eq_true h1,ints,List.map_cons,List.map_nil,XP,seval]
   . exact B7 (vs':=[.msl 0 0 1 1]) (os':=[.row 0 (ints [t]) 1]) rfl (by show [0].Nodup; decide) (us:=[.msl 0 0 1 1]) (ps:=[.row 0 (ints [t]) 1]) rfl rfl rfl
 . rw [if_neg h1]
   by_cases h2:k=2
   . rw [if_pos h2]
     refine ⟨[.msl 0 0 2 1],⟨[.row 0 (ints [t,s]) 1],0,[]⟩,?_,?_⟩
     . rw [A8 (c:=qB) (nt:=17) (rs:=[.tmp 2]) rfl (by simp)]; unfold qB
       unfold K0
       simp -implicitDefEqProofs only [eq_false h1,eq_true h2,ints,List.map_cons,List.map_nil,XP,seval]
     . exact B7 (vs':=[.msl 0 0 2 1]) (os':=[.row 0 (ints [t,s]) 1]) rfl (by show [0].Nodup; decide) (us:=[.msl 0 0 2 1]) (ps:=[.row 0 (ints [t,s]) 1]) rfl rfl rfl
   . rw [if_neg h2]
     refine ⟨[.nilsl],⟨[],0,[]⟩,?_,⟨by decide,rfl,rfl⟩⟩
     rw [A8 (c:=qB) (nt:=17) (rs:=[.tmp 2]) rfl (by simp)]; unfold qB
     unfold K0
     simp -implicitDefEqProofs only [eq_false h1,eq_false h2,XP,seval]
def J6:=b9 (fun p:(Endd)=>[p.F]) (fun p=>[ownd 0 1 (ints (tgts p))]) (fun p=>True)
theorem Bo (hlaw19_targets:T 22=some J6) {e:Endd} {K:PK}:evP ⟨A0,T,A3⟩ (.call 22 [e.F] K)=some (.val (openTs K.os.length [ownd 0 1 (ints (tgts e))]).1 ⟨K.os ++ (openTs K.os.length [ownd 0 1 (ints (tgts e))]).2,K.ext,K.tch⟩):=B8 hlaw19_targets (by simp -implicitDefEqProofs only [VV,XP,seval]) (C3 (a:=fun p:(Endd)=>[p.F]) (r:=fun p=>[ownd 0 1 (ints (tgts p))]) (fun x y e=>by simp only [VJ] at e; simp only [e]) (e) trivial) (by simp -implicitDefEqProofs only [VN,XP,seval])
theorem Hz  (hP:PEok ⟨A0,T,A3⟩):TC A0 22 J6:=C8 hP fun p h=>Cr
end Go.Proofs.AmEnv
set_option maxRecDepth 100000
namespace Go.Proofs.AmEnv
open Go Go.AM
variable {T:Nat->Option (List AV->Option (List AV))}
section
variable {c:Cod} {m:Modl} {i:Nat} {mF:AV}
theorem Ch (l:List Int) (k:Nat):(ints l)[k]?=(l[k]?).map fun x=>AV.int .i64 x:=by unfold ints; exact List.getElem?_map
theorem Ia {os:List PO} {id j at':Nat} {l:List Blk} {B:Blk} (h1:os[j]?=some (.row 0 (l.map Blk.O) 5)) (h2:os[id]?=some (.sub j at' 0)) (hg:(l.map Blk.O)[at']?=some B.O):viewA os (.msl id 0 B.code.length 8)=some (fslN (B.code.map Ins.F)):=by
 have e:(B.code.map Ins.O).take B.code.length=B.code.map Ins.O:=List.take_of_length_le (by simp)
 simp only [Blk.O] at hg
 simp -implicitDefEqProofs only [h1,h2,hg,e,Re,List.length_map,XP,seval]
set_option maxHeartbeats 4000000 in
theorem HG {at' k j lo:Nat} {to was:List Int} {B:Blk} (hSI:T 23=some F9) (hc:c.tok) (h:k < to.length) (hx:to[k]?=some (j:Int)) (hl:lo < j) (hj:j < (twin c.blocks).length) (hB:(twin c.blocks)[j]?=some B) (hne:(twin c.blocks)[lo]? ≠ (twin c.blocks)[j]?) :
 evP ⟨A0,T,A3⟩ (.code Zf [(1,.ptr 0 0 0),(3,.int .i64 (i:Int)),(4,.ptr 1 0 0),(5,.ptr 2 0 0),(6,.int .i64 (at':Int)),(7,.msl 3 0 to.length 1),(8,.msl 4 0 was.length 1),(9,.int .i64 (k:Int)),(10,.ptr 5 0 0),(11,.int .i64 (lo:Int))] ⟨[.row 1 [.agg [fslN (m.gs.map Glo.F),fslN (m.fs.map Cod.F)]] 2,.row 1 [.agg [.str c.name,.int .i64 c.ty,.int .i64 c.ps,fslN (ints c.regs),fslN (c.blocks.map Blk.F)]] 5,PO.row 1 [.agg [.str c.name,.int .i64 c.ty,.int .i64 c.ps,.msl 6 0 c.regs.length 1,.msl 7 0 (twin c.blocks).length 5]] 5,.row 0 (ints to) 1,.row 0 (ints was) 1,.row 1 [.agg [.msl 8 0 B.code.length 8,.int .i64 B.e.kind,.int .i64 B.e.a,.int .i64 B.e.to,.int .i64 B.e.els]] 5,(PO.row 0 (ints c.regs) 1),(PO.row 0 ((twin c.blocks).map Blk.O) 5),.sub 7 j 0],0,[]⟩)=some (.ok .normal [(1,.ptr 0 0 0),(3,.int .i64 (i:Int)),(4,.ptr 1 0 0),(5,.ptr 2 0 0),(6,.int .i64 (at':Int)),(7,.msl 3 0 to.length 1),(8,.msl 4 0 was.length 1),(9,.int .i64 (k:Int)),(10,.ptr 5 0 0),(11,.int .i64 ((lo + 1:Nat):Int))] ⟨[.row 1 [.agg [fslN (m.gs.map Glo.F),fslN (m.fs.map Cod.F)]] 2,.row 1 [.agg [.str c.name,.int .i64 c.ty,.int .i64 c.ps,fslN (ints c.regs),fslN (c.blocks.map Blk.F)]] 5,PO.row 1 [.agg [.str c.name,.int .i64 c.ty,.int .i64 c.ps,.msl 6 0 c.regs.length 1,.msl 7 0 (twin c.blocks).length 5]] 5,.row 0 (ints to) 1,.row 0 (ints was) 1,.row 1 [.agg [.msl 8 0 B.code.length 8,.int .i64 B.e.kind,.int .i64 B.e.a,.int .i64 B.e.to,.int .i64 B.e.els]] 5,(PO.row 0 (ints c.regs) 1),(PO.row 0 ((twin c.blocks).map Blk.O) 5),.sub 7 j 0],0,[]⟩):=by
 have hb:=(j5 hc.2).2.1
 have hlt:decide ((lo:Int) < (j:Int))=true:=by simp [hl]
 have hlo:lo < (twin c.blocks).length:=by omega
 have hw:=B3 (i:=lo) (by simp only [bigN] at *; omega)
 have hx':(ints to)[k]?=some (.int .i64 (j:Int)):=by rw [Ch,hx]; rfl
 have hg:((twin c.blocks).map Blk.O)[j]?=some B.O:=by rw [List.getElem?_map,hB]; rfl
 have hg2:((twin c.blocks).map Blk.O)[lo]?=some (twin c.blocks)[lo].O:=B2 hlo
 rw [hB,List.getElem?_eq_getElem hlo] at hne
 have hok:=(j5 hc.2).1 _ (List.getElem_mem hlo)
 generalize (twin c.blocks)[lo]=L at hg2 hne hok
 have ee:=fun K=>Cf (e:=L.e) (e':=B.e) (K:=K)
 have s1:∀ (K:PK) (i:Nat),K.os[7]?=some (PO.row 0 ((twin c.blocks).map Blk.O) 5)->K.os[i]?=some (.sub 7 lo 0)->K.os[8]?=some (.sub 7 j 0)->evP ⟨A0,T,A3⟩ (.call 23 [.msl i 0 L.code.length 8,.msl 8 0 B.code.length 8] K)=some (.val [.bool (decide (L.code=B.code))] ⟨K.os ++ [],K.ext,K.tch⟩):=fun K i h1 h2 h3=>by
  have e1:=Ia h1 h2 hg2
  have e2:=Ia h1 h3 hg
  have hv:viewAs K.os [.msl i 0 L.code.length 8,.msl 8 0 B.code.length 8]=some [fslN (L.code.map Ins.F),fslN (B.code.map Ins.F)]:=((congrArg (fun a=>D2 a (D2 (viewA K.os (.msl 8 0 B.code.length 8)) (some []))) e1).trans ((congrArg (fun b=>D2 (some _) (D2 b (some []))) e2).trans rfl))
  exact B8 (E:=A0) (F:=A3) (K:=K) hSI hv (Y6 hok.1 hok.2) (by rfl)
 unfold Zf vG vF sO
 simp only [Blk.O] at hg hg2
 by_cases he:L.e=B.e
 . have q:decide (L.code=B.code)=false:=B5 fun hh=>hne (by rw [Blk.eq_iff.2 ⟨he,hh⟩])
   rw [q] at s1
   rw [A6 he] at ee
   simp -implicitDefEqProofs only [h,hl,hj,hlo,eq_true h,eq_true hl,eq_true hlo,hlt,hw,hx',hg,hg2,ee,s1,List.length_map,XP,seval]
 . rw [B5 he] at ee
   simp -implicitDefEqProofs only [h,hl,hj,hlo,eq_true h,eq_true hl,eq_true hlo,hlt,hw,hx',hg,hg2,ee,s1,List.length_map,XP,seval]
theorem zS {at' k j:Nat} {to was:List Int} {B:Blk} (h:k < to.length) (hx:to[k]?=some (j:Int)) :
 evP ⟨A0,T,A3⟩ (.code Zf [(1,.ptr 0 0 0),(3,.int .i64 (i:Int)),(4,.ptr 1 0 0),(5,.ptr 2 0 0),(6,.int .i64 (at':Int)),(7,.msl 3 0 to.length 1),(8,.msl 4 0 was.length 1),(9,.int .i64 (k:Int)),(10,.ptr 5 0 0),(11,.int .i64 (j:Int))] ⟨[.row 1 [.agg [fslN (m.gs.map Glo.F),fslN (m.fs.map Cod.F)]] 2,.row 1 [.agg [.str c.name,.int .i64 c.ty,.int .i64 c.ps,fslN (ints c.regs),fslN (c.blocks.map Blk.F)]] 5,PO.row 1 [.agg [.str c.name,.int .i64 c.ty,.int .i64 c.ps,.msl 6 0 c.regs.length 1,.msl 7 0 (twin c.blocks).length 5]] 5,.row 0 (ints to) 1,.row 0 (ints was) 1,.row 1 [.agg [.msl 8 0 B.code.length 8,.int .i64 B.e.kind,.int .i64 B.e.a,.int .i64 B.e.to,.int .i64 B.e.els]] 5,(PO.row 0 (ints c.regs) 1),(PO.row 0 ((twin c.blocks).map Blk.O) 5),.sub 7 j 0],0,[]⟩)=some (.ok (.exit 6) [(138,.bool false),(137,.int .i64 (j:Int)),(136,.ptr 3 k 0),(135,.int .i64 (k:Int)),(134,.msl 3 0 to.length 1),(133,.int .i64 (j:Int)),(1,.ptr 0 0 0),(3,.int .i64 (i:Int)),(4,.ptr 1 0 0),(5,.ptr 2 0 0),(6,.int .i64 (at':Int)),(7,.msl 3 0 to.length 1),(8,.msl 4 0 was.length 1),(9,.int .i64 (k:Int)),(10,.ptr 5 0 0),(11,.int .i64 (j:Int))] ⟨[.row 1 [.agg [fslN (m.gs.map Glo.F),fslN (m.fs.map Cod.F)]] 2,.row 1 [.agg [.str c.name,.int .i64 c.ty,.int .i64 c.ps,fslN (ints c.regs),fslN (c.blocks.map Blk.F)]] 5,PO.row 1 [.agg [.str c.name,.int .i64 c.ty,.int .i64 c.ps,.msl 6 0 c.regs.length 1,.msl 7 0 (twin c.blocks).length 5]] 5,.row 0 (ints to) 1,.row 0 (ints was) 1,.row 1 [.agg [.msl 8 0 B.code.length 8,.int .i64 B.e.kind,.int .i64 B.e.a,.int .i64 B.e.to,.int .i64 B.e.els]] 5,(PO.row 0 (ints c.regs) 1),(PO.row 0 ((twin c.blocks).map Blk.O) 5),.sub 7 j 0],0,[]⟩):=by
 have hlt:decide ((j:Int) < (j:Int))=false:=by simp
 have hx':(ints to)[k]?=some (.int .i64 (j:Int)):=by rw [Ch,hx]; rfl
 unfold Zf sO
 simp -implicitDefEqProofs only [h,eq_true h,hlt,hx',List.length_map,XP,seval]
theorem zT {at':Nat} {to was:List Int} :
 evP ⟨A0,T,A3⟩ (.code Zg [(1,.ptr 0 0 0),(3,.int .i64 (i:Int)),(4,.ptr 1 0 0),(5,.ptr 2 0 0),(6,.int .i64 (at':Int)),(7,.msl 3 0 to.length 1),(8,.msl 4 0 was.length 1),(9,.int .i64 (to.length:Int))] ⟨[.row 1 [.agg [fslN (m.gs.map Glo.F),fslN (m.fs.map Cod.F)]] 2,.row 1 [.agg [.str c.name,.int .i64 c.ty,.int .i64 c.ps,fslN (ints c.regs),fslN (c.blocks.map Blk.F)]] 5,PO.row 1 [.agg [.str c.name,.int .i64 c.ty,.int .i64 c.ps,.msl 5 0 c.regs.length 1,.msl 6 0 (twin c.blocks).length 5]] 5,.row 0 (ints to) 1,.row 0 (ints was) 1,(PO.row 0 (ints c.regs) 1),(PO.row 0 ((twin c.blocks).map Blk.O) 5)],0,[]⟩)=some (.ok (.exit 4) [(113,.bool false),(112,.int .i64 (to.length:Int)),(111,.msl 3 0 to.length 1),(110,.int .i64 (to.length:Int)),(1,.ptr 0 0 0),(3,.int .i64 (i:Int)),(4,.ptr 1 0 0),(5,.ptr 2 0 0),(6,.int .i64 (at':Int)),(7,.msl 3 0 to.length 1),(8,.msl 4 0 was.length 1),(9,.int .i64 (to.length:Int))] ⟨[.row 1 [.agg [fslN (m.gs.map Glo.F),fslN (m.fs.map Cod.F)]] 2,.row 1 [.agg [.str c.name,.int .i64 c.ty,.int .i64 c.ps,fslN (ints c.regs),fslN (c.blocks.map Blk.F)]] 5,PO.row 1 [.agg [.str c.name,.int .i64 c.ty,.int .i64 c.ps,.msl 5 0 c.regs.length 1,.msl 6 0 (twin c.blocks).length 5]] 5,.row 0 (ints to) 1,.row 0 (ints was) 1,(PO.row 0 (ints c.regs) 1),(PO.row 0 ((twin c.blocks).map Blk.O) 5)],0,[]⟩):=by
 have hlt:decide ((to.length:Int) < (to.length:Int))=false:=by simp
 unfold Zg sN
 simp -implicitDefEqProofs only [hlt,List.length_map,XP,seval]
theorem zU :
 evP ⟨A0,T,A3⟩ (.code Zh [(1,.ptr 0 0 0),(3,.int .i64 (i:Int)),(4,.ptr 1 0 0),(5,.ptr 2 0 0),(6,.int .i64 ((twin c.blocks).length:Int))] ⟨[.row 1 [.agg [fslN (m.gs.map Glo.F),fslN (m.fs.map Cod.F)]] 2,.row 1 [.agg [.str c.name,.int .i64 c.ty,.int .i64 c.ps,fslN (ints c.regs),fslN (c.blocks.map Blk.F)]] 5,PO.row 1 [.agg [.str c.name,.int .i64 c.ty,.int .i64 c.ps,.msl 3 0 c.regs.length 1,.msl 4 0 (twin c.blocks).length 5]] 5,(PO.row 0 (ints c.regs) 1),(PO.row 0 ((twin c.blocks).map Blk.O) 5)],0,[]⟩)=some (.ok (.exit 2) [(55,.bool false),(54,.int .i64 ((twin c.blocks).length:Int)),(53,.msl 4 0 (twin c.blocks).length 5),(52,.ptr 2 0 4),(51,.int .i64 ((twin c.blocks).length:Int)),(1,.ptr 0 0 0),(3,.int .i64 (i:Int)),(4,.ptr 1 0 0),(5,.ptr 2 0 0),(6,.int .i64 ((twin c.blocks).length:Int))] ⟨[.row 1 [.agg [fslN (m.gs.map Glo.F),fslN (m.fs.map Cod.F)]] 2,.row 1 [.agg [.str c.name,.int .i64 c.ty,.int .i64 c.ps,fslN (ints c.regs),fslN (c.blocks.map Blk.F)]] 5,PO.row 1 [.agg [.str c.name,.int .i64 c.ty,.int .i64 c.ps,.msl 3 0 c.regs.length 1,.msl 4 0 (twin c.blocks).length 5]] 5,(PO.row 0 (ints c.regs) 1),(PO.row 0 ((twin c.blocks).map Blk.O) 5)],0,[]⟩):=by
 have hlt:decide (((twin c.blocks).length:Int) < ((twin c.blocks).length:Int))=false:=by simp
 unfold Zh sM
 simp -implicitDefEqProofs only [hlt,List.length_map,XP,seval]
set_option maxHeartbeats 4000000 in
theorem HH {at' k j:Nat} {to was:List Int} {y:Int} (hSI:T 23=some F9) (h:k < to.length) (hn:to.length≤2) (hc:c.tok) (hx:to[k]?=some (j:Int)) (hy:was[k]?=some y) (hj:j < (twin c.blocks).length) (hle:(j:Int)≤y) (hf:∀ q,q < j->(twin c.blocks)[q]? ≠ (twin c.blocks)[j]?) :
 evP ⟨A0,T,A3⟩ (.code Zg [(1,.ptr 0 0 0),(3,.int .i64 (i:Int)),(4,.ptr 1 0 0),(5,.ptr 2 0 0),(6,.int .i64 (at':Int)),(7,.msl 3 0 to.length 1),(8,.msl 4 0 was.length 1),(9,.int .i64 (k:Int))] ⟨[.row 1 [.agg [fslN (m.gs.map Glo.F),fslN (m.fs.map Cod.F)]] 2,.row 1 [.agg [.str c.name,.int .i64 c.ty,.int .i64 c.ps,fslN (ints c.regs),fslN (c.blocks.map Blk.F)]] 5,PO.row 1 [.agg [.str c.name,.int .i64 c.ty,.int .i64 c.ps,.msl 5 0 c.regs.length 1,.msl 6 0 (twin c.blocks).length 5]] 5,.row 0 (ints to) 1,.row 0 (ints was) 1,(PO.row 0 (ints c.regs) 1),(PO.row 0 ((twin c.blocks).map Blk.O) 5)],0,[]⟩)=some (.ok .normal [(1,.ptr 0 0 0),(3,.int .i64 (i:Int)),(4,.ptr 1 0 0),(5,.ptr 2 0 0),(6,.int .i64 (at':Int)),(7,.msl 3 0 to.length 1),(8,.msl 4 0 was.length 1),(9,.int .i64 ((k + 1:Nat):Int))] ⟨[.row 1 [.agg [fslN (m.gs.map Glo.F),fslN (m.fs.map Cod.F)]] 2,.row 1 [.agg [.str c.name,.int .i64 c.ty,.int .i64 c.ps,fslN (ints c.regs),fslN (c.blocks.map Blk.F)]] 5,PO.row 1 [.agg [.str c.name,.int .i64 c.ty,.int .i64 c.ps,.msl 5 0 c.regs.length 1,.msl 6 0 (twin c.blocks).length 5]] 5,.row 0 (ints to) 1,.row 0 (ints was) 1,(PO.row 0 (ints c.regs) 1),(PO.row 0 ((twin c.blocks).map Blk.O) 5)],0,[]⟩):=by
 have hlt:decide ((k:Int) < (to.length:Int))=true:=by simp [h]
 have hw:=B3 (i:=k) (by omega)
 have h2:k < was.length:=by
  rcases Nat.lt_or_ge k was.length with q | q
  . exact q
  . rw [List.getElem?_eq_none q] at hy; cases hy
 have hx':(ints to)[k]?=some (.int .i64 (j:Int)):=by rw [Ch,hx]; rfl
 have hy':(ints was)[k]?=some (.int .i64 y):=by rw [Ch,hy]; rfl
 have hgt:decide (y < (j:Int))=false:=by simp; omega
 have hg:((twin c.blocks).map Blk.O)[j]?=some (twin c.blocks)[j].O:=B2 hj
 have hB:=List.getElem?_eq_getElem hj
 generalize (twin c.blocks)[j]=B at hg hB
 have hl:=Z9 (P:=⟨A0,T,A3⟩) (c:=Zf) (fun lo=>([(1,.ptr 0 0 0),(3,.int .i64 (i:Int)),(4,.ptr 1 0 0),(5,.ptr 2 0 0),(6,.int .i64 (at':Int)),(7,.msl 3 0 to.length 1),(8,.msl 4 0 was.length 1),(9,.int .i64 (k:Int)),(10,.ptr 5 0 0),(11,.int .i64 (lo:Int))],⟨[.row 1 [.agg [fslN (m.gs.map Glo.F),fslN (m.fs.map Cod.F)]] 2,.row 1 [.agg [.str c.name,.int .i64 c.ty,.int .i64 c.ps,fslN (ints c.regs),fslN (c.blocks.map Blk.F)]] 5,PO.row 1 [.agg [.str c.name,.int .i64 c.ty,.int .i64 c.ps,.msl 6 0 c.regs.length 1,.msl 7 0 (twin c.blocks).length 5]] 5,.row 0 (ints to) 1,.row 0 (ints was) 1,.row 1 [.agg [.msl 8 0 B.code.length 8,.int .i64 B.e.kind,.int .i64 B.e.a,.int .i64 B.e.to,.int .i64 B.e.els]] 5,(PO.row 0 (ints c.regs) 1),(PO.row 0 ((twin c.blocks).map Blk.O) 5),.sub 7 j 0],0,[]⟩)) j (fun lo hlo=>HG (i:=i) (m:=m) (at':=at') (was:=was) hSI hc h hx hlo hj hB (hf lo hlo))
 have hl:=hl.trans (D3 (zS (T:=T) (i:=i) (m:=m) (c:=c) (at':=at') (was:=was) (B:=B) h hx))
 have hl:evP ⟨A0,T,A3⟩ (.code (.loop Zf) [(1,.ptr 0 0 0),(3,.int .i64 (i:Int)),(4,.ptr 1 0 0),(5,.ptr 2 0 0),(6,.int .i64 (at':Int)),(7,.msl 3 0 to.length 1),(8,.msl 4 0 was.length 1),(9,.int .i64 (k:Int)),(10,.ptr 5 0 0),(11,.int .i64 0)] ⟨[.row 1 [.agg [fslN (m.gs.map Glo.F),fslN (m.fs.map Cod.F)]] 2,.row 1 [.agg [.str c.name,.int .i64 c.ty,.int .i64 c.ps,fslN (ints c.regs),fslN (c.blocks.map Blk.F)]] 5,PO.row 1 [.agg [.str c.name,.int .i64 c.ty,.int .i64 c.ps,.msl 6 0 c.regs.length 1,.msl 7 0 (twin c.blocks).length 5]] 5,.row 0 (ints to) 1,.row 0 (ints was) 1,.row 1 [.agg [.msl 8 0 B.code.length 8,.int .i64 B.e.kind,.int .i64 B.e.a,.int .i64 B.e.to,.int .i64 B.e.els]] 5,(PO.row 0 (ints c.regs) 1),(PO.row 0 ((twin c.blocks).map Blk.O) 5),.sub 7 j 0],0,[]⟩)=_:=hl
 unfold Zg pG pF pE pD vE sN
 simp only [Blk.O] at hg
 simp -implicitDefEqProofs only [hl,h,h2,hj,eq_true h,eq_true h2,eq_true hj,hlt,hw,hx',hy',hgt,hg,List.length_map,XP,seval]
set_option maxHeartbeats 4000000 in
theorem HI {at':Nat} (hTg:T 22=some J6) (hSI:T 23=some F9) (h:at' < (twin c.blocks).length) (hc:c.tok) :
 evP ⟨A0,T,A3⟩ (.code Zh [(1,.ptr 0 0 0),(3,.int .i64 (i:Int)),(4,.ptr 1 0 0),(5,.ptr 2 0 0),(6,.int .i64 (at':Int))] ⟨[.row 1 [.agg [fslN (m.gs.map Glo.F),fslN (m.fs.map Cod.F)]] 2,.row 1 [.agg [.str c.name,.int .i64 c.ty,.int .i64 c.ps,fslN (ints c.regs),fslN (c.blocks.map Blk.F)]] 5,PO.row 1 [.agg [.str c.name,.int .i64 c.ty,.int .i64 c.ps,.msl 3 0 c.regs.length 1,.msl 4 0 (twin c.blocks).length 5]] 5,(PO.row 0 (ints c.regs) 1),(PO.row 0 ((twin c.blocks).map Blk.O) 5)],0,[]⟩)=some (.ok .normal [(1,.ptr 0 0 0),(3,.int .i64 (i:Int)),(4,.ptr 1 0 0),(5,.ptr 2 0 0),(6,.int .i64 ((at' + 1:Nat):Int))] ⟨[.row 1 [.agg [fslN (m.gs.map Glo.F),fslN (m.fs.map Cod.F)]] 2,.row 1 [.agg [.str c.name,.int .i64 c.ty,.int .i64 c.ps,fslN (ints c.regs),fslN (c.blocks.map Blk.F)]] 5,PO.row 1 [.agg [.str c.name,.int .i64 c.ty,.int .i64 c.ps,.msl 3 0 c.regs.length 1,.msl 4 0 (twin c.blocks).length 5]] 5,(PO.row 0 (ints c.regs) 1),(PO.row 0 ((twin c.blocks).map Blk.O) 5)],0,[]⟩):=by
 have hb:=(j5 hc.2).2.1
 have hlt:decide ((at':Int) < ((twin c.blocks).length:Int))=true:=by simp [h]
 have hw:=B3 (i:=at') (by have:=hb; simp only [bigN] at *; omega)
 have h2:at' < c.blocks.length:=by rw [← (Tz c.blocks).1]; exact h
 have hg:((twin c.blocks).map Blk.O)[at']?=some (twin c.blocks)[at'].O:=B2 h
 have hg2:=B2 (F:=Blk.F) h2
 obtain ⟨hcode,hle⟩:=(Tz c.blocks).2 at' _ _ (List.getElem?_eq_getElem h) (List.getElem?_eq_getElem h2)
 have hmem:=List.getElem_mem h
 generalize (twin c.blocks)[at']=B at hg hcode hle hmem
 generalize c.blocks[at']=b at hg2 hcode hle
 have t1:=fun K=>Bo (K:=K) hTg (e:=B.e)
 have t2:=fun K=>Bo (K:=K) hTg (e:=b.e)
 have hcok:=(j5 hc.2).1 B hmem
 have s1:∀ (K:PK) (i:Nat),K.os[4]?=some (PO.row 0 ((twin c.blocks).map Blk.O) 5)->K.os[i]?=some (.sub 4 at' 0)->evP ⟨A0,T,A3⟩ (.call 23 [.msl i 0 B.code.length 8,fslN (b.code.map Ins.F)] K)=some (.val [.bool true] ⟨K.os ++ [],K.ext,K.tch⟩):=fun K i h1 h2=>by
  have e1:=Ia h1 h2 hg
  rw [← hcode]
  have hv:viewAs K.os [.msl i 0 B.code.length 8,fslN (B.code.map Ins.F)]=some [fslN (B.code.map Ins.F),fslN (B.code.map Ins.F)]:=((congrArg (fun a=>D2 a (D2 (viewA K.os (fslN (B.code.map Ins.F))) (some []))) e1).trans (by show D2 (some _) (D2 (Uq (frzL (B.code.map Ins.F))) (some []))=_; rw [frzL_insF]; rfl))
  have:=B8 (E:=A0) (F:=A3) (K:=K) hSI hv (Y6 hcok.1 hcok.2) (by rfl)
  rw [A6 rfl] at this
  exact this
 have hlen:decide (((tgts B.e).length:Int)=((tgts b.e).length:Int))=true:=by simp [hle.tgts.1]
 have hrnd:=Xb c.blocks
 have htg:∀ b∈twin c.blocks,z6 (twin c.blocks).length b.e:=(j5 hc.2).2.2
 have hin:=cQ (htg B hmem)
 have hl2:(tgts B.e).length≤2:=by unfold tgts; split; simp; split <;> simp
 have hl:=Z9 (P:=⟨A0,T,A3⟩) (c:=Zg) (fun k=>([(1,.ptr 0 0 0),(3,.int .i64 (i:Int)),(4,.ptr 1 0 0),(5,.ptr 2 0 0),(6,.int .i64 (at':Int)),(7,.msl 3 0 (tgts B.e).length 1),(8,.msl 4 0 (tgts b.e).length 1),(9,.int .i64 (k:Int))],⟨[.row 1 [.agg [fslN (m.gs.map Glo.F),fslN (m.fs.map Cod.F)]] 2,.row 1 [.agg [.str c.name,.int .i64 c.ty,.int .i64 c.ps,fslN (ints c.regs),fslN (c.blocks.map Blk.F)]] 5,PO.row 1 [.agg [.str c.name,.int .i64 c.ty,.int .i64 c.ps,.msl 5 0 c.regs.length 1,.msl 6 0 (twin c.blocks).length 5]] 5,.row 0 (ints (tgts B.e)) 1,.row 0 (ints (tgts b.e)) 1,(PO.row 0 (ints c.regs) 1),(PO.row 0 ((twin c.blocks).map Blk.O) 5)],0,[]⟩)) (tgts B.e).length (fun k hk=>by
  have hm:=List.getElem_mem hk
  have hi:=hin _ hm
  have hk2:k < (tgts b.e).length:=by rw [← hle.tgts.1]; exact hk
  have hxe:(((tgts B.e)[k]).toNat:Int)=(tgts B.e)[k]:=Int.toNat_of_nonneg hi.1
  have hx:(tgts B.e)[k]?=some (((tgts B.e)[k]).toNat:Int):=by rw [hxe]; exact List.getElem?_eq_getElem hk
  have hy:=List.getElem?_eq_getElem hk2
  exact HH (T:=T) (i:=i) (m:=m) (c:=c) (at':=at') hSI hk hl2 hc hx hy (by omega) (hle.tgts.2 k _ _ hx hy) (fJ hrnd htg hmem hm))
 have hl:=hl.trans (D3 (zT (T:=T) (i:=i) (m:=m) (c:=c) (at':=at') (to:=tgts B.e) (was:=tgts b.e)))
 have hl:evP ⟨A0,T,A3⟩ (.code (.loop Zg) [(1,.ptr 0 0 0),(3,.int .i64 (i:Int)),(4,.ptr 1 0 0),(5,.ptr 2 0 0),(6,.int .i64 (at':Int)),(7,.msl 3 0 (tgts B.e).length 1),(8,.msl 4 0 (tgts b.e).length 1),(9,.int .i64 0)] ⟨[.row 1 [.agg [fslN (m.gs.map Glo.F),fslN (m.fs.map Cod.F)]] 2,.row 1 [.agg [.str c.name,.int .i64 c.ty,.int .i64 c.ps,fslN (ints c.regs),fslN (c.blocks.map Blk.F)]] 5,PO.row 1 [.agg [.str c.name,.int .i64 c.ty,.int .i64 c.ps,.msl 5 0 c.regs.length 1,.msl 6 0 (twin c.blocks).length 5]] 5,.row 0 (ints (tgts B.e)) 1,.row 0 (ints (tgts b.e)) 1,(PO.row 0 (ints c.regs) 1),(PO.row 0 ((twin c.blocks).map Blk.O) 5)],0,[]⟩)=_:=hl
 have hA:decide (B.e.a=b.e.a)=true:=by simp [hle.a]
 unfold Zh pL pK pJ pI pH sM vD
 simp only [Blk.O,Blk.F,Endd.F] at hg hg2 t1 t2 ⊢
 simp -implicitDefEqProofs only [hl,s1,hlen,hA,h,eq_true h,hlt,hw,hg,hg2,t1,t2,List.length_map,XP,seval]
theorem fK {os:List PO} {id:Nat} {l:List Int} (h:os[id]?=some (.row 0 (ints l) 1)):viewA os (.msl id 0 l.length 1)=some (fslN (ints l)):=by
 have e:(ints l).take l.length=ints l:=List.take_of_length_le (by simp)
 simp -implicitDefEqProofs only [h,e,frzL_ints,List.length_map,XP,seval]
set_option maxHeartbeats 4000000 in
theorem HJ (hTw:T 17=some M7) (hSC:T 19=some S8) (hSI:T 21=some N3) (hTg:T 22=some J6) (hSIs:T 23=some F9)
 (h:i < m.fs.length) (hs:m.fs.length≤bigN) (hc:m.fs[i].tok) :
 evP ⟨A0,T,A3⟩ (.code Zi [(1,.ptr 0 0 0),(3,.int .i64 (i:Int))] ⟨[.row 1 [m.F] 2],0,[]⟩)=some (.ok .normal [(1,.ptr 0 0 0),(3,.int .i64 ((i + 1:Nat):Int))] ⟨[.row 1 [m.F] 2],0,[]⟩):=by
 have hlt:decide ((i:Int) < (m.fs.length:Int))=true:=by simp [h]
 have hw:=B3 (i:=i) (by simp only [bigN] at hs; omega)
 have hi:=B2 (F:=Cod.F) h
 generalize m.fs[i]=c at hi hc
 have hck:=tA hc
 have htk:(H9 c).ok:=⟨hc.1,(j5 hc.2).1,(j5 hc.2).2.1⟩
 have htt:(H9 c).tok:=⟨hc.1,j5 hc.2⟩
 have t1:=fun K=>aJ (K:=K) hTw hc
 have t2:∀ (K:PK) (i j:Nat),K.os[i]?=some (PO.row 0 (ints c.regs) 1)->K.os[j]?=some (PO.row 0 ((twin c.blocks).map Blk.O) 5)->evP ⟨A0,T,A3⟩ (.call 17 [.agg [.str c.name,.int .i64 c.ty,.int .i64 c.ps,.msl i 0 c.regs.length 1,.msl j 0 (twin c.blocks).length 5]] K)=some (.val (openTs K.os.length [(H9 c).O]).1 ⟨K.os ++ (openTs K.os.length [(H9 c).O]).2,K.ext,K.tch⟩):=fun K i j h1 h2=>by
  have e1:=Ga (c:=H9 c) h1 h2
  have hv:viewAs K.os [.agg [.str c.name,.int .i64 c.ty,.int .i64 c.ps,.msl i 0 c.regs.length 1,.msl j 0 (twin c.blocks).length 5]]=some [(H9 c).F]:=(congrArg (fun a=>D2 a (some [])) e1).trans rfl
  have:=Fx (c:=H9 c) hTw hv htt
  rw [Xc] at this
  exact this
 have s1:∀ (K:PK) (i j i' j':Nat),K.os[i]?=some (PO.row 0 (ints c.regs) 1)->K.os[j]?=some (PO.row 0 ((twin c.blocks).map Blk.O) 5)->K.os[i']?=some (PO.row 0 (ints c.regs) 1)->K.os[j']?=some (PO.row 0 ((twin c.blocks).map Blk.O) 5)->evP ⟨A0,T,A3⟩ (.call 19 [.agg [.str c.name,.int .i64 c.ty,.int .i64 c.ps,.msl i 0 c.regs.length 1,.msl j 0 (twin c.blocks).length 5],.agg [.str c.name,.int .i64 c.ty,.int .i64 c.ps,.msl i' 0 c.regs.length 1,.msl j' 0 (twin c.blocks).length 5]] K)=some (.val [.bool true] ⟨K.os ++ [],K.ext,K.tch⟩):=fun K i j i' j' h1 h2 h3 h4=>by
  have e1:=Ga (c:=H9 c) h1 h2
  have e2:=Ga (c:=H9 c) h3 h4
  have hv:viewAs K.os [.agg [.str c.name,.int .i64 c.ty,.int .i64 c.ps,.msl i 0 c.regs.length 1,.msl j 0 (twin c.blocks).length 5],.agg [.str c.name,.int .i64 c.ty,.int .i64 c.ps,.msl i' 0 c.regs.length 1,.msl j' 0 (twin c.blocks).length 5]]=some [(H9 c).F,(H9 c).F]:=((congrArg (fun a=>D2 a (D2 _ (some []))) e1).trans ((congrArg (fun b=>D2 (some _) (D2 b (some []))) e2).trans rfl))
  have:=Jh (c:=H9 c) (d:=H9 c) hSC htk hv
  rw [A6 rfl] at this
  exact this
 have s3:∀ (K:PK) (i:Nat),K.os[i]?=some (PO.row 0 (ints c.regs) 1)->evP ⟨A0,T,A3⟩ (.call 21 [.msl i 0 c.regs.length 1,fslN (ints c.regs)] K)=some (.val [.bool true] ⟨K.os ++ [],K.ext,K.tch⟩):=fun K i h1=>by
  have e1:=fK (l:=c.regs) h1
  have hv:viewAs K.os [.msl i 0 c.regs.length 1,fslN (ints c.regs)]=some [fslN (ints c.regs),fslN (ints c.regs)]:=((congrArg (fun a=>D2 a (D2 (viewA K.os (fslN (ints c.regs))) (some []))) e1).trans (by show D2 (some _) (D2 (Uq (frzL (ints c.regs))) (some []))=_; rw [frzL_ints]; rfl))
  have:=B8 (E:=A0) (F:=A3) (K:=K) hSI hv (X1 hc.1) (by rfl)
  rw [A6 rfl] at this
  exact this
 have hl:=Z9 (P:=⟨A0,T,A3⟩) (c:=Zh) (fun a=>([(1,.ptr 0 0 0),(3,.int .i64 (i:Int)),(4,.ptr 1 0 0),(5,.ptr 2 0 0),(6,.int .i64 (a:Int))],⟨[.row 1 [.agg [fslN (m.gs.map Glo.F),fslN (m.fs.map Cod.F)]] 2,.row 1 [.agg [.str c.name,.int .i64 c.ty,.int .i64 c.ps,fslN (ints c.regs),fslN (c.blocks.map Blk.F)]] 5,PO.row 1 [.agg [.str c.name,.int .i64 c.ty,.int .i64 c.ps,.msl 3 0 c.regs.length 1,.msl 4 0 (twin c.blocks).length 5]] 5,(PO.row 0 (ints c.regs) 1),(PO.row 0 ((twin c.blocks).map Blk.O) 5)],0,[]⟩)) (twin c.blocks).length (fun a ha=>HI (T:=T) (i:=i) (m:=m) hTg hSIs ha hc)
 have hl:=hl.trans (D3 (zU (T:=T) (i:=i) (m:=m) (c:=c)))
 have hl:evP ⟨A0,T,A3⟩ (.code (.loop Zh) [(1,.ptr 0 0 0),(3,.int .i64 (i:Int)),(4,.ptr 1 0 0),(5,.ptr 2 0 0),(6,.int .i64 0)] ⟨[.row 1 [.agg [fslN (m.gs.map Glo.F),fslN (m.fs.map Cod.F)]] 2,.row 1 [.agg [.str c.name,.int .i64 c.ty,.int .i64 c.ps,fslN (ints c.regs),fslN (c.blocks.map Blk.F)]] 5,PO.row 1 [.agg [.str c.name,.int .i64 c.ty,.int .i64 c.ps,.msl 3 0 c.regs.length 1,.msl 4 0 (twin c.blocks).length 5]] 5,(PO.row 0 (ints c.regs) 1),(PO.row 0 ((twin c.blocks).map Blk.O) 5)],0,[]⟩)=_:=hl
 have hln:decide (((twin c.blocks).length:Int)=(c.blocks.length:Int))=true:=by simp [(Tz c.blocks).1]
 unfold Zi pQ pP pO pN pM sL vC
 simp only [Modl.F,Cod.F,Cod.O,H9] at hi t1 t2 s1 ⊢
 simp -implicitDefEqProofs only [hl,hln,hlt,hw,hi,t1,t2,s1,s3,List.length_map,XP,seval]
theorem HK:∃ fr',evP ⟨A0,T,A3⟩ (.code Zi [(1,.ptr 0 0 0),(3,.int .i64 (m.fs.length:Int))] ⟨[.row 1 [m.F] 2],0,[]⟩)=some (.ok (.exit 0) fr' ⟨[.row 1 [m.F] 2],0,[]⟩):=by
 unfold Zi sL
 have hlt:decide ((m.fs.length:Int) < (m.fs.length:Int))=false:=by simp
 simp only [Modl.F]
 simp -implicitDefEqProofs only [hlt,List.length_map,XP,seval]
 exact ⟨_,rfl⟩
set_option maxHeartbeats 4000000 in
theorem Ac (hlaw15_Big:T 14=some x5) (hlaw19_works:T 15=some X4) (htwin_Twin:T 17=some M7) (hSameCode:T 19=some S8) (hSameInts:T 21=some N3) (hlaw19_targets:T 22=some J6) (hSameInstrs:T 23=some F9) {m:Modl} (hk:m.ok):AM.Comes ⟨A0,T,A3⟩ 4 [m.F] [.bool true]:=by
 refine ⟨[.bool true],⟨[],0,[]⟩,?_,B7 rfl List.nodup_nil rfl rfl rfl⟩
 rw [A8 (c:=p4) (nt:=162) (rs:=[.tmp 2]) rfl (by simp)]; unfold p4
 unfold K0
 have hfl:m.fs.length≤bigN:=by have:=hk.2.1; simp only [bigN] at this ⊢; omega
 have tb:=fun K=>aF (K:=K) hlaw15_Big hk
 have tw:=fun K=>Tx (K:=K) hlaw19_works
 unfold pT pS pR vB
 cases hb:m5 m with
 | true =>
  rw [hb] at tb
  simp only [Modl.F] at tb ⊢
  simp -implicitDefEqProofs only [tb,tw,XP,seval]
 | false =>
  rw [hb] at tb
  have hck:=Ty (Wz hb)
  have hl:=Z9 (P:=⟨A0,T,A3⟩) (c:=Zi) (fun i=>([(1,.ptr 0 0 0),(3,.int .i64 (i:Int))],⟨[.row 1 [m.F] 2],0,[]⟩)) m.fs.length (fun i h=>HJ htwin_Twin hSameCode hSameInts hlaw19_targets hSameInstrs h hfl (fH (hk.1 _ (List.getElem_mem h)) (hck _ (List.getElem_mem h))))
  obtain ⟨fr',h1⟩:=HK (T:=T) (m:=m)
  have hl:=hl.trans (D3 h1)
  have hl:evP ⟨A0,T,A3⟩ (.code (.loop Zi) [(1,.ptr 0 0 0),(3,.int .i64 0)] ⟨[.row 1 [m.F] 2],0,[]⟩)=_:=hl
  simp only [Modl.F] at tb hl ⊢
  simp -implicitDefEqProofs only [tb,tw,hl,XP,seval]
end
end Go.Proofs.AmEnv
namespace Go.Proofs.AmEnv
open Go Go.AM
open Go.ChangeShapes Go.WideShapes Go.ChangeAt
section
variable {H:Type} {enc:TypeId × Value->H} {P:Program} {W:World} {base:Nat} {spare:Nat->Bool} {held:Bool}
theorem J7 {E:Env} (hE:EnvOk E P) {t:Nat} {x:TI} (ht:E.ti t=some x):P.cellsOf t=x.size:=by
 obtain ⟨i,z,h1,h2,_⟩:=(hE.ti t x ht).info
 unfold Program.cellsOf
 rw [h1]; exact h2
theorem Bp {E:Env} (hE:EnvOk E P) {t:Nat} {x:TI} (ht:E.ti t=some x):P.bytesOf t=x.bytes:=by
 obtain ⟨i,z,h1,_,h2,_⟩:=(hE.ti t x ht).info
 unfold Program.bytesOf
 rw [h1]; exact h2
variable (hE:EnvOk A0 P)
include hE
theorem jW:P.underlying 3=some (.int .i64):=(hE.ti 3 Zm rfl).desc
theorem rP:P.underlying 9=some .string:=(hE.ti 9 xG rfl).desc
theorem tG:P.underlying 28=some (.slice 3):=(hE.ti 28 Tf rfl).desc
theorem jX:P.underlying 37=some (.slice 77):=(hE.ti 37 Wj rfl).desc
theorem jY:P.underlying 29=some (.slice 41):=(hE.ti 29 Wi rfl).desc
theorem nO:P.underlying 23=some (.slice 31):=(hE.ti 23 eQ rfl).desc
theorem nP:P.underlying 22=some (.slice 96):=(hE.ti 22 eP rfl).desc
theorem Bq:P.cellsOf 3=1:=J7 hE IR
theorem Ny:P.cellsOf 9=1:=J7 hE LR
theorem Nz:P.cellsOf 28=1:=J7 hE FW
theorem Oa:P.cellsOf 37=1:=J7 hE FY
theorem Xd:P.cellsOf 29=1:=J7 hE FX
theorem cR:P.cellsOf 23=1:=J7 hE FU
theorem Ua:P.cellsOf 22=1:=J7 hE FT
theorem cS:P.cellsOf 77=8:=J7 hE sT
theorem rQ:P.cellsOf 39=4:=J7 hE FZ
theorem cT:P.cellsOf 41=5:=J7 hE sR
theorem jZ:P.cellsOf 31=5:=J7 hE sQ
theorem kA:P.cellsOf 96=4:=J7 hE sU
theorem zV:P.cellsOf 25=2:=J7 hE FV
theorem Ci {m n:Nat} {cs:List Value} {d:DataW H} {ps:List MemPlace} (h:DataW.trod enc P W base spare held n 3 cs=some (d,ps)) (hw:Wt P 3 d):∃ s,O9 P (m + 1) 3 d=some s∧s.length=P.cellsOf 3∧∃ z,s=[.int .i64 z]:=by
 obtain ⟨z,rfl,e,_⟩:=DataW.trod_int (jW hE) h
 cases e
 refine ⟨[.int .i64 z],?_,by rw [Bq hE]; rfl,z,rfl⟩
 unfold O9
 rw [jW hE]
theorem Ub {m n:Nat} {cs:List Value} {d:DataW H} {ps:List MemPlace} (h:DataW.trod enc P W base spare held n 9 cs=some (d,ps)) (hw:Wt P 9 d):∃ s,O9 P (m + 1) 9 d=some s∧s.length=P.cellsOf 9∧∃ b,s=[.str b]∧b.length≤140737488355328:=by
 obtain ⟨b,rfl,e,_⟩:=DataW.trod_string (rP hE) h
 cases e
 refine ⟨[.str b.data.toList],?_,by rw [Ny hE]; rfl,_,rfl,?_⟩
 . unfold O9
   rw [rP hE]
 . have:=hw b.data.toList.length (by unfold DataW.weights; simp)
   exact Nat.le_trans this (by decide)
omit hE in
def aL (acs:List AV) (z:Int):Prop:=acs=[.int .i64 z]
theorem Xe {m n:Nat} {cs:List Value} {d:DataW H} {ps:List MemPlace} (h:DataW.trod enc P W base spare held n 28 cs=some (d,ps)) (hw:Wt P 28 d):∃ s,O9 P (m + 2) 28 d=some s∧s.length=P.cellsOf 28∧∃ v l,s=[v]∧Qg P 3 aL v l:=by
 obtain ⟨v,l,h1,h2⟩:=a8 (Q:=aL) (m:=m + 1) (tG hE) (by rw [Bq hE]; decide) (fun n cs d ps h hw=>by
  obtain ⟨s,h1,h2,z,rfl⟩:=Ci hE (m:=m) h hw
  exact ⟨_,z,h1,⟨h2,.inr rfl⟩,rfl⟩) h hw
 exact ⟨[v],h1,by rw [Nz hE]; rfl,v,l,rfl,h2⟩
omit hE in
def Dz (P:Program) (acs:List AV) (I:Ins):Prop:=∃ av,acs=[.int .i64 I.op,.int .i64 I.ty,.int .i64 I.dst,.int .i64 I.a,.int .i64 I.b,.int .i64 I.n,.str I.s,av]∧Qg P 3 aL av I.args∧I.s.length≤140737488355328
omit hE in
theorem HL {ss:List (List AV)} (h:ss.length=8):∃ a b c d e f g i,ss=[a,b,c,d,e,f,g,i]:=by
 match ss,h with
 | [a,b,c,d,e,f,g,i],_=>exact ⟨a,b,c,d,e,f,g,i,rfl⟩
theorem fL {m n:Nat} {cs:List Value} {d:DataW H} {ps:List MemPlace} (h:DataW.trod enc P W base spare held n 77 cs=some (d,ps)) (hw:Wt P 77 d):∃ acs I,O9 P (m + 3) 77 d=some acs∧(acs.length=P.cellsOf 77∧(c6 P 77=true∨acs.length=1))∧Dz P acs I:=by
 obtain ⟨fs,hu,hm,_⟩:=(hE.ti 77 c8 rfl).desc
 have hm:fs.toList.map (fun f=>(f.type,f.offset))=[(3,0),(3,1),(3,2),(3,3),(3,4),(3,5),(9,6),(28,7)]:=hm
 obtain ⟨ss,h1,h2,h3,h4⟩:=U0 (m:=m + 2) (Qs:=fun i s=>(i < 6->∃ z,s=[.int .i64 z])∧(i=6->∃ b,s=[.str b]∧b.length≤140737488355328)∧(i=7->∃ v l,s=[v]∧Qg P 3 aL v l)) hu hm
  (by simp only [Gz,Bq hE,Ny hE,Nz hE,and_self]) (by simp only [cS hE,List.map_cons,List.map_nil,List.sum_cons,List.sum_nil,Nat.reduceAdd,Bq hE,Ny hE,Nz hE])
  (fun i ty off hL n cs d ps h hw=>by
    rcases i with _ | _ | _ | _ | _ | _ | _ | _ | i
    iterate 6
     . cases hL
       obtain ⟨s,k1,k2,k3⟩:=Ci hE (m:=m + 1) h hw
       exact ⟨s,k1,k2,fun _=>k3,fun hh=>by omega,fun hh=>by omega⟩
    . cases hL
      obtain ⟨s,k1,k2,k3⟩:=Ub hE (m:=m + 1) h hw
      exact ⟨s,k1,k2,fun hh=>by omega,fun _=>k3,fun hh=>by omega⟩
    . cases hL
      obtain ⟨s,k1,k2,k3⟩:=Xe hE (m:=m) h hw
      exact ⟨s,k1,k2,fun hh=>by omega,fun hh=>by omega,fun _=>k3⟩
    . simp at hL) h hw
 obtain ⟨a,b,c,e,f,g,s6,s7,rfl⟩:=HL h3
 obtain ⟨z0,rfl⟩:=(h4 0 _ rfl).1 (by omega)
 obtain ⟨z1,rfl⟩:=(h4 1 _ rfl).1 (by omega)
 obtain ⟨z2,rfl⟩:=(h4 2 _ rfl).1 (by omega)
 obtain ⟨z3,rfl⟩:=(h4 3 _ rfl).1 (by omega)
 obtain ⟨z4,rfl⟩:=(h4 4 _ rfl).1 (by omega)
 obtain ⟨z5,rfl⟩:=(h4 5 _ rfl).1 (by omega)
 obtain ⟨b6,rfl,hb6⟩:=(h4 6 _ rfl).2.1 rfl
 obtain ⟨v,l,rfl,hv⟩:=(h4 7 _ rfl).2.2 rfl
 exact ⟨_,⟨z0,z1,z2,z3,z4,z5,b6,l⟩,h1,⟨h2,.inl (by unfold c6; rw [hu])⟩,v,rfl,hv,hb6⟩
omit hE in
def Ea (P:Program) (acs:List AV) (B:Blk):Prop:=∃ cv,acs=[cv,.int .i64 B.e.kind,.int .i64 B.e.a,.int .i64 B.e.to,.int .i64 B.e.els]∧Qg P 77 (Dz P) cv B.code
theorem aM {m n:Nat} {cs:List Value} {d:DataW H} {ps:List MemPlace} (h:DataW.trod enc P W base spare held n 37 cs=some (d,ps)) (hw:Wt P 37 d):∃ s,O9 P (m + 4) 37 d=some s∧s.length=P.cellsOf 37∧∃ v l,s=[v]∧Qg P 77 (Dz P) v l:=by
 obtain ⟨v,l,h1,h2⟩:=a8 (Q:=Dz P) (m:=m + 3) (jX hE) (by rw [cS hE]; decide) (fun n cs d ps h hw=>fL hE h hw) h hw
 exact ⟨[v],h1,by rw [Oa hE]; rfl,v,l,rfl,h2⟩
theorem nQ {m n:Nat} {cs:List Value} {d:DataW H} {ps:List MemPlace} (h:DataW.trod enc P W base spare held n 39 cs=some (d,ps)) (hw:Wt P 39 d):∃ s,O9 P (m + 2) 39 d=some s∧s.length=P.cellsOf 39∧∃ x y z w,s=[.int .i64 x,.int .i64 y,.int .i64 z,.int .i64 w]:=by
 obtain ⟨fs,hu,hm,_⟩:=(hE.ti 39 Bd rfl).desc
 have hm:fs.toList.map (fun f=>(f.type,f.offset))=[(3,0),(3,1),(3,2),(3,3)]:=hm
 obtain ⟨ss,h1,h2,h3,h4⟩:=U0 (m:=m + 1) (Qs:=fun i s=>∃ z,s=[.int .i64 z]) hu hm
  (by simp only [Gz,Bq hE,and_self]) (by simp only [rQ hE,List.map_cons,List.map_nil,List.sum_cons,List.sum_nil,Nat.reduceAdd,Bq hE])
  (fun i ty off hL n cs d ps h hw=>by
    rcases i with _ | _ | _ | _ | i
    iterate 4
     . cases hL
       exact Ci hE (m:=m) h hw
    . simp at hL) h hw
 match ss,h3 with
 | [a,b,c,e],_ =>
  obtain ⟨z0,rfl⟩:=h4 0 _ rfl
  obtain ⟨z1,rfl⟩:=h4 1 _ rfl
  obtain ⟨z2,rfl⟩:=h4 2 _ rfl
  obtain ⟨z3,rfl⟩:=h4 3 _ rfl
  exact ⟨_,h1,h2,z0,z1,z2,z3,rfl⟩
theorem fM {m n:Nat} {cs:List Value} {d:DataW H} {ps:List MemPlace} (h:DataW.trod enc P W base spare held n 41 cs=some (d,ps)) (hw:Wt P 41 d):∃ acs B,O9 P (m + 5) 41 d=some acs∧(acs.length=P.cellsOf 41∧(c6 P 41=true∨acs.length=1))∧Ea P acs B:=by
 obtain ⟨fs,hu,hm,_⟩:=(hE.ti 41 Aa rfl).desc
 have hm:fs.toList.map (fun f=>(f.type,f.offset))=[(37,0),(39,1)]:=hm
 obtain ⟨ss,h1,h2,h3,h4⟩:=U0 (m:=m + 4) (Qs:=fun i s=>(i=0->∃ v l,s=[v]∧Qg P 77 (Dz P) v l)∧(i=1->∃ x y z w,s=[.int .i64 x,.int .i64 y,.int .i64 z,.int .i64 w])) hu hm
  (by simp only [Gz,Oa hE,and_self]) (by simp only [cT hE,List.map_cons,List.map_nil,List.sum_cons,List.sum_nil,Nat.reduceAdd,Oa hE,rQ hE])
  (fun i ty off hL n cs d ps h hw=>by
    rcases i with _ | _ | i
    . cases hL
      obtain ⟨s,k1,k2,k3⟩:=aM hE (m:=m) h hw
      exact ⟨s,k1,k2,fun _=>k3,fun hh=>by omega⟩
    . cases hL
      obtain ⟨s,k1,k2,k3⟩:=nQ hE (m:=m + 2) h hw
      exact ⟨s,k1,k2,fun hh=>by omega,fun _=>k3⟩
    . simp at hL) h hw
 match ss,h3 with
 | [a,b],_ =>
  obtain ⟨v,l,rfl,hv⟩:=(h4 0 _ rfl).1 rfl
  obtain ⟨x,y,z,w,rfl⟩:=(h4 1 _ rfl).2 rfl
  exact ⟨_,⟨l,⟨x,y,z,w⟩⟩,h1,⟨h2,.inl (by unfold c6; rw [hu])⟩,v,rfl,hv⟩
theorem aN {m n:Nat} {cs:List Value} {d:DataW H} {ps:List MemPlace} (h:DataW.trod enc P W base spare held n 29 cs=some (d,ps)) (hw:Wt P 29 d):∃ s,O9 P (m + 6) 29 d=some s∧s.length=P.cellsOf 29∧∃ v l,s=[v]∧Qg P 41 (Ea P) v l:=by
 obtain ⟨v,l,h1,h2⟩:=a8 (Q:=Ea P) (m:=m + 5) (jY hE) (by rw [cT hE]; decide) (fun n cs d ps h hw=>fM hE h hw) h hw
 exact ⟨[v],h1,by rw [Xd hE]; rfl,v,l,rfl,h2⟩
omit hE in
def Ri (P:Program) (acs:List AV) (C:Cod):Prop:=∃ rv bv,acs=[.str C.name,.int .i64 C.ty,.int .i64 C.ps,rv,bv]∧Qg P 3 aL rv C.regs∧Qg P 41 (Ea P) bv C.blocks
theorem kB {m n:Nat} {cs:List Value} {d:DataW H} {ps:List MemPlace} (h:DataW.trod enc P W base spare held n 31 cs=some (d,ps)) (hw:Wt P 31 d):∃ acs C,O9 P (m + 7) 31 d=some acs∧(acs.length=P.cellsOf 31∧(c6 P 31=true∨acs.length=1))∧Ri P acs C:=by
 obtain ⟨fs,hu,hm,_⟩:=(hE.ti 31 Bc rfl).desc
 have hm:fs.toList.map (fun f=>(f.type,f.offset))=[(9,0),(3,1),(3,2),(28,3),(29,4)]:=hm
 obtain ⟨ss,h1,h2,h3,h4⟩:=U0 (m:=m + 6) (Qs:=fun i s=>(i=0->∃ b,s=[.str b]∧b.length≤140737488355328)∧((i=1∨i=2)->∃ z,s=[.int .i64 z])∧(i=3->∃ v l,s=[v]∧Qg P 3 aL v l)∧(i=4->∃ v l,s=[v]∧Qg P 41 (Ea P) v l)) hu hm
  (by simp only [Gz,Bq hE,Ny hE,Nz hE,and_self]) (by simp only [jZ hE,List.map_cons,List.map_nil,List.sum_cons,List.sum_nil,Nat.reduceAdd,Bq hE,Ny hE,Nz hE,Xd hE])
  (fun i ty off hL n cs d ps h hw=>by
    rcases i with _ | _ | _ | _ | _ | i
    . cases hL
      obtain ⟨s,k1,k2,k3⟩:=Ub hE (m:=m + 5) h hw
      exact ⟨s,k1,k2,fun _=>k3,fun hh=>by omega,fun hh=>by omega,fun hh=>by omega⟩
    . cases hL
      obtain ⟨s,k1,k2,k3⟩:=Ci hE (m:=m + 5) h hw
      exact ⟨s,k1,k2,fun hh=>by omega,fun _=>k3,fun hh=>by omega,fun hh=>by omega⟩
    . cases hL
      obtain ⟨s,k1,k2,k3⟩:=Ci hE (m:=m + 5) h hw
      exact ⟨s,k1,k2,fun hh=>by omega,fun _=>k3,fun hh=>by omega,fun hh=>by omega⟩
    . cases hL
      obtain ⟨s,k1,k2,k3⟩:=Xe hE (m:=m + 4) h hw
      exact ⟨s,k1,k2,fun hh=>by omega,fun hh=>by omega,fun _=>k3,fun hh=>by omega⟩
    . cases hL
      obtain ⟨s,k1,k2,k3⟩:=aN hE (m:=m) h hw
      exact ⟨s,k1,k2,fun hh=>by omega,fun hh=>by omega,fun hh=>by omega,fun _=>k3⟩
    . simp at hL) h hw
 match ss,h3 with
 | [a,b,c,e,f],_ =>
  obtain ⟨b0,rfl,_⟩:=(h4 0 _ rfl).1 rfl
  obtain ⟨z1,rfl⟩:=(h4 1 _ rfl).2.1 (.inl rfl)
  obtain ⟨z2,rfl⟩:=(h4 2 _ rfl).2.1 (.inr rfl)
  obtain ⟨v3,l3,rfl,hv3⟩:=(h4 3 _ rfl).2.2.1 rfl
  obtain ⟨v4,l4,rfl,hv4⟩:=(h4 4 _ rfl).2.2.2 rfl
  exact ⟨_,⟨b0,z1,z2,l3,l4⟩,h1,⟨h2,.inl (by unfold c6; rw [hu])⟩,v3,v4,rfl,hv3,hv4⟩
omit hE in
def Xf (acs:List AV) (G:Glo):Prop:=acs=[.str G.name,.int .i64 G.ty,.int .i64 G.size,.int .i64 G.at_]
theorem kC {m n:Nat} {cs:List Value} {d:DataW H} {ps:List MemPlace} (h:DataW.trod enc P W base spare held n 96 cs=some (d,ps)) (hw:Wt P 96 d):∃ acs G,O9 P (m + 2) 96 d=some acs∧(acs.length=P.cellsOf 96∧(c6 P 96=true∨acs.length=1))∧Xf acs G:=by
 obtain ⟨fs,hu,hm,_⟩:=(hE.ti 96 Mu rfl).desc
 have hm:fs.toList.map (fun f=>(f.type,f.offset))=[(9,0),(3,1),(3,2),(3,3)]:=hm
 obtain ⟨ss,h1,h2,h3,h4⟩:=U0 (m:=m + 1) (Qs:=fun i s=>(i=0->∃ b,s=[.str b]∧b.length≤140737488355328)∧(0 < i->∃ z,s=[.int .i64 z])) hu hm
  (by simp only [Gz,Bq hE,Ny hE,and_self]) (by simp only [kA hE,List.map_cons,List.map_nil,List.sum_cons,List.sum_nil,Nat.reduceAdd,Bq hE,Ny hE])
  (fun i ty off hL n cs d ps h hw=>by
    rcases i with _ | _ | _ | _ | i
    . cases hL
      obtain ⟨s,k1,k2,k3⟩:=Ub hE (m:=m) h hw
      exact ⟨s,k1,k2,fun _=>k3,fun hh=>by omega⟩
    iterate 3
     . cases hL
       obtain ⟨s,k1,k2,k3⟩:=Ci hE (m:=m) h hw
       exact ⟨s,k1,k2,fun hh=>by omega,fun _=>k3⟩
    . simp at hL) h hw
 match ss,h3 with
 | [a,b,c,e],_ =>
  obtain ⟨b0,rfl,_⟩:=(h4 0 _ rfl).1 rfl
  obtain ⟨z1,rfl⟩:=(h4 1 _ rfl).2 (by omega)
  obtain ⟨z2,rfl⟩:=(h4 2 _ rfl).2 (by omega)
  obtain ⟨z3,rfl⟩:=(h4 3 _ rfl).2 (by omega)
  exact ⟨_,⟨b0,z1,z2,z3⟩,h1,⟨h2,.inl (by unfold c6; rw [hu])⟩,rfl⟩
theorem nR {n:Nat} {cs:List Value} {d:DataW H} {ps:List MemPlace} (h:DataW.trod enc P W base spare held n 25 cs=some (d,ps)) (hw:Wt P 25 d):∃ gv fv,∃ M:Modl,O9 P 9 25 d=some [gv,fv]∧Qg P 96 Xf gv M.gs∧Qg P 31 (Ri P) fv M.fs:=by
 obtain ⟨fs,hu,hm,_⟩:=(hE.ti 25 Wh rfl).desc
 have hm:fs.toList.map (fun f=>(f.type,f.offset))=[(22,0),(23,1)]:=hm
 obtain ⟨ss,h1,h2,h3,h4⟩:=U0 (m:=8) (Qs:=fun i s=>(i=0->∃ v l,s=[v]∧Qg P 96 Xf v l)∧(i=1->∃ v l,s=[v]∧Qg P 31 (Ri P) v l)) hu hm
  (by simp only [Gz,Ua hE,and_self]) (by simp only [zV hE,List.map_cons,List.map_nil,List.sum_cons,List.sum_nil,Nat.reduceAdd,Ua hE,cR hE])
  (fun i ty off hL n cs d ps h hw=>by
    rcases i with _ | _ | i
    . cases hL
      obtain ⟨v,l,k1,k2⟩:=a8 (Q:=Xf) (m:=7) (nP hE) (by rw [kA hE]; decide) (fun n cs d ps h hw=>kC hE (m:=5) h hw) h hw
      exact ⟨[v],k1,by rw [Ua hE]; rfl,fun _=>⟨v,l,rfl,k2⟩,fun hh=>by omega⟩
    . cases hL
      obtain ⟨v,l,k1,k2⟩:=a8 (Q:=Ri P) (m:=7) (nO hE) (by rw [jZ hE]; decide) (fun n cs d ps h hw=>kB hE (m:=0) h hw) h hw
      exact ⟨[v],k1,by rw [cR hE]; rfl,fun hh=>by omega,fun _=>⟨v,l,rfl,k2⟩⟩
    . simp at hL) h hw
 match ss,h3 with
 | [a,b],_ =>
  obtain ⟨v0,l0,rfl,hv0⟩:=(h4 0 _ rfl).1 rfl
  obtain ⟨v1,l1,rfl,hv1⟩:=(h4 1 _ rfl).2 rfl
  exact ⟨v0,v1,⟨l0,l1⟩,h1,hv0,hv1⟩
omit hE in
theorem Uc {t:TypeId} {acs:List AV} (h:c6 P t=true):seeV P t acs=.agg acs:=by unfold seeV; rw [h]; rfl
theorem rR:P.bytesOf 3=8:=Bp hE IR
theorem nS:P.bytesOf 77=88:=Bp hE sT
theorem nT:P.bytesOf 41=56:=Bp hE sR
theorem tH:P.bytesOf 31=80:=Bp hE sQ
theorem tI:P.bytesOf 96=40:=Bp hE sU
theorem nU {t:TypeId} {x:TI} {L:List (Nat × Nat)} {fl:Bool} (ht:A0.ti t=some x) (hd:x.desc=.struct L fl):c6 P t=true:=by
 have h:=(hE.ti t x ht).desc
 unfold G8 at h
 rw [hd] at h
 obtain ⟨fs,hu,_⟩:=h
 unfold c6
 rw [hu]
theorem HM:c6 P 3=false:=by unfold c6; rw [jW hE]
theorem kD {v:AV} {l:List Int} (hq:Qg P 3 aL v l) {Z:Nat->Prop} {h:Heap}:Fz Z h v (fslN (ints l)):=hq.fz fun r X hr=>by
 have hr:r=[.int .i64 X]:=hr
 subst hr
 have:seeV P 3 [.int .i64 X]=.int .i64 X:=by unfold seeV; rw [HM hE]; rfl
 rw [this]; exact .int _ _
omit hE in
theorem Xg {Z:Nat->Prop} {h:Heap} {xs ys:List AV} (hl:xs.length=ys.length) (hc:ys.all clo=true) (hz:∀ p∈xs.zip ys,Fz Z h p.1 p.2):Fz Z h (.agg xs) (.agg ys):=by
 refine .agg hl (fun i x y hx hy=>hz (x,y) ?_) hc
 exact List.mem_of_getElem? (i:=i) (by rw [List.getElem?_zip_eq_some]; exact ⟨hx,hy⟩)
theorem nV {acs:List AV} {I:Ins} (hq:Dz P acs I) {Z:Nat->Prop} {h:Heap}:Fz Z h (seeV P 77 acs) I.F:=by
 obtain ⟨av,rfl,h1,_⟩:=hq
 rw [Uc (nU hE sT rfl)]
 refine Xg rfl rfl fun p hp=>?_
 simp only [List.zip_cons_cons,List.zip_nil_left,List.mem_cons,List.not_mem_nil,or_false] at hp
 rcases hp with rfl | rfl | rfl | rfl | rfl | rfl | rfl | rfl
 iterate 6
  . exact .int _ _
 . exact .str _
 . exact kD hE h1
theorem nW {acs:List AV} {B:Blk} (hq:Ea P acs B) {Z:Nat->Prop} {h:Heap}:Fz Z h (seeV P 41 acs) B.F:=by
 obtain ⟨av,rfl,h1⟩:=hq
 rw [Uc (nU hE sR rfl)]
 refine Xg rfl rfl fun p hp=>?_
 simp only [List.zip_cons_cons,List.zip_nil_left,List.mem_cons,List.not_mem_nil,or_false] at hp
 rcases hp with rfl | rfl | rfl | rfl | rfl
 . exact h1.fz fun r X hr=>nV hE hr
 iterate 4
  . exact .int _ _
theorem tJ {acs:List AV} {C:Cod} (hq:Ri P acs C) {Z:Nat->Prop} {h:Heap}:Fz Z h (seeV P 31 acs) C.F:=by
 obtain ⟨rv,bv,rfl,h1,h2⟩:=hq
 rw [Uc (nU hE sQ rfl)]
 refine Xg rfl rfl fun p hp=>?_
 simp only [List.zip_cons_cons,List.zip_nil_left,List.mem_cons,List.not_mem_nil,or_false] at hp
 rcases hp with rfl | rfl | rfl | rfl | rfl
 . exact .str _
 . exact .int _ _
 . exact .int _ _
 . exact kD hE h1
 . exact h2.fz fun r X hr=>nW hE hr
theorem tK {acs:List AV} {G:Glo} (hq:Xf acs G) {Z:Nat->Prop} {h:Heap}:Fz Z h (seeV P 96 acs) G.F:=by
 have hq:acs=_:=hq
 subst hq
 rw [Uc (nU hE sU rfl)]
 refine Xg rfl rfl fun p hp=>?_
 simp only [List.zip_cons_cons,List.zip_nil_left,List.mem_cons,List.not_mem_nil,or_false] at hp
 rcases hp with rfl | rfl | rfl | rfl
 . exact .str _
 iterate 3
  . exact .int _ _
theorem Ib {n b k:Nat} (h:n * b≤reachBytes) (hb:b=k):n * k≤bigN:=by
 subst hb
 exact Nat.le_trans h (by decide)
theorem kE {acs:List AV} {I:Ins} (hq:Dz P acs I):I.sok:=by
 obtain ⟨av,_,h1,h2⟩:=hq
 exact ⟨Ib hE h1.2 (rR hE),h2⟩
theorem kF {acs:List AV} {B:Blk} (hq:Ea P acs B):B.sok:=by
 obtain ⟨av,_,h1⟩:=hq
 have hx:∀ x∈B.code,x.sok:=fun x hx=>by
  obtain ⟨r,hr⟩:=h1.mem hx
  exact kE hE hr
 exact ⟨⟨fun x h=>(hx x h).1,Ib hE h1.2 (nS hE)⟩,hx⟩
theorem nX {acs:List AV} {C:Cod} (hq:Ri P acs C):C.sok:=by
 obtain ⟨rv,bv,_,h1,h2⟩:=hq
 have hx:∀ x∈C.blocks,x.sok:=fun x hx=>by
  obtain ⟨r,hr⟩:=h2.mem hx
  exact kF hE hr
 exact ⟨⟨Ib hE h1.2 (rR hE),fun x h=>(hx x h).1,Ib hE h2.2 (nT hE)⟩,hx⟩
theorem mod_see {n:Nat} {cs:List Value} {d:DataW H} {ps:List MemPlace} (h:DataW.trod enc P W base spare held n 25 cs=some (d,ps)) (hw:Wt P 25 d):∃ acs,∃ M:Modl,O9 P 9 25 d=some acs∧acs.length=2∧(∀ Z h,Fz Z h (.agg acs) M.F)∧M.ok:=by
 obtain ⟨gv,fv,M,h1,h2,h3⟩:=nR hE h hw
 refine ⟨[gv,fv],M,h1,rfl,fun Z h=>?_,fun C hC=>?_,?_,Ib hE h2.2 (tI hE)⟩
 . refine Xg rfl rfl fun p hp=>?_
   simp only [List.zip_cons_cons,List.zip_nil_left,List.mem_cons,List.not_mem_nil,or_false] at hp
   rcases hp with rfl | rfl
   . exact h2.fz fun r X hr=>tK hE hr
   . exact h3.fz fun r X hr=>tJ hE hr
 . obtain ⟨r,hr⟩:=h3.mem hC
   exact nX hE hr
 . have:=Ib hE h3.2 (tH hE)
   simp only [bigN] at this ⊢
   omega
end
end Go.Proofs.AmEnv
namespace Go.AM
theorem kG {E:Env} {f:Nat} {args:List AV} {h:Heap} (hg:E.gc f=false) (ht:E.told f=true):callω E f args h=toldA args h:=by
 refine (Cj (E:=E) f args h).unique ?_
 have e:∀ m,E9 E (ev E m) f args h=toldA args h:=fun m=>by
  unfold E9
  rw [hg]
  show L4 E (ev E m) f args h=_
  unfold L4
  rw [ht]; rfl
 simp only [e]
 exact .const
end Go.AM
namespace Go.Proofs.AmEnv
open Go Go.AM
theorem Xh (hg:A0.gc 245=false) (ht:A0.told 245=true):TC A0 245 N4:=by
 intro args rs hgc Z h xs hl hz hb
 unfold N4 at hgc
 split at hgc
 . rename_i s p
   split at hgc
   . rename_i hs
     cases hgc
     match xs,hl with
     | [x,y],_ =>
      have h0:=hz 0 x (.str s) rfl rfl
      have h1:=hz 1 y (.str p) rfl rfl
      cases h0; cases h1
      refine ⟨[.bool (contS p s)],h,Z,fun _=>none,?_,AP hb,VL.cons (.fz (.bool _)) VL.nil,Nat.le_refl _,fun id hz=>⟨hz,rfl⟩,fun id hz=>.inl hz,fun id _=>rfl,fun id L e=>(by cases e),[],rfl,fun id hi=>(List.not_mem_nil hi).elim⟩
      rw [kG hg ht]
      show (bif Nat.ble (V3 s) 4000000000 || oneB p then (match contS p s with | true=>Res.ok (.bool true) h | false=>.ok (.bool false) h) else .bad)=_
      have hs:(Nat.ble (V3 s) 4000000000 || oneB p)=true:=hs
      rw [hs]
      cases contS p s <;> rfl
   . cases hgc
 . cases hgc
end Go.Proofs.AmEnv
set_option maxRecDepth 100000
namespace Go.Proofs.AmEnv
open Go Go.AM
def I9 (T:Nat->Option (List AV->Option (List AV))) (f:Nat) (g:List AV->Option (List AV)) (k:Nat):Option (List AV->Option (List AV)):=bif Nat.beq k f then some g else T k
theorem C0 {E:Env} {T:Nat->Option (List AV->Option (List AV))} {F:Nat->Option PFn} {f:Nat} {g:List AV->Option (List AV)} (hP:PEok ⟨E,T,F⟩) (h:TC E f g):PEok ⟨E,I9 T f g,F⟩:=by
 refine ⟨hP.gl,hP.ti,fun k q e=>?_,hP.fn⟩
 have e:(bif Nat.beq k f then some g else T k)=some q:=e
 cases hb:Nat.beq k f with
 | true=>rw [hb] at e; cases e; rw [Nat.eq_of_beq_eq_true hb]; exact h
 | false=>rw [hb] at e; exact hP.T k q e
def T0 (k:Nat):Option (List AV->Option (List AV)):=none
section
variable (hP:PEok ⟨A0,T0,A3⟩)
include hP
omit hP in
def T1:=I9 T0 21 N3
theorem P1:PEok ⟨A0,T1,A3⟩:=C0 hP (C8 hP fun p h=>Mv (by simp only [bigN] at h ⊢; omega))
omit hP in
def T2:=I9 T1 78 F1
theorem P2:PEok ⟨A0,T2,A3⟩:=C0 (P1 hP) (C8 (P1 hP) fun p h=>Js rfl h)
omit hP in
def T3:=I9 T2 23 F9
theorem P3:PEok ⟨A0,T3,A3⟩:=C0 (P2 hP) (C8 (P2 hP) fun p h=>Ho rfl h.1 h.2)
omit hP in
def T4:=I9 T3 75 j2
theorem P4:PEok ⟨A0,T4,A3⟩:=C0 (P3 hP) (C8 (P3 hP) fun p h=>Hp rfl h.1 h.2)
omit hP in
def T5:=I9 T4 19 S8
theorem P5:PEok ⟨A0,T5,A3⟩:=C0 (P4 hP) (C8 (P4 hP) fun p h=>My rfl rfl h)
omit hP in
def T6:=I9 T5 70 G9
theorem P6:PEok ⟨A0,T6,A3⟩:=C0 (P5 hP) (jD (P5 hP) rfl)
omit hP in
def T7:=I9 T6 72 X2
theorem P7:PEok ⟨A0,T7,A3⟩:=C0 (P6 hP) (eU (P6 hP) rfl)
omit hP in
def T8:=I9 T7 71 w7
theorem P8:PEok ⟨A0,T8,A3⟩:=C0 (P7 hP) (eV (P7 hP) rfl)
omit hP in
def T9:=I9 T8 262 N3
theorem P9:PEok ⟨A0,T9,A3⟩:=C0 (P8 hP) (C8 (P8 hP) fun p h=>Wo h)
omit hP in
def IT:=I9 T9 242 F1
theorem IU:PEok ⟨A0,IT,A3⟩:=C0 (P9 hP) (C8 (P9 hP) fun p h=>Jt rfl h)
omit hP in
def IV:=I9 IT 218 R5
theorem LS:PEok ⟨A0,IV,A3⟩:=C0 (IU hP) (C8 (IU hP) fun p h=>Wp rfl rfl h)
omit hP in
def IW:=I9 IV 245 N4
theorem IX:PEok ⟨A0,IW,A3⟩:=C0 (LS hP) (Xh rfl rfl)
omit hP in
def IY:=I9 IW 111 K6
theorem IZ:PEok ⟨A0,IY,A3⟩:=C0 (IX hP) (Ti (IX hP))
omit hP in
def JA:=I9 IY 225 G3
theorem JB:PEok ⟨A0,JA,A3⟩:=C0 (IZ hP) (Wq (IZ hP))
omit hP in
def JC:=I9 JA 249 Be
theorem JD:PEok ⟨A0,JC,A3⟩:=C0 (JB hP) (Zt (JB hP))
omit hP in
def JE:=I9 JC 182 M6
theorem JF:PEok ⟨A0,JE,A3⟩:=C0 (JD hP) (Tj (JD hP))
omit hP in
def JG:=I9 JE 175 C2
theorem JH:PEok ⟨A0,JG,A3⟩:=C0 (JF hP) (Bf rfl (JF hP))
omit hP in
def JI:=I9 JG 178 I4
theorem JJ:PEok ⟨A0,JI,A3⟩:=C0 (JH hP) (Nf (JH hP))
omit hP in
def JK:=I9 JI 108 S7
theorem JL:PEok ⟨A0,JK,A3⟩:=C0 (JJ hP) (Tk (JJ hP))
omit hP in
def JM:=I9 JK 170 o8
theorem JN:PEok ⟨A0,JM,A3⟩:=C0 (JL hP) (Wr rfl (JL hP))
omit hP in
def JO:=I9 JM 264 Bg
theorem JP:PEok ⟨A0,JO,A3⟩:=C0 (JN hP) (Zx (JN hP))
omit hP in
def JQ:=I9 JO 246 X8
theorem JR:PEok ⟨A0,JQ,A3⟩:=C0 (JP hP) (Ws rfl (JP hP))
omit hP in
def JS:=I9 JQ 113 Y8
theorem JT:PEok ⟨A0,JS,A3⟩:=C0 (JR hP) (Tl rfl rfl (JR hP))
omit hP in
def JU:=I9 JS 222 Bh
theorem JV:PEok ⟨A0,JU,A3⟩:=C0 (JT hP) (Zz rfl (JT hP))
omit hP in
def JW:=I9 JU 247 D1
theorem JX:PEok ⟨A0,JW,A3⟩:=C0 (JV hP) (Bi rfl (JV hP))
omit hP in
def JY:=I9 JW 223 H4
theorem JZ:PEok ⟨A0,JY,A3⟩:=C0 (JX hP) (Bk rfl rfl rfl rfl rfl rfl (JX hP))
omit hP in
def KA:=I9 JY 224 I5
theorem KB:PEok ⟨A0,KA,A3⟩:=C0 (JZ hP) (Cp rfl rfl rfl rfl (JZ hP))
omit hP in
def KC:=I9 KA 176 C1
theorem KD:PEok ⟨A0,KC,A3⟩:=C0 (KB hP) (Cq rfl rfl rfl (KB hP))
omit hP in
def KE:=I9 KC 177 G4
theorem KF:PEok ⟨A0,KE,A3⟩:=C0 (KD hP) (Fu rfl (KD hP))
omit hP in
def KG:=I9 KE 112 F3
theorem KH:PEok ⟨A0,KG,A3⟩:=C0 (KF hP) (Dw rfl rfl rfl rfl rfl (KF hP))
omit hP in
def KI:=I9 KG 40 r8
theorem KJ:PEok ⟨A0,KI,A3⟩:=C0 (KH hP) (Wu rfl rfl rfl (KH hP))
omit hP in
def KK:=I9 KI 39 Z3
theorem KL:PEok ⟨A0,KK,A3⟩:=C0 (KJ hP) (Tq (KJ hP))
omit hP in
def KM:=I9 KK 14 x5
theorem KN:PEok ⟨A0,KM,A3⟩:=C0 (KL hP) (Ts rfl rfl (KL hP))
omit hP in
def KO:=I9 KM 157 F5
theorem KP:PEok ⟨A0,KO,A3⟩:=C0 (KN hP) (Nq rfl rfl rfl (KN hP))
omit hP in
def KQ:=I9 KO 17 M7
theorem KR:PEok ⟨A0,KQ,A3⟩:=C0 (KP hP) (Tv rfl rfl rfl rfl rfl rfl (KP hP))
omit hP in
def KS:=I9 KQ 66 U7
theorem KT:PEok ⟨A0,KS,A3⟩:=C0 (KR hP) (Pz (KR hP))
omit hP in
def KU:=I9 KS 67 U8
theorem KV:PEok ⟨A0,KU,A3⟩:=C0 (KT hP) (Qa (KT hP))
omit hP in
def KW:=I9 KU 68 U9
theorem KX:PEok ⟨A0,KW,A3⟩:=C0 (KV hP) (Qb (KV hP))
omit hP in
def KY:=I9 KW 65 V0
theorem KZ:PEok ⟨A0,KY,A3⟩:=C0 (KX hP) (Qc (KX hP))
omit hP in
def LA:=I9 KY 15 X4
theorem LB:PEok ⟨A0,LA,A3⟩:=C0 (KZ hP) (Nt rfl rfl rfl rfl rfl rfl (KZ hP))
omit hP in
def LC:=I9 LA 22 J6
theorem LT:PEok ⟨A0,LC,A3⟩:=C0 (LB hP) (Hz (LB hP))
omit hP in
end
end Go.Proofs.AmEnv
set_option maxRecDepth 100000
namespace Go.Proofs.AmEnv
open Go Go.AM
theorem nY {f:Nat} {T:Nat->Option (List AV->Option (List AV))} (hP:PEok ⟨A0,T,A3⟩) {a x:AV} (H:AM.Comes ⟨A0,T,A3⟩ f [a] [.bool true]) (hz:∀ Z h,Fz Z h x a):∃ h',callω A0 f [x] Heap.empty=.ok (.bool true) h':=by
 obtain ⟨vcs,h1,Z1,ow1,e,_,l,_⟩:=By hP H (Z:=fun _=>False) (h:=Heap.empty) (xs:=[x]) rfl (fun i u v hu hv=>by
  cases i with
  | zero=>cases hu; cases hv; exact hz _ _
  | succ i=>simp at hu) (fun id h=>h.elim)
 have l:VL Z1 ow1 h1 (openTs 0 [AV.bool true]).2 vcs [.bool true]:=l
 match vcs,l.1 with
 | [v],_ =>
  have hv:=l.2 0 v (.bool true) rfl rfl
  have:v=.bool true:=by
   cases hv with
   | fz h=>cases h; rfl
  subst this
  exact ⟨h1,e⟩
theorem TwinFirst_ok (hP:PEok ⟨A0,T0,A3⟩) {m:Modl} (hm:m.ok) {x:AV} (hz:∀ Z h,Fz Z h x m.F):∃ h',callω A0 4 [x] Heap.empty=.ok (.bool true) h':=nY (LT hP) (Ac (T:=LC) rfl rfl rfl rfl rfl rfl rfl hm) hz
end Go.Proofs.AmEnv
