/- What this program's functions do, at any data. Conditions: none. -/
import Derived.Test.YtionlfkdpjgpjaaGenA
set_option linter.unusedVariables false
set_option linter.unusedSimpArgs false
set_option linter.unusedSectionVars false
set_option linter.defProp false
set_option maxRecDepth 100000
noncomputable section
namespace Go.Proofs.AmEnv
open Go Go.AM
variable {T:Nat->Option (List AV->Option (List AV))}
abbrev Nc:=List (List Bool) × List (List Bool) × Bool
def X3 (b:Blk) (at_:Nat) (s:Nc):Nc :=
 (s.1.set at_ (unionD (s.1.getD at_ []) (walkD b (((tosD b.e).foldl (joinB s.1 at_) s.2.1).getD at_ []))).1,(tosD b.e).foldl (joinB s.1 at_) s.2.1,(unionD (s.1.getD at_ []) (walkD b (((tosD b.e).foldl (joinB s.1 at_) s.2.1).getD at_ []))).2 || s.2.2)
theorem A6.joins {N n:Nat} {A:List (List Bool)} {at_:Nat} (hat:at_ < N) (L:List Int):∀ {B:List (List Bool)},A6 N n B->A6 N n (L.foldl (joinB A at_) B):=by
 induction L with
 | nil=>intro B h; exact h
 | cons t L ih=>intro B h; exact ih (h.join hat)
theorem nM (e:Endd):(tosD e).length≤2:=by
 unfold tosD
 split
 . simp
 split
 . simp
 simp
section
variable {c:Cod} {b:Blk} {A B:List (List Bool)} {i j at_ t n:Nat} {g:Bool} {tch:List Nat} {fr:PF}
def Xh (c:Cod) (g:Bool) (A B:List (List Bool)) (b:Blk) (at_ n:Nat) (w:List Bool) (x:List AV):List PO:=[.row 1 [c.F] 5,.row 1 [.msl 4 0 c.blocks.length 1] 1,.row 1 [.msl 5 0 c.blocks.length 1] 1,.row 1 [.bool g] 1,.row 0 ((tab A).set at_ (ownd 0 1 x)) 1,.row 0 (tab B) 1,.row 1 [fslN (c.blocks.map Blk.F)] 1,.row 1 [b.F] 5,.sub 5 at_ 0,.row 1 [b.F] 5,.row 1 [.fn (.func 102) [] []] 1,.row 0 (bools w) 1,.row 1 [.msl 11 0 n 1] 1,.row 1 [fslN (b.code.map Ins.F)] 1,.sub 4 at_ 0]
theorem sE {w:List Bool} (hb:at_ < A.length):Lens (Xh c g A B b at_ n w) 14 1:=by
 have hb':at_ < (tab A).length:=by simp [tab,hb]
 refine ⟨fun es=>?_,fun es es'=>?_,fun es=>?_⟩
 . unfold Xh
   simp -implicitDefEqProofs only [Nw hb',XP,seval]
 . unfold Xh
   simp -implicitDefEqProofs only [Nw hb',List.set_set,Bi,XP,seval]
 . rfl
set_option maxHeartbeats 4000000 in
theorem DV (hU:T 100=none) (hWk:T 101=none) (hNB:T 125=none) (hC:T 169=some C0) (hS:T 102=none) (hW:T 108=some B0) (hR:T 170=some B7) (hTo:T 99=some Q8) (hb:WOk n b) (hs:n≤bigN) (hat:at_ < c.blocks.length) (hA:A6 c.blocks.length n A) (hB:A6 c.blocks.length n B) (hto:∀ t∈tosD b.e,0≤t∧t < (c.blocks.length:Int)) (h2:lookP fr 2=.ptr 1 0 0) (h3:lookP fr 3=.ptr 2 0 0) (h4:lookP fr 4=.ptr 3 0 0) :
 ∃ fr1 tch',evP ⟨A0,T,A5⟩ (.round ⟨[33,34],Uc,Ub,fr⟩ [.int .i64 (at_:Int),b.F] ⟨[.row 1 [c.F] 5,.row 1 [.msl 4 0 c.blocks.length 1] 1,.row 1 [.msl 5 0 c.blocks.length 1] 1,.row 1 [.bool g] 1,.row 0 (tab A) 1,.row 0 (tab B) 1,.row 1 [fslN (c.blocks.map Blk.F)] 1],7,[]⟩)=some (.ok .normal fr1 ⟨[.row 1 [c.F] 5,.row 1 [.msl 4 0 c.blocks.length 1] 1,.row 1 [.msl 5 0 c.blocks.length 1] 1,.row 1 [.bool (X3 b at_ (A,B,g)).2.2] 1,.row 0 (tab (X3 b at_ (A,B,g)).1) 1,.row 0 (tab (X3 b at_ (A,B,g)).2.1) 1,.row 1 [fslN (c.blocks.map Blk.F)] 1],7,tch'⟩):=by
 rw [Oh rfl]
 unfold Uc Ub
 have tt:=fun K=>jW (K:=K) (e:=b.e) hTo
 have hB1:A6 c.blocks.length n ((tosD b.e).foldl (joinB A at_) B):=hB.joins hat _
 obtain ⟨fr1,tch1,hl,k2,k3,k4,k5,k6⟩:=nL (T:=T) (c:=c) (b:=b) (A:=A) (at_:=at_) (n:=n) (g:=g) (L:=tosD b.e) hU hA hs hat hto (nM _) (tosD b.e).length 0 B [] (by omega) hB
 obtain ⟨tch2,hw,hw2⟩:=dS (T:=T) (c:=c) (b:=b) (A:=A) (B:=(tosD b.e).foldl (joinB A at_) B) (at_:=at_) (n:=n) (g:=g) (tch:=[]) hWk hNB hC hS hW hR hb hs (by rw [hB1.1]; exact hat) (hB1.get hat)
 have hwl:(walkD b (((tosD b.e).foldl (joinB A at_) B).getD at_ [])).length=n:=(Uh _ _).trans (hB1.get hat)
 obtain ⟨tch3,hu⟩:=Qm (T:=T) (ext:=7) (tch:=tch2 ++ List.filter (fun x=>decide (x < 7)) tch1) (m:=walkD b (((tosD b.e).foldl (joinB A at_) B).getD at_ [])) (a:=A.getD at_ []) (j:=11) hU (sE (c:=c) (g:=g) (A:=A) (B:=(tosD b.e).foldl (joinB A at_) B) (b:=b) (at_:=at_) (n:=n) (w:=walkD b (((tosD b.e).foldl (joinB A at_) B).getD at_ [])) (by rw [hA.1]; exact hat)) (fun x=>rfl) (by omega) (by rw [hwl]; exact hA.get hat)
 have hall:tch2.all (fun i=>decide (9≤i))=true:=List.all_eq_true.2 fun y hy=>by simpa using hw2 y hy
 have h5:=G0 (A:=A) (i:=at_) (by rw [hA.1]; exact hat)
 have h6:=G0 (A:=(tosD b.e).foldl (joinB A at_) B) (i:=at_) (by rw [hB1.1]; exact hat)
 rw [hwl] at hu
 have e3:(tab A).set at_ (ownd 0 1 (bools (A.getD at_ [])))=tab A:=aG h5
 have hgA:=hA.get hat
 have hgB:=hB1.get hat
 unfold X3
 unfold Xh at hu
 rw [e3,V8] at hu
 unfold X2 at hw
 dsimp only
 rw [show ((0:Nat):Int)=0 from rfl,List.drop_zero] at hl
 simp only [Cod.F,Blk.F,Endd.F,List.cons_append,List.nil_append] at tt hl hw hu ⊢
 cases hq:(unionD (A.getD at_ []) (walkD b (((tosD b.e).foldl (joinB A at_) B).getD at_ []))).2 with
 | true =>
  rw [hq] at hu
  simp -implicitDefEqProofs only [U2,Y7,Hk,h2,h3,h4,tt,hl,k2,k3,k4,k5,k6,hw,hall,h5,h6,hat,hgA,hgB,hu,J1,J2,J3,J4,J5,J6,J7,D5,D6,D7,D8,D9,E0,List.length_map,XP,seval]
  exact ⟨_,_,rfl⟩
 | false =>
  rw [hq] at hu
  simp -implicitDefEqProofs only [U2,Y7,Hk,h2,h3,h4,tt,hl,k2,k3,k4,k5,k6,hw,hall,h5,h6,hat,hgA,hgB,hu,J1,J2,J3,J4,J5,J6,J7,D5,D6,D7,D8,D9,E0,List.length_map,XP,seval]
  exact ⟨_,_,rfl⟩
end
end Go.Proofs.AmEnv
set_option maxRecDepth 100000
namespace Go.Proofs.AmEnv
open Go Go.AM
variable {T:Nat->Option (List AV->Option (List AV))}
def passGo (l:List Blk):Nat->Nc->Nc
 | 0,s=>s
 | k + 1,s=>passGo l k (match l[k]? with | some b=>X3 b k s | none=>s)
structure LOk (c:Cod):Prop where
 bs:c.blocks.length * 56≤bigN
 bl:c.blocks.length≤60000
 rs:c.regs.length * 8≤bigN
 b0:0 < c.blocks.length
 wk:∀ b∈c.blocks,WOk c.regs.length b
 to:∀ b∈c.blocks,∀ t∈tosD b.e,0≤t∧t < (c.blocks.length:Int)
theorem Dq {N n i:Nat} {b:Blk} {s:Nc} (hi:i < N) (hA:A6 N n s.1) (hB:A6 N n s.2.1):A6 N n (X3 b i s).1∧A6 N n (X3 b i s).2.1:=by
 refine ⟨hA.set ((unionD_len _ _).trans (hA.get hi)),hB.joins hi _⟩
theorem j1 {N n:Nat} {l:List Blk}:∀ (k:Nat) {s:Nc},k≤N->A6 N n s.1->A6 N n s.2.1->A6 N n (passGo l k s).1∧A6 N n (passGo l k s).2.1
 | 0,s,_,hA,hB=>⟨hA,hB⟩
 | k + 1,s,hk,hA,hB=>by
  unfold passGo
  cases l[k]? with
  | none=>exact j1 k (by omega) hA hB
  | some b =>
   obtain ⟨h1,h2⟩:=Dq (b:=b) (i:=k) (by omega) hA hB
   exact j1 k (by omega) h1 h2
theorem nN (hN:T 98=none) {l:List Blk} {K:PK}:evP ⟨A0,T,A5⟩ (.call 98 [fslN (l.map Blk.F)] K)=some (.val [.fn (.func 168) [] [.ptr K.os.length 0 0]] ⟨K.os ++ [.row 1 [fslN (l.map Blk.F)] 1],K.ext,K.tch⟩):=by
 rw [w5 hN rfl,A9 (c:=II) (nt:=4) (rs:=[.tmp 2]) rfl (by simp)]
 unfold II
 simp -implicitDefEqProofs only [XP,seval]
section
variable {c:Cod} {A B:List (List Bool)} {g:Bool} {fr:PF}
def f9 (c:Cod) (s:Nc) (ps:List PO):List PO:=[.row 1 [c.F] 5,.row 1 [.msl 4 0 c.blocks.length 1] 1,.row 1 [.msl 5 0 c.blocks.length 1] 1,.row 1 [.bool s.2.2] 1,.row 0 (tab s.1) 1,.row 0 (tab s.2.1) 1] ++ ps
theorem LF (hU:T 100=none) (hWk:T 101=none) (hNB:T 125=none) (hC:T 169=some C0) (hS:T 102=none) (hW:T 108=some B0) (hR:T 170=some B7) (hTo:T 99=some Q8) (hc:LOk c) {s:Nc} (hA:A6 c.blocks.length c.regs.length s.1) (hB:A6 c.blocks.length c.regs.length s.2.1) :
 ∃ TC:PF->List Nat->List Nat,∀ (fr:PF) (tch:List Nat),lookP fr 2=.ptr 1 0 0->lookP fr 3=.ptr 2 0 0->lookP fr 4=.ptr 3 0 0->lookP fr 32=.fn (.func 168) [] [.ptr 6 0 0] ->
   evP ⟨A0,T,A5⟩ (.code (.rfn (.tmp 32) [33,34] Uc Ub) fr ⟨f9 c s [.row 1 [fslN (c.blocks.map Blk.F)] 1],0,tch⟩)=some (.ok .normal fr ⟨f9 c (passGo c.blocks c.blocks.length s) [.row 1 [fslN (c.blocks.map Blk.F)] 1],0,TC fr tch⟩):=by
 have key:∀ x:PF × List Nat,∃ y:List Nat,lookP x.1 2=.ptr 1 0 0->lookP x.1 3=.ptr 2 0 0->lookP x.1 4=.ptr 3 0 0->lookP x.1 32=.fn (.func 168) [] [.ptr 6 0 0] ->
  evP ⟨A0,T,A5⟩ (.code (.rfn (.tmp 32) [33,34] Uc Ub) x.1 ⟨f9 c s [.row 1 [fslN (c.blocks.map Blk.F)] 1],0,x.2⟩)=some (.ok .normal x.1 ⟨f9 c (passGo c.blocks c.blocks.length s) [.row 1 [fslN (c.blocks.map Blk.F)] 1],0,y⟩):=fun x=>by
  by_cases h:lookP x.1 2=.ptr 1 0 0∧lookP x.1 3=.ptr 2 0 0∧lookP x.1 4=.ptr 3 0 0∧lookP x.1 32=.fn (.func 168) [] [.ptr 6 0 0]
  . obtain ⟨K',h1,s',tch',rfl,h3,h4,h5⟩:=DJ (T:=T) (l:=c.blocks) (f:=(c.blocks.map Blk.F).isEmpty) (fr:=x.1) (g:=.tmp 32) (ps:=[33,34]) (ca:=Uc) (cb:=Ub) (b:=6) (K:=⟨f9 c s [.row 1 [fslN (c.blocks.map Blk.F)] 1],0,x.2⟩)
     (Inv:=fun i K=>∃ s' tch,K=⟨f9 c s' [.row 1 [fslN (c.blocks.map Blk.F)] 1],7,tch⟩∧A6 c.blocks.length c.regs.length s'.1∧A6 c.blocks.length c.regs.length s'.2.1∧passGo c.blocks i s'=passGo c.blocks c.blocks.length s) hc.bs hc.bl h.2.2.2
     (fun i K _ hI=>by obtain ⟨w,tch,rfl,_⟩:=hI; rfl)
     (fun i hi K hI=>by
       obtain ⟨s',tch,rfl,h3,h4,h5⟩:=hI
       have hm:=List.getElem_mem hi
       have hrs:c.regs.length≤bigN:=by have:=hc.rs; simp only [bigN] at this ⊢; omega
       obtain ⟨fr1,tch',h6⟩:=DV (T:=T) (c:=c) (b:=c.blocks[i]) (A:=s'.1) (B:=s'.2.1) (at_:=i) (n:=c.regs.length) (g:=s'.2.2) (fr:=x.1) hU hWk hNB hC hS hW hR hTo (hc.wk _ hm) hrs hi h3 h4 (hc.to _ hm) h.1 h.2.1 h.2.2.1
       obtain ⟨q1,q2⟩:=Dq (b:=c.blocks[i]) hi h3 h4
       refine ⟨fr1,_,h6,X3 c.blocks[i] i s',tch' ++ tch,rfl,q1,q2,?_⟩
       rw [passGo,List.getElem?_eq_getElem hi] at h5; exact h5)
     ⟨s,[],rfl,hA,hB,rfl⟩
    exact ⟨_,fun _ _ _ _=>by rw [h1]; rw [passGo] at h5; rw [← h5]⟩
  . exact ⟨[],fun a b c d=>absurd ⟨a,b,c,d⟩ h⟩
 exact ⟨fun fr tch=>(key (fr,tch)).choose,fun fr tch=>(key (fr,tch)).choose_spec⟩
set_option maxHeartbeats 2000000 in
theorem xS (hU:T 100=none) (hWk:T 101=none) (hNB:T 125=none) (hNBB:T 98=none) (hC:T 169=some C0) (hS:T 102=none) (hW:T 108=some B0) (hR:T 170=some B7) (hTo:T 99=some Q8) (hc:LOk c) (hA:A6 c.blocks.length c.regs.length A) (hB:A6 c.blocks.length c.regs.length B) :
 evP ⟨A0,T,A5⟩ (.code Ud [(1,.ptr 0 0 0),(2,.ptr 1 0 0),(3,.ptr 2 0 0),(4,.ptr 3 0 0)] ⟨f9 c (A,B,true) [],0,[]⟩)=some (.ok .normal [(1,.ptr 0 0 0),(2,.ptr 1 0 0),(3,.ptr 2 0 0),(4,.ptr 3 0 0)] ⟨f9 c (passGo c.blocks c.blocks.length (A,B,false)) [],0,[]⟩):=by
 unfold Ud
 obtain ⟨TC,hl⟩:=LF (T:=T) (c:=c) (s:=(A,B,false)) hU hWk hNB hC hS hW hR hTo hc hA hB
 have tb:=fun K=>nN (K:=K) (l:=c.blocks) hNBB
 generalize passGo c.blocks c.blocks.length (A,B,false)=s at hl ⊢
 obtain ⟨A',B',g'⟩:=s
 unfold f9 at hl ⊢
 simp only [Cod.F,List.cons_append,List.nil_append] at hl ⊢
 simp -implicitDefEqProofs only [tb,hl,J1,J2,J3,J4,J5,J6,J7,D5,D6,D7,D8,D9,E0,List.length_map,XP,seval]
theorem xT:∃ fr',evP ⟨A0,T,A5⟩ (.code Ud [(1,.ptr 0 0 0),(2,.ptr 1 0 0),(3,.ptr 2 0 0),(4,.ptr 3 0 0)] ⟨f9 c (A,B,false) [],0,[]⟩)=some (.ok (.exit 2) fr' ⟨f9 c (A,B,false) [],0,[]⟩)∧lookP fr' 2=.ptr 1 0 0∧lookP fr' 3=.ptr 2 0 0:=by
 unfold Ud f9
 simp only [Cod.F,List.cons_append,List.nil_append]
 simp -implicitDefEqProofs only [XP,seval]
 exact ⟨_,rfl,rfl,rfl⟩
end
end Go.Proofs.AmEnv
set_option maxRecDepth 100000
namespace Go.Proofs.AmEnv
open Go Go.AM
variable {T:Nat->Option (List AV->Option (List AV))}
def ctF (l:List Bool):Nat:=l.count false
def fl:List (List Bool)->Nat
 | []=>0
 | r :: l=>ctF r + fl l
theorem sF {l:List Bool} {i:Nat} (hi:i < l.length) (h:l.getD i false=false):ctF (l.set i true) + 1=ctF l:=by
 induction l generalizing i with
 | nil=>cases hi
 | cons a l ih =>
  cases i with
  | zero =>
   have h:a=false:=h
   subst h
   simp [ctF]
  | succ i =>
   have:=ih (i:=i) (by simpa using hi) (by simpa using h)
   unfold ctF at this ⊢
   rw [List.set_cons_succ,List.count_cons,List.count_cons]
   omega
theorem uSt_ct {m:List Bool} {i:Nat} {s:List Bool × Bool} (hi:i < s.1.length):(uSt m i s=s)∨((uSt m i s).2=true∧ctF (uSt m i s).1 < ctF s.1):=by
 unfold uSt
 split
 . rename_i h
   exact .inr ⟨rfl,by have:=sF hi h.2; show ctF (s.1.set i true) < _; omega⟩
 . exact .inl rfl
theorem uniGo_ct (m:List Bool):∀ (n i:Nat) (s:List Bool × Bool),i + n≤s.1.length->(Ga m n i s=s)∨((Ga m n i s).2=true∧ctF (Ga m n i s).1 < ctF s.1)
 | 0,i,s,_=>.inl rfl
 | n + 1,i,s,h=>by
  rw [Ga]
  have hlen:=Xf m i s
  rcases uSt_ct (m:=m) (i:=i) (s:=s) (by omega) with h1 | ⟨h1,h2⟩
  . rw [h1]; exact uniGo_ct m n (i + 1) s (by omega)
  . rcases uniGo_ct m n (i + 1) (uSt m i s) (by omega) with h3 | ⟨h3,h4⟩
    . rw [h3]; exact .inr ⟨h1,h2⟩
    . exact .inr ⟨h3,by omega⟩
theorem unionD_ct {a m:List Bool} (h:a.length=m.length):(unionD a m=(a,false))∨((unionD a m).2=true∧ctF (unionD a m).1 < ctF a):=uniGo_ct m m.length 0 (a,false) (by simp; omega)
theorem xU {A:List (List Bool)} {i:Nat} {r:List Bool} (hi:i < A.length):fl (A.set i r) + ctF (A.getD i [])=fl A + ctF r:=by
 induction A generalizing i with
 | nil=>cases hi
 | cons a A ih =>
  cases i with
  | zero=>show ctF r + fl A + ctF a=ctF a + fl A + ctF r; omega
  | succ i =>
   have:=ih (i:=i) (by simpa using hi)
   show ctF a + fl (A.set i r) + ctF (A.getD i [])=ctF a + fl A + ctF r
   omega
theorem nO {A:List (List Bool)} {i:Nat}:A.set i (A.getD i [])=A:=by
 induction A generalizing i with
 | nil=>rfl
 | cons a A ih=>cases i with
  | zero=>rfl
  | succ i=>show a :: A.set i (A.getD i [])=_; rw [ih]
theorem nP {N n i:Nat} {b:Blk} {s:Nc} (hi:i < N) (hA:A6 N n s.1) (hB:A6 N n s.2.1):((X3 b i s).1=s.1∧(X3 b i s).2.2=s.2.2)∨((X3 b i s).2.2=true∧fl (X3 b i s).1 < fl s.1):=by
 have hB1:A6 N n ((tosD b.e).foldl (joinB s.1 i) s.2.1):=hB.joins hi _
 unfold X3
 rcases unionD_ct (a:=s.1.getD i []) (m:=walkD b (((tosD b.e).foldl (joinB s.1 i) s.2.1).getD i [])) (by rw [hA.get hi,Uh,hB1.get hi]) with h | ⟨h1,h2⟩
 . rw [h]; exact .inl ⟨nO,rfl⟩
 . refine .inr ⟨by rw [h1]; rfl,?_⟩
   have:=xU (A:=s.1) (i:=i) (r:=(unionD (s.1.getD i []) (walkD b (((tosD b.e).foldl (joinB s.1 i) s.2.1).getD i []))).1) (by rw [hA.1]; exact hi)
   show fl (s.1.set i _) < _
   omega
theorem Kr {N n:Nat} {l:List Blk}:∀ (k:Nat) {s:Nc},k≤N->A6 N n s.1->A6 N n s.2.1->((passGo l k s).1=s.1∧(passGo l k s).2.2=s.2.2)∨((passGo l k s).2.2=true∧fl (passGo l k s).1 < fl s.1)
 | 0,s,_,hA,hB=>.inl ⟨rfl,rfl⟩
 | k + 1,s,hk,hA,hB=>by
  unfold passGo
  cases l[k]? with
  | none=>exact Kr k (by omega) hA hB
  | some b =>
   obtain ⟨h1,h2⟩:=Dq (b:=b) (i:=k) (by omega) hA hB
   show ((passGo l k (X3 b k s)).1=s.1∧(passGo l k (X3 b k s)).2.2=s.2.2)∨_
   have h3:=Kr (l:=l) k (s:=X3 b k s) (by omega) h1 h2
   have h4:=nP (b:=b) (i:=k) (s:=s) (by omega) hA hB
   rcases h3 with ⟨a1,a2⟩ | ⟨a1,a2⟩
   . rcases h4 with ⟨b1,b2⟩ | ⟨b1,b2⟩
     . exact .inl ⟨a1.trans b1,a2.trans b2⟩
     . exact .inr ⟨a2.trans b1,by show fl (passGo l k (X3 b k s)).1 < _; rw [a1]; exact b2⟩
   . refine .inr ⟨a1,?_⟩
     show fl (passGo l k (X3 b k s)).1 < _
     rcases h4 with ⟨b1,_⟩ | ⟨_,b2⟩
     . rw [← b1]; exact a2
     . omega
def V9 (l:List Blk):Nat->List (List Bool) × List (List Bool)->Nc
 | 0,s=>(s.1,s.2,false)
 | k + 1,s=>if (passGo l l.length (s.1,s.2,false)).2.2=true then V9 l k ((passGo l l.length (s.1,s.2,false)).1,(passGo l l.length (s.1,s.2,false)).2.1) else passGo l l.length (s.1,s.2,false)
theorem Qq (l:List Blk):∀ (k:Nat) (s:List (List Bool) × List (List Bool)),(V9 l k s).2.2=false
 | 0,s=>rfl
 | k + 1,s=>by
  rw [V9]
  split
  . exact Qq l k _
  . rename_i h; simpa using h
theorem Dr {l:List Blk} {n:Nat}:∀ (k:Nat) {s:List (List Bool) × List (List Bool)},A6 l.length n s.1->A6 l.length n s.2->A6 l.length n (V9 l k s).1∧A6 l.length n (V9 l k s).2.1
 | 0,s,hA,hB=>⟨hA,hB⟩
 | k + 1,s,hA,hB=>by
  obtain ⟨h1,h2⟩:=j1 (l:=l) l.length (s:=(s.1,s.2,false)) (Nat.le_refl _) hA hB
  rw [V9]
  split
  . exact Dr k h1 h2
  . exact ⟨h1,h2⟩
def noneT (N n:Nat):List (List Bool):=List.replicate N (noneL n)
theorem H6 (N n:Nat):A6 N n (noneT N n):=⟨by simp [noneT],fun r hr=>by rw [List.eq_of_mem_replicate hr]; simp [noneL]⟩
def liveD (c:Cod):Nc:=V9 c.blocks (fl (noneT c.blocks.length c.regs.length) + 1) (noneT c.blocks.length c.regs.length,noneT c.blocks.length c.regs.length)
theorem b9 (c:Cod):A6 c.blocks.length c.regs.length (liveD c).1∧A6 c.blocks.length c.regs.length (liveD c).2.1:=Dr _ (H6 _ _) (H6 _ _)
section
variable {c:Cod} {A B:List (List Bool)} {g:Bool} {fr:PF}
theorem nQ (hU:T 100=none) (hWk:T 101=none) (hNB:T 125=none) (hNBB:T 98=none) (hC:T 169=some C0) (hS:T 102=none) (hW:T 108=some B0) (hR:T 170=some B7) (hTo:T 99=some Q8) (hc:LOk c):∀ (k:Nat) (A B:List (List Bool)),fl A < k->A6 c.blocks.length c.regs.length A->A6 c.blocks.length c.regs.length B ->
 ∃ fr',evP ⟨A0,T,A5⟩ (.code (.loop Ud) [(1,.ptr 0 0 0),(2,.ptr 1 0 0),(3,.ptr 2 0 0),(4,.ptr 3 0 0)] ⟨f9 c (A,B,true) [],0,[]⟩)=some (.ok (.exit 2) fr' ⟨f9 c (V9 c.blocks k (A,B)) [],0,[]⟩)∧lookP fr' 2=.ptr 1 0 0∧lookP fr' 3=.ptr 2 0 0
 | 0,A,B,h,_,_=>by omega
 | k + 1,A,B,h,hA,hB=>by
  have h1:=xS (T:=T) (c:=c) (A:=A) (B:=B) hU hWk hNB hNBB hC hS hW hR hTo hc hA hB
  obtain ⟨q1,q2⟩:=j1 (l:=c.blocks) c.blocks.length (s:=(A,B,false)) (Nat.le_refl _) hA hB
  have q3:=Kr (l:=c.blocks) c.blocks.length (s:=(A,B,false)) (Nat.le_refl _) hA hB
  rw [V9]
  dsimp only
  generalize hp:passGo c.blocks c.blocks.length (A,B,false)=s at h1 q1 q2 q3 ⊢
  obtain ⟨A',B',g'⟩:=s
  cases g' with
  | true =>
   rcases q3 with ⟨_,q3⟩ | ⟨_,q3⟩
   . cases q3
   obtain ⟨fr',h2,h3⟩:=nQ hU hWk hNB hNBB hC hS hW hR hTo hc k A' B' (by have:fl A' < fl A:=q3; omega) q1 q2
   exact ⟨fr',(C2 h1).trans h2,h3⟩
  | false =>
   obtain ⟨fr',h2,h3⟩:=xT (T:=T) (c:=c) (A:=A') (B:=B')
   exact ⟨fr',(C2 h1).trans (C4 h2),h3⟩
end
end Go.Proofs.AmEnv
set_option maxRecDepth 100000
namespace Go.Proofs.AmEnv
open Go Go.AM
variable {T:Nat->Option (List AV->Option (List AV))}
theorem DW {K:PK} {n:Nat} {l:List XOp} (h1:(K.tch.all fun i=>decide (n≤i))=false) (h2:(l.all fun o=>!o.careful)=false):By n l K=false:=by unfold By; rw [h1,h2]; rfl
theorem Ds:∀ A:List (List Bool),noFL (tab A)=true
 | []=>rfl
 | r :: A=>by
  show (noF (ownd 0 1 (bools r)) && noFL (tab A))=true
  rw [Ds A]
  show (noFL (bools r) && true)=true
  rw [noFL_bools]; rfl
theorem Qr (N n:Nat):noneT (N + 1) n=noneT N n ++ [noneL n]:=List.replicate_succ'
section
variable {c:Cod} {i:Nat}
def IK (c:Cod) (N:Nat):PK:=⟨[.row 1 [c.F] 5,.row 1 [.msl 3 0 N 1] 1,.row 1 [.msl 4 0 N 1] 1,.row 0 (tab (noneT N c.regs.length)) 1,.row 0 (tab (noneT N c.regs.length)) 1],0,[]⟩
theorem DY {K:PK}:∃ fr',evP ⟨A0,T,A5⟩ (.code Mh [(1,.ptr 0 0 0),(2,.ptr 1 0 0),(3,.ptr 2 0 0),(11,.int .i64 (c.blocks.length:Int)),(12,.int .i64 (c.blocks.length:Int))] K)=some (.ok (.exit 0) fr' K)∧lookP fr' 1=.ptr 0 0 0∧lookP fr' 2=.ptr 1 0 0∧lookP fr' 3=.ptr 2 0 0:=by
 unfold Mh
 have hlt:decide ((c.blocks.length:Int) < (c.blocks.length:Int))=false:=by simp
 simp -implicitDefEqProofs only [hlt,XP,seval]
 exact ⟨_,rfl,rfl,rfl,rfl⟩
theorem vR (hc:LOk c):∀ (k i:Nat),c.blocks.length=i + 1 + k->∃ fr',evP ⟨A0,T,A5⟩ (.code (.loop Mh) [(1,.ptr 0 0 0),(2,.ptr 1 0 0),(3,.ptr 2 0 0),(11,.int .i64 (c.blocks.length:Int)),(12,.int .i64 ((i + 1:Nat):Int))] (IK c (i + 1)))=some (.ok (.exit 0) fr' (IK c c.blocks.length))∧lookP fr' 1=.ptr 0 0 0∧lookP fr' 2=.ptr 1 0 0∧lookP fr' 3=.ptr 2 0 0
 | 0,i,e=>by
  obtain ⟨fr',h,hq⟩:=DY (T:=T) (c:=c) (K:=IK c c.blocks.length)
  rw [show i + 1=c.blocks.length by omega]
  exact ⟨fr',C4 h,hq⟩
 | k + 1,i,e=>by
  have h:=DT (T:=T) (c:=c) (i:=i + 1) (A:=noneT (i + 1) c.regs.length) (by simp [noneT]) (by omega) hc.rs hc.bs
  rw [← Qr] at h
  obtain ⟨fr',h',hq⟩:=vR hc k (i + 1) (by omega)
  exact ⟨fr',(C2 h).trans h',hq⟩
end
set_option maxHeartbeats 2000000 in
theorem Nd (nlive_union:T 100=none) (nlive_walk:T 101=none) (nBackI:T 125=none) (nBackB:T 98=none) (hCloneBools:T 169=some C0) (nlive_Live_1:T 102=none) (hir_Writes:T 108=some B0) (hir_Reads:T 170=some B7) (hlive_tos:T 99=some Q8) {c:Cod} (hk:LOk c):AM.Comes ⟨A0,T,A5⟩ 33 [c.F] [ownd 0 1 (tab (liveD c).1),ownd 0 1 (tab (liveD c).2.1)]:=by
 obtain ⟨N,hN⟩:∃ N,c.blocks.length=N + 1:=⟨c.blocks.length - 1,by have:=hk.b0; omega⟩
 have h0:=DS (T:=T) (c:=c) (by omega) hk.rs
 obtain ⟨fr1,h1,k1,k2,k3⟩:=vR (T:=T) hk N 0 (by omega)
 have hL:=(C2 h0).trans h1
 obtain ⟨fr2,h2,k4,k5⟩:=nQ (T:=T) nlive_union nlive_walk nBackI nBackB hCloneBools nlive_Live_1 hir_Writes hir_Reads hlive_tos hk (fl (noneT c.blocks.length c.regs.length) + 1) (noneT c.blocks.length c.regs.length) (noneT c.blocks.length c.regs.length) (by omega) (H6 _ _) (H6 _ _)
 have hg:=Qq c.blocks (fl (noneT c.blocks.length c.regs.length) + 1) (noneT c.blocks.length c.regs.length,noneT c.blocks.length c.regs.length)
 obtain ⟨s1,s2⟩:=b9 c
 change evP _ _=some (.ok (.exit 2) fr2 ⟨f9 c (liveD c) [],0,[]⟩) at h2
 change (liveD c).2.2=false at hg
 generalize liveD c=s at h2 hg s1 s2 ⊢
 obtain ⟨A,B,g⟩:=s
 dsimp only at hg h2 s1 s2 ⊢
 subst hg
 refine ⟨[.msl 2 0 c.blocks.length 1,.msl 3 0 c.blocks.length 1],⟨[.row 1 [.msl 2 0 c.blocks.length 1] 1,.row 1 [.msl 3 0 c.blocks.length 1] 1,.row 0 (tab A) 1,.row 0 (tab B) 1],0,[]⟩,?_,?_⟩
 . rw [A9 (c:=IB) (nt:=67) (rs:=[.cell 2 48,.cell 3 48]) rfl (by simp)]
   unfold IB K0
   unfold IK at hL
   unfold f9 at h2
   simp only [Cod.F,List.cons_append,List.nil_append] at hL h2 ⊢
   simp -implicitDefEqProofs only [hL,k1,k2,k3,h2,k4,k5,DW,J1,J2,J3,J4,J5,J6,J7,D5,D6,D7,D8,D9,E0,List.length_map,XP,seval]
 . exact E2 (vs':=[.msl 2 0 c.blocks.length 1,.msl 3 0 c.blocks.length 1]) (os':=[.row 1 [.msl 2 0 c.blocks.length 1] 1,.row 1 [.msl 3 0 c.blocks.length 1] 1,.row 0 (tab A) 1,.row 0 (tab B) 1]) (by simp -implicitDefEqProofs only [XP,seval]) (by simp -implicitDefEqProofs only [XP,seval]) (us:=[.msl 0 0 c.blocks.length 1,.msl 1 0 c.blocks.length 1]) (ps:=[.row 0 (tab A) 1,.row 0 (tab B) 1]) (by simp -implicitDefEqProofs only [List.length_map,s1.1,s2.1,XP,seval]) (by simp -implicitDefEqProofs only [XP,seval]) (by simp -implicitDefEqProofs only [XP,seval])
def L4:=Cc (fun p:(Cod)=>[p.F]) (fun p=>[ownd 0 1 (tab (liveD p).1),ownd 0 1 (tab (liveD p).2.1)]) (fun p=>LOk p)
theorem Qt (hlive_Live:T 33=some L4) {c:Cod} {K:PK} (hk:LOk c):evP ⟨A0,T,A5⟩ (.call 33 [c.F] K)=some (.val (openTs K.os.length [ownd 0 1 (tab (liveD c).1),ownd 0 1 (tab (liveD c).2.1)]).1 ⟨K.os ++ (openTs K.os.length [ownd 0 1 (tab (liveD c).1),ownd 0 1 (tab (liveD c).2.1)]).2,K.ext,K.tch⟩):=E1 hlive_Live (by simp -implicitDefEqProofs only [VV,XP,seval]) (E5 (a:=fun p:(Cod)=>[p.F]) (r:=fun p=>[ownd 0 1 (tab (liveD p).1),ownd 0 1 (tab (liveD p).2.1)]) (fun x y e=>by simp only [VJ] at e; simp only [e]) (c) hk) (by simp -implicitDefEqProofs only [VN,Ds,XP,seval])
theorem Xi (hlive_Live:T 33=some L4) {c:Cod} {K:PK} {args:List AV} (hv:viewAs K.os args=some [c.F]) (hk:LOk c):evP ⟨A0,T,A5⟩ (.call 33 args K)=some (.val (openTs K.os.length [ownd 0 1 (tab (liveD c).1),ownd 0 1 (tab (liveD c).2.1)]).1 ⟨K.os ++ (openTs K.os.length [ownd 0 1 (tab (liveD c).1),ownd 0 1 (tab (liveD c).2.1)]).2,K.ext,K.tch⟩):=E1 hlive_Live hv (E5 (a:=fun p:(Cod)=>[p.F]) (r:=fun p=>[ownd 0 1 (tab (liveD p).1),ownd 0 1 (tab (liveD p).2.1)]) (fun x y e=>by simp only [VJ] at e; simp only [e]) (c) hk) (by generalize (refsL args).isEmpty=z; simp -implicitDefEqProofs only [VN,Ds,XP,seval])
theorem Xj (nlive_union:T 100=none) (nlive_walk:T 101=none) (nBackI:T 125=none) (nBackB:T 98=none) (hCloneBools:T 169=some C0) (nlive_Live_1:T 102=none) (hir_Writes:T 108=some B0) (hir_Reads:T 170=some B7) (hlive_tos:T 99=some Q8) (hP:PEok ⟨A0,T,A5⟩):TC A0 33 L4:=G4 hP fun p h=>Nd nlive_union nlive_walk nBackI nBackB hCloneBools nlive_Live_1 hir_Writes hir_Reads hlive_tos h
end Go.Proofs.AmEnv
set_option maxRecDepth 100000
namespace Go.Proofs.AmEnv
open Go Go.AM
variable {T:Nat->Option (List AV->Option (List AV))}
section
variable {c:Cod} {i:Nat}
theorem DZ (hi:0 < c.regs.length) (hr:c.regs.length * 24≤bigN):evP ⟨A0,T,A5⟩ (.code Ih [(1,.ptr 0 0 0),(3,.ptr 1 0 0),(14,.int .i64 (c.regs.length:Int)),(15,.int .i64 0)] ⟨[.row 1 [c.F] 5,.row 1 [.nilsl] 1],0,[]⟩)=some (.ok .normal [(1,.ptr 0 0 0),(3,.ptr 1 0 0),(14,.int .i64 (c.regs.length:Int)),(15,.int .i64 1)] ⟨[.row 1 [c.F] 5,.row 1 [.msl 2 0 1 1] 1,.row 0 (tab [noneL c.regs.length]) 1],0,[]⟩):=by
 unfold Ih
 have hlt:decide ((0:Int) < (c.regs.length:Int))=true:=by simp; omega
 have hw:IntKind.i64.wrap (0 + 1)=1:=by decide
 have hm:c.regs.length * 1≤140737488355328:=by simp only [bigN] at hr; omega
 unfold Cod.F
 simp -implicitDefEqProofs only [hlt,hw,List.length_map,hm,Oa,rZ,Ob,Oc,Xg,List.length_replicate,XP,seval]
 rfl
theorem EA {A:List (List Bool)} (hA:A.length=i) (hi:i < c.regs.length) (hr:c.regs.length * 24≤bigN):evP ⟨A0,T,A5⟩ (.code Ih [(1,.ptr 0 0 0),(3,.ptr 1 0 0),(14,.int .i64 (c.regs.length:Int)),(15,.int .i64 ((i:Nat):Int))] ⟨[.row 1 [c.F] 5,.row 1 [.msl 2 0 i 1] 1,.row 0 (tab A) 1],0,[]⟩)=some (.ok .normal [(1,.ptr 0 0 0),(3,.ptr 1 0 0),(14,.int .i64 (c.regs.length:Int)),(15,.int .i64 ((i + 1:Nat):Int))] ⟨[.row 1 [c.F] 5,.row 1 [.msl 2 0 (i + 1) 1] 1,.row 0 (tab (A ++ [noneL c.regs.length])) 1],0,[]⟩):=by
 unfold Ih
 have hlt:decide ((i:Int) < (c.regs.length:Int))=true:=by simp; omega
 have hw:=B3 (i:=i) (by simp only [bigN] at hr; omega)
 have hm:c.regs.length * 1≤140737488355328:=by simp only [bigN] at hr; omega
 have hz:(i + 1) * 24≤140737488355328:=by simp only [bigN] at hr; omega
 have ht:(tab A).take i=tab A:=List.take_of_length_le (by simp [hA])
 unfold Cod.F
 simp -implicitDefEqProofs only [hlt,hw,List.length_map,hm,Oa,rZ,Ob,Oc,Xg,List.length_replicate,hA,ht,hz,XP,seval]
 simp
def xV (c:Cod) (N:Nat):PK:=⟨match N with | 0=>[.row 1 [c.F] 5,.row 1 [.nilsl] 1] | N + 1=>[.row 1 [c.F] 5,.row 1 [.msl 2 0 (N + 1) 1] 1,.row 0 (tab (noneT (N + 1) c.regs.length)) 1],0,[]⟩
theorem EB {K:PK}:∃ fr',evP ⟨A0,T,A5⟩ (.code Ih [(1,.ptr 0 0 0),(3,.ptr 1 0 0),(14,.int .i64 (c.regs.length:Int)),(15,.int .i64 (c.regs.length:Int))] K)=some (.ok (.exit 0) fr' K)∧lookP fr' 1=.ptr 0 0 0∧lookP fr' 3=.ptr 1 0 0:=by
 unfold Ih
 have hlt:decide ((c.regs.length:Int) < (c.regs.length:Int))=false:=by simp
 simp -implicitDefEqProofs only [hlt,XP,seval]
 exact ⟨_,rfl,rfl,rfl⟩
theorem vS (hr:c.regs.length * 24≤bigN):∀ (k i:Nat),c.regs.length=i + k->∃ fr',evP ⟨A0,T,A5⟩ (.code (.loop Ih) [(1,.ptr 0 0 0),(3,.ptr 1 0 0),(14,.int .i64 (c.regs.length:Int)),(15,.int .i64 ((i:Nat):Int))] (xV c i))=some (.ok (.exit 0) fr' (xV c c.regs.length))∧lookP fr' 1=.ptr 0 0 0∧lookP fr' 3=.ptr 1 0 0
 | 0,i,e=>by
  obtain ⟨fr',h,hq⟩:=EB (T:=T) (c:=c) (K:=xV c c.regs.length)
  rw [show i=c.regs.length by omega]
  exact ⟨fr',C4 h,hq⟩
 | k + 1,i,e=>by
  obtain ⟨fr',h',hq⟩:=vS hr k (i + 1) (by omega)
  cases i with
  | zero =>
   have h:=DZ (T:=T) (c:=c) (by omega) hr
   exact ⟨fr',(C2 h).trans h',hq⟩
  | succ i =>
   have h:=EA (T:=T) (c:=c) (i:=i + 1) (A:=noneT (i + 1) c.regs.length) (by simp [noneT]) (by omega) hr
   rw [← Qr] at h
   exact ⟨fr',(C2 h).trans h',hq⟩
end
end Go.Proofs.AmEnv
set_option maxRecDepth 100000
namespace Go.Proofs.AmEnv
open Go Go.AM
variable {T:Nat->Option (List AV->Option (List AV))}
def pairD (a b:Nat) (O:List (List Bool)):List (List Bool):=if a=b then O else (O.set a ((O.getD a []).set b true)).set b (((O.set a ((O.getD a []).set b true)).getD b []).set a true)
def I5 (c:Cod) (A:List (List Bool)) (r:Nat):Bool:=decide ((r:Int) < c.ps) || (A.getD 0 []).getD r false
theorem A6.pair {n:Nat} {O:List (List Bool)} (h:A6 n n O) {a b:Nat} (ha:a < n) (hb:b < n):A6 n n (pairD a b O):=by
 unfold pairD
 split
 . exact h
 . have h1:A6 n n (O.set a ((O.getD a []).set b true)):=h.set (by rw [List.length_set]; exact h.get ha)
   exact h1.set (by rw [List.length_set]; exact h1.get hb)
section
variable {c:Cod} {A B O:List (List Bool)} {a b n:Nat} {tch:List Nat}
theorem N6 {l:List Bool} {i:Nat} {v:Bool}:(bools l).set i (.bool v)=bools (l.set i v):=by unfold bools; rw [List.map_set]
theorem Ah {l:List Bool}:(bools l).length=l.length:=List.length_map _
theorem S1 {te:TI} {k:IntKind} {id n sz:Nat} (h:0 < n) (hs:sz=te.size):Ye te (.msl id 0 n sz) (.int k 0)=some (.ptr id 0 0):=ix_msl (i:=0) (off:=0) h hs
set_option maxHeartbeats 4000000 in
theorem EC (hP:T 105=none) (hF:T 106=none) (hb:b < a) (ha:a < c.regs.length) (hr:c.regs.length * 24≤bigN) (h0:0 < c.blocks.length) (hA:A6 c.blocks.length c.regs.length A) (hO:A6 c.regs.length c.regs.length O) :
 evP ⟨A0,T,A5⟩ (.code Ue [(1,.ptr 0 0 0),(3,.ptr 1 0 0),(4,.ptr 2 0 0),(6,.msl 3 0 c.blocks.length 1),(7,.fn (.func 106) [] [.ptr 0 0 0,.ptr 4 0 0]),(8,.int .i64 (a:Int)),(34,.int .i64 (c.regs.length:Int)),(35,.int .i64 (a:Int)),(38,.int .i64 (a:Int)),(39,.int .i64 (b:Int))] ⟨[.row 1 [c.F] 5,.row 1 [.msl 5 0 c.regs.length 1] 1,.row 1 [.fn (.func 105) [] [.ptr 1 0 0]] 1,.row 0 (tab B) 1,.row 1 [.msl 6 0 c.blocks.length 1] 1,.row 0 (tab O) 1,.row 0 (tab A) 1],0,[]⟩)=some (.ok .normal [(1,.ptr 0 0 0),(3,.ptr 1 0 0),(4,.ptr 2 0 0),(6,.msl 3 0 c.blocks.length 1),(7,.fn (.func 106) [] [.ptr 0 0 0,.ptr 4 0 0]),(8,.int .i64 (a:Int)),(34,.int .i64 (c.regs.length:Int)),(35,.int .i64 (a:Int)),(38,.int .i64 (a:Int)),(39,.int .i64 ((b + 1:Nat):Int))] ⟨[.row 1 [c.F] 5,.row 1 [.msl 5 0 c.regs.length 1] 1,.row 1 [.fn (.func 105) [] [.ptr 1 0 0]] 1,.row 0 (tab B) 1,.row 1 [.msl 6 0 c.blocks.length 1] 1,.row 0 (tab (if I5 c A a && I5 c A b then pairD a b O else O)) 1,.row 0 (tab A) 1],0,[]⟩):=by
 unfold Ue
 have hlt:decide ((b:Int) < (a:Int))=true:=by simp; omega
 have hws:=B3 (i:=b) (by simp only [bigN] at hr; omega)
 have f1:=fun (args:List AV) (K:PK) (h:args.length≤17)=>(w5 (E:=A0) (F:=A5) (f:=106) (args:=args) (K:=K) hF rfl).trans (congrArg _ (A9 (E:=A0) (T:=T) (F:=A5) (args:=args) (c:=Zz) (nt:=17) (rs:=[.tmp 4]) rfl h))
 have f2:=fun (args:List AV) (K:PK) (h:args.length≤20)=>(w5 (E:=A0) (F:=A5) (f:=105) (args:=args) (K:=K) hP rfl).trans (congrArg _ (A9 (E:=A0) (T:=T) (F:=A5) (args:=args) (c:=Kk) (nt:=20) (rs:=[]) rfl h))
 have hA0:=G0 (A:=A) (i:=0) (by rw [hA.1]; exact h0)
 have hAl:=hA.get h0
 have gA:=C9 (l:=A.getD 0 []) (i:=a) (by omega)
 have gB:=C9 (l:=A.getD 0 []) (i:=b) (by omega)
 have hbn:b < c.regs.length:=by omega
 have hab:a ≠ b:=by omega
 have hne:decide ((a:Int)=(b:Int))=false:=by simp; omega
 have hOa:=G0 (A:=O) (i:=a) (by rw [hO.1]; exact ha)
 have hOb:=G0 (A:=O) (i:=b) (by rw [hO.1]; exact hbn)
 have hla:=hO.get ha
 have hlb:=hO.get hbn
 have hra:=C9 (l:=O.getD a []) (i:=b) (by omega)
 have hrb:=C9 (l:=O.getD b []) (i:=a) (by omega)
 have hg2:(O.set a ((O.getD a []).set b true)).getD b []=O.getD b []:=by
  rw [List.getD_eq_getElem?_getD,List.getElem?_set_ne hab,List.getD_eq_getElem?_getD]
 have hn:(tab (O.set a ((O.getD a []).set b true)))[b]?=some (ownd 0 1 (bools (O.getD b []))):=by
  rw [← V8,List.getElem?_set_ne hab]; exact hOb
 have epair:pairD a b O=(O.set a ((O.getD a []).set b true)).set b ((O.getD b []).set a true):=by
  unfold pairD; rw [if_neg hab,hg2]
 unfold I5
 by_cases pa:(a:Int) < c.ps
 . have qa:=decide_eq_true pa
   have pb:(b:Int) < c.ps:=by omega
   have qb:=decide_eq_true pb
   rw [qa,qb,if_pos (by rfl),epair]
   simp only [Cod.F]
   simp -implicitDefEqProofs only [hlt,hws,f1,f2,Zz,Kk,qa,qb,hne,hOa,hOb,hn,hra,hrb,hla,hlb,N6,V8,Bi,S1,hA0,hAl,gA,gB,ha,hbn,h0,List.length_map,Ah,List.length_set,List.length_replicate,J1,J2,J3,J4,J5,J6,J7,D5,D6,D7,D8,D9,E0,XP,seval]
 . have qa:=decide_eq_false pa
   rw [qa]
   cases va:(A.getD 0 []).getD a false with
   | false =>
    rw [va] at gA
    rw [if_neg (by simp)]
    simp only [Cod.F]
    simp -implicitDefEqProofs only [hlt,hws,f1,f2,Zz,Kk,qa,hne,hOa,hOb,hn,hra,hrb,hla,hlb,N6,V8,Bi,S1,hA0,hAl,gA,gB,ha,hbn,h0,List.length_map,Ah,List.length_set,List.length_replicate,J1,J2,J3,J4,J5,J6,J7,D5,D6,D7,D8,D9,E0,XP,seval]
   | true =>
    rw [va] at gA
    by_cases pb:(b:Int) < c.ps
    . have qb:=decide_eq_true pb
      rw [qb,if_pos (by rfl),epair]
      simp only [Cod.F]
      simp -implicitDefEqProofs only [hlt,hws,f1,f2,Zz,Kk,qa,qb,hne,hOa,hOb,hn,hra,hrb,hla,hlb,N6,V8,Bi,S1,hA0,hAl,gA,gB,ha,hbn,h0,List.length_map,Ah,List.length_set,List.length_replicate,J1,J2,J3,J4,J5,J6,J7,D5,D6,D7,D8,D9,E0,XP,seval]
    . have qb:=decide_eq_false pb
      rw [qb]
      cases vb:(A.getD 0 []).getD b false with
      | false =>
       rw [vb] at gB
       rw [if_neg (by simp)]
       simp only [Cod.F]
       simp -implicitDefEqProofs only [hlt,hws,f1,f2,Zz,Kk,qa,qb,hne,hOa,hOb,hn,hra,hrb,hla,hlb,N6,V8,Bi,S1,hA0,hAl,gA,gB,ha,hbn,h0,List.length_map,Ah,List.length_set,List.length_replicate,J1,J2,J3,J4,J5,J6,J7,D5,D6,D7,D8,D9,E0,XP,seval]
      | true =>
       rw [vb] at gB
       rw [if_pos (by rfl),epair]
       simp only [Cod.F]
       simp -implicitDefEqProofs only [hlt,hws,f1,f2,Zz,Kk,qa,qb,hne,hOa,hOb,hn,hra,hrb,hla,hlb,N6,V8,Bi,S1,hA0,hAl,gA,gB,ha,hbn,h0,List.length_map,Ah,List.length_set,List.length_replicate,J1,J2,J3,J4,J5,J6,J7,D5,D6,D7,D8,D9,E0,XP,seval]
end
end Go.Proofs.AmEnv
set_option maxRecDepth 100000
namespace Go.Proofs.AmEnv
open Go Go.AM
variable {T:Nat->Option (List AV->Option (List AV))}
def fZ (x:Ins) (w:List Bool) (r:Nat):Bool:=w.getD r false && decide (0≤writesD x) && !(decide (x.op=2) && decide (x.a=(r:Int)))
def Mj (x:Ins) (w:List Bool) (r:Nat) (O:List (List Bool)):List (List Bool):=if fZ x w r=true then pairD (writesD x).toNat r O else O
def Ui (x:Ins) (w:List Bool):Nat->Nat->List (List Bool)->List (List Bool)
 | 0,_,O=>O
 | k + 1,r,O=>Ui x w k (r + 1) (Mj x w r O)
def Qu (x:Ins) (w:List Bool) (O:List (List Bool)):List (List Bool):=Ui x w w.length 0 O
theorem A6.see {n:Nat} {x:Ins} {w:List Bool} {r:Nat} {O:List (List Bool)} (h:A6 n n O) (hw:writesD x < n) (hr:r < n):A6 n n (Mj x w r O):=by
 unfold Mj
 split
 . rename_i hs
   have h0:0≤writesD x:=by
    unfold fZ at hs
    simp at hs
    exact hs.1.2
   exact h.pair (by omega) hr
 . exact h
theorem A6.sees {n:Nat} {x:Ins} {w:List Bool} (hw:writesD x < n):∀ (k r:Nat) {O:List (List Bool)},r + k≤n->A6 n n O->A6 n n (Ui x w k r O)
 | 0,r,O,_,h=>h
 | k + 1,r,O,e,h=>A6.sees hw k (r + 1) (by omega) (h.see hw (by omega))
section
variable {b:Blk} {B O:List (List Bool)} {at_ n r:Nat} {w:List Bool} {x:Ins} {tch:List Nat} {fr:PF}
def L6 (B O:List (List Bool)) (b:Blk) (at_ n:Nat) (ps:List PO) (w:List AV):List PO:=[.row 1 [.msl 3 0 n 1] 1,.row 1 [.fn (.func 105) [] [.ptr 0 0 0]] 1,.row 0 (tab B) 1,.row 0 (tab O) 1,.row 1 [b.F] 5,.sub 2 at_ 0,.row 1 [b.F] 5,.row 1 [.fn (.func 107) [] [.ptr 1 0 0]] 1,.row 0 w 1,.row 1 [.msl 8 0 n 1] 1,.row 1 [fslN (b.code.map Ins.F)] 1] ++ ps
theorem xW {ps:List PO}:Lens (L6 B O b at_ n ps) 8 1:=⟨fun es=>rfl,fun es es'=>rfl,fun es=>rfl⟩
theorem ED (h:w.length=n):∃ fr',evP ⟨A0,T,A5⟩ (.code Bc [(2,.ptr 1 0 0),(3,.ptr 12 0 0),(5,.int .i64 (writesD x)),(10,.msl 8 0 n 1),(11,.int .i64 (n:Int)),(12,.int .i64 (n:Int))] ⟨L6 B O b at_ n [.row 1 [x.F] 8,.row 1 [x.F] 8] (bools w),12,tch⟩)=some (.ok (.exit 0) fr' ⟨L6 B O b at_ n [.row 1 [x.F] 8,.row 1 [x.F] 8] (bools w),12,tch⟩):=by
 unfold Bc
 have hlt:decide ((n:Int) < (n:Int))=false:=by simp
 simp -implicitDefEqProofs only [hlt,XP,seval]
 exact ⟨_,rfl⟩
set_option maxHeartbeats 4000000 in
theorem EE (hP:T 105=none) (hw:w.length=n) (hr:r < n) (hs:n≤bigN) (hwr:writesD x < n) (hO:A6 n n O) :
 ∃ tch',evP ⟨A0,T,A5⟩ (.code Bc [(2,.ptr 1 0 0),(3,.ptr 12 0 0),(5,.int .i64 (writesD x)),(10,.msl 8 0 n 1),(11,.int .i64 (n:Int)),(12,.int .i64 (r:Int))] ⟨L6 B O b at_ n [.row 1 [x.F] 8,.row 1 [x.F] 8] (bools w),12,tch⟩)=some (.ok .normal [(2,.ptr 1 0 0),(3,.ptr 12 0 0),(5,.int .i64 (writesD x)),(10,.msl 8 0 n 1),(11,.int .i64 (n:Int)),(12,.int .i64 ((r + 1:Nat):Int))] ⟨L6 B (Mj x w r O) b at_ n [.row 1 [x.F] 8,.row 1 [x.F] 8] (bools w),12,tch'⟩):=by
 unfold Bc
 have hlt:decide ((r:Int) < (n:Int))=true:=by simp [hr]
 have hws:=B3 (i:=r) (by simp only [bigN] at hs; omega)
 have hrw:=C9 (l:=w) (i:=r) (by omega)
 have f2:=fun (args:List AV) (K:PK) (h:args.length≤20)=>(w5 (E:=A0) (F:=A5) (f:=105) (args:=args) (K:=K) hP rfl).trans (congrArg _ (A9 (E:=A0) (T:=T) (F:=A5) (args:=args) (c:=Kk) (nt:=20) (rs:=[]) rfl h))
 unfold Mj fZ
 unfold L6
 cases hv:w.getD r false with
 | false =>
  rw [hv] at hrw
  rw [if_neg (by simp)]
  simp only [Blk.F,Ins.F,List.cons_append,List.nil_append]
  simp -implicitDefEqProofs only [hlt,hws,hrw,hr,List.length_map,J1,J2,J3,J4,J5,J6,J7,D5,D6,D7,D8,D9,E0,XP,seval]
  exact ⟨_,rfl⟩
 | true =>
  rw [hv] at hrw
  by_cases h0:0≤writesD x
  . obtain ⟨d,hd⟩:=Int.eq_ofNat_of_zero_le h0
    have hdn:d < n:=by omega
    have hdec:decide (0≤(d:Int))=true:=by simp
    simp only [hd,Int.toNat_natCast]
    by_cases hg:x.op=2∧x.a=(r:Int)
    . rw [if_neg (by simp [hg.1,hg.2])]
      have e1:=hg.1
      have e2:=hg.2
      simp only [Blk.F,Ins.F,List.cons_append,List.nil_append]
      simp -implicitDefEqProofs only [hlt,hws,hrw,hr,hdec,e1,e2,List.length_map,J1,J2,J3,J4,J5,J6,J7,D5,D6,D7,D8,D9,E0,XP,seval]
      exact ⟨_,rfl⟩
    . have hgo:(true && decide (0≤(d:Int)) && !(decide (x.op=2) && decide (x.a=(r:Int))))=true:=by
       by_cases q1:x.op=2
       . have q2:¬ x.a=(r:Int):=fun h=>hg ⟨q1,h⟩
         simp [q1,q2]
       . simp [q1]
      rw [hgo,if_pos (by rfl)]
      by_cases hdr:d=r
      . have hne:decide ((d:Int)=(r:Int))=true:=by simp [hdr]
        rw [show pairD d r O=O by unfold pairD; rw [if_pos hdr]]
        simp only [Blk.F,Ins.F,List.cons_append,List.nil_append]
        by_cases q1:x.op=2
        . have q2:¬ x.a=(r:Int):=fun h=>hg ⟨q1,h⟩
          simp -implicitDefEqProofs only [hlt,hws,hrw,hr,hdec,f2,Kk,hne,q1,eq_false q2,List.length_map,J1,J2,J3,J4,J5,J6,J7,D5,D6,D7,D8,D9,E0,XP,seval]
          exact ⟨_,rfl⟩
        . simp -implicitDefEqProofs only [hlt,hws,hrw,hr,hdec,f2,Kk,hne,eq_false q1,List.length_map,J1,J2,J3,J4,J5,J6,J7,D5,D6,D7,D8,D9,E0,XP,seval]
          exact ⟨_,rfl⟩
      . have hne:decide ((d:Int)=(r:Int))=false:=by simp; omega
        have hOa:=G0 (A:=O) (i:=d) (by rw [hO.1]; exact hdn)
        have hOb:=G0 (A:=O) (i:=r) (by rw [hO.1]; exact hr)
        have hla:=hO.get hdn
        have hlb:=hO.get hr
        have hra:=C9 (l:=O.getD d []) (i:=r) (by omega)
        have hrb:=C9 (l:=O.getD r []) (i:=d) (by omega)
        have hg2:(O.set d ((O.getD d []).set r true)).getD r []=O.getD r []:=by
         rw [List.getD_eq_getElem?_getD,List.getElem?_set_ne hdr,List.getD_eq_getElem?_getD]
        have hn:(tab (O.set d ((O.getD d []).set r true)))[r]?=some (ownd 0 1 (bools (O.getD r []))):=by
         rw [← V8,List.getElem?_set_ne hdr]; exact hOb
        rw [show pairD d r O=(O.set d ((O.getD d []).set r true)).set r ((O.getD r []).set d true) by unfold pairD; rw [if_neg hdr,hg2]]
        simp only [Blk.F,Ins.F,List.cons_append,List.nil_append]
        by_cases q1:x.op=2
        . have q2:¬ x.a=(r:Int):=fun h=>hg ⟨q1,h⟩
          simp -implicitDefEqProofs only [hlt,hws,hrw,hr,hdn,hdec,f2,Kk,hne,q1,eq_false q2,hOa,hOb,hn,hra,hrb,hla,hlb,N6,V8,Bi,List.length_set,List.length_map,J1,J2,J3,J4,J5,J6,J7,D5,D6,D7,D8,D9,E0,XP,seval]
          exact ⟨_,rfl⟩
        . simp -implicitDefEqProofs only [hlt,hws,hrw,hr,hdn,hdec,f2,Kk,hne,eq_false q1,hOa,hOb,hn,hra,hrb,hla,hlb,N6,V8,Bi,List.length_set,List.length_map,J1,J2,J3,J4,J5,J6,J7,D5,D6,D7,D8,D9,E0,XP,seval]
          exact ⟨_,rfl⟩
  . have hdec:decide (0≤writesD x)=false:=by simp [h0]
    rw [if_neg (by simp [h0])]
    simp only [Blk.F,Ins.F,List.cons_append,List.nil_append]
    simp -implicitDefEqProofs only [hlt,hws,hrw,hr,hdec,List.length_map,J1,J2,J3,J4,J5,J6,J7,D5,D6,D7,D8,D9,E0,XP,seval]
    exact ⟨_,rfl⟩
def U8 (B O:List (List Bool)) (b:Blk) (at_ n:Nat) (ps:List PO) (w:List AV):List PO:=[.row 1 [.nilsl] 1,.row 1 [.fn (.func 105) [] [.ptr 0 0 0]] 1,.row 0 (tab B) 1,.row 1 [b.F] 5,.sub 2 at_ 0,.row 1 [b.F] 5,.row 1 [.fn (.func 107) [] [.ptr 1 0 0]] 1,.row 0 w 1,.row 1 [.msl 7 0 n 1] 1,.row 1 [fslN (b.code.map Ins.F)] 1] ++ ps
theorem xX {ps:List PO}:Lens (U8 B O b at_ n ps) 7 1:=⟨fun es=>rfl,fun es es'=>rfl,fun es=>rfl⟩
end
end Go.Proofs.AmEnv
set_option maxRecDepth 100000
namespace Go.Proofs.AmEnv
open Go Go.AM
variable {T:Nat->Option (List AV->Option (List AV))}
section
variable {b:Blk} {B O:List (List Bool)} {at_ n r:Nat} {w:List Bool} {x:Ins} {tch:List Nat} {fr:PF}
theorem vT (hP:T 105=none) (hw:w.length=n) (hs:n≤bigN) (hwr:writesD x < n):∀ (k r:Nat) (O:List (List Bool)) (tch:List Nat),n=r + k->A6 n n O ->
 ∃ fr' tch',evP ⟨A0,T,A5⟩ (.code (.loop Bc) [(2,.ptr 1 0 0),(3,.ptr 12 0 0),(5,.int .i64 (writesD x)),(10,.msl 8 0 n 1),(11,.int .i64 (n:Int)),(12,.int .i64 (r:Int))] ⟨L6 B O b at_ n [.row 1 [x.F] 8,.row 1 [x.F] 8] (bools (w)),12,tch⟩)=some (.ok (.exit 0) fr' ⟨L6 B (Ui x w k r O) b at_ n [.row 1 [x.F] 8,.row 1 [x.F] 8] (bools (w)),12,tch'⟩)
 | 0,r,O,tch,e,hO=>by
  obtain rfl:r=n:=by omega
  obtain ⟨fr',h⟩:=ED (T:=T) (b:=b) (B:=B) (O:=O) (at_:=at_) (x:=x) (tch:=tch) hw
  exact ⟨fr',tch,C4 h⟩
 | k + 1,r,O,tch,e,hO=>by
  obtain ⟨tch1,h⟩:=EE (T:=T) (b:=b) (B:=B) (at_:=at_) (r:=r) (tch:=tch) hP hw (by omega) hs hwr hO
  obtain ⟨fr',tch',h'⟩:=vT hP hw hs hwr k (r + 1) (Mj x w r O) tch1 (by omega) (hO.see hwr (by omega))
  exact ⟨fr',tch',(C2 h).trans h'⟩
set_option maxHeartbeats 2000000 in
theorem EF (hN:T 107=none) (hW:T 108=some B0) (hw:w.length=n) (hP:T 105=none) (hs:n≤bigN) (hwr:writesD x < n) (hO:A6 n n O) {ex:Nat} :
 ∃ tch',evP ⟨A0,T,A5⟩ (.call 107 [x.F,.msl 8 0 n 1,.ptr 1 0 0] ⟨L6 B O b at_ n [.row 1 [x.F] 8] (bools (w)),ex,tch⟩)=some (.val [] ⟨L6 B (Qu x w O) b at_ n [.row 1 [x.F] 8] (bools (w)),ex,tch'⟩):=by
 obtain ⟨fr',tch1,h⟩:=vT (T:=T) (b:=b) (B:=B) (at_:=at_) (w:=w) (x:=x) hP hw hs hwr n 0 O [] (by omega) hO
 rw [w5 hN rfl,A9 (c:=jO) (nt:=39) (rs:=[]) rfl (by simp)]
 unfold jO
 have t2:=fun K=>Y3 (K:=K) (x:=x) hW
 have hn0:Ui x w n 0 O=Qu x w O:=by unfold Qu; rw [hw]
 rw [hn0] at h
 rw [show ((0:Nat):Int)=0 from rfl] at h
 unfold L6 at h ⊢
 simp only [Blk.F,Ins.F,List.cons_append,List.nil_append] at t2 h ⊢
 simp -implicitDefEqProofs only [t2,h,List.length_map,J1,J2,J3,J4,J5,J6,J7,D5,D6,D7,D8,D9,E0,XP,seval]
 exact ⟨_,rfl⟩
set_option maxHeartbeats 4000000 in
theorem LG (hN:T 107=none) (hW:T 108=some B0) (hR:T 170=some B7) (hP:T 105=none) (hO:A6 n n O) {kk:Nat} (hk:x.ok) (hw:w.length=n) (hs:n≤bigN) (hwr:writesD x < n) (hrd:∀ r∈readsD x,0≤r∧r < (n:Int)) (h5:lookP fr 5=.ptr 7 0 0) (h7:lookP fr 7=.ptr 9 0 0) :
 ∃ fr1 tch',evP ⟨A0,T,A5⟩ (.round ⟨[33,34],R7,R6,fr⟩ [.int .i64 (kk:Int),x.F] ⟨L6 B O b at_ n [] (bools w),11,[]⟩)=some (.ok .normal fr1 ⟨L6 B (Qu x w O) b at_ n [] (bools (R5 w x)),11,tch'⟩):=by
 rw [Oh rfl]
 unfold R7 R6
 obtain ⟨tch1,t1⟩:=EF (T:=T) (b:=b) (B:=B) (O:=O) (at_:=at_) (w:=w) (x:=x) (tch:=[11]) (ex:=11) hN hW hw hP hs hwr hO
 have t2:=fun K=>Y3 (K:=K) (x:=x) hW
 have t3:=fun K=>El (K:=K) (x:=x) hR hk
 have hrl:(readsD x).length≤bigN:=by
  have:=Kq x
  have h2:x.args.length * 8≤bigN:=hk
  simp only [bigN] at h2 ⊢
  omega
 have go:∀ w':List Bool,w'.length=n->∃ (FR:PF->List Nat->PF) (TC:PF->List Nat->List Nat),∀ (fr:PF) (tch:List Nat),lookP fr 7=.ptr 9 0 0->lookP fr 47=.msl 12 0 (readsD x).length 1->lookP fr 48=.int .i64 ((readsD x).length:Int)->lookP fr 49=.int .i64 0 ->
  evP ⟨A0,T,A5⟩ (.code (.loop m8) fr ⟨L6 B (Qu x w O) b at_ n [.row 1 [x.F] 8,.row 0 (ints (readsD x)) 1] (bools w'),11,tch⟩)=some (.ok (.exit 2) (FR fr tch) ⟨L6 B (Qu x w O) b at_ n [.row 1 [x.F] 8,.row 0 (ints (readsD x)) 1] (bools ((readsD x).foldl Gy w')),11,TC fr tch⟩)∧∀ y∈TC fr tch,y∈tch∨y=8:=fun w' hw'=>xP xW (fun _=>rfl) (fun _=>rfl) (fun _=>rfl) hrl hrd hw'
 by_cases h0:0≤writesD x
 . obtain ⟨d,hd⟩:=Int.eq_ofNat_of_zero_le h0
   have hdn:d < n:=by omega
   obtain ⟨FR,TC,hl⟩:=go (w.set d false) (by simpa using hw)
   have es:R5 w x=(readsD x).foldl Gy (w.set d false):=by unfold R5; rw [if_pos h0,hd]; rfl
   have hg:=C9 (l:=w) (i:=d) (by omega)
   have hdec:decide (0≤(d:Int))=true:=by simp
   simp only [hd] at t2
   have hl1:=fun fr tch a b c d=>(hl fr tch a b c d).1
   rw [es]
   unfold L6 at t1 hl1 ⊢
   simp only [Blk.F,Ins.F,List.cons_append,List.nil_append] at t1 t2 t3 hl1 ⊢
   simp -implicitDefEqProofs only [U2,Y7,Hk,h5,h7,t1,t2,t3,hdec,hdn,hg,N6,hl1,J1,J2,J3,J4,J5,J6,J7,D5,D6,D7,D8,D9,E0,List.length_map,XP,seval]
   exact ⟨_,_,rfl⟩
 . obtain ⟨FR,TC,hl⟩:=go w hw
   have es:R5 w x=(readsD x).foldl Gy w:=by unfold R5; rw [if_neg h0]
   have hdec:decide (0≤writesD x)=false:=by simp [h0]
   have hl1:=fun fr tch a b c d=>(hl fr tch a b c d).1
   rw [es]
   unfold L6 at t1 hl1 ⊢
   simp only [Blk.F,Ins.F,List.cons_append,List.nil_append] at t1 t2 t3 hl1 ⊢
   simp -implicitDefEqProofs only [U2,Y7,Hk,h5,h7,t1,t2,t3,hdec,hl1,J1,J2,J3,J4,J5,J6,J7,D5,D6,D7,D8,D9,E0,List.length_map,XP,seval]
   exact ⟨_,_,rfl⟩
theorem EG (hz:n=0):∃ fr',evP ⟨A0,T,A5⟩ (.code Bc [(2,.ptr 1 0 0),(3,.ptr 11 0 0),(5,.int .i64 (writesD x)),(10,.msl 7 0 n 1),(11,.int .i64 (n:Int)),(12,.int .i64 0)] ⟨U8 B O b at_ n [.row 1 [x.F] 8,.row 1 [x.F] 8] (bools (w)),11,tch⟩)=some (.ok (.exit 0) fr' ⟨U8 B O b at_ n [.row 1 [x.F] 8,.row 1 [x.F] 8] (bools (w)),11,tch⟩):=by
 unfold Bc
 have hlt:decide ((0:Int) < (n:Int))=false:=by simp; omega
 simp -implicitDefEqProofs only [hlt,XP,seval]
 exact ⟨_,rfl⟩
set_option maxHeartbeats 2000000 in
theorem EH (hN:T 107=none) (hW:T 108=some B0) (hw:w.length=n) (hz:n=0) {ex:Nat} :
 ∃ tch',evP ⟨A0,T,A5⟩ (.call 107 [x.F,.msl 7 0 n 1,.ptr 1 0 0] ⟨U8 B O b at_ n [.row 1 [x.F] 8] (bools (w)),ex,tch⟩)=some (.val [] ⟨U8 B O b at_ n [.row 1 [x.F] 8] (bools (w)),ex,tch'⟩):=by
 obtain ⟨fr',h⟩:=EG (T:=T) (b:=b) (B:=B) (O:=O) (at_:=at_) (n:=n) (w:=w) (x:=x) (tch:=[]) hz
 rw [w5 hN rfl,A9 (c:=jO) (nt:=39) (rs:=[]) rfl (by simp)]
 unfold jO
 have t2:=fun K=>Y3 (K:=K) (x:=x) hW
 have h:=C4 (c:=Bc) h
 unfold U8 at h ⊢
 simp only [Blk.F,Ins.F,List.cons_append,List.nil_append] at t2 h ⊢
 simp -implicitDefEqProofs only [t2,h,List.length_map,J1,J2,J3,J4,J5,J6,J7,D5,D6,D7,D8,D9,E0,XP,seval]
 exact ⟨_,rfl⟩
set_option maxHeartbeats 4000000 in
theorem LH (hN:T 107=none) (hW:T 108=some B0) (hR:T 170=some B7) (hz:n=0) {kk:Nat} (hk:x.ok) (hw:w.length=n) (hs:n≤bigN) (hwr:writesD x < n) (hrd:∀ r∈readsD x,0≤r∧r < (n:Int)) (h5:lookP fr 5=.ptr 6 0 0) (h7:lookP fr 7=.ptr 8 0 0) :
 ∃ fr1 tch',evP ⟨A0,T,A5⟩ (.round ⟨[33,34],R7,R6,fr⟩ [.int .i64 (kk:Int),x.F] ⟨U8 B O b at_ n [] (bools w),10,[]⟩)=some (.ok .normal fr1 ⟨U8 B O b at_ n [] (bools (R5 w x)),10,tch'⟩):=by
 rw [Oh rfl]
 unfold R7 R6
 obtain ⟨tch1,t1⟩:=EH (T:=T) (b:=b) (B:=B) (O:=O) (at_:=at_) (w:=w) (x:=x) (tch:=[10]) (ex:=10) hN hW hw hz
 have t2:=fun K=>Y3 (K:=K) (x:=x) hW
 have t3:=fun K=>El (K:=K) (x:=x) hR hk
 have hrl:(readsD x).length≤bigN:=by
  have:=Kq x
  have h2:x.args.length * 8≤bigN:=hk
  simp only [bigN] at h2 ⊢
  omega
 have go:∀ w':List Bool,w'.length=n->∃ (FR:PF->List Nat->PF) (TC:PF->List Nat->List Nat),∀ (fr:PF) (tch:List Nat),lookP fr 7=.ptr 8 0 0->lookP fr 47=.msl 11 0 (readsD x).length 1->lookP fr 48=.int .i64 ((readsD x).length:Int)->lookP fr 49=.int .i64 0 ->
  evP ⟨A0,T,A5⟩ (.code (.loop m8) fr ⟨U8 B O b at_ n [.row 1 [x.F] 8,.row 0 (ints (readsD x)) 1] (bools w'),10,tch⟩)=some (.ok (.exit 2) (FR fr tch) ⟨U8 B O b at_ n [.row 1 [x.F] 8,.row 0 (ints (readsD x)) 1] (bools ((readsD x).foldl Gy w')),10,TC fr tch⟩)∧∀ y∈TC fr tch,y∈tch∨y=7:=fun w' hw'=>xP xX (fun _=>rfl) (fun _=>rfl) (fun _=>rfl) hrl hrd hw'
 have h0:¬ 0≤writesD x:=by omega
 obtain ⟨FR,TC,hl⟩:=go w hw
 have es:R5 w x=(readsD x).foldl Gy w:=by unfold R5; rw [if_neg h0]
 have hdec:decide (0≤writesD x)=false:=by simp [h0]
 have hl1:=fun fr tch a b c d=>(hl fr tch a b c d).1
 rw [es]
 unfold U8 at t1 hl1 ⊢
 simp only [Blk.F,Ins.F,List.cons_append,List.nil_append] at t1 t2 t3 hl1 ⊢
 simp -implicitDefEqProofs only [U2,Y7,Hk,h5,h7,t1,t2,t3,hdec,hl1,J1,J2,J3,J4,J5,J6,J7,D5,D6,D7,D8,D9,E0,List.length_map,XP,seval]
 exact ⟨_,_,rfl⟩
end
end Go.Proofs.AmEnv
set_option maxRecDepth 100000
namespace Go.Proofs.AmEnv
open Go Go.AM
variable {T:Nat->Option (List AV->Option (List AV))}
def Sb (l:List Ins):Nat->List Bool × List (List Bool)->List Bool × List (List Bool)
 | 0,s=>s
 | k + 1,s=>Sb l k (match l[k]? with | some x=>(R5 s.1 x,Qu x s.1 s.2) | none=>s)
def qC (b:Blk) (w:List Bool) (O:List (List Bool)):List Bool × List (List Bool):=Sb b.code b.code.length (endW b w,O)
section
variable {c:Cod} {b:Blk} {B O:List (List Bool)} {at_ n r:Nat} {w:List Bool} {x:Ins} {tch:List Nat} {fr:PF}
theorem LI (hN:T 107=none) (hW:T 108=some B0) (hR:T 170=some B7) (hP:T 105=none) (hb:WOk n b) (hs:n≤bigN) (hO:A6 n n O) {w0:List Bool} (hw0:w0.length=n) {ex:Nat} :
 ∃ TC:PF->List Nat->List Nat,∀ (fr:PF) (tch:List Nat),lookP fr 5=.ptr 7 0 0->lookP fr 7=.ptr 9 0 0->lookP fr 32=.fn (.func 188) [] [.ptr 10 0 0] ->
   evP ⟨A0,T,A5⟩ (.code (.rfn (.tmp 32) [33,34] R7 R6) fr ⟨L6 B O b at_ n [] (bools w0),ex,tch⟩)=some (.ok .normal fr ⟨L6 B (Sb b.code b.code.length (w0,O)).2 b at_ n [] (bools (Sb b.code b.code.length (w0,O)).1),ex,TC fr tch⟩):=by
 have key:∀ x:PF × List Nat,∃ y:List Nat,lookP x.1 5=.ptr 7 0 0->lookP x.1 7=.ptr 9 0 0->lookP x.1 32=.fn (.func 188) [] [.ptr 10 0 0] ->
  evP ⟨A0,T,A5⟩ (.code (.rfn (.tmp 32) [33,34] R7 R6) x.1 ⟨L6 B O b at_ n [] (bools w0),ex,x.2⟩)=some (.ok .normal x.1 ⟨L6 B (Sb b.code b.code.length (w0,O)).2 b at_ n [] (bools (Sb b.code b.code.length (w0,O)).1),ex,y⟩):=fun x=>by
  by_cases h:lookP x.1 5=.ptr 7 0 0∧lookP x.1 7=.ptr 9 0 0∧lookP x.1 32=.fn (.func 188) [] [.ptr 10 0 0]
  . obtain ⟨K',h1,w',O',tch',rfl,h3,h3b,h4⟩:=nK (T:=T) (l:=b.code) (f:=(b.code.map Ins.F).isEmpty) (fr:=x.1) (g:=.tmp 32) (ps:=[33,34]) (ca:=R7) (cb:=R6) (b:=10) (K:=⟨L6 B O b at_ n [] (bools w0),ex,x.2⟩)
     (Inv:=fun i K=>∃ w O' tch,K=⟨L6 B O' b at_ n [] (bools w),11,tch⟩∧w.length=n∧A6 n n O'∧Sb b.code i (w,O')=Sb b.code b.code.length (w0,O)) hb.sz hb.ln h.2.2
     (fun i K _ hI=>by obtain ⟨w,O',tch,rfl,_⟩:=hI; rfl)
     (fun i hi K hI=>by
       obtain ⟨w,O',tch,rfl,h3,h3b,h4⟩:=hI
       have hm:=List.getElem_mem hi
       obtain ⟨fr1,tch',h6⟩:=LG (T:=T) (b:=b) (B:=B) (O:=O') (at_:=at_) (n:=n) (kk:=i) (w:=w) (x:=b.code[i]) (fr:=x.1) hN hW hR hP h3b (hb.ok _ hm) h3 hs (hb.wr _ hm) (hb.rd _ hm) h.1 h.2.1
       refine ⟨fr1,_,h6,R5 w b.code[i],Qu b.code[i] w O',tch' ++ tch,rfl,(j8 _ _).trans h3,A6.sees (hb.wr _ hm) _ _ (by omega) h3b,?_⟩
       rw [Sb,List.getElem?_eq_getElem hi] at h4; exact h4)
     ⟨w0,O,[],rfl,hw0,hO,rfl⟩
    exact ⟨_,fun _ _ _=>by rw [h1]; rw [Sb] at h4; rw [← h4]⟩
  . exact ⟨[],fun a b c=>absurd ⟨a,b,c⟩ h⟩
 exact ⟨fun fr tch=>(key (fr,tch)).choose,fun fr tch=>(key (fr,tch)).choose_spec⟩
set_option maxHeartbeats 2000000 in
theorem dT (hWk:T 101=none) (hNB:T 125=none) (hCl:T 169=some C0) (hN:T 107=none) (hW:T 108=some B0) (hR:T 170=some B7) (hP:T 105=none) (hb:WOk n b) (hs:n≤bigN) (hO:A6 n n O) (hB:at_ < B.length) (hl:(B.getD at_ []).length=n) :
 ∃ tch',evP ⟨A0,T,A5⟩ (.call 101 [b.F,.msl 5 0 n 1,.fn (.func 107) [] [.ptr 1 0 0]] ⟨[.row 1 [.msl 3 0 n 1] 1,.row 1 [.fn (.func 105) [] [.ptr 0 0 0]] 1,.row 0 (tab B) 1,.row 0 (tab O) 1,.row 1 [b.F] 5,.sub 2 at_ 0],0,tch⟩)=some (.val [.msl 8 0 n 1] ⟨L6 B (qC b (B.getD at_ []) O).2 b at_ n [] (bools (qC b (B.getD at_ []) O).1),0,tch'⟩):=by
 have h3:=G0 hB
 have hv:∀ os,rowOf os 6 5=some (0,bools (B.getD at_ []),1)->viewAs os [.msl 5 0 n 1]=some [fslN (bools (B.getD at_ []))]:=fun os h=>by
  have e:X4 os (.msl 5 0 n 1)=some (fslN (bools (B.getD at_ []))):=by
   show (match rowOf os 6 5 with | some (k,es,z)=>(if k=0∧1=z∧0 + n≤es.length then (match frzL ((es.drop 0).take n) with | some es=>some (fslN es) | none=>none) else none) | none=>none)=_
   rw [h]
   dsimp only
   rw [if_pos ⟨rfl,rfl,by rw [List.length_map]; omega⟩,List.drop_zero,List.take_of_length_le (by rw [List.length_map]; omega),frzL_bools]
  show Aj (X4 os (.msl 5 0 n 1)) (some [])=_
  rw [e]; rfl
 have tc:=fun K (h:viewAs K.os [.msl 5 0 n 1]=some [fslN (bools (B.getD at_ []))])=>E1 (E:=A0) (F:=A5) (K:=K) hCl h (o7 (by rw [hl]; omega)) (by simp -implicitDefEqProofs only [noFL_bools,XP,seval])
 have tb:=fun K=>Qp (K:=K) (l:=b.code) hNB
 obtain ⟨TC,hw⟩:=LI (T:=T) (ex:=6) (b:=b) (B:=B) (O:=O) (at_:=at_) (n:=n) (w0:=endW b (B.getD at_ [])) hN hW hR hP hb hs hO ((Ag _ _).trans hl)
 rw [w5 hWk rfl,A9 (c:=Zy) (nt:=58) (rs:=[.tmp 6]) rfl (by simp)]
 unfold Zy qC
 by_cases e1:b.e.kind=1
 . rw [show endW b (B.getD at_ [])=B.getD at_ [] by unfold endW; rw [if_neg (fun h=>h.1 e1)]] at hw ⊢
   unfold L6 at hw ⊢
   simp only [Blk.F,List.cons_append,List.nil_append] at hw ⊢
   simp -implicitDefEqProofs only [h3,tb,tc,hv,eq_true e1,hw,hl,List.length_map,J1,J2,J3,J4,J5,J6,J7,D5,D6,D7,D8,D9,E0,XP,seval]
   exact ⟨_,rfl⟩
 by_cases e2:0≤b.e.a
 . obtain ⟨d,hd⟩:=Int.eq_ofNat_of_zero_le e2
   have hdn:d < n:=by have:=hb.ea e1; omega
   have hg:=C9 (l:=B.getD at_ []) (i:=d) (by omega)
   rw [show endW b (B.getD at_ [])=(B.getD at_ []).set d true by unfold endW; rw [if_pos ⟨e1,e2⟩,hd]; rfl] at hw ⊢
   have hdec:decide (0≤(d:Int))=true:=by simp
   unfold L6 at hw ⊢
   simp only [Blk.F,List.cons_append,List.nil_append,hd] at hw ⊢
   simp -implicitDefEqProofs only [h3,tb,tc,hv,eq_false e1,hdec,hdn,hg,N6,hw,hl,List.length_map,J1,J2,J3,J4,J5,J6,J7,D5,D6,D7,D8,D9,E0,XP,seval]
   exact ⟨_,rfl⟩
 . rw [show endW b (B.getD at_ [])=B.getD at_ [] by unfold endW; rw [if_neg (fun h=>e2 h.2)]] at hw ⊢
   have hdec:decide (0≤b.e.a)=false:=by simp [e2]
   unfold L6 at hw ⊢
   simp only [Blk.F,List.cons_append,List.nil_append] at hw ⊢
   simp -implicitDefEqProofs only [h3,tb,tc,hv,eq_false e1,hdec,hw,hl,List.length_map,J1,J2,J3,J4,J5,J6,J7,D5,D6,D7,D8,D9,E0,XP,seval]
   exact ⟨_,rfl⟩
set_option maxHeartbeats 2000000 in
theorem LJ (hWk:T 101=none) (hNB:T 125=none) (hCl:T 169=some C0) (hN:T 107=none) (hW:T 108=some B0) (hR:T 170=some B7) (hP:T 105=none) (hat:at_ < c.blocks.length) (hb:WOk n c.blocks[at_]) (hbl:c.blocks.length≤60000) (hs:n≤bigN) (hO:A6 n n O) (hB:A6 c.blocks.length n B) :
 evP ⟨A0,T,A5⟩ (.code Ii [(3,.ptr 0 0 0),(4,.ptr 1 0 0),(6,.msl 2 0 c.blocks.length 1),(57,fslN (c.blocks.map Blk.F)),(58,.int .i64 (c.blocks.length:Int)),(59,.int .i64 (at_:Int))] ⟨[.row 1 [.msl 3 0 n 1] 1,.row 1 [.fn (.func 105) [] [.ptr 0 0 0]] 1,.row 0 (tab B) 1,.row 0 (tab O) 1],0,[]⟩)=some (.ok .normal [(3,.ptr 0 0 0),(4,.ptr 1 0 0),(6,.msl 2 0 c.blocks.length 1),(57,fslN (c.blocks.map Blk.F)),(58,.int .i64 (c.blocks.length:Int)),(59,.int .i64 ((at_ + 1:Nat):Int))] ⟨[.row 1 [.msl 3 0 n 1] 1,.row 1 [.fn (.func 105) [] [.ptr 0 0 0]] 1,.row 0 (tab B) 1,.row 0 (tab (qC c.blocks[at_] (B.getD at_ []) O).2) 1],0,[]⟩):=by
 obtain ⟨tch',h⟩:=dT (T:=T) (b:=c.blocks[at_]) (B:=B) (O:=O) (at_:=at_) (n:=n) (tch:=[4]) hWk hNB hCl hN hW hR hP hb hs hO (by rw [hB.1]; exact hat) (hB.get hat)
 unfold Ii
 have hlt:decide ((at_:Int) < (c.blocks.length:Int))=true:=by simp [hat]
 have hws:=B3 (i:=at_) (by omega)
 have h1:=D2 (F:=Blk.F) hat
 have h3:=G0 (A:=B) (i:=at_) (by rw [hB.1]; exact hat)
 have hl:=hB.get hat
 generalize c.blocks[at_]=b at h h1 ⊢
 unfold L6 at h
 simp only [Blk.F,List.cons_append,List.nil_append] at h h1 ⊢
 simp -implicitDefEqProofs only [hlt,hws,h1,h3,hl,hat,h,List.length_map,J1,J2,J3,J4,J5,J6,J7,D5,D6,D7,D8,D9,E0,XP,seval]
theorem LK (hN:T 107=none) (hW:T 108=some B0) (hR:T 170=some B7) (hz:n=0) (hb:WOk n b) (hs:n≤bigN) (hO:A6 n n O) {w0:List Bool} (hw0:w0.length=n) {ex:Nat} :
 ∃ TC:PF->List Nat->List Nat,∀ (fr:PF) (tch:List Nat),lookP fr 5=.ptr 6 0 0->lookP fr 7=.ptr 8 0 0->lookP fr 32=.fn (.func 188) [] [.ptr 9 0 0] ->
   evP ⟨A0,T,A5⟩ (.code (.rfn (.tmp 32) [33,34] R7 R6) fr ⟨U8 B O b at_ n [] (bools w0),ex,tch⟩)=some (.ok .normal fr ⟨U8 B (Sb b.code b.code.length (w0,O)).2 b at_ n [] (bools (Sb b.code b.code.length (w0,O)).1),ex,TC fr tch⟩):=by
 have key:∀ x:PF × List Nat,∃ y:List Nat,lookP x.1 5=.ptr 6 0 0->lookP x.1 7=.ptr 8 0 0->lookP x.1 32=.fn (.func 188) [] [.ptr 9 0 0] ->
  evP ⟨A0,T,A5⟩ (.code (.rfn (.tmp 32) [33,34] R7 R6) x.1 ⟨U8 B O b at_ n [] (bools w0),ex,x.2⟩)=some (.ok .normal x.1 ⟨U8 B (Sb b.code b.code.length (w0,O)).2 b at_ n [] (bools (Sb b.code b.code.length (w0,O)).1),ex,y⟩):=fun x=>by
  by_cases h:lookP x.1 5=.ptr 6 0 0∧lookP x.1 7=.ptr 8 0 0∧lookP x.1 32=.fn (.func 188) [] [.ptr 9 0 0]
  . obtain ⟨K',h1,w',O',tch',rfl,h3,h3b,h4⟩:=nK (T:=T) (l:=b.code) (f:=(b.code.map Ins.F).isEmpty) (fr:=x.1) (g:=.tmp 32) (ps:=[33,34]) (ca:=R7) (cb:=R6) (b:=9) (K:=⟨U8 B O b at_ n [] (bools w0),ex,x.2⟩)
     (Inv:=fun i K=>∃ w O' tch,K=⟨U8 B O' b at_ n [] (bools w),10,tch⟩∧w.length=n∧A6 n n O'∧Sb b.code i (w,O')=Sb b.code b.code.length (w0,O)) hb.sz hb.ln h.2.2
     (fun i K _ hI=>by obtain ⟨w,O',tch,rfl,_⟩:=hI; rfl)
     (fun i hi K hI=>by
       obtain ⟨w,O',tch,rfl,h3,h3b,h4⟩:=hI
       have hm:=List.getElem_mem hi
       obtain ⟨fr1,tch',h6⟩:=LH (T:=T) (b:=b) (B:=B) (O:=O') (at_:=at_) (n:=n) (kk:=i) (w:=w) (x:=b.code[i]) (fr:=x.1) hN hW hR hz (hb.ok _ hm) h3 hs (hb.wr _ hm) (hb.rd _ hm) h.1 h.2.1
       refine ⟨fr1,_,h6,R5 w b.code[i],Qu b.code[i] w O',tch' ++ tch,rfl,(j8 _ _).trans h3,A6.sees (hb.wr _ hm) _ _ (by omega) h3b,?_⟩
       rw [Sb,List.getElem?_eq_getElem hi] at h4; exact h4)
     ⟨w0,O,[],rfl,hw0,hO,rfl⟩
    exact ⟨_,fun _ _ _=>by rw [h1]; rw [Sb] at h4; rw [← h4]⟩
  . exact ⟨[],fun a b c=>absurd ⟨a,b,c⟩ h⟩
 exact ⟨fun fr tch=>(key (fr,tch)).choose,fun fr tch=>(key (fr,tch)).choose_spec⟩
set_option maxHeartbeats 2000000 in
theorem dU (hWk:T 101=none) (hNB:T 125=none) (hCl:T 169=some C0) (hN:T 107=none) (hW:T 108=some B0) (hR:T 170=some B7) (hz:n=0) (hb:WOk n b) (hs:n≤bigN) (hO:A6 n n O) (hB:at_ < B.length) (hl:(B.getD at_ []).length=n) :
 ∃ tch',evP ⟨A0,T,A5⟩ (.call 101 [b.F,.msl 4 0 n 1,.fn (.func 107) [] [.ptr 1 0 0]] ⟨[.row 1 [.nilsl] 1,.row 1 [.fn (.func 105) [] [.ptr 0 0 0]] 1,.row 0 (tab B) 1,.row 1 [b.F] 5,.sub 2 at_ 0],0,tch⟩)=some (.val [.msl 7 0 n 1] ⟨U8 B (qC b (B.getD at_ []) O).2 b at_ n [] (bools (qC b (B.getD at_ []) O).1),0,tch'⟩):=by
 have h3:=G0 hB
 have hv:∀ os,rowOf os 6 4=some (0,bools (B.getD at_ []),1)->viewAs os [.msl 4 0 n 1]=some [fslN (bools (B.getD at_ []))]:=fun os h=>by
  have e:X4 os (.msl 4 0 n 1)=some (fslN (bools (B.getD at_ []))):=by
   show (match rowOf os 6 4 with | some (k,es,z)=>(if k=0∧1=z∧0 + n≤es.length then (match frzL ((es.drop 0).take n) with | some es=>some (fslN es) | none=>none) else none) | none=>none)=_
   rw [h]
   dsimp only
   rw [if_pos ⟨rfl,rfl,by rw [List.length_map]; omega⟩,List.drop_zero,List.take_of_length_le (by rw [List.length_map]; omega),frzL_bools]
  show Aj (X4 os (.msl 4 0 n 1)) (some [])=_
  rw [e]; rfl
 have tc:=fun K (h:viewAs K.os [.msl 4 0 n 1]=some [fslN (bools (B.getD at_ []))])=>E1 (E:=A0) (F:=A5) (K:=K) hCl h (o7 (by rw [hl]; omega)) (by simp -implicitDefEqProofs only [noFL_bools,XP,seval])
 have tb:=fun K=>Qp (K:=K) (l:=b.code) hNB
 obtain ⟨TC,hw⟩:=LK (T:=T) (ex:=5) (b:=b) (B:=B) (O:=O) (at_:=at_) (n:=n) (w0:=endW b (B.getD at_ [])) hN hW hR hz hb hs hO ((Ag _ _).trans hl)
 rw [w5 hWk rfl,A9 (c:=Zy) (nt:=58) (rs:=[.tmp 6]) rfl (by simp)]
 unfold Zy qC
 have hnn:∀ i:Nat,(endW b (B.getD at_ []))=B.getD at_ []:=fun _=>by
  unfold endW
  split
  . rename_i h; have:=hb.ea h.1; omega
  . rfl
 rw [hnn 0] at hw ⊢
 unfold U8 at hw ⊢
 simp only [Blk.F,List.cons_append,List.nil_append] at hw ⊢
 by_cases e1:b.e.kind=1
 . simp -implicitDefEqProofs only [h3,tb,tc,hv,eq_true e1,hw,hl,List.length_map,J1,J2,J3,J4,J5,J6,J7,D5,D6,D7,D8,D9,E0,XP,seval]
   exact ⟨_,rfl⟩
 . have e2:¬ 0≤b.e.a:=by have:=hb.ea e1; omega
   have hdec:decide (0≤b.e.a)=false:=by simp [e2]
   simp -implicitDefEqProofs only [h3,tb,tc,hv,eq_false e1,hdec,hw,hl,List.length_map,J1,J2,J3,J4,J5,J6,J7,D5,D6,D7,D8,D9,E0,XP,seval]
   exact ⟨_,rfl⟩
set_option maxHeartbeats 2000000 in
theorem LL (hWk:T 101=none) (hNB:T 125=none) (hCl:T 169=some C0) (hN:T 107=none) (hW:T 108=some B0) (hR:T 170=some B7) (hz:n=0) (hat:at_ < c.blocks.length) (hb:WOk n c.blocks[at_]) (hbl:c.blocks.length≤60000) (hs:n≤bigN) (hO:A6 n n O) (hB:A6 c.blocks.length n B) :
 evP ⟨A0,T,A5⟩ (.code Ii [(3,.ptr 0 0 0),(4,.ptr 1 0 0),(6,.msl 2 0 c.blocks.length 1),(57,fslN (c.blocks.map Blk.F)),(58,.int .i64 (c.blocks.length:Int)),(59,.int .i64 (at_:Int))] ⟨[.row 1 [.nilsl] 1,.row 1 [.fn (.func 105) [] [.ptr 0 0 0]] 1,.row 0 (tab B) 1],0,[]⟩)=some (.ok .normal [(3,.ptr 0 0 0),(4,.ptr 1 0 0),(6,.msl 2 0 c.blocks.length 1),(57,fslN (c.blocks.map Blk.F)),(58,.int .i64 (c.blocks.length:Int)),(59,.int .i64 ((at_ + 1:Nat):Int))] ⟨[.row 1 [.nilsl] 1,.row 1 [.fn (.func 105) [] [.ptr 0 0 0]] 1,.row 0 (tab B) 1],0,[]⟩):=by
 obtain ⟨tch',h⟩:=dU (T:=T) (b:=c.blocks[at_]) (B:=B) (O:=O) (at_:=at_) (n:=n) (tch:=[3]) hWk hNB hCl hN hW hR hz hb hs hO (by rw [hB.1]; exact hat) (hB.get hat)
 unfold Ii
 have hlt:decide ((at_:Int) < (c.blocks.length:Int))=true:=by simp [hat]
 have hws:=B3 (i:=at_) (by omega)
 have h1:=D2 (F:=Blk.F) hat
 have h3:=G0 (A:=B) (i:=at_) (by rw [hB.1]; exact hat)
 have hl:=hB.get hat
 generalize c.blocks[at_]=b at h h1 ⊢
 unfold U8 at h
 simp only [Blk.F,List.cons_append,List.nil_append] at h h1 ⊢
 simp -implicitDefEqProofs only [hlt,hws,h1,h3,hl,hat,h,List.length_map,J1,J2,J3,J4,J5,J6,J7,D5,D6,D7,D8,D9,E0,XP,seval]
end
end Go.Proofs.AmEnv
set_option maxRecDepth 100000
namespace Go.Proofs.AmEnv
open Go Go.AM
variable {T:Nat->Option (List AV->Option (List AV))}
def Ss (c:Cod) (A:List (List Bool)) (a:Nat):Nat->Nat->List (List Bool)->List (List Bool)
 | 0,_,O=>O
 | k + 1,b,O=>Ss c A a k (b + 1) (if I5 c A a && I5 c A b then pairD a b O else O)
def cabA (c:Cod) (A:List (List Bool)):Nat->Nat->List (List Bool)->List (List Bool)
 | 0,_,O=>O
 | k + 1,a,O=>cabA c A k (a + 1) (Ss c A a a 0 O)
def ckGo (l:List Blk) (B:List (List Bool)):Nat->Nat->List (List Bool)->List (List Bool)
 | 0,_,O=>O
 | k + 1,i,O=>ckGo l B k (i + 1) (match l[i]? with | some b=>(qC b (B.getD i []) O).2 | none=>O)
def clashD (c:Cod):List (List Bool):=ckGo c.blocks (liveD c).2.1 c.blocks.length 0 (cabA c (liveD c).1 c.regs.length 0 (noneT c.regs.length c.regs.length))
theorem Bj {c:Cod} {A:List (List Bool)} {n a:Nat} (ha:a < n):∀ (k b:Nat) {O:List (List Bool)},b + k≤n->A6 n n O->A6 n n (Ss c A a k b O)
 | 0,b,O,_,h=>h
 | k + 1,b,O,e,h=>by
  unfold Ss
  refine Bj ha k (b + 1) (by omega) ?_
  split
  . exact h.pair ha (by omega)
  . exact h
theorem Bk {c:Cod} {A:List (List Bool)} {n:Nat}:∀ (k a:Nat) {O:List (List Bool)},a + k≤n->A6 n n O->A6 n n (cabA c A k a O)
 | 0,a,O,_,h=>h
 | k + 1,a,O,e,h=>Bk k (a + 1) (by omega) (Bj (by omega) a 0 (by omega) h)
theorem Ks {n:Nat} {b:Blk} (hb:WOk n b):∀ (k:Nat) {s:List Bool × List (List Bool)},s.1.length=n->A6 n n s.2->A6 n n (Sb b.code k s).2
 | 0,s,_,h=>h
 | k + 1,s,hl,h=>by
  unfold Sb
  cases hq:b.code[k]? with
  | none=>exact Ks hb k hl h
  | some x =>
   have hx:=List.mem_of_getElem? hq
   exact Ks hb k (s:=(R5 s.1 x,Qu x s.1 s.2)) ((j8 _ _).trans hl) (A6.sees (hb.wr _ hx) _ _ (by omega) h)
theorem Kt {n:Nat} {b:Blk} (hb:WOk n b) {w:List Bool} {O:List (List Bool)} (hw:w.length=n) (h:A6 n n O):A6 n n (qC b w O).2:=Ks hb _ ((Ag _ _).trans hw) h
section
variable {c:Cod} {A B O:List (List Bool)} {a b i n:Nat} {tch:List Nat}
theorem EI {K:PK}:∃ fr',evP ⟨A0,T,A5⟩ (.code Ue [(1,.ptr 0 0 0),(3,.ptr 1 0 0),(4,.ptr 2 0 0),(6,.msl 3 0 c.blocks.length 1),(7,.fn (.func 106) [] [.ptr 0 0 0,.ptr 4 0 0]),(8,.int .i64 (a:Int)),(34,.int .i64 (c.regs.length:Int)),(35,.int .i64 (a:Int)),(38,.int .i64 (a:Int)),(39,.int .i64 (a:Int))] K)=some (.ok (.exit 4) fr' K)∧(lookP fr' 1=.ptr 0 0 0∧lookP fr' 3=.ptr 1 0 0∧lookP fr' 4=.ptr 2 0 0∧lookP fr' 6=.msl 3 0 c.blocks.length 1∧lookP fr' 7=.fn (.func 106) [] [.ptr 0 0 0,.ptr 4 0 0]∧lookP fr' 34=.int .i64 (c.regs.length:Int)∧lookP fr' 35=.int .i64 (a:Int)):=by
 unfold Ue
 have hlt:decide ((a:Int) < (a:Int))=false:=by simp
 simp -implicitDefEqProofs only [hlt,XP,seval]
 exact ⟨_,rfl,rfl,rfl,rfl,rfl,rfl,rfl,rfl⟩
theorem vU (hP:T 105=none) (hF:T 106=none) (ha:a < c.regs.length) (hr:c.regs.length * 24≤bigN) (h0:0 < c.blocks.length) (hA:A6 c.blocks.length c.regs.length A):∀ (k b:Nat) (O:List (List Bool)),a=b + k->A6 c.regs.length c.regs.length O ->
 ∃ fr',evP ⟨A0,T,A5⟩ (.code (.loop Ue) [(1,.ptr 0 0 0),(3,.ptr 1 0 0),(4,.ptr 2 0 0),(6,.msl 3 0 c.blocks.length 1),(7,.fn (.func 106) [] [.ptr 0 0 0,.ptr 4 0 0]),(8,.int .i64 (a:Int)),(34,.int .i64 (c.regs.length:Int)),(35,.int .i64 (a:Int)),(38,.int .i64 (a:Int)),(39,.int .i64 (b:Int))] ⟨[.row 1 [c.F] 5,.row 1 [.msl 5 0 c.regs.length 1] 1,.row 1 [.fn (.func 105) [] [.ptr 1 0 0]] 1,.row 0 (tab B) 1,.row 1 [.msl 6 0 c.blocks.length 1] 1,.row 0 (tab O) 1,.row 0 (tab A) 1],0,[]⟩)=some (.ok (.exit 4) fr' ⟨[.row 1 [c.F] 5,.row 1 [.msl 5 0 c.regs.length 1] 1,.row 1 [.fn (.func 105) [] [.ptr 1 0 0]] 1,.row 0 (tab B) 1,.row 1 [.msl 6 0 c.blocks.length 1] 1,.row 0 (tab (Ss c A a k b O)) 1,.row 0 (tab A) 1],0,[]⟩)∧(lookP fr' 1=.ptr 0 0 0∧lookP fr' 3=.ptr 1 0 0∧lookP fr' 4=.ptr 2 0 0∧lookP fr' 6=.msl 3 0 c.blocks.length 1∧lookP fr' 7=.fn (.func 106) [] [.ptr 0 0 0,.ptr 4 0 0]∧lookP fr' 34=.int .i64 (c.regs.length:Int)∧lookP fr' 35=.int .i64 (a:Int))
 | 0,b,O,e,hO=>by
  obtain rfl:b=a:=by omega
  obtain ⟨fr',h,hq⟩:=EI (T:=T) (c:=c) (a:=b) (K:=⟨[.row 1 [c.F] 5,.row 1 [.msl 5 0 c.regs.length 1] 1,.row 1 [.fn (.func 105) [] [.ptr 1 0 0]] 1,.row 0 (tab B) 1,.row 1 [.msl 6 0 c.blocks.length 1] 1,.row 0 (tab O) 1,.row 0 (tab A) 1],0,[]⟩)
  exact ⟨fr',C4 h,hq⟩
 | k + 1,b,O,e,hO=>by
  have h:=EC (T:=T) (c:=c) (A:=A) (B:=B) (a:=a) (b:=b) hP hF (by omega) ha hr h0 hA hO
  obtain ⟨fr',h',hq⟩:=vU hP hF ha hr h0 hA k (b + 1) (if I5 c A a && I5 c A b then pairD a b O else O) (by omega) (by
   split
   . exact hO.pair ha (by omega)
   . exact hO)
  exact ⟨fr',(C2 h).trans h',hq⟩
theorem EJ (hP:T 105=none) (hF:T 106=none) (ha:a < c.regs.length) (hr:c.regs.length * 24≤bigN) (h0:0 < c.blocks.length) (hA:A6 c.blocks.length c.regs.length A) (hO:A6 c.regs.length c.regs.length O) :
 evP ⟨A0,T,A5⟩ (.code Uf [(1,.ptr 0 0 0),(3,.ptr 1 0 0),(4,.ptr 2 0 0),(6,.msl 3 0 c.blocks.length 1),(7,.fn (.func 106) [] [.ptr 0 0 0,.ptr 4 0 0]),(34,.int .i64 (c.regs.length:Int)),(35,.int .i64 (a:Int))] ⟨[.row 1 [c.F] 5,.row 1 [.msl 5 0 c.regs.length 1] 1,.row 1 [.fn (.func 105) [] [.ptr 1 0 0]] 1,.row 0 (tab B) 1,.row 1 [.msl 6 0 c.blocks.length 1] 1,.row 0 (tab O) 1,.row 0 (tab A) 1],0,[]⟩)=some (.ok .normal [(1,.ptr 0 0 0),(3,.ptr 1 0 0),(4,.ptr 2 0 0),(6,.msl 3 0 c.blocks.length 1),(7,.fn (.func 106) [] [.ptr 0 0 0,.ptr 4 0 0]),(34,.int .i64 (c.regs.length:Int)),(35,.int .i64 ((a + 1:Nat):Int))] ⟨[.row 1 [c.F] 5,.row 1 [.msl 5 0 c.regs.length 1] 1,.row 1 [.fn (.func 105) [] [.ptr 1 0 0]] 1,.row 0 (tab B) 1,.row 1 [.msl 6 0 c.blocks.length 1] 1,.row 0 (tab (Ss c A a a 0 O)) 1,.row 0 (tab A) 1],0,[]⟩):=by
 obtain ⟨fr',h,k1,k2,k3,k4,k5,k6,k7⟩:=vU (T:=T) (c:=c) (A:=A) (B:=B) (a:=a) hP hF ha hr h0 hA a 0 O (by omega) hO
 unfold Uf
 have hlt:decide ((a:Int) < (c.regs.length:Int))=true:=by simp [ha]
 have hws:=B3 (i:=a) (by simp only [bigN] at hr; omega)
 rw [show ((0:Nat):Int)=0 from rfl] at h
 simp only [Cod.F] at h ⊢
 simp -implicitDefEqProofs only [hlt,hws,h,k1,k2,k3,k4,k5,k6,k7,J1,J2,J3,J4,J5,J6,J7,D5,D6,D7,D8,D9,E0,XP,seval]
theorem vV {K:PK}:∃ fr',evP ⟨A0,T,A5⟩ (.code Uf [(1,.ptr 0 0 0),(3,.ptr 1 0 0),(4,.ptr 2 0 0),(6,.msl 3 0 c.blocks.length 1),(7,.fn (.func 106) [] [.ptr 0 0 0,.ptr 4 0 0]),(34,.int .i64 (c.regs.length:Int)),(35,.int .i64 (c.regs.length:Int))] K)=some (.ok (.exit 2) fr' K)∧(lookP fr' 1=.ptr 0 0 0∧lookP fr' 3=.ptr 1 0 0∧lookP fr' 4=.ptr 2 0 0∧lookP fr' 6=.msl 3 0 c.blocks.length 1):=by
 unfold Uf
 have hlt:decide ((c.regs.length:Int) < (c.regs.length:Int))=false:=by simp
 simp -implicitDefEqProofs only [hlt,XP,seval]
 exact ⟨_,rfl,rfl,rfl,rfl,rfl⟩
theorem vW (hP:T 105=none) (hF:T 106=none) (hr:c.regs.length * 24≤bigN) (h0:0 < c.blocks.length) (hA:A6 c.blocks.length c.regs.length A):∀ (k a:Nat) (O:List (List Bool)),c.regs.length=a + k->A6 c.regs.length c.regs.length O ->
 ∃ fr',evP ⟨A0,T,A5⟩ (.code (.loop Uf) [(1,.ptr 0 0 0),(3,.ptr 1 0 0),(4,.ptr 2 0 0),(6,.msl 3 0 c.blocks.length 1),(7,.fn (.func 106) [] [.ptr 0 0 0,.ptr 4 0 0]),(34,.int .i64 (c.regs.length:Int)),(35,.int .i64 (a:Int))] ⟨[.row 1 [c.F] 5,.row 1 [.msl 5 0 c.regs.length 1] 1,.row 1 [.fn (.func 105) [] [.ptr 1 0 0]] 1,.row 0 (tab B) 1,.row 1 [.msl 6 0 c.blocks.length 1] 1,.row 0 (tab O) 1,.row 0 (tab A) 1],0,[]⟩)=some (.ok (.exit 2) fr' ⟨[.row 1 [c.F] 5,.row 1 [.msl 5 0 c.regs.length 1] 1,.row 1 [.fn (.func 105) [] [.ptr 1 0 0]] 1,.row 0 (tab B) 1,.row 1 [.msl 6 0 c.blocks.length 1] 1,.row 0 (tab (cabA c A k a O)) 1,.row 0 (tab A) 1],0,[]⟩)∧(lookP fr' 1=.ptr 0 0 0∧lookP fr' 3=.ptr 1 0 0∧lookP fr' 4=.ptr 2 0 0∧lookP fr' 6=.msl 3 0 c.blocks.length 1)
 | 0,a,O,e,hO=>by
  obtain rfl:a=c.regs.length:=by omega
  obtain ⟨fr',h,hq⟩:=vV (T:=T) (c:=c) (K:=⟨[.row 1 [c.F] 5,.row 1 [.msl 5 0 c.regs.length 1] 1,.row 1 [.fn (.func 105) [] [.ptr 1 0 0]] 1,.row 0 (tab B) 1,.row 1 [.msl 6 0 c.blocks.length 1] 1,.row 0 (tab O) 1,.row 0 (tab A) 1],0,[]⟩)
  exact ⟨fr',C4 h,hq⟩
 | k + 1,a,O,e,hO=>by
  have h:=EJ (T:=T) (c:=c) (A:=A) (B:=B) (a:=a) hP hF (by omega) hr h0 hA hO
  obtain ⟨fr',h',hq⟩:=vW hP hF hr h0 hA k (a + 1) (Ss c A a a 0 O) (by omega) (Bj (by omega) a 0 (by omega) hO)
  exact ⟨fr',(C2 h).trans h',hq⟩
theorem vX {K:PK}:∃ fr',evP ⟨A0,T,A5⟩ (.code Ii [(3,.ptr 0 0 0),(4,.ptr 1 0 0),(6,.msl 2 0 c.blocks.length 1),(57,fslN (c.blocks.map Blk.F)),(58,.int .i64 (c.blocks.length:Int)),(59,.int .i64 (c.blocks.length:Int))] K)=some (.ok (.exit 6) fr' K)∧lookP fr' 3=.ptr 0 0 0:=by
 unfold Ii
 have hlt:decide ((c.blocks.length:Int) < (c.blocks.length:Int))=false:=by simp
 simp -implicitDefEqProofs only [hlt,XP,seval]
 exact ⟨_,rfl,rfl⟩
theorem nR (hWk:T 101=none) (hNB:T 125=none) (hCl:T 169=some C0) (hN:T 107=none) (hW:T 108=some B0) (hR:T 170=some B7) (hP:T 105=none) (hc:LOk c) (hs:c.regs.length≤bigN) (hB:A6 c.blocks.length c.regs.length B):∀ (k i:Nat) (O:List (List Bool)),c.blocks.length=i + k->A6 c.regs.length c.regs.length O ->
 ∃ fr',evP ⟨A0,T,A5⟩ (.code (.loop Ii) [(3,.ptr 0 0 0),(4,.ptr 1 0 0),(6,.msl 2 0 c.blocks.length 1),(57,fslN (c.blocks.map Blk.F)),(58,.int .i64 (c.blocks.length:Int)),(59,.int .i64 (i:Int))] ⟨[.row 1 [.msl 3 0 c.regs.length 1] 1,.row 1 [.fn (.func 105) [] [.ptr 0 0 0]] 1,.row 0 (tab B) 1,.row 0 (tab O) 1],0,[]⟩)=some (.ok (.exit 6) fr' ⟨[.row 1 [.msl 3 0 c.regs.length 1] 1,.row 1 [.fn (.func 105) [] [.ptr 0 0 0]] 1,.row 0 (tab B) 1,.row 0 (tab (ckGo c.blocks B k i O)) 1],0,[]⟩)∧lookP fr' 3=.ptr 0 0 0
 | 0,i,O,e,hO=>by
  obtain rfl:i=c.blocks.length:=by omega
  obtain ⟨fr',h,hq⟩:=vX (T:=T) (c:=c) (K:=⟨[.row 1 [.msl 3 0 c.regs.length 1] 1,.row 1 [.fn (.func 105) [] [.ptr 0 0 0]] 1,.row 0 (tab B) 1,.row 0 (tab O) 1],0,[]⟩)
  exact ⟨fr',C4 h,hq⟩
 | k + 1,i,O,e,hO=>by
  have hi:i < c.blocks.length:=by omega
  have hb:=hc.wk _ (List.getElem_mem hi)
  have h:=LJ (T:=T) (c:=c) (B:=B) (at_:=i) (n:=c.regs.length) hWk hNB hCl hN hW hR hP hi hb hc.bl hs hO hB
  have h2:=Kt hb (hB.get hi) hO
  obtain ⟨fr',h',hq⟩:=nR hWk hNB hCl hN hW hR hP hc hs hB k (i + 1) (qC c.blocks[i] (B.getD i []) O).2 (by omega) h2
  refine ⟨fr',(C2 h).trans ?_,hq⟩
  rw [ckGo,List.getElem?_eq_getElem hi]
  exact h'
theorem nS (hWk:T 101=none) (hNB:T 125=none) (hCl:T 169=some C0) (hN:T 107=none) (hW:T 108=some B0) (hR:T 170=some B7) (hz:c.regs.length=0) (hc:LOk c) (hs:c.regs.length≤bigN) (hB:A6 c.blocks.length c.regs.length B):∀ (k i:Nat),c.blocks.length=i + k ->
 ∃ fr',evP ⟨A0,T,A5⟩ (.code (.loop Ii) [(3,.ptr 0 0 0),(4,.ptr 1 0 0),(6,.msl 2 0 c.blocks.length 1),(57,fslN (c.blocks.map Blk.F)),(58,.int .i64 (c.blocks.length:Int)),(59,.int .i64 (i:Int))] ⟨[.row 1 [.nilsl] 1,.row 1 [.fn (.func 105) [] [.ptr 0 0 0]] 1,.row 0 (tab B) 1],0,[]⟩)=some (.ok (.exit 6) fr' ⟨[.row 1 [.nilsl] 1,.row 1 [.fn (.func 105) [] [.ptr 0 0 0]] 1,.row 0 (tab B) 1],0,[]⟩)∧lookP fr' 3=.ptr 0 0 0
 | 0,i,e=>by
  obtain rfl:i=c.blocks.length:=by omega
  obtain ⟨fr',h,hq⟩:=vX (T:=T) (c:=c) (K:=⟨[.row 1 [.nilsl] 1,.row 1 [.fn (.func 105) [] [.ptr 0 0 0]] 1,.row 0 (tab B) 1],0,[]⟩)
  exact ⟨fr',C4 h,hq⟩
 | k + 1,i,e=>by
  have hi:i < c.blocks.length:=by omega
  have hb:=hc.wk _ (List.getElem_mem hi)
  have h:=LL (T:=T) (c:=c) (B:=B) (O:=noneT c.regs.length c.regs.length) (at_:=i) (n:=c.regs.length) hWk hNB hCl hN hW hR hz hi hb hc.bl hs (H6 _ _) hB
  obtain ⟨fr',h',hq⟩:=nS hWk hNB hCl hN hW hR hz hc hs hB k (i + 1) (by omega)
  exact ⟨fr',(C2 h).trans h',hq⟩
end
end Go.Proofs.AmEnv
set_option maxRecDepth 100000
namespace Go.Proofs.AmEnv
open Go Go.AM
variable {T:Nat->Option (List AV->Option (List AV))}
theorem nT {c:AV}:AV.withCells .nilfn 0 [c]=c:=rfl
theorem Iu {c:Cod} (hc:LOk c):A6 c.regs.length c.regs.length (clashD c):=by
 have key:∀ (k i:Nat) (O:List (List Bool)),c.blocks.length=i + k->A6 c.regs.length c.regs.length O->A6 c.regs.length c.regs.length (ckGo c.blocks (liveD c).2.1 k i O):=fun k=>by
  induction k with
  | zero=>intro i O _ h; exact h
  | succ k ih =>
   intro i O e h
   have hi:i < c.blocks.length:=by omega
   rw [ckGo,List.getElem?_eq_getElem hi]
   exact ih (i + 1) _ (by omega) (Kt (hc.wk _ (List.getElem_mem hi)) ((b9 c).2.get hi) h)
 exact key _ 0 _ (by omega) (Bk _ 0 (by omega) (H6 _ _))
set_option maxHeartbeats 4000000 in
theorem Ku (hlive_Live:T 33=some L4) (nlive_walk:T 101=none) (nBackI:T 125=none) (hCloneBools:T 169=some C0) (nlive_Clash_1:T 105=none) (nlive_Clash_2:T 106=none) (nlive_Clash_3:T 107=none) (hir_Writes:T 108=some B0) (hir_Reads:T 170=some B7) {c:Cod} (hk:LOk c∧c.regs.length * 24≤bigN):AM.Comes ⟨A0,T,A5⟩ 35 [c.F] [ownd 0 1 (tab (clashD c))]:=by
 obtain ⟨hc,hr⟩:=hk
 have hs:c.regs.length≤bigN:=by simp only [bigN] at hr ⊢; omega
 obtain ⟨sA,sB⟩:=b9 c
 have tl:=fun K=>Qt (K:=K) hlive_Live hc
 obtain ⟨fr1,h1,k1,k2⟩:=vS (T:=T) (c:=c) hr c.regs.length 0 (by omega)
 have hcs:=Iu hc
 unfold clashD at hcs ⊢
 generalize (liveD c).1=A at sA tl hcs ⊢
 generalize (liveD c).2.1=B at sB tl hcs ⊢
 by_cases hz:c.regs.length=0
 . obtain ⟨fr3,h3,k3⟩:=nS (T:=T) (c:=c) (B:=B) nlive_walk nBackI hCloneBools nlive_Clash_3 hir_Writes hir_Reads hz hc hs sB c.blocks.length 0 (by omega)
   have e0:ckGo c.blocks B c.blocks.length 0 (cabA c A c.regs.length 0 (noneT c.regs.length c.regs.length))=[]:=List.eq_nil_of_length_eq_zero (by rw [hcs.1,hz])
   rw [e0]
   obtain ⟨fr2,h2,k4,k5,k6,k7⟩:=vV (T:=T) (c:=c) (K:=⟨[.row 1 [c.F] 5,.row 1 [.nilsl] 1,.row 1 [.fn (.func 105) [] [.ptr 1 0 0]] 1,.row 0 (tab B) 1,.row 1 [.msl 5 0 c.blocks.length 1] 1,.row 0 (tab A) 1],0,[]⟩)
   have h2:=C4 h2
   rw [hz] at h1 h2
   have nz:((0:Nat):Int)=0:=rfl
   refine ⟨[.nilsl],⟨[],0,[]⟩,?_,E9 (.inl ⟨rfl,rfl,rfl⟩)⟩
   rw [A9 (c:=zE) (nt:=73) (rs:=[.tmp 2]) rfl (by simp)]; unfold zE
   unfold K0
   unfold xV at h1
   rw [nz] at h1 h2 h3
   simp only [Cod.F] at tl h1 h2 h3 ⊢
   simp -implicitDefEqProofs only [nT,sA.1,sB.1,hz,nz,h1,k1,k2,tl,h2,k4,k5,k6,k7,h3,k3,J1,J2,J3,J4,J5,J6,J7,D5,D6,D7,D8,D9,E0,List.length_map,XP,seval]
 . obtain ⟨m,hm⟩:∃ m,c.regs.length=m + 1:=⟨c.regs.length - 1,by omega⟩
   obtain ⟨fr2,h2,k4,k5,k6,k7⟩:=vW (T:=T) (c:=c) (A:=A) (B:=B) nlive_Clash_1 nlive_Clash_2 hr hc.b0 sA c.regs.length 0 (noneT c.regs.length c.regs.length) (by omega) (H6 _ _)
   have s2:=Bk (c:=c) (A:=A) c.regs.length 0 (by omega) (H6 c.regs.length c.regs.length)
   obtain ⟨fr3,h3,k3⟩:=nR (T:=T) (c:=c) (B:=B) nlive_walk nBackI hCloneBools nlive_Clash_3 hir_Writes hir_Reads nlive_Clash_1 hc hs sB c.blocks.length 0 (cabA c A c.regs.length 0 (noneT c.regs.length c.regs.length)) (by omega) s2
   have h1:evP ⟨A0,T,A5⟩ (.code (.loop Ih) [(1,.ptr 0 0 0),(3,.ptr 1 0 0),(14,.int .i64 (c.regs.length:Int)),(15,.int .i64 ((0:Nat):Int))] (xV c 0))=some (.ok (.exit 0) fr1 ⟨[.row 1 [c.F] 5,.row 1 [.msl 2 0 c.regs.length 1] 1,.row 0 (tab (noneT c.regs.length c.regs.length)) 1],0,[]⟩):=by
    rw [h1]
    unfold xV
    rw [hm]
   have nz:((0:Nat):Int)=0:=rfl
   generalize ckGo c.blocks B c.blocks.length 0 (cabA c A c.regs.length 0 (noneT c.regs.length c.regs.length))=O at h3 hcs ⊢
   refine ⟨[.msl 0 0 c.regs.length 1],⟨[.row 0 (tab O) 1],0,[]⟩,?_,E9 (.inr ⟨by rw [List.length_map,hcs.1],rfl⟩)⟩
   rw [A9 (c:=zE) (nt:=73) (rs:=[.tmp 2]) rfl (by simp)]; unfold zE
   unfold K0
   unfold xV at h1
   rw [nz] at h1 h2 h3
   simp only [Cod.F] at tl h1 h2 h3 ⊢
   simp -implicitDefEqProofs only [nT,h1,k1,k2,tl,h2,k4,k5,k6,k7,h3,k3,sA.1,sB.1,J1,J2,J3,J4,J5,J6,J7,D5,D6,D7,D8,D9,E0,List.length_map,XP,seval]
def N0:=Cc (fun p:(Cod)=>[p.F]) (fun p=>[ownd 0 1 (tab (clashD p))]) (fun p=>LOk p∧p.regs.length * 24≤bigN)
theorem aP (hlive_Clash:T 35=some N0) {c:Cod} {K:PK} (hk:LOk c∧c.regs.length * 24≤bigN):evP ⟨A0,T,A5⟩ (.call 35 [c.F] K)=some (.val (openTs K.os.length [ownd 0 1 (tab (clashD c))]).1 ⟨K.os ++ (openTs K.os.length [ownd 0 1 (tab (clashD c))]).2,K.ext,K.tch⟩):=E1 hlive_Clash (by simp -implicitDefEqProofs only [VV,XP,seval]) (E5 (a:=fun p:(Cod)=>[p.F]) (r:=fun p=>[ownd 0 1 (tab (clashD p))]) (fun x y e=>by simp only [VJ] at e; simp only [e]) (c) hk) (by simp -implicitDefEqProofs only [VN,Ds,XP,seval])
theorem Su (hlive_Clash:T 35=some N0) {c:Cod} {K:PK} {args:List AV} (hv:viewAs K.os args=some [c.F]) (hk:LOk c∧c.regs.length * 24≤bigN):evP ⟨A0,T,A5⟩ (.call 35 args K)=some (.val (openTs K.os.length [ownd 0 1 (tab (clashD c))]).1 ⟨K.os ++ (openTs K.os.length [ownd 0 1 (tab (clashD c))]).2,K.ext,K.tch⟩):=E1 hlive_Clash hv (E5 (a:=fun p:(Cod)=>[p.F]) (r:=fun p=>[ownd 0 1 (tab (clashD p))]) (fun x y e=>by simp only [VJ] at e; simp only [e]) (c) hk) (by generalize (refsL args).isEmpty=z; simp -implicitDefEqProofs only [VN,Ds,XP,seval])
theorem Sv (hlive_Live:T 33=some L4) (nlive_walk:T 101=none) (nBackI:T 125=none) (hCloneBools:T 169=some C0) (nlive_Clash_1:T 105=none) (nlive_Clash_2:T 106=none) (nlive_Clash_3:T 107=none) (hir_Writes:T 108=some B0) (hir_Reads:T 170=some B7) (hP:PEok ⟨A0,T,A5⟩):TC A0 35 N0:=G4 hP fun p h=>Ku hlive_Live nlive_walk nBackI hCloneBools nlive_Clash_1 nlive_Clash_2 nlive_Clash_3 hir_Writes hir_Reads h
end Go.Proofs.AmEnv
set_option maxRecDepth 100000
namespace Go.Proofs.AmEnv
open Go Go.AM
def at2 (O:List (List Bool)) (i j:Nat):Bool:=(O.getD i []).getD j false
theorem Uj {l:List Bool} {i j:Nat} {v:Bool} (h:i < l.length):(l.set i v).getD j false=if i=j then v else l.getD j false:=by
 rw [List.getD_eq_getElem?_getD,List.getElem?_set]
 by_cases e:i=j
 . rw [if_pos e,if_pos e,if_pos h]; rfl
 . rw [if_neg e,if_neg e,List.getD_eq_getElem?_getD]
theorem Kv {O:List (List Bool)} {i j:Nat} {r:List Bool} (h:i < O.length):(O.set i r).getD j []=if i=j then r else O.getD j []:=by
 rw [List.getD_eq_getElem?_getD,List.getElem?_set]
 by_cases e:i=j
 . rw [if_pos e,if_pos e,if_pos h]; rfl
 . rw [if_neg e,if_neg e,List.getD_eq_getElem?_getD]
theorem Dt {n:Nat} {O:List (List Bool)} (h:A6 n n O) {a b:Nat} (ha:a < n) (hb:b < n) (i j:Nat):at2 (pairD a b O) i j=(at2 O i j || (decide (a ≠ b) && (decide (i=a∧j=b) || decide (i=b∧j=a)))):=by
 unfold pairD
 by_cases hab:a=b
 . rw [if_pos hab]; simp [hab]
 . rw [if_neg hab]
   have h1:A6 n n (O.set a ((O.getD a []).set b true)):=h.set (by rw [List.length_set]; exact h.get ha)
   have ga:(O.getD a []).length=n:=h.get ha
   have e1:(O.set a ((O.getD a []).set b true)).getD b []=O.getD b []:=by rw [Kv (by rw [h.1]; exact ha),if_neg hab]
   unfold at2
   rw [e1,Kv (by rw [h1.1]; exact hb)]
   have gb:(O.getD b []).length=n:=h.get hb
   by_cases q1:b=i
   . subst q1
     rw [if_pos rfl,Uj (by rw [gb]; exact ha)]
     by_cases q2:a=j
     . subst q2; simp [hab]
     . rw [if_neg q2]
       have:¬ (b=a):=fun h=>hab h.symm
       simp [this,q2,hab]
       intro hh; exact absurd hh.symm q2
   . rw [if_neg q1,Kv (by rw [h.1]; exact ha)]
     by_cases q2:a=i
     . subst q2
       rw [if_pos rfl,Uj (by rw [ga]; exact hb)]
       by_cases q3:b=j
       . subst q3; simp [hab]
       . rw [if_neg q3]
         have:¬ (j=b):=fun h=>q3 h.symm
         simp [this,hab]
     . rw [if_neg q2]
       have q1':¬ (i=b):=fun h=>q1 h.symm
       have q2':¬ (i=a):=fun h=>q2 h.symm
       simp [q1',q2']
structure Ev (O O':List (List Bool)):Prop where
 up:∀ i j,at2 O i j=true->at2 O' i j=true
 sy:(∀ i j,at2 O i j=at2 O j i)->∀ i j,at2 O' i j=at2 O' j i
 ir:(∀ i,at2 O i i=false)->∀ i,at2 O' i i=false
theorem Ev.refl (O:List (List Bool)):Ev O O:=⟨fun _ _ h=>h,fun h=>h,fun h=>h⟩
theorem Ev.trans {O O' O2:List (List Bool)} (a:Ev O O') (b:Ev O' O2):Ev O O2:=⟨fun i j h=>b.up i j (a.up i j h),fun h=>b.sy (a.sy h),fun h=>b.ir (a.ir h)⟩
theorem Ev.pair {n:Nat} {O:List (List Bool)} (h:A6 n n O) {a b:Nat} (ha:a < n) (hb:b < n):Ev O (pairD a b O):=by
 refine ⟨fun i j hq=>?_,fun hs i j=>?_,fun hi i=>?_⟩
 . rw [Dt h ha hb,hq]; rfl
 . rw [Dt h ha hb,Dt h ha hb,hs i j]
   congr 1
   congr 1
   rw [Bool.or_comm]
   congr 1 <;> exact decide_eq_decide.2 ⟨fun h=>⟨h.2,h.1⟩,fun h=>⟨h.2,h.1⟩⟩
 . rw [Dt h ha hb,hi i]
   by_cases hab:a=b
   . simp [hab]
   . have:¬ (i=a∧i=b):=fun h=>hab (h.1.symm.trans h.2)
     have h2:¬ (i=b∧i=a):=fun h=>hab (h.2.symm.trans h.1)
     simp [this,h2]
theorem Ev.see {n:Nat} {x:Ins} {w:List Bool} {r:Nat} {O:List (List Bool)} (h:A6 n n O) (hw:writesD x < n) (hr:r < n):Ev O (Mj x w r O):=by
 unfold Mj
 split
 . rename_i hs
   have h0:0≤writesD x:=by
    unfold fZ at hs
    simp at hs
    exact hs.1.2
   exact .pair h (by omega) hr
 . exact .refl _
theorem Ev.sees {n:Nat} {x:Ins} {w:List Bool} (hw:writesD x < n):∀ (k r:Nat) {O:List (List Bool)},r + k≤n->A6 n n O->Ev O (Ui x w k r O)
 | 0,r,O,_,h=>.refl _
 | k + 1,r,O,e,h=>(Ev.see (w:=w) h hw (by omega)).trans (Ev.sees hw k (r + 1) (by omega) (h.see hw (by omega)))
theorem Ev.cgo {n:Nat} {b:Blk} (hb:WOk n b):∀ (k:Nat) {s:List Bool × List (List Bool)},s.1.length=n->A6 n n s.2->Ev s.2 (Sb b.code k s).2
 | 0,s,_,h=>.refl _
 | k + 1,s,hl,h=>by
  unfold Sb
  cases hq:b.code[k]? with
  | none=>exact Ev.cgo hb k hl h
  | some x =>
   have hx:=List.mem_of_getElem? hq
   exact (Ev.sees (w:=s.1) (hb.wr _ hx) s.1.length 0 (by omega) h).trans (Ev.cgo hb k (s:=(R5 s.1 x,Qu x s.1 s.2)) ((j8 _ _).trans hl) (A6.sees (hb.wr _ hx) _ _ (by omega) h))
theorem Ev.cab {c:Cod} {A:List (List Bool)} {n a:Nat} (ha:a < n):∀ (k b:Nat) {O:List (List Bool)},b + k≤n->A6 n n O->Ev O (Ss c A a k b O)∧∀ b',b≤b'->b' < b + k->I5 c A a=true->I5 c A b'=true->a ≠ b'->at2 (Ss c A a k b O) a b'=true
 | 0,b,O,_,h=>⟨.refl _,fun b' h1 h2=>by omega⟩
 | k + 1,b,O,e,h=>by
  unfold Ss
  have hsh:A6 n n (if I5 c A a && I5 c A b then pairD a b O else O):=by
   split
   . exact h.pair ha (by omega)
   . exact h
  have hev:Ev O (if I5 c A a && I5 c A b then pairD a b O else O):=by
   split
   . exact .pair h ha (by omega)
   . exact .refl _
  obtain ⟨h1,h2⟩:=Ev.cab (c:=c) (A:=A) ha k (b + 1) (by omega) hsh
  refine ⟨hev.trans h1,fun b' p1 p2 f1 f2 hne=>?_⟩
  by_cases e1:b'=b
  . subst e1
    refine h1.up _ _ ?_
    rw [f1,f2,if_pos (by rfl),Dt h ha (by omega)]
    simp [hne]
  . exact h2 b' (by omega) (by omega) f1 f2 hne
theorem Ev.caa {c:Cod} {A:List (List Bool)} {n:Nat}:∀ (k a:Nat) {O:List (List Bool)},a + k≤n->A6 n n O->Ev O (cabA c A k a O)∧∀ a' b',a≤a'->a' < a + k->b' < a'->I5 c A a'=true->I5 c A b'=true->at2 (cabA c A k a O) a' b'=true
 | 0,a,O,_,h=>⟨.refl _,fun a' b' h1 h2=>by omega⟩
 | k + 1,a,O,e,h=>by
  unfold cabA
  obtain ⟨h1,h2⟩:=Ev.cab (c:=c) (A:=A) (a:=a) (by omega:a < n) a 0 (by omega) h
  obtain ⟨h3,h4⟩:=Ev.caa (c:=c) (A:=A) k (a + 1) (by omega) (Bj (c:=c) (A:=A) (by omega:a < n) a 0 (by omega) h)
  refine ⟨h1.trans h3,fun a' b' p1 p2 p3 f1 f2=>?_⟩
  by_cases e1:a'=a
  . subst e1
    exact h3.up _ _ (h2 b' (by omega) (by omega) f1 f2 (by omega))
  . exact h4 a' b' (by omega) (by omega) p3 f1 f2
theorem Qv (N n i j:Nat):at2 (noneT N n) i j=false:=by
 unfold at2 noneT noneL
 rw [List.getD_eq_getElem?_getD,List.getD_eq_getElem?_getD,List.getElem?_replicate]
 split
 . rw [Option.getD_some,List.getElem?_replicate]; split <;> rfl
 . rfl
theorem dV {c:Cod} (hc:LOk c):(∀ i j,at2 (clashD c) i j=at2 (clashD c) j i)∧(∀ i,at2 (clashD c) i i=false)∧∀ i j,i < c.regs.length->j < c.regs.length->i ≠ j->I5 c (liveD c).1 i=true->I5 c (liveD c).1 j=true->at2 (clashD c) i j=true:=by
 have key:∀ (k i:Nat) (O:List (List Bool)),c.blocks.length=i + k->A6 c.regs.length c.regs.length O->Ev O (ckGo c.blocks (liveD c).2.1 k i O):=fun k=>by
  induction k with
  | zero=>intro i O _ h; exact .refl _
  | succ k ih =>
   intro i O e h
   have hi:i < c.blocks.length:=by omega
   rw [ckGo,List.getElem?_eq_getElem hi]
   have hw:=hc.wk _ (List.getElem_mem hi)
   have hl:=(b9 c).2.get hi
   exact (Ev.cgo hw c.blocks[i].code.length (s:=(endW c.blocks[i] ((liveD c).2.1.getD i []),O)) ((Ag _ _).trans hl) h).trans (ih (i + 1) _ (by omega) (Kt hw hl h))
 obtain ⟨h1,h2⟩:=Ev.caa (c:=c) (A:=(liveD c).1) c.regs.length 0 (by omega) (H6 c.regs.length c.regs.length)
 have h3:=key c.blocks.length 0 (cabA c (liveD c).1 c.regs.length 0 (noneT c.regs.length c.regs.length)) (by omega) (Bk _ 0 (by omega) (H6 _ _))
 have h4:=h1.trans h3
 have sy:∀ i j,at2 (clashD c) i j=at2 (clashD c) j i:=h4.sy (fun i j=>by rw [Qv,Qv])
 refine ⟨sy,h4.ir (fun i=>Qv _ _ _ _),fun i j hi hj hne f1 f2=>?_⟩
 rcases Nat.lt_or_ge j i with h | h
 . exact h3.up _ _ (h2 i j (by omega) (by omega) h f1 f2)
 . rw [sy]
   exact h3.up _ _ (h2 j i (by omega) (by omega) (by omega) f2 f1)
end Go.Proofs.AmEnv
set_option maxRecDepth 100000
namespace Go.Proofs.AmEnv
open Go Go.AM
theorem Qw {l:List Int} (h:J8 l=0):∀ e∈l,e=0:=by
 induction l with
 | nil=>intro e he; cases he
 | cons a l ih =>
  unfold J8 at h
  intro e he
  by_cases q:a=0
  . rw [if_pos q] at h
    rcases List.mem_cons.1 he with rfl | he
    . exact q
    . exact ih h e he
  . rw [if_neg q] at h; exact absurd h q
theorem lz_there {a n:Int}:thereD a n=true ↔ 0≤a∧a < n:=by unfold thereD; simp
theorem nU {m:Modl} (h:o4 m=0):∀ c∈m.fs,a8 m c=0:=by
 unfold o4 at h
 by_cases q:J8 (m.gs.map Xa)=0
 . rw [if_pos q] at h
   by_cases q2:J8 (m.fs.map (a8 m))=0
   . exact fun c hc=>Qw q2 _ (List.mem_map_of_mem hc)
   . rw [if_neg q2] at h; exact absurd h q2
 . rw [if_neg q] at h; exact absurd h q
theorem gC {m:Modl} {c:Cod} (h:a8 m c=0):(1≤c.blocks.length∧c.blocks.length≤400∧c.regs.length≤4096)∧∀ b∈c.blocks,Sr m c b=0:=by
 unfold a8 at h
 split at h
 . cases h
 . rename_i h1
   split at h
   . cases h
   . split at h
     . cases h
     . exact ⟨by omega,fun b hb=>Qw h _ (List.mem_map_of_mem hb)⟩
theorem nV {m:Modl} {c:Cod} {b:Blk} (h:Sr m c b=0):(∀ x∈b.code,N5 m c x=0)∧Qj c b.e=0:=by
 unfold Sr at h
 split at h
 . rename_i q; exact ⟨fun x hx=>Qw q _ (List.mem_map_of_mem hx),h⟩
 . rename_i q; exact absurd h q
theorem nW {m:Modl} {c:Cod} {x:Ins} (h:N5 m c x=0):writesD x < c.regs.length∧∀ r∈readsD x,0≤r∧r < (c.regs.length:Int):=by
 unfold N5 at h
 split at h
 . split at h
   . rename_i _ hp
     unfold E6 at hp
     obtain ⟨h1,h2⟩:=Bool.and_eq_true_iff.1 hp
     obtain ⟨h2,_⟩:=Bool.and_eq_true_iff.1 h2
     refine ⟨?_,fun r hr=>lz_there.1 (List.all_eq_true.1 h1 r hr)⟩
     unfold bX at h2
     by_cases q:0≤writesD x
     . have q1:¬ writesD x=-1:=by omega
       by_cases q2:thereD (writesD x) c.regs.length=true
       . exact (lz_there.1 q2).2
       . rw [decide_eq_true q,decide_eq_false q1,Bool.eq_false_iff.2 q2] at h2
         simp at h2
     . omega
   . cases h
 . cases h
theorem nX {c:Cod} {e:Endd} (h:Qj c e=0):(∀ t∈tosD e,0≤t∧t < (c.blocks.length:Int))∧(e.kind ≠ 1->e.a < c.regs.length):=by
 unfold Qj at h
 unfold tosD
 by_cases k1:e.kind=1
 . rw [if_pos k1] at h ⊢
   split at h
   . rename_i q; exact ⟨fun t ht=>by rw [List.mem_singleton.1 ht]; exact lz_there.1 q,fun hk=>absurd k1 hk⟩
   . cases h
 . rw [if_neg k1] at h ⊢
   by_cases k2:e.kind=2
   . rw [if_pos k2] at h ⊢
     split at h
     . rename_i q1
       split at h
       . rename_i q2
         split at h
         . rename_i q3
           refine ⟨fun t ht=>?_,fun _=>(lz_there.1 q3).2⟩
           rcases List.mem_cons.1 ht with rfl | ht
           . exact lz_there.1 q1
           . rw [List.mem_singleton.1 ht]; exact lz_there.1 q2
         . cases h
       . cases h
     . cases h
   . rw [if_neg k2] at h ⊢
     refine ⟨fun t ht=>(by cases ht),fun _=>?_⟩
     split at h
     . split at h
       . omega
       . split at h
         . rename_i q; exact (lz_there.1 q).2
         . cases h
     . cases h
theorem Xk {a:Int} {n:Nat} (h0:0≤a) (h:a + n < 9223372036854775808):N9 a n=a + n:=by
 unfold N9; rw [IntKind.wrap_i64]; omega
def Bx (l:List Blk):Nat:=(l.map fun b=>b.code.length).sum
theorem gD {M:Nat}:∀ l:List Blk,(∀ b∈l,b.code.length≤M)->Bx l≤l.length * M
 | [],_=>by simp [Bx]
 | b :: l,h=>by
  have h1:=h b (List.mem_cons_self ..)
  have h2:=gD l fun b hb=>h b (List.mem_cons_of_mem _ hb)
  show b.code.length + Bx l≤(l.length + 1) * M
  rw [Nat.add_mul]; omega
theorem aQ:∀ {l:List Blk} {b:Blk},b∈l->b.code.length≤Bx l
 | a :: l,b,h=>by
  show b.code.length≤a.code.length + Bx l
  rcases List.mem_cons.1 h with rfl | h
  . omega
  . have:=aQ h; omega
theorem vY:∀ (l:List Blk) (a:Int),0≤a->a + Bx l < 9223372036854775808->l.foldl (fun a b=>N9 a b.code.length) a=a + Bx l
 | [],a,_,_=>by simp [Bx]
 | b :: l,a,h0,h=>by
  have h:a + ((b.code.length + Bx l:Nat):Int) < 9223372036854775808:=h
  show l.foldl (fun a b=>N9 a b.code.length) (N9 a b.code.length)=a + ((b.code.length + Bx l:Nat):Int)
  rw [Xk h0 (by omega),vY l _ (by omega) (by omega)]
  omega
def Iv (c:Cod):Nat:=c.regs.length + c.blocks.length + Bx c.blocks
theorem EK {a:Int} {c:Cod} (h0:0≤a) (h:a + Iv c < 9223372036854775808):nJ a c=a + Iv c:=by
 unfold Iv at h ⊢
 unfold nJ
 rw [Xk h0 (by omega),Xk (by omega) (by omega),vY _ _ (by omega) (by omega)]
 omega
def Sw (l:List Cod):Nat:=(l.map Iv).sum
theorem vZ:∀ (l:List Cod) (a:Int),0≤a->a + Sw l < 9223372036854775808->l.foldl nJ a=a + Sw l
 | [],a,_,_=>by simp [Sw]
 | c :: l,a,h0,h=>by
  have h:a + ((Iv c + Sw l:Nat):Int) < 9223372036854775808:=h
  show l.foldl nJ (nJ a c)=a + ((Iv c + Sw l:Nat):Int)
  rw [EK h0 (by omega),vZ l _ (by omega) (by omega)]
  omega
theorem gE {M:Nat}:∀ l:List Cod,(∀ c∈l,Iv c≤M)->Sw l≤l.length * M
 | [],_=>by simp [Sw]
 | b :: l,h=>by
  have h1:=h b (List.mem_cons_self ..)
  have h2:=gE l fun b hb=>h b (List.mem_cons_of_mem _ hb)
  show Iv b + Sw l≤(l.length + 1) * M
  rw [Nat.add_mul]; omega
theorem aR:∀ {l:List Cod} {b:Cod},b∈l->Iv b≤Sw l
 | a :: l,b,h=>by
  show Iv b≤Iv a + Sw l
  rcases List.mem_cons.1 h with rfl | h
  . omega
  . have:=aR h; omega
theorem aS {m:Modl} (h:o5 m=false):¬ 1000 < m.fs.foldl nJ 0∧m.fs.length≤12∧o4 m=0:=by
 unfold o5 at h
 split at h
 . cases h
 . rename_i h1
   split at h
   . cases h
   . rename_i h2
     split at h
     . cases h
     . exact ⟨h1,by omega,by simpa using h⟩
theorem jY {m:Modl} (hm:m.ok) (h:o5 m=false):∀ c∈m.fs,LOk c∧c.regs.length * 24≤bigN:=by
 obtain ⟨h1,h2,h3⟩:=aS h
 have hcs:=nU h3
 have hco:∀ c∈m.fs,Iv c≤640000000000000:=fun c hc=>by
  obtain ⟨⟨q1,q2,q3⟩,q4⟩:=gC (hcs c hc)
  have hs:=(hm.1 c hc).1
  have:Bx c.blocks≤c.blocks.length * 1599289640416:=gD c.blocks fun b hb=>by
   have:=(hs.2.1 b hb).2
   simp only [bigN] at this
   omega
  unfold Iv
  have h5:c.blocks.length * 1599289640416≤400 * 1599289640416:=Nat.mul_le_mul_right _ q2
  omega
 have hmo:=gE m.fs hco
 have hmo2:m.fs.length * 640000000000000≤12 * 640000000000000:=Nat.mul_le_mul_right _ h2
 rw [vZ m.fs 0 (by omega) (by omega)] at h1
 intro c hc
 obtain ⟨⟨q1,q2,q3⟩,q4⟩:=gC (hcs c hc)
 have hcm:=aR hc
 have hs:=(hm.1 c hc).1
 have hsb:=(hm.1 c hc).2
 refine ⟨⟨by simp only [bigN]; omega,by omega,by simp only [bigN]; omega,by omega,fun b hb=>?_,fun b hb=>(nX (nV (q4 b hb)).2).1⟩,by simp only [bigN]; omega⟩
 have hbl:=aQ hb
 obtain ⟨k1,k2⟩:=nV (q4 b hb)
 have hbs:=hs.2.1 b hb
 exact ⟨hbs.2,by unfold Iv at hcm; omega,hbs.1,fun x hx=>(nW (k1 x hx)).1,fun x hx=>(nW (k1 x hx)).2,(nX k2).2⟩
end Go.Proofs.AmEnv
set_option maxRecDepth 100000
namespace Go.Proofs.AmEnv
open Go Go.AM
variable {T:Nat->Option (List AV->Option (List AV))}
def i7:Ins:=⟨1,0,0,0,0,7,[],[]⟩
def I7:AV:=.agg [.int .i64 1,.int .i64 0,.int .i64 0,.int .i64 0,.int .i64 0,.int .i64 7,.str [],.nilsl]
def Cb (x:Ins):Cod:=⟨B6,1,0,[1,1],[⟨[i7,x],⟨3,1,0,0⟩⟩]⟩
def twoB (x:Ins):AV:=.agg [ownd 0 8 [I7,x.F],.int .i64 3,.int .i64 1,.int .i64 0,.int .i64 0]
def Sx (x:Ins):AV:=.agg [.str B6,.int .i64 1,.int .i64 0,ownd 0 1 (ints [1,1]),ownd 0 5 [twoB x]]
set_option maxHeartbeats 2000000 in
theorem Nf  {x:Ins}:AM.Comes ⟨A0,T,A5⟩ 97 [x.F] [Sx x]:=by
 refine ⟨[.agg [.str B6,.int .i64 1,.int .i64 0,.msl 1 0 2 1,.msl 2 0 1 5]],⟨[.row 1 [.agg [.str B6,.int .i64 1,.int .i64 0,.msl 1 0 2 1,.msl 2 0 1 5]] 5,.row 0 (ints [1,1]) 1,.row 0 [twoB x] 5],0,[]⟩,?_,?_⟩
 . rw [A9 (c:=IH) (nt:=11) (rs:=[.cell 2 31]) rfl (by simp)]; unfold IH
   unfold K0
   simp only [Ins.F,twoB,I7,B6,ints,List.map_cons,List.map_nil]
   simp -implicitDefEqProofs only [XP,seval]
 . refine E2 (vs':=[.agg [.str B6,.int .i64 1,.int .i64 0,.msl 1 0 2 1,.msl 2 0 1 5]]) (os':=[.row 1 [.agg [.str B6,.int .i64 1,.int .i64 0,.msl 1 0 2 1,.msl 2 0 1 5]] 5,.row 0 (ints [1,1]) 1,.row 0 [twoB x] 5]) ?_ ?_ (us:=[.agg [.str B6,.int .i64 1,.int .i64 0,.msl 0 0 2 1,.msl 1 0 1 5]]) (ps:=[.row 0 (ints [1,1]) 1,.row 0 [twoB x] 5]) ?_ ?_ ?_
   all_goals simp -implicitDefEqProofs only [Sx,XP,seval]
   all_goals rfl
def Bl:=Cc (fun p:(Ins)=>[p.F]) (fun p=>[Sx p]) (fun p=>True)
theorem Xl  (hP:PEok ⟨A0,T,A5⟩):TC A0 97 Bl:=G4 hP fun p h=>Nf
theorem aT {x:Ins} {os:List PO} {i j:Nat} (h1:os[i]?=some (.row 0 (ints [1,1]) 1)) (h2:os[j]?=some (.row 0 [twoB x] 5)):viewAs os [.agg [.str B6,.int .i64 1,.int .i64 0,.msl i 0 2 1,.msl j 0 1 5]]=some [(Cb x).F]:=by
 unfold Cod.F Cb
 simp only [ints,List.map_cons,List.map_nil,twoB,I7,Blk.F,Ins.F,i7] at h1 h2 ⊢
 simp -implicitDefEqProofs only [h1,h2,frzL_ints,XP,seval]
end Go.Proofs.AmEnv
set_option maxRecDepth 100000
namespace Go.Proofs.AmEnv
open Go Go.AM
variable {T:Nat->Option (List AV->Option (List AV))}
def iCp:Ins:=⟨2,0,1,0,0,0,[],[]⟩
def iBn:Ins:=⟨3,1,1,1,0,0,[43],[]⟩
theorem LM:(liveD (Cb iCp)).1=[[false,false]]:=by decide +kernel
theorem LN:(liveD (Cb iCp)).2.1=[[false,false]]:=by decide +kernel
theorem LO:(liveD (Cb iBn)).1=[[false,true]]:=by decide +kernel
theorem LP:(liveD (Cb iBn)).2.1=[[false,false]]:=by decide +kernel
theorem OV:clashD (Cb iCp)=[[false,false],[false,false]]:=by decide +kernel
theorem OW:clashD (Cb iBn)=[[false,true],[true,false]]:=by decide +kernel
theorem nY {x:Ins} (hx:x.ok) (hw:writesD x < 2) (hr:∀ r∈readsD x,0≤r∧r < 2):LOk (Cb x)∧(Cb x).regs.length * 24≤bigN:=by
 refine ⟨⟨by show 1 * 56≤bigN; decide,by show 1≤60000; decide,by show 2 * 8≤bigN; decide,by show 0 < 1; decide,fun b hb=>?_,fun b hb t ht=>?_⟩,by show 2 * 24≤bigN; decide⟩
 . obtain rfl:=List.mem_singleton.1 hb
   refine ⟨by show 2 * 88≤bigN; decide,by show 2≤60000; decide,fun y hy=>?_,fun y hy=>?_,fun y hy=>?_,fun _=>by show (1:Int) < 2; decide⟩
   . rcases List.mem_cons.1 hy with rfl | hy
     . show 0 * 8≤bigN; decide
     . obtain rfl:=List.mem_singleton.1 hy; exact hx
   . rcases List.mem_cons.1 hy with rfl | hy
     . show writesD i7 < 2; decide
     . obtain rfl:=List.mem_singleton.1 hy; exact hw
   . rcases List.mem_cons.1 hy with rfl | hy
     . intro r hr; cases hr
     . obtain rfl:=List.mem_singleton.1 hy; exact hr
 . obtain rfl:=List.mem_singleton.1 hb
   cases ht
def tK (g:List AV->Option (List AV)) (args:List AV) (K:PK) (v:Option (List AV)):Option PR:=match v with
 | some as1=>(match g as1 with
  | some rs=>if (okRs rs && ((refsL args).isEmpty || noFL rs))=true then some (.val (openTs K.os.length rs).1 ⟨K.os ++ (openTs K.os.length rs).2,K.ext,K.tch⟩) else none
  | none=>none)
 | none=>none
theorem nZ {f:Nat} {args:List AV} {g:List AV->Option (List AV)} {K:PK} (ht:T f=some g):evP ⟨A0,T,A5⟩ (.call f args K)=tK g args K (viewAs K.os args):=by
 rw [evP]
 show (match T f with | some g=>_ | none=>_)=_
 rw [ht]
 dsimp only
 unfold tcall tK
 cases viewAs K.os args with
 | none=>rfl
 | some as1 =>
  dsimp only
  cases g as1 with
  | none=>rfl
  | some rs =>
   dsimp only
   by_cases h:(okRs rs && ((refsL args).isEmpty || noFL rs))=true
   . rw [if_pos h,if_pos h]
   . rw [if_neg h,if_neg h]
theorem xY {args:List AV} {K:PK} {a b c d:Bool}:tK S8 args K (some [fslN [.bool a,.bool b],fslN [.bool c,.bool d]])=some (.val [.bool (decide ([a,b]=[c,d]))] ⟨K.os,K.ext,K.tch⟩):=by
 have h:S8 [fslN (bools [a,b]),fslN (bools [c,d])]=some [.bool (decide ([a,b]=[c,d]))]:=E5 (a:=fun p:List Bool × List Bool=>[fslN (bools p.1),fslN (bools p.2)]) (r:=fun p=>[.bool (decide (p.1=p.2))]) (fun x y e=>by simp only [List.cons.injEq,fslN_iff,bools_iff,and_true] at e; simp only [e]) ([a,b],[c,d]) (by show 2≤140737488355328; decide)
 unfold tK
 have h:S8 [fslN [.bool a,.bool b],fslN [.bool c,.bool d]]=some [.bool (decide ([a,b]=[c,d]))]:=h
 dsimp only
 rw [h]
 dsimp only
 rw [if_pos (by show (true && (_ || true))=true; simp)]
 show some (PR.val [.bool (decide ([a,b]=[c,d]))] ⟨K.os ++ [],K.ext,K.tch⟩)=_
 rw [List.append_nil]
set_option maxHeartbeats 8000000 in
theorem Iw (hlaw15_two:T 97=some Bl) (hlive_Live:T 33=some L4) (hlive_Clash:T 35=some N0) (hSameBools:T 61=some S8) :AM.Comes ⟨A0,T,A5⟩ 32 [] [.bool true]:=by
 refine ⟨[.bool true],⟨[],0,[]⟩,?_,E2 rfl List.nodup_nil rfl rfl rfl⟩
 rw [A9 (c:=IA) (nt:=99) (rs:=[.tmp 0]) rfl (by simp)]; unfold IA
 unfold K0
 have oA:=nY (x:=iCp) (by show 0 * 8≤bigN; decide) (by decide) (by decide)
 have oB:=nY (x:=iBn) (by show 0 * 8≤bigN; decide) (by decide) (by decide)
 have tA:∀ K:PK,evP ⟨A0,T,A5⟩ (.call 97 [.agg [.int .i64 2,.int .i64 0,.int .i64 1,.int .i64 0,.int .i64 0,.int .i64 0,.str [],.nilsl]] K)=some (.val (openTs K.os.length [Sx iCp]).1 ⟨K.os ++ (openTs K.os.length [Sx iCp]).2,K.ext,K.tch⟩):=fun K=>E1 hlaw15_two (as1:=[iCp.F]) rfl (E5 (a:=fun p:Ins=>[p.F]) (r:=fun p=>[Sx p]) (fun x y e=>by injection e with e _; rw [Ins.F_inj e]) iCp trivial) rfl
 have tB:∀ K:PK,evP ⟨A0,T,A5⟩ (.call 97 [.agg [.int .i64 3,.int .i64 1,.int .i64 1,.int .i64 1,.int .i64 0,.int .i64 0,.str [43],.nilsl]] K)=some (.val (openTs K.os.length [Sx iBn]).1 ⟨K.os ++ (openTs K.os.length [Sx iBn]).2,K.ext,K.tch⟩):=fun K=>E1 hlaw15_two (as1:=[iBn.F]) rfl (E5 (a:=fun p:Ins=>[p.F]) (r:=fun p=>[Sx p]) (fun x y e=>by injection e with e _; rw [Ins.F_inj e]) iBn trivial) rfl
 simp only [Sx,B6,ints,List.map_cons,List.map_nil] at tA tB
 have key:∀ (x:Ins) (h:LOk (Cb x)∧(Cb x).regs.length * 24≤bigN) (K:PK) (i j:Nat),K.os[i]?=some (.row 0 (ints [1,1]) 1)->K.os[j]?=some (.row 0 [twoB x] 5) ->
  evP ⟨A0,T,A5⟩ (.call 33 [.agg [.str B6,.int .i64 1,.int .i64 0,.msl i 0 2 1,.msl j 0 1 5]] K)=some (.val (openTs K.os.length [ownd 0 1 (tab (liveD (Cb x)).1),ownd 0 1 (tab (liveD (Cb x)).2.1)]).1 ⟨K.os ++ (openTs K.os.length [ownd 0 1 (tab (liveD (Cb x)).1),ownd 0 1 (tab (liveD (Cb x)).2.1)]).2,K.ext,K.tch⟩) ∧
  evP ⟨A0,T,A5⟩ (.call 35 [.agg [.str B6,.int .i64 1,.int .i64 0,.msl i 0 2 1,.msl j 0 1 5]] K)=some (.val (openTs K.os.length [ownd 0 1 (tab (clashD (Cb x)))]).1 ⟨K.os ++ (openTs K.os.length [ownd 0 1 (tab (clashD (Cb x)))]).2,K.ext,K.tch⟩):=fun x h K i j h1 h2 =>
  ⟨Xi hlive_Live (aT h1 h2) h.1,Su hlive_Clash (aT h1 h2) h⟩
 have lA:=fun K i j h1 h2=>(key iCp oA K i j h1 h2).1
 have lB:=fun K i j h1 h2=>(key iBn oB K i j h1 h2).1
 have cA:=fun K i j h1 h2=>(key iCp oA K i j h1 h2).2
 have cB:=fun K i j h1 h2=>(key iBn oB K i j h1 h2).2
 clear key
 rw [LM,LN] at lA
 rw [LO,LP] at lB
 rw [OV] at cA
 rw [OW] at cB
 have nAB:([twoB iCp]=[twoB iBn])=False:=eq_false (by intro h; simp [twoB,iCp,iBn,Ins.F,ownd] at h)
 have nBA:([twoB iBn]=[twoB iCp])=False:=eq_false (by intro h; simp [twoB,iCp,iBn,Ins.F,ownd] at h)
 simp only [B6,ints,tab,bools,List.map_cons,List.map_nil] at lA lB cA cB
 have ts:=fun args K=>nZ (args:=args) (K:=K) hSameBools
 have d1:decide ([false,false]=[false,false])=true:=rfl
 have d2:decide ([false,true]=[false,true])=true:=rfl
 have d3:decide ([true,false]=[true,false])=true:=rfl
 have ix_msl1:∀ (id:Nat),Ye Gt (.msl id 0 2 1) (.int .i64 1)=some (.ptr id 1 0):=fun id=>ix_msl (i:=1) (off:=0) (by decide) rfl
 have n1:((1:Nat):Int)=1:=rfl
 have n2:((2:Nat):Int)=2:=rfl
 simp -implicitDefEqProofs only [tA,tB,lA,lB,cA,cB,PO.row.injEq,nAB,nBA,n1,n2,S1,ix_msl1,ts,xY,d1,d2,d3,XP,seval]
def j2:=Cc (fun p:Unit=>[]) (fun p=>[.bool true]) (fun p=>True)
theorem Xm (hlaw15_works:T 32=some j2)  {K:PK}:evP ⟨A0,T,A5⟩ (.call 32 [] K)=some (.val (openTs K.os.length [.bool true]).1 ⟨K.os ++ (openTs K.os.length [.bool true]).2,K.ext,K.tch⟩):=E1 hlaw15_works (by simp -implicitDefEqProofs only [VV,XP,seval]) (E5 (a:=fun p:Unit=>[]) (r:=fun p=>[.bool true]) (fun x y e=>by simp only [VJ] at e; simp only [e]) () trivial) (by simp -implicitDefEqProofs only [VN,XP,seval])
theorem Qx (hlaw15_two:T 97=some Bl) (hlive_Live:T 33=some L4) (hlive_Clash:T 35=some N0) (hSameBools:T 61=some S8) (hP:PEok ⟨A0,T,A5⟩):TC A0 32 j2:=G4 hP fun p h=>Iw hlaw15_two hlive_Live hlive_Clash hSameBools
end Go.Proofs.AmEnv
set_option maxRecDepth 100000
namespace Go.Proofs.AmEnv
open Go Go.AM
variable {T:Nat->Option (List AV->Option (List AV))}
structure EvT (c:Cod) (A L:List (List Bool)):Prop where
 sh:A6 c.regs.length c.regs.length L
 sy:∀ i j,at2 L i j=at2 L j i
 ir:∀ i,at2 L i i=false
 fs:∀ i j,i < c.regs.length->j < c.regs.length->i ≠ j->I5 c A i=true->I5 c A j=true->at2 L i j=true
theorem sG (a b:Bool) (K:PK):W7 A0 .neq 4 (.bool a) (.bool b) K=.val (.bool (!(a == b))) K:=by cases a <;> cases b <;> rfl
section
variable {m:Modl} {c:Cod} {A L:List (List Bool)} {a b i:Nat}
theorem EL (hL:EvT c A L) (ha:a < c.regs.length) (hr:c.regs.length * 24≤bigN):evP ⟨A0,T,A5⟩ (.code jK [(1,.ptr 0 0 0),(3,.int .i64 (i:Int)),(4,.ptr 1 0 0),(5,.msl 2 0 c.regs.length 1),(6,.msl 3 0 c.blocks.length 1),(8,.int .i64 (a:Int))] ⟨[.row 1 [m.F] 2,.row 1 [c.F] 5,.row 0 (tab L) 1,.row 0 (tab A) 1],0,[]⟩)=some (.ok .normal [(1,.ptr 0 0 0),(3,.int .i64 (i:Int)),(4,.ptr 1 0 0),(5,.msl 2 0 c.regs.length 1),(6,.msl 3 0 c.blocks.length 1),(8,.int .i64 ((a + 1:Nat):Int))] ⟨[.row 1 [m.F] 2,.row 1 [c.F] 5,.row 0 (tab L) 1,.row 0 (tab A) 1],0,[]⟩):=by
 unfold jK
 have hlt:decide ((a:Int) < (c.regs.length:Int))=true:=by simp [ha]
 have hws:=B3 (i:=a) (by simp only [bigN] at hr; omega)
 have h3a:=G0 (A:=L) (i:=a) (by rw [hL.sh.1]; exact ha)
 have lla:=hL.sh.get ha
 have haa:=C9 (l:=L.getD a []) (i:=a) (by omega)
 rw [show (L.getD a []).getD a false=false from hL.ir a] at haa
 have hne:decide ((c.regs.length:Int)=(c.regs.length:Int))=true:=by simp
 simp only [Modl.F,Cod.F]
 simp -implicitDefEqProofs only [hlt,hws,h3a,lla,haa,hne,ha,List.length_map,J1,J2,J3,J4,J5,J6,J7,D5,D6,D7,D8,D9,E0,XP,seval]
theorem EM {K:PK}:∃ fr',evP ⟨A0,T,A5⟩ (.code jK [(1,.ptr 0 0 0),(3,.int .i64 (i:Int)),(4,.ptr 1 0 0),(5,.msl 2 0 c.regs.length 1),(6,.msl 3 0 c.blocks.length 1),(8,.int .i64 (c.regs.length:Int))] K)=some (.ok (.exit 2) fr' K)∧(lookP fr' 1=.ptr 0 0 0∧lookP fr' 3=.int .i64 (i:Int)∧lookP fr' 4=.ptr 1 0 0∧lookP fr' 5=.msl 2 0 c.regs.length 1∧lookP fr' 6=.msl 3 0 c.blocks.length 1):=by
 unfold jK
 have hlt:decide ((c.regs.length:Int) < (c.regs.length:Int))=false:=by simp
 simp -implicitDefEqProofs only [hlt,XP,seval]
 exact ⟨_,rfl,rfl,rfl,rfl,rfl,rfl⟩
set_option maxHeartbeats 8000000 in
theorem EN (hL:EvT c A L) (hA:A6 c.blocks.length c.regs.length A) (h0:0 < c.blocks.length) (ha:a < c.regs.length) (hb:b < c.regs.length) (hr:c.regs.length * 24≤bigN):evP ⟨A0,T,A5⟩ (.code jL [(1,.ptr 0 0 0),(3,.int .i64 (i:Int)),(4,.ptr 1 0 0),(5,.msl 2 0 c.regs.length 1),(6,.msl 3 0 c.blocks.length 1),(9,.int .i64 (a:Int)),(10,.int .i64 (b:Int))] ⟨[.row 1 [m.F] 2,.row 1 [c.F] 5,.row 0 (tab L) 1,.row 0 (tab A) 1],0,[]⟩)=some (.ok .normal [(1,.ptr 0 0 0),(3,.int .i64 (i:Int)),(4,.ptr 1 0 0),(5,.msl 2 0 c.regs.length 1),(6,.msl 3 0 c.blocks.length 1),(9,.int .i64 (a:Int)),(10,.int .i64 ((b + 1:Nat):Int))] ⟨[.row 1 [m.F] 2,.row 1 [c.F] 5,.row 0 (tab L) 1,.row 0 (tab A) 1],0,[]⟩):=by
 unfold jL
 have hlt:decide ((b:Int) < (c.regs.length:Int))=true:=by simp [hb]
 have hws:=B3 (i:=b) (by simp only [bigN] at hr; omega)
 have h3a:=G0 (A:=L) (i:=a) (by rw [hL.sh.1]; exact ha)
 have h3b:=G0 (A:=L) (i:=b) (by rw [hL.sh.1]; exact hb)
 have lla:=hL.sh.get ha
 have llb:=hL.sh.get hb
 have hab:=C9 (l:=L.getD a []) (i:=b) (by omega)
 have hba:=C9 (l:=L.getD b []) (i:=a) (by omega)
 have hA0:=G0 (A:=A) (i:=0) (by rw [hA.1]; exact h0)
 have hAl:=hA.get h0
 have hAb:=C9 (l:=A.getD 0 []) (i:=b) (by omega)
 rw [show (L.getD b []).getD a false=at2 L a b from (hL.sy a b).symm] at hba
 rw [show (L.getD a []).getD b false=at2 L a b from rfl] at hab
 have nq:=sG
 have go:(a:Int) < c.ps->I5 c A b=true->a ≠ b->at2 L a b=true:=fun h1 h2 h3=>hL.fs a b ha hb h3 (by unfold I5; rw [decide_eq_true h1]; rfl) h2
 generalize at2 L a b=v at hab hba go
 by_cases pa:(a:Int) < c.ps
 . have qa:=decide_eq_true pa
   by_cases pb:(b:Int) < c.ps
   . have qb:=decide_eq_true pb
     by_cases e:a=b
     . have ne:decide ((a:Int)=(b:Int))=true:=by simp [e]
       simp only [Modl.F,Cod.F]
       simp -implicitDefEqProofs only [qa,qb,ne,hlt,hws,h3a,h3b,lla,llb,hab,hba,hA0,hAl,hAb,ha,hb,h0,S1,nq,beq_self_eq_true,u_not,List.length_map,J1,J2,J3,J4,J5,J6,J7,D5,D6,D7,D8,D9,E0,XP,seval]
     . have ne:decide ((a:Int)=(b:Int))=false:=by simp; omega
       have hv:=go pa (by unfold I5; rw [qb]; rfl) e
       subst hv
       simp only [Modl.F,Cod.F]
       simp -implicitDefEqProofs only [qa,qb,ne,hlt,hws,h3a,h3b,lla,llb,hab,hba,hA0,hAl,hAb,ha,hb,h0,S1,nq,beq_self_eq_true,u_not,List.length_map,J1,J2,J3,J4,J5,J6,J7,D5,D6,D7,D8,D9,E0,XP,seval]
   . have qb:=decide_eq_false pb
     cases vb:(A.getD 0 []).getD b false with
     | false =>
      rw [vb] at hAb
      simp only [Modl.F,Cod.F]
      simp -implicitDefEqProofs only [qa,qb,hlt,hws,h3a,h3b,lla,llb,hab,hba,hA0,hAl,hAb,ha,hb,h0,S1,nq,beq_self_eq_true,u_not,List.length_map,J1,J2,J3,J4,J5,J6,J7,D5,D6,D7,D8,D9,E0,XP,seval]
     | true =>
      by_cases e:a=b
      . have ne:decide ((a:Int)=(b:Int))=true:=by simp [e]
        rw [vb] at hAb
        simp only [Modl.F,Cod.F]
        simp -implicitDefEqProofs only [qa,qb,ne,hlt,hws,h3a,h3b,lla,llb,hab,hba,hA0,hAl,hAb,ha,hb,h0,S1,nq,beq_self_eq_true,u_not,List.length_map,J1,J2,J3,J4,J5,J6,J7,D5,D6,D7,D8,D9,E0,XP,seval]
      . have ne:decide ((a:Int)=(b:Int))=false:=by simp; omega
        have hv:=go pa (by unfold I5; rw [vb,Bool.or_true]) e
        subst hv
        rw [vb] at hAb
        simp only [Modl.F,Cod.F]
        simp -implicitDefEqProofs only [qa,qb,ne,hlt,hws,h3a,h3b,lla,llb,hab,hba,hA0,hAl,hAb,ha,hb,h0,S1,nq,beq_self_eq_true,u_not,List.length_map,J1,J2,J3,J4,J5,J6,J7,D5,D6,D7,D8,D9,E0,XP,seval]
 . have qa:=decide_eq_false pa
   simp only [Modl.F,Cod.F]
   simp -implicitDefEqProofs only [qa,hlt,hws,h3a,h3b,lla,llb,hab,hba,hA0,hAl,hAb,ha,hb,h0,S1,nq,beq_self_eq_true,u_not,List.length_map,J1,J2,J3,J4,J5,J6,J7,D5,D6,D7,D8,D9,E0,XP,seval]
theorem EO {K:PK}:∃ fr',evP ⟨A0,T,A5⟩ (.code jL [(1,.ptr 0 0 0),(3,.int .i64 (i:Int)),(4,.ptr 1 0 0),(5,.msl 2 0 c.regs.length 1),(6,.msl 3 0 c.blocks.length 1),(9,.int .i64 (a:Int)),(10,.int .i64 (c.regs.length:Int))] K)=some (.ok (.exit 6) fr' K)∧(lookP fr' 1=.ptr 0 0 0∧lookP fr' 3=.int .i64 (i:Int)∧lookP fr' 4=.ptr 1 0 0∧lookP fr' 5=.msl 2 0 c.regs.length 1∧lookP fr' 6=.msl 3 0 c.blocks.length 1∧lookP fr' 9=.int .i64 (a:Int)):=by
 unfold jL
 have hlt:decide ((c.regs.length:Int) < (c.regs.length:Int))=false:=by simp
 simp -implicitDefEqProofs only [hlt,XP,seval]
 exact ⟨_,rfl,rfl,rfl,rfl,rfl,rfl,rfl⟩
theorem EP (hL:EvT c A L) (hA:A6 c.blocks.length c.regs.length A) (h0:0 < c.blocks.length) (ha:a < c.regs.length) (hr:c.regs.length * 24≤bigN):evP ⟨A0,T,A5⟩ (.code jM [(1,.ptr 0 0 0),(3,.int .i64 (i:Int)),(4,.ptr 1 0 0),(5,.msl 2 0 c.regs.length 1),(6,.msl 3 0 c.blocks.length 1),(9,.int .i64 (a:Int))] ⟨[.row 1 [m.F] 2,.row 1 [c.F] 5,.row 0 (tab L) 1,.row 0 (tab A) 1],0,[]⟩)=some (.ok .normal [(1,.ptr 0 0 0),(3,.int .i64 (i:Int)),(4,.ptr 1 0 0),(5,.msl 2 0 c.regs.length 1),(6,.msl 3 0 c.blocks.length 1),(9,.int .i64 ((a + 1:Nat):Int))] ⟨[.row 1 [m.F] 2,.row 1 [c.F] 5,.row 0 (tab L) 1,.row 0 (tab A) 1],0,[]⟩):=by
 have key:∀ (k b:Nat),c.regs.length=b + k->∃ fr',evP ⟨A0,T,A5⟩ (.code (.loop jL) [(1,.ptr 0 0 0),(3,.int .i64 (i:Int)),(4,.ptr 1 0 0),(5,.msl 2 0 c.regs.length 1),(6,.msl 3 0 c.blocks.length 1),(9,.int .i64 (a:Int)),(10,.int .i64 (b:Int))] ⟨[.row 1 [m.F] 2,.row 1 [c.F] 5,.row 0 (tab L) 1,.row 0 (tab A) 1],0,[]⟩)=some (.ok (.exit 6) fr' ⟨[.row 1 [m.F] 2,.row 1 [c.F] 5,.row 0 (tab L) 1,.row 0 (tab A) 1],0,[]⟩)∧(lookP fr' 1=.ptr 0 0 0∧lookP fr' 3=.int .i64 (i:Int)∧lookP fr' 4=.ptr 1 0 0∧lookP fr' 5=.msl 2 0 c.regs.length 1∧lookP fr' 6=.msl 3 0 c.blocks.length 1∧lookP fr' 9=.int .i64 (a:Int)):=fun k=>by
  induction k with
  | zero =>
   intro b e
   obtain rfl:b=c.regs.length:=by omega
   obtain ⟨fr',h,q⟩:=EO (T:=T) (c:=c) (a:=a) (i:=i) (K:=⟨[.row 1 [m.F] 2,.row 1 [c.F] 5,.row 0 (tab L) 1,.row 0 (tab A) 1],0,[]⟩)
   exact ⟨fr',C4 h,q⟩
  | succ k ih =>
   intro b e
   obtain ⟨fr',h,q⟩:=ih (b + 1) (by omega)
   exact ⟨fr',(C2 (EN hL hA h0 ha (by omega) hr)).trans h,q⟩
 obtain ⟨fr',h,k1,k2,k3,k4,k5,k6⟩:=key c.regs.length 0 (by omega)
 unfold jM
 have hlt:decide ((a:Int) < (c.regs.length:Int))=true:=by simp [ha]
 have hws:=B3 (i:=a) (by simp only [bigN] at hr; omega)
 rw [show ((0:Nat):Int)=0 from rfl] at h
 simp only [Modl.F,Cod.F] at h ⊢
 simp -implicitDefEqProofs only [hlt,hws,h,k1,k2,k3,k4,k5,k6,J1,J2,J3,J4,J5,J6,J7,D5,D6,D7,D8,D9,E0,XP,seval]
theorem EQ {K:PK}:∃ fr',evP ⟨A0,T,A5⟩ (.code jM [(1,.ptr 0 0 0),(3,.int .i64 (i:Int)),(4,.ptr 1 0 0),(5,.msl 2 0 c.regs.length 1),(6,.msl 3 0 c.blocks.length 1),(9,.int .i64 (c.regs.length:Int))] K)=some (.ok (.exit 4) fr' K)∧(lookP fr' 1=.ptr 0 0 0∧lookP fr' 3=.int .i64 (i:Int)):=by
 unfold jM
 have hlt:decide ((c.regs.length:Int) < (c.regs.length:Int))=false:=by simp
 simp -implicitDefEqProofs only [hlt,XP,seval]
 exact ⟨_,rfl,rfl,rfl⟩
theorem xZ {c:Cod} (hc:LOk c):EvT c (liveD c).1 (clashD c):=by
 obtain ⟨h1,h2,h3⟩:=dV hc
 exact ⟨Iu hc,h1,h2,h3⟩
set_option maxHeartbeats 4000000 in
theorem ER (hl:T 33=some L4) (hcl:T 35=some N0) (hi:i < m.fs.length) (hm:m.fs.length * 64≤bigN) (hc:LOk m.fs[i]) (hr:m.fs[i].regs.length * 24≤bigN):evP ⟨A0,T,A5⟩ (.code jN [(1,.ptr 0 0 0),(3,.int .i64 (i:Int))] ⟨[.row 1 [m.F] 2],0,[]⟩)=some (.ok .normal [(1,.ptr 0 0 0),(3,.int .i64 ((i + 1:Nat):Int))] ⟨[.row 1 [m.F] 2],0,[]⟩):=by
 have hlt:decide ((i:Int) < (m.fs.length:Int))=true:=by simp [hi]
 have hws:=B3 (i:=i) (by simp only [bigN] at hm; omega)
 have hg:=D2 (F:=Cod.F) hi
 generalize m.fs[i]=c at hc hr hg
 have tl:=fun K=>Qt (K:=K) hl hc
 have tc:=fun K=>aP (K:=K) hcl ⟨hc,hr⟩
 have hL:=xZ hc
 obtain ⟨hA,hB⟩:=b9 c
 generalize (liveD c).1=A at tl hL hA
 generalize (liveD c).2.1=B at tl hB
 generalize clashD c=L at tc hL
 have key0:∀ (k a:Nat),c.regs.length=a + k->∃ fr',evP ⟨A0,T,A5⟩ (.code (.loop jK) [(1,.ptr 0 0 0),(3,.int .i64 (i:Int)),(4,.ptr 1 0 0),(5,.msl 2 0 c.regs.length 1),(6,.msl 3 0 c.blocks.length 1),(8,.int .i64 (a:Int))] ⟨[.row 1 [m.F] 2,.row 1 [c.F] 5,.row 0 (tab L) 1,.row 0 (tab A) 1],0,[]⟩)=some (.ok (.exit 2) fr' ⟨[.row 1 [m.F] 2,.row 1 [c.F] 5,.row 0 (tab L) 1,.row 0 (tab A) 1],0,[]⟩)∧(lookP fr' 1=.ptr 0 0 0∧lookP fr' 3=.int .i64 (i:Int)∧lookP fr' 4=.ptr 1 0 0∧lookP fr' 5=.msl 2 0 c.regs.length 1∧lookP fr' 6=.msl 3 0 c.blocks.length 1):=fun k=>by
  induction k with
  | zero =>
   intro a e
   obtain rfl:a=c.regs.length:=by omega
   obtain ⟨fr',h,q⟩:=EM (T:=T) (c:=c) (i:=i) (K:=⟨[.row 1 [m.F] 2,.row 1 [c.F] 5,.row 0 (tab L) 1,.row 0 (tab A) 1],0,[]⟩)
   exact ⟨fr',C4 h,q⟩
  | succ k ih =>
   intro a e
   obtain ⟨fr',h,q⟩:=ih (a + 1) (by omega)
   exact ⟨fr',(C2 (EL hL (by omega) hr)).trans h,q⟩
 have key2:∀ (k a:Nat),c.regs.length=a + k->∃ fr',evP ⟨A0,T,A5⟩ (.code (.loop jM) [(1,.ptr 0 0 0),(3,.int .i64 (i:Int)),(4,.ptr 1 0 0),(5,.msl 2 0 c.regs.length 1),(6,.msl 3 0 c.blocks.length 1),(9,.int .i64 (a:Int))] ⟨[.row 1 [m.F] 2,.row 1 [c.F] 5,.row 0 (tab L) 1,.row 0 (tab A) 1],0,[]⟩)=some (.ok (.exit 4) fr' ⟨[.row 1 [m.F] 2,.row 1 [c.F] 5,.row 0 (tab L) 1,.row 0 (tab A) 1],0,[]⟩)∧(lookP fr' 1=.ptr 0 0 0∧lookP fr' 3=.int .i64 (i:Int)):=fun k=>by
  induction k with
  | zero =>
   intro a e
   obtain rfl:a=c.regs.length:=by omega
   obtain ⟨fr',h,q⟩:=EQ (T:=T) (c:=c) (i:=i) (K:=⟨[.row 1 [m.F] 2,.row 1 [c.F] 5,.row 0 (tab L) 1,.row 0 (tab A) 1],0,[]⟩)
   exact ⟨fr',C4 h,q⟩
  | succ k ih =>
   intro a e
   obtain ⟨fr',h,q⟩:=ih (a + 1) (by omega)
   exact ⟨fr',(C2 (EP hL hA hc.b0 (by omega) hr)).trans h,q⟩
 obtain ⟨fr1,h1,k1,k2,k3,k4,k5⟩:=key0 c.regs.length 0 (by omega)
 obtain ⟨fr2,h2,k6,k7⟩:=key2 c.regs.length 0 (by omega)
 clear key0 key2
 unfold jN
 have nz:((0:Nat):Int)=0:=rfl
 have l1:=hL.sh.1
 have l2:=hA.1
 rw [nz] at h1 h2
 have e1:decide ((c.regs.length:Int)=(c.regs.length:Int))=true:=by simp
 have e2:decide ((c.blocks.length:Int)=(c.blocks.length:Int))=true:=by simp
 simp only [Modl.F,Cod.F] at tl tc hg h1 h2 ⊢
 simp -implicitDefEqProofs only [hlt,hws,hg,tl,tc,l1,l2,e1,e2,h1,h2,k1,k2,k3,k4,k5,k6,k7,List.length_map,J1,J2,J3,J4,J5,J6,J7,D5,D6,D7,D8,D9,E0,XP,seval]
theorem ES {K:PK} (h:K=⟨[.row 1 [m.F] 2],0,[]⟩):∃ fr',evP ⟨A0,T,A5⟩ (.code jN [(1,.ptr 0 0 0),(3,.int .i64 (m.fs.length:Int))] K)=some (.ok (.exit 0) fr' K):=by
 subst h
 unfold jN
 have hlt:decide ((m.fs.length:Int) < (m.fs.length:Int))=false:=by simp
 simp only [Modl.F]
 simp -implicitDefEqProofs only [hlt,List.length_map,XP,seval]
 exact ⟨_,rfl⟩
end
set_option maxHeartbeats 4000000 in
theorem Du (hlaw15_Big:T 14=some Bh) (hlaw15_works:T 32=some j2) (hlive_Live:T 33=some L4) (hlive_Clash:T 35=some N0) {m:Modl} (hk:m.ok):AM.Comes ⟨A0,T,A5⟩ 7 [m.F] [.bool true]:=by
 refine ⟨[.bool true],⟨[],0,[]⟩,?_,E2 rfl List.nodup_nil rfl rfl rfl⟩
 rw [A9 (c:=p7) (nt:=135) (rs:=[.tmp 2]) rfl (by simp)]; unfold p7
 unfold K0
 have tb:=fun K=>dQ (K:=K) hlaw15_Big hk
 have tw:=fun K=>Xm (K:=K) hlaw15_works
 cases hbg:o5 m with
 | true =>
  rw [hbg] at tb
  simp only [Modl.F] at tb ⊢
  simp -implicitDefEqProofs only [tb,tw,XP,seval]
 | false =>
  rw [hbg] at tb
  have hcs:=jY hk hbg
  have key:∀ (k i:Nat),m.fs.length=i + k->∃ fr',evP ⟨A0,T,A5⟩ (.code (.loop jN) [(1,.ptr 0 0 0),(3,.int .i64 (i:Int))] ⟨[.row 1 [m.F] 2],0,[]⟩)=some (.ok (.exit 0) fr' ⟨[.row 1 [m.F] 2],0,[]⟩):=fun k=>by
   induction k with
   | zero =>
    intro i e
    obtain rfl:i=m.fs.length:=by omega
    obtain ⟨fr',h⟩:=ES (T:=T) (m:=m) rfl
    exact ⟨fr',C4 h⟩
   | succ k ih =>
    intro i e
    have hi:i < m.fs.length:=by omega
    obtain ⟨fr',h⟩:=ih (i + 1) (by omega)
    obtain ⟨q1,q2⟩:=hcs _ (List.getElem_mem hi)
    exact ⟨fr',(C2 (ER hlive_Live hlive_Clash hi hk.2.1 q1 q2)).trans h⟩
  obtain ⟨fr',h⟩:=key m.fs.length 0 (by omega)
  rw [show ((0:Nat):Int)=0 from rfl] at h
  simp only [Modl.F] at tb h ⊢
  simp -implicitDefEqProofs only [tb,tw,h,XP,seval]
end Go.Proofs.AmEnv
namespace Go.Proofs.AmEnv
open Go Go.AM
open Go.ChangeShapes Go.WideShapes Go.ChangeAt
section
variable {H:Type} {enc:TypeId × Value->H} {P:Program} {W:World} {base:Nat} {spare:Nat->Bool} {held:Bool}
theorem M5 {E:Env} (hE:EnvOk E P) {t:Nat} {x:TI} (ht:E.ti t=some x):P.cellsOf t=x.size:=by
 obtain ⟨i,z,h1,h2,_⟩:=(hE.ti t x ht).info
 unfold Program.cellsOf
 rw [h1]; exact h2
theorem Dv {E:Env} (hE:EnvOk E P) {t:Nat} {x:TI} (ht:E.ti t=some x):P.bytesOf t=x.bytes:=by
 obtain ⟨i,z,h1,_,h2,_⟩:=(hE.ti t x ht).info
 unfold Program.bytesOf
 rw [h1]; exact h2
variable (hE:EnvOk A0 P)
include hE
theorem oC:P.underlying 3=some (.int .i64):=(hE.ti 3 fS rfl).desc
theorem wA:P.underlying 9=some .string:=(hE.ti 9 BP rfl).desc
theorem yA:P.underlying 28=some (.slice 3):=(hE.ti 28 dD rfl).desc
theorem oD:P.underlying 37=some (.slice 77):=(hE.ti 37 aD rfl).desc
theorem oE:P.underlying 29=some (.slice 41):=(hE.ti 29 aC rfl).desc
theorem sH:P.underlying 23=some (.slice 31):=(hE.ti 23 jQ rfl).desc
theorem sI:P.underlying 22=some (.slice 96):=(hE.ti 22 jP rfl).desc
theorem Dw:P.cellsOf 3=1:=M5 hE ML
theorem Qy:P.cellsOf 9=1:=M5 hE OU
theorem Qz:P.cellsOf 28=1:=M5 hE KN
theorem Ra:P.cellsOf 37=1:=M5 hE KP
theorem aU:P.cellsOf 29=1:=M5 hE KO
theorem gF:P.cellsOf 23=1:=M5 hE KL
theorem Xn:P.cellsOf 22=1:=M5 hE KK
theorem gG:P.cellsOf 77=8:=M5 hE xI
theorem wB:P.cellsOf 39=4:=M5 hE KQ
theorem gH:P.cellsOf 41=5:=M5 hE xG
theorem oF:P.cellsOf 31=5:=M5 hE xE
theorem oG:P.cellsOf 96=4:=M5 hE xJ
theorem ET:P.cellsOf 25=2:=M5 hE KM
theorem Ep {m n:Nat} {cs:List Value} {d:DataW H} {ps:List MemPlace} (h:DataW.trod enc P W base spare held n 3 cs=some (d,ps)) (hw:Wt P 3 d):∃ s,S3 P (m + 1) 3 d=some s∧s.length=P.cellsOf 3∧∃ z,s=[.int .i64 z]:=by
 obtain ⟨z,rfl,e,_⟩:=DataW.trod_int (oC hE) h
 cases e
 refine ⟨[.int .i64 z],?_,by rw [Dw hE]; rfl,z,rfl⟩
 unfold S3
 rw [oC hE]
theorem Xo {m n:Nat} {cs:List Value} {d:DataW H} {ps:List MemPlace} (h:DataW.trod enc P W base spare held n 9 cs=some (d,ps)) (hw:Wt P 9 d):∃ s,S3 P (m + 1) 9 d=some s∧s.length=P.cellsOf 9∧∃ b,s=[.str b]∧b.length≤140737488355328:=by
 obtain ⟨b,rfl,e,_⟩:=DataW.trod_string (wA hE) h
 cases e
 refine ⟨[.str b.data.toList],?_,by rw [Qy hE]; rfl,_,rfl,?_⟩
 . unfold S3
   rw [wA hE]
 . have:=hw b.data.toList.length (by unfold DataW.weights; simp)
   exact Nat.le_trans this (by decide)
omit hE in
def dW (acs:List AV) (z:Int):Prop:=acs=[.int .i64 z]
theorem aV {m n:Nat} {cs:List Value} {d:DataW H} {ps:List MemPlace} (h:DataW.trod enc P W base spare held n 28 cs=some (d,ps)) (hw:Wt P 28 d):∃ s,S3 P (m + 2) 28 d=some s∧s.length=P.cellsOf 28∧∃ v l,s=[v]∧Tb P 3 dW v l:=by
 obtain ⟨v,l,h1,h2⟩:=r7 (Q:=dW) (m:=m + 1) (yA hE) (by rw [Dw hE]; decide) (fun n cs d ps h hw=>by
  obtain ⟨s,h1,h2,z,rfl⟩:=Ep hE (m:=m) h hw
  exact ⟨_,z,h1,⟨h2,.inr rfl⟩,rfl⟩) h hw
 exact ⟨[v],h1,by rw [Qz hE]; rfl,v,l,rfl,h2⟩
omit hE in
def Gz (P:Program) (acs:List AV) (I:Ins):Prop:=∃ av,acs=[.int .i64 I.op,.int .i64 I.ty,.int .i64 I.dst,.int .i64 I.a,.int .i64 I.b,.int .i64 I.n,.str I.s,av]∧Tb P 3 dW av I.args∧I.s.length≤140737488355328
omit hE in
theorem LQ {ss:List (List AV)} (h:ss.length=8):∃ a b c d e f g i,ss=[a,b,c,d,e,f,g,i]:=by
 match ss,h with
 | [a,b,c,d,e,f,g,i],_=>exact ⟨a,b,c,d,e,f,g,i,rfl⟩
theorem jZ {m n:Nat} {cs:List Value} {d:DataW H} {ps:List MemPlace} (h:DataW.trod enc P W base spare held n 77 cs=some (d,ps)) (hw:Wt P 77 d):∃ acs I,S3 P (m + 3) 77 d=some acs∧(acs.length=P.cellsOf 77∧(r8 P 77=true∨acs.length=1))∧Gz P acs I:=by
 obtain ⟨fs,hu,hm,_⟩:=(hE.ti 77 Bd rfl).desc
 have hm:fs.toList.map (fun f=>(f.type,f.offset))=[(3,0),(3,1),(3,2),(3,3),(3,4),(3,5),(9,6),(28,7)]:=hm
 obtain ⟨ss,h1,h2,h3,h4⟩:=Y8 (m:=m + 2) (Qs:=fun i s=>(i < 6->∃ z,s=[.int .i64 z])∧(i=6->∃ b,s=[.str b]∧b.length≤140737488355328)∧(i=7->∃ v l,s=[v]∧Tb P 3 dW v l)) hu hm
  (by simp only [Jp,Dw hE,Qy hE,Qz hE,and_self]) (by simp only [gG hE,List.map_cons,List.map_nil,List.sum_cons,List.sum_nil,Nat.reduceAdd,Dw hE,Qy hE,Qz hE])
  (fun i ty off hL n cs d ps h hw=>by
    rcases i with _ | _ | _ | _ | _ | _ | _ | _ | i
    iterate 6
     . cases hL
       obtain ⟨s,k1,k2,k3⟩:=Ep hE (m:=m + 1) h hw
       exact ⟨s,k1,k2,fun _=>k3,fun hh=>by omega,fun hh=>by omega⟩
    . cases hL
      obtain ⟨s,k1,k2,k3⟩:=Xo hE (m:=m + 1) h hw
      exact ⟨s,k1,k2,fun hh=>by omega,fun _=>k3,fun hh=>by omega⟩
    . cases hL
      obtain ⟨s,k1,k2,k3⟩:=aV hE (m:=m) h hw
      exact ⟨s,k1,k2,fun hh=>by omega,fun hh=>by omega,fun _=>k3⟩
    . simp at hL) h hw
 obtain ⟨a,b,c,e,f,g,s6,s7,rfl⟩:=LQ h3
 obtain ⟨z0,rfl⟩:=(h4 0 _ rfl).1 (by omega)
 obtain ⟨z1,rfl⟩:=(h4 1 _ rfl).1 (by omega)
 obtain ⟨z2,rfl⟩:=(h4 2 _ rfl).1 (by omega)
 obtain ⟨z3,rfl⟩:=(h4 3 _ rfl).1 (by omega)
 obtain ⟨z4,rfl⟩:=(h4 4 _ rfl).1 (by omega)
 obtain ⟨z5,rfl⟩:=(h4 5 _ rfl).1 (by omega)
 obtain ⟨b6,rfl,hb6⟩:=(h4 6 _ rfl).2.1 rfl
 obtain ⟨v,l,rfl,hv⟩:=(h4 7 _ rfl).2.2 rfl
 exact ⟨_,⟨z0,z1,z2,z3,z4,z5,b6,l⟩,h1,⟨h2,.inl (by unfold r8; rw [hu])⟩,v,rfl,hv,hb6⟩
omit hE in
def Ha (P:Program) (acs:List AV) (B:Blk):Prop:=∃ cv,acs=[cv,.int .i64 B.e.kind,.int .i64 B.e.a,.int .i64 B.e.to,.int .i64 B.e.els]∧Tb P 77 (Gz P) cv B.code
theorem dX {m n:Nat} {cs:List Value} {d:DataW H} {ps:List MemPlace} (h:DataW.trod enc P W base spare held n 37 cs=some (d,ps)) (hw:Wt P 37 d):∃ s,S3 P (m + 4) 37 d=some s∧s.length=P.cellsOf 37∧∃ v l,s=[v]∧Tb P 77 (Gz P) v l:=by
 obtain ⟨v,l,h1,h2⟩:=r7 (Q:=Gz P) (m:=m + 3) (oD hE) (by rw [gG hE]; decide) (fun n cs d ps h hw=>jZ hE h hw) h hw
 exact ⟨[v],h1,by rw [Ra hE]; rfl,v,l,rfl,h2⟩
theorem sJ {m n:Nat} {cs:List Value} {d:DataW H} {ps:List MemPlace} (h:DataW.trod enc P W base spare held n 39 cs=some (d,ps)) (hw:Wt P 39 d):∃ s,S3 P (m + 2) 39 d=some s∧s.length=P.cellsOf 39∧∃ x y z w,s=[.int .i64 x,.int .i64 y,.int .i64 z,.int .i64 w]:=by
 obtain ⟨fs,hu,hm,_⟩:=(hE.ti 39 Kl rfl).desc
 have hm:fs.toList.map (fun f=>(f.type,f.offset))=[(3,0),(3,1),(3,2),(3,3)]:=hm
 obtain ⟨ss,h1,h2,h3,h4⟩:=Y8 (m:=m + 1) (Qs:=fun i s=>∃ z,s=[.int .i64 z]) hu hm
  (by simp only [Jp,Dw hE,and_self]) (by simp only [wB hE,List.map_cons,List.map_nil,List.sum_cons,List.sum_nil,Nat.reduceAdd,Dw hE])
  (fun i ty off hL n cs d ps h hw=>by
    rcases i with _ | _ | _ | _ | i
    iterate 4
     . cases hL
       exact Ep hE (m:=m) h hw
    . simp at hL) h hw
 match ss,h3 with
 | [a,b,c,e],_ =>
  obtain ⟨z0,rfl⟩:=h4 0 _ rfl
  obtain ⟨z1,rfl⟩:=h4 1 _ rfl
  obtain ⟨z2,rfl⟩:=h4 2 _ rfl
  obtain ⟨z3,rfl⟩:=h4 3 _ rfl
  exact ⟨_,h1,h2,z0,z1,z2,z3,rfl⟩
theorem kA {m n:Nat} {cs:List Value} {d:DataW H} {ps:List MemPlace} (h:DataW.trod enc P W base spare held n 41 cs=some (d,ps)) (hw:Wt P 41 d):∃ acs B,S3 P (m + 5) 41 d=some acs∧(acs.length=P.cellsOf 41∧(r8 P 41=true∨acs.length=1))∧Ha P acs B:=by
 obtain ⟨fs,hu,hm,_⟩:=(hE.ti 41 Km rfl).desc
 have hm:fs.toList.map (fun f=>(f.type,f.offset))=[(37,0),(39,1)]:=hm
 obtain ⟨ss,h1,h2,h3,h4⟩:=Y8 (m:=m + 4) (Qs:=fun i s=>(i=0->∃ v l,s=[v]∧Tb P 77 (Gz P) v l)∧(i=1->∃ x y z w,s=[.int .i64 x,.int .i64 y,.int .i64 z,.int .i64 w])) hu hm
  (by simp only [Jp,Ra hE,and_self]) (by simp only [gH hE,List.map_cons,List.map_nil,List.sum_cons,List.sum_nil,Nat.reduceAdd,Ra hE,wB hE])
  (fun i ty off hL n cs d ps h hw=>by
    rcases i with _ | _ | i
    . cases hL
      obtain ⟨s,k1,k2,k3⟩:=dX hE (m:=m) h hw
      exact ⟨s,k1,k2,fun _=>k3,fun hh=>by omega⟩
    . cases hL
      obtain ⟨s,k1,k2,k3⟩:=sJ hE (m:=m + 2) h hw
      exact ⟨s,k1,k2,fun hh=>by omega,fun _=>k3⟩
    . simp at hL) h hw
 match ss,h3 with
 | [a,b],_ =>
  obtain ⟨v,l,rfl,hv⟩:=(h4 0 _ rfl).1 rfl
  obtain ⟨x,y,z,w,rfl⟩:=(h4 1 _ rfl).2 rfl
  exact ⟨_,⟨l,⟨x,y,z,w⟩⟩,h1,⟨h2,.inl (by unfold r8; rw [hu])⟩,v,rfl,hv⟩
theorem dY {m n:Nat} {cs:List Value} {d:DataW H} {ps:List MemPlace} (h:DataW.trod enc P W base spare held n 29 cs=some (d,ps)) (hw:Wt P 29 d):∃ s,S3 P (m + 6) 29 d=some s∧s.length=P.cellsOf 29∧∃ v l,s=[v]∧Tb P 41 (Ha P) v l:=by
 obtain ⟨v,l,h1,h2⟩:=r7 (Q:=Ha P) (m:=m + 5) (oE hE) (by rw [gH hE]; decide) (fun n cs d ps h hw=>kA hE h hw) h hw
 exact ⟨[v],h1,by rw [aU hE]; rfl,v,l,rfl,h2⟩
omit hE in
def Uk (P:Program) (acs:List AV) (C:Cod):Prop:=∃ rv bv,acs=[.str C.name,.int .i64 C.ty,.int .i64 C.ps,rv,bv]∧Tb P 3 dW rv C.regs∧Tb P 41 (Ha P) bv C.blocks
theorem oH {m n:Nat} {cs:List Value} {d:DataW H} {ps:List MemPlace} (h:DataW.trod enc P W base spare held n 31 cs=some (d,ps)) (hw:Wt P 31 d):∃ acs C,S3 P (m + 7) 31 d=some acs∧(acs.length=P.cellsOf 31∧(r8 P 31=true∨acs.length=1))∧Uk P acs C:=by
 obtain ⟨fs,hu,hm,_⟩:=(hE.ti 31 Df rfl).desc
 have hm:fs.toList.map (fun f=>(f.type,f.offset))=[(9,0),(3,1),(3,2),(28,3),(29,4)]:=hm
 obtain ⟨ss,h1,h2,h3,h4⟩:=Y8 (m:=m + 6) (Qs:=fun i s=>(i=0->∃ b,s=[.str b]∧b.length≤140737488355328)∧((i=1∨i=2)->∃ z,s=[.int .i64 z])∧(i=3->∃ v l,s=[v]∧Tb P 3 dW v l)∧(i=4->∃ v l,s=[v]∧Tb P 41 (Ha P) v l)) hu hm
  (by simp only [Jp,Dw hE,Qy hE,Qz hE,and_self]) (by simp only [oF hE,List.map_cons,List.map_nil,List.sum_cons,List.sum_nil,Nat.reduceAdd,Dw hE,Qy hE,Qz hE,aU hE])
  (fun i ty off hL n cs d ps h hw=>by
    rcases i with _ | _ | _ | _ | _ | i
    . cases hL
      obtain ⟨s,k1,k2,k3⟩:=Xo hE (m:=m + 5) h hw
      exact ⟨s,k1,k2,fun _=>k3,fun hh=>by omega,fun hh=>by omega,fun hh=>by omega⟩
    . cases hL
      obtain ⟨s,k1,k2,k3⟩:=Ep hE (m:=m + 5) h hw
      exact ⟨s,k1,k2,fun hh=>by omega,fun _=>k3,fun hh=>by omega,fun hh=>by omega⟩
    . cases hL
      obtain ⟨s,k1,k2,k3⟩:=Ep hE (m:=m + 5) h hw
      exact ⟨s,k1,k2,fun hh=>by omega,fun _=>k3,fun hh=>by omega,fun hh=>by omega⟩
    . cases hL
      obtain ⟨s,k1,k2,k3⟩:=aV hE (m:=m + 4) h hw
      exact ⟨s,k1,k2,fun hh=>by omega,fun hh=>by omega,fun _=>k3,fun hh=>by omega⟩
    . cases hL
      obtain ⟨s,k1,k2,k3⟩:=dY hE (m:=m) h hw
      exact ⟨s,k1,k2,fun hh=>by omega,fun hh=>by omega,fun hh=>by omega,fun _=>k3⟩
    . simp at hL) h hw
 match ss,h3 with
 | [a,b,c,e,f],_ =>
  obtain ⟨b0,rfl,_⟩:=(h4 0 _ rfl).1 rfl
  obtain ⟨z1,rfl⟩:=(h4 1 _ rfl).2.1 (.inl rfl)
  obtain ⟨z2,rfl⟩:=(h4 2 _ rfl).2.1 (.inr rfl)
  obtain ⟨v3,l3,rfl,hv3⟩:=(h4 3 _ rfl).2.2.1 rfl
  obtain ⟨v4,l4,rfl,hv4⟩:=(h4 4 _ rfl).2.2.2 rfl
  exact ⟨_,⟨b0,z1,z2,l3,l4⟩,h1,⟨h2,.inl (by unfold r8; rw [hu])⟩,v3,v4,rfl,hv3,hv4⟩
omit hE in
def aW (acs:List AV) (G:Glo):Prop:=acs=[.str G.name,.int .i64 G.ty,.int .i64 G.size,.int .i64 G.at_]
theorem oI {m n:Nat} {cs:List Value} {d:DataW H} {ps:List MemPlace} (h:DataW.trod enc P W base spare held n 96 cs=some (d,ps)) (hw:Wt P 96 d):∃ acs G,S3 P (m + 2) 96 d=some acs∧(acs.length=P.cellsOf 96∧(r8 P 96=true∨acs.length=1))∧aW acs G:=by
 obtain ⟨fs,hu,hm,_⟩:=(hE.ti 96 Pz rfl).desc
 have hm:fs.toList.map (fun f=>(f.type,f.offset))=[(9,0),(3,1),(3,2),(3,3)]:=hm
 obtain ⟨ss,h1,h2,h3,h4⟩:=Y8 (m:=m + 1) (Qs:=fun i s=>(i=0->∃ b,s=[.str b]∧b.length≤140737488355328)∧(0 < i->∃ z,s=[.int .i64 z])) hu hm
  (by simp only [Jp,Dw hE,Qy hE,and_self]) (by simp only [oG hE,List.map_cons,List.map_nil,List.sum_cons,List.sum_nil,Nat.reduceAdd,Dw hE,Qy hE])
  (fun i ty off hL n cs d ps h hw=>by
    rcases i with _ | _ | _ | _ | i
    . cases hL
      obtain ⟨s,k1,k2,k3⟩:=Xo hE (m:=m) h hw
      exact ⟨s,k1,k2,fun _=>k3,fun hh=>by omega⟩
    iterate 3
     . cases hL
       obtain ⟨s,k1,k2,k3⟩:=Ep hE (m:=m) h hw
       exact ⟨s,k1,k2,fun hh=>by omega,fun _=>k3⟩
    . simp at hL) h hw
 match ss,h3 with
 | [a,b,c,e],_ =>
  obtain ⟨b0,rfl,_⟩:=(h4 0 _ rfl).1 rfl
  obtain ⟨z1,rfl⟩:=(h4 1 _ rfl).2 (by omega)
  obtain ⟨z2,rfl⟩:=(h4 2 _ rfl).2 (by omega)
  obtain ⟨z3,rfl⟩:=(h4 3 _ rfl).2 (by omega)
  exact ⟨_,⟨b0,z1,z2,z3⟩,h1,⟨h2,.inl (by unfold r8; rw [hu])⟩,rfl⟩
theorem sK {n:Nat} {cs:List Value} {d:DataW H} {ps:List MemPlace} (h:DataW.trod enc P W base spare held n 25 cs=some (d,ps)) (hw:Wt P 25 d):∃ gv fv,∃ M:Modl,S3 P 9 25 d=some [gv,fv]∧Tb P 96 aW gv M.gs∧Tb P 31 (Uk P) fv M.fs:=by
 obtain ⟨fs,hu,hm,_⟩:=(hE.ti 25 aB rfl).desc
 have hm:fs.toList.map (fun f=>(f.type,f.offset))=[(22,0),(23,1)]:=hm
 obtain ⟨ss,h1,h2,h3,h4⟩:=Y8 (m:=8) (Qs:=fun i s=>(i=0->∃ v l,s=[v]∧Tb P 96 aW v l)∧(i=1->∃ v l,s=[v]∧Tb P 31 (Uk P) v l)) hu hm
  (by simp only [Jp,Xn hE,and_self]) (by simp only [ET hE,List.map_cons,List.map_nil,List.sum_cons,List.sum_nil,Nat.reduceAdd,Xn hE,gF hE])
  (fun i ty off hL n cs d ps h hw=>by
    rcases i with _ | _ | i
    . cases hL
      obtain ⟨v,l,k1,k2⟩:=r7 (Q:=aW) (m:=7) (sI hE) (by rw [oG hE]; decide) (fun n cs d ps h hw=>oI hE (m:=5) h hw) h hw
      exact ⟨[v],k1,by rw [Xn hE]; rfl,fun _=>⟨v,l,rfl,k2⟩,fun hh=>by omega⟩
    . cases hL
      obtain ⟨v,l,k1,k2⟩:=r7 (Q:=Uk P) (m:=7) (sH hE) (by rw [oF hE]; decide) (fun n cs d ps h hw=>oH hE (m:=0) h hw) h hw
      exact ⟨[v],k1,by rw [gF hE]; rfl,fun hh=>by omega,fun _=>⟨v,l,rfl,k2⟩⟩
    . simp at hL) h hw
 match ss,h3 with
 | [a,b],_ =>
  obtain ⟨v0,l0,rfl,hv0⟩:=(h4 0 _ rfl).1 rfl
  obtain ⟨v1,l1,rfl,hv1⟩:=(h4 1 _ rfl).2 rfl
  exact ⟨v0,v1,⟨l0,l1⟩,h1,hv0,hv1⟩
omit hE in
theorem Xp {t:TypeId} {acs:List AV} (h:r8 P t=true):seeV P t acs=.agg acs:=by unfold seeV; rw [h]; rfl
theorem wC:P.bytesOf 3=8:=Dv hE ML
theorem sL:P.bytesOf 77=88:=Dv hE xI
theorem sM:P.bytesOf 41=56:=Dv hE xG
theorem yB:P.bytesOf 31=80:=Dv hE xE
theorem yC:P.bytesOf 96=40:=Dv hE xJ
theorem sN {t:TypeId} {x:TI} {L:List (Nat × Nat)} {fl:Bool} (ht:A0.ti t=some x) (hd:x.desc=.struct L fl):r8 P t=true:=by
 have h:=(hE.ti t x ht).desc
 unfold I2 at h
 rw [hd] at h
 obtain ⟨fs,hu,_⟩:=h
 unfold r8
 rw [hu]
theorem LR:r8 P 3=false:=by unfold r8; rw [oC hE]
theorem oJ {v:AV} {l:List Int} (hq:Tb P 3 dW v l) {Z:Nat->Prop} {h:Heap}:Fz Z h v (fslN (ints l)):=hq.fz fun r X hr=>by
 have hr:r=[.int .i64 X]:=hr
 subst hr
 have:seeV P 3 [.int .i64 X]=.int .i64 X:=by unfold seeV; rw [LR hE]; rfl
 rw [this]; exact .int _ _
omit hE in
theorem aX {Z:Nat->Prop} {h:Heap} {xs ys:List AV} (hl:xs.length=ys.length) (hc:ys.all clo=true) (hz:∀ p∈xs.zip ys,Fz Z h p.1 p.2):Fz Z h (.agg xs) (.agg ys):=by
 refine .agg hl (fun i x y hx hy=>hz (x,y) ?_) hc
 exact List.mem_of_getElem? (i:=i) (by rw [List.getElem?_zip_eq_some]; exact ⟨hx,hy⟩)
theorem sO {acs:List AV} {I:Ins} (hq:Gz P acs I) {Z:Nat->Prop} {h:Heap}:Fz Z h (seeV P 77 acs) I.F:=by
 obtain ⟨av,rfl,h1,_⟩:=hq
 rw [Xp (sN hE xI rfl)]
 refine aX rfl rfl fun p hp=>?_
 simp only [List.zip_cons_cons,List.zip_nil_left,List.mem_cons,List.not_mem_nil,or_false] at hp
 rcases hp with rfl | rfl | rfl | rfl | rfl | rfl | rfl | rfl
 iterate 6
  . exact .int _ _
 . exact .str _
 . exact oJ hE h1
theorem sP {acs:List AV} {B:Blk} (hq:Ha P acs B) {Z:Nat->Prop} {h:Heap}:Fz Z h (seeV P 41 acs) B.F:=by
 obtain ⟨av,rfl,h1⟩:=hq
 rw [Xp (sN hE xG rfl)]
 refine aX rfl rfl fun p hp=>?_
 simp only [List.zip_cons_cons,List.zip_nil_left,List.mem_cons,List.not_mem_nil,or_false] at hp
 rcases hp with rfl | rfl | rfl | rfl | rfl
 . exact h1.fz fun r X hr=>sO hE hr
 iterate 4
  . exact .int _ _
theorem yD {acs:List AV} {C:Cod} (hq:Uk P acs C) {Z:Nat->Prop} {h:Heap}:Fz Z h (seeV P 31 acs) C.F:=by
 obtain ⟨rv,bv,rfl,h1,h2⟩:=hq
 rw [Xp (sN hE xE rfl)]
 refine aX rfl rfl fun p hp=>?_
 simp only [List.zip_cons_cons,List.zip_nil_left,List.mem_cons,List.not_mem_nil,or_false] at hp
 rcases hp with rfl | rfl | rfl | rfl | rfl
 . exact .str _
 . exact .int _ _
 . exact .int _ _
 . exact oJ hE h1
 . exact h2.fz fun r X hr=>sP hE hr
theorem yE {acs:List AV} {G:Glo} (hq:aW acs G) {Z:Nat->Prop} {h:Heap}:Fz Z h (seeV P 96 acs) G.F:=by
 have hq:acs=_:=hq
 subst hq
 rw [Xp (sN hE xJ rfl)]
 refine aX rfl rfl fun p hp=>?_
 simp only [List.zip_cons_cons,List.zip_nil_left,List.mem_cons,List.not_mem_nil,or_false] at hp
 rcases hp with rfl | rfl | rfl | rfl
 . exact .str _
 iterate 3
  . exact .int _ _
theorem Kw {n b k:Nat} (h:n * b≤reachBytes) (hb:b=k):n * k≤bigN:=by
 subst hb
 exact Nat.le_trans h (by decide)
theorem oK {acs:List AV} {I:Ins} (hq:Gz P acs I):I.sok:=by
 obtain ⟨av,_,h1,h2⟩:=hq
 exact ⟨Kw hE h1.2 (wC hE),h2⟩
theorem oL {acs:List AV} {B:Blk} (hq:Ha P acs B):B.sok:=by
 obtain ⟨av,_,h1⟩:=hq
 have hx:∀ x∈B.code,x.sok:=fun x hx=>by
  obtain ⟨r,hr⟩:=h1.mem hx
  exact oK hE hr
 exact ⟨⟨fun x h=>(hx x h).1,Kw hE h1.2 (sL hE)⟩,hx⟩
theorem sQ {acs:List AV} {C:Cod} (hq:Uk P acs C):C.sok:=by
 obtain ⟨rv,bv,_,h1,h2⟩:=hq
 have hx:∀ x∈C.blocks,x.sok:=fun x hx=>by
  obtain ⟨r,hr⟩:=h2.mem hx
  exact oL hE hr
 exact ⟨⟨Kw hE h1.2 (wC hE),fun x h=>(hx x h).1,Kw hE h2.2 (sM hE)⟩,hx⟩
theorem mod_see {n:Nat} {cs:List Value} {d:DataW H} {ps:List MemPlace} (h:DataW.trod enc P W base spare held n 25 cs=some (d,ps)) (hw:Wt P 25 d):∃ acs,∃ M:Modl,S3 P 9 25 d=some acs∧acs.length=2∧(∀ Z h,Fz Z h (.agg acs) M.F)∧M.ok:=by
 obtain ⟨gv,fv,M,h1,h2,h3⟩:=sK hE h hw
 refine ⟨[gv,fv],M,h1,rfl,fun Z h=>?_,fun C hC=>?_,?_,Kw hE h2.2 (yC hE)⟩
 . refine aX rfl rfl fun p hp=>?_
   simp only [List.zip_cons_cons,List.zip_nil_left,List.mem_cons,List.not_mem_nil,or_false] at hp
   rcases hp with rfl | rfl
   . exact h2.fz fun r X hr=>yE hE hr
   . exact h3.fz fun r X hr=>yD hE hr
 . obtain ⟨r,hr⟩:=h3.mem hC
   exact sQ hE hr
 . have:=Kw hE h3.2 (yB hE)
   simp only [bigN] at this ⊢
   omega
end
end Go.Proofs.AmEnv
namespace Go.AM
theorem oM {E:Env} {f:Nat} {args:List AV} {h:Heap} (hg:E.gc f=false) (ht:E.told f=true):callω E f args h=toldA args h:=by
 refine (Eq (E:=E) f args h).unique ?_
 have e:∀ m,H5 E (ev E m) f args h=toldA args h:=fun m=>by
  unfold H5
  rw [hg]
  show O5 E (ev E m) f args h=_
  unfold O5
  rw [ht]; rfl
 simp only [e]
 exact .const
end Go.AM
namespace Go.Proofs.AmEnv
open Go Go.AM
theorem aY (hg:A0.gc 245=false) (ht:A0.told 245=true):TC A0 245 Q7:=by
 intro args rs hgc Z h xs hl hz hb
 unfold Q7 at hgc
 split at hgc
 . rename_i s p
   split at hgc
   . rename_i hs
     cases hgc
     match xs,hl with
     | [x,y],_ =>
      have h0:=hz 0 x (.str s) rfl rfl
      have h1:=hz 1 y (.str p) rfl rfl
      cases h0; cases h1
      refine ⟨[.bool (contS p s)],h,Z,fun _=>none,?_,FQ hb,VL.cons (.fz (.bool _)) VL.nil,Nat.le_refl _,fun id hz=>⟨hz,rfl⟩,fun id hz=>.inl hz,fun id _=>rfl,fun id L e=>(by cases e),[],rfl,fun id hi=>(List.not_mem_nil hi).elim⟩
      rw [oM hg ht]
      show (bif Nat.ble (c8 s) 4000000000 || oneB p then (match contS p s with | true=>Res.ok (.bool true) h | false=>.ok (.bool false) h) else .bad)=_
      have hs:(Nat.ble (c8 s) 4000000000 || oneB p)=true:=hs
      rw [hs]
      cases contS p s <;> rfl
   . cases hgc
 . cases hgc
end Go.Proofs.AmEnv
set_option maxRecDepth 100000
namespace Go.Proofs.AmEnv
open Go Go.AM
def S9 (T:Nat->Option (List AV->Option (List AV))) (f:Nat) (g:List AV->Option (List AV)) (k:Nat):Option (List AV->Option (List AV)):=bif Nat.beq k f then some g else T k
theorem F3 {E:Env} {T:Nat->Option (List AV->Option (List AV))} {F:Nat->Option PFn} {f:Nat} {g:List AV->Option (List AV)} (hP:PEok ⟨E,T,F⟩) (h:TC E f g):PEok ⟨E,S9 T f g,F⟩:=by
 refine ⟨hP.gl,hP.ti,fun k q e=>?_,hP.fn⟩
 have e:(bif Nat.beq k f then some g else T k)=some q:=e
 cases hb:Nat.beq k f with
 | true=>rw [hb] at e; cases e; rw [Nat.eq_of_beq_eq_true hb]; exact h
 | false=>rw [hb] at e; exact hP.T k q e
def T0 (k:Nat):Option (List AV->Option (List AV)):=none
section
variable (hP:PEok ⟨A0,T0,A5⟩)
include hP
omit hP in
def T1:=S9 T0 70 j5
theorem P1:PEok ⟨A0,T1,A5⟩:=F3 hP (nB hP rfl)
omit hP in
def T2:=S9 T1 169 C0
theorem P2:PEok ⟨A0,T2,A5⟩:=F3 (P1 hP) (dR (P1 hP) rfl)
omit hP in
def T3:=S9 T2 245 Q7
theorem P3:PEok ⟨A0,T3,A5⟩:=F3 (P2 hP) (aY rfl rfl)
omit hP in
def T4:=S9 T3 111 N4
theorem P4:PEok ⟨A0,T4,A5⟩:=F3 (P3 hP) (Wu (P3 hP))
omit hP in
def T5:=S9 T4 225 G9
theorem P5:PEok ⟨A0,T5,A5⟩:=F3 (P4 hP) (aH (P4 hP))
omit hP in
def T6:=S9 T5 249 Dg
theorem P6:PEok ⟨A0,T6,A5⟩:=F3 (P5 hP) (dH (P5 hP))
omit hP in
def T7:=S9 T6 182 Q2
theorem P7:PEok ⟨A0,T7,A5⟩:=F3 (P6 hP) (Wv (P6 hP))
omit hP in
def T8:=S9 T7 175 C6
theorem P8:PEok ⟨A0,T8,A5⟩:=F3 (P7 hP) (Dh rfl (P7 hP))
omit hP in
def T9:=S9 T8 178 K6
theorem P9:PEok ⟨A0,T9,A5⟩:=F3 (P8 hP) (Qb (P8 hP))
omit hP in
def MM:=S9 T9 108 B0
theorem MN:PEok ⟨A0,MM,A5⟩:=F3 (P9 hP) (Ww (P9 hP))
omit hP in
def MO:=S9 MM 170 B7
theorem MP:PEok ⟨A0,MO,A5⟩:=F3 (MN hP) (aI rfl (MN hP))
omit hP in
def MQ:=S9 MO 264 Di
theorem MR:PEok ⟨A0,MQ,A5⟩:=F3 (MP hP) (dJ (MP hP))
omit hP in
def MS:=S9 MQ 246 j7
theorem MT:PEok ⟨A0,MS,A5⟩:=F3 (MR hP) (aJ rfl (MR hP))
omit hP in
def MU:=S9 MS 113 n8
theorem MV:PEok ⟨A0,MU,A5⟩:=F3 (MT hP) (Wx rfl rfl (MT hP))
omit hP in
def MW:=S9 MU 222 Dj
theorem MX:PEok ⟨A0,MW,A5⟩:=F3 (MV hP) (dL rfl (MV hP))
omit hP in
def MY:=S9 MW 247 D3
theorem MZ:PEok ⟨A0,MY,A5⟩:=F3 (MX hP) (Dk rfl (MX hP))
omit hP in
def NA:=S9 MY 223 I4
theorem NB:PEok ⟨A0,NA,A5⟩:=F3 (MZ hP) (Dn rfl rfl rfl rfl rfl rfl (MZ hP))
omit hP in
def NC:=S9 NA 224 K7
theorem ND:PEok ⟨A0,NC,A5⟩:=F3 (NB hP) (Fk rfl rfl rfl rfl (NB hP))
omit hP in
def NE:=S9 NC 176 C5
theorem NF:PEok ⟨A0,NE,A5⟩:=F3 (ND hP) (Fl rfl rfl rfl (ND hP))
omit hP in
def NG:=S9 NE 177 H1
theorem NH:PEok ⟨A0,NG,A5⟩:=F3 (NF hP) (It rfl (NF hP))
omit hP in
def NI:=S9 NG 112 G3
theorem NJ:PEok ⟨A0,NI,A5⟩:=F3 (NH hP) (Gx rfl rfl rfl rfl rfl (NH hP))
omit hP in
def NK:=S9 NI 40 Af
theorem NL:PEok ⟨A0,NK,A5⟩:=F3 (NJ hP) (aK rfl rfl rfl (NJ hP))
omit hP in
def NM:=S9 NK 39 o6
theorem NN:PEok ⟨A0,NM,A5⟩:=F3 (NL hP) (Xb (NL hP))
omit hP in
def NO:=S9 NM 14 Bh
theorem NP:PEok ⟨A0,NO,A5⟩:=F3 (NN hP) (Xc rfl rfl (NN hP))
omit hP in
def NQ:=S9 NO 61 S8
theorem NR:PEok ⟨A0,NQ,A5⟩:=F3 (NP hP) (Xe (NP hP))
omit hP in
def NS:=S9 NQ 99 Q8
theorem NT:PEok ⟨A0,NS,A5⟩:=F3 (NR hP) (aO (NR hP))
omit hP in
def NU:=S9 NS 33 L4
theorem NV:PEok ⟨A0,NU,A5⟩:=F3 (NT hP) (Xj rfl rfl rfl rfl rfl rfl rfl rfl rfl (NT hP))
omit hP in
def NW:=S9 NU 35 N0
theorem NX:PEok ⟨A0,NW,A5⟩:=F3 (NV hP) (Sv rfl rfl rfl rfl rfl rfl rfl rfl rfl (NV hP))
omit hP in
def NY:=S9 NW 97 Bl
theorem NZ:PEok ⟨A0,NY,A5⟩:=F3 (NX hP) (Xl (NX hP))
omit hP in
def OA:=S9 NY 32 j2
theorem OX:PEok ⟨A0,OA,A5⟩:=F3 (NZ hP) (Qx rfl rfl rfl rfl (NZ hP))
omit hP in
end
end Go.Proofs.AmEnv
set_option maxRecDepth 100000
namespace Go.Proofs.AmEnv
open Go Go.AM
theorem sR {f:Nat} {T:Nat->Option (List AV->Option (List AV))} (hP:PEok ⟨A0,T,A5⟩) {a x:AV} (H:AM.Comes ⟨A0,T,A5⟩ f [a] [.bool true]) (hz:∀ Z h,Fz Z h x a):∃ h',callω A0 f [x] Heap.empty=.ok (.bool true) h':=by
 obtain ⟨vcs,h1,Z1,ow1,e,_,l,_⟩:=Ed hP H (Z:=fun _=>False) (h:=Heap.empty) (xs:=[x]) rfl (fun i u v hu hv=>by
  cases i with
  | zero=>cases hu; cases hv; exact hz _ _
  | succ i=>simp at hu) (fun id h=>h.elim)
 have l:VL Z1 ow1 h1 (openTs 0 [AV.bool true]).2 vcs [.bool true]:=l
 match vcs,l.1 with
 | [v],_ =>
  have hv:=l.2 0 v (.bool true) rfl rfl
  have:v=.bool true:=by
   cases hv with
   | fz h=>cases h; rfl
  subst this
  exact ⟨h1,e⟩
theorem LiveEven_ok (hP:PEok ⟨A0,T0,A5⟩) {m:Modl} (hm:m.ok) {x:AV} (hz:∀ Z h,Fz Z h x m.F):∃ h',callω A0 7 [x] Heap.empty=.ok (.bool true) h':=sR (OX hP) (Du (T:=OA) rfl rfl rfl rfl hm) hz
end Go.Proofs.AmEnv
