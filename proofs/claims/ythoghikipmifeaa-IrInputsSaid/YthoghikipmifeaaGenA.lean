/- What this program's functions do, at any data. Conditions: none. -/
import Derived.Test.YthoghikipmifeaaEnv
set_option linter.unusedVariables false
set_option linter.unusedSimpArgs false
set_option linter.unusedSectionVars false
set_option linter.defProp false
set_option maxRecDepth 100000
noncomputable section
namespace Go.Proofs.AmEnv
open Go Go.AM
variable {T:Nat->Option (List AV->Option (List AV))}
abbrev ints (l:List Int):List AV:=l.map (AV.int .i64)
theorem Wh (l:List Int):y4 (ints l)=true:=by
 induction l with
 | nil=>rfl
 | cons x l ih=>exact ih
theorem A8 {l:List Int} {i:Nat} (h:i < l.length):(ints l)[i]?=some (.int .i64 l[i]):=by
 unfold ints; rw [List.getElem?_map,List.getElem?_eq_getElem h]; rfl
theorem Jr {l:List Int} {i:Nat} (h:i < l.length):ints (l.take i) ++ [.int .i64 l[i]]=ints (l.take (i + 1)):=by
 unfold ints; rw [List.take_succ_eq_append_getElem h,List.map_append]; rfl
section
variable {l:List Int} {f:Bool} {i:Nat} {x:Int} {es:List AV}
theorem MR (hl:0 < l.length) :
 evP ⟨A0,T,A4⟩ (.code Hh [(0,.fsl (ints l) f),(3,.nilsl),(4,.int .i64 0)] ⟨[],0,[]⟩)=some (.ok .normal [(0,.fsl (ints l) f),(3,.msl 0 0 1 1),(4,.int .i64 ((1:Nat):Int))] ⟨[.row 0 (ints (l.take 1)) 1],0,[]⟩):=by
 unfold Hh
 have hlt:decide ((0:Int) < ((ints l).length:Int))=true:=by simp [hl]
 have hi:=A8 hl
 have hw:=C8 (i:=0) (by omega)
 have hx:Si ty3 (.fsl (ints l) f) (.int .i64 0)=some (.fptr (.int .i64 l[0]) 0):=ix_fsl (i:=0) hi rfl
 have ht:=Jr hl
 rw [List.take_zero] at ht
 have ht:[AV.int .i64 l[0]]=ints (l.take 1):=ht
 simp -implicitDefEqProofs only [hlt,hx,← ht,show IntKind.i64.wrap (0 + 1)=((1:Nat):Int) from rfl,XP,Nat.reduceAdd,Nat.reduceSub,Nat.reduceLT,Nat.reduceLeDiff,Nat.reduceEqDiff,Nat.reduceMul,↓reduceIte]
theorem MS (hl:i < l.length) (hs:l.length * 8≤140737488355328) :
 evP ⟨A0,T,A4⟩ (.code Hh [(0,.fsl (ints l) f),(3,.msl 0 0 i 1),(4,.int .i64 i)] ⟨[.row 0 (ints (l.take i)) 1],0,[]⟩)=some (.ok .normal [(0,.fsl (ints l) f),(3,.msl 0 0 (i + 1) 1),(4,.int .i64 ((i + 1:Nat):Int))] ⟨[.row 0 (ints (l.take (i + 1))) 1],0,[]⟩):=by
 unfold Hh
 have hlt:decide ((i:Int) < ((ints l).length:Int))=true:=by simp [hl]
 have hi:=A8 hl
 have hm:(ints (l.take i)).length=i:=by simp; omega
 have hw:=C8 (i:=i) (by omega)
 have hz:(i + 1) * 8≤140737488355328:=by omega
 simp -implicitDefEqProofs only [hlt,hi,hm,hw,hz,Jr hl,XP,seval]
theorem CC {y:AV} {K:PK}:∃ fr',evP ⟨A0,T,A4⟩ (.code Hh [(0,.fsl (ints l) f),(3,y),(4,.int .i64 l.length)] K)=some (.ok (.exit 0) fr' K)∧lookP fr' 3=y:=by
 unfold Hh
 have hlt:decide ((l.length:Int) < ((ints l).length:Int))=false:=by simp
 simp -implicitDefEqProofs only [hlt,XP,seval]
 exact ⟨_,rfl,rfl⟩
theorem CD (hs:l.length * 8≤140737488355328):∀ (n i:Nat),l.length=i + n->0 < i->∃ fr',evP ⟨A0,T,A4⟩ (.code (.loop Hh) [(0,.fsl (ints l) f),(3,.msl 0 0 i 1),(4,.int .i64 i)] ⟨[.row 0 (ints (l.take i)) 1],0,[]⟩)=some (.ok (.exit 0) fr' ⟨[.row 0 (ints l) 1],0,[]⟩)∧lookP fr' 3=.msl 0 0 l.length 1
 | 0,i,e,h0=>by
  obtain rfl:i=l.length:=by omega
  rw [List.take_length]
  obtain ⟨fr',h1,h2⟩:=CC (T:=T) (l:=l) (f:=f) (y:=.msl 0 0 l.length 1) (K:=⟨[.row 0 (ints l) 1],0,[]⟩)
  exact ⟨fr',H6 h1,h2⟩
 | n + 1,i,e,h0=>by
  rw [G6 (MS (by omega) hs)]
  exact CD hs n (i + 1) (by omega) (by omega)
theorem Pb (hs:l.length * 8≤140737488355328):AM.Comes ⟨A0,T,A4⟩ 13 [.fsl (ints l) f] [ownd 0 1 (ints l)]:=by
 cases l with
 | nil =>
  obtain ⟨fr',h1,h2⟩:=CC (T:=T) (l:=[]) (f:=f) (y:=.nilsl) (K:=⟨[],0,[]⟩)
  have hl:=H6 h1
  refine ⟨[.nilsl],⟨[],0,[]⟩,?_,⟨by decide,rfl,rfl⟩⟩
  rw [A7 (c:=yY) (nt:=19) (rs:=[.tmp 2]) rfl (by simp)]
  unfold yY K0
  have hl:evP ⟨A0,T,A4⟩ (.code (.loop Hh) [(0,.fsl (ints []) f),(3,.nilsl),(4,.int .i64 0)] ⟨[],0,[]⟩)=_:=hl
  simp -implicitDefEqProofs only [hl,h2,XP,seval]
 | cons x r =>
  obtain ⟨fr',h1,h2⟩:=CD (T:=T) (f:=f) hs r.length 1 (by simp; omega) (by decide)
  have hl:=(G6 (MR (T:=T) (f:=f) (l:=x :: r) (by simp))).trans h1
  refine ⟨[.msl 0 0 (x :: r).length 1],⟨[.row 0 (ints (x :: r)) 1],0,[]⟩,?_,?_⟩
  . rw [A7 (c:=yY) (nt:=19) (rs:=[.tmp 2]) rfl (by simp)]
    unfold yY K0
    simp -implicitDefEqProofs only [hl,h2,XP,seval]
  . refine back_of (vs':=[.msl 0 0 (x :: r).length 1]) (os':=[.row 0 (ints (x :: r)) 1]) ?_ ?_ (us:=[.msl 0 0 (ints (x :: r)).length 1]) (ps:=[.row 0 (ints (x :: r)) 1]) ?_ ?_ ?_
    all_goals simp -implicitDefEqProofs only [List.length_map,XP,seval]
end
end Go.Proofs.AmEnv
set_option maxRecDepth 100000
namespace Go.Proofs.AmEnv
open Go Go.AM
variable {T:Nat->Option (List AV->Option (List AV))}
theorem ints_inj {l m:List Int} (h:ints l=ints m):l=m:=by
 induction l generalizing m with
 | nil=>cases m with
  | nil=>rfl
  | cons=>cases h
 | cons x l ih=>cases m with
  | nil=>cases h
  | cons y m=>injection h with h1 h2; injection h1 with _ h1; rw [h1,ih h2]
section
variable {l m:List Int} {f g:Bool} {i:Nat}
theorem MT (hl:i < l.length) (hm:i < m.length) (he:l[i]=m[i]) (hs:l.length≤140737488355328) :
 evP ⟨A0,T,A4⟩ (.code Ci [(0,.fsl (ints l) f),(1,.fsl (ints m) g),(5,.int .i64 i)] ⟨[],0,[]⟩)=some (.ok .normal [(0,.fsl (ints l) f),(1,.fsl (ints m) g),(5,.int .i64 ((i + 1:Nat):Int))] ⟨[],0,[]⟩):=by
 unfold Ci
 have hlt:decide ((i:Int) < ((ints l).length:Int))=true:=by simp [hl]
 have h1:=A8 hl
 have h2:=A8 hm
 have hw:=C8 (i:=i) (by omega)
 simp -implicitDefEqProofs only [hlt,h1,h2,hw,he,u_not,XP,seval]
theorem MU (hl:i < l.length) (hm:i < m.length) (he:¬ l[i]=m[i]) :
 ∃ fr',evP ⟨A0,T,A4⟩ (.code Ci [(0,.fsl (ints l) f),(1,.fsl (ints m) g),(5,.int .i64 i)] ⟨[],0,[]⟩)=some (.ok .ret fr' ⟨[],0,[]⟩)∧lookP fr' 4=.bool false:=by
 unfold Ci
 have hlt:decide ((i:Int) < ((ints l).length:Int))=true:=by simp [hl]
 have h1:=A8 hl
 have h2:=A8 hm
 have hd:decide (l[i]=m[i])=false:=by simp [he]
 simp -implicitDefEqProofs only [hlt,h1,h2,hd,u_not,XP,seval]
 exact ⟨_,rfl,rfl⟩
theorem MV (hm:l.length=m.length):∃ fr',evP ⟨A0,T,A4⟩ (.code Ci [(0,.fsl (ints l) f),(1,.fsl (ints m) g),(5,.int .i64 l.length)] ⟨[],0,[]⟩)=some (.ok (.exit 0) fr' ⟨[],0,[]⟩):=by
 unfold Ci
 have hlt:decide ((l.length:Int) < ((ints l).length:Int))=false:=by simp
 simp -implicitDefEqProofs only [hlt,XP,seval]
 exact ⟨_,rfl⟩
theorem si_l (hs:l.length≤140737488355328) (hm:l.length=m.length):∀ (n i:Nat),l.length=i + n ->
 (l.drop i=m.drop i∧∃ fr',evP ⟨A0,T,A4⟩ (.code (.loop Ci) [(0,.fsl (ints l) f),(1,.fsl (ints m) g),(5,.int .i64 i)] ⟨[],0,[]⟩)=some (.ok (.exit 0) fr' ⟨[],0,[]⟩)) ∨
 (l.drop i ≠ m.drop i∧∃ fr',evP ⟨A0,T,A4⟩ (.code (.loop Ci) [(0,.fsl (ints l) f),(1,.fsl (ints m) g),(5,.int .i64 i)] ⟨[],0,[]⟩)=some (.ok .ret fr' ⟨[],0,[]⟩)∧lookP fr' 4=.bool false)
 | 0,i,e=>by
  obtain rfl:i=l.length:=by omega
  obtain ⟨fr',h⟩:=MV (T:=T) (f:=f) (g:=g) hm
  exact .inl ⟨by rw [List.drop_length,hm,List.drop_length],fr',H6 h⟩
 | n + 1,i,e=>by
  have hl:i < l.length:=by omega
  have hl':i < m.length:=by omega
  rw [List.drop_eq_getElem_cons hl,List.drop_eq_getElem_cons hl']
  by_cases he:l[i]=m[i]
  . rw [G6 (MT hl hl' he hs)]
    rcases si_l hs hm n (i + 1) (by omega) with ⟨h1,h2⟩ | ⟨h1,h2⟩
    . exact .inl ⟨by rw [he,h1],h2⟩
    . exact .inr ⟨fun h=>h1 (List.cons.inj h).2,h2⟩
  . obtain ⟨fr',h1,h2⟩:=MU (T:=T) (f:=f) (g:=g) hl hl' he
    exact .inr ⟨fun h=>he (List.cons.inj h).1,fr',z6 h1,h2⟩
theorem Pc (hs:l.length≤140737488355328):AM.Comes ⟨A0,T,A4⟩ 11 [.fsl (ints l) f,.fsl (ints m) g] [.bool (decide (l=m))]:=by
 refine ⟨[.bool (decide (l=m))],⟨[],0,[]⟩,?_,back_of rfl List.nodup_nil rfl rfl rfl⟩
 rw [A7 (c:=yX) (nt:=27) (rs:=[.tmp 4]) rfl (by simp)]
 unfold yX K0
 by_cases hm:l.length=m.length
 . have hn:(!decide (((ints l).length:Int)=((ints m).length:Int)))=false:=by simp [hm]
   rcases si_l (T:=T) (f:=f) (g:=g) hs hm l.length 0 (by omega) with ⟨h1,fr',h2⟩ | ⟨h1,fr',h2,h3⟩
   . have h1:decide (l=m)=true:=by simpa using h1
     have h2:evP ⟨A0,T,A4⟩ (.code (.loop Ci) [(0,.fsl (ints l) f),(1,.fsl (ints m) g),(5,.int .i64 0)] ⟨[],0,[]⟩)=_:=h2
     simp -implicitDefEqProofs only [hn,h1,h2,XP,seval]
   . have h1:decide (l=m)=false:=by simpa using h1
     have h2:evP ⟨A0,T,A4⟩ (.code (.loop Ci) [(0,.fsl (ints l) f),(1,.fsl (ints m) g),(5,.int .i64 0)] ⟨[],0,[]⟩)=_:=h2
     simp -implicitDefEqProofs only [hn,h1,h2,h3,XP,seval]
 . have hn:(!decide (((ints l).length:Int)=((ints m).length:Int)))=true:=by simp [hm]; omega
   have h1:decide (l=m)=false:=by simp; intro h; exact hm (by rw [h])
   simp -implicitDefEqProofs only [hn,h1,XP,seval]
end
end Go.Proofs.AmEnv
set_option maxRecDepth 100000
namespace Go.Proofs.AmEnv
open Go Go.AM
structure Ins where
 op:Int
 ty:Int
 dst:Int
 a:Int
 b:Int
 n:Int
 s:List UInt8
 args:List Int
deriving DecidableEq
abbrev bigN:Nat:=140737488355328
def Ins.F (x:Ins):AV:=.agg [.int .i64 x.op,.int .i64 x.ty,.int .i64 x.dst,.int .i64 x.a,.int .i64 x.b,.int .i64 x.n,.str x.s,fslN (ints x.args)]
def Ins.ok (x:Ins):Prop:=x.args.length * 8≤bigN
theorem fslN_inj {l m:List AV} (h:fslN l=fslN m):l=m:=by unfold fslN at h; injection h
theorem Ins.F_inj {x y:Ins} (h:x.F=y.F):x=y:=by
 cases x; cases y
 simp only [Ins.F,AV.agg.injEq,List.cons.injEq,AV.int.injEq,AV.str.injEq,true_and,and_true] at h
 obtain ⟨rfl,rfl,rfl,rfl,rfl,rfl,rfl,h⟩:=h
 rw [ints_inj (fslN_inj h)]
def K9:=u5 (fun l:List Int=>[fslN (ints l)]) (fun l=>[ownd 0 1 (ints l)]) (fun l=>l.length * 8≤bigN)
theorem Hk {l:List Int} (h:l.length * 8≤bigN):K9 [fslN (ints l)]=some [ownd 0 1 (ints l)]:=C1 (a:=fun l:List Int=>[fslN (ints l)]) (fun x y e=>by injection e with e _; rw [ints_inj (fslN_inj e)]) l h
def v8:=u5 (fun p:List Int × List Int=>[fslN (ints p.1),fslN (ints p.2)]) (fun p=>[.bool (decide (p.1=p.2))]) (fun p=>p.1.length * 8≤bigN)
theorem Wi {l m:List Int} (h:l.length * 8≤bigN):v8 [fslN (ints l),fslN (ints m)]=some [.bool (decide (l=m))]:=C1 (a:=fun p:List Int × List Int=>[fslN (ints p.1),fslN (ints p.2)]) (r:=fun p=>[.bool (decide (p.1=p.2))]) (fun x y e=>by
 injection e with e1 e; injection e with e2 _
 rw [ints_inj (fslN_inj e1),ints_inj (fslN_inj e2)]) (l,m) h
theorem frzL_ints (l:List Int):frzL (ints l)=some (ints l):=Dy (f:=AV.int .i64) (g:=AV.int .i64) (fun _=>rfl) l
section
variable {T:Nat->Option (List AV->Option (List AV))}
theorem Ti (l:List Int):noFL (ints l)=true:=by
 induction l with
 | nil=>rfl
 | cons x l ih=>exact ih
end
end Go.Proofs.AmEnv
set_option maxRecDepth 100000
namespace Go.Proofs.AmEnv
open Go Go.AM
variable {T:Nat->Option (List AV->Option (List AV))}
theorem Ins.viewF {os:List PO} (x:Ins):viewA os x.F=some x.F:=by
 unfold Ins.F
 simp -implicitDefEqProofs only [frzL_ints,XP,seval]
theorem Ins.frzF (x:Ins):frzC x.F=some x.F:=by
 unfold Ins.F
 simp -implicitDefEqProofs only [frzL_ints,XP,seval]
theorem B4 {X:Type} {F:X->AV} {l:List X} {i:Nat} (h:i < l.length):(l.map F)[i]?=some (F l[i]):=by rw [List.getElem?_map,List.getElem?_eq_getElem h]; rfl
theorem map_take {X:Type} {F:X->AV} {l:List X} {i:Nat} (h:i < l.length):(l.take i).map F ++ [F l[i]]=(l.take (i + 1)).map F:=by rw [List.take_succ_eq_append_getElem h,List.map_append]; rfl
section
variable {l:List Ins} {f:Bool} {i:Nat}
end
end Go.Proofs.AmEnv
set_option maxRecDepth 100000
namespace Go.Proofs.AmEnv
open Go Go.AM
variable {T:Nat->Option (List AV->Option (List AV))}
theorem Hl {X:Type} {F:X->AV} (hF:∀ x y,F x=F y->x=y):∀ {l m:List X},l.map F=m.map F->l=m
 | [],[],_=>rfl
 | [],_ :: _,h=>by cases h
 | _ :: _,[],h=>by cases h
 | x :: l,y :: m,h=>by
  injection h with h1 h2
  rw [hF _ _ h1,Hl hF h2]
section
variable {l m:List Ins} {i:Nat}
end
end Go.Proofs.AmEnv
set_option maxRecDepth 100000
namespace Go.Proofs.AmEnv
open Go Go.AM
variable {T:Nat->Option (List AV->Option (List AV))}
structure Endd where
 kind:Int
 a:Int
 to:Int
 els:Int
deriving DecidableEq
structure Blk where
 code:List Ins
 e:Endd
deriving DecidableEq
def Endd.F (e:Endd):AV:=.agg [.int .i64 e.kind,.int .i64 e.a,.int .i64 e.to,.int .i64 e.els]
def Blk.F (x:Blk):AV:=.agg [fslN (x.code.map Ins.F),.int .i64 x.e.kind,.int .i64 x.e.a,.int .i64 x.e.to,.int .i64 x.e.els]
def Blk.ok (x:Blk):Prop:=(∀ y∈x.code,y.ok)∧x.code.length * 88≤bigN
theorem Blk.F_inj {x y:Blk} (h:x.F=y.F):x=y:=by
 obtain ⟨c,e⟩:=x; obtain ⟨c',e'⟩:=y
 cases e; cases e'
 simp only [Blk.F,AV.agg.injEq,List.cons.injEq,AV.int.injEq,true_and,and_true] at h
 obtain ⟨h,rfl,rfl,rfl,rfl⟩:=h
 rw [Hl (fun _ _=>Ins.F_inj) (fslN_inj h)]
theorem frzL_insF (l:List Ins):frzL (l.map Ins.F)=some (l.map Ins.F):=Dy Ins.frzF l
theorem Blk.frzF (x:Blk):frzC x.F=some x.F:=by
 unfold Blk.F
 simp -implicitDefEqProofs only [frzL_insF,XP,seval]
section
variable {l:List Blk} {i:Nat}
end
end Go.Proofs.AmEnv
set_option maxRecDepth 100000
namespace Go.Proofs.AmEnv
open Go Go.AM
variable {T:Nat->Option (List AV->Option (List AV))}
section
variable {l m:List Blk} {i:Nat}
end
end Go.Proofs.AmEnv
set_option maxRecDepth 100000
namespace Go.Proofs.AmEnv
open Go Go.AM
variable {T:Nat->Option (List AV->Option (List AV))}
structure Cod where
 name:List UInt8
 ty:Int
 ps:Int
 regs:List Int
 blocks:List Blk
deriving DecidableEq
def Cod.F (x:Cod):AV:=.agg [.str x.name,.int .i64 x.ty,.int .i64 x.ps,fslN (ints x.regs),fslN (x.blocks.map Blk.F)]
def Cod.ok (x:Cod):Prop:=x.regs.length * 8≤bigN∧(∀ y∈x.blocks,y.ok)∧x.blocks.length * 56≤bigN
theorem Cod.F_inj {x y:Cod} (h:x.F=y.F):x=y:=by
 cases x; cases y
 simp only [Cod.F,AV.agg.injEq,List.cons.injEq,AV.int.injEq,AV.str.injEq,true_and,and_true] at h
 obtain ⟨rfl,rfl,rfl,h1,h2⟩:=h
 rw [ints_inj (fslN_inj h1),Hl (fun _ _=>Blk.F_inj) (fslN_inj h2)]
theorem frzL_blkF (l:List Blk):frzL (l.map Blk.F)=some (l.map Blk.F):=Dy Blk.frzF l
theorem Cod.viewF {os:List PO} (x:Cod):viewA os x.F=some x.F:=by
 unfold Cod.F
 simp -implicitDefEqProofs only [frzL_blkF,frzL_ints,XP,seval]
theorem Cod.frzF (x:Cod):frzC x.F=some x.F:=by
 unfold Cod.F
 simp -implicitDefEqProofs only [frzL_blkF,frzL_ints,XP,seval]
theorem Tj (hT:T 13=some K9) {l:List Int} (h:l.length * 8≤bigN) {K:PK}:evP ⟨A0,T,A4⟩ (.call 13 [fslN (ints l)] K)=some (.val (openTs K.os.length [ownd 0 1 (ints l)]).1 ⟨K.os ++ (openTs K.os.length [ownd 0 1 (ints l)]).2,K.ext,K.tch⟩):=C0 hT (by show consO (tQ (frzL (ints l))) (some [])=_; rw [frzL_ints]; rfl) (Hk h) (by rfl)
theorem jR (hT:T 11=some v8) {l m:List Int} (h:l.length * 8≤bigN) {K:PK}:evP ⟨A0,T,A4⟩ (.call 11 [fslN (ints l),fslN (ints m)] K)=some (.val [.bool (decide (l=m))] ⟨K.os ++ [],K.ext,K.tch⟩):=C0 hT (by show consO (tQ (frzL (ints l))) (consO (tQ (frzL (ints m))) (some []))=_; rw [frzL_ints,frzL_ints]; rfl) (Wi h) (by rfl)
end Go.Proofs.AmEnv
set_option maxRecDepth 100000
namespace Go.Proofs.AmEnv
open Go Go.AM
variable {T:Nat->Option (List AV->Option (List AV))}
section
variable {l:List Int}
theorem rL {t:Nat} {K:PK} (h:K7 A0 t=.slc):N4 A0 .eql t .nilsl .nilsl K=.val (.bool true) K:=by rw [bp _ _ rfl rfl,h]; rfl
theorem rM {t:Nat} {K:PK} (h:K7 A0 t=.slc):N4 A0 .eql t (.fsl [] false) .nilsl K=.val (.bool false) K:=by rw [bp _ _ rfl rfl,h]; rfl
theorem nK {t:Nat} {K:PK} {e:AV} {es:List AV} (h:K7 A0 t=.slc):N4 A0 .eql t (fslN (e :: es)) .nilsl K=.val (.bool false) K:=by rw [bp _ _ rfl rfl,h]; rfl
theorem wN (n:Nat):E2 n []=true:=rfl
theorem jS:AM.Comes ⟨A0,T,A4⟩ 43 [.nilsl] [ownd 0 1 (ints [])]:=by
 refine ⟨[.nilsl],⟨[],0,[]⟩,?_,S2 (.inl ⟨rfl,rfl,rfl⟩)⟩
 rw [A7 (c:=uB) (nt:=8) (rs:=[.tmp 2]) rfl (by simp)]
 unfold uB K0
 simp -implicitDefEqProofs only [rL (t:=26) rfl,XP,seval]
theorem jT:AM.Comes ⟨A0,T,A4⟩ 43 [.fsl [] false] [ownd 0 1 (ints [])]:=by
 refine ⟨[.msl 0 0 0 1],⟨[.row 0 [] 1],0,[]⟩,?_,S2 (.inr ⟨rfl,rfl⟩)⟩
 rw [A7 (c:=uB) (nt:=8) (rs:=[.tmp 2]) rfl (by simp)]
 unfold uB K0
 simp -implicitDefEqProofs only [rM (t:=26) rfl,wN,XP,seval]
theorem fP:∀ l:List Int,E2 1 (ints l)=true
 | []=>rfl
 | x :: l=>fP l
theorem dD {x:Int} {l:List Int} (hs:(x :: l).length * 8≤bigN):AM.Comes ⟨A0,T,A4⟩ 43 [fslN (ints (x :: l))] [ownd 0 1 (ints (x :: l))]:=by
 refine ⟨[.msl 0 0 (ints (x :: l)).length 1],⟨[.row 0 (ints (x :: l)) 1],0,[]⟩,?_,S2 (.inr ⟨rfl,rfl⟩)⟩
 rw [A7 (c:=uB) (nt:=8) (rs:=[.tmp 2]) rfl (by simp)]
 unfold uB K0
 have h1:∀ K:PK,N4 A0 .eql 26 (fslN (ints (x :: l))) .nilsl K=.val (.bool false) K:=fun K=>nK (t:=26) rfl
 have h2:=fP (x :: l)
 have h3:(ints (x :: l)).isEmpty=false:=rfl
 have h4:(ints (x :: l)).length * 8≤140737488355328:=by simpa [bigN] using hs
 generalize ints (x :: l)=es at h1 h2 h3 h4
 simp -implicitDefEqProofs only [h1,h2,h3,h4,XP,seval]
theorem nL {P:PE} (hP:PEok P) (he:P=⟨A0,T,A4⟩):TC P.E 43 K9:=by
 subst he
 refine yL hP (fun a args rs hg a' ha=>?_) (by unfold K9 u5; rw [dif_neg]; rintro ⟨x,_,h⟩; cases h)
 obtain ⟨l,h1,h2,rfl⟩:=iG hg
 injection h2 with h2 h3
 subst h2 h3
 cases l with
 | nil =>
  rcases List.mem_cons.1 ha with rfl | ha
  . exact jS
  . obtain rfl:=List.mem_singleton.1 ha; exact jT
 | cons x l =>
  obtain rfl:=List.mem_singleton.1 (show a'∈[fslN (ints (x :: l))] from ha)
  exact dD h1
end
end Go.Proofs.AmEnv
set_option maxRecDepth 100000
namespace Go.Proofs.AmEnv
open Go Go.AM
variable {T:Nat->Option (List AV->Option (List AV))}
section
end
end Go.Proofs.AmEnv
set_option maxRecDepth 100000
namespace Go.Proofs.AmEnv
open Go Go.AM
variable {T:Nat->Option (List AV->Option (List AV))}
section
variable {l m:List Int} {i:Nat}
abbrev yW (l m:List Int) (n i:Nat):PF:=[(0,fslN (ints l)),(1,fslN (ints m)),(12,.int .i64 (n:Int)),(13,.int .i64 (i:Int))]
end
end Go.Proofs.AmEnv
set_option maxRecDepth 100000
namespace Go.Proofs.AmEnv
open Go Go.AM
variable {T:Nat->Option (List AV->Option (List AV))}
section
end
end Go.Proofs.AmEnv
set_option maxRecDepth 100000
namespace Go.Proofs.AmEnv
open Go Go.AM
variable {T:Nat->Option (List AV->Option (List AV))}
section
variable {l m:List Ins} {i:Nat}
end
end Go.Proofs.AmEnv
set_option maxRecDepth 100000
namespace Go.Proofs.AmEnv
open Go Go.AM
variable {T:Nat->Option (List AV->Option (List AV))}
structure Glo where
 name:List UInt8
 ty:Int
 size:Int
 at_:Int
deriving DecidableEq
structure Modl where
 gs:List Glo
 fs:List Cod
deriving DecidableEq
def Glo.F (g:Glo):AV:=.agg [.str g.name,.int .i64 g.ty,.int .i64 g.size,.int .i64 g.at_]
def Modl.F (m:Modl):AV:=.agg [fslN (m.gs.map Glo.F),fslN (m.fs.map Cod.F)]
abbrev CE (l:List Bool):List AV:=l.map AV.bool
def chkF (m:Modl) (c:Cod):AV:=.agg [fslN (m.gs.map Glo.F),fslN (m.fs.map Cod.F),.str c.name,.int .i64 c.ty,.int .i64 c.ps,fslN (ints c.regs),fslN (c.blocks.map Blk.F)]
theorem Glo.F_inj {x y:Glo} (h:x.F=y.F):x=y:=by
 cases x; cases y
 simp only [Glo.F,AV.agg.injEq,List.cons.injEq,AV.int.injEq,AV.str.injEq,true_and,and_true] at h
 obtain ⟨rfl,rfl,rfl,rfl⟩:=h; rfl
theorem Endd.F_inj {x y:Endd} (h:x.F=y.F):x=y:=by
 cases x; cases y
 simp only [Endd.F,AV.agg.injEq,List.cons.injEq,AV.int.injEq,true_and,and_true] at h
 obtain ⟨rfl,rfl,rfl,rfl⟩:=h; rfl
theorem Modl.F_inj {x y:Modl} (h:x.F=y.F):x=y:=by
 cases x; cases y
 simp only [Modl.F,AV.agg.injEq,List.cons.injEq,and_true] at h
 rw [Hl (fun _ _=>Glo.F_inj) (fslN_inj h.1),Hl (fun _ _=>Cod.F_inj) (fslN_inj h.2)]
theorem fslN_iff {l m:List AV}:fslN l=fslN m ↔ l=m:=⟨fslN_inj,fun h=>h ▸ rfl⟩
theorem ints_iff {l m:List Int}:l.map (AV.int .i64)=m.map (AV.int .i64) ↔ l=m:=⟨ints_inj,fun h=>h ▸ rfl⟩
theorem Ins.F_iff {x y:Ins}:x.F=y.F ↔ x=y:=⟨Ins.F_inj,fun h=>h ▸ rfl⟩
theorem Cod.F_iff {x y:Cod}:x.F=y.F ↔ x=y:=⟨Cod.F_inj,fun h=>h ▸ rfl⟩
theorem Endd.F_iff {x y:Endd}:x.F=y.F ↔ x=y:=⟨Endd.F_inj,fun h=>h ▸ rfl⟩
theorem Modl.F_iff {x y:Modl}:x.F=y.F ↔ x=y:=⟨Modl.F_inj,fun h=>h ▸ rfl⟩
theorem Glo.frzF (x:Glo):frzC x.F=some x.F:=by unfold Glo.F; simp -implicitDefEqProofs only [XP,seval]
theorem frzL_gloF (l:List Glo):frzL (l.map Glo.F)=some (l.map Glo.F):=Dy Glo.frzF l
theorem frzL_codF (l:List Cod):frzL (l.map Cod.F)=some (l.map Cod.F):=Dy Cod.frzF l
theorem Endd.viewF {os:List PO} (x:Endd):viewA os x.F=some x.F:=by unfold Endd.F; simp -implicitDefEqProofs only [XP,seval]
theorem Modl.viewF {os:List PO} (x:Modl):viewA os x.F=some x.F:=by unfold Modl.F; simp -implicitDefEqProofs only [frzL_gloF,frzL_codF,XP,seval]
theorem chk_viewF {os:List PO} (m:Modl) (c:Cod):viewA os (chkF m c)=some (chkF m c):=by unfold chkF; simp -implicitDefEqProofs only [frzL_gloF,frzL_codF,frzL_ints,frzL_blkF,XP,seval]
theorem chk_iff {m m':Modl} {c c':Cod}:chkF m c=chkF m' c' ↔ m=m'∧c=c':=by
 constructor
 . intro h
   simp only [chkF,AV.agg.injEq,List.cons.injEq,AV.int.injEq,AV.str.injEq,and_true] at h
   obtain ⟨h1,h2,h3,⟨_,h4⟩,⟨_,h5⟩,h6,h7⟩:=h
   exact ⟨Modl.F_inj (by simp only [Modl.F]; rw [h1,h2]),Cod.F_inj (by simp only [Cod.F]; rw [h3,h4,h5,h6,h7])⟩
 . rintro ⟨rfl,rfl⟩; rfl
def E7 (n:Int):Bool:=decide (n=1) || decide (n=2)
def thereD (a n:Int):Bool:=decide (0≤a) && decide (a < n)
def Er (t:Int):Int:=if t=2 then 2 else 1
def wrapD (t v:Int):Int:=if t=3 then IntKind.wrap .i64 (IntKind.wrap .i8 v) else if t=1 then IntKind.wrap .i64 (IntKind.wrap .i32 v) else if t=2 then v else 0
def E6:List UInt8:=[109,97,105,110]
def VJ:=And.intro @Int.ofNat_inj (And.intro @List.cons.injEq.{0} (And.intro @AV.int.injEq (And.intro @AV.str.injEq (And.intro @AV.bool.injEq (And.intro @AV.agg.injEq (And.intro @true_and (And.intro @and_true (And.intro @fslN_iff (And.intro @chk_iff (And.intro @Ins.F_iff (And.intro @Cod.F_iff (And.intro @Modl.F_iff (And.intro @Endd.F_iff (@ints_iff))))))))))))))
def VV:=And.intro @chk_viewF (And.intro @Ins.viewF (And.intro @Cod.viewF (And.intro @Modl.viewF (And.intro @Endd.viewF (And.intro @frzL_ints (And.intro @frzL_insF (And.intro @frzL_blkF (And.intro @frzL_codF (@frzL_gloF)))))))))
def VN:=@Ti
theorem Lu  {n:Int}:AM.Comes ⟨A0,T,A4⟩ 19 [.int .i64 n] [.bool (E7 n)]:=by
 refine ⟨[.bool (E7 n)],⟨[],0,[]⟩,?_,back_of rfl List.nodup_nil rfl rfl rfl⟩
 rw [A7 (c:=HA) (nt:=9) (rs:=[.tmp 2]) rfl (by simp)]; unfold HA
 unfold K0
 unfold E7
 by_cases h1:n=1
 . by_cases h2:n=2
   . simp -implicitDefEqProofs only [eq_true h1,eq_true h2,XP,seval]
   . simp -implicitDefEqProofs only [eq_true h1,eq_false h2,XP,seval]
 . by_cases h2:n=2
   . simp -implicitDefEqProofs only [eq_false h1,eq_true h2,XP,seval]
   . simp -implicitDefEqProofs only [eq_false h1,eq_false h2,XP,seval]
def M4:=u5 (fun p:(Int)=>[.int .i64 p]) (fun p=>[.bool (E7 p)]) (fun p=>True)
theorem Fj (hir_number:T 19=some M4) {n:Int} {K:PK}:evP ⟨A0,T,A4⟩ (.call 19 [.int .i64 n] K)=some (.val (openTs K.os.length [.bool (E7 n)]).1 ⟨K.os ++ (openTs K.os.length [.bool (E7 n)]).2,K.ext,K.tch⟩):=C0 hir_number (by simp -implicitDefEqProofs only [VV,XP,seval]) (C1 (a:=fun p:(Int)=>[.int .i64 p]) (r:=fun p=>[.bool (E7 p)]) (fun x y e=>by simp only [VJ] at e; simp only [e]) (n) trivial) (by simp -implicitDefEqProofs only [VN,XP,seval])
theorem Wj  (hP:PEok ⟨A0,T,A4⟩):TC A0 19 M4:=D1 hP fun p h=>Lu
theorem Pd  {a:Int} {n:Int}:AM.Comes ⟨A0,T,A4⟩ 54 [.int .i64 a,.int .i64 n] [.bool (thereD a n)]:=by
 refine ⟨[.bool (thereD a n)],⟨[],0,[]⟩,?_,back_of rfl List.nodup_nil rfl rfl rfl⟩
 rw [A7 (c:=HO) (nt:=12) (rs:=[.tmp 4]) rfl (by simp)]; unfold HO
 unfold K0
 unfold thereD
 by_cases h1:0≤a
 . by_cases h2:a < n
   . simp -implicitDefEqProofs only [eq_true h1,eq_true h2,XP,seval]
   . simp -implicitDefEqProofs only [eq_true h1,eq_false h2,XP,seval]
 . by_cases h2:a < n
   . simp -implicitDefEqProofs only [eq_false h1,eq_true h2,XP,seval]
   . simp -implicitDefEqProofs only [eq_false h1,eq_false h2,XP,seval]
def C6:=u5 (fun p:(Int) × (Int)=>[.int .i64 p.1,.int .i64 p.2]) (fun p=>[.bool (thereD p.1 p.2)]) (fun p=>True)
theorem N0 (hir_there:T 54=some C6) {a:Int} {n:Int} {K:PK}:evP ⟨A0,T,A4⟩ (.call 54 [.int .i64 a,.int .i64 n] K)=some (.val (openTs K.os.length [.bool (thereD a n)]).1 ⟨K.os ++ (openTs K.os.length [.bool (thereD a n)]).2,K.ext,K.tch⟩):=C0 hir_there (by simp -implicitDefEqProofs only [VV,XP,seval]) (C1 (a:=fun p:(Int) × (Int)=>[.int .i64 p.1,.int .i64 p.2]) (r:=fun p=>[.bool (thereD p.1 p.2)]) (fun x y e=>by simp only [VJ] at e; simp only [e]) (a,n) trivial) (by simp -implicitDefEqProofs only [VN,XP,seval])
theorem Zs  (hP:PEok ⟨A0,T,A4⟩):TC A0 54 C6:=D1 hP fun p h=>Pd
theorem Rx  {t:Int}:AM.Comes ⟨A0,T,A4⟩ 69 [.int .i64 t] [.int .i64 (Er t)]:=by
 refine ⟨[.int .i64 (Er t)],⟨[],0,[]⟩,?_,back_of rfl List.nodup_nil rfl rfl rfl⟩
 rw [A7 (c:=HW) (nt:=5) (rs:=[.tmp 2]) rfl (by simp)]; unfold HW
 unfold K0
 unfold Er
 by_cases h1:t=2
 . simp -implicitDefEqProofs only [eq_true h1,XP,seval]
 . simp -implicitDefEqProofs only [eq_false h1,XP,seval]
def Cl:=u5 (fun p:(Int)=>[.int .i64 p]) (fun p=>[.int .i64 (Er p)]) (fun p=>True)
theorem nM (hir_wide:T 69=some Cl) {t:Int} {K:PK}:evP ⟨A0,T,A4⟩ (.call 69 [.int .i64 t] K)=some (.val (openTs K.os.length [.int .i64 (Er t)]).1 ⟨K.os ++ (openTs K.os.length [.int .i64 (Er t)]).2,K.ext,K.tch⟩):=C0 hir_wide (by simp -implicitDefEqProofs only [VV,XP,seval]) (C1 (a:=fun p:(Int)=>[.int .i64 p]) (r:=fun p=>[.int .i64 (Er p)]) (fun x y e=>by simp only [VJ] at e; simp only [e]) (t) trivial) (by simp -implicitDefEqProofs only [VN,XP,seval])
theorem dE  (hP:PEok ⟨A0,T,A4⟩):TC A0 69 Cl:=D1 hP fun p h=>Rx
theorem B1 (k j:IntKind) (n:Int):N8 (.int k) (.int j n)=some (.int k (k.wrap n)):=U0 k n
theorem Lv  {t:Int} {v:Int}:AM.Comes ⟨A0,T,A4⟩ 56 [.int .i64 t,.int .i64 v] [.int .i64 (wrapD t v)]:=by
 refine ⟨[.int .i64 (wrapD t v)],⟨[],0,[]⟩,?_,back_of rfl List.nodup_nil rfl rfl rfl⟩
 rw [A7 (c:=HQ) (nt:=19) (rs:=[.tmp 4]) rfl (by simp)]; unfold HQ
 unfold K0
 unfold wrapD
 by_cases h1:t=3
 . simp -implicitDefEqProofs only [B1,eq_true h1,XP,seval]
 by_cases h2:t=1
 . simp -implicitDefEqProofs only [B1,eq_false h1,eq_true h2,XP,seval]
 by_cases h3:t=2
 . simp -implicitDefEqProofs only [B1,eq_false h1,eq_false h2,eq_true h3,XP,seval]
 simp -implicitDefEqProofs only [B1,eq_false h1,eq_false h2,eq_false h3,XP,seval]
def E8:=u5 (fun p:(Int) × (Int)=>[.int .i64 p.1,.int .i64 p.2]) (fun p=>[.int .i64 (wrapD p.1 p.2)]) (fun p=>True)
theorem Am (hword_Wrap:T 56=some E8) {t:Int} {v:Int} {K:PK}:evP ⟨A0,T,A4⟩ (.call 56 [.int .i64 t,.int .i64 v] K)=some (.val (openTs K.os.length [.int .i64 (wrapD t v)]).1 ⟨K.os ++ (openTs K.os.length [.int .i64 (wrapD t v)]).2,K.ext,K.tch⟩):=C0 hword_Wrap (by simp -implicitDefEqProofs only [VV,XP,seval]) (C1 (a:=fun p:(Int) × (Int)=>[.int .i64 p.1,.int .i64 p.2]) (r:=fun p=>[.int .i64 (wrapD p.1 p.2)]) (fun x y e=>by simp only [VJ] at e; simp only [e]) (t,v) trivial) (by simp -implicitDefEqProofs only [VN,XP,seval])
theorem Wl  (hP:PEok ⟨A0,T,A4⟩):TC A0 56 E8:=D1 hP fun p h=>Lv
theorem w3 (hir_number:T 19=some M4) {n:Int}:AM.Comes ⟨A0,T,A4⟩ 33 [.int .i64 n] [.bool (!E7 n)]:=by
 refine ⟨[.bool (!E7 n)],⟨[],0,[]⟩,?_,back_of rfl List.nodup_nil rfl rfl rfl⟩
 rw [A7 (c:=HF) (nt:=6) (rs:=[.tmp 2]) rfl (by simp)]; unfold HF
 unfold K0
 simp -implicitDefEqProofs only [Fj hir_number,XP,seval]
def B9:=u5 (fun p:(Int)=>[.int .i64 p]) (fun p=>[.bool (!E7 p)]) (fun p=>True)
theorem j7 (hir_checker_code_1:T 33=some B9) {n:Int} {K:PK}:evP ⟨A0,T,A4⟩ (.call 33 [.int .i64 n] K)=some (.val (openTs K.os.length [.bool (!E7 n)]).1 ⟨K.os ++ (openTs K.os.length [.bool (!E7 n)]).2,K.ext,K.tch⟩):=C0 hir_checker_code_1 (by simp -implicitDefEqProofs only [VV,XP,seval]) (C1 (a:=fun p:(Int)=>[.int .i64 p]) (r:=fun p=>[.bool (!E7 p)]) (fun x y e=>by simp only [VJ] at e; simp only [e]) (n) trivial) (by simp -implicitDefEqProofs only [VN,XP,seval])
theorem Cm (hir_number:T 19=some M4) (hP:PEok ⟨A0,T,A4⟩):TC A0 33 B9:=D1 hP fun p h=>w3 hir_number
theorem Hm  {c:Cod}:AM.Comes ⟨A0,T,A4⟩ 37 [c.F] [.bool (decide (c.name=E6))]:=by
 refine ⟨[.bool (decide (c.name=E6))],⟨[],0,[]⟩,?_,back_of rfl List.nodup_nil rfl rfl rfl⟩
 rw [A7 (c:=HJ) (nt:=6) (rs:=[.tmp 2]) rfl (by simp)]; unfold HJ
 unfold K0
 unfold Cod.F E6
 simp -implicitDefEqProofs only [XP,seval]
def J6:=u5 (fun p:(Cod)=>[p.F]) (fun p=>[.bool (decide (p.name=E6))]) (fun p=>True)
theorem Hn (hir_mainOf_1:T 37=some J6) {c:Cod} {K:PK}:evP ⟨A0,T,A4⟩ (.call 37 [c.F] K)=some (.val (openTs K.os.length [.bool (decide (c.name=E6))]).1 ⟨K.os ++ (openTs K.os.length [.bool (decide (c.name=E6))]).2,K.ext,K.tch⟩):=C0 hir_mainOf_1 (by simp -implicitDefEqProofs only [VV,XP,seval]) (C1 (a:=fun p:(Cod)=>[p.F]) (r:=fun p=>[.bool (decide (p.name=E6))]) (fun x y e=>by simp only [VJ] at e; simp only [e]) (c) trivial) (by simp -implicitDefEqProofs only [VN,XP,seval])
theorem Pe  (hP:PEok ⟨A0,T,A4⟩):TC A0 37 J6:=D1 hP fun p h=>Hm
end Go.Proofs.AmEnv
set_option maxRecDepth 100000
namespace Go.Proofs.AmEnv
open Go Go.AM
variable {T:Nat->Option (List AV->Option (List AV))}
def writesD (x:Ins):Int:=if x.op=1 then x.dst else if x.op=2 then x.dst else if x.op=3 then x.dst else if x.op=4 then x.dst else if x.op=5 then x.dst else if x.op=7 then x.dst else if x.op=10 then x.dst else if x.op=9 then (if -1≤x.dst then x.dst else -1) else -1
def readsD (x:Ins):List Int:=if x.op=2 then [x.a] else if x.op=4 then [x.a] else if x.op=5 then [x.a] else if x.op=8 then [x.a] else if x.op=11 then [x.a] else if x.op=3 then [x.a,x.b] else if x.op=6 then [x.a,x.b] else if x.op=9 then x.args else []
theorem f7 (a b:Int) (K:PK):If (E0 A0 .max [3,3] [.int .i64 a,.int .i64 b] K)=.val (.int .i64 (if b≤a then a else b)) K:=by
 show If ((Jd [.int .i64 b] (.int .i64 a)).map (·,K))=_
 show If ((some (AV.int .i64 (bif intLe b a then a else b))).map (·,K))=_
 rw [J4]
 by_cases hb:b≤a
 . rw [if_pos hb,decide_eq_true hb]; rfl
 . rw [if_neg hb,decide_eq_false hb]; rfl
theorem Lw  {x:Ins}:AM.Comes ⟨A0,T,A4⟩ 65 [x.F] [.int .i64 (writesD x)]:=by
 refine ⟨[.int .i64 (writesD x)],⟨[],0,[]⟩,?_,back_of rfl List.nodup_nil rfl rfl rfl⟩
 rw [A7 (c:=HR) (nt:=20) (rs:=[.tmp 2]) rfl (by simp)]; unfold HR
 unfold K0
 unfold Ins.F writesD
 by_cases e1:x.op=1
 . simp -implicitDefEqProofs only [f7,eq_true e1,XP,seval]
 by_cases e2:x.op=2
 . simp -implicitDefEqProofs only [f7,eq_false e1,eq_true e2,XP,seval]
 by_cases e3:x.op=3
 . simp -implicitDefEqProofs only [f7,eq_false e1,eq_false e2,eq_true e3,XP,seval]
 by_cases e4:x.op=4
 . simp -implicitDefEqProofs only [f7,eq_false e1,eq_false e2,eq_false e3,eq_true e4,XP,seval]
 by_cases e5:x.op=5
 . simp -implicitDefEqProofs only [f7,eq_false e1,eq_false e2,eq_false e3,eq_false e4,eq_true e5,XP,seval]
 by_cases e7:x.op=7
 . simp -implicitDefEqProofs only [f7,eq_false e1,eq_false e2,eq_false e3,eq_false e4,eq_false e5,eq_true e7,XP,seval]
 by_cases e10:x.op=10
 . simp -implicitDefEqProofs only [f7,eq_false e1,eq_false e2,eq_false e3,eq_false e4,eq_false e5,eq_false e7,eq_true e10,XP,seval]
 by_cases e9:x.op=9
 . simp -implicitDefEqProofs only [f7,eq_false e1,eq_false e2,eq_false e3,eq_false e4,eq_false e5,eq_false e7,eq_false e10,eq_true e9,XP,seval]
 simp -implicitDefEqProofs only [f7,eq_false e1,eq_false e2,eq_false e3,eq_false e4,eq_false e5,eq_false e7,eq_false e10,eq_false e9,XP,seval]
def X0:=u5 (fun p:(Ins)=>[p.F]) (fun p=>[.int .i64 (writesD p)]) (fun p=>True)
theorem dF (hir_Writes:T 65=some X0) {x:Ins} {K:PK}:evP ⟨A0,T,A4⟩ (.call 65 [x.F] K)=some (.val (openTs K.os.length [.int .i64 (writesD x)]).1 ⟨K.os ++ (openTs K.os.length [.int .i64 (writesD x)]).2,K.ext,K.tch⟩):=C0 hir_Writes (by simp -implicitDefEqProofs only [VV,XP,seval]) (C1 (a:=fun p:(Ins)=>[p.F]) (r:=fun p=>[.int .i64 (writesD p)]) (fun x y e=>by simp only [VJ] at e; simp only [e]) (x) trivial) (by simp -implicitDefEqProofs only [VN,XP,seval])
theorem Wm  (hP:PEok ⟨A0,T,A4⟩):TC A0 65 X0:=D1 hP fun p h=>Lw
theorem Pf (hCloneInts:T 43=some K9) {x:Ins} (hk:x.ok):AM.Comes ⟨A0,T,A4⟩ 64 [x.F] [ownd 0 1 (ints (readsD x))]:=by
 have one:∀ (a:Int) (L:List Int),L=[a]->evP ⟨A0,T,A4⟩ (.body 64 [x.F] K0)=some (.val [.msl 0 0 1 1] ⟨[.row 0 [.int .i64 a] 1],0,[]⟩)->AM.Comes ⟨A0,T,A4⟩ 64 [x.F] [ownd 0 1 (ints L)]:=fun a L e h=>by
  subst e; exact ⟨_,_,h,S2 (.inr ⟨rfl,rfl⟩)⟩
 have two:∀ (a b:Int) (L:List Int),L=[a,b]->evP ⟨A0,T,A4⟩ (.body 64 [x.F] K0)=some (.val [.msl 0 0 2 1] ⟨[.row 0 [.int .i64 a,.int .i64 b] 1],0,[]⟩)->AM.Comes ⟨A0,T,A4⟩ 64 [x.F] [ownd 0 1 (ints L)]:=fun a b L e h=>by
  subst e; exact ⟨_,_,h,S2 (.inr ⟨rfl,rfl⟩)⟩
 by_cases e2:x.op=2
 . refine one x.a _ (by simp [readsD,e2]) ?_
   rw [A7 (c:=Th) (nt:=27) (rs:=[.tmp 2]) rfl (by simp)]; unfold Th; unfold K0 Ins.F
   simp -implicitDefEqProofs only [eq_true e2,XP,seval]
 by_cases e4:x.op=4
 . refine one x.a _ (by simp [readsD,e4]) ?_
   rw [A7 (c:=Th) (nt:=27) (rs:=[.tmp 2]) rfl (by simp)]; unfold Th; unfold K0 Ins.F
   simp -implicitDefEqProofs only [eq_false e2,eq_true e4,XP,seval]
 by_cases e5:x.op=5
 . refine one x.a _ (by simp [readsD,e5]) ?_
   rw [A7 (c:=Th) (nt:=27) (rs:=[.tmp 2]) rfl (by simp)]; unfold Th; unfold K0 Ins.F
   simp -implicitDefEqProofs only [eq_false e2,eq_false e4,eq_true e5,XP,seval]
 by_cases e8:x.op=8
 . refine one x.a _ (by simp [readsD,e8]) ?_
   rw [A7 (c:=Th) (nt:=27) (rs:=[.tmp 2]) rfl (by simp)]; unfold Th; unfold K0 Ins.F
   simp -implicitDefEqProofs only [eq_false e2,eq_false e4,eq_false e5,eq_true e8,XP,seval]
 by_cases e11:x.op=11
 . refine one x.a _ (by simp [readsD,e11]) ?_
   rw [A7 (c:=Th) (nt:=27) (rs:=[.tmp 2]) rfl (by simp)]; unfold Th; unfold K0 Ins.F
   simp -implicitDefEqProofs only [eq_false e2,eq_false e4,eq_false e5,eq_false e8,eq_true e11,XP,seval]
 by_cases e3:x.op=3
 . refine two x.a x.b _ (by simp [readsD,e3]) ?_
   rw [A7 (c:=Th) (nt:=27) (rs:=[.tmp 2]) rfl (by simp)]; unfold Th; unfold K0 Ins.F
   simp -implicitDefEqProofs only [eq_false e2,eq_false e4,eq_false e5,eq_false e8,eq_false e11,eq_true e3,XP,seval]
 by_cases e6:x.op=6
 . refine two x.a x.b _ (by simp [readsD,e6]) ?_
   rw [A7 (c:=Th) (nt:=27) (rs:=[.tmp 2]) rfl (by simp)]; unfold Th; unfold K0 Ins.F
   simp -implicitDefEqProofs only [eq_false e2,eq_false e4,eq_false e5,eq_false e8,eq_false e11,eq_false e3,eq_true e6,XP,seval]
 by_cases e9:x.op=9
 . rw [show readsD x=x.args by simp [readsD,e9]]
   refine ⟨[.msl 0 0 x.args.length 1],⟨[.row 0 (ints x.args) 1],0,[]⟩,?_,S2 (.inr ⟨by rw [List.length_map],rfl⟩)⟩
   rw [A7 (c:=Th) (nt:=27) (rs:=[.tmp 2]) rfl (by simp)]; unfold Th; unfold K0 Ins.F
   have t:∀ {K:PK},evP ⟨A0,T,A4⟩ (.call 43 [fslN (ints x.args)] K)=some (.val (openTs K.os.length [ownd 0 1 (ints x.args)]).1 ⟨K.os ++ (openTs K.os.length [ownd 0 1 (ints x.args)]).2,K.ext,K.tch⟩):=C0 hCloneInts (by simp -implicitDefEqProofs only [frzL_ints,XP,seval]) (Hk hk) rfl
   simp -implicitDefEqProofs only [eq_false e2,eq_false e4,eq_false e5,eq_false e8,eq_false e11,eq_false e3,eq_false e6,eq_true e9,t,List.length_map,XP,seval]
 . rw [show readsD x=[] by simp [readsD,e2,e4,e5,e8,e11,e3,e6,e9]]
   refine ⟨[.nilsl],⟨[],0,[]⟩,?_,S2 (.inl ⟨rfl,rfl,rfl⟩)⟩
   rw [A7 (c:=Th) (nt:=27) (rs:=[.tmp 2]) rfl (by simp)]; unfold Th; unfold K0 Ins.F
   simp -implicitDefEqProofs only [eq_false e2,eq_false e4,eq_false e5,eq_false e8,eq_false e11,eq_false e3,eq_false e6,eq_false e9,XP,seval]
def w4:=u5 (fun p:(Ins)=>[p.F]) (fun p=>[ownd 0 1 (ints (readsD p))]) (fun p=>p.ok)
theorem jU (hir_Reads:T 64=some w4) {x:Ins} {K:PK} (hk:x.ok):evP ⟨A0,T,A4⟩ (.call 64 [x.F] K)=some (.val (openTs K.os.length [ownd 0 1 (ints (readsD x))]).1 ⟨K.os ++ (openTs K.os.length [ownd 0 1 (ints (readsD x))]).2,K.ext,K.tch⟩):=C0 hir_Reads (by simp -implicitDefEqProofs only [VV,XP,seval]) (C1 (a:=fun p:(Ins)=>[p.F]) (r:=fun p=>[ownd 0 1 (ints (readsD p))]) (fun x y e=>by simp only [VJ] at e; simp only [e]) (x) hk) (by simp -implicitDefEqProofs only [VN,XP,seval])
theorem Zt (hCloneInts:T 43=some K9) (hP:PEok ⟨A0,T,A4⟩):TC A0 64 w4:=D1 hP fun p h=>Pf hCloneInts h
end Go.Proofs.AmEnv
set_option maxRecDepth 100000
namespace Go.Proofs.AmEnv
open Go Go.AM
variable {T:Nat->Option (List AV->Option (List AV))}
def idxOf {X:Type} (p:X->Bool) (l:List X):Int:=match l.findIdx? p with | some i=>(i:Int) | none=>-1
theorem idx_loop {P:PE} {c:PC} {X:Type} {p:X->Bool} {l:List X} {S:Nat->PF} {K:PK}
 (h1:∀ i (h:i < l.length),p l[i]=false->evP P (.code c (S i) K)=some (.ok .normal (S (i + 1)) K))
 (h2:∀ i (h:i < l.length),p l[i]=true->∃ fr',evP P (.code c (S i) K)=some (.ok .ret fr' K)∧lookP fr' 4=.int .i64 (i:Int))
 (hx:∃ fr',evP P (.code c (S l.length) K)=some (.ok (.exit 0) fr' K)) :
 (∃ i:Nat,idxOf p l=i∧∃ fr',evP P (.code (.loop c) (S 0) K)=some (.ok .ret fr' K)∧lookP fr' 4=.int .i64 (i:Int))∨(idxOf p l=-1∧∃ fr',evP P (.code (.loop c) (S 0) K)=some (.ok (.exit 0) fr' K)):=by
 have key:∀ (n i:Nat),l.length=i + n->(∀ j (hj:j < l.length),j < i->p l[j]=false)->(∃ k:Nat,idxOf p l=k∧∃ fr',evP P (.code (.loop c) (S i) K)=some (.ok .ret fr' K)∧lookP fr' 4=.int .i64 (k:Int))∨(idxOf p l=-1∧∃ fr',evP P (.code (.loop c) (S i) K)=some (.ok (.exit 0) fr' K)):=fun n=>by
  induction n with
  | zero =>
   intro i e hp
   obtain rfl:i=l.length:=by omega
   obtain ⟨fr',h⟩:=hx
   refine .inr ⟨?_,fr',H6 h⟩
   unfold idxOf
   have:l.findIdx? p=none:=by
    rw [List.findIdx?_eq_none_iff]
    intro x hm
    obtain ⟨j,hj,rfl⟩:=List.getElem_of_mem hm
    exact hp j hj hj
   rw [this]
  | succ n ih =>
   intro i e hp
   have hl:i < l.length:=by omega
   cases hq:p l[i] with
   | false =>
    rw [G6 (h1 i hl hq)]
    refine ih (i + 1) (by omega) fun j hj hji=>?_
    by_cases he:j=i
    . subst he; exact hq
    . exact hp j hj (by omega)
   | true =>
    obtain ⟨fr',q1,q2⟩:=h2 i hl hq
    refine .inl ⟨i,?_,fr',z6 q1,q2⟩
    unfold idxOf
    have:l.findIdx? p=some i:=by
     rw [List.findIdx?_eq_some_iff_getElem]
     exact ⟨hl,hq,fun j hj=>by simpa using hp j (by omega) hj⟩
    rw [this]
 exact key l.length 0 (by omega) fun j hj h=>absurd h (by omega)
theorem fQ {X:Type} {p:X->Bool} {l:List X}:decide (0≤idxOf p l)=l.any p:=by
 unfold idxOf
 cases h:l.findIdx? p with
 | none =>
  rw [List.findIdx?_eq_none_iff] at h
  have:l.any p=false:=by rw [List.any_eq_false]; intro x hx; simp [h x hx]
  rw [this]; rfl
 | some i =>
  rw [List.findIdx?_eq_some_iff_getElem] at h
  obtain ⟨h1,h2,_⟩:=h
  have:l.any p=true:=List.any_eq_true.2 ⟨_,List.getElem_mem h1,h2⟩
  rw [this]; simp
section
variable {l:List Int} {i:Nat} {v:Int}
theorem CF (h:i < l.length) (hs:l.length≤bigN) (hp:decide (v=l[i])=false):evP ⟨A0,T,A4⟩ (.code Ep [(0,fslN (ints l)),(1,.int .i64 v),(7,.int .i64 (l.length:Int)),(8,.int .i64 (i:Int))] ⟨[],0,[]⟩)=some (.ok .normal [(0,fslN (ints l)),(1,.int .i64 v),(7,.int .i64 (l.length:Int)),(8,.int .i64 ((i + 1:Nat):Int))] ⟨[],0,[]⟩):=by
 unfold Ep
 have hlt:decide ((i:Int) < (l.length:Int))=true:=by simp [h]
 have hw:=C8 (i:=i) (by simp only [bigN] at hs; omega)
 simp -implicitDefEqProofs only [hlt,A8 h,hw,hp,XP,seval]
theorem CG (h:i < l.length) (hp:decide (v=l[i])=true):∃ fr',evP ⟨A0,T,A4⟩ (.code Ep [(0,fslN (ints l)),(1,.int .i64 v),(7,.int .i64 (l.length:Int)),(8,.int .i64 (i:Int))] ⟨[],0,[]⟩)=some (.ok .ret fr' ⟨[],0,[]⟩)∧lookP fr' 4=.int .i64 (i:Int):=by
 unfold Ep
 have hlt:decide ((i:Int) < (l.length:Int))=true:=by simp [h]
 simp -implicitDefEqProofs only [hlt,A8 h,hp,XP,seval]
 exact ⟨_,rfl,rfl⟩
theorem CH:∃ fr',evP ⟨A0,T,A4⟩ (.code Ep [(0,fslN (ints l)),(1,.int .i64 v),(7,.int .i64 (l.length:Int)),(8,.int .i64 (l.length:Int))] ⟨[],0,[]⟩)=some (.ok (.exit 0) fr' ⟨[],0,[]⟩):=by
 unfold Ep
 have hlt:decide ((l.length:Int) < (l.length:Int))=false:=by simp
 simp -implicitDefEqProofs only [hlt,XP,seval]
 exact ⟨_,rfl⟩
theorem Ry  {l:List Int} {v:Int} (hk:l.length≤bigN):AM.Comes ⟨A0,T,A4⟩ 79 [fslN (ints l),.int .i64 v] [.int .i64 (idxOf (fun n=>decide (v=n)) l)]:=by
 refine ⟨[.int .i64 (idxOf (fun n=>decide (v=n)) l)],⟨[],0,[]⟩,?_,back_of rfl List.nodup_nil rfl rfl rfl⟩
 rw [A7 (c:=IA) (nt:=19) (rs:=[.tmp 4]) rfl (by simp)]; unfold IA
 unfold K0
 rcases idx_loop (P:=⟨A0,T,A4⟩) (c:=Ep) (p:=fun n=>decide (v=n)) (l:=l) (S:=fun i=>[(0,fslN (ints l)),(1,.int .i64 v),(7,.int .i64 (l.length:Int)),(8,.int .i64 (i:Int))]) (K:=⟨[],0,[]⟩) (fun i h hp=>CF h hk hp) (fun i h hp=>CG h hp) CH with ⟨i,e,fr',h1,h2⟩ | ⟨e,fr',h1⟩
 . have h1:evP ⟨A0,T,A4⟩ (.code (.loop Ep) [(0,fslN (ints l)),(1,.int .i64 v),(7,.int .i64 (l.length:Int)),(8,.int .i64 0)] ⟨[],0,[]⟩)=_:=h1
   simp -implicitDefEqProofs only [h1,h2,e,List.length_map,XP,seval]
 . have h1:evP ⟨A0,T,A4⟩ (.code (.loop Ep) [(0,fslN (ints l)),(1,.int .i64 v),(7,.int .i64 (l.length:Int)),(8,.int .i64 0)] ⟨[],0,[]⟩)=_:=h1
   simp -implicitDefEqProofs only [h1,e,List.length_map,XP,seval]
def Cn:=u5 (fun p:(List Int) × (Int)=>[fslN (ints p.1),.int .i64 p.2]) (fun p=>[.int .i64 (idxOf (fun n=>decide (p.2=n)) p.1)]) (fun p=>p.1.length≤bigN)
theorem nN (hIdxInts:T 79=some Cn) {l:List Int} {v:Int} {K:PK} (hk:l.length≤bigN):evP ⟨A0,T,A4⟩ (.call 79 [fslN (ints l),.int .i64 v] K)=some (.val (openTs K.os.length [.int .i64 (idxOf (fun n=>decide (v=n)) l)]).1 ⟨K.os ++ (openTs K.os.length [.int .i64 (idxOf (fun n=>decide (v=n)) l)]).2,K.ext,K.tch⟩):=C0 hIdxInts (by simp -implicitDefEqProofs only [VV,XP,seval]) (C1 (a:=fun p:(List Int) × (Int)=>[fslN (ints p.1),.int .i64 p.2]) (r:=fun p=>[.int .i64 (idxOf (fun n=>decide (p.2=n)) p.1)]) (fun x y e=>by simp only [VJ] at e; simp only [e]) (l,v) hk) (by simp -implicitDefEqProofs only [VN,XP,seval])
theorem dG  (hP:PEok ⟨A0,T,A4⟩):TC A0 79 Cn:=D1 hP fun p h=>Ry  h
theorem Pg (hIdxInts:T 79=some Cn) {l:List Int} {v:Int} (hk:l.length≤bigN):AM.Comes ⟨A0,T,A4⟩ 66 [fslN (ints l),.int .i64 v] [.bool (l.any fun n=>decide (v=n))]:=by
 refine ⟨[.bool (l.any fun n=>decide (v=n))],⟨[],0,[]⟩,?_,back_of rfl List.nodup_nil rfl rfl rfl⟩
 rw [A7 (c:=HS) (nt:=9) (rs:=[.tmp 4]) rfl (by simp)]; unfold HS
 unfold K0
 rw [← fQ]
 have t:=fun K=>nN (K:=K) (v:=v) hIdxInts hk
 simp -implicitDefEqProofs only [t,XP,seval]
def g8:=u5 (fun p:(List Int) × (Int)=>[fslN (ints p.1),.int .i64 p.2]) (fun p=>[.bool (p.1.any fun n=>decide (p.2=n))]) (fun p=>p.1.length≤bigN)
theorem Zu (hIdxInts:T 79=some Cn) (hP:PEok ⟨A0,T,A4⟩):TC A0 66 g8:=D1 hP fun p h=>Pg hIdxInts h
end
section
variable {l:List Int} {i:Nat}
theorem CI (hN:T 33=some B9) (h:i < l.length) (hs:l.length≤bigN) (hp:(!E7 l[i])=false):evP ⟨A0,T,A4⟩ (.code Em [(0,fslN (ints l)),(1,.fn (.func 33) [] []),(7,.int .i64 (l.length:Int)),(8,.int .i64 (i:Int))] ⟨[],0,[]⟩)=some (.ok .normal [(0,fslN (ints l)),(1,.fn (.func 33) [] []),(7,.int .i64 (l.length:Int)),(8,.int .i64 ((i + 1:Nat):Int))] ⟨[],0,[]⟩):=by
 unfold Em
 have hlt:decide ((i:Int) < (l.length:Int))=true:=by simp [h]
 have hw:=C8 (i:=i) (by simp only [bigN] at hs; omega)
 simp -implicitDefEqProofs only [hlt,A8 h,hw,j7 hN,hp,XP,seval]
theorem CJ (hN:T 33=some B9) (h:i < l.length) (hp:(!E7 l[i])=true):∃ fr',evP ⟨A0,T,A4⟩ (.code Em [(0,fslN (ints l)),(1,.fn (.func 33) [] []),(7,.int .i64 (l.length:Int)),(8,.int .i64 (i:Int))] ⟨[],0,[]⟩)=some (.ok .ret fr' ⟨[],0,[]⟩)∧lookP fr' 4=.int .i64 (i:Int):=by
 unfold Em
 have hlt:decide ((i:Int) < (l.length:Int))=true:=by simp [h]
 simp -implicitDefEqProofs only [hlt,A8 h,j7 hN,hp,XP,seval]
 exact ⟨_,rfl,rfl⟩
theorem CK:∃ fr',evP ⟨A0,T,A4⟩ (.code Em [(0,fslN (ints l)),(1,.fn (.func 33) [] []),(7,.int .i64 (l.length:Int)),(8,.int .i64 (l.length:Int))] ⟨[],0,[]⟩)=some (.ok (.exit 0) fr' ⟨[],0,[]⟩):=by
 unfold Em
 have hlt:decide ((l.length:Int) < (l.length:Int))=false:=by simp
 simp -implicitDefEqProofs only [hlt,XP,seval]
 exact ⟨_,rfl⟩
theorem Rz (hN:T 33=some B9) (hI:T 50=none) (hs:l.length≤bigN) (K:PK):evP ⟨A0,T,A4⟩ (.call 50 [fslN (ints l),.fn (.func 33) [] []] K)=some (.val [.int .i64 (idxOf (fun n=>!E7 n) l)] K):=by
 refine eO (tch:=[]) hI rfl rfl rfl ?_ rfl
 rw [A7 (c:=HK) (nt:=19) (rs:=[.tmp 4]) rfl (by simp)]; unfold HK
 rcases idx_loop (P:=⟨A0,T,A4⟩) (c:=Em) (p:=fun n=>!E7 n) (l:=l) (S:=fun i=>[(0,fslN (ints l)),(1,.fn (.func 33) [] []),(7,.int .i64 (l.length:Int)),(8,.int .i64 (i:Int))]) (K:=⟨[],0,[]⟩) (fun i h hp=>CI hN h hs hp) (fun i h hp=>CJ hN h hp) CK with ⟨i,e,fr',h1,h2⟩ | ⟨e,fr',h1⟩
 . have h1:evP ⟨A0,T,A4⟩ (.code (.loop Em) [(0,fslN (ints l)),(1,.fn (.func 33) [] []),(7,.int .i64 (l.length:Int)),(8,.int .i64 0)] ⟨[],0,[]⟩)=_:=h1
   simp -implicitDefEqProofs only [h1,h2,e,List.length_map,XP,seval]
 . have h1:evP ⟨A0,T,A4⟩ (.code (.loop Em) [(0,fslN (ints l)),(1,.fn (.func 33) [] []),(7,.int .i64 (l.length:Int)),(8,.int .i64 0)] ⟨[],0,[]⟩)=_:=h1
   simp -implicitDefEqProofs only [h1,e,List.length_map,XP,seval]
theorem Ph (hN:T 33=some B9) (hI:T 50=none) (hC:T 32=none) (hs:l.length≤bigN) (K:PK):evP ⟨A0,T,A4⟩ (.call 32 [fslN (ints l),.fn (.func 33) [] []] K)=some (.val [.bool (l.any fun n=>!E7 n)] K):=by
 refine eO (tch:=[]) hC rfl rfl rfl ?_ rfl
 rw [← fQ]
 have t:=fun K=>Rz hN hI hs K
 rw [A7 (c:=HE) (nt:=9) (rs:=[.tmp 4]) rfl (by simp)]; unfold HE
 simp -implicitDefEqProofs only [t,XP,seval]
end
section
variable {l:List Cod} {i:Nat}
theorem CL (hN:T 37=some J6) (h:i < l.length) (hs:l.length≤bigN) (hp:decide (l[i].name=E6)=false):evP ⟨A0,T,A4⟩ (.code Ek [(0,fslN (l.map Cod.F)),(1,.fn (.func 37) [] []),(7,.int .i64 (l.length:Int)),(8,.int .i64 (i:Int))] ⟨[],0,[]⟩)=some (.ok .normal [(0,fslN (l.map Cod.F)),(1,.fn (.func 37) [] []),(7,.int .i64 (l.length:Int)),(8,.int .i64 ((i + 1:Nat):Int))] ⟨[],0,[]⟩):=by
 unfold Ek
 have hlt:decide ((i:Int) < (l.length:Int))=true:=by simp [h]
 have hw:=C8 (i:=i) (by simp only [bigN] at hs; omega)
 have hi:=B4 (F:=Cod.F) h
 have t:=fun K=>Hn (K:=K) (c:=l[i]) hN
 simp only [Cod.F] at hi t
 simp -implicitDefEqProofs only [hlt,hi,hw,t,hp,XP,seval]
theorem CM (hN:T 37=some J6) (h:i < l.length) (hp:decide (l[i].name=E6)=true):∃ fr',evP ⟨A0,T,A4⟩ (.code Ek [(0,fslN (l.map Cod.F)),(1,.fn (.func 37) [] []),(7,.int .i64 (l.length:Int)),(8,.int .i64 (i:Int))] ⟨[],0,[]⟩)=some (.ok .ret fr' ⟨[],0,[]⟩)∧lookP fr' 4=.int .i64 (i:Int):=by
 unfold Ek
 have hlt:decide ((i:Int) < (l.length:Int))=true:=by simp [h]
 have hi:=B4 (F:=Cod.F) h
 have t:=fun K=>Hn (K:=K) (c:=l[i]) hN
 simp only [Cod.F] at hi t
 simp -implicitDefEqProofs only [hlt,hi,t,hp,XP,seval]
 exact ⟨_,rfl,rfl⟩
theorem CN:∃ fr',evP ⟨A0,T,A4⟩ (.code Ek [(0,fslN (l.map Cod.F)),(1,.fn (.func 37) [] []),(7,.int .i64 (l.length:Int)),(8,.int .i64 (l.length:Int))] ⟨[],0,[]⟩)=some (.ok (.exit 0) fr' ⟨[],0,[]⟩):=by
 unfold Ek
 have hlt:decide ((l.length:Int) < (l.length:Int))=false:=by simp
 simp -implicitDefEqProofs only [hlt,XP,seval]
 exact ⟨_,rfl⟩
theorem Sa (hN:T 37=some J6) (hI:T 36=none) (hs:l.length≤bigN) (K:PK):evP ⟨A0,T,A4⟩ (.call 36 [fslN (l.map Cod.F),.fn (.func 37) [] []] K)=some (.val [.int .i64 (idxOf (fun c:Cod=>decide (c.name=E6)) l)] K):=by
 refine eO (tch:=[]) hI rfl rfl rfl ?_ rfl
 rw [A7 (c:=HI) (nt:=19) (rs:=[.tmp 4]) rfl (by simp)]; unfold HI
 rcases idx_loop (P:=⟨A0,T,A4⟩) (c:=Ek) (p:=fun c:Cod=>decide (c.name=E6)) (l:=l) (S:=fun i=>[(0,fslN (l.map Cod.F)),(1,.fn (.func 37) [] []),(7,.int .i64 (l.length:Int)),(8,.int .i64 (i:Int))]) (K:=⟨[],0,[]⟩) (fun i h hp=>CL hN h hs hp) (fun i h hp=>CM hN h hp) CN with ⟨i,e,fr',h1,h2⟩ | ⟨e,fr',h1⟩
 . have h1:evP ⟨A0,T,A4⟩ (.code (.loop Ek) [(0,fslN (l.map Cod.F)),(1,.fn (.func 37) [] []),(7,.int .i64 (l.length:Int)),(8,.int .i64 0)] ⟨[],0,[]⟩)=_:=h1
   simp -implicitDefEqProofs only [h1,h2,e,List.length_map,XP,seval]
 . have h1:evP ⟨A0,T,A4⟩ (.code (.loop Ek) [(0,fslN (l.map Cod.F)),(1,.fn (.func 37) [] []),(7,.int .i64 (l.length:Int)),(8,.int .i64 0)] ⟨[],0,[]⟩)=_:=h1
   simp -implicitDefEqProofs only [h1,e,List.length_map,XP,seval]
theorem Lx (hir_mainOf_1:T 37=some J6) (nIdxCodes:T 36=none) {m:Modl} (hk:m.fs.length≤bigN):AM.Comes ⟨A0,T,A4⟩ 21 [m.F] [.int .i64 (idxOf (fun c:Cod=>decide (c.name=E6)) m.fs)]:=by
 refine ⟨[.int .i64 (idxOf (fun c:Cod=>decide (c.name=E6)) m.fs)],⟨[],0,[]⟩,?_,back_of rfl List.nodup_nil rfl rfl rfl⟩
 rw [A7 (c:=HC) (nt:=6) (rs:=[.tmp 2]) rfl (by simp)]; unfold HC
 unfold K0
 unfold Modl.F
 have t:=fun K=>Sa hir_mainOf_1 nIdxCodes hk K
 simp -implicitDefEqProofs only [t,XP,seval]
def K5:=u5 (fun p:(Modl)=>[p.F]) (fun p=>[.int .i64 (idxOf (fun c:Cod=>decide (c.name=E6)) p.fs)]) (fun p=>p.fs.length≤bigN)
theorem Fk (hir_mainOf:T 21=some K5) {m:Modl} {K:PK} (hk:m.fs.length≤bigN):evP ⟨A0,T,A4⟩ (.call 21 [m.F] K)=some (.val (openTs K.os.length [.int .i64 (idxOf (fun c:Cod=>decide (c.name=E6)) m.fs)]).1 ⟨K.os ++ (openTs K.os.length [.int .i64 (idxOf (fun c:Cod=>decide (c.name=E6)) m.fs)]).2,K.ext,K.tch⟩):=C0 hir_mainOf (by simp -implicitDefEqProofs only [VV,XP,seval]) (C1 (a:=fun p:(Modl)=>[p.F]) (r:=fun p=>[.int .i64 (idxOf (fun c:Cod=>decide (c.name=E6)) p.fs)]) (fun x y e=>by simp only [VJ] at e; simp only [e]) (m) hk) (by simp -implicitDefEqProofs only [VN,XP,seval])
theorem Wn (hir_mainOf_1:T 37=some J6) (nIdxCodes:T 36=none) (hP:PEok ⟨A0,T,A4⟩):TC A0 21 K5:=D1 hP fun p h=>Lx hir_mainOf_1 nIdxCodes h
end
end Go.Proofs.AmEnv
set_option maxRecDepth 100000
namespace Go.Proofs.AmEnv
open Go Go.AM
variable {T:Nat->Option (List AV->Option (List AV))}
def Js (p s:List UInt8):Bool:=Nat.ble (Z6 s) 4000000000 || oneB p
def P0 (args:List AV):Option (List AV):=match args with | [.str s,.str p]=>if Js p s=true then some [.bool (contS p s)] else none | _=>none
theorem Wo {s p:List UInt8} (h:Js p s=true):P0 [.str s,.str p]=some [.bool (contS p s)]:=if_pos h
theorem Jt (hT:T 63=some P0) {s p:List UInt8} {K:PK} (h:Js p s=true):evP ⟨A0,T,A4⟩ (.call 63 [.str s,.str p] K)=some (.val [.bool (contS p s)] ⟨K.os ++ [],K.ext,K.tch⟩):=C0 hT rfl (Wo h) rfl
theorem Mq {t:Nat} {a b:List UInt8} {K:PK} (h:a.length + b.length≤4611686018427387904):N4 A0 .add t (.str a) (.str b) K=.val (.str (a ++ b)) K:=by
 rw [bp _ _ rfl rfl]
 show u4 (bif Nat.ble (Nat.add (Z6 a) (Z6 b)) 4611686018427387904 then some (AV.str (a ++ b)) else none) K=_
 rw [d9,d9,show Nat.ble (Nat.add a.length b.length) 4611686018427387904=true from Nat.ble_eq_true_of_le h]; rfl
def Pj:List UInt8:=[32,43,32,45,32,42,32,47,32,37,32,38,32,124,32,94,32,60,60,32,62,62,32,61,61,32,33,61,32,60,32,60,61,32,62,32,62,61,32]
def Pk:List UInt8:=[32,61,61,32,33,61,32,60,32,60,61,32,62,32,62,61,32]
def Co (x:Ins):Bool:=if x.op=3 then !decide (x.s=[]) && (!contS [32] x.s && contS (32 :: (x.s ++ [32])) Pj) else if x.op=4 then decide (1≤x.ty) && decide (x.ty≤3) else decide (1≤x.op) && decide (x.op≤11)
theorem Sb (hstrings_Contains:T 63=some P0) {x:Ins} (hk:x.s.length≤bigN):AM.Comes ⟨A0,T,A4⟩ 51 [x.F] [.bool (Co x)]:=by
 refine ⟨[.bool (Co x)],⟨[],0,[]⟩,?_,back_of rfl List.nodup_nil rfl rfl rfl⟩
 rw [A7 (c:=HL) (nt:=41) (rs:=[.tmp 2]) rfl (by simp)]; unfold HL
 unfold K0
 have d1:∀ K:PK,N4 A0 .add 9 (.str [32]) (.str x.s) K=.val (.str (32 :: x.s)) K:=fun K=>Mq (by simp only [bigN] at hk; simp; omega)
 have d2:∀ K:PK,N4 A0 .add 9 (.str (32 :: x.s)) (.str [32]) K=.val (.str (32 :: (x.s ++ [32]))) K:=fun K=>Mq (by simp only [bigN] at hk; simp; omega)
 have c1:=fun K=>Jt (K:=K) (s:=x.s) (p:=[32]) hstrings_Contains (by unfold Js; rw [show oneB [32]=true from rfl,Bool.or_true])
 have c2:=fun K=>Jt (K:=K) (s:=Pj) (p:=32 :: (x.s ++ [32])) hstrings_Contains (by unfold Js; rfl)
 unfold Ins.F Co
 unfold Pj at c2 ⊢
 by_cases e3:x.op=3
 . by_cases q1:x.s=[]
   . simp -implicitDefEqProofs only [eq_true e3,eq_true q1,Bool.false_and,XP,seval]
   cases q2:contS [32] x.s with
   | true=>simp -implicitDefEqProofs only [eq_true e3,eq_false q1,c1,q2,Bool.false_and,Bool.and_false,XP,seval]
   | false=>simp -implicitDefEqProofs only [eq_true e3,eq_false q1,c1,q2,d1,d2,c2,XP,seval]
 by_cases e4:x.op=4
 . by_cases q1:1≤x.ty
   . simp -implicitDefEqProofs only [eq_false e3,eq_true e4,eq_true q1,XP,seval]
   . simp -implicitDefEqProofs only [eq_false e3,eq_true e4,eq_false q1,Bool.false_and,XP,seval]
 . by_cases q1:1≤x.op
   . simp -implicitDefEqProofs only [eq_false e3,eq_false e4,eq_true q1,XP,seval]
   . simp -implicitDefEqProofs only [eq_false e3,eq_false e4,eq_false q1,Bool.false_and,XP,seval]
def Cp:=u5 (fun p:(Ins)=>[p.F]) (fun p=>[.bool (Co p)]) (fun p=>p.s.length≤bigN)
theorem nO (hir_form:T 51=some Cp) {x:Ins} {K:PK} (hk:x.s.length≤bigN):evP ⟨A0,T,A4⟩ (.call 51 [x.F] K)=some (.val (openTs K.os.length [.bool (Co x)]).1 ⟨K.os ++ (openTs K.os.length [.bool (Co x)]).2,K.ext,K.tch⟩):=C0 hir_form (by simp -implicitDefEqProofs only [VV,XP,seval]) (C1 (a:=fun p:(Ins)=>[p.F]) (r:=fun p=>[.bool (Co p)]) (fun x y e=>by simp only [VJ] at e; simp only [e]) (x) hk) (by simp -implicitDefEqProofs only [VN,XP,seval])
theorem dH (hstrings_Contains:T 63=some P0) (hP:PEok ⟨A0,T,A4⟩):TC A0 51 Cp:=D1 hP fun p h=>Sb hstrings_Contains h
def N7 (m:Modl) (at_:Int) (arr:Bool):Bool:=thereD at_ m.gs.length && (match m.gs[at_.toNat]? with | some g=>decide (0 < g.size) == arr | none=>false)
theorem fS (t:Nat) (h:K7 A0 t=K7 A0 4) (a b:Bool) (K:PK):N4 A0 .eql t (.bool a) (.bool b) K=.val (.bool (a == b)) K:=by
 rw [bp _ _ rfl rfl,h]; cases a <;> cases b <;> rfl
theorem F8 {a n:Int} (h:thereD a n=true):∃ k:Nat,a=k∧(k:Int) < n:=by
 unfold thereD at h
 rw [Bool.and_eq_true] at h
 have h0:=of_decide_eq_true h.1
 have h1:=of_decide_eq_true h.2
 obtain ⟨k,rfl⟩:=Int.eq_ofNat_of_zero_le h0
 exact ⟨k,rfl,h1⟩
theorem w5 (hir_there:T 54=some C6) {m:Modl} {c:Cod} {a:Int} {arr:Bool}:AM.Comes ⟨A0,T,A4⟩ 67 [chkF m c,.int .i64 a,.bool arr] [.bool (N7 m a arr)]:=by
 refine ⟨[.bool (N7 m a arr)],⟨[],0,[]⟩,?_,back_of rfl List.nodup_nil rfl rfl rfl⟩
 rw [A7 (c:=HU) (nt:=25) (rs:=[.tmp 6]) rfl (by simp)]; unfold HU
 unfold K0
 have t:=fun K=>N0 (K:=K) (a:=a) (n:=m.gs.length) hir_there
 have eb:=fS 4 rfl
 unfold chkF N7
 cases ht:thereD a m.gs.length with
 | false=>rw [ht] at t; simp -implicitDefEqProofs only [t,List.length_map,Bool.false_and,XP,seval]
 | true =>
  obtain ⟨k,rfl,hk⟩:=F8 ht
  have hk:k < m.gs.length:=by omega
  rw [ht] at t
  have hi:=B4 (F:=Glo.F) hk
  simp only [Glo.F] at hi
  rw [show ((k:Int)).toNat=k from rfl,List.getElem?_eq_getElem hk]
  simp -implicitDefEqProofs only [t,List.length_map,hi,eb,XP,seval]
def D4:=u5 (fun p:(Modl) × (Cod) × (Int) × (Bool)=>[chkF p.1 p.2.1,.int .i64 p.2.2.1,.bool p.2.2.2]) (fun p=>[.bool (N7 p.1 p.2.2.1 p.2.2.2)]) (fun p=>True)
theorem Fl (hir_checker_global:T 67=some D4) {m:Modl} {c:Cod} {a:Int} {arr:Bool} {K:PK}:evP ⟨A0,T,A4⟩ (.call 67 [chkF m c,.int .i64 a,.bool arr] K)=some (.val (openTs K.os.length [.bool (N7 m a arr)]).1 ⟨K.os ++ (openTs K.os.length [.bool (N7 m a arr)]).2,K.ext,K.tch⟩):=C0 hir_checker_global (by simp -implicitDefEqProofs only [VV,XP,seval]) (C1 (a:=fun p:(Modl) × (Cod) × (Int) × (Bool)=>[chkF p.1 p.2.1,.int .i64 p.2.2.1,.bool p.2.2.2]) (r:=fun p=>[.bool (N7 p.1 p.2.2.1 p.2.2.2)]) (fun x y e=>by simp only [VJ] at e; simp only [e]) (m,c,a,arr) trivial) (by simp -implicitDefEqProofs only [VN,XP,seval])
theorem Cq (hir_there:T 54=some C6) (hP:PEok ⟨A0,T,A4⟩):TC A0 67 D4:=D1 hP fun p h=>w5 hir_there
def u7 (l:List Int) (r:Int):Int:=l.getD r.toNat 0
theorem Ho {l:List Int} {k:Nat} (h:k < l.length):(ints l)[k]?=some (.int .i64 (u7 l k)):=by
 rw [A8 h]; unfold u7; simp [h]
theorem Mr {m:Modl} {c:Cod} {r t:Int} {id:Nat} {K:PK} (hN:T 68=none) (hr:thereD r c.regs.length=true) (hK:K.os[id]?=some (.row 1 [chkF m c] 7)) :
 evP ⟨A0,T,A4⟩ (.call 68 [.int .i64 r,.int .i64 t,.ptr id 0 0] K)=some (.val [.bool (decide (u7 c.regs r=t))] K):=by
 obtain ⟨k,rfl,hk⟩:=F8 hr
 have hi:=Ho (show k < c.regs.length by omega)
 rw [Dh hN rfl]
 rw [A7 (c:=HV) (nt:=14) (rs:=[.tmp 5]) rfl (by simp)]; unfold HV
 unfold chkF at hK
 simp -implicitDefEqProofs only [hK,hi,XP,seval]
end Go.Proofs.AmEnv
set_option maxRecDepth 100000
namespace Go.Proofs.AmEnv
open Go Go.AM
variable {T:Nat->Option (List AV->Option (List AV))}
theorem Pm {P:PE} {c:PC} {X:Type} {p:X->Bool} {l:List X} {S:Nat->PF} {K:PK} {x:Nat} {Q:PF->Prop} {R:PF->PK->Prop}
 (h1:∀ i (h:i < l.length),p l[i]=true->evP P (.code c (S i) K)=some (.ok .normal (S (i + 1)) K))
 (h2:∀ i (h:i < l.length),p l[i]=false->∃ fr' K',evP P (.code c (S i) K)=some (.ok .ret fr' K')∧R fr' K')
 (hx:∃ fr',evP P (.code c (S l.length) K)=some (.ok (.exit x) fr' K)∧Q fr') :
 (l.all p=true∧∃ fr',evP P (.code (.loop c) (S 0) K)=some (.ok (.exit x) fr' K)∧Q fr')∨(l.all p=false∧∃ fr' K',evP P (.code (.loop c) (S 0) K)=some (.ok .ret fr' K')∧R fr' K'):=by
 have key:∀ (n i:Nat),l.length=i + n->((l.drop i).all p=true∧∃ fr',evP P (.code (.loop c) (S i) K)=some (.ok (.exit x) fr' K)∧Q fr')∨((l.drop i).all p=false∧∃ fr' K',evP P (.code (.loop c) (S i) K)=some (.ok .ret fr' K')∧R fr' K'):=fun n=>by
  induction n with
  | zero =>
   intro i e
   obtain rfl:i=l.length:=by omega
   obtain ⟨fr',h,q⟩:=hx
   exact .inl ⟨by rw [List.drop_length]; rfl,fr',H6 h,q⟩
  | succ n ih =>
   intro i e
   have hl:i < l.length:=by omega
   rw [List.drop_eq_getElem_cons hl,List.all_cons]
   cases hq:p l[i] with
   | true =>
    rw [G6 (h1 i hl hq),Bool.true_and]
    exact ih (i + 1) (by omega)
   | false =>
    obtain ⟨fr',K',q1,q2⟩:=h2 i hl hq
    exact .inr ⟨rfl,fr',K',z6 q1,q2⟩
 exact key l.length 0 (by omega)
section
variable {m:Modl} {c:Cod} {x:Ins} {fr:PF} {i:Nat} {tch:List Nat}
def Ju:List Int:=[1,2,3,4,5,7,10]
def Xy (c:Cod) (x:Ins):Bool:=!((!decide (x.op=9) || decide (0≤writesD x)) && (!decide (writesD x=-1) && !thereD (writesD x) c.regs.length))
def codI (l:List Cod) (i:Int):Cod:=l.getD i.toNat ⟨[],0,0,[],[]⟩
def fT (m:Modl) (c:Cod) (x:Ins):Bool :=
 if x.op=1 then decide (wrapD (u7 c.regs x.dst) x.n=x.n) else if x.op=5 then N7 m x.n true else if x.op=6 then N7 m x.n true else if x.op=7 then N7 m x.n false else if x.op=8 then N7 m x.n false
 else if x.op=9 then thereD x.n m.fs.length && decide ((codI m.fs x.n).ps≤(codI m.fs x.n).regs.length) else true
def j8 (x:Ins):Bool:=(Ju.any fun n=>decide (x.op=n)) && decide (x.dst < 0)
def E3 (m:Modl) (c:Cod) (x:Ins):Bool:=(readsD x).all (fun r=>thereD r c.regs.length) && (Xy c x && (!j8 x && fT m c x))
theorem Hp {l:List Cod} {k:Nat} (h:k < l.length):(l.map Cod.F)[k]?=some (codI l k).F:=by
 rw [B4 (F:=Cod.F) h]; unfold codI; simp [h]
set_option maxHeartbeats 4000000 in
theorem uT {w:PO} (h2:lookP fr 2=.ptr 0 0 0) (h3:lookP fr 3=.ptr 1 0 0) (hw:T 56=some E8) (hg:T 67=some D4) (ht:T 54=some C6) (h1:x.op=1->thereD x.dst c.regs.length=true) :
 evP ⟨A0,T,A4⟩ (.code Oz fr ⟨[.row 1 [chkF m c] 7,.row 1 [x.F] 8,w],0,tch⟩)=some (.ok .ret [(4,.bool (fT m c x))] ⟨[],0,[]⟩):=by
 have tw:=fun t v K=>Am (K:=K) (t:=t) (v:=v) hw
 have tg:=fun a b K=>Fl (K:=K) (m:=m) (c:=c) (a:=a) (arr:=b) hg
 have tt:=fun a n K=>N0 (K:=K) (a:=a) (n:=n) ht
 unfold Oz mX mW mV mU mT uH uG fT
 unfold Ins.F
 unfold chkF at tg ⊢
 by_cases e1:x.op=1
 . obtain ⟨k,hk,hlt⟩:=F8 (h1 e1)
   have hi:=Ho (show k < c.regs.length by omega)
   rw [hk]
   simp -implicitDefEqProofs only [h2,h3,eq_true e1,tw,hi,XP,seval]
 by_cases e5:x.op=5
 . simp -implicitDefEqProofs only [h2,h3,eq_false e1,eq_true e5,tg,XP,seval]
 by_cases e6:x.op=6
 . simp -implicitDefEqProofs only [h2,h3,eq_false e1,eq_false e5,eq_true e6,tg,XP,seval]
 by_cases e7:x.op=7
 . simp -implicitDefEqProofs only [h2,h3,eq_false e1,eq_false e5,eq_false e6,eq_true e7,tg,XP,seval]
 by_cases e8:x.op=8
 . simp -implicitDefEqProofs only [h2,h3,eq_false e1,eq_false e5,eq_false e6,eq_false e7,eq_true e8,tg,XP,seval]
 by_cases e9:x.op=9
 . cases ht:thereD x.n m.fs.length with
   | false=>simp -implicitDefEqProofs only [h2,h3,eq_false e1,eq_false e5,eq_false e6,eq_false e7,eq_false e8,eq_true e9,tt,ht,List.length_map,Bool.false_and,XP,seval]
   | true =>
    obtain ⟨k,hk,hlt⟩:=F8 ht
    have hi:=Hp (show k < m.fs.length by omega)
    simp only [Cod.F] at hi
    rw [hk] at ht ⊢
    simp -implicitDefEqProofs only [h2,h3,eq_false e1,eq_false e5,eq_false e6,eq_false e7,eq_false e8,eq_true e9,tt,ht,List.length_map,hi,XP,seval]
 . simp -implicitDefEqProofs only [h2,h3,eq_false e1,eq_false e5,eq_false e6,eq_false e7,eq_false e8,eq_false e9,XP,seval]
end
end Go.Proofs.AmEnv
set_option maxRecDepth 100000
namespace Go.Proofs.AmEnv
open Go Go.AM
variable {T:Nat->Option (List AV->Option (List AV))}
section
variable {m:Modl} {c:Cod} {x:Ins} {fr:PF} {i:Nat} {L:List Int}
set_option maxHeartbeats 4000000 in
theorem CO (h2:lookP fr 2=.ptr 0 0 0) (h3:lookP fr 3=.ptr 1 0 0) (hw:T 56=some E8) (hg:T 67=some D4) (ht:T 54=some C6) (hc:T 66=some g8) (h1:x.op=1->¬ x.dst < 0->thereD x.dst c.regs.length=true) :
 evP ⟨A0,T,A4⟩ (.code Wd fr ⟨[.row 1 [chkF m c] 7,.row 1 [x.F] 8],0,[]⟩)=some (.ok .ret [(4,.bool (!j8 x && fT m c x))] ⟨[],0,[]⟩):=by
 have tc:∀ K:PK,K.os[2]?=some (.row 0 (ints Ju) 1)->evP ⟨A0,T,A4⟩ (.call 66 [.msl 2 0 7 1,.int .i64 x.op] K)=some (.val [.bool (Ju.any fun n=>decide (x.op=n))] ⟨K.os ++ [],K.ext,K.tch⟩):=fun K hK=>C0 hc (by
  simp only [Ju,ints,List.map] at hK
  simp -implicitDefEqProofs only [hK,Ju,XP,seval]
  rfl) (C1 (a:=fun p:List Int × Int=>[fslN (ints p.1),.int .i64 p.2]) (r:=fun p=>[.bool (p.1.any fun n=>decide (p.2=n))]) (fun x y e=>by simp only [List.cons.injEq,fslN_iff,ints_iff,AV.int.injEq,true_and,and_true] at e; simp only [e]) (Ju,x.op) (by show Ju.length≤bigN; decide)) rfl
 unfold Wd uF j8
 cases ha:(Ju.any fun n=>decide (x.op=n)) with
 | false =>
  rw [Bool.false_and]
  rw [ha] at tc
  have sw:∀ (fr:PF) (tch:List Nat),lookP fr 2=.ptr 0 0 0->lookP fr 3=.ptr 1 0 0->evP ⟨A0,T,A4⟩ (.code Oz fr ⟨[.row 1 [chkF m c] 7,.row 1 [x.F] 8,.row 0 [.int .i64 1,.int .i64 2,.int .i64 3,.int .i64 4,.int .i64 5,.int .i64 7,.int .i64 10] 1],0,tch⟩)=some (.ok .ret [(4,.bool (fT m c x))] ⟨[],0,[]⟩):=fun fr tch a b=>uT a b hw hg ht fun e=>absurd ha (by simp [Ju,e])
  simp only [Ins.F] at sw ⊢
  simp only [Ju,ints,List.map] at tc
  simp -implicitDefEqProofs only [h2,h3,tc,sw,XP,seval]
 | true =>
  rw [ha] at tc
  simp only [Ju,ints,List.map] at tc
  by_cases hd:x.dst < 0
  . simp only [Ins.F]
    simp -implicitDefEqProofs only [h2,h3,tc,eq_true hd,Bool.false_and,XP,seval]
  . have sw:∀ (fr:PF) (tch:List Nat),lookP fr 2=.ptr 0 0 0->lookP fr 3=.ptr 1 0 0->evP ⟨A0,T,A4⟩ (.code Oz fr ⟨[.row 1 [chkF m c] 7,.row 1 [x.F] 8,.row 0 [.int .i64 1,.int .i64 2,.int .i64 3,.int .i64 4,.int .i64 5,.int .i64 7,.int .i64 10] 1],0,tch⟩)=some (.ok .ret [(4,.bool (fT m c x))] ⟨[],0,[]⟩):=fun fr tch a b=>uT a b hw hg ht fun e=>h1 e hd
    simp only [Ins.F] at sw ⊢
    simp -implicitDefEqProofs only [h2,h3,tc,eq_false hd,sw,XP,seval]
theorem CP (h:Xy c x=true) (e:x.op=1) (hd:¬ x.dst < 0):thereD x.dst c.regs.length=true:=by
 unfold Xy writesD at h
 rw [if_pos e] at h
 have:¬ x.dst=-1:=by omega
 have h9:¬ x.op=9:=by omega
 cases ht:thereD x.dst c.regs.length with
 | true=>rfl
 | false=>rw [ht] at h; simp [this,h9] at h
set_option maxHeartbeats 8000000 in
theorem CQ (h2:lookP fr 2=.ptr 0 0 0) (h3:lookP fr 3=.ptr 1 0 0) (hw:T 56=some E8) (hg:T 67=some D4) (ht:T 54=some C6) (hc:T 66=some g8) (hwr:T 65=some X0) :
 evP ⟨A0,T,A4⟩ (.code We fr ⟨[.row 1 [chkF m c] 7,.row 1 [x.F] 8],0,[]⟩)=some (.ok .ret [(4,.bool (Xy c x && (!j8 x && fT m c x)))] ⟨[],0,[]⟩):=by
 have tw:=fun K=>dF (K:=K) (x:=x) hwr
 have tt:=fun K=>N0 (K:=K) (a:=writesD x) (n:=c.regs.length) ht
 have k16:Xy c x=true->∀ fr:PF,lookP fr 2=.ptr 0 0 0->lookP fr 3=.ptr 1 0 0->evP ⟨A0,T,A4⟩ (.code Wd fr ⟨[.row 1 [chkF m c] 7,.row 1 [x.F] 8],0,[]⟩)=some (.ok .ret [(4,.bool (!j8 x && fT m c x))] ⟨[],0,[]⟩):=fun h fr a b=>CO a b hw hg ht hc (CP h)
 unfold We uE uD
 have fin:Xy c x=!((!decide (x.op=9) || decide (0≤writesD x)) && (!decide (writesD x=-1) && !thereD (writesD x) c.regs.length)):=rfl
 simp only [Ins.F] at tw k16 ⊢
 simp only [chkF] at k16 ⊢
 by_cases e9:x.op=9
 . by_cases w0:0≤writesD x
   . have w1:¬ writesD x=-1:=by omega
     cases q:thereD (writesD x) c.regs.length with
     | true =>
      have ok:Xy c x=true:=by rw [fin,q]; simp
      have k16:=k16 ok
      rw [q] at tt
      simp -implicitDefEqProofs only [h2,h3,tw,tt,eq_true e9,eq_true w0,eq_false w1,List.length_map,ok,k16,XP,seval]
     | false =>
      have ok:Xy c x=false:=by rw [fin,q]; simp [w0,w1]
      rw [q] at tt
      simp -implicitDefEqProofs only [h2,h3,tw,tt,eq_true e9,eq_true w0,eq_false w1,List.length_map,ok,Bool.false_and,XP,seval]
   . have ok:Xy c x=true:=by rw [fin]; simp [e9,w0]
     have k16:=k16 ok
     simp -implicitDefEqProofs only [h2,h3,tw,eq_true e9,eq_false w0,ok,k16,XP,seval]
 . by_cases w1:writesD x=-1
   . have ok:Xy c x=true:=by rw [fin]; simp [w1]
     have k16:=k16 ok
     simp -implicitDefEqProofs only [h2,h3,tw,eq_false e9,eq_true w1,ok,k16,XP,seval]
   . cases q:thereD (writesD x) c.regs.length with
     | true =>
      have ok:Xy c x=true:=by rw [fin,q]; simp
      have k16:=k16 ok
      rw [q] at tt
      simp -implicitDefEqProofs only [h2,h3,tw,tt,eq_false e9,eq_false w1,List.length_map,ok,k16,XP,seval]
     | false =>
      have ok:Xy c x=false:=by rw [fin,q]; simp [e9,w1]
      rw [q] at tt
      simp -implicitDefEqProofs only [h2,h3,tw,tt,eq_false e9,eq_false w1,List.length_map,ok,Bool.false_and,XP,seval]
theorem MW (ht:T 54=some C6) (h:i < L.length) (hs:L.length≤bigN) (hp:thereD L[i] c.regs.length=true):evP ⟨A0,T,A4⟩ (.code En [(2,.ptr 0 0 0),(3,.ptr 1 0 0),(9,.msl 2 0 L.length 1),(10,.int .i64 (L.length:Int)),(11,.int .i64 (i:Int))] ⟨[.row 1 [chkF m c] 7,.row 1 [x.F] 8,.row 0 (ints L) 1],0,[]⟩)=some (.ok .normal [(2,.ptr 0 0 0),(3,.ptr 1 0 0),(9,.msl 2 0 L.length 1),(10,.int .i64 (L.length:Int)),(11,.int .i64 ((i + 1:Nat):Int))] ⟨[.row 1 [chkF m c] 7,.row 1 [x.F] 8,.row 0 (ints L) 1],0,[]⟩):=by
 unfold En fO mS mR mQ
 have hlt:decide ((i:Int) < (L.length:Int))=true:=by simp [h]
 have hw:=C8 (i:=i) (by simp only [bigN] at hs; omega)
 have tt:=fun K=>N0 (K:=K) (a:=L[i]) (n:=c.regs.length) ht
 rw [hp] at tt
 unfold chkF Ins.F
 simp -implicitDefEqProofs only [hlt,A8 h,hw,tt,h,List.length_map,XP,seval]
theorem MX (ht:T 54=some C6) (h:i < L.length) (hp:thereD L[i] c.regs.length=false):evP ⟨A0,T,A4⟩ (.code En [(2,.ptr 0 0 0),(3,.ptr 1 0 0),(9,.msl 2 0 L.length 1),(10,.int .i64 (L.length:Int)),(11,.int .i64 (i:Int))] ⟨[.row 1 [chkF m c] 7,.row 1 [x.F] 8,.row 0 (ints L) 1],0,[]⟩)=some (.ok .ret [(4,.bool false)] ⟨[],0,[]⟩):=by
 unfold En fO mS mR mQ
 have hlt:decide ((i:Int) < (L.length:Int))=true:=by simp [h]
 have tt:=fun K=>N0 (K:=K) (a:=L[i]) (n:=c.regs.length) ht
 rw [hp] at tt
 unfold chkF Ins.F
 simp -implicitDefEqProofs only [hlt,A8 h,tt,h,List.length_map,XP,seval]
theorem MY:∃ fr',evP ⟨A0,T,A4⟩ (.code En [(2,.ptr 0 0 0),(3,.ptr 1 0 0),(9,.msl 2 0 L.length 1),(10,.int .i64 (L.length:Int)),(11,.int .i64 (L.length:Int))] ⟨[.row 1 [chkF m c] 7,.row 1 [x.F] 8,.row 0 (ints L) 1],0,[]⟩)=some (.ok (.exit 0) fr' ⟨[.row 1 [chkF m c] 7,.row 1 [x.F] 8,.row 0 (ints L) 1],0,[]⟩)∧(lookP fr' 2=.ptr 0 0 0∧lookP fr' 3=.ptr 1 0 0):=by
 unfold En fO
 have hlt:decide ((L.length:Int) < (L.length:Int))=false:=by simp
 simp -implicitDefEqProofs only [hlt,XP,seval]
 exact ⟨_,rfl,rfl,rfl⟩
theorem dI (hk:x.ok):(readsD x).length≤bigN:=by
 unfold readsD
 have:x.args.length≤bigN:=by unfold Ins.ok at hk; simp only [bigN] at hk ⊢; omega
 repeat' split
 all_goals first | exact this | (simp [bigN])
set_option maxHeartbeats 4000000 in
theorem w6 (hword_Wrap:T 56=some E8) (hir_checker_global:T 67=some D4) (hir_there:T 54=some C6) (hContInts:T 66=some g8) (hir_Writes:T 65=some X0) (hir_Reads:T 64=some w4) {m:Modl} {c:Cod} {x:Ins} (hk:x.ok):AM.Comes ⟨A0,T,A4⟩ 52 [chkF m c,x.F] [.bool (E3 m c x)]:=by
 refine ⟨[.bool (E3 m c x)],⟨[],0,[]⟩,?_,back_of rfl List.nodup_nil rfl rfl rfl⟩
 rw [A7 (c:=HM) (nt:=114) (rs:=[.tmp 4]) rfl (by simp)]; unfold HM
 unfold K0
 have hr:=fun K=>jU (K:=K) hir_Reads hk
 have hlen:=dI hk
 have k17:∀ fr:PF,lookP fr 2=.ptr 0 0 0->lookP fr 3=.ptr 1 0 0->evP ⟨A0,T,A4⟩ (.code We fr ⟨[.row 1 [chkF m c] 7,.row 1 [x.F] 8],0,[]⟩)=some (.ok .ret [(4,.bool (Xy c x && (!j8 x && fT m c x)))] ⟨[],0,[]⟩):=fun fr a b=>CQ a b hword_Wrap hir_checker_global hir_there hContInts hir_Writes
 have lp:=Pm (P:=⟨A0,T,A4⟩) (c:=En) (p:=fun r=>thereD r c.regs.length) (l:=readsD x) (S:=fun i=>[(2,.ptr 0 0 0),(3,.ptr 1 0 0),(9,.msl 2 0 (readsD x).length 1),(10,.int .i64 ((readsD x).length:Int)),(11,.int .i64 (i:Int))]) (K:=⟨[.row 1 [chkF m c] 7,.row 1 [x.F] 8,.row 0 (ints (readsD x)) 1],0,[]⟩)
  (Q:=fun fr'=>lookP fr' 2=.ptr 0 0 0∧lookP fr' 3=.ptr 1 0 0) (R:=fun fr' K'=>fr'=[(4,.bool false)]∧K'=⟨[],0,[]⟩) (fun i h hp=>MW hir_there h hlen hp) (fun i h hp=>⟨_,_,MX hir_there h hp,rfl,rfl⟩) MY
 unfold mY uC E3
 rcases lp with ⟨ha,fr',h1,h2,h3⟩ | ⟨ha,fr',K',h1,rfl,rfl⟩
 . have h1:evP ⟨A0,T,A4⟩ (.code (.loop En) [(2,.ptr 0 0 0),(3,.ptr 1 0 0),(9,.msl 2 0 (readsD x).length 1),(10,.int .i64 ((readsD x).length:Int)),(11,.int .i64 0)] _)=_:=h1
   rw [ha]
   simp only [Ins.F,chkF] at hr h1 k17 ⊢
   simp -implicitDefEqProofs only [hr,h1,h2,h3,k17,List.length_map,XP,seval]
 . have h1:evP ⟨A0,T,A4⟩ (.code (.loop En) [(2,.ptr 0 0 0),(3,.ptr 1 0 0),(9,.msl 2 0 (readsD x).length 1),(10,.int .i64 ((readsD x).length:Int)),(11,.int .i64 0)] _)=_:=h1
   rw [ha,Bool.false_and]
   simp only [Ins.F,chkF] at hr h1 ⊢
   simp -implicitDefEqProofs only [hr,h1,List.length_map,XP,seval]
def H9:=u5 (fun p:(Modl) × (Cod) × (Ins)=>[chkF p.1 p.2.1,p.2.2.F]) (fun p=>[.bool (E3 p.1 p.2.1 p.2.2)]) (fun p=>p.2.2.ok)
theorem Fm (hir_checker_places:T 52=some H9) {m:Modl} {c:Cod} {x:Ins} {K:PK} (hk:x.ok):evP ⟨A0,T,A4⟩ (.call 52 [chkF m c,x.F] K)=some (.val (openTs K.os.length [.bool (E3 m c x)]).1 ⟨K.os ++ (openTs K.os.length [.bool (E3 m c x)]).2,K.ext,K.tch⟩):=C0 hir_checker_places (by simp -implicitDefEqProofs only [VV,XP,seval]) (C1 (a:=fun p:(Modl) × (Cod) × (Ins)=>[chkF p.1 p.2.1,p.2.2.F]) (r:=fun p=>[.bool (E3 p.1 p.2.1 p.2.2)]) (fun x y e=>by simp only [VJ] at e; simp only [e]) (m,c,x) hk) (by simp -implicitDefEqProofs only [VN,XP,seval])
theorem Cr (hword_Wrap:T 56=some E8) (hir_checker_global:T 67=some D4) (hir_there:T 54=some C6) (hContInts:T 66=some g8) (hir_Writes:T 65=some X0) (hir_Reads:T 64=some w4) (hP:PEok ⟨A0,T,A4⟩):TC A0 52 H9:=D1 hP fun p h=>w6 hword_Wrap hir_checker_global hir_there hContInts hir_Writes hir_Reads h
end
end Go.Proofs.AmEnv
set_option maxRecDepth 100000
namespace Go.Proofs.AmEnv
open Go Go.AM
variable {T:Nat->Option (List AV->Option (List AV))}
section
variable {m:Modl} {c:Cod} {x:Ins} {fr:PF} {i:Nat}
theorem Hq (h:E3 m c x=true) {r:Int} (hr:r∈readsD x):thereD r c.regs.length=true:=by
 unfold E3 at h
 rw [Bool.and_eq_true] at h
 exact List.all_eq_true.1 h.1 r hr
theorem Jv (h:E3 m c x=true) (e:x.op=1∨x.op=2∨x.op=3∨x.op=4∨x.op=5∨x.op=7∨x.op=10):thereD x.dst c.regs.length=true:=by
 unfold E3 at h
 simp only [Bool.and_eq_true] at h
 obtain ⟨_,h1,h2,_⟩:=h
 have hd:¬ x.dst < 0:=fun hd=>by
  have:j8 x=true:=by
   unfold j8 Ju
   rcases e with e | e | e | e | e | e | e <;> simp [e,hd]
  rw [this] at h2; cases h2
 have hw:writesD x=x.dst:=by
  unfold writesD
  rcases e with e | e | e | e | e | e | e <;> simp [e]
 unfold Xy at h1
 rw [hw] at h1
 have h9:¬ x.op=9:=by omega
 have:¬ x.dst=-1:=by omega
 cases ht:thereD x.dst c.regs.length with
 | true=>rfl
 | false=>rw [ht] at h1; simp [this,h9] at h1
theorem nP (h:E3 m c x=true):fT m c x=true:=by
 unfold E3 at h
 simp only [Bool.and_eq_true] at h
 exact h.2.2.2
theorem Wp (h:E3 m c x=true) (e:x.op=5∨x.op=6∨x.op=7∨x.op=8):thereD x.n m.gs.length=true:=by
 have h:=nP h
 unfold fT at h
 rcases e with e | e | e | e <;> simp [e,N7] at h <;> exact h.1
theorem nQ (h:E3 m c x=true) (e:x.op=9):thereD x.n m.fs.length=true∧(codI m.fs x.n).ps≤(codI m.fs x.n).regs.length:=by
 have h:=nP h
 unfold fT at h
 simpa [e] using h
theorem rN (h:E3 m c x=true) (e:x.op=9) (hd:¬ x.dst < 0):thereD x.dst c.regs.length=true:=by
 unfold E3 at h
 simp only [Bool.and_eq_true] at h
 obtain ⟨_,h1,h2,_⟩:=h
 have hw:writesD x=x.dst:=by
  unfold writesD
  simp [e]; omega
 unfold Xy at h1
 rw [hw] at h1
 have:¬ x.dst=-1:=by omega
 have h0:0≤x.dst:=by omega
 cases ht:thereD x.dst c.regs.length with
 | true=>rfl
 | false=>rw [ht] at h1; simp [this,h0] at h1
def isD (c:Cod) (r t:Int):Bool:=decide (u7 c.regs r=t)
def dJ (l:List Glo) (i:Int):Glo:=l.getD i.toNat ⟨[],0,0,0⟩
theorem nR {l:List Glo} {k:Nat} (h:k < l.length):(l.map Glo.F)[k]?=some (dJ l k).F:=by
 rw [B4 (F:=Glo.F) h]; unfold dJ; simp [h]
def CS (x:Ins):Int:=if contS (32 :: (x.s ++ [32])) Pk then 1 else x.ty
def w7 (m:Modl) (c:Cod) (x:Ins):Bool:=(x.args.zip (codI m.fs x.n).regs).all (fun p=>isD c p.1 p.2) && (decide (x.dst < 0) || (!decide ((codI m.fs x.n).ty=0) && isD c x.dst (codI m.fs x.n).ty))
def j9 (m:Modl) (c:Cod) (x:Ins):Bool :=
 if x.op=2 then isD c x.a (u7 c.regs x.dst) else if x.op=3 then isD c x.a x.ty && (isD c x.b x.ty && isD c x.dst (CS x)) else if x.op=4 then isD c x.dst (Er x.ty)
 else if x.op=5 then isD c x.a 2 && isD c x.dst (Er (dJ m.gs x.n).ty) else if x.op=6 then isD c x.a 2 && isD c x.b (Er (dJ m.gs x.n).ty) else if x.op=7 then isD c x.dst (dJ m.gs x.n).ty else if x.op=8 then isD c x.a (dJ m.gs x.n).ty
 else if x.op=9 then w7 m c x else if x.op=10 then isD c x.dst 2 else if x.op=11 then isD c x.a 2 else true
def Pn (m:Modl) (x:Ins):Prop:=x.op=9->(x.args.length:Int)=(codI m.fs x.n).ps
section
variable {F:Cod} {A:List Int}
theorem MZ (hN:T 68=none) (h:i < A.length) (hF:i < F.regs.length) (hs:A.length≤bigN) (hr:thereD A[i] c.regs.length=true) (hp:isD c A[i] F.regs[i]=true) :
 evP ⟨A0,T,A4⟩ (.code Eo [(2,.fn (.func 68) [] [.ptr 0 0 0]),(4,.ptr 2 0 0),(7,.ptr 3 0 0),(18,fslN (ints A)),(19,.int .i64 (A.length:Int)),(20,.int .i64 (i:Int))] ⟨[.row 1 [chkF m c] 7,.row 1 [x.F] 8,.row 1 [x.F] 8,.row 1 [F.F] 5],2,[]⟩)=some (.ok .normal [(2,.fn (.func 68) [] [.ptr 0 0 0]),(4,.ptr 2 0 0),(7,.ptr 3 0 0),(18,fslN (ints A)),(19,.int .i64 (A.length:Int)),(20,.int .i64 ((i + 1:Nat):Int))] ⟨[.row 1 [chkF m c] 7,.row 1 [x.F] 8,.row 1 [x.F] 8,.row 1 [F.F] 5],2,[]⟩):=by
 unfold Eo
 have hlt:decide ((i:Int) < (A.length:Int))=true:=by simp [h]
 have hw:=C8 (i:=i) (by simp only [bigN] at hs; omega)
 have ic:=fun t K hK=>Mr (m:=m) (t:=t) (id:=0) (K:=K) hN hr hK
 have hp:decide (u7 c.regs A[i]=F.regs[i])=true:=hp
 simp only [chkF,Ins.F,Cod.F] at ic ⊢
 simp -implicitDefEqProofs only [hlt,A8 h,A8 hF,hw,ic,hp,XP,seval]
theorem NA (hN:T 68=none) (h:i < A.length) (hF:i < F.regs.length) (hr:thereD A[i] c.regs.length=true) (hp:isD c A[i] F.regs[i]=false) :
 ∃ K',evP ⟨A0,T,A4⟩ (.code Eo [(2,.fn (.func 68) [] [.ptr 0 0 0]),(4,.ptr 2 0 0),(7,.ptr 3 0 0),(18,fslN (ints A)),(19,.int .i64 (A.length:Int)),(20,.int .i64 (i:Int))] ⟨[.row 1 [chkF m c] 7,.row 1 [x.F] 8,.row 1 [x.F] 8,.row 1 [F.F] 5],2,[]⟩)=some (.ok .ret [(6,.bool false)] K')∧K'=⟨[.row 1 [chkF m c] 7,.row 1 [x.F] 8],2,[]⟩:=by
 unfold Eo
 have hlt:decide ((i:Int) < (A.length:Int))=true:=by simp [h]
 have ic:=fun t K hK=>Mr (m:=m) (t:=t) (id:=0) (K:=K) hN hr hK
 have hp:decide (u7 c.regs A[i]=F.regs[i])=false:=hp
 simp only [chkF,Ins.F,Cod.F] at ic ⊢
 simp -implicitDefEqProofs only [hlt,A8 h,A8 hF,ic,hp,XP,seval]
 exact ⟨_,rfl,rfl⟩
theorem NB:∃ fr',evP ⟨A0,T,A4⟩ (.code Eo [(2,.fn (.func 68) [] [.ptr 0 0 0]),(4,.ptr 2 0 0),(7,.ptr 3 0 0),(18,fslN (ints A)),(19,.int .i64 (A.length:Int)),(20,.int .i64 (A.length:Int))] ⟨[.row 1 [chkF m c] 7,.row 1 [x.F] 8,.row 1 [x.F] 8,.row 1 [F.F] 5],2,[]⟩)=some (.ok (.exit 0) fr' ⟨[.row 1 [chkF m c] 7,.row 1 [x.F] 8,.row 1 [x.F] 8,.row 1 [F.F] 5],2,[]⟩)∧(lookP fr' 2=.fn (.func 68) [] [.ptr 0 0 0]∧lookP fr' 4=.ptr 2 0 0∧lookP fr' 7=.ptr 3 0 0):=by
 unfold Eo
 have hlt:decide ((A.length:Int) < (A.length:Int))=false:=by simp
 simp -implicitDefEqProofs only [hlt,XP,seval]
 exact ⟨_,rfl,rfl,rfl,rfl⟩
end
set_option maxHeartbeats 8000000 in
theorem jV (hN:T 68=none) (hk:x.ok) (hpl:E3 m c x=true) (e9:x.op=9) (ha:Pn m x) :
 evP ⟨A0,T,A4⟩ (.body 70 [chkF m c,x.F,.fn (.func 68) [] [.ptr 0 0 0]] ⟨[.row 1 [chkF m c] 7,.row 1 [x.F] 8],2,[]⟩)=some (.val [.bool (w7 m c x)] ⟨[.row 1 [chkF m c] 7,.row 1 [x.F] 8],2,[]⟩):=by
 obtain ⟨hf,hps⟩:=nQ hpl e9
 have ha:=ha e9
 obtain ⟨k,hkn,hkl⟩:=F8 hf
 have hi:=Hp (show k < m.fs.length by omega)
 rw [← hkn] at hi
 have hlen:x.args.length≤bigN:=by unfold Ins.ok at hk; simp only [bigN] at hk ⊢; omega
 have hz:(x.args.zip (codI m.fs x.n).regs).length=x.args.length:=by rw [List.length_zip]; omega
 have rd:∀ i (h:i < x.args.length),thereD x.args[i] c.regs.length=true:=fun i h=>Hq hpl (by
  have:readsD x=x.args:=by simp [readsD,e9]
  rw [this]; exact List.getElem_mem h)
 have lp:=Pm (P:=⟨A0,T,A4⟩) (c:=Eo) (p:=fun p=>isD c p.1 p.2) (l:=x.args.zip (codI m.fs x.n).regs) (S:=fun i=>[(2,.fn (.func 68) [] [.ptr 0 0 0]),(4,.ptr 2 0 0),(7,.ptr 3 0 0),(18,fslN (ints x.args)),(19,.int .i64 (x.args.length:Int)),(20,.int .i64 (i:Int))]) (K:=⟨[.row 1 [chkF m c] 7,.row 1 [x.F] 8,.row 1 [x.F] 8,.row 1 [(codI m.fs x.n).F] 5],2,[]⟩)
  (Q:=fun fr'=>lookP fr' 2=.fn (.func 68) [] [.ptr 0 0 0]∧lookP fr' 4=.ptr 2 0 0∧lookP fr' 7=.ptr 3 0 0) (R:=fun fr' K'=>fr'=[(6,.bool false)]∧K'=⟨[.row 1 [chkF m c] 7,.row 1 [x.F] 8],2,[]⟩)
  (fun i h hp=>MZ (F:=codI m.fs x.n) (A:=x.args) hN (by omega) (by rw [List.length_zip] at h; omega) hlen (rd i (by omega)) (by simpa using hp)) (fun i h hp=>by
    obtain ⟨K',q1,q2⟩:=NA (m:=m) (x:=x) (F:=codI m.fs x.n) (A:=x.args) hN (show i < x.args.length by omega) (by rw [List.length_zip] at h; omega) (rd i (by omega)) (by simpa using hp)
    exact ⟨_,K',q1,rfl,q2⟩) (by rw [hz]; exact NB)
 rw [A7 (c:=HX) (nt:=51) (rs:=[.tmp 6]) rfl (by simp)]; unfold HX
 have fin:w7 m c x=((x.args.zip (codI m.fs x.n).regs).all (fun p=>isD c p.1 p.2) && (decide (x.dst < 0) || (!decide ((codI m.fs x.n).ty=0) && isD c x.dst (codI m.fs x.n).ty))):=rfl
 have hix:∀ te:TI,te.size=5->Si te (fslN (m.fs.map Cod.F)) (.int .i64 x.n)=some (.fptr (codI m.fs x.n).F 0):=fun te h=>by
  rw [hkn] at hi ⊢; exact ix_fslN hi (by rw [h]; rfl)
 have hix:=hix _ ty49_z
 rcases lp with ⟨hall,fr',h1,h2,h3,h4⟩ | ⟨hall,fr',K',h1,rfl,rfl⟩
 . have h1:evP ⟨A0,T,A4⟩ (.code (.loop Eo) [(2,.fn (.func 68) [] [.ptr 0 0 0]),(4,.ptr 2 0 0),(7,.ptr 3 0 0),(18,fslN (ints x.args)),(19,.int .i64 (x.args.length:Int)),(20,.int .i64 0)] _)=_:=h1
   rw [hall,Bool.true_and] at fin
   simp only [chkF,Ins.F,Cod.F] at h1 hix ⊢
   by_cases hd:x.dst < 0
   . have fin:w7 m c x=true:=by rw [fin]; simp [hd]
     simp -implicitDefEqProofs only [hix,h1,h2,h3,h4,fin,eq_true hd,List.length_map,XP,seval]
   . by_cases hv:(codI m.fs x.n).ty=0
     . have fin:w7 m c x=false:=by rw [fin]; simp [hd,hv]
       simp -implicitDefEqProofs only [hix,h1,h2,h3,h4,fin,eq_false hd,eq_true hv,List.length_map,XP,seval]
     . have fin:w7 m c x=isD c x.dst (codI m.fs x.n).ty:=by rw [fin]; simp [hd,hv]
       have ic:=fun t K hK=>Mr (m:=m) (r:=x.dst) (t:=t) (id:=0) (K:=K) hN (rN hpl e9 hd) hK
       unfold isD at fin
       simp only [chkF] at ic
       simp -implicitDefEqProofs only [hix,h1,h2,h3,h4,fin,eq_false hd,eq_false hv,ic,List.length_map,XP,seval]
 . have h1:evP ⟨A0,T,A4⟩ (.code (.loop Eo) [(2,.fn (.func 68) [] [.ptr 0 0 0]),(4,.ptr 2 0 0),(7,.ptr 3 0 0),(18,fslN (ints x.args)),(19,.int .i64 (x.args.length:Int)),(20,.int .i64 0)] _)=_:=h1
   rw [hall,Bool.false_and] at fin
   simp only [chkF,Ins.F,Cod.F] at h1 hix ⊢
   simp -implicitDefEqProofs only [hix,h1,fin,List.length_map,XP,seval]
end
end Go.Proofs.AmEnv
set_option maxRecDepth 100000
namespace Go.Proofs.AmEnv
open Go Go.AM
variable {T:Nat->Option (List AV->Option (List AV))}
section
variable {m:Modl} {c:Cod} {x:Ins} {fr:PF} {i:Nat} {tch:List Nat}
theorem jW (hN:T 68=none) (hC:T 70=none) (hk:x.ok) (hpl:E3 m c x=true) (e9:x.op=9) (ha:Pn m x) :
 evP ⟨A0,T,A4⟩ (.call 70 [chkF m c,x.F,.fn (.func 68) [] [.ptr 0 0 0]] ⟨[.row 1 [chkF m c] 7,.row 1 [x.F] 8],0,tch⟩)=some (.val [.bool (w7 m c x)] ⟨[.row 1 [chkF m c] 7,.row 1 [x.F] 8],0,tch⟩) :=
 (Dh hC rfl).trans ((congrArg _ (jV hN hk hpl e9 ha)).trans rfl)
set_option maxHeartbeats 16000000 in
theorem An (nir_checker_types_1:T 68=none) (nir_checker_call:T 70=none) (hstrings_Contains:T 63=some P0) (hir_wide:T 69=some Cl) {m:Modl} {c:Cod} {x:Ins} (hk:x.ok∧x.s.length≤bigN∧E3 m c x=true∧Pn m x):AM.Comes ⟨A0,T,A4⟩ 53 [chkF m c,x.F] [.bool (j9 m c x)]:=by
 refine ⟨[.bool (j9 m c x)],⟨[],0,[]⟩,?_,back_of rfl List.nodup_nil rfl rfl rfl⟩
 rw [A7 (c:=HN) (nt:=150) (rs:=[.tmp 4]) rfl (by simp)]; unfold HN
 unfold K0
 obtain ⟨hx,hs,hpl,hargs⟩:=hk
 have isr:=fun (r t:Int) (K:PK) (hr:thereD r c.regs.length=true) hK=>Mr (m:=m) (c:=c) (r:=r) (t:=t) (id:=0) (K:=K) nir_checker_types_1 hr hK
 have tw:=fun t K=>nM (K:=K) (t:=t) hir_wide
 have cc:=fun e9 tch=>jW (tch:=tch) nir_checker_types_1 nir_checker_call hx hpl e9 hargs
 have gix:∀ k:Nat,x.n=k->k < m.gs.length->Si Ls (fslN (m.gs.map Glo.F)) (.int .i64 x.n)=some (.fptr (dJ m.gs x.n).F 0):=fun k hk hl=>by
  rw [hk]; exact ix_fslN (nR hl) rfl
 have rix:∀ k:Nat,x.dst=k->k < c.regs.length->Si ty3 (fslN (ints c.regs)) (.int .i64 x.dst)=some (.fptr (.int .i64 (u7 c.regs x.dst)) 0):=fun k hk hl=>by
  rw [hk]; exact ix_fslN (Ho hl) rfl
 unfold nF nD nC nA mZ uR uQ uP uO uN uM uL uK j9
 simp only [chkF,Ins.F] at isr cc ⊢
 by_cases e2:x.op=2
 . have ia:=fun t K hK=>isr x.a t K (Hq hpl (by simp [readsD,e2])) hK
   obtain ⟨k,hk,hl⟩:=F8 (Jv hpl (by simp [e2]))
   have hix:=rix k hk (by omega)
   unfold isD
   simp -implicitDefEqProofs only [eq_true e2,ia,hix,XP,seval]
 by_cases e3:x.op=3
 . have ia:=fun t K hK=>isr x.a t K (Hq hpl (by simp [readsD,e3])) hK
   have ib:=fun t K hK=>isr x.b t K (Hq hpl (by simp [readsD,e3])) hK
   have id:=fun t K hK=>isr x.dst t K (Jv hpl (by simp [e3])) hK
   have d1:∀ K:PK,N4 A0 .add 9 (.str [32]) (.str x.s) K=.val (.str (32 :: x.s)) K:=fun K=>Mq (by simp only [bigN] at hs; simp; omega)
   have d2:∀ K:PK,N4 A0 .add 9 (.str (32 :: x.s)) (.str [32]) K=.val (.str (32 :: (x.s ++ [32]))) K:=fun K=>Mq (by simp only [bigN] at hs; simp; omega)
   have cn:=fun K=>Jt (K:=K) (s:=Pk) (p:=32 :: (x.s ++ [32])) hstrings_Contains (by unfold Js; rfl)
   unfold isD CS uJ uI
   unfold Pk at cn ⊢
   by_cases qa:u7 c.regs x.a=x.ty
   . by_cases qb:u7 c.regs x.b=x.ty
     . cases hcc:contS (32 :: (x.s ++ [32])) [32,61,61,32,33,61,32,60,32,60,61,32,62,32,62,61,32] with
       | true=>simp -implicitDefEqProofs only [eq_false e2,eq_true e3,ia,ib,id,d1,d2,cn,hcc,eq_true qa,eq_true qb,XP,seval]
       | false=>simp -implicitDefEqProofs only [eq_false e2,eq_true e3,ia,ib,id,d1,d2,cn,hcc,eq_true qa,eq_true qb,XP,seval]
     . cases hcc:contS (32 :: (x.s ++ [32])) [32,61,61,32,33,61,32,60,32,60,61,32,62,32,62,61,32] with
       | true=>simp -implicitDefEqProofs only [eq_false e2,eq_true e3,ia,ib,id,d1,d2,cn,hcc,eq_true qa,eq_false qb,Bool.false_and,XP,seval]
       | false=>simp -implicitDefEqProofs only [eq_false e2,eq_true e3,ia,ib,id,d1,d2,cn,hcc,eq_true qa,eq_false qb,Bool.false_and,XP,seval]
   . cases hcc:contS (32 :: (x.s ++ [32])) [32,61,61,32,33,61,32,60,32,60,61,32,62,32,62,61,32] with
     | true=>simp -implicitDefEqProofs only [eq_false e2,eq_true e3,ia,ib,id,d1,d2,cn,hcc,eq_false qa,Bool.false_and,XP,seval]
     | false=>simp -implicitDefEqProofs only [eq_false e2,eq_true e3,ia,ib,id,d1,d2,cn,hcc,eq_false qa,Bool.false_and,XP,seval]
 by_cases e4:x.op=4
 . have id:=fun t K hK=>isr x.dst t K (Jv hpl (by simp [e4])) hK
   unfold isD
   simp -implicitDefEqProofs only [eq_false e2,eq_false e3,eq_true e4,id,tw,XP,seval]
 by_cases e5:x.op=5
 . have ia:=fun t K hK=>isr x.a t K (Hq hpl (by simp [readsD,e5])) hK
   have id:=fun t K hK=>isr x.dst t K (Jv hpl (by simp [e5])) hK
   obtain ⟨k,hk,hl⟩:=F8 (Wp hpl (by simp [e5]))
   have hix:=gix k hk (by omega)
   simp only [Glo.F] at hix
   unfold isD
   by_cases qa:u7 c.regs x.a=2
   . simp -implicitDefEqProofs only [eq_false e2,eq_false e3,eq_false e4,eq_true e5,ia,id,hix,tw,eq_true qa,XP,seval]
   . simp -implicitDefEqProofs only [eq_false e2,eq_false e3,eq_false e4,eq_true e5,ia,id,hix,tw,eq_false qa,Bool.false_and,XP,seval]
 by_cases e6:x.op=6
 . have ia:=fun t K hK=>isr x.a t K (Hq hpl (by simp [readsD,e6])) hK
   have ib:=fun t K hK=>isr x.b t K (Hq hpl (by simp [readsD,e6])) hK
   obtain ⟨k,hk,hl⟩:=F8 (Wp hpl (by simp [e6]))
   have hix:=gix k hk (by omega)
   simp only [Glo.F] at hix
   unfold isD
   by_cases qa:u7 c.regs x.a=2
   . simp -implicitDefEqProofs only [eq_false e2,eq_false e3,eq_false e4,eq_false e5,eq_true e6,ia,ib,hix,tw,eq_true qa,XP,seval]
   . simp -implicitDefEqProofs only [eq_false e2,eq_false e3,eq_false e4,eq_false e5,eq_true e6,ia,ib,hix,tw,eq_false qa,Bool.false_and,XP,seval]
 by_cases e7:x.op=7
 . have id:=fun t K hK=>isr x.dst t K (Jv hpl (by simp [e7])) hK
   obtain ⟨k,hk,hl⟩:=F8 (Wp hpl (by simp [e7]))
   have hix:=gix k hk (by omega)
   simp only [Glo.F] at hix
   unfold isD
   simp -implicitDefEqProofs only [eq_false e2,eq_false e3,eq_false e4,eq_false e5,eq_false e6,eq_true e7,id,hix,XP,seval]
 by_cases e8:x.op=8
 . have ia:=fun t K hK=>isr x.a t K (Hq hpl (by simp [readsD,e8])) hK
   obtain ⟨k,hk,hl⟩:=F8 (Wp hpl (by simp [e8]))
   have hix:=gix k hk (by omega)
   simp only [Glo.F] at hix
   unfold isD
   simp -implicitDefEqProofs only [eq_false e2,eq_false e3,eq_false e4,eq_false e5,eq_false e6,eq_false e7,eq_true e8,ia,hix,XP,seval]
 by_cases e9:x.op=9
 . have cc:=cc e9
   simp -implicitDefEqProofs only [eq_false e2,eq_false e3,eq_false e4,eq_false e5,eq_false e6,eq_false e7,eq_false e8,eq_true e9,cc,XP,seval]
 by_cases e10:x.op=10
 . have id:=fun t K hK=>isr x.dst t K (Jv hpl (by simp [e10])) hK
   unfold isD
   simp -implicitDefEqProofs only [eq_false e2,eq_false e3,eq_false e4,eq_false e5,eq_false e6,eq_false e7,eq_false e8,eq_false e9,eq_true e10,id,XP,seval]
 by_cases e11:x.op=11
 . have ia:=fun t K hK=>isr x.a t K (Hq hpl (by simp [readsD,e11])) hK
   unfold isD
   simp -implicitDefEqProofs only [eq_false e2,eq_false e3,eq_false e4,eq_false e5,eq_false e6,eq_false e7,eq_false e8,eq_false e9,eq_false e10,eq_true e11,ia,XP,seval]
 . simp -implicitDefEqProofs only [eq_false e2,eq_false e3,eq_false e4,eq_false e5,eq_false e6,eq_false e7,eq_false e8,eq_false e9,eq_false e10,eq_false e11,XP,seval]
def J7:=u5 (fun p:(Modl) × (Cod) × (Ins)=>[chkF p.1 p.2.1,p.2.2.F]) (fun p=>[.bool (j9 p.1 p.2.1 p.2.2)]) (fun p=>p.2.2.ok∧p.2.2.s.length≤bigN∧E3 p.1 p.2.1 p.2.2=true∧Pn p.1 p.2.2)
theorem r8 (hir_checker_types:T 53=some J7) {m:Modl} {c:Cod} {x:Ins} {K:PK} (hk:x.ok∧x.s.length≤bigN∧E3 m c x=true∧Pn m x):evP ⟨A0,T,A4⟩ (.call 53 [chkF m c,x.F] K)=some (.val (openTs K.os.length [.bool (j9 m c x)]).1 ⟨K.os ++ (openTs K.os.length [.bool (j9 m c x)]).2,K.ext,K.tch⟩):=C0 hir_checker_types (by simp -implicitDefEqProofs only [VV,XP,seval]) (C1 (a:=fun p:(Modl) × (Cod) × (Ins)=>[chkF p.1 p.2.1,p.2.2.F]) (r:=fun p=>[.bool (j9 p.1 p.2.1 p.2.2)]) (fun x y e=>by simp only [VJ] at e; simp only [e]) (m,c,x) hk) (by simp -implicitDefEqProofs only [VN,XP,seval])
theorem Eb (nir_checker_types_1:T 68=none) (nir_checker_call:T 70=none) (hstrings_Contains:T 63=some P0) (hir_wide:T 69=some Cl) (hP:PEok ⟨A0,T,A4⟩):TC A0 53 J7:=D1 hP fun p h=>An nir_checker_types_1 nir_checker_call hstrings_Contains hir_wide h
end
end Go.Proofs.AmEnv
set_option maxRecDepth 100000
namespace Go.Proofs.AmEnv
open Go Go.AM
variable {T:Nat->Option (List AV->Option (List AV))}
section
variable {m:Modl} {c:Cod} {x:Ins} {fr:PF} {i:Nat} {tch:List Nat}
def M5 (m:Modl) (c:Cod) (x:Ins):Int:=if Co x=true then (if E3 m c x=true then (if x.op=9 then (if (x.args.length:Int)=(codI m.fs x.n).ps then (if j9 m c x=true then 0 else 6) else 7) else (if j9 m c x=true then 0 else 6)) else 11) else 2
set_option maxHeartbeats 8000000 in
theorem Ao (hir_form:T 51=some Cp) (hir_checker_places:T 52=some H9) (hir_checker_types:T 53=some J7) {m:Modl} {c:Cod} {x:Ins} (hk:x.ok∧x.s.length≤bigN):AM.Comes ⟨A0,T,A4⟩ 34 [chkF m c,x.F] [.int .i64 (M5 m c x)]:=by
 refine ⟨[.int .i64 (M5 m c x)],⟨[],0,[]⟩,?_,back_of rfl List.nodup_nil rfl rfl rfl⟩
 rw [A7 (c:=HG) (nt:=37) (rs:=[.tmp 4]) rfl (by simp)]; unfold HG
 unfold K0
 obtain ⟨hx,hs⟩:=hk
 have tf:=fun K=>nO (K:=K) hir_form hs
 have tp:=fun K=>Fm (K:=K) (m:=m) (c:=c) hir_checker_places hx
 unfold M5
 cases hf:Co x with
 | false =>
  rw [hf] at tf
  simp only [Ins.F,chkF] at tf ⊢
  simp -implicitDefEqProofs only [tf,XP,seval]
 | true =>
  rw [hf] at tf
  cases hp:E3 m c x with
  | false =>
   rw [hp] at tp
   simp only [Ins.F,chkF] at tf tp ⊢
   simp -implicitDefEqProofs only [tf,tp,XP,seval]
  | true =>
   rw [hp] at tp
   by_cases e9:x.op=9
   . obtain ⟨hfn,hps⟩:=nQ hp e9
     obtain ⟨k,hkn,hkl⟩:=F8 hfn
     have hi:=Hp (show k < m.fs.length by omega)
     rw [← hkn] at hi
     have hix:Si Bd (fslN (m.fs.map Cod.F)) (.int .i64 x.n)=some (.fptr (codI m.fs x.n).F 0):=by
      rw [hkn] at hi ⊢; exact ix_fslN hi rfl
     by_cases hq:(x.args.length:Int)=(codI m.fs x.n).ps
     . have tt:=fun K=>r8 (K:=K) (m:=m) (c:=c) hir_checker_types ⟨hx,hs,hp,fun _=>hq⟩
       cases ht:j9 m c x with
       | true=>rw [ht] at tt; simp only [Ins.F,chkF,Cod.F] at tf tp tt hix ⊢; simp -implicitDefEqProofs only [tf,tp,tt,hix,eq_true e9,eq_true hq,List.length_map,XP,seval]
       | false=>rw [ht] at tt; simp only [Ins.F,chkF,Cod.F] at tf tp tt hix ⊢; simp -implicitDefEqProofs only [tf,tp,tt,hix,eq_true e9,eq_true hq,List.length_map,XP,seval]
     . simp only [Ins.F,chkF,Cod.F] at tf tp hix ⊢; simp -implicitDefEqProofs only [tf,tp,hix,eq_true e9,eq_false hq,List.length_map,XP,seval]
   . have tt:=fun K=>r8 (K:=K) (m:=m) (c:=c) hir_checker_types ⟨hx,hs,hp,fun h=>absurd h e9⟩
     cases ht:j9 m c x with
     | true=>rw [ht] at tt; simp only [Ins.F,chkF] at tf tp tt ⊢; simp -implicitDefEqProofs only [tf,tp,tt,eq_false e9,XP,seval]
     | false=>rw [ht] at tt; simp only [Ins.F,chkF] at tf tp tt ⊢; simp -implicitDefEqProofs only [tf,tp,tt,eq_false e9,XP,seval]
def B8:=u5 (fun p:(Modl) × (Cod) × (Ins)=>[chkF p.1 p.2.1,p.2.2.F]) (fun p=>[.int .i64 (M5 p.1 p.2.1 p.2.2)]) (fun p=>p.2.2.ok∧p.2.2.s.length≤bigN)
theorem r9 (hir_checker_instr:T 34=some B8) {m:Modl} {c:Cod} {x:Ins} {K:PK} (hk:x.ok∧x.s.length≤bigN):evP ⟨A0,T,A4⟩ (.call 34 [chkF m c,x.F] K)=some (.val (openTs K.os.length [.int .i64 (M5 m c x)]).1 ⟨K.os ++ (openTs K.os.length [.int .i64 (M5 m c x)]).2,K.ext,K.tch⟩):=C0 hir_checker_instr (by simp -implicitDefEqProofs only [VV,XP,seval]) (C1 (a:=fun p:(Modl) × (Cod) × (Ins)=>[chkF p.1 p.2.1,p.2.2.F]) (r:=fun p=>[.int .i64 (M5 p.1 p.2.1 p.2.2)]) (fun x y e=>by simp only [VJ] at e; simp only [e]) (m,c,x) hk) (by simp -implicitDefEqProofs only [VN,XP,seval])
theorem Ec (hir_form:T 51=some Cp) (hir_checker_places:T 52=some H9) (hir_checker_types:T 53=some J7) (hP:PEok ⟨A0,T,A4⟩):TC A0 34 B8:=D1 hP fun p h=>Ao hir_form hir_checker_places hir_checker_types h
def Po (c:Cod) (e:Endd):Int :=
 if e.kind=1 then (if thereD e.to c.blocks.length=true then 0 else 11)
 else if e.kind=2 then (if thereD e.to c.blocks.length=true then (if thereD e.els c.blocks.length=true then (if thereD e.a c.regs.length=true then (if u7 c.regs e.a=1 then 0 else 6) else 11) else 11) else 11)
 else if e.kind=3 then (if e.a < 0 then (if c.ty=0 then 0 else 6) else (if thereD e.a c.regs.length=true then (if c.ty=0 then 6 else if u7 c.regs e.a=c.ty then 0 else 6) else 11)) else 2
set_option maxHeartbeats 8000000 in
theorem Cs (hir_there:T 54=some C6) {m:Modl} {c:Cod} {e:Endd}:AM.Comes ⟨A0,T,A4⟩ 35 [chkF m c,e.F] [.int .i64 (Po c e)]:=by
 refine ⟨[.int .i64 (Po c e)],⟨[],0,[]⟩,?_,back_of rfl List.nodup_nil rfl rfl rfl⟩
 rw [A7 (c:=HH) (nt:=100) (rs:=[.tmp 4]) rfl (by simp)]; unfold HH
 unfold K0
 have tt:=fun a n K=>N0 (K:=K) (a:=a) (n:=n) hir_there
 have eb:=fS 4 rfl
 have rix:∀ k:Nat,e.a=k->k < c.regs.length->Si ty3 (fslN (ints c.regs)) (.int .i64 e.a)=some (.fptr (.int .i64 (u7 c.regs e.a)) 0):=fun k hk hl=>by
  rw [hk]; exact ix_fslN (Ho hl) rfl
 have b1:(true == true)=true:=rfl
 have b2:(true == false)=false:=rfl
 have b3:(false == true)=false:=rfl
 have b4:(false == false)=true:=rfl
 unfold Po
 simp only [Endd.F,chkF]
 by_cases e1:e.kind=1
 . cases h1:thereD e.to c.blocks.length with
   | true=>simp -implicitDefEqProofs only [tt,h1,eq_true e1,List.length_map,XP,seval]
   | false=>simp -implicitDefEqProofs only [tt,h1,eq_true e1,List.length_map,XP,seval]
 by_cases e2:e.kind=2
 . cases h1:thereD e.to c.blocks.length with
   | false=>simp -implicitDefEqProofs only [tt,h1,eq_false e1,eq_true e2,List.length_map,XP,seval]
   | true =>
    cases h2:thereD e.els c.blocks.length with
    | false=>simp -implicitDefEqProofs only [tt,h1,h2,eq_false e1,eq_true e2,List.length_map,XP,seval]
    | true =>
     cases h3:thereD e.a c.regs.length with
     | false=>simp -implicitDefEqProofs only [tt,h1,h2,h3,eq_false e1,eq_true e2,List.length_map,XP,seval]
     | true =>
      obtain ⟨k,hk,hl⟩:=F8 h3
      have hix:=rix k hk (by omega)
      by_cases hq:u7 c.regs e.a=1
      . simp -implicitDefEqProofs only [tt,h1,h2,h3,hix,eq_true hq,eq_false e1,eq_true e2,List.length_map,XP,seval]
      . simp -implicitDefEqProofs only [tt,h1,h2,h3,hix,eq_false hq,eq_false e1,eq_true e2,List.length_map,XP,seval]
 by_cases e3:e.kind=3
 . by_cases ha:e.a < 0
   . by_cases hv:c.ty=0
     . simp -implicitDefEqProofs only [tt,eb,b1,b2,b3,b4,eq_true ha,eq_true hv,eq_false e1,eq_false e2,eq_true e3,List.length_map,XP,seval]
     . simp -implicitDefEqProofs only [tt,eb,b1,b2,b3,b4,eq_true ha,eq_false hv,eq_false e1,eq_false e2,eq_true e3,List.length_map,XP,seval]
   . cases h3:thereD e.a c.regs.length with
     | false=>simp -implicitDefEqProofs only [tt,h3,eq_false ha,eq_false e1,eq_false e2,eq_true e3,List.length_map,XP,seval]
     | true =>
      obtain ⟨k,hk,hl⟩:=F8 h3
      have hix:=rix k hk (by omega)
      by_cases hv:c.ty=0
      . simp -implicitDefEqProofs only [tt,h3,eb,b1,b2,b3,b4,eq_false ha,eq_true hv,eq_false e1,eq_false e2,eq_true e3,List.length_map,XP,seval]
      . by_cases hq:u7 c.regs e.a=c.ty
        . simp -implicitDefEqProofs only [tt,h3,hix,eb,b1,b2,b3,b4,eq_false ha,eq_false hv,eq_true hq,eq_false e1,eq_false e2,eq_true e3,List.length_map,XP,seval]
        . simp -implicitDefEqProofs only [tt,h3,hix,eb,b1,b2,b3,b4,eq_false ha,eq_false hv,eq_false hq,eq_false e1,eq_false e2,eq_true e3,List.length_map,XP,seval]
 . simp -implicitDefEqProofs only [eq_false e1,eq_false e2,eq_false e3,List.length_map,XP,seval]
def G8:=u5 (fun p:(Modl) × (Cod) × (Endd)=>[chkF p.1 p.2.1,p.2.2.F]) (fun p=>[.int .i64 (Po p.2.1 p.2.2)]) (fun p=>True)
theorem Az (hir_checker_end:T 35=some G8) {m:Modl} {c:Cod} {e:Endd} {K:PK}:evP ⟨A0,T,A4⟩ (.call 35 [chkF m c,e.F] K)=some (.val (openTs K.os.length [.int .i64 (Po c e)]).1 ⟨K.os ++ (openTs K.os.length [.int .i64 (Po c e)]).2,K.ext,K.tch⟩):=C0 hir_checker_end (by simp -implicitDefEqProofs only [VV,XP,seval]) (C1 (a:=fun p:(Modl) × (Cod) × (Endd)=>[chkF p.1 p.2.1,p.2.2.F]) (r:=fun p=>[.int .i64 (Po p.2.1 p.2.2)]) (fun x y e=>by simp only [VJ] at e; simp only [e]) (m,c,e) trivial) (by simp -implicitDefEqProofs only [VN,XP,seval])
theorem Hr (hir_there:T 54=some C6) (hP:PEok ⟨A0,T,A4⟩):TC A0 35 G8:=D1 hP fun p h=>Cs hir_there
def J0:List Int->Int
 | []=>0
 | e :: l=>if e=0 then J0 l else e
theorem err_loop {P:PE} {c:PC} {X:Type} {f:X->Int} {l:List X} {S:Nat->PF} {K:PK} {x:Nat} {Q:PF->Prop} {R:Int->PF->PK->Prop}
 (h1:∀ i (h:i < l.length),f l[i]=0->evP P (.code c (S i) K)=some (.ok .normal (S (i + 1)) K))
 (h2:∀ i (h:i < l.length),¬ f l[i]=0->∃ fr' K',evP P (.code c (S i) K)=some (.ok .ret fr' K')∧R (f l[i]) fr' K')
 (hx:∃ fr',evP P (.code c (S l.length) K)=some (.ok (.exit x) fr' K)∧Q fr') :
 (J0 (l.map f)=0∧∃ fr',evP P (.code (.loop c) (S 0) K)=some (.ok (.exit x) fr' K)∧Q fr')∨(¬ J0 (l.map f)=0∧∃ fr' K',evP P (.code (.loop c) (S 0) K)=some (.ok .ret fr' K')∧R (J0 (l.map f)) fr' K'):=by
 have key:∀ (n i:Nat),l.length=i + n->(J0 ((l.drop i).map f)=0∧∃ fr',evP P (.code (.loop c) (S i) K)=some (.ok (.exit x) fr' K)∧Q fr')∨(¬ J0 ((l.drop i).map f)=0∧∃ fr' K',evP P (.code (.loop c) (S i) K)=some (.ok .ret fr' K')∧R (J0 ((l.drop i).map f)) fr' K'):=fun n=>by
  induction n with
  | zero =>
   intro i e
   obtain rfl:i=l.length:=by omega
   obtain ⟨fr',h,q⟩:=hx
   exact .inl ⟨by rw [List.drop_length]; rfl,fr',H6 h,q⟩
  | succ n ih =>
   intro i e
   have hl:i < l.length:=by omega
   rw [List.drop_eq_getElem_cons hl,List.map_cons]
   unfold J0
   by_cases hq:f l[i]=0
   . rw [G6 (h1 i hl hq),if_pos hq]
     exact ih (i + 1) (by omega)
   . obtain ⟨fr',K',q1,q2⟩:=h2 i hl hq
     rw [if_neg hq]
     exact .inr ⟨hq,fr',K',z6 q1,q2⟩
 exact key l.length 0 (by omega)
end
end Go.Proofs.AmEnv
set_option maxRecDepth 100000
namespace Go.Proofs.AmEnv
open Go Go.AM
variable {T:Nat->Option (List AV->Option (List AV))}
def Ins.sok (x:Ins):Prop:=x.ok∧x.s.length≤bigN
def Blk.sok (b:Blk):Prop:=b.ok∧∀ x∈b.code,x.sok
def Cod.sok (c:Cod):Prop:=c.ok∧∀ b∈c.blocks,b.sok
def Modl.ok (m:Modl):Prop:=(∀ c∈m.fs,c.sok)∧m.fs.length * 64≤bigN∧m.gs.length * 40≤bigN
section
variable {m:Modl} {c:Cod} {x:Ins} {b:Blk} {fr:PF} {i k:Nat} {tch:List Nat}
def Sc (m:Modl) (c:Cod) (b:Blk):Int:=if J0 (b.code.map (M5 m c))=0 then Po c b.e else J0 (b.code.map (M5 m c))
def Y7 (m:Modl) (c:Cod):Int :=
 if c.blocks.length < 1∨400 < c.blocks.length∨4096 < c.regs.length then 9 else if c.ps < 0∨(c.regs.length:Int) < c.ps then 11
 else if c.ty < 0∨2 < c.ty∨(c.regs.any fun n=>!E7 n)=true then 6 else J0 (c.blocks.map (Sc m c))
theorem CT (hT:T 34=some B8) (h:k < b.code.length) (hs:b.sok) (hp:M5 m c b.code[k]=0) :
 evP ⟨A0,T,A4⟩ (.code Ej [(1,.ptr 0 0 0),(5,.ptr 1 0 0),(56,fslN (c.blocks.map Blk.F)),(57,.int .i64 (c.blocks.length:Int)),(58,.int .i64 (i:Int)),(63,fslN (b.code.map Ins.F)),(64,.int .i64 (b.code.length:Int)),(65,.int .i64 (k:Int))] ⟨[.row 1 [chkF m c] 7,.row 1 [b.F] 5],0,[]⟩)=some (.ok .normal [(1,.ptr 0 0 0),(5,.ptr 1 0 0),(56,fslN (c.blocks.map Blk.F)),(57,.int .i64 (c.blocks.length:Int)),(58,.int .i64 (i:Int)),(63,fslN (b.code.map Ins.F)),(64,.int .i64 (b.code.length:Int)),(65,.int .i64 ((k + 1:Nat):Int))] ⟨[.row 1 [chkF m c] 7,.row 1 [b.F] 5],0,[]⟩):=by
 unfold Ej
 have hlt:decide ((k:Int) < (b.code.length:Int))=true:=by simp [h]
 have hw:=C8 (i:=k) (by have:=hs.1.2; simp only [bigN] at this; omega)
 have t:=fun K=>r9 (K:=K) (m:=m) (c:=c) (x:=b.code[k]) hT (hs.2 _ (List.getElem_mem h))
 rw [hp] at t
 have hi:=B4 (F:=Ins.F) h
 simp only [Ins.F,chkF,Blk.F] at t hi ⊢
 simp -implicitDefEqProofs only [hlt,hi,hw,t,XP,seval]
theorem CU (hT:T 34=some B8) (h:k < b.code.length) (hs:b.sok) (hp:¬ M5 m c b.code[k]=0) :
 evP ⟨A0,T,A4⟩ (.code Ej [(1,.ptr 0 0 0),(5,.ptr 1 0 0),(56,fslN (c.blocks.map Blk.F)),(57,.int .i64 (c.blocks.length:Int)),(58,.int .i64 (i:Int)),(63,fslN (b.code.map Ins.F)),(64,.int .i64 (b.code.length:Int)),(65,.int .i64 (k:Int))] ⟨[.row 1 [chkF m c] 7,.row 1 [b.F] 5],0,[]⟩)=some (.ok .ret [(2,.int .i64 (M5 m c b.code[k]))] ⟨[],0,[]⟩):=by
 unfold Ej
 have hlt:decide ((k:Int) < (b.code.length:Int))=true:=by simp [h]
 have t:=fun K=>r9 (K:=K) (m:=m) (c:=c) (x:=b.code[k]) hT (hs.2 _ (List.getElem_mem h))
 have hi:=B4 (F:=Ins.F) h
 simp only [Ins.F,chkF,Blk.F] at t hi ⊢
 simp -implicitDefEqProofs only [hlt,hi,t,eq_false hp,XP,seval]
theorem CV:∃ fr',evP ⟨A0,T,A4⟩ (.code Ej [(1,.ptr 0 0 0),(5,.ptr 1 0 0),(56,fslN (c.blocks.map Blk.F)),(57,.int .i64 (c.blocks.length:Int)),(58,.int .i64 (i:Int)),(63,fslN (b.code.map Ins.F)),(64,.int .i64 (b.code.length:Int)),(65,.int .i64 (b.code.length:Int))] ⟨[.row 1 [chkF m c] 7,.row 1 [b.F] 5],0,[]⟩)=some (.ok (.exit 3) fr' ⟨[.row 1 [chkF m c] 7,.row 1 [b.F] 5],0,[]⟩)∧(lookP fr' 1=.ptr 0 0 0∧lookP fr' 5=.ptr 1 0 0∧lookP fr' 56=fslN (c.blocks.map Blk.F)∧lookP fr' 57=.int .i64 (c.blocks.length:Int)∧lookP fr' 58=.int .i64 (i:Int)):=by
 unfold Ej
 have hlt:decide ((b.code.length:Int) < (b.code.length:Int))=false:=by simp
 simp -implicitDefEqProofs only [hlt,XP,seval]
 exact ⟨_,rfl,rfl,rfl,rfl,rfl,rfl⟩
theorem cdi_l (hT:T 34=some B8) (hs:b.sok) :
 (J0 (b.code.map (M5 m c))=0∧∃ fr',evP ⟨A0,T,A4⟩ (.code (.loop Ej) [(1,.ptr 0 0 0),(5,.ptr 1 0 0),(56,fslN (c.blocks.map Blk.F)),(57,.int .i64 (c.blocks.length:Int)),(58,.int .i64 (i:Int)),(63,fslN (b.code.map Ins.F)),(64,.int .i64 (b.code.length:Int)),(65,.int .i64 0)] ⟨[.row 1 [chkF m c] 7,.row 1 [b.F] 5],0,[]⟩)=some (.ok (.exit 3) fr' ⟨[.row 1 [chkF m c] 7,.row 1 [b.F] 5],0,[]⟩)∧(lookP fr' 1=.ptr 0 0 0∧lookP fr' 5=.ptr 1 0 0∧lookP fr' 56=fslN (c.blocks.map Blk.F)∧lookP fr' 57=.int .i64 (c.blocks.length:Int)∧lookP fr' 58=.int .i64 (i:Int))) ∨
 (¬ J0 (b.code.map (M5 m c))=0∧evP ⟨A0,T,A4⟩ (.code (.loop Ej) [(1,.ptr 0 0 0),(5,.ptr 1 0 0),(56,fslN (c.blocks.map Blk.F)),(57,.int .i64 (c.blocks.length:Int)),(58,.int .i64 (i:Int)),(63,fslN (b.code.map Ins.F)),(64,.int .i64 (b.code.length:Int)),(65,.int .i64 0)] ⟨[.row 1 [chkF m c] 7,.row 1 [b.F] 5],0,[]⟩)=some (.ok .ret [(2,.int .i64 (J0 (b.code.map (M5 m c))))] ⟨[],0,[]⟩)):=by
 rcases err_loop (P:=⟨A0,T,A4⟩) (c:=Ej) (f:=M5 m c) (l:=b.code) (S:=fun k=>[(1,.ptr 0 0 0),(5,.ptr 1 0 0),(56,fslN (c.blocks.map Blk.F)),(57,.int .i64 (c.blocks.length:Int)),(58,.int .i64 (i:Int)),(63,fslN (b.code.map Ins.F)),(64,.int .i64 (b.code.length:Int)),(65,.int .i64 (k:Int))]) (K:=⟨[.row 1 [chkF m c] 7,.row 1 [b.F] 5],0,[]⟩) (Q:=fun fr'=>lookP fr' 1=.ptr 0 0 0∧lookP fr' 5=.ptr 1 0 0∧lookP fr' 56=fslN (c.blocks.map Blk.F)∧lookP fr' 57=.int .i64 (c.blocks.length:Int)∧lookP fr' 58=.int .i64 (i:Int)) (R:=fun e fr' K'=>fr'=[(2,.int .i64 e)]∧K'=⟨[],0,[]⟩)
  (fun k h hp=>CT hT h hs hp) (fun k h hp=>⟨_,_,CU hT h hs hp,rfl,rfl⟩) CV with h | ⟨h,fr',K',q,rfl,rfl⟩
 . exact .inl h
 . exact .inr ⟨h,q⟩
theorem CW (hT:T 34=some B8) (hE:T 35=some G8) (h:i < c.blocks.length) (hs:c.sok) (hp:Sc m c c.blocks[i]=0) :
 evP ⟨A0,T,A4⟩ (.code Cj [(1,.ptr 0 0 0),(56,fslN (c.blocks.map Blk.F)),(57,.int .i64 (c.blocks.length:Int)),(58,.int .i64 (i:Int))] ⟨[.row 1 [chkF m c] 7],0,[]⟩)=some (.ok .normal [(1,.ptr 0 0 0),(56,fslN (c.blocks.map Blk.F)),(57,.int .i64 (c.blocks.length:Int)),(58,.int .i64 ((i + 1:Nat):Int))] ⟨[.row 1 [chkF m c] 7],0,[]⟩):=by
 have hb:=hs.2 _ (List.getElem_mem h)
 have hlt:decide ((i:Int) < (c.blocks.length:Int))=true:=by simp [h]
 have hw:=C8 (i:=i) (by have:=hs.1.2.2; simp only [bigN] at this; omega)
 have hi:=B4 (F:=Blk.F) h
 have t:=fun K=>Az (K:=K) (m:=m) (c:=c) (e:=c.blocks[i].e) hE
 unfold Sc at hp
 rcases cdi_l (m:=m) (c:=c) (i:=i) hT hb with ⟨q,fr',h1,h2,h3,h4,h5,h6⟩ | ⟨q,h1⟩
 . rw [if_pos q] at hp
   rw [hp] at t
   unfold Cj
   simp only [chkF,Blk.F,Endd.F] at h1 hi t ⊢
   simp -implicitDefEqProofs only [hlt,hi,hw,h1,h2,h3,h4,h5,h6,t,List.length_map,XP,seval]
 . rw [if_neg q] at hp; exact absurd hp q
theorem CX (hT:T 34=some B8) (hE:T 35=some G8) (h:i < c.blocks.length) (hs:c.sok) (hp:¬ Sc m c c.blocks[i]=0) :
 evP ⟨A0,T,A4⟩ (.code Cj [(1,.ptr 0 0 0),(56,fslN (c.blocks.map Blk.F)),(57,.int .i64 (c.blocks.length:Int)),(58,.int .i64 (i:Int))] ⟨[.row 1 [chkF m c] 7],0,[]⟩)=some (.ok .ret [(2,.int .i64 (Sc m c c.blocks[i]))] ⟨[],0,[]⟩):=by
 have hb:=hs.2 _ (List.getElem_mem h)
 have hlt:decide ((i:Int) < (c.blocks.length:Int))=true:=by simp [h]
 have hi:=B4 (F:=Blk.F) h
 have t:=fun K=>Az (K:=K) (m:=m) (c:=c) (e:=c.blocks[i].e) hE
 unfold Sc at hp ⊢
 rcases cdi_l (m:=m) (c:=c) (i:=i) hT hb with ⟨q,fr',h1,h2,h3,h4,h5,h6⟩ | ⟨q,h1⟩
 . rw [if_pos q] at hp ⊢
   unfold Cj
   simp only [chkF,Blk.F,Endd.F] at h1 hi t ⊢
   simp -implicitDefEqProofs only [hlt,hi,h1,h2,h3,h4,h5,h6,t,eq_false hp,List.length_map,XP,seval]
 . rw [if_neg q]
   unfold Cj
   simp only [chkF,Blk.F] at h1 hi ⊢
   simp -implicitDefEqProofs only [hlt,hi,h1,List.length_map,XP,seval]
theorem CY:∃ fr',evP ⟨A0,T,A4⟩ (.code Cj [(1,.ptr 0 0 0),(56,fslN (c.blocks.map Blk.F)),(57,.int .i64 (c.blocks.length:Int)),(58,.int .i64 (c.blocks.length:Int))] ⟨[.row 1 [chkF m c] 7],0,[]⟩)=some (.ok (.exit 1) fr' ⟨[.row 1 [chkF m c] 7],0,[]⟩)∧True:=by
 unfold Cj
 have hlt:decide ((c.blocks.length:Int) < (c.blocks.length:Int))=false:=by simp
 simp -implicitDefEqProofs only [hlt,XP,seval]
 exact ⟨_,rfl⟩
set_option maxHeartbeats 8000000 in
theorem Be (hir_checker_instr:T 34=some B8) (hir_checker_end:T 35=some G8) (hir_checker_code_1:T 33=some B9) (nIdxFInts:T 50=none) (nContFInts:T 32=none) {m:Modl} {c:Cod} (hk:c.sok):AM.Comes ⟨A0,T,A4⟩ 20 [chkF m c] [.int .i64 (Y7 m c)]:=by
 refine ⟨[.int .i64 (Y7 m c)],⟨[],0,[]⟩,?_,back_of rfl List.nodup_nil rfl rfl rfl⟩
 rw [A7 (c:=HB) (nt:=84) (rs:=[.tmp 2]) rfl (by simp)]; unfold HB
 unfold K0
 have hl:c.regs.length≤bigN:=by have:=hk.1.1; simp only [bigN] at this ⊢; omega
 have tc:=fun K=>Ph (l:=c.regs) hir_checker_code_1 nIdxFInts nContFInts hl K
 have lp:=err_loop (P:=⟨A0,T,A4⟩) (c:=Cj) (f:=Sc m c) (l:=c.blocks) (S:=fun i=>[(1,.ptr 0 0 0),(56,fslN (c.blocks.map Blk.F)),(57,.int .i64 (c.blocks.length:Int)),(58,.int .i64 (i:Int))]) (K:=⟨[.row 1 [chkF m c] 7],0,[]⟩) (Q:=fun fr'=>True) (R:=fun e fr' K'=>fr'=[(2,.int .i64 e)]∧K'=⟨[],0,[]⟩)
  (fun k h hp=>CW hir_checker_instr hir_checker_end h hk hp) (fun k h hp=>⟨_,_,CX hir_checker_instr hir_checker_end h hk hp,rfl,rfl⟩) CY
 unfold Y7
 simp only [chkF] at tc lp ⊢
 have q400:decide ((400:Int) < (c.blocks.length:Int))=decide (400 < c.blocks.length):=decide_eq_decide.2 (by omega)
 have q4096:decide ((4096:Int) < (c.regs.length:Int))=decide (4096 < c.regs.length):=decide_eq_decide.2 (by omega)
 have q1':decide ((c.blocks.length:Int) < 1)=decide (c.blocks.length < 1):=decide_eq_decide.2 (by omega)
 by_cases q1:c.blocks.length < 1
 . simp -implicitDefEqProofs only [eq_true q1,q1',q400,q4096,List.length_map,XP,seval]
 by_cases q2:400 < c.blocks.length
 . simp -implicitDefEqProofs only [eq_false q1,eq_true q2,q1',q400,q4096,List.length_map,XP,seval]
 by_cases q3:4096 < c.regs.length
 . simp -implicitDefEqProofs only [eq_false q1,eq_false q2,eq_true q3,q1',q400,q4096,List.length_map,XP,seval]
 by_cases q4:c.ps < 0
 . simp -implicitDefEqProofs only [eq_false q1,eq_false q2,eq_false q3,eq_true q4,q1',q400,q4096,List.length_map,XP,seval]
 by_cases q5:(c.regs.length:Int) < c.ps
 . simp -implicitDefEqProofs only [eq_false q1,eq_false q2,eq_false q3,eq_false q4,eq_true q5,q1',q400,q4096,List.length_map,XP,seval]
 by_cases q6:c.ty < 0
 . simp -implicitDefEqProofs only [eq_false q1,eq_false q2,eq_false q3,eq_false q4,eq_false q5,eq_true q6,q1',q400,q4096,List.length_map,XP,seval]
 by_cases q7:2 < c.ty
 . simp -implicitDefEqProofs only [eq_false q1,eq_false q2,eq_false q3,eq_false q4,eq_false q5,eq_false q6,eq_true q7,q1',q400,q4096,List.length_map,XP,seval]
 cases q8:(c.regs.any fun n=>!E7 n) with
 | true=>simp -implicitDefEqProofs only [eq_false q1,eq_false q2,eq_false q3,eq_false q4,eq_false q5,eq_false q6,eq_false q7,tc,q8,q1',q400,q4096,List.length_map,XP,seval]
 | false =>
  rcases lp with ⟨q,fr',h1,_⟩ | ⟨q,fr',K',h1,rfl,rfl⟩
  . have h1:evP ⟨A0,T,A4⟩ (.code (.loop Cj) [(1,.ptr 0 0 0),(56,fslN (c.blocks.map Blk.F)),(57,.int .i64 (c.blocks.length:Int)),(58,.int .i64 0)] _)=_:=h1
    simp -implicitDefEqProofs only [eq_false q1,eq_false q2,eq_false q3,eq_false q4,eq_false q5,eq_false q6,eq_false q7,tc,q8,q,h1,q1',q400,q4096,List.length_map,XP,seval]
  . have h1:evP ⟨A0,T,A4⟩ (.code (.loop Cj) [(1,.ptr 0 0 0),(56,fslN (c.blocks.map Blk.F)),(57,.int .i64 (c.blocks.length:Int)),(58,.int .i64 0)] _)=_:=h1
    simp -implicitDefEqProofs only [eq_false q1,eq_false q2,eq_false q3,eq_false q4,eq_false q5,eq_false q6,eq_false q7,tc,q8,h1,q1',q400,q4096,List.length_map,XP,seval]
def F9:=u5 (fun p:(Modl) × (Cod)=>[chkF p.1 p.2]) (fun p=>[.int .i64 (Y7 p.1 p.2)]) (fun p=>p.2.sok)
theorem w8 (hir_checker_code:T 20=some F9) {m:Modl} {c:Cod} {K:PK} (hk:c.sok):evP ⟨A0,T,A4⟩ (.call 20 [chkF m c] K)=some (.val (openTs K.os.length [.int .i64 (Y7 m c)]).1 ⟨K.os ++ (openTs K.os.length [.int .i64 (Y7 m c)]).2,K.ext,K.tch⟩):=C0 hir_checker_code (by simp -implicitDefEqProofs only [VV,XP,seval]) (C1 (a:=fun p:(Modl) × (Cod)=>[chkF p.1 p.2]) (r:=fun p=>[.int .i64 (Y7 p.1 p.2)]) (fun x y e=>by simp only [VJ] at e; simp only [e]) (m,c) hk) (by simp -implicitDefEqProofs only [VN,XP,seval])
theorem Fo (hir_checker_instr:T 34=some B8) (hir_checker_end:T 35=some G8) (hir_checker_code_1:T 33=some B9) (nIdxFInts:T 50=none) (nContFInts:T 32=none) (hP:PEok ⟨A0,T,A4⟩):TC A0 20 F9:=D1 hP fun p h=>Be hir_checker_instr hir_checker_end hir_checker_code_1 nIdxFInts nContFInts h
end
end Go.Proofs.AmEnv
set_option maxRecDepth 100000
namespace Go.Proofs.AmEnv
open Go Go.AM
variable {T:Nat->Option (List AV->Option (List AV))}
section
variable {m:Modl} {c:Cod} {g:Glo} {i k:Nat}
def Wq (g:Glo):Int:=if E7 g.ty=true then 0 else if g.ty=3 then (if g.size < 1 then 6 else 0) else 6
def Ba (m:Modl):Int:=idxOf (fun c:Cod=>decide (c.name=E6)) m.fs
def fU (m:Modl):Int:=if Ba m < 0 then 12 else if (codI m.fs (Ba m)).ty=1 then (if (codI m.fs (Ba m)).ps=0 then 0 else 12) else 12
def O5 (m:Modl):Int:=if J0 (m.gs.map Wq)=0 then (if J0 (m.fs.map (Y7 m))=0 then fU m else J0 (m.fs.map (Y7 m))) else J0 (m.gs.map Wq)
theorem CZ (hT:T 19=some M4) (h:i < m.gs.length) (hs:m.gs.length≤bigN) (hp:Wq m.gs[i]=0) :
 evP ⟨A0,T,A4⟩ (.code Ru [(1,.ptr 0 0 0),(10,fslN (m.gs.map Glo.F)),(11,.int .i64 (m.gs.length:Int)),(12,.int .i64 (i:Int))] ⟨[.row 1 [m.F] 2],0,[]⟩)=some (.ok .normal [(1,.ptr 0 0 0),(10,fslN (m.gs.map Glo.F)),(11,.int .i64 (m.gs.length:Int)),(12,.int .i64 ((i + 1:Nat):Int))] ⟨[.row 1 [m.F] 2],0,[]⟩):=by
 unfold Ru
 have hlt:decide ((i:Int) < (m.gs.length:Int))=true:=by simp [h]
 have hw:=C8 (i:=i) (by simp only [bigN] at hs; omega)
 have t:=fun K=>Fj (K:=K) (n:=m.gs[i].ty) hT
 have hi:=B4 (F:=Glo.F) h
 unfold Wq at hp
 simp only [Glo.F,Modl.F] at t hi ⊢
 cases q:E7 m.gs[i].ty with
 | true=>rw [q] at t; simp -implicitDefEqProofs only [hlt,hi,hw,t,XP,seval]
 | false =>
  rw [q] at t hp
  by_cases q3:m.gs[i].ty=3
  . by_cases q4:m.gs[i].size < 1
    . rw [if_neg (by decide),if_pos q3,if_pos q4] at hp; cases hp
    . simp -implicitDefEqProofs only [hlt,hi,hw,t,eq_true q3,eq_false q4,XP,seval]
  . rw [if_neg (by decide),if_neg q3] at hp; cases hp
theorem DA (hT:T 19=some M4) (h:i < m.gs.length) (hp:¬ Wq m.gs[i]=0) :
 evP ⟨A0,T,A4⟩ (.code Ru [(1,.ptr 0 0 0),(10,fslN (m.gs.map Glo.F)),(11,.int .i64 (m.gs.length:Int)),(12,.int .i64 (i:Int))] ⟨[.row 1 [m.F] 2],0,[]⟩)=some (.ok .ret [(2,.int .i64 (Wq m.gs[i]))] ⟨[],0,[]⟩):=by
 unfold Ru
 have hlt:decide ((i:Int) < (m.gs.length:Int))=true:=by simp [h]
 have t:=fun K=>Fj (K:=K) (n:=m.gs[i].ty) hT
 have hi:=B4 (F:=Glo.F) h
 unfold Wq at hp ⊢
 simp only [Glo.F,Modl.F] at t hi ⊢
 cases q:E7 m.gs[i].ty with
 | true=>rw [q] at hp; exact absurd rfl hp
 | false =>
  rw [q] at t hp
  by_cases q3:m.gs[i].ty=3
  . by_cases q4:m.gs[i].size < 1
    . simp -implicitDefEqProofs only [hlt,hi,t,eq_true q3,eq_true q4,XP,seval]
    . rw [if_neg (by decide),if_pos q3,if_neg q4] at hp; exact absurd rfl hp
  . simp -implicitDefEqProofs only [hlt,hi,t,eq_false q3,XP,seval]
theorem DB:∃ fr',evP ⟨A0,T,A4⟩ (.code Ru [(1,.ptr 0 0 0),(10,fslN (m.gs.map Glo.F)),(11,.int .i64 (m.gs.length:Int)),(12,.int .i64 (m.gs.length:Int))] ⟨[.row 1 [m.F] 2],0,[]⟩)=some (.ok (.exit 0) fr' ⟨[.row 1 [m.F] 2],0,[]⟩)∧lookP fr' 1=.ptr 0 0 0:=by
 unfold Ru
 have hlt:decide ((m.gs.length:Int) < (m.gs.length:Int))=false:=by simp
 simp -implicitDefEqProofs only [hlt,XP,seval]
 exact ⟨_,rfl,rfl⟩
theorem DC (hT:T 20=some F9) (h:i < m.fs.length) (hs:m.ok) (hp:Y7 m m.fs[i]=0) :
 evP ⟨A0,T,A4⟩ (.code Rv [(1,.ptr 0 0 0),(32,fslN (m.fs.map Cod.F)),(33,.int .i64 (m.fs.length:Int)),(34,.int .i64 (i:Int))] ⟨[.row 1 [m.F] 2],0,[]⟩)=some (.ok .normal [(1,.ptr 0 0 0),(32,fslN (m.fs.map Cod.F)),(33,.int .i64 (m.fs.length:Int)),(34,.int .i64 ((i + 1:Nat):Int))] ⟨[.row 1 [m.F] 2],0,[]⟩):=by
 unfold Rv
 have hlt:decide ((i:Int) < (m.fs.length:Int))=true:=by simp [h]
 have hw:=C8 (i:=i) (by have:=hs.2.1; simp only [bigN] at this; omega)
 have t:=fun K=>w8 (K:=K) (m:=m) (c:=m.fs[i]) hT (hs.1 _ (List.getElem_mem h))
 rw [hp] at t
 have hi:=B4 (F:=Cod.F) h
 simp only [Cod.F,Modl.F,chkF] at t hi ⊢
 simp -implicitDefEqProofs only [hlt,hi,hw,t,XP,seval]
theorem DD (hT:T 20=some F9) (h:i < m.fs.length) (hs:m.ok) (hp:¬ Y7 m m.fs[i]=0) :
 evP ⟨A0,T,A4⟩ (.code Rv [(1,.ptr 0 0 0),(32,fslN (m.fs.map Cod.F)),(33,.int .i64 (m.fs.length:Int)),(34,.int .i64 (i:Int))] ⟨[.row 1 [m.F] 2],0,[]⟩)=some (.ok .ret [(2,.int .i64 (Y7 m m.fs[i]))] ⟨[],0,[]⟩):=by
 unfold Rv
 have hlt:decide ((i:Int) < (m.fs.length:Int))=true:=by simp [h]
 have t:=fun K=>w8 (K:=K) (m:=m) (c:=m.fs[i]) hT (hs.1 _ (List.getElem_mem h))
 have hi:=B4 (F:=Cod.F) h
 simp only [Cod.F,Modl.F,chkF] at t hi ⊢
 simp -implicitDefEqProofs only [hlt,hi,t,eq_false hp,XP,seval]
theorem DF:∃ fr',evP ⟨A0,T,A4⟩ (.code Rv [(1,.ptr 0 0 0),(32,fslN (m.fs.map Cod.F)),(33,.int .i64 (m.fs.length:Int)),(34,.int .i64 (m.fs.length:Int))] ⟨[.row 1 [m.F] 2],0,[]⟩)=some (.ok (.exit 2) fr' ⟨[.row 1 [m.F] 2],0,[]⟩)∧lookP fr' 1=.ptr 0 0 0:=by
 unfold Rv
 have hlt:decide ((m.fs.length:Int) < (m.fs.length:Int))=false:=by simp
 simp -implicitDefEqProofs only [hlt,XP,seval]
 exact ⟨_,rfl,rfl⟩
theorem nS {X:Type} {p:X->Bool} {l:List X} (h:¬ idxOf p l < 0):∃ k:Nat,idxOf p l=k∧∃ hk:k < l.length,p l[k]=true:=by
 unfold idxOf at h ⊢
 cases q:l.findIdx? p with
 | none=>rw [q] at h; exact absurd (by decide) h
 | some i =>
  rw [List.findIdx?_eq_some_iff_getElem] at q
  exact ⟨i,rfl,q.1,q.2.1⟩
set_option maxHeartbeats 8000000 in
theorem Pp (hir_number:T 19=some M4) (hir_checker_code:T 20=some F9) (hir_mainOf:T 21=some K5) {m:Modl} (hk:m.ok):AM.Comes ⟨A0,T,A4⟩ 7 [m.F] [.int .i64 (O5 m)]:=by
 refine ⟨[.int .i64 (O5 m)],⟨[],0,[]⟩,?_,back_of rfl List.nodup_nil rfl rfl rfl⟩
 rw [A7 (c:=p7) (nt:=68) (rs:=[.tmp 2]) rfl (by simp)]; unfold p7
 unfold K0
 have hgl:m.gs.length≤bigN:=by have:=hk.2.2; simp only [bigN] at this ⊢; omega
 have hfl:m.fs.length≤bigN:=by have:=hk.2.1; simp only [bigN] at this ⊢; omega
 have tm:=fun K=>Fk (K:=K) (m:=m) hir_mainOf hfl
 have tm:∀ K:PK,evP ⟨A0,T,A4⟩ (.call 21 [m.F] K)=some (.val (openTs K.os.length [.int .i64 (Ba m)]).1 ⟨K.os ++ (openTs K.os.length [.int .i64 (Ba m)]).2,K.ext,K.tch⟩):=tm
 have l1:=err_loop (P:=⟨A0,T,A4⟩) (c:=Ru) (f:=Wq) (l:=m.gs) (S:=fun i=>[(1,.ptr 0 0 0),(10,fslN (m.gs.map Glo.F)),(11,.int .i64 (m.gs.length:Int)),(12,.int .i64 (i:Int))]) (K:=⟨[.row 1 [m.F] 2],0,[]⟩) (Q:=fun fr'=>lookP fr' 1=.ptr 0 0 0) (R:=fun e fr' K'=>fr'=[(2,.int .i64 e)]∧K'=⟨[],0,[]⟩)
  (fun k h hp=>CZ hir_number h hgl hp) (fun k h hp=>⟨_,_,DA hir_number h hp,rfl,rfl⟩) DB
 have l2:=err_loop (P:=⟨A0,T,A4⟩) (c:=Rv) (f:=Y7 m) (l:=m.fs) (S:=fun i=>[(1,.ptr 0 0 0),(32,fslN (m.fs.map Cod.F)),(33,.int .i64 (m.fs.length:Int)),(34,.int .i64 (i:Int))]) (K:=⟨[.row 1 [m.F] 2],0,[]⟩) (Q:=fun fr'=>lookP fr' 1=.ptr 0 0 0) (R:=fun e fr' K'=>fr'=[(2,.int .i64 e)]∧K'=⟨[],0,[]⟩)
  (fun k h hp=>DC hir_checker_code h hk hp) (fun k h hp=>⟨_,_,DD hir_checker_code h hk hp,rfl,rfl⟩) DF
 unfold O5
 simp only [Modl.F] at tm l1 l2 ⊢
 rcases l1 with ⟨q,fr',h1,h2⟩ | ⟨q,fr',K',h1,rfl,rfl⟩
 . have h1:evP ⟨A0,T,A4⟩ (.code (.loop Ru) [(1,.ptr 0 0 0),(10,fslN (m.gs.map Glo.F)),(11,.int .i64 (m.gs.length:Int)),(12,.int .i64 0)] _)=_:=h1
   rw [if_pos q]
   rcases l2 with ⟨q2,fr2,h3,h4⟩ | ⟨q2,fr2,K2,h3,rfl,rfl⟩
   . have h3:evP ⟨A0,T,A4⟩ (.code (.loop Rv) [(1,.ptr 0 0 0),(32,fslN (m.fs.map Cod.F)),(33,.int .i64 (m.fs.length:Int)),(34,.int .i64 0)] _)=_:=h3
     rw [if_pos q2]
     unfold fU
     by_cases hm:Ba m < 0
     . simp -implicitDefEqProofs only [h1,h2,h3,h4,tm,eq_true hm,List.length_map,XP,seval]
     . obtain ⟨k,hk1,hk2,_⟩:=nS hm
       have hi:=Hp hk2
       have hk1:Ba m=k:=hk1
       have hix:Si Bd (fslN (m.fs.map Cod.F)) (.int .i64 (Ba m))=some (.fptr (codI m.fs (Ba m)).F 0):=by
        rw [hk1]; exact ix_fslN hi rfl
       simp only [Cod.F] at hix
       by_cases h5:(codI m.fs (Ba m)).ty=1
       . by_cases h6:(codI m.fs (Ba m)).ps=0
         . simp -implicitDefEqProofs only [h1,h2,h3,h4,tm,eq_false hm,hix,eq_true h5,eq_true h6,List.length_map,XP,seval]
         . simp -implicitDefEqProofs only [h1,h2,h3,h4,tm,eq_false hm,hix,eq_true h5,eq_false h6,List.length_map,XP,seval]
       . simp -implicitDefEqProofs only [h1,h2,h3,h4,tm,eq_false hm,hix,eq_false h5,List.length_map,XP,seval]
   . have h3:evP ⟨A0,T,A4⟩ (.code (.loop Rv) [(1,.ptr 0 0 0),(32,fslN (m.fs.map Cod.F)),(33,.int .i64 (m.fs.length:Int)),(34,.int .i64 0)] _)=_:=h3
     rw [if_neg q2]
     simp -implicitDefEqProofs only [h1,h2,h3,List.length_map,XP,seval]
 . have h1:evP ⟨A0,T,A4⟩ (.code (.loop Ru) [(1,.ptr 0 0 0),(10,fslN (m.gs.map Glo.F)),(11,.int .i64 (m.gs.length:Int)),(12,.int .i64 0)] _)=_:=h1
   rw [if_neg q]
   simp -implicitDefEqProofs only [h1,List.length_map,XP,seval]
def N1:=u5 (fun p:(Modl)=>[p.F]) (fun p=>[.int .i64 (O5 p)]) (fun p=>p.ok)
theorem Tk (hir_Check:T 7=some N1) {m:Modl} {K:PK} (hk:m.ok):evP ⟨A0,T,A4⟩ (.call 7 [m.F] K)=some (.val (openTs K.os.length [.int .i64 (O5 m)]).1 ⟨K.os ++ (openTs K.os.length [.int .i64 (O5 m)]).2,K.ext,K.tch⟩):=C0 hir_Check (by simp -implicitDefEqProofs only [VV,XP,seval]) (C1 (a:=fun p:(Modl)=>[p.F]) (r:=fun p=>[.int .i64 (O5 p)]) (fun x y e=>by simp only [VJ] at e; simp only [e]) (m) hk) (by simp -implicitDefEqProofs only [VN,XP,seval])
theorem Zw (hir_number:T 19=some M4) (hir_checker_code:T 20=some F9) (hir_mainOf:T 21=some K5) (hP:PEok ⟨A0,T,A4⟩):TC A0 7 N1:=D1 hP fun p h=>Pp hir_number hir_checker_code hir_mainOf h
end
end Go.Proofs.AmEnv
set_option maxRecDepth 100000
namespace Go.Proofs.AmEnv
open Go Go.AM
variable {T:Nat->Option (List AV->Option (List AV))}
def Pq {A X ρ:Type} (f:A->X->A ⊕ ρ):A->List X->A ⊕ ρ
 | a,[]=>.inl a
 | a,x :: l=>match f a x with | .inl a=>Pq f a l | .inr r=>.inr r
theorem dK {P:PE} {c:PC} {A X ρ:Type} {f:A->X->A ⊕ ρ} {l:List X} {S:Nat->A->PF} {K:A->PK} {x:Nat} {Q:A->PF->Prop} {R:ρ->PF->PK->Prop}
 (h1:∀ i a a' (h:i < l.length),f a l[i]=.inl a'->evP P (.code c (S i a) (K a))=some (.ok .normal (S (i + 1) a') (K a')))
 (h2:∀ i a r (h:i < l.length),f a l[i]=.inr r->∃ fr' K',evP P (.code c (S i a) (K a))=some (.ok .ret fr' K')∧R r fr' K')
 (hx:∀ a,∃ fr',evP P (.code c (S l.length a) (K a))=some (.ok (.exit x) fr' (K a))∧Q a fr') (a:A) :
 (∃ a',Pq f a l=.inl a'∧∃ fr',evP P (.code (.loop c) (S 0 a) (K a))=some (.ok (.exit x) fr' (K a'))∧Q a' fr')∨(∃ r,Pq f a l=.inr r∧∃ fr' K',evP P (.code (.loop c) (S 0 a) (K a))=some (.ok .ret fr' K')∧R r fr' K'):=by
 have key:∀ (n i:Nat) (a:A),l.length=i + n->(∃ a',Pq f a (l.drop i)=.inl a'∧∃ fr',evP P (.code (.loop c) (S i a) (K a))=some (.ok (.exit x) fr' (K a'))∧Q a' fr')∨(∃ r,Pq f a (l.drop i)=.inr r∧∃ fr' K',evP P (.code (.loop c) (S i a) (K a))=some (.ok .ret fr' K')∧R r fr' K'):=fun n=>by
  induction n with
  | zero =>
   intro i a e
   obtain rfl:i=l.length:=by omega
   obtain ⟨fr',h,q⟩:=hx a
   exact .inl ⟨a,by rw [List.drop_length]; rfl,fr',H6 h,q⟩
  | succ n ih =>
   intro i a e
   have hl:i < l.length:=by omega
   rw [List.drop_eq_getElem_cons hl]
   unfold Pq
   cases hq:f a l[i] with
   | inl a'=>rw [G6 (h1 i a a' hl hq)]; exact ih (i + 1) a' (by omega)
   | inr r =>
    obtain ⟨fr',K',q1,q2⟩:=h2 i a r hl hq
    exact .inr ⟨r,rfl,fr',K',z6 q1,q2⟩
 exact key l.length 0 a (by omega)
theorem Tl {P:PE} {c:PC} {A X:Type} {f:A->X->A} {l:List X} {S:Nat->A->PF} {K:A->PK} {x:Nat} {Q:A->PF->Prop}
 (h1:∀ i a (h:i < l.length),evP P (.code c (S i a) (K a))=some (.ok .normal (S (i + 1) (f a l[i])) (K (f a l[i]))))
 (hx:∀ a,∃ fr',evP P (.code c (S l.length a) (K a))=some (.ok (.exit x) fr' (K a))∧Q a fr') (a:A) :
 ∃ fr',evP P (.code (.loop c) (S 0 a) (K a))=some (.ok (.exit x) fr' (K (l.foldl f a)))∧Q (l.foldl f a) fr':=by
 have key:∀ (n i:Nat) (a:A),l.length=i + n->∃ fr',evP P (.code (.loop c) (S i a) (K a))=some (.ok (.exit x) fr' (K ((l.drop i).foldl f a)))∧Q ((l.drop i).foldl f a) fr':=fun n=>by
  induction n with
  | zero =>
   intro i a e
   obtain rfl:i=l.length:=by omega
   obtain ⟨fr',h,q⟩:=hx a
   exact ⟨fr',by rw [List.drop_length]; exact H6 h,by rw [List.drop_length]; exact q⟩
  | succ n ih =>
   intro i a e
   have hl:i < l.length:=by omega
   rw [List.drop_eq_getElem_cons hl,List.foldl_cons,G6 (h1 i a hl)]
   exact ih (i + 1) _ (by omega)
 exact key l.length 0 a (by omega)
section
variable {m:Modl} {c:Cod} {i j k:Nat} {n:Int}
def Ap (a:Int) (n:Nat):Int:=IntKind.i64.wrap (a + (n:Int))
def DG (a:Int) (b:Blk):Int:=b.code.foldl (fun a x=>Ap a x.args.length) (Ap a b.code.length)
def zC (a:Int) (c:Cod):Int:=c.blocks.foldl DG (Ap (Ap a c.regs.length) c.blocks.length)
def IJ (a:Int) (c:Cod):Int ⊕ Unit:=if 3000 < zC a c then .inr () else .inl (zC a c)
def S0 (m:Modl):Bool:=if 20 < m.gs.length then true else if 12 < m.fs.length then true else if (m.gs.all fun g=>!decide (1024 < g.size))=true then (Pq IJ 0 m.fs).isRight else true
theorem DH (h:i < m.gs.length) (hs:m.gs.length≤bigN) (hp:(!decide (1024 < m.gs[i].size))=true):evP ⟨A0,T,A4⟩ (.code Rt [(1,.ptr 0 0 0),(3,.int .i64 n),(4,.int .i64 (i:Int))] ⟨[.row 1 [m.F] 2],0,[]⟩)=some (.ok .normal [(1,.ptr 0 0 0),(3,.int .i64 n),(4,.int .i64 ((i + 1:Nat):Int))] ⟨[.row 1 [m.F] 2],0,[]⟩):=by
 unfold Rt
 have hlt:decide ((i:Int) < (m.gs.length:Int))=true:=by simp [h]
 have hw:=C8 (i:=i) (by simp only [bigN] at hs; omega)
 have hi:=B4 (F:=Glo.F) h
 have hp:decide (1024 < m.gs[i].size)=false:=by simpa using hp
 simp only [Glo.F,Modl.F] at hi ⊢
 simp -implicitDefEqProofs only [hlt,hi,hw,hp,List.length_map,XP,seval]
theorem DI (h:i < m.gs.length) (hp:(!decide (1024 < m.gs[i].size))=false):evP ⟨A0,T,A4⟩ (.code Rt [(1,.ptr 0 0 0),(3,.int .i64 n),(4,.int .i64 (i:Int))] ⟨[.row 1 [m.F] 2],0,[]⟩)=some (.ok .ret [(2,.bool true)] ⟨[],0,[]⟩):=by
 unfold Rt
 have hlt:decide ((i:Int) < (m.gs.length:Int))=true:=by simp [h]
 have hi:=B4 (F:=Glo.F) h
 have hp:decide (1024 < m.gs[i].size)=true:=by simpa using hp
 simp only [Glo.F,Modl.F] at hi ⊢
 simp -implicitDefEqProofs only [hlt,hi,hp,List.length_map,XP,seval]
theorem DJ:∃ fr',evP ⟨A0,T,A4⟩ (.code Rt [(1,.ptr 0 0 0),(3,.int .i64 n),(4,.int .i64 (m.gs.length:Int))] ⟨[.row 1 [m.F] 2],0,[]⟩)=some (.ok (.exit 0) fr' ⟨[.row 1 [m.F] 2],0,[]⟩)∧(lookP fr' 1=.ptr 0 0 0∧lookP fr' 3=.int .i64 n):=by
 unfold Rt
 have hlt:decide ((m.gs.length:Int) < (m.gs.length:Int))=false:=by simp
 simp only [Modl.F]
 simp -implicitDefEqProofs only [hlt,List.length_map,XP,seval]
 exact ⟨_,rfl,rfl,rfl⟩
theorem DK (hj:j < c.blocks.length) (hk:k < c.blocks[j].code.length) (hs:c.ok):evP ⟨A0,T,A4⟩ (.code cW [(1,.ptr 0 0 0),(3,.int .i64 n),(5,.int .i64 (i:Int)),(6,.ptr 1 0 0),(7,.int .i64 (j:Int)),(8,.int .i64 (k:Int))] ⟨[.row 1 [m.F] 2,.row 1 [c.F] 5],0,[]⟩)=some (.ok .normal [(1,.ptr 0 0 0),(3,.int .i64 (Ap n c.blocks[j].code[k].args.length)),(5,.int .i64 (i:Int)),(6,.ptr 1 0 0),(7,.int .i64 (j:Int)),(8,.int .i64 ((k + 1:Nat):Int))] ⟨[.row 1 [m.F] 2,.row 1 [c.F] 5],0,[]⟩):=by
 unfold cW Ap
 have hb:=hs.2.1 _ (List.getElem_mem hj)
 have hlt:decide ((k:Int) < (c.blocks[j].code.length:Int))=true:=by simp [hk]
 have hw:=C8 (i:=k) (by have:=hb.2; simp only [bigN] at this; omega)
 have hi:=B4 (F:=Blk.F) hj
 have hi2:=B4 (F:=Ins.F) hk
 simp only [Blk.F,Ins.F,Modl.F,Cod.F] at hi hi2 ⊢
 simp -implicitDefEqProofs only [hlt,hi,hi2,hw,List.length_map,XP,seval]
theorem DL (hj:j < c.blocks.length):∃ fr',evP ⟨A0,T,A4⟩ (.code cW [(1,.ptr 0 0 0),(3,.int .i64 n),(5,.int .i64 (i:Int)),(6,.ptr 1 0 0),(7,.int .i64 (j:Int)),(8,.int .i64 (c.blocks[j].code.length:Int))] ⟨[.row 1 [m.F] 2,.row 1 [c.F] 5],0,[]⟩)=some (.ok (.exit 6) fr' ⟨[.row 1 [m.F] 2,.row 1 [c.F] 5],0,[]⟩)∧(lookP fr' 1=.ptr 0 0 0∧lookP fr' 3=.int .i64 n∧lookP fr' 5=.int .i64 (i:Int)∧lookP fr' 6=.ptr 1 0 0∧lookP fr' 7=.int .i64 (j:Int)):=by
 unfold cW
 have hlt:decide ((c.blocks[j].code.length:Int) < (c.blocks[j].code.length:Int))=false:=by simp
 have hi:=B4 (F:=Blk.F) hj
 simp only [Blk.F,Modl.F,Cod.F] at hi ⊢
 simp -implicitDefEqProofs only [hlt,hi,List.length_map,XP,seval]
 exact ⟨_,rfl,rfl,rfl,rfl,rfl,rfl⟩
theorem DM (hj:j < c.blocks.length) (hs:c.ok):evP ⟨A0,T,A4⟩ (.code cX [(1,.ptr 0 0 0),(3,.int .i64 n),(5,.int .i64 (i:Int)),(6,.ptr 1 0 0),(7,.int .i64 (j:Int))] ⟨[.row 1 [m.F] 2,.row 1 [c.F] 5],0,[]⟩)=some (.ok .normal [(1,.ptr 0 0 0),(3,.int .i64 (DG n c.blocks[j])),(5,.int .i64 (i:Int)),(6,.ptr 1 0 0),(7,.int .i64 ((j + 1:Nat):Int))] ⟨[.row 1 [m.F] 2,.row 1 [c.F] 5],0,[]⟩):=by
 have hlt:decide ((j:Int) < (c.blocks.length:Int))=true:=by simp [hj]
 have hw:=C8 (i:=j) (by have:=hs.2.2; simp only [bigN] at this; omega)
 have hi:=B4 (F:=Blk.F) hj
 obtain ⟨fr',h1,h2,h3,h4,h5,h6⟩:=Tl (P:=⟨A0,T,A4⟩) (c:=cW) (f:=fun a (x:Ins)=>Ap a x.args.length) (l:=c.blocks[j].code) (S:=fun k n=>[(1,.ptr 0 0 0),(3,.int .i64 n),(5,.int .i64 (i:Int)),(6,.ptr 1 0 0),(7,.int .i64 (j:Int)),(8,.int .i64 (k:Int))]) (K:=fun _=>⟨[.row 1 [m.F] 2,.row 1 [c.F] 5],0,[]⟩) (x:=6) (Q:=fun n fr'=>lookP fr' 1=.ptr 0 0 0∧lookP fr' 3=.int .i64 n∧lookP fr' 5=.int .i64 (i:Int)∧lookP fr' 6=.ptr 1 0 0∧lookP fr' 7=.int .i64 (j:Int)) (fun k a h=>DK hj h hs) (fun a=>DL hj) (Ap n c.blocks[j].code.length)
 have h1:evP ⟨A0,T,A4⟩ (.code (.loop cW) [(1,.ptr 0 0 0),(3,.int .i64 (Ap n c.blocks[j].code.length)),(5,.int .i64 (i:Int)),(6,.ptr 1 0 0),(7,.int .i64 (j:Int)),(8,.int .i64 0)] ⟨[.row 1 [m.F] 2,.row 1 [c.F] 5],0,[]⟩)=_:=h1
 have hn:DG n c.blocks[j]=c.blocks[j].code.foldl (fun a x=>Ap a x.args.length) (Ap n c.blocks[j].code.length):=rfl
 rw [← hn] at h3
 unfold cX
 unfold Ap at h1
 simp only [Blk.F,Modl.F,Cod.F] at hi h1 ⊢
 simp -implicitDefEqProofs only [hlt,hi,h1,h2,h3,h4,h5,h6,hw,List.length_map,XP,seval]
theorem DN:∃ fr',evP ⟨A0,T,A4⟩ (.code cX [(1,.ptr 0 0 0),(3,.int .i64 n),(5,.int .i64 (i:Int)),(6,.ptr 1 0 0),(7,.int .i64 (c.blocks.length:Int))] ⟨[.row 1 [m.F] 2,.row 1 [c.F] 5],0,[]⟩)=some (.ok (.exit 4) fr' ⟨[.row 1 [m.F] 2,.row 1 [c.F] 5],0,[]⟩)∧(lookP fr' 1=.ptr 0 0 0∧lookP fr' 3=.int .i64 n∧lookP fr' 5=.int .i64 (i:Int)):=by
 unfold cX
 have hlt:decide ((c.blocks.length:Int) < (c.blocks.length:Int))=false:=by simp
 simp only [Modl.F,Cod.F]
 simp -implicitDefEqProofs only [hlt,List.length_map,XP,seval]
 exact ⟨_,rfl,rfl,rfl,rfl⟩
theorem b6c (h:i < m.fs.length) (hs:m.ok):(3000 < zC n m.fs[i]->evP ⟨A0,T,A4⟩ (.code Vu [(1,.ptr 0 0 0),(3,.int .i64 n),(5,.int .i64 (i:Int))] ⟨[.row 1 [m.F] 2],0,[]⟩)=some (.ok .ret [(2,.bool true)] ⟨[],0,[]⟩))∧(¬ 3000 < zC n m.fs[i]->evP ⟨A0,T,A4⟩ (.code Vu [(1,.ptr 0 0 0),(3,.int .i64 n),(5,.int .i64 (i:Int))] ⟨[.row 1 [m.F] 2],0,[]⟩)=some (.ok .normal [(1,.ptr 0 0 0),(3,.int .i64 (zC n m.fs[i])),(5,.int .i64 ((i + 1:Nat):Int))] ⟨[.row 1 [m.F] 2],0,[]⟩)):=by
 have hc:=(hs.1 _ (List.getElem_mem h)).1
 have hlt:decide ((i:Int) < (m.fs.length:Int))=true:=by simp [h]
 have hw:=C8 (i:=i) (by have:=hs.2.1; simp only [bigN] at this; omega)
 have hi:=B4 (F:=Cod.F) h
 generalize m.fs[i]=c at hc hi
 obtain ⟨fr',h1,h2,h3,h4⟩:=Tl (P:=⟨A0,T,A4⟩) (c:=cX) (f:=DG) (l:=c.blocks) (S:=fun j n=>[(1,.ptr 0 0 0),(3,.int .i64 n),(5,.int .i64 (i:Int)),(6,.ptr 1 0 0),(7,.int .i64 (j:Int))]) (K:=fun _=>⟨[.row 1 [m.F] 2,.row 1 [c.F] 5],0,[]⟩) (x:=4) (Q:=fun n fr'=>lookP fr' 1=.ptr 0 0 0∧lookP fr' 3=.int .i64 n∧lookP fr' 5=.int .i64 (i:Int)) (fun k a h=>DM h hc) (fun a=>DN) (Ap (Ap n c.regs.length) c.blocks.length)
 have h1:evP ⟨A0,T,A4⟩ (.code (.loop cX) [(1,.ptr 0 0 0),(3,.int .i64 (Ap (Ap n c.regs.length) c.blocks.length)),(5,.int .i64 (i:Int)),(6,.ptr 1 0 0),(7,.int .i64 0)] ⟨[.row 1 [m.F] 2,.row 1 [c.F] 5],0,[]⟩)=_:=h1
 have hn:zC n c=c.blocks.foldl DG (Ap (Ap n c.regs.length) c.blocks.length):=rfl
 rw [← hn] at h3
 unfold Vu
 unfold Ap at h1
 simp only [Modl.F,Cod.F] at hi h1 ⊢
 constructor
 . intro hq
   simp -implicitDefEqProofs only [hlt,hi,h1,h2,h3,h4,eq_true hq,List.length_map,XP,seval]
 . intro hq
   simp -implicitDefEqProofs only [hlt,hi,h1,h2,h3,h4,hw,eq_false hq,List.length_map,XP,seval]
theorem DO:∃ fr',evP ⟨A0,T,A4⟩ (.code Vu [(1,.ptr 0 0 0),(3,.int .i64 n),(5,.int .i64 (m.fs.length:Int))] ⟨[.row 1 [m.F] 2],0,[]⟩)=some (.ok (.exit 2) fr' ⟨[.row 1 [m.F] 2],0,[]⟩)∧True:=by
 unfold Vu
 have hlt:decide ((m.fs.length:Int) < (m.fs.length:Int))=false:=by simp
 simp only [Modl.F]
 simp -implicitDefEqProofs only [hlt,List.length_map,XP,seval]
 exact ⟨_,rfl⟩
set_option maxHeartbeats 4000000 in
theorem Ly  {m:Modl} (hk:m.ok):AM.Comes ⟨A0,T,A4⟩ 6 [m.F] [.bool (S0 m)]:=by
 refine ⟨[.bool (S0 m)],⟨[],0,[]⟩,?_,back_of rfl List.nodup_nil rfl rfl rfl⟩
 rw [A7 (c:=p6) (nt:=96) (rs:=[.tmp 2]) rfl (by simp)]; unfold p6
 unfold K0
 have hgl:m.gs.length≤bigN:=by have:=hk.2.2; simp only [bigN] at this ⊢; omega
 have l1:=Pm (P:=⟨A0,T,A4⟩) (c:=Rt) (p:=fun g:Glo=>!decide (1024 < g.size)) (l:=m.gs) (S:=fun i=>[(1,.ptr 0 0 0),(3,.int .i64 0),(4,.int .i64 (i:Int))]) (K:=⟨[.row 1 [m.F] 2],0,[]⟩) (x:=0) (Q:=fun fr'=>lookP fr' 1=.ptr 0 0 0∧lookP fr' 3=.int .i64 0) (R:=fun fr' K'=>fr'=[(2,.bool true)]∧K'=⟨[],0,[]⟩)
  (fun i h hp=>DH h hgl hp) (fun i h hp=>⟨_,_,DI h hp,rfl,rfl⟩) DJ
 have l2:=dK (P:=⟨A0,T,A4⟩) (c:=Vu) (f:=IJ) (l:=m.fs) (S:=fun i n=>[(1,.ptr 0 0 0),(3,.int .i64 n),(5,.int .i64 (i:Int))]) (K:=fun _=>⟨[.row 1 [m.F] 2],0,[]⟩) (x:=2) (Q:=fun n fr'=>True) (R:=fun r fr' K'=>fr'=[(2,.bool true)]∧K'=⟨[],0,[]⟩)
  (fun i a a' h hp=>by
    unfold IJ at hp
    split at hp
    . cases hp
    . rename_i hq
      cases hp; exact (b6c h hk).2 hq) (fun i a r h hp=>by
    unfold IJ at hp
    split at hp
    . rename_i hq
      exact ⟨_,_,(b6c h hk).1 hq,rfl,rfl⟩
    . cases hp) (fun a=>DO) 0
 have q20:decide ((20:Int) < (m.gs.length:Int))=decide (20 < m.gs.length):=decide_eq_decide.2 (by omega)
 have q12:decide ((12:Int) < (m.fs.length:Int))=decide (12 < m.fs.length):=decide_eq_decide.2 (by omega)
 unfold S0
 simp only [Modl.F] at l1 l2 ⊢
 by_cases h20:20 < m.gs.length
 . simp -implicitDefEqProofs only [q20,q12,eq_true h20,List.length_map,XP,seval]
 by_cases h12:12 < m.fs.length
 . simp -implicitDefEqProofs only [q20,q12,eq_false h20,eq_true h12,List.length_map,XP,seval]
 rcases l1 with ⟨q,fr',h1,h2,h3⟩ | ⟨q,fr',K',h1,rfl,rfl⟩
 . have h1:evP ⟨A0,T,A4⟩ (.code (.loop Rt) [(1,.ptr 0 0 0),(3,.int .i64 0),(4,.int .i64 0)] _)=_:=h1
   rcases l2 with ⟨a',q2,fr2,h4,_⟩ | ⟨r,q2,fr2,K2,h4,rfl,rfl⟩
   . have h4:evP ⟨A0,T,A4⟩ (.code (.loop Vu) [(1,.ptr 0 0 0),(3,.int .i64 0),(5,.int .i64 0)] _)=_:=h4
     simp -implicitDefEqProofs only [q20,q12,eq_false h20,eq_false h12,h1,h2,h3,h4,q,q2,Sum.isRight_inl,List.length_map,XP,seval]
   . have h4:evP ⟨A0,T,A4⟩ (.code (.loop Vu) [(1,.ptr 0 0 0),(3,.int .i64 0),(5,.int .i64 0)] _)=_:=h4
     simp -implicitDefEqProofs only [q20,q12,eq_false h20,eq_false h12,h1,h2,h3,h4,q,q2,Sum.isRight_inr,List.length_map,XP,seval]
 . have h1:evP ⟨A0,T,A4⟩ (.code (.loop Rt) [(1,.ptr 0 0 0),(3,.int .i64 0),(4,.int .i64 0)] _)=_:=h1
   simp -implicitDefEqProofs only [q20,q12,eq_false h20,eq_false h12,h1,q,List.length_map,XP,seval]
def X1:=u5 (fun p:(Modl)=>[p.F]) (fun p=>[.bool (S0 p)]) (fun p=>p.ok)
theorem Pr (hlaw06_Big:T 6=some X1) {m:Modl} {K:PK} (hk:m.ok):evP ⟨A0,T,A4⟩ (.call 6 [m.F] K)=some (.val (openTs K.os.length [.bool (S0 m)]).1 ⟨K.os ++ (openTs K.os.length [.bool (S0 m)]).2,K.ext,K.tch⟩):=C0 hlaw06_Big (by simp -implicitDefEqProofs only [VV,XP,seval]) (C1 (a:=fun p:(Modl)=>[p.F]) (r:=fun p=>[.bool (S0 p)]) (fun x y e=>by simp only [VJ] at e; simp only [e]) (m) hk) (by simp -implicitDefEqProofs only [VN,XP,seval])
theorem Wr  (hP:PEok ⟨A0,T,A4⟩):TC A0 6 X1:=D1 hP fun p h=>Ly  h
end
end Go.Proofs.AmEnv
set_option maxRecDepth 100000
namespace Go.AM
def dL (k:IntKind) (a b:Int):Int:=m8 k (Nat.land (modN a (pow2 k)) (modN b (pow2 k)))
def NC (k:IntKind) (a b:Int):Int:=m8 k (Nat.lor (modN a (pow2 k)) (modN b (pow2 k)))
def wO (k:IntKind) (a b:Int):Int:=m8 k (Nat.xor (modN a (pow2 k)) (modN b (pow2 k)))
theorem DQ (fl:EqK) (k:IntKind) (a b:Int):H2 .and fl (.int k a) (.int k b)=some (.int k (dL k a b)):=by
 show U3 (.int k a) (.int k b) (fun k a b=>j1 k (m8 k (Nat.land (modN a (pow2 k)) (modN b (pow2 k)))))=_; rw [R7,x9]; rfl
theorem ND (fl:EqK) (k:IntKind) (a b:Int):H2 .or fl (.int k a) (.int k b)=some (.int k (NC k a b)):=by
 show U3 (.int k a) (.int k b) (fun k a b=>j1 k (m8 k (Nat.lor (modN a (pow2 k)) (modN b (pow2 k)))))=_; rw [R7,x9]; rfl
theorem DS (fl:EqK) (k:IntKind) (a b:Int):H2 .xor fl (.int k a) (.int k b)=some (.int k (wO k a b)):=by
 show U3 (.int k a) (.int k b) (fun k a b=>j1 k (m8 k (Nat.xor (modN a (pow2 k)) (modN b (pow2 k)))))=_; rw [R7,x9]; rfl
theorem nT (k:IntKind) (n:Nat):(bif Nat.ble n (H1 k) then n else H1 k)=min n (H1 k):=by
 cases h:Nat.ble n (H1 k) with
 | true=>have:=B5 h; simp; omega
 | false =>
  have:¬ n≤H1 k:=fun e=>by rw [Nat.ble_eq_true_of_le e] at h; cases h
  simp; omega
theorem DT (fl:EqK) (k j:IntKind) (a:Int) (n:Nat):H2 .shl fl (.int k a) (.int j (n:Int))=some (.int k (k.wrap (a * (2 ^ (min n (H1 k)):Nat)))):=by
 show M0 k (a * Int.ofNat (Nat.pow 2 (bif Nat.ble n (H1 k) then n else H1 k)))=_
 rw [U0,nT]; rfl
theorem DU (fl:EqK) (k j:IntKind) (a:Int) (n:Nat):H2 .shr fl (.int k a) (.int j (n:Int))=some (.int k (a.fdiv (2 ^ (min n (H1 k)):Nat))):=by
 show j1 k (a.fdiv (Int.ofNat (Nat.pow 2 (bif Nat.ble n (H1 k) then n else H1 k))))=_
 rw [x9,nT]; rfl
theorem Zx (b:Int) (e:Nat) (he:e≤32):dL .u64 (IntKind.wrap .u64 b) ((2 ^ e - 1:Nat):Int)=((b % (2 ^ e:Nat)).toNat:Int):=by
 have hp:(0:Int) < 18446744073709551616:=by omega
 have h2:(2:Nat) ^ e≤2 ^ 32:=Nat.pow_le_pow_right (by omega) he
 have h3:0 < 2 ^ e:=Nat.two_pow_pos e
 have hdvd:(2 ^ e) ∣ 18446744073709551616:=⟨2 ^ (64 - e),by rw [← Nat.pow_add,show e + (64 - e)=64 by omega]⟩
 have hw:IntKind.wrap .u64 b=b % 18446744073709551616:=by simp [IntKind.wrap,IntKind.bits,IntKind.signed]
 have m1:(modN (IntKind.wrap .u64 b) (pow2 .u64):Int)=b % 18446744073709551616:=by
  rw [Gt _ _ (v6 _),hw]; simp [pow2]
 have m2:(modN ((2 ^ e - 1:Nat):Int) (pow2 .u64):Int)=((2 ^ e - 1:Nat):Int):=by
  rw [Gt _ _ (v6 _)]
  exact Int.emod_eq_of_lt (by omega) (by simp only [pow2]; omega)
 unfold dL
 have m2':modN ((2 ^ e - 1:Nat):Int) (pow2 .u64)=2 ^ e - 1:=by omega
 rw [m2']
 have m3:Nat.land (modN (IntKind.wrap .u64 b) (pow2 .u64)) (2 ^ e - 1)=modN (IntKind.wrap .u64 b) (pow2 .u64) % 2 ^ e:=Nat.and_two_pow_sub_one_eq_mod _ _
 rw [m3]
 have hlt:modN (IntKind.wrap .u64 b) (pow2 .u64) % 2 ^ e < 2 ^ e:=Nat.mod_lt _ h3
 have hwr:∀ m:Nat,m < 18446744073709551616->m8 .u64 m=(m:Int):=fun m hm=>by
  unfold m8
  cases e:Nat.ble (half .u64) m with
  | false=>rfl
  | true =>
   have:=B5 e
   have hh:half .u64=18446744073709551616:=rfl
   omega
 rw [hwr _ (by have:(2:Nat) ^ 32=4294967296:=by decide
               omega)]
 have:((modN (IntKind.wrap .u64 b) (pow2 .u64) % 2 ^ e:Nat):Int)=b % ((2 ^ e:Nat):Int):=by
  rw [Int.natCast_emod,m1]
  exact Int.emod_emod_of_dvd b (show ((2 ^ e:Nat):Int) ∣ ((18446744073709551616:Nat):Int) from Int.natCast_dvd_natCast.2 hdvd)
 rw [this]
 have:=Int.emod_nonneg b (show ((2 ^ e:Nat):Int) ≠ 0 by omega)
 omega
end Go.AM
namespace Go.Proofs.AmEnv
open Go Go.AM
variable {T:Nat->Option (List AV->Option (List AV))}
def V0 (k:IntKind) (op:List UInt8) (a b:Int):Int × Int :=
 if b=0 then (0,1)
 else if op=[37]∧b=-1 then (0,0)
 else if op=[37] then (a.tmod b,0)
 else if b=-1 then (if a=0 then (k.wrap (a.tdiv b),0) else if k.wrap (0 - a)=a then (0,2) else (k.wrap (a.tdiv b),0)) else (k.wrap (a.tdiv b),0)
def k7 (k:IntKind) (m:Int) (op:List UInt8) (a b:Int):Int :=
 if op=[43] then k.wrap (a + b) else if op=[45] then k.wrap (a - b) else if op=[42] then k.wrap (a * b)
 else if op=[38] then dL k a b else if op=[124] then NC k a b else if op=[94] then wO k a b
 else if op=[60,60] then k.wrap (a * (2 ^ (min (b % m).toNat (H1 k)):Nat)) else if op=[62,62] then a.fdiv (2 ^ (min (b % m).toNat (H1 k)):Nat)
 else if op=[61,61] then (if a=b then 1 else 0) else if op=[33,61] then (if (!decide (a=b))=true then 1 else 0)
 else if op=[60] then (if a < b then 1 else 0) else if op=[60,61] then (if a≤b then 1 else 0)
 else if op=[62] then (if b < a then 1 else 0) else if op=[62,61] then (if b≤a then 1 else 0) else 0
theorem DV (b:Int):dL .u64 (IntKind.wrap .u64 b) (IntKind.wrap .u64 (IntKind.wrap .i64 (32 - 1)))=((b % 32).toNat:Int):=by
 have:IntKind.wrap .u64 (IntKind.wrap .i64 (32 - 1))=((2 ^ 5 - 1:Nat):Int):=by decide
 rw [this]; exact Zx b 5 (by omega)
theorem DW (b:Int):dL .u64 (IntKind.wrap .u64 b) (IntKind.wrap .u64 (IntKind.wrap .i64 (64 - 1)))=((b % 64).toNat:Int):=by
 have:IntKind.wrap .u64 (IntKind.wrap .i64 (64 - 1))=((2 ^ 6 - 1:Nat):Int):=by decide
 rw [this]; exact Zx b 6 (by omega)
variable {K:PK} {E:Env}
theorem Tm (t:Nat) (k:IntKind) (a:Int) {b:Int} (h:¬ b=0):N4 E .quo t (.int k a) (.int k b) K=.val (.int k (k.wrap (a.tdiv b))) K:=by
 rw [bp _ _ rfl rfl]
 show u4 (U3 (.int k a) (.int k b) (fun k a b=>bif intEq b 0 then none else M0 k (a.tdiv b))) K=_
 rw [R7,Y5,beq_false_of_ne h]; exact congrArg (u4 · K) (U0 k _)
theorem uU (t:Nat) (k:IntKind) (a:Int) {b:Int} (h:¬ b=0):N4 E .rem t (.int k a) (.int k b) K=.val (.int k (a.tmod b)) K:=by
 rw [bp _ _ rfl rfl]
 show u4 (U3 (.int k a) (.int k b) (fun k a b=>bif intEq b 0 then none else j1 k (a.tmod b))) K=_
 rw [R7,Y5,beq_false_of_ne h]; exact congrArg (u4 · K) (x9 k _)
theorem fV (k:IntKind) (a:Int):Gi .neg (.int k a)=some (.int k (k.wrap (0 - a))):=U0 k _
theorem I1 (t:Nat) (k:IntKind) (a b:Int):N4 E .and t (.int k a) (.int k b) K=.val (.int k (dL k a b)) K:=by rw [bp _ _ rfl rfl,DQ]; rfl
theorem U4 (t:Nat) (k:IntKind) (a b:Int):N4 E .or t (.int k a) (.int k b) K=.val (.int k (NC k a b)) K:=by rw [bp _ _ rfl rfl,ND]; rfl
theorem I3 (t:Nat) (k:IntKind) (a b:Int):N4 E .xor t (.int k a) (.int k b) K=.val (.int k (wO k a b)) K:=by rw [bp _ _ rfl rfl,DS]; rfl
theorem I4 (t:Nat) (k j:IntKind) (a:Int) (n:Nat):N4 E .shl t (.int k a) (.int j (n:Int)) K=.val (.int k (k.wrap (a * (2 ^ (min n (H1 k)):Nat)))) K:=by rw [bp _ _ rfl rfl,DT]; rfl
theorem I5 (t:Nat) (k j:IntKind) (a:Int) (n:Nat):N4 E .shr t (.int k a) (.int j (n:Int)) K=.val (.int k (a.fdiv (2 ^ (min n (H1 k)):Nat))) K:=by rw [bp _ _ rfl rfl,DU]; rfl
theorem Zy  {b:Bool}:AM.Comes ⟨A0,T,A4⟩ 88 [.bool b] [.int .i32 (if b=true then 1 else 0)]:=by
 refine ⟨[.int .i32 (if b=true then 1 else 0)],⟨[],0,[]⟩,?_,back_of rfl List.nodup_nil rfl rfl rfl⟩
 rw [A7 (c:=IH) (nt:=4) (rs:=[.tmp 2]) rfl (by simp)]; unfold IH
 unfold K0
 cases b <;> simp -implicitDefEqProofs only [XP,seval]
def Ps:=u5 (fun p:(Bool)=>[.bool p]) (fun p=>[.int .i32 (if p=true then 1 else 0)]) (fun p=>True)
theorem wP (hone32:T 88=some Ps) {b:Bool} {K:PK}:evP ⟨A0,T,A4⟩ (.call 88 [.bool b] K)=some (.val (openTs K.os.length [.int .i32 (if b=true then 1 else 0)]).1 ⟨K.os ++ (openTs K.os.length [.int .i32 (if b=true then 1 else 0)]).2,K.ext,K.tch⟩):=C0 hone32 (by simp -implicitDefEqProofs only [VV,XP,seval]) (C1 (a:=fun p:(Bool)=>[.bool p]) (r:=fun p=>[.int .i32 (if p=true then 1 else 0)]) (fun x y e=>by simp only [VJ] at e; simp only [e]) (b) trivial) (by simp -implicitDefEqProofs only [VN,XP,seval])
theorem nU  (hP:PEok ⟨A0,T,A4⟩):TC A0 88 Ps:=D1 hP fun p h=>Zy
set_option maxHeartbeats 4000000 in
theorem Pt  {op:List UInt8} {a:Int} {b:Int}:AM.Comes ⟨A0,T,A4⟩ 80 [.str op,.int .i32 a,.int .i32 b] [.int .i32 (V0 .i32 op a b).1,.int .i64 (V0 .i32 op a b).2]:=by
 refine ⟨[.int .i32 (V0 .i32 op a b).1,.int .i64 (V0 .i32 op a b).2],⟨[],0,[]⟩,?_,back_of rfl List.nodup_nil rfl rfl rfl⟩
 rw [A7 (c:=IB) (nt:=40) (rs:=[.tmp 6,.tmp 7]) rfl (by simp)]; unfold IB
 unfold K0
 unfold V0
 by_cases h0:b=0
 . simp -implicitDefEqProofs only [eq_true h0,XP,seval]
 by_cases h1:op=[37]
 . by_cases h2:b=-1
   . simp -implicitDefEqProofs only [eq_false h0,eq_true h1,eq_true h2,XP,seval]
   . simp -implicitDefEqProofs only [eq_false h0,eq_true h1,eq_false h2,uU _ _ a h0,XP,seval]
 by_cases h2:b=-1
 . by_cases h3:a=0
   . simp -implicitDefEqProofs only [eq_false h0,eq_true h2,eq_false h1,eq_true h3,Tm _ _ a h0,XP,seval]
   . by_cases h4:IntKind.wrap .i32 (0 - a)=a
     . simp -implicitDefEqProofs only [eq_false h0,eq_true h2,eq_false h1,eq_false h3,fV,eq_true h4,XP,seval]
     . simp -implicitDefEqProofs only [eq_false h0,eq_true h2,eq_false h1,eq_false h3,fV,eq_false h4,Tm _ _ a h0,XP,seval]
 . simp -implicitDefEqProofs only [eq_false h0,eq_false h1,eq_false h2,Tm _ _ a h0,XP,seval]
def w9:=u5 (fun p:(List UInt8) × (Int) × (Int)=>[.str p.1,.int .i32 p.2.1,.int .i32 p.2.2]) (fun p=>[.int .i32 (V0 .i32 p.1 p.2.1 p.2.2).1,.int .i64 (V0 .i32 p.1 p.2.1 p.2.2).2]) (fun p=>True)
theorem jX (hdivide32:T 80=some w9) {op:List UInt8} {a:Int} {b:Int} {K:PK}:evP ⟨A0,T,A4⟩ (.call 80 [.str op,.int .i32 a,.int .i32 b] K)=some (.val (openTs K.os.length [.int .i32 (V0 .i32 op a b).1,.int .i64 (V0 .i32 op a b).2]).1 ⟨K.os ++ (openTs K.os.length [.int .i32 (V0 .i32 op a b).1,.int .i64 (V0 .i32 op a b).2]).2,K.ext,K.tch⟩):=C0 hdivide32 (by simp -implicitDefEqProofs only [VV,XP,seval]) (C1 (a:=fun p:(List UInt8) × (Int) × (Int)=>[.str p.1,.int .i32 p.2.1,.int .i32 p.2.2]) (r:=fun p=>[.int .i32 (V0 .i32 p.1 p.2.1 p.2.2).1,.int .i64 (V0 .i32 p.1 p.2.1 p.2.2).2]) (fun x y e=>by simp only [VJ] at e; simp only [e]) (op,a,b) trivial) (by simp -implicitDefEqProofs only [VN,XP,seval])
theorem Zz  (hP:PEok ⟨A0,T,A4⟩):TC A0 80 w9:=D1 hP fun p h=>Pt
set_option maxHeartbeats 8000000 in
theorem Ws (hone32:T 88=some Ps) {op:List UInt8} {a:Int} {b:Int}:AM.Comes ⟨A0,T,A4⟩ 81 [.str op,.int .i32 a,.int .i32 b,.int .i64 32] [.int .i32 (k7 .i32 32 op a b)]:=by
 refine ⟨[.int .i32 (k7 .i32 32 op a b)],⟨[],0,[]⟩,?_,back_of rfl List.nodup_nil rfl rfl rfl⟩
 rw [A7 (c:=ID) (nt:=93) (rs:=[.tmp 8]) rfl (by simp)]; unfold ID
 unfold K0
 have to:=fun b K=>wP (K:=K) (b:=b) hone32
 have lw:=DV b
 unfold k7
 by_cases h1:op=[43]
 . simp -implicitDefEqProofs only [lw,B1,to,I1,U4,I3,I4,I5,eq_true h1,XP,Nat.reduceAdd,Nat.reduceSub,Nat.reduceLT,Nat.reduceLeDiff,Nat.reduceEqDiff,Nat.reduceMul,↓reduceIte]
 by_cases h2:op=[45]
 . simp -implicitDefEqProofs only [lw,B1,to,I1,U4,I3,I4,I5,eq_false h1,eq_true h2,XP,Nat.reduceAdd,Nat.reduceSub,Nat.reduceLT,Nat.reduceLeDiff,Nat.reduceEqDiff,Nat.reduceMul,↓reduceIte]
 by_cases h3:op=[42]
 . simp -implicitDefEqProofs only [lw,B1,to,I1,U4,I3,I4,I5,eq_false h1,eq_false h2,eq_true h3,XP,Nat.reduceAdd,Nat.reduceSub,Nat.reduceLT,Nat.reduceLeDiff,Nat.reduceEqDiff,Nat.reduceMul,↓reduceIte]
 by_cases h4:op=[38]
 . simp -implicitDefEqProofs only [lw,B1,to,I1,U4,I3,I4,I5,eq_false h1,eq_false h2,eq_false h3,eq_true h4,XP,Nat.reduceAdd,Nat.reduceSub,Nat.reduceLT,Nat.reduceLeDiff,Nat.reduceEqDiff,Nat.reduceMul,↓reduceIte]
 by_cases h5:op=[124]
 . simp -implicitDefEqProofs only [lw,B1,to,I1,U4,I3,I4,I5,eq_false h1,eq_false h2,eq_false h3,eq_false h4,eq_true h5,XP,Nat.reduceAdd,Nat.reduceSub,Nat.reduceLT,Nat.reduceLeDiff,Nat.reduceEqDiff,Nat.reduceMul,↓reduceIte]
 by_cases h6:op=[94]
 . simp -implicitDefEqProofs only [lw,B1,to,I1,U4,I3,I4,I5,eq_false h1,eq_false h2,eq_false h3,eq_false h4,eq_false h5,eq_true h6,XP,Nat.reduceAdd,Nat.reduceSub,Nat.reduceLT,Nat.reduceLeDiff,Nat.reduceEqDiff,Nat.reduceMul,↓reduceIte]
 by_cases h7:op=[60,60]
 . simp -implicitDefEqProofs only [lw,B1,to,I1,U4,I3,I4,I5,eq_false h1,eq_false h2,eq_false h3,eq_false h4,eq_false h5,eq_false h6,eq_true h7,XP,Nat.reduceAdd,Nat.reduceSub,Nat.reduceLT,Nat.reduceLeDiff,Nat.reduceEqDiff,Nat.reduceMul,↓reduceIte]
 by_cases h8:op=[62,62]
 . simp -implicitDefEqProofs only [lw,B1,to,I1,U4,I3,I4,I5,eq_false h1,eq_false h2,eq_false h3,eq_false h4,eq_false h5,eq_false h6,eq_false h7,eq_true h8,XP,Nat.reduceAdd,Nat.reduceSub,Nat.reduceLT,Nat.reduceLeDiff,Nat.reduceEqDiff,Nat.reduceMul,↓reduceIte]
 by_cases h9:op=[61,61]
 . simp -implicitDefEqProofs only [lw,B1,to,I1,U4,I3,I4,I5,eq_false h1,eq_false h2,eq_false h3,eq_false h4,eq_false h5,eq_false h6,eq_false h7,eq_false h8,eq_true h9,XP,Nat.reduceAdd,Nat.reduceSub,Nat.reduceLT,Nat.reduceLeDiff,Nat.reduceEqDiff,Nat.reduceMul,↓reduceIte]
 by_cases h10:op=[33,61]
 . simp -implicitDefEqProofs only [lw,B1,to,I1,U4,I3,I4,I5,eq_false h1,eq_false h2,eq_false h3,eq_false h4,eq_false h5,eq_false h6,eq_false h7,eq_false h8,eq_false h9,eq_true h10,XP,Nat.reduceAdd,Nat.reduceSub,Nat.reduceLT,Nat.reduceLeDiff,Nat.reduceEqDiff,Nat.reduceMul,↓reduceIte]
 by_cases h11:op=[60]
 . simp -implicitDefEqProofs only [lw,B1,to,I1,U4,I3,I4,I5,eq_false h1,eq_false h2,eq_false h3,eq_false h4,eq_false h5,eq_false h6,eq_false h7,eq_false h8,eq_false h9,eq_false h10,eq_true h11,XP,Nat.reduceAdd,Nat.reduceSub,Nat.reduceLT,Nat.reduceLeDiff,Nat.reduceEqDiff,Nat.reduceMul,↓reduceIte]
 by_cases h12:op=[60,61]
 . simp -implicitDefEqProofs only [lw,B1,to,I1,U4,I3,I4,I5,eq_false h1,eq_false h2,eq_false h3,eq_false h4,eq_false h5,eq_false h6,eq_false h7,eq_false h8,eq_false h9,eq_false h10,eq_false h11,eq_true h12,XP,Nat.reduceAdd,Nat.reduceSub,Nat.reduceLT,Nat.reduceLeDiff,Nat.reduceEqDiff,Nat.reduceMul,↓reduceIte]
 by_cases h13:op=[62]
 . simp -implicitDefEqProofs only [lw,B1,to,I1,U4,I3,I4,I5,eq_false h1,eq_false h2,eq_false h3,eq_false h4,eq_false h5,eq_false h6,eq_false h7,eq_false h8,eq_false h9,eq_false h10,eq_false h11,eq_false h12,eq_true h13,XP,Nat.reduceAdd,Nat.reduceSub,Nat.reduceLT,Nat.reduceLeDiff,Nat.reduceEqDiff,Nat.reduceMul,↓reduceIte]
 by_cases h14:op=[62,61]
 . simp -implicitDefEqProofs only [lw,B1,to,I1,U4,I3,I4,I5,eq_false h1,eq_false h2,eq_false h3,eq_false h4,eq_false h5,eq_false h6,eq_false h7,eq_false h8,eq_false h9,eq_false h10,eq_false h11,eq_false h12,eq_false h13,eq_true h14,XP,Nat.reduceAdd,Nat.reduceSub,Nat.reduceLT,Nat.reduceLeDiff,Nat.reduceEqDiff,Nat.reduceMul,↓reduceIte]
 simp -implicitDefEqProofs only [lw,B1,to,I1,U4,I3,I4,I5,eq_false h1,eq_false h2,eq_false h3,eq_false h4,eq_false h5,eq_false h6,eq_false h7,eq_false h8,eq_false h9,eq_false h10,eq_false h11,eq_false h12,eq_false h13,eq_false h14,XP,Nat.reduceAdd,Nat.reduceSub,Nat.reduceLT,Nat.reduceLeDiff,Nat.reduceEqDiff,Nat.reduceMul,↓reduceIte]
def Hs:=u5 (fun p:(List UInt8) × (Int) × (Int)=>[.str p.1,.int .i32 p.2.1,.int .i32 p.2.2,.int .i64 32]) (fun p=>[.int .i32 (k7 .i32 32 p.1 p.2.1 p.2.2)]) (fun p=>True)
theorem rO (hdoes32:T 81=some Hs) {op:List UInt8} {a:Int} {b:Int} {K:PK}:evP ⟨A0,T,A4⟩ (.call 81 [.str op,.int .i32 a,.int .i32 b,.int .i64 32] K)=some (.val (openTs K.os.length [.int .i32 (k7 .i32 32 op a b)]).1 ⟨K.os ++ (openTs K.os.length [.int .i32 (k7 .i32 32 op a b)]).2,K.ext,K.tch⟩):=C0 hdoes32 (by simp -implicitDefEqProofs only [VV,XP,seval]) (C1 (a:=fun p:(List UInt8) × (Int) × (Int)=>[.str p.1,.int .i32 p.2.1,.int .i32 p.2.2,.int .i64 32]) (r:=fun p=>[.int .i32 (k7 .i32 32 p.1 p.2.1 p.2.2)]) (fun x y e=>by simp only [VJ] at e; simp only [e]) (op,a,b) trivial) (by simp -implicitDefEqProofs only [VN,XP,seval])
theorem jY (hone32:T 88=some Ps) (hP:PEok ⟨A0,T,A4⟩):TC A0 81 Hs:=D1 hP fun p h=>Ws hone32
theorem aA  {b:Bool}:AM.Comes ⟨A0,T,A4⟩ 89 [.bool b] [.int .i64 (if b=true then 1 else 0)]:=by
 refine ⟨[.int .i64 (if b=true then 1 else 0)],⟨[],0,[]⟩,?_,back_of rfl List.nodup_nil rfl rfl rfl⟩
 rw [A7 (c:=II) (nt:=4) (rs:=[.tmp 2]) rfl (by simp)]; unfold II
 unfold K0
 cases b <;> simp -implicitDefEqProofs only [XP,seval]
def Pu:=u5 (fun p:(Bool)=>[.bool p]) (fun p=>[.int .i64 (if p=true then 1 else 0)]) (fun p=>True)
theorem wQ (hone64:T 89=some Pu) {b:Bool} {K:PK}:evP ⟨A0,T,A4⟩ (.call 89 [.bool b] K)=some (.val (openTs K.os.length [.int .i64 (if b=true then 1 else 0)]).1 ⟨K.os ++ (openTs K.os.length [.int .i64 (if b=true then 1 else 0)]).2,K.ext,K.tch⟩):=C0 hone64 (by simp -implicitDefEqProofs only [VV,XP,seval]) (C1 (a:=fun p:(Bool)=>[.bool p]) (r:=fun p=>[.int .i64 (if p=true then 1 else 0)]) (fun x y e=>by simp only [VJ] at e; simp only [e]) (b) trivial) (by simp -implicitDefEqProofs only [VN,XP,seval])
theorem nV  (hP:PEok ⟨A0,T,A4⟩):TC A0 89 Pu:=D1 hP fun p h=>aA
set_option maxHeartbeats 4000000 in
theorem Pv  {op:List UInt8} {a:Int} {b:Int}:AM.Comes ⟨A0,T,A4⟩ 82 [.str op,.int .i64 a,.int .i64 b] [.int .i64 (V0 .i64 op a b).1,.int .i64 (V0 .i64 op a b).2]:=by
 refine ⟨[.int .i64 (V0 .i64 op a b).1,.int .i64 (V0 .i64 op a b).2],⟨[],0,[]⟩,?_,back_of rfl List.nodup_nil rfl rfl rfl⟩
 rw [A7 (c:=IE) (nt:=40) (rs:=[.tmp 6,.tmp 7]) rfl (by simp)]; unfold IE
 unfold K0
 unfold V0
 by_cases h0:b=0
 . simp -implicitDefEqProofs only [eq_true h0,XP,seval]
 by_cases h1:op=[37]
 . by_cases h2:b=-1
   . simp -implicitDefEqProofs only [eq_false h0,eq_true h1,eq_true h2,XP,seval]
   . simp -implicitDefEqProofs only [eq_false h0,eq_true h1,eq_false h2,uU _ _ a h0,XP,seval]
 by_cases h2:b=-1
 . by_cases h3:a=0
   . simp -implicitDefEqProofs only [eq_false h0,eq_true h2,eq_false h1,eq_true h3,Tm _ _ a h0,XP,seval]
   . by_cases h4:IntKind.wrap .i64 (0 - a)=a
     . simp -implicitDefEqProofs only [eq_false h0,eq_true h2,eq_false h1,eq_false h3,fV,eq_true h4,XP,seval]
     . simp -implicitDefEqProofs only [eq_false h0,eq_true h2,eq_false h1,eq_false h3,fV,eq_false h4,Tm _ _ a h0,XP,seval]
 . simp -implicitDefEqProofs only [eq_false h0,eq_false h1,eq_false h2,Tm _ _ a h0,XP,seval]
def x4:=u5 (fun p:(List UInt8) × (Int) × (Int)=>[.str p.1,.int .i64 p.2.1,.int .i64 p.2.2]) (fun p=>[.int .i64 (V0 .i64 p.1 p.2.1 p.2.2).1,.int .i64 (V0 .i64 p.1 p.2.1 p.2.2).2]) (fun p=>True)
theorem jZ (hdivide64:T 82=some x4) {op:List UInt8} {a:Int} {b:Int} {K:PK}:evP ⟨A0,T,A4⟩ (.call 82 [.str op,.int .i64 a,.int .i64 b] K)=some (.val (openTs K.os.length [.int .i64 (V0 .i64 op a b).1,.int .i64 (V0 .i64 op a b).2]).1 ⟨K.os ++ (openTs K.os.length [.int .i64 (V0 .i64 op a b).1,.int .i64 (V0 .i64 op a b).2]).2,K.ext,K.tch⟩):=C0 hdivide64 (by simp -implicitDefEqProofs only [VV,XP,seval]) (C1 (a:=fun p:(List UInt8) × (Int) × (Int)=>[.str p.1,.int .i64 p.2.1,.int .i64 p.2.2]) (r:=fun p=>[.int .i64 (V0 .i64 p.1 p.2.1 p.2.2).1,.int .i64 (V0 .i64 p.1 p.2.1 p.2.2).2]) (fun x y e=>by simp only [VJ] at e; simp only [e]) (op,a,b) trivial) (by simp -implicitDefEqProofs only [VN,XP,seval])
theorem aB  (hP:PEok ⟨A0,T,A4⟩):TC A0 82 x4:=D1 hP fun p h=>Pv
set_option maxHeartbeats 8000000 in
theorem Wu (hone64:T 89=some Pu) {op:List UInt8} {a:Int} {b:Int}:AM.Comes ⟨A0,T,A4⟩ 83 [.str op,.int .i64 a,.int .i64 b,.int .i64 64] [.int .i64 (k7 .i64 64 op a b)]:=by
 refine ⟨[.int .i64 (k7 .i64 64 op a b)],⟨[],0,[]⟩,?_,back_of rfl List.nodup_nil rfl rfl rfl⟩
 rw [A7 (c:=IG) (nt:=93) (rs:=[.tmp 8]) rfl (by simp)]; unfold IG
 unfold K0
 have to:=fun b K=>wQ (K:=K) (b:=b) hone64
 have lw:=DW b
 unfold k7
 by_cases h1:op=[43]
 . simp -implicitDefEqProofs only [lw,B1,to,I1,U4,I3,I4,I5,eq_true h1,XP,Nat.reduceAdd,Nat.reduceSub,Nat.reduceLT,Nat.reduceLeDiff,Nat.reduceEqDiff,Nat.reduceMul,↓reduceIte]
 by_cases h2:op=[45]
 . simp -implicitDefEqProofs only [lw,B1,to,I1,U4,I3,I4,I5,eq_false h1,eq_true h2,XP,Nat.reduceAdd,Nat.reduceSub,Nat.reduceLT,Nat.reduceLeDiff,Nat.reduceEqDiff,Nat.reduceMul,↓reduceIte]
 by_cases h3:op=[42]
 . simp -implicitDefEqProofs only [lw,B1,to,I1,U4,I3,I4,I5,eq_false h1,eq_false h2,eq_true h3,XP,Nat.reduceAdd,Nat.reduceSub,Nat.reduceLT,Nat.reduceLeDiff,Nat.reduceEqDiff,Nat.reduceMul,↓reduceIte]
 by_cases h4:op=[38]
 . simp -implicitDefEqProofs only [lw,B1,to,I1,U4,I3,I4,I5,eq_false h1,eq_false h2,eq_false h3,eq_true h4,XP,Nat.reduceAdd,Nat.reduceSub,Nat.reduceLT,Nat.reduceLeDiff,Nat.reduceEqDiff,Nat.reduceMul,↓reduceIte]
 by_cases h5:op=[124]
 . simp -implicitDefEqProofs only [lw,B1,to,I1,U4,I3,I4,I5,eq_false h1,eq_false h2,eq_false h3,eq_false h4,eq_true h5,XP,Nat.reduceAdd,Nat.reduceSub,Nat.reduceLT,Nat.reduceLeDiff,Nat.reduceEqDiff,Nat.reduceMul,↓reduceIte]
 by_cases h6:op=[94]
 . simp -implicitDefEqProofs only [lw,B1,to,I1,U4,I3,I4,I5,eq_false h1,eq_false h2,eq_false h3,eq_false h4,eq_false h5,eq_true h6,XP,Nat.reduceAdd,Nat.reduceSub,Nat.reduceLT,Nat.reduceLeDiff,Nat.reduceEqDiff,Nat.reduceMul,↓reduceIte]
 by_cases h7:op=[60,60]
 . simp -implicitDefEqProofs only [lw,B1,to,I1,U4,I3,I4,I5,eq_false h1,eq_false h2,eq_false h3,eq_false h4,eq_false h5,eq_false h6,eq_true h7,XP,Nat.reduceAdd,Nat.reduceSub,Nat.reduceLT,Nat.reduceLeDiff,Nat.reduceEqDiff,Nat.reduceMul,↓reduceIte]
 by_cases h8:op=[62,62]
 . simp -implicitDefEqProofs only [lw,B1,to,I1,U4,I3,I4,I5,eq_false h1,eq_false h2,eq_false h3,eq_false h4,eq_false h5,eq_false h6,eq_false h7,eq_true h8,XP,Nat.reduceAdd,Nat.reduceSub,Nat.reduceLT,Nat.reduceLeDiff,Nat.reduceEqDiff,Nat.reduceMul,↓reduceIte]
 by_cases h9:op=[61,61]
 . simp -implicitDefEqProofs only [lw,B1,to,I1,U4,I3,I4,I5,eq_false h1,eq_false h2,eq_false h3,eq_false h4,eq_false h5,eq_false h6,eq_false h7,eq_false h8,eq_true h9,XP,Nat.reduceAdd,Nat.reduceSub,Nat.reduceLT,Nat.reduceLeDiff,Nat.reduceEqDiff,Nat.reduceMul,↓reduceIte]
 by_cases h10:op=[33,61]
 . simp -implicitDefEqProofs only [lw,B1,to,I1,U4,I3,I4,I5,eq_false h1,eq_false h2,eq_false h3,eq_false h4,eq_false h5,eq_false h6,eq_false h7,eq_false h8,eq_false h9,eq_true h10,XP,Nat.reduceAdd,Nat.reduceSub,Nat.reduceLT,Nat.reduceLeDiff,Nat.reduceEqDiff,Nat.reduceMul,↓reduceIte]
 by_cases h11:op=[60]
 . simp -implicitDefEqProofs only [lw,B1,to,I1,U4,I3,I4,I5,eq_false h1,eq_false h2,eq_false h3,eq_false h4,eq_false h5,eq_false h6,eq_false h7,eq_false h8,eq_false h9,eq_false h10,eq_true h11,XP,Nat.reduceAdd,Nat.reduceSub,Nat.reduceLT,Nat.reduceLeDiff,Nat.reduceEqDiff,Nat.reduceMul,↓reduceIte]
 by_cases h12:op=[60,61]
 . simp -implicitDefEqProofs only [lw,B1,to,I1,U4,I3,I4,I5,eq_false h1,eq_false h2,eq_false h3,eq_false h4,eq_false h5,eq_false h6,eq_false h7,eq_false h8,eq_false h9,eq_false h10,eq_false h11,eq_true h12,XP,Nat.reduceAdd,Nat.reduceSub,Nat.reduceLT,Nat.reduceLeDiff,Nat.reduceEqDiff,Nat.reduceMul,↓reduceIte]
 by_cases h13:op=[62]
 . simp -implicitDefEqProofs only [lw,B1,to,I1,U4,I3,I4,I5,eq_false h1,eq_false h2,eq_false h3,eq_false h4,eq_false h5,eq_false h6,eq_false h7,eq_false h8,eq_false h9,eq_false h10,eq_false h11,eq_false h12,eq_true h13,XP,Nat.reduceAdd,Nat.reduceSub,Nat.reduceLT,Nat.reduceLeDiff,Nat.reduceEqDiff,Nat.reduceMul,↓reduceIte]
 by_cases h14:op=[62,61]
 . simp -implicitDefEqProofs only [lw,B1,to,I1,U4,I3,I4,I5,eq_false h1,eq_false h2,eq_false h3,eq_false h4,eq_false h5,eq_false h6,eq_false h7,eq_false h8,eq_false h9,eq_false h10,eq_false h11,eq_false h12,eq_false h13,eq_true h14,XP,Nat.reduceAdd,Nat.reduceSub,Nat.reduceLT,Nat.reduceLeDiff,Nat.reduceEqDiff,Nat.reduceMul,↓reduceIte]
 simp -implicitDefEqProofs only [lw,B1,to,I1,U4,I3,I4,I5,eq_false h1,eq_false h2,eq_false h3,eq_false h4,eq_false h5,eq_false h6,eq_false h7,eq_false h8,eq_false h9,eq_false h10,eq_false h11,eq_false h12,eq_false h13,eq_false h14,XP,Nat.reduceAdd,Nat.reduceSub,Nat.reduceLT,Nat.reduceLeDiff,Nat.reduceEqDiff,Nat.reduceMul,↓reduceIte]
def Ht:=u5 (fun p:(List UInt8) × (Int) × (Int)=>[.str p.1,.int .i64 p.2.1,.int .i64 p.2.2,.int .i64 64]) (fun p=>[.int .i64 (k7 .i64 64 p.1 p.2.1 p.2.2)]) (fun p=>True)
theorem rP (hdoes64:T 83=some Ht) {op:List UInt8} {a:Int} {b:Int} {K:PK}:evP ⟨A0,T,A4⟩ (.call 83 [.str op,.int .i64 a,.int .i64 b,.int .i64 64] K)=some (.val (openTs K.os.length [.int .i64 (k7 .i64 64 op a b)]).1 ⟨K.os ++ (openTs K.os.length [.int .i64 (k7 .i64 64 op a b)]).2,K.ext,K.tch⟩):=C0 hdoes64 (by simp -implicitDefEqProofs only [VV,XP,seval]) (C1 (a:=fun p:(List UInt8) × (Int) × (Int)=>[.str p.1,.int .i64 p.2.1,.int .i64 p.2.2,.int .i64 64]) (r:=fun p=>[.int .i64 (k7 .i64 64 p.1 p.2.1 p.2.2)]) (fun x y e=>by simp only [VJ] at e; simp only [e]) (op,a,b) trivial) (by simp -implicitDefEqProofs only [VN,XP,seval])
theorem kA (hone64:T 89=some Pu) (hP:PEok ⟨A0,T,A4⟩):TC A0 83 Ht:=D1 hP fun p h=>Wu hone64
end Go.Proofs.AmEnv
set_option maxRecDepth 100000
namespace Go.Proofs.AmEnv
open Go Go.AM
variable {T:Nat->Option (List AV->Option (List AV))}
def I6 (k:IntKind) (m:Int) (op:List UInt8) (a b:Int):Int × Int:=if op=[47] then V0 k op a b else if op=[37] then V0 k op a b else (k7 k m op a b,0)
def X2 (t:Int) (op:List UInt8) (a b:Int):Int × Int :=
 if t=1 then (IntKind.wrap .i64 (I6 .i32 32 op (IntKind.wrap .i32 a) (IntKind.wrap .i32 b)).1,(I6 .i32 32 op (IntKind.wrap .i32 a) (IntKind.wrap .i32 b)).2)
 else if t=2 then I6 .i64 64 op a b else (0,0)
theorem aC (hdivide32:T 80=some w9) (hdoes32:T 81=some Hs) {op:List UInt8} {a:Int} {b:Int}:AM.Comes ⟨A0,T,A4⟩ 71 [.str op,.int .i32 a,.int .i32 b,.int .i64 32] [.int .i64 (IntKind.wrap .i64 (I6 .i32 32 op a b).1),.int .i64 (I6 .i32 32 op a b).2]:=by
 refine ⟨[.int .i64 (IntKind.wrap .i64 (I6 .i32 32 op a b).1),.int .i64 (I6 .i32 32 op a b).2],⟨[],0,[]⟩,?_,back_of rfl List.nodup_nil rfl rfl rfl⟩
 rw [A7 (c:=HY) (nt:=34) (rs:=[.tmp 8,.tmp 9]) rfl (by simp)]; unfold HY
 unfold K0
 have td:=fun K=>jX (K:=K) (op:=op) (a:=a) (b:=b) hdivide32
 have te:=fun K=>rO (K:=K) (op:=op) (a:=a) (b:=b) hdoes32
 unfold I6
 by_cases h1:op=[47]
 . simp -implicitDefEqProofs only [td,te,B1,eq_true h1,XP,seval]
 by_cases h2:op=[37]
 . simp -implicitDefEqProofs only [td,te,B1,eq_false h1,eq_true h2,XP,seval]
 simp -implicitDefEqProofs only [td,te,B1,eq_false h1,eq_false h2,XP,seval]
def Pw:=u5 (fun p:(List UInt8) × (Int) × (Int)=>[.str p.1,.int .i32 p.2.1,.int .i32 p.2.2,.int .i64 32]) (fun p=>[.int .i64 (IntKind.wrap .i64 (I6 .i32 32 p.1 p.2.1 p.2.2).1),.int .i64 (I6 .i32 32 p.1 p.2.1 p.2.2).2]) (fun p=>True)
theorem wR (hbin32:T 71=some Pw) {op:List UInt8} {a:Int} {b:Int} {K:PK}:evP ⟨A0,T,A4⟩ (.call 71 [.str op,.int .i32 a,.int .i32 b,.int .i64 32] K)=some (.val (openTs K.os.length [.int .i64 (IntKind.wrap .i64 (I6 .i32 32 op a b).1),.int .i64 (I6 .i32 32 op a b).2]).1 ⟨K.os ++ (openTs K.os.length [.int .i64 (IntKind.wrap .i64 (I6 .i32 32 op a b).1),.int .i64 (I6 .i32 32 op a b).2]).2,K.ext,K.tch⟩):=C0 hbin32 (by simp -implicitDefEqProofs only [VV,XP,seval]) (C1 (a:=fun p:(List UInt8) × (Int) × (Int)=>[.str p.1,.int .i32 p.2.1,.int .i32 p.2.2,.int .i64 32]) (r:=fun p=>[.int .i64 (IntKind.wrap .i64 (I6 .i32 32 p.1 p.2.1 p.2.2).1),.int .i64 (I6 .i32 32 p.1 p.2.1 p.2.2).2]) (fun x y e=>by simp only [VJ] at e; simp only [e]) (op,a,b) trivial) (by simp -implicitDefEqProofs only [VN,XP,seval])
theorem nW (hdivide32:T 80=some w9) (hdoes32:T 81=some Hs) (hP:PEok ⟨A0,T,A4⟩):TC A0 71 Pw:=D1 hP fun p h=>aC hdivide32 hdoes32
theorem aD (hdivide64:T 82=some x4) (hdoes64:T 83=some Ht) {op:List UInt8} {a:Int} {b:Int}:AM.Comes ⟨A0,T,A4⟩ 72 [.str op,.int .i64 a,.int .i64 b,.int .i64 64] [.int .i64 (I6 .i64 64 op a b).1,.int .i64 (I6 .i64 64 op a b).2]:=by
 refine ⟨[.int .i64 (I6 .i64 64 op a b).1,.int .i64 (I6 .i64 64 op a b).2],⟨[],0,[]⟩,?_,back_of rfl List.nodup_nil rfl rfl rfl⟩
 rw [A7 (c:=HZ) (nt:=32) (rs:=[.tmp 8,.tmp 9]) rfl (by simp)]; unfold HZ
 unfold K0
 have td:=fun K=>jZ (K:=K) (op:=op) (a:=a) (b:=b) hdivide64
 have te:=fun K=>rP (K:=K) (op:=op) (a:=a) (b:=b) hdoes64
 unfold I6
 by_cases h1:op=[47]
 . simp -implicitDefEqProofs only [td,te,B1,eq_true h1,XP,seval]
 by_cases h2:op=[37]
 . simp -implicitDefEqProofs only [td,te,B1,eq_false h1,eq_true h2,XP,seval]
 simp -implicitDefEqProofs only [td,te,B1,eq_false h1,eq_false h2,XP,seval]
def Px:=u5 (fun p:(List UInt8) × (Int) × (Int)=>[.str p.1,.int .i64 p.2.1,.int .i64 p.2.2,.int .i64 64]) (fun p=>[.int .i64 (I6 .i64 64 p.1 p.2.1 p.2.2).1,.int .i64 (I6 .i64 64 p.1 p.2.1 p.2.2).2]) (fun p=>True)
theorem wS (hbin64:T 72=some Px) {op:List UInt8} {a:Int} {b:Int} {K:PK}:evP ⟨A0,T,A4⟩ (.call 72 [.str op,.int .i64 a,.int .i64 b,.int .i64 64] K)=some (.val (openTs K.os.length [.int .i64 (I6 .i64 64 op a b).1,.int .i64 (I6 .i64 64 op a b).2]).1 ⟨K.os ++ (openTs K.os.length [.int .i64 (I6 .i64 64 op a b).1,.int .i64 (I6 .i64 64 op a b).2]).2,K.ext,K.tch⟩):=C0 hbin64 (by simp -implicitDefEqProofs only [VV,XP,seval]) (C1 (a:=fun p:(List UInt8) × (Int) × (Int)=>[.str p.1,.int .i64 p.2.1,.int .i64 p.2.2,.int .i64 64]) (r:=fun p=>[.int .i64 (I6 .i64 64 p.1 p.2.1 p.2.2).1,.int .i64 (I6 .i64 64 p.1 p.2.1 p.2.2).2]) (fun x y e=>by simp only [VJ] at e; simp only [e]) (op,a,b) trivial) (by simp -implicitDefEqProofs only [VN,XP,seval])
theorem nX (hdivide64:T 82=some x4) (hdoes64:T 83=some Ht) (hP:PEok ⟨A0,T,A4⟩):TC A0 72 Px:=D1 hP fun p h=>aD hdivide64 hdoes64
theorem Py (hbin32:T 71=some Pw) (hbin64:T 72=some Px) {t:Int} {op:List UInt8} {a:Int} {b:Int}:AM.Comes ⟨A0,T,A4⟩ 55 [.int .i64 t,.str op,.int .i64 a,.int .i64 b] [.int .i64 (X2 t op a b).1,.int .i64 (X2 t op a b).2]:=by
 refine ⟨[.int .i64 (X2 t op a b).1,.int .i64 (X2 t op a b).2],⟨[],0,[]⟩,?_,back_of rfl List.nodup_nil rfl rfl rfl⟩
 rw [A7 (c:=HP) (nt:=29) (rs:=[.tmp 8,.tmp 9]) rfl (by simp)]; unfold HP
 unfold K0
 have t1:=fun K=>wR (K:=K) (op:=op) (a:=IntKind.wrap .i32 a) (b:=IntKind.wrap .i32 b) hbin32
 have t2:=fun K=>wS (K:=K) (op:=op) (a:=a) (b:=b) hbin64
 unfold X2
 by_cases h1:t=1
 . simp -implicitDefEqProofs only [t1,t2,B1,eq_true h1,XP,seval]
 by_cases h2:t=2
 . simp -implicitDefEqProofs only [t1,t2,B1,eq_false h1,eq_true h2,XP,seval]
 simp -implicitDefEqProofs only [t1,t2,B1,eq_false h1,eq_false h2,XP,seval]
def S9:=u5 (fun p:(Int) × (List UInt8) × (Int) × (Int)=>[.int .i64 p.1,.str p.2.1,.int .i64 p.2.2.1,.int .i64 p.2.2.2]) (fun p=>[.int .i64 (X2 p.1 p.2.1 p.2.2.1 p.2.2.2).1,.int .i64 (X2 p.1 p.2.1 p.2.2.1 p.2.2.2).2]) (fun p=>True)
theorem Tn (hword_Bin:T 55=some S9) {t:Int} {op:List UInt8} {a:Int} {b:Int} {K:PK}:evP ⟨A0,T,A4⟩ (.call 55 [.int .i64 t,.str op,.int .i64 a,.int .i64 b] K)=some (.val (openTs K.os.length [.int .i64 (X2 t op a b).1,.int .i64 (X2 t op a b).2]).1 ⟨K.os ++ (openTs K.os.length [.int .i64 (X2 t op a b).1,.int .i64 (X2 t op a b).2]).2,K.ext,K.tch⟩):=C0 hword_Bin (by simp -implicitDefEqProofs only [VV,XP,seval]) (C1 (a:=fun p:(Int) × (List UInt8) × (Int) × (Int)=>[.int .i64 p.1,.str p.2.1,.int .i64 p.2.2.1,.int .i64 p.2.2.2]) (r:=fun p=>[.int .i64 (X2 p.1 p.2.1 p.2.2.1 p.2.2.2).1,.int .i64 (X2 p.1 p.2.1 p.2.2.1 p.2.2.2).2]) (fun x y e=>by simp only [VJ] at e; simp only [e]) (t,op,a,b) trivial) (by simp -implicitDefEqProofs only [VN,XP,seval])
theorem aE (hbin32:T 71=some Pw) (hbin64:T 72=some Px) (hP:PEok ⟨A0,T,A4⟩):TC A0 55 S9:=D1 hP fun p h=>Py hbin32 hbin64
end Go.Proofs.AmEnv
set_option maxRecDepth 100000
namespace Go.Proofs.AmEnv
open Go Go.AM
variable {T:Nat->Option (List AV->Option (List AV))}
section
variable {K:PK} {fr:PF} {x:Operand} {v:AV}
theorem To:prim A0 (.makeInterface 68 x) fr K=.val (.iface 68 (opvP A0 x fr)) K:=rfl
theorem DY (u:Nat):prim A0 (.typeAssert x u 68 false) fr K=u4 (Gp 68 (opvP A0 x fr)) K:=rfl
theorem NE:Gp 68 (.iface 68 v)=some v:=rfl
theorem uV (t:Nat):N4 A0 .neq 20 (.iface t v) .niliface K=.val (.bool true) K:=by rw [bp _ _ rfl rfl]; rfl
theorem uW:N4 A0 .neq 20 .niliface .niliface K=.val (.bool false) K:=by rw [bp _ _ rfl rfl]; rfl
theorem nY:opvP A0 (.const .nilIface) fr=.niliface:=rfl
end
structure Mst where
 steps:Int
 input:List Int
 data:List (List Int)
 out:List Int
 calls:Int
def mB (m:Modl) (s:Mst) (d o:AV):AV:=.agg [fslN (m.gs.map Glo.F),fslN (m.fs.map Cod.F),fslN (ints s.input),.int .i64 s.steps,d,o,.int .i64 0,.int .i64 0,.int .i64 s.calls]
def D3 (st c:Int):AV:=.iface 68 (.agg [.int .i64 st,.int .i64 c])
theorem k8 {K:PK} {n:Nat} {l:List XOp} (h1:(K.tch.all fun i=>decide (n≤i))=false) (h2:(l.all fun o=>!o.careful)=false):l5 n l K=false:=by unfold l5; rw [h1,h2]; rfl
theorem Hu {n:Int} (h1:-9223372036854775808≤n) (h2:n≤9223372036854775807):IntKind.wrap .i64 n=n:=by
 rw [IntKind.wrap_i64]; omega
theorem DZ {K:PK} {n:Int} {l:List Int}:u4 (Ka A0 (.slice 3) (some (.int .i64 1)) none none (fslN (ints (n :: l)))) K=.val (fslN (ints l)) K:=by
 show u4 ((sliceF 1 (ints (n :: l)) false (some (.int .i64 1)) none none).map fun y=>match y with | .fsl l _=>AV.fsl l l.isEmpty | y=>y) K=_
 show u4 ((B0 (Nat.ble 1 (lenL (ints (n :: l))) && Nat.ble (lenL (ints (n :: l))) (lenL (ints (n :: l))) && Nat.ble (lenL (ints (n :: l))) (lenL (ints (n :: l))) && true) (some (AV.fsl (takeL (dropL (ints (n :: l)) 1) (Nat.sub (lenL (ints (n :: l))) 1)) (false && Nat.beq (lenL (ints (n :: l))) (lenL (ints (n :: l))))))).map fun y=>match y with | .fsl l _=>AV.fsl l l.isEmpty | y=>y) K=_
 rw [A5,Nat.ble_eq_true_of_le (show 1≤(ints (n :: l)).length by simp),Nat.ble_eq_true_of_le (Nat.le_refl _),F6,F5]
 show OpS.val (.fsl (((ints (n :: l)).drop 1).take ((ints (n :: l)).length - 1)) (((ints (n :: l)).drop 1).take ((ints (n :: l)).length - 1)).isEmpty) K=_
 rw [List.take_of_length_le (by simp)]
 rfl
section
variable {m:Modl} {s:Mst} {d o:AV} {rest:List PO} {ext:Nat} {tch:List Nat}
theorem f8 (hN:T 40=none) (h:1≤s.steps) (hs:s.steps≤20000):evP ⟨A0,T,A4⟩ (.call 40 [.ptr 0 0 0] ⟨(.row 1 [mB m s d o] 9 :: rest),ext,tch⟩)=some (.val [] ⟨.row 1 [mB m { s with steps:=s.steps - 1 } d o] 9 :: rest,ext,[0] ++ tch⟩):=by
 have hq:¬ s.steps < 1:=by omega
 rw [Dh hN rfl]
 rw [A7 (c:=zA) (nt:=16) (rs:=[]) rfl (by simp)]; unfold zA
 unfold mB
 have hw:=Hu (n:=s.steps - 1) (by omega) (by omega)
 simp -implicitDefEqProofs only [eq_false hq,hw,To,XP,seval]
theorem fW (hN:T 40=none) (h:¬ 1≤s.steps):evP ⟨A0,T,A4⟩ (.call 40 [.ptr 0 0 0] ⟨(.row 1 [mB m s d o] 9 :: rest),ext,tch⟩)=some (.pan (D3 3 0) ⟨(.row 1 [mB m s d o] 9 :: rest),ext,tch⟩):=by
 have hq:s.steps < 1:=by omega
 rw [Dh hN rfl]
 rw [A7 (c:=zA) (nt:=16) (rs:=[]) rfl (by simp)]; unfold zA
 unfold mB D3
 simp -implicitDefEqProofs only [eq_true hq,To,XP,seval]
theorem rQ (hN:T 39=none) {K:PK}:evP ⟨A0,T,A4⟩ (.call 39 [.int .i64 0] K)=some (.val [] K):=by
 rw [Dh hN rfl]
 rw [A7 (c:=yZ) (nt:=7) (rs:=[]) rfl (by simp)]; unfold yZ
 simp -implicitDefEqProofs only [To,XP,seval]
theorem Ms (hN:T 39=none) {K:PK} {t:Int} (h:¬ t=0):evP ⟨A0,T,A4⟩ (.call 39 [.int .i64 t] K)=some (.pan (D3 2 t) K):=by
 rw [Dh hN rfl]
 rw [A7 (c:=yZ) (nt:=7) (rs:=[]) rfl (by simp)]; unfold yZ
 unfold D3
 simp -implicitDefEqProofs only [eq_false h,To,XP,seval]
theorem wT (hN:T 58=none) (h:s.input=[]):evP ⟨A0,T,A4⟩ (.call 58 [.ptr 0 0 0] ⟨(.row 1 [mB m s d o] 9 :: rest),ext,tch⟩)=some (.val [.int .i64 0] ⟨(.row 1 [mB m s d o] 9 :: rest),ext,tch⟩):=by
 rw [Dh hN rfl]
 rw [A7 (c:=zB) (nt:=25) (rs:=[.tmp 2]) rfl (by simp)]; unfold zB
 unfold mB
 have hl0:decide (((ints []).length:Int)=0)=true:=rfl
 simp -implicitDefEqProofs only [h,hl0,To,XP,seval]
theorem wU (hN:T 58=none) {n:Int} {l:List Int} (h:s.input=n :: l):evP ⟨A0,T,A4⟩ (.call 58 [.ptr 0 0 0] ⟨(.row 1 [mB m s d o] 9 :: rest),ext,tch⟩)=some (.val [.int .i64 n] ⟨.row 1 [mB m { s with input:=l } d o] 9 :: rest,ext,[0] ++ tch⟩):=by
 rw [Dh hN rfl]
 rw [A7 (c:=zB) (nt:=25) (rs:=[.tmp 2]) rfl (by simp)]; unfold zB
 unfold mB
 have hl0:decide (((ints (n :: l)).length:Int)=0)=false:=by simp; omega
 have hi:Si ty3 (fslN (ints (n :: l))) (.int .i64 0)=some (.fptr (.int .i64 n) 0):=ix_fslN (i:=0) rfl rfl
 simp -implicitDefEqProofs only [h,hl0,hi,DZ,To,XP,seval]
end
end Go.Proofs.AmEnv
set_option maxRecDepth 100000
namespace Go.Proofs.AmEnv
open Go Go.AM
variable {T:Nat->Option (List AV->Option (List AV))}
abbrev at' (l:List Int) (i:Int):Int:=l.getD i.toNat 0
abbrev put' (l:List Int) (i v:Int):List Int:=l.set i.toNat v
theorem L3 {r:List Int} {d:Nat} {v:Int}:(ints r).set d (.int .i64 v)=ints (r.set d v):=by
 rw [ints,ints,List.map_set]
def rowO (l:List Int):AV:=ownd 0 1 (ints l)
theorem aF {l:List (List Int)} {i:Nat} {v:List Int}:(l.map rowO).set i (ownd 0 1 (ints v))=(l.set i v).map rowO:=by rw [List.map_set]; rfl
theorem x5 {l:List (List Int)} {i:Nat} (h:i < l.length):(l.map rowO)[i]?=some (ownd 0 1 (ints l[i])):=by rw [List.getElem?_map,List.getElem?_eq_getElem h]; rfl
theorem thereD_iff {a n:Int}:thereD a n=true ↔ 0≤a∧a < n:=by unfold thereD; simp
theorem nZ (k sz o:Nat) (es:List AV) (c:AV):putCl (ownd k sz es) o c=c:=rfl
theorem oB {l:List Int} {v:Int}:ints l ++ [.int .i64 v]=ints (l ++ [v]):=by simp [ints]
theorem gD {l:List Int} {i:Nat} (h:i < l.length):l.getD i 0=l[i]:=by simp [List.getD_eq_getElem?_getD,h]
theorem zD {l:List (List Int)} {i:Nat} (h:i < l.length):l.getD i []=l[i]:=by simp [List.getD_eq_getElem?_getD,h]
theorem uX {l:List Glo} {i:Nat} {g:Glo} (h:i < l.length):l.getD i g=l[i]:=by simp [List.getD_eq_getElem?_getD,h]
def dA (f:Bool) (i:Nat) (s:Mst):AV:=match f with | true=>.msl i 0 s.data.length 1 | false=>.nilsl
def dR (f:Bool) (s:Mst):List PO:=match f with | true=>[.row 0 (s.data.map rowO) 1] | false=>[]
def oA (f n:Bool) (i:Nat) (o:List Int):AV:=match f,n with | false,false=>.nilsl | false,true=>.msl i 0 o.length 1 | true,false=>.msl i 0 o.length 1 | true,true=>.msl (i + 1) 0 o.length 1
def oR (f n:Bool) (o:List Int):List PO:=match f,n with | false,false=>[] | false,true=>[.row 0 (ints o) 1] | true,false=>[.row 0 (ints o) 1] | true,true=>[.dead,.row 0 (ints o) 1]
def nB (f:Bool):Nat:=match f with | true=>1 | false=>0
def c8 (fd fo n:Bool) (m:Modl) (s:Mst) (r:List Int):List PO:=.row 1 [mB m s (dA fd 2 s) (oA fo n (2 + nB fd) s.out)] 9 :: .row 0 (ints r) 1 :: (dR fd s ++ oR fo n s.out)
def gAt (m:Modl) (i:Int):Glo:=m.gs.getD i.toNat ⟨[],0,0,0⟩
def dAt (s:Mst) (i:Int):List Int:=s.data.getD i.toNat []
def doesI (m:Modl) (x:Ins) (r:List Int) (s:Mst):Int × Mst × List Int :=
 if x.op=1 then (0,s,put' r x.dst x.n)
 else if x.op=2 then (0,s,put' r x.dst (at' r x.a))
 else if x.op=3 then (if (X2 x.ty x.s (at' r x.a) (at' r x.b)).2=0 then (0,s,put' r x.dst (X2 x.ty x.s (at' r x.a) (at' r x.b)).1) else ((X2 x.ty x.s (at' r x.a) (at' r x.b)).2,s,r))
 else if x.op=4 then (0,s,put' r x.dst (wrapD x.ty (at' r x.a)))
 else if x.op=5 then (if thereD (at' r x.a) (gAt m x.n).size=true then (0,s,put' r x.dst (at' (dAt s x.n) (at' r x.a))) else (3,s,r))
 else if x.op=6 then (if thereD (at' r x.a) (gAt m x.n).size=true then (0,{ s with data:=s.data.set x.n.toNat (put' (dAt s x.n) (at' r x.a) (wrapD (gAt m x.n).ty (at' r x.b))) },r) else (3,s,r))
 else if x.op=7 then (0,s,put' r x.dst (at' (dAt s x.n) 0))
 else if x.op=8 then (0,{ s with data:=s.data.set x.n.toNat (put' (dAt s x.n) 0 (at' r x.a)) },r)
 else if x.op=10 then (0,{ s with input:=s.input.tail },put' r x.dst (s.input.headD 0))
 else if x.op=11 then (0,{ s with out:=s.out ++ [at' r x.a] },r)
 else (0,s,r)
structure InsOk (m:Modl) (x:Ins) (r:List Int) (s:Mst):Prop where
 dst:x.op=1∨x.op=2∨x.op=3∨x.op=4∨x.op=5∨x.op=7∨x.op=10->0≤x.dst∧x.dst < r.length
 a:x.op=2∨x.op=3∨x.op=4∨x.op=5∨x.op=6∨x.op=8∨x.op=11->0≤x.a∧x.a < r.length
 b:x.op=3∨x.op=6->0≤x.b∧x.b < r.length
 n:x.op=5∨x.op=6∨x.op=7∨x.op=8->0≤x.n∧x.n < m.gs.length
 d:s.data.length=m.gs.length∧∀ (i:Nat) l g,s.data[i]?=some l->m.gs[i]?=some g->(l.length:Int)=max g.size 1
section
variable {m:Modl} {s:Mst} {fd fo:Bool} {r:List Int} {x:Ins}
set_option maxHeartbeats 4000000 in
set_option maxHeartbeats 4000000 in
set_option maxHeartbeats 4000000 in
set_option maxHeartbeats 4000000 in
set_option maxHeartbeats 4000000 in
set_option maxHeartbeats 4000000 in
set_option maxHeartbeats 4000000 in
theorem NF (h:x.op=1) (ho:InsOk m x r s) (hd0:fd=false->s.data=[]) (hol:s.out.length≤30000):∃ tch,evP ⟨A0,T,A4⟩ (.body 42 [.ptr 0 0 0,x.F,.msl 1 0 r.length 1] ⟨c8 fd fo false m s r,2 + nB fd + nB fo,[]⟩)=some (.val [] ⟨c8 fd fo false m s (put' r x.dst x.n),2 + nB fd + nB fo,tch⟩):=by
 obtain ⟨d,hd,hd2⟩:∃ d:Nat,x.dst=d∧d < r.length:=by have:=ho.dst (by omega); exact ⟨x.dst.toNat,by omega,by omega⟩
 rw [A7 (c:=El) (nt:=173) (rs:=[]) rfl (by simp)]; unfold El
 unfold Q9 Q8 c7 c8 mB Ins.F
 cases fd <;> cases fo <;> (
  simp only [dA,dR,oA,oR,nB,put',at',hd]
  simp -implicitDefEqProofs only [eq_true h,A8 hd2,hd2,L3,Int.toNat_natCast,XP,seval]
  exact ⟨_,rfl⟩)
set_option maxHeartbeats 4000000 in
theorem NG (h:x.op=2) (ho:InsOk m x r s) (hd0:fd=false->s.data=[]) (hol:s.out.length≤30000):∃ tch,evP ⟨A0,T,A4⟩ (.body 42 [.ptr 0 0 0,x.F,.msl 1 0 r.length 1] ⟨c8 fd fo false m s r,2 + nB fd + nB fo,[]⟩)=some (.val [] ⟨c8 fd fo false m s (put' r x.dst (at' r x.a)),2 + nB fd + nB fo,tch⟩):=by
 obtain ⟨d,hd,hd2⟩:∃ d:Nat,x.dst=d∧d < r.length:=by have:=ho.dst (by omega); exact ⟨x.dst.toNat,by omega,by omega⟩
 obtain ⟨a,ha,ha2⟩:∃ a:Nat,x.a=a∧a < r.length:=by have:=ho.a (by omega); exact ⟨x.a.toNat,by omega,by omega⟩
 rw [A7 (c:=El) (nt:=173) (rs:=[]) rfl (by simp)]; unfold El
 unfold Q9 Q8 c7 j6 c8 mB Ins.F
 cases fd <;> cases fo <;> (
  simp only [dA,dR,oA,oR,nB,put',at',hd,ha]
  simp -implicitDefEqProofs only [eq_true h,eq_false (show ¬ x.op=1 by omega),A8 hd2,hd2,A8 ha2,ha2,gD ha2,L3,Int.toNat_natCast,XP,seval]
  exact ⟨_,rfl⟩)
set_option maxHeartbeats 4000000 in
theorem NH (hB:T 55=some S9) (hN:T 39=none) (h:x.op=3) (ho:InsOk m x r s) (hd0:fd=false->s.data=[]) (hol:s.out.length≤30000) (hv:(X2 x.ty x.s (at' r x.a) (at' r x.b)).2=0):∃ tch,evP ⟨A0,T,A4⟩ (.body 42 [.ptr 0 0 0,x.F,.msl 1 0 r.length 1] ⟨c8 fd fo false m s r,2 + nB fd + nB fo,[]⟩)=some (.val [] ⟨c8 fd fo false m s (put' r x.dst (X2 x.ty x.s (at' r x.a) (at' r x.b)).1),2 + nB fd + nB fo,tch⟩):=by
 obtain ⟨d,hd,hd2⟩:∃ d:Nat,x.dst=d∧d < r.length:=by have:=ho.dst (by omega); exact ⟨x.dst.toNat,by omega,by omega⟩
 obtain ⟨a,ha,ha2⟩:∃ a:Nat,x.a=a∧a < r.length:=by have:=ho.a (by omega); exact ⟨x.a.toNat,by omega,by omega⟩
 obtain ⟨b,hb,hb2⟩:∃ b:Nat,x.b=b∧b < r.length:=by have:=ho.b (by omega); exact ⟨x.b.toNat,by omega,by omega⟩
 have tb:=fun K=>Tn (K:=K) (t:=x.ty) (op:=x.s) (a:=r[a]) (b:=r[b]) hB
 rw [at',at',ha,hb,Int.toNat_natCast,Int.toNat_natCast,gD ha2,gD hb2] at hv
 rw [hv] at tb
 rw [A7 (c:=El) (nt:=173) (rs:=[]) rfl (by simp)]; unfold El
 unfold Q9 Q8 c7 j6 r7 c8 mB Ins.F
 cases fd <;> cases fo <;> (
  simp only [dA,dR,oA,oR,nB,put',at',hd,ha,hb]
  simp -implicitDefEqProofs only [eq_true h,eq_false (show ¬ x.op=1 by omega),eq_false (show ¬ x.op=2 by omega),A8 hd2,hd2,A8 ha2,ha2,gD ha2,A8 hb2,hb2,gD hb2,L3,tb,rQ hN,Int.toNat_natCast,XP,seval]
  exact ⟨_,rfl⟩)
set_option maxHeartbeats 4000000 in
theorem EA (hB:T 55=some S9) (hN:T 39=none) (h:x.op=3) (ho:InsOk m x r s) (hd0:fd=false->s.data=[]) (hol:s.out.length≤30000) (hv:¬ (X2 x.ty x.s (at' r x.a) (at' r x.b)).2=0):∃ tch,evP ⟨A0,T,A4⟩ (.body 42 [.ptr 0 0 0,x.F,.msl 1 0 r.length 1] ⟨c8 fd fo false m s r,2 + nB fd + nB fo,[]⟩)=some (.pan (D3 2 (X2 x.ty x.s (at' r x.a) (at' r x.b)).2) ⟨c8 fd fo false m s r,2 + nB fd + nB fo,tch⟩):=by
 obtain ⟨d,hd,hd2⟩:∃ d:Nat,x.dst=d∧d < r.length:=by have:=ho.dst (by omega); exact ⟨x.dst.toNat,by omega,by omega⟩
 obtain ⟨a,ha,ha2⟩:∃ a:Nat,x.a=a∧a < r.length:=by have:=ho.a (by omega); exact ⟨x.a.toNat,by omega,by omega⟩
 obtain ⟨b,hb,hb2⟩:∃ b:Nat,x.b=b∧b < r.length:=by have:=ho.b (by omega); exact ⟨x.b.toNat,by omega,by omega⟩
 have tb:=fun K=>Tn (K:=K) (t:=x.ty) (op:=x.s) (a:=r[a]) (b:=r[b]) hB
 rw [at',at',ha,hb,Int.toNat_natCast,Int.toNat_natCast,gD ha2,gD hb2] at hv
 rw [A7 (c:=El) (nt:=173) (rs:=[]) rfl (by simp)]; unfold El
 unfold Q9 Q8 c7 j6 r7 c8 mB Ins.F
 cases fd <;> cases fo <;> (
  simp only [dA,dR,oA,oR,nB,put',at',hd,ha,hb]
  simp -implicitDefEqProofs only [eq_true h,eq_false (show ¬ x.op=1 by omega),eq_false (show ¬ x.op=2 by omega),A8 hd2,hd2,A8 ha2,ha2,gD ha2,A8 hb2,hb2,gD hb2,L3,tb,fun K=>Ms (K:=K) hN hv,Int.toNat_natCast,XP,seval]
  exact ⟨_,rfl⟩)
set_option maxHeartbeats 4000000 in
theorem NI (hW:T 56=some E8) (h:x.op=4) (ho:InsOk m x r s) (hd0:fd=false->s.data=[]) (hol:s.out.length≤30000):∃ tch,evP ⟨A0,T,A4⟩ (.body 42 [.ptr 0 0 0,x.F,.msl 1 0 r.length 1] ⟨c8 fd fo false m s r,2 + nB fd + nB fo,[]⟩)=some (.val [] ⟨c8 fd fo false m s (put' r x.dst (wrapD x.ty (at' r x.a))),2 + nB fd + nB fo,tch⟩):=by
 obtain ⟨d,hd,hd2⟩:∃ d:Nat,x.dst=d∧d < r.length:=by have:=ho.dst (by omega); exact ⟨x.dst.toNat,by omega,by omega⟩
 obtain ⟨a,ha,ha2⟩:∃ a:Nat,x.a=a∧a < r.length:=by have:=ho.a (by omega); exact ⟨x.a.toNat,by omega,by omega⟩
 have tw:=fun K=>Am (K:=K) (t:=x.ty) (v:=r[a]) hW
 rw [A7 (c:=El) (nt:=173) (rs:=[]) rfl (by simp)]; unfold El
 unfold Q9 Q8 c7 j6 r7 Ay c8 mB Ins.F
 cases fd <;> cases fo <;> (
  simp only [dA,dR,oA,oR,nB,put',at',hd,ha]
  simp -implicitDefEqProofs only [eq_true h,eq_false (show ¬ x.op=1 by omega),eq_false (show ¬ x.op=2 by omega),eq_false (show ¬ x.op=3 by omega),A8 hd2,hd2,A8 ha2,ha2,gD ha2,L3,tw,Int.toNat_natCast,XP,seval]
  exact ⟨_,rfl⟩)
theorem Wv (hE:T 57=none) (a b c:AV) (K:PK):evP ⟨A0,T,A4⟩ (.call 57 [a,b,c] K)=lC K (Iw A0 [.tmp 6] (evP ⟨A0,T,A4⟩ (.code uS (enterP 0 [a,b,c]) ⟨K.os,K.os.length,[]⟩))):=by
 rw [Dh hE rfl,A7 (c:=uS) (nt:=29) (rs:=[.tmp 6]) rfl (by simp)]
set_option maxHeartbeats 4000000 in
theorem NJ (hE:T 57=none) (hN:T 39=none) (hT:T 54=some C6) (h:x.op=5) (ho:InsOk m x r s) (hd0:fd=false->s.data=[]) (hol:s.out.length≤30000) (hv:thereD (at' r x.a) (gAt m x.n).size=true):∃ tch,evP ⟨A0,T,A4⟩ (.body 42 [.ptr 0 0 0,x.F,.msl 1 0 r.length 1] ⟨c8 fd fo false m s r,2 + nB fd + nB fo,[]⟩)=some (.val [] ⟨c8 fd fo false m s (put' r x.dst (at' (dAt s x.n) (at' r x.a))),2 + nB fd + nB fo,tch⟩):=by
 obtain ⟨d,hd,hd2⟩:∃ d:Nat,x.dst=d∧d < r.length:=by have:=ho.dst (by omega); exact ⟨x.dst.toNat,by omega,by omega⟩
 obtain ⟨a,ha,ha2⟩:∃ a:Nat,x.a=a∧a < r.length:=by have:=ho.a (by omega); exact ⟨x.a.toNat,by omega,by omega⟩
 obtain ⟨n,hn,hn2⟩:∃ n:Nat,x.n=n∧n < m.gs.length:=by have:=ho.n (by omega); exact ⟨x.n.toNat,by omega,by omega⟩
 have hn3:n < s.data.length:=by have:=ho.d.1; omega
 have hfd:fd=true:=by cases fd with | true=>rfl | false=>have:=hd0 rfl; rw [this] at hn3; simp at hn3
 subst hfd
 have hlen:=ho.d.2 n _ _ (List.getElem?_eq_getElem hn3) (List.getElem?_eq_getElem hn2)
 have hg:=B4 (F:=Glo.F) hn2
 simp only [Glo.F] at hg
 rw [at',gAt,ha,hn,Int.toNat_natCast,Int.toNat_natCast,gD ha2,uX hn2] at hv
 obtain ⟨e,he,he2⟩:∃ e:Nat,r[a]=e∧e < s.data[n].length:=by have:=thereD_iff.1 hv; exact ⟨r[a].toNat,by omega,by omega⟩
 have tt:=fun K=>N0 (K:=K) (a:=(e:Int)) (n:=m.gs[n].size) hT
 rw [he] at hv
 rw [hv] at tt
 rw [A7 (c:=El) (nt:=173) (rs:=[]) rfl (by simp)]; unfold El
 unfold Q9 Q8 c7 j6 r7 Ay Ck c8 mB Ins.F
 cases fo <;> (
  simp only [dA,dR,oA,oR,nB,put',at',hd,ha,hn]
  simp -implicitDefEqProofs only [eq_true h,eq_false (show ¬ x.op=1 by omega),eq_false (show ¬ x.op=2 by omega),eq_false (show ¬ x.op=3 by omega),eq_false (show ¬ x.op=4 by omega),A8 ha2,ha2,gD ha2,gAt,dAt,uX hn2,zD hn3,hg,x5 hn3,hn3,tt,Wv hE,uS,List.length_map,A8 hd2,hd2,L3,he,A8 he2,he2,gD he2,Int.toNat_natCast,XP,seval]
  exact ⟨_,rfl⟩)
set_option maxHeartbeats 4000000 in
theorem EB (hE:T 57=none) (hN:T 39=none) (hT:T 54=some C6) (h:x.op=5) (ho:InsOk m x r s) (hd0:fd=false->s.data=[]) (hol:s.out.length≤30000) (hv:¬ thereD (at' r x.a) (gAt m x.n).size=true):∃ tch,evP ⟨A0,T,A4⟩ (.body 42 [.ptr 0 0 0,x.F,.msl 1 0 r.length 1] ⟨c8 fd fo false m s r,2 + nB fd + nB fo,[]⟩)=some (.pan (D3 2 3) ⟨c8 fd fo false m s r,2 + nB fd + nB fo,tch⟩):=by
 obtain ⟨d,hd,hd2⟩:∃ d:Nat,x.dst=d∧d < r.length:=by have:=ho.dst (by omega); exact ⟨x.dst.toNat,by omega,by omega⟩
 obtain ⟨a,ha,ha2⟩:∃ a:Nat,x.a=a∧a < r.length:=by have:=ho.a (by omega); exact ⟨x.a.toNat,by omega,by omega⟩
 obtain ⟨n,hn,hn2⟩:∃ n:Nat,x.n=n∧n < m.gs.length:=by have:=ho.n (by omega); exact ⟨x.n.toNat,by omega,by omega⟩
 have hn3:n < s.data.length:=by have:=ho.d.1; omega
 have hfd:fd=true:=by cases fd with | true=>rfl | false=>have:=hd0 rfl; rw [this] at hn3; simp at hn3
 subst hfd
 have hlen:=ho.d.2 n _ _ (List.getElem?_eq_getElem hn3) (List.getElem?_eq_getElem hn2)
 have hg:=B4 (F:=Glo.F) hn2
 simp only [Glo.F] at hg
 rw [at',gAt,ha,hn,Int.toNat_natCast,Int.toNat_natCast,gD ha2,uX hn2] at hv
 have tt:=fun K=>N0 (K:=K) (a:=r[a]) (n:=m.gs[n].size) hT
 rw [Bool.eq_false_iff.2 hv] at tt
 rw [A7 (c:=El) (nt:=173) (rs:=[]) rfl (by simp)]; unfold El
 unfold Q9 Q8 c7 j6 r7 Ay Ck c8 mB Ins.F
 cases fo <;> (
  simp only [dA,dR,oA,oR,nB,put',at',hd,ha,hn]
  simp -implicitDefEqProofs only [eq_true h,eq_false (show ¬ x.op=1 by omega),eq_false (show ¬ x.op=2 by omega),eq_false (show ¬ x.op=3 by omega),eq_false (show ¬ x.op=4 by omega),A8 ha2,ha2,gD ha2,gAt,dAt,uX hn2,zD hn3,hg,x5 hn3,hn3,tt,Wv hE,uS,List.length_map,A8 hd2,hd2,L3,fun K=>Ms (K:=K) hN (t:=3) (by decide),Int.toNat_natCast,XP,seval]
  exact ⟨_,rfl⟩)
set_option maxHeartbeats 4000000 in
theorem NK (hE:T 57=none) (hN:T 39=none) (hT:T 54=some C6) (hW:T 56=some E8) (h:x.op=6) (ho:InsOk m x r s) (hd0:fd=false->s.data=[]) (hol:s.out.length≤30000) (hv:thereD (at' r x.a) (gAt m x.n).size=true):∃ tch,evP ⟨A0,T,A4⟩ (.body 42 [.ptr 0 0 0,x.F,.msl 1 0 r.length 1] ⟨c8 fd fo false m s r,2 + nB fd + nB fo,[]⟩)=some (.val [] ⟨c8 fd fo false m { s with data:=s.data.set x.n.toNat (put' (dAt s x.n) (at' r x.a) (wrapD (gAt m x.n).ty (at' r x.b))) } r,2 + nB fd + nB fo,tch⟩):=by
 obtain ⟨a,ha,ha2⟩:∃ a:Nat,x.a=a∧a < r.length:=by have:=ho.a (by omega); exact ⟨x.a.toNat,by omega,by omega⟩
 obtain ⟨b,hb,hb2⟩:∃ b:Nat,x.b=b∧b < r.length:=by have:=ho.b (by omega); exact ⟨x.b.toNat,by omega,by omega⟩
 obtain ⟨n,hn,hn2⟩:∃ n:Nat,x.n=n∧n < m.gs.length:=by have:=ho.n (by omega); exact ⟨x.n.toNat,by omega,by omega⟩
 have hn3:n < s.data.length:=by have:=ho.d.1; omega
 have hfd:fd=true:=by cases fd with | true=>rfl | false=>have:=hd0 rfl; rw [this] at hn3; simp at hn3
 subst hfd
 have hlen:=ho.d.2 n _ _ (List.getElem?_eq_getElem hn3) (List.getElem?_eq_getElem hn2)
 have hg:=B4 (F:=Glo.F) hn2
 simp only [Glo.F] at hg
 rw [at',gAt,ha,hn,Int.toNat_natCast,Int.toNat_natCast,gD ha2,uX hn2] at hv
 obtain ⟨e,he,he2⟩:∃ e:Nat,r[a]=e∧e < s.data[n].length:=by have:=thereD_iff.1 hv; exact ⟨r[a].toNat,by omega,by omega⟩
 have tt:=fun K=>N0 (K:=K) (a:=(e:Int)) (n:=m.gs[n].size) hT
 rw [he] at hv
 rw [hv] at tt
 have tw:=fun K=>Am (K:=K) (t:=m.gs[n].ty) (v:=r[b]) hW
 rw [A7 (c:=El) (nt:=173) (rs:=[]) rfl (by simp)]; unfold El
 unfold Q9 Q8 c7 j6 r7 Ay Ck Hj c8 mB Ins.F
 cases fo <;> (
  simp only [dA,dR,oA,oR,nB,put',at',ha,hb,hn]
  simp -implicitDefEqProofs only [eq_true h,eq_false (show ¬ x.op=1 by omega),eq_false (show ¬ x.op=2 by omega),eq_false (show ¬ x.op=3 by omega),eq_false (show ¬ x.op=4 by omega),eq_false (show ¬ x.op=5 by omega),A8 ha2,ha2,gD ha2,gAt,dAt,uX hn2,zD hn3,hg,x5 hn3,hn3,tt,Wv hE,uS,List.length_map,A8 hb2,hb2,gD hb2,tw,aF,nZ,L3,he,A8 he2,he2,gD he2,List.length_set,Int.toNat_natCast,XP,seval]
  exact ⟨_,rfl⟩)
set_option maxHeartbeats 4000000 in
theorem EC (hE:T 57=none) (hN:T 39=none) (hT:T 54=some C6) (hW:T 56=some E8) (h:x.op=6) (ho:InsOk m x r s) (hd0:fd=false->s.data=[]) (hol:s.out.length≤30000) (hv:¬ thereD (at' r x.a) (gAt m x.n).size=true):∃ tch,evP ⟨A0,T,A4⟩ (.body 42 [.ptr 0 0 0,x.F,.msl 1 0 r.length 1] ⟨c8 fd fo false m s r,2 + nB fd + nB fo,[]⟩)=some (.pan (D3 2 3) ⟨c8 fd fo false m s r,2 + nB fd + nB fo,tch⟩):=by
 obtain ⟨a,ha,ha2⟩:∃ a:Nat,x.a=a∧a < r.length:=by have:=ho.a (by omega); exact ⟨x.a.toNat,by omega,by omega⟩
 obtain ⟨b,hb,hb2⟩:∃ b:Nat,x.b=b∧b < r.length:=by have:=ho.b (by omega); exact ⟨x.b.toNat,by omega,by omega⟩
 obtain ⟨n,hn,hn2⟩:∃ n:Nat,x.n=n∧n < m.gs.length:=by have:=ho.n (by omega); exact ⟨x.n.toNat,by omega,by omega⟩
 have hn3:n < s.data.length:=by have:=ho.d.1; omega
 have hfd:fd=true:=by cases fd with | true=>rfl | false=>have:=hd0 rfl; rw [this] at hn3; simp at hn3
 subst hfd
 have hlen:=ho.d.2 n _ _ (List.getElem?_eq_getElem hn3) (List.getElem?_eq_getElem hn2)
 have hg:=B4 (F:=Glo.F) hn2
 simp only [Glo.F] at hg
 rw [at',gAt,ha,hn,Int.toNat_natCast,Int.toNat_natCast,gD ha2,uX hn2] at hv
 have tt:=fun K=>N0 (K:=K) (a:=r[a]) (n:=m.gs[n].size) hT
 rw [Bool.eq_false_iff.2 hv] at tt
 have tw:=fun K=>Am (K:=K) (t:=m.gs[n].ty) (v:=r[b]) hW
 rw [A7 (c:=El) (nt:=173) (rs:=[]) rfl (by simp)]; unfold El
 unfold Q9 Q8 c7 j6 r7 Ay Ck Hj c8 mB Ins.F
 cases fo <;> (
  simp only [dA,dR,oA,oR,nB,put',at',ha,hb,hn]
  simp -implicitDefEqProofs only [eq_true h,eq_false (show ¬ x.op=1 by omega),eq_false (show ¬ x.op=2 by omega),eq_false (show ¬ x.op=3 by omega),eq_false (show ¬ x.op=4 by omega),eq_false (show ¬ x.op=5 by omega),A8 ha2,ha2,gD ha2,gAt,dAt,uX hn2,zD hn3,hg,x5 hn3,hn3,tt,Wv hE,uS,List.length_map,A8 hb2,hb2,gD hb2,tw,fun K=>Ms (K:=K) hN (t:=3) (by decide),Int.toNat_natCast,XP,seval]
  exact ⟨_,rfl⟩)
set_option maxHeartbeats 4000000 in
theorem NL (h:x.op=7) (ho:InsOk m x r s) (hd0:fd=false->s.data=[]) (hol:s.out.length≤30000):∃ tch,evP ⟨A0,T,A4⟩ (.body 42 [.ptr 0 0 0,x.F,.msl 1 0 r.length 1] ⟨c8 fd fo false m s r,2 + nB fd + nB fo,[]⟩)=some (.val [] ⟨c8 fd fo false m s (put' r x.dst (at' (dAt s x.n) 0)),2 + nB fd + nB fo,tch⟩):=by
 obtain ⟨d,hd,hd2⟩:∃ d:Nat,x.dst=d∧d < r.length:=by have:=ho.dst (by omega); exact ⟨x.dst.toNat,by omega,by omega⟩
 obtain ⟨n,hn,hn2⟩:∃ n:Nat,x.n=n∧n < m.gs.length:=by have:=ho.n (by omega); exact ⟨x.n.toNat,by omega,by omega⟩
 have hn3:n < s.data.length:=by have:=ho.d.1; omega
 have hfd:fd=true:=by cases fd with | true=>rfl | false=>have:=hd0 rfl; rw [this] at hn3; simp at hn3
 subst hfd
 have hlen:=ho.d.2 n _ _ (List.getElem?_eq_getElem hn3) (List.getElem?_eq_getElem hn2)
 have h0:0 < s.data[n].length:=by omega
 have z1:∀ i,Si ty3 (.msl i 0 s.data[n].length 1) (.int .i64 0)=some (.ptr i 0 0):=fun i=>by have:=ix_msl (te:=ty3) (k:=.i64) (id:=i) (off:=0) (i:=0) (n:=s.data[n].length) (sz:=1) h0 rfl; simpa using this
 rw [A7 (c:=El) (nt:=173) (rs:=[]) rfl (by simp)]; unfold El
 unfold Q9 Q8 c7 j6 r7 Ay Ck Hj Oy c8 mB Ins.F
 cases fo <;> (
  simp only [dA,dR,oA,oR,nB,put',at',hd,hn]
  simp -implicitDefEqProofs only [eq_true h,eq_false (show ¬ x.op=1 by omega),eq_false (show ¬ x.op=2 by omega),eq_false (show ¬ x.op=3 by omega),eq_false (show ¬ x.op=4 by omega),eq_false (show ¬ x.op=5 by omega),eq_false (show ¬ x.op=6 by omega),A8 hd2,hd2,L3,gD h0,dAt,zD hn3,x5 hn3,hn3,List.length_map,A8 h0,h0,Int.toNat_zero,z1,Int.toNat_natCast,XP,seval]
  exact ⟨_,rfl⟩)
set_option maxHeartbeats 4000000 in
theorem NM (h:x.op=8) (ho:InsOk m x r s) (hd0:fd=false->s.data=[]) (hol:s.out.length≤30000):∃ tch,evP ⟨A0,T,A4⟩ (.body 42 [.ptr 0 0 0,x.F,.msl 1 0 r.length 1] ⟨c8 fd fo false m s r,2 + nB fd + nB fo,[]⟩)=some (.val [] ⟨c8 fd fo false m { s with data:=s.data.set x.n.toNat (put' (dAt s x.n) 0 (at' r x.a)) } r,2 + nB fd + nB fo,tch⟩):=by
 obtain ⟨a,ha,ha2⟩:∃ a:Nat,x.a=a∧a < r.length:=by have:=ho.a (by omega); exact ⟨x.a.toNat,by omega,by omega⟩
 obtain ⟨n,hn,hn2⟩:∃ n:Nat,x.n=n∧n < m.gs.length:=by have:=ho.n (by omega); exact ⟨x.n.toNat,by omega,by omega⟩
 have hn3:n < s.data.length:=by have:=ho.d.1; omega
 have hfd:fd=true:=by cases fd with | true=>rfl | false=>have:=hd0 rfl; rw [this] at hn3; simp at hn3
 subst hfd
 have hlen:=ho.d.2 n _ _ (List.getElem?_eq_getElem hn3) (List.getElem?_eq_getElem hn2)
 have h0:0 < s.data[n].length:=by omega
 have z1:∀ i,Si ty3 (.msl i 0 s.data[n].length 1) (.int .i64 0)=some (.ptr i 0 0):=fun i=>by have:=ix_msl (te:=ty3) (k:=.i64) (id:=i) (off:=0) (i:=0) (n:=s.data[n].length) (sz:=1) h0 rfl; simpa using this
 rw [A7 (c:=El) (nt:=173) (rs:=[]) rfl (by simp)]; unfold El
 unfold Q9 Q8 c7 j6 r7 Ay Ck Hj Oy Tg c8 mB Ins.F
 cases fo <;> (
  simp only [dA,dR,oA,oR,nB,put',at',ha,hn]
  simp -implicitDefEqProofs only [eq_true h,eq_false (show ¬ x.op=1 by omega),eq_false (show ¬ x.op=2 by omega),eq_false (show ¬ x.op=3 by omega),eq_false (show ¬ x.op=4 by omega),eq_false (show ¬ x.op=5 by omega),eq_false (show ¬ x.op=6 by omega),eq_false (show ¬ x.op=7 by omega),A8 ha2,ha2,gD ha2,L3,aF,nZ,List.length_set,gD h0,dAt,zD hn3,x5 hn3,hn3,List.length_map,A8 h0,h0,Int.toNat_zero,z1,Int.toNat_natCast,XP,seval]
  exact ⟨_,rfl⟩)
set_option maxHeartbeats 4000000 in
theorem wV (hX:T 58=none) (h:x.op=10) (ho:InsOk m x r s) (hd0:fd=false->s.data=[]) (hol:s.out.length≤30000) (hi:s.input=[]):∃ tch,evP ⟨A0,T,A4⟩ (.body 42 [.ptr 0 0 0,x.F,.msl 1 0 r.length 1] ⟨c8 fd fo false m s r,2 + nB fd + nB fo,[]⟩)=some (.val [] ⟨c8 fd fo false m { s with input:=s.input.tail } (put' r x.dst (s.input.headD 0)),2 + nB fd + nB fo,tch⟩):=by
 obtain ⟨d,hd,hd2⟩:∃ d:Nat,x.dst=d∧d < r.length:=by have:=ho.dst (by omega); exact ⟨x.dst.toNat,by omega,by omega⟩
 have nx:=fun d o rest ext tch=>wT (d:=d) (o:=o) (rest:=rest) (ext:=ext) (tch:=tch) (m:=m) hX hi
 unfold mB at nx
 simp only [hi] at nx
 rw [A7 (c:=El) (nt:=173) (rs:=[]) rfl (by simp)]; unfold El
 unfold Q9 Q8 c7 j6 r7 Ay Ck Hj Oy Tg Zq c8 mB Ins.F
 cases fd <;> cases fo <;> (
  simp only [dA,dR,oA,oR,nB,put',at',hd]
  simp -implicitDefEqProofs only [eq_true h,eq_false (show ¬ x.op=1 by omega),eq_false (show ¬ x.op=2 by omega),eq_false (show ¬ x.op=3 by omega),eq_false (show ¬ x.op=4 by omega),eq_false (show ¬ x.op=5 by omega),eq_false (show ¬ x.op=6 by omega),eq_false (show ¬ x.op=7 by omega),eq_false (show ¬ x.op=8 by omega),A8 hd2,hd2,L3,k8,List.contains_cons,List.contains_nil,Nat.reduceBEq,hi,nx,List.tail_cons,List.tail_nil,List.headD_cons,List.headD_nil,Int.toNat_natCast,XP,seval]
  exact ⟨_,rfl⟩)
set_option maxHeartbeats 4000000 in
theorem ED (hX:T 58=none) (h:x.op=10) (ho:InsOk m x r s) (hd0:fd=false->s.data=[]) (hol:s.out.length≤30000) {v:Int} {t:List Int} (hi:s.input=v :: t):∃ tch,evP ⟨A0,T,A4⟩ (.body 42 [.ptr 0 0 0,x.F,.msl 1 0 r.length 1] ⟨c8 fd fo false m s r,2 + nB fd + nB fo,[]⟩)=some (.val [] ⟨c8 fd fo false m { s with input:=s.input.tail } (put' r x.dst (s.input.headD 0)),2 + nB fd + nB fo,tch⟩):=by
 obtain ⟨d,hd,hd2⟩:∃ d:Nat,x.dst=d∧d < r.length:=by have:=ho.dst (by omega); exact ⟨x.dst.toNat,by omega,by omega⟩
 have nx:=fun d o rest ext tch=>wU (d:=d) (o:=o) (rest:=rest) (ext:=ext) (tch:=tch) (m:=m) hX hi
 unfold mB at nx
 simp only [hi] at nx
 rw [A7 (c:=El) (nt:=173) (rs:=[]) rfl (by simp)]; unfold El
 unfold Q9 Q8 c7 j6 r7 Ay Ck Hj Oy Tg Zq c8 mB Ins.F
 cases fd <;> cases fo <;> (
  simp only [dA,dR,oA,oR,nB,put',at',hd]
  simp -implicitDefEqProofs only [eq_true h,eq_false (show ¬ x.op=1 by omega),eq_false (show ¬ x.op=2 by omega),eq_false (show ¬ x.op=3 by omega),eq_false (show ¬ x.op=4 by omega),eq_false (show ¬ x.op=5 by omega),eq_false (show ¬ x.op=6 by omega),eq_false (show ¬ x.op=7 by omega),eq_false (show ¬ x.op=8 by omega),A8 hd2,hd2,L3,k8,List.contains_cons,List.contains_nil,Nat.reduceBEq,hi,nx,List.tail_cons,List.tail_nil,List.headD_cons,List.headD_nil,Int.toNat_natCast,XP,seval]
  exact ⟨_,rfl⟩)
set_option maxHeartbeats 4000000 in
theorem EE (h:x.op=11) (ho:InsOk m x r s) (hd0:fd=false->s.data=[]) (hol:s.out.length≤30000) (hf:fo=true):∃ tch,evP ⟨A0,T,A4⟩ (.body 42 [.ptr 0 0 0,x.F,.msl 1 0 r.length 1] ⟨c8 fd fo false m s r,2 + nB fd + nB fo,[]⟩)=some (.val [] ⟨c8 fd fo true m { s with out:=s.out ++ [at' r x.a] } r,2 + nB fd + nB fo,tch⟩):=by
 obtain ⟨a,ha,ha2⟩:∃ a:Nat,x.a=a∧a < r.length:=by have:=ho.a (by omega); exact ⟨x.a.toNat,by omega,by omega⟩
 have hb:(s.out.length + 1) * 8≤140737488355328:=by omega
 subst hf
 rw [A7 (c:=El) (nt:=173) (rs:=[]) rfl (by simp)]; unfold El
 unfold Q9 Q8 c7 j6 r7 Ay Ck Hj Oy Tg Zq mP c8 mB Ins.F
 cases fd <;> (
  simp only [dA,dR,oA,oR,nB,put',at',ha]
  simp -implicitDefEqProofs only [eq_true h,eq_false (show ¬ x.op=1 by omega),eq_false (show ¬ x.op=2 by omega),eq_false (show ¬ x.op=3 by omega),eq_false (show ¬ x.op=4 by omega),eq_false (show ¬ x.op=5 by omega),eq_false (show ¬ x.op=6 by omega),eq_false (show ¬ x.op=7 by omega),eq_false (show ¬ x.op=8 by omega),eq_false (show ¬ x.op=10 by omega),A8 ha2,ha2,gD ha2,List.length_map,List.length_append,hb,oB,Int.toNat_natCast,XP,seval]
  exact ⟨_,rfl⟩)
set_option maxHeartbeats 4000000 in
theorem wW (h:x.op=11) (ho:InsOk m x r s) (hd0:fd=false->s.data=[]) (hol:s.out.length≤30000) (hf:fo=false) (ho0:s.out=[]):∃ tch,evP ⟨A0,T,A4⟩ (.body 42 [.ptr 0 0 0,x.F,.msl 1 0 r.length 1] ⟨c8 fd fo false m s r,2 + nB fd + nB fo,[]⟩)=some (.val [] ⟨c8 fd fo true m { s with out:=s.out ++ [at' r x.a] } r,2 + nB fd + nB fo,tch⟩):=by
 obtain ⟨a,ha,ha2⟩:∃ a:Nat,x.a=a∧a < r.length:=by have:=ho.a (by omega); exact ⟨x.a.toNat,by omega,by omega⟩
 have hb:(s.out.length + 1) * 8≤140737488355328:=by omega
 subst hf
 rw [A7 (c:=El) (nt:=173) (rs:=[]) rfl (by simp)]; unfold El
 unfold Q9 Q8 c7 j6 r7 Ay Ck Hj Oy Tg Zq mP c8 mB Ins.F
 cases fd <;> (
  simp only [dA,dR,oA,oR,nB,put',at',ha]
  simp -implicitDefEqProofs only [eq_true h,eq_false (show ¬ x.op=1 by omega),eq_false (show ¬ x.op=2 by omega),eq_false (show ¬ x.op=3 by omega),eq_false (show ¬ x.op=4 by omega),eq_false (show ¬ x.op=5 by omega),eq_false (show ¬ x.op=6 by omega),eq_false (show ¬ x.op=7 by omega),eq_false (show ¬ x.op=8 by omega),eq_false (show ¬ x.op=10 by omega),A8 ha2,ha2,gD ha2,List.length_map,List.length_append,hb,ho0,List.map_cons,List.map_nil,Int.toNat_natCast,XP,seval]
  exact ⟨_,rfl⟩)
end
end Go.Proofs.AmEnv
set_option maxRecDepth 100000
namespace Go.AM
section
variable {E:Env} {K K1 K' Kf:PK} {ids:List Nat}
theorem Ww {T:Nat->Option (List AV->Option (List AV))} {F:Nat->Option PFn} {f:Nat} {args args':List AV} {v v':AV} (ht:T f=none) (hp:inpOf (F f)=false) (hi:focusIds args K=ids) (ha:renL (posOf ids) args=args') (hk:focusK ids K=Kf)
 (hb:evP ⟨E,T,F⟩ (.body f args' Kf)=some (.pan v K1)) (hm:mergeK ids K K1=some K') (hv:F4 (backN ids K.os.length) v=v'):evP ⟨E,T,F⟩ (.call f args K)=some (.pan v' K'):=by
 rw [evP]
 show (match T f with | some g=>_ | none=>_)=_
 rw [ht]
 dsimp only
 show (match inpOf (F f) with | true=>_ | false=>_)=_
 rw [hp]
 dsimp only
 rw [hi,ha,hk,hb]
 show (match mergeK ids K K1 with | some K'=>some (PR.pan (F4 (backN ids K.os.length) v) K') | none=>none)=_
 rw [hm,hv]
theorem Tp {t:Nat} {v:AV}:H4 (.iface t v)=H4 v:=by rw [H4]
theorem Tq {t:Nat} {v:AV} {σ:Nat->Option Nat}:F4 σ (.iface t v)=.iface t (F4 σ v):=by rw [F4]
end
end Go.AM
namespace Go.Proofs.AmEnv
open Go Go.AM
variable {T:Nat->Option (List AV->Option (List AV))}
structure RunT (T:Nat->Option (List AV->Option (List AV))):Prop where
 hB:T 55=some S9
 hW:T 56=some E8
 hN:T 39=none
 hE:T 57=none
 hT:T 54=some C6
 hX:T 58=none
 hS:T 40=none
 hD:T 42=none
 hC:T 41=none
 hL:T 24=none
section
variable {m:Modl} {s:Mst} {fa fd fo n:Bool} {r a:List Int} {x:Ins}
theorem Ts (R:RunT T) (ho:InsOk m x r s) (hop:1≤x.op∧x.op≤11∧x.op ≠ 9) (hd0:fd=false->s.data=[]) (hf0:fo=false->s.out=[]) (hol:s.out.length≤30000):∃ tch,evP ⟨A0,T,A4⟩ (.body 42 [.ptr 0 0 0,x.F,.msl 1 0 r.length 1] ⟨c8 fd fo false m s r,2 + nB fd + nB fo,[]⟩)=(if (doesI m x r s).1=0 then some (.val [] ⟨c8 fd fo (decide (x.op=11)) m (doesI m x r s).2.1 (doesI m x r s).2.2,2 + nB fd + nB fo,tch⟩) else some (.pan (D3 2 (doesI m x r s).1) ⟨c8 fd fo false m s r,2 + nB fd + nB fo,tch⟩)):=by
 have hc:x.op=1∨x.op=2∨x.op=3∨x.op=4∨x.op=5∨x.op=6∨x.op=7∨x.op=8∨x.op=10∨x.op=11:=by omega
 rcases hc with h | h | h | h | h | h | h | h | h | h
 . obtain ⟨tch,e⟩:=NF (T:=T) h ho hd0 hol; exact ⟨tch,by rw [e]; simp only [doesI,h,Int.reduceEq,↓reduceIte,decide_true,decide_false]⟩
 . obtain ⟨tch,e⟩:=NG (T:=T) h ho hd0 hol; exact ⟨tch,by rw [e]; simp only [doesI,h,Int.reduceEq,↓reduceIte,decide_true,decide_false]⟩
 . by_cases hv:(X2 x.ty x.s (at' r x.a) (at' r x.b)).2=0
   . obtain ⟨tch,e⟩:=NH R.hB R.hN h ho hd0 hol hv; exact ⟨tch,by rw [e]; simp only [doesI,h,hv,Int.reduceEq,↓reduceIte,decide_true,decide_false,Bool.false_eq_true]⟩
   . obtain ⟨tch,e⟩:=EA R.hB R.hN h ho hd0 hol hv; exact ⟨tch,by rw [e]; simp only [doesI,h,hv,Int.reduceEq,↓reduceIte,decide_true,decide_false,Bool.false_eq_true]⟩
 . obtain ⟨tch,e⟩:=NI R.hW h ho hd0 hol; exact ⟨tch,by rw [e]; simp only [doesI,h,Int.reduceEq,↓reduceIte,decide_true,decide_false]⟩
 . by_cases hv:thereD (at' r x.a) (gAt m x.n).size=true
   . obtain ⟨tch,e⟩:=NJ R.hE R.hN R.hT h ho hd0 hol hv; exact ⟨tch,by rw [e]; simp only [doesI,h,hv,Int.reduceEq,↓reduceIte,decide_true,decide_false,Bool.false_eq_true]⟩
   . obtain ⟨tch,e⟩:=EB R.hE R.hN R.hT h ho hd0 hol hv; exact ⟨tch,by rw [e]; simp only [doesI,h,hv,Int.reduceEq,↓reduceIte,decide_true,decide_false,Bool.false_eq_true]⟩
 . by_cases hv:thereD (at' r x.a) (gAt m x.n).size=true
   . obtain ⟨tch,e⟩:=NK R.hE R.hN R.hT R.hW h ho hd0 hol hv; exact ⟨tch,by rw [e]; simp only [doesI,h,hv,Int.reduceEq,↓reduceIte,decide_true,decide_false,Bool.false_eq_true]⟩
   . obtain ⟨tch,e⟩:=EC R.hE R.hN R.hT R.hW h ho hd0 hol hv; exact ⟨tch,by rw [e]; simp only [doesI,h,hv,Int.reduceEq,↓reduceIte,decide_true,decide_false,Bool.false_eq_true]⟩
 . obtain ⟨tch,e⟩:=NL (T:=T) h ho hd0 hol; exact ⟨tch,by rw [e]; simp only [doesI,h,Int.reduceEq,↓reduceIte,decide_true,decide_false]⟩
 . obtain ⟨tch,e⟩:=NM (T:=T) h ho hd0 hol; exact ⟨tch,by rw [e]; simp only [doesI,h,Int.reduceEq,↓reduceIte,decide_true,decide_false]⟩
 . cases hi:s.input with
   | nil=>obtain ⟨tch,e⟩:=wV R.hX h ho hd0 hol hi; exact ⟨tch,by rw [e]; simp only [doesI,h,Int.reduceEq,↓reduceIte,decide_true,decide_false]⟩
   | cons v t=>obtain ⟨tch,e⟩:=ED R.hX h ho hd0 hol hi; exact ⟨tch,by rw [e]; simp only [doesI,h,Int.reduceEq,↓reduceIte,decide_true,decide_false]⟩
 . cases hf:fo with
   | true=>obtain ⟨tch,e⟩:=EE (T:=T) h ho hd0 hol hf; exact ⟨tch,by rw [hf] at e; rw [e]; simp only [doesI,h,Int.reduceEq,↓reduceIte,decide_true,decide_false]⟩
   | false=>obtain ⟨tch,e⟩:=wW (T:=T) h ho hd0 hol hf (hf0 hf); exact ⟨tch,by rw [hf] at e; rw [e]; simp only [doesI,h,Int.reduceEq,↓reduceIte,decide_true,decide_false]⟩
def aR (f:Bool) (a:List Int):List PO:=match f with | true=>[.row 0 (ints a) 1] | false=>[]
def D9 (fa fd fo n:Bool) (m:Modl) (s:Mst) (a:List Int):List PO:=.row 1 [mB m s (dA fd (1 + nB fa) s) (oA fo n (1 + nB fa + nB fd) s.out)] 9 :: (aR fa a ++ (dR fd s ++ oR fo n s.out))
end
end Go.Proofs.AmEnv
set_option maxRecDepth 100000
namespace Go.Proofs.AmEnv
open Go Go.AM
variable {T:Nat->Option (List AV->Option (List AV))}
section
variable {m:Modl} {s:Mst} {fa fd fo n n':Bool} {r a:List Int} {x:Ins} {cs xs:List AV} {cz xz:Nat}
def nE (fa fd fo:Bool):Nat:=1 + nB fa + nB fd + nB fo
def dd (f:Bool):List PO:=match f with | true=>[.dead] | false=>[]
def lD (fa fd fo n n':Bool) (m:Modl) (s:Mst) (a:List Int) (j:Nat):List PO:=match n' with
 | false=>D9 fa fd fo n m s a
 | true=>.row 1 [mB m s (dA fd (1 + nB fa) s) (.msl j 0 s.out.length 1)] 9 :: (aR fa a ++ (dR fd s ++ (dd fo ++ dd n)))
def oG (n':Bool) (o:List Int):List PO:=match n' with | false=>[] | true=>[.row 0 (ints o) 1]
def Lz (fa fd fo n:Bool) (r:Nat):List Nat:=0 :: r :: ((match fd with | true=>[1 + nB fa] | false=>[]) ++ (match fo,n with | false,false=>[] | true,false=>[1 + nB fa + nB fd] | false,true=>[1 + nB fa + nB fd] | true,true=>[2 + nB fa + nB fd]))
theorem kB (R:RunT T) (ho:InsOk m x r s) (hop:1≤x.op∧x.op≤11∧x.op ≠ 9) (hd0:fd=false->s.data=[]) (hf0:fo=false->n=false->s.out=[]) (hol:s.out.length≤30000) (hn:decide (x.op=11)=n') (hv:(doesI m x r s).1=0) :
 ∃ t1,∀ tch,evP ⟨A0,T,A4⟩ (.call 42 [.ptr 0 0 0,x.F,.msl (nE fa fd fo + nB n + 1) 0 r.length 1] ⟨D9 fa fd fo n m s a ++ [.row 1 cs cz,.row 0 (ints r) 1,.row 1 xs xz],nE fa fd fo,tch⟩)=some (.val [] ⟨lD fa fd fo n n' m (doesI m x r s).2.1 a (nE fa fd fo + nB n + 3) ++ (.row 1 cs cz :: .row 0 (ints (doesI m x r s).2.2) 1 :: .row 1 xs xz :: oG n' (doesI m x r s).2.1.out),nE fa fd fo,t1 ++ tch⟩):=by
 obtain ⟨t0,hb⟩:=Ts (T:=T) (fd:=fd) (fo:=fo || n) (m:=m) (s:=s) (r:=r) (x:=x) R ho hop hd0 (by cases fo <;> cases n <;> simp_all) hol
 rw [if_pos hv,hn] at hb
 refine ⟨((t0.filter (· < (Lz fa fd fo n (nE fa fd fo + nB n + 1)).length)).map fun j=>(Lz fa fd fo n (nE fa fd fo + nB n + 1)).getD j 0),fun tch=>iH (ids:=Lz fa fd fo n (nE fa fd fo + nB n + 1)) (args':=[.ptr 0 0 0,x.F,.msl 1 0 r.length 1]) (Kf:=⟨c8 fd (fo || n) false m s r,2 + nB fd + nB (fo || n),[]⟩) R.hD rfl ?_ ?_ ?_ hb ?_ ?_⟩ <;> cases fa <;> cases fd <;> cases fo <;> cases n <;> cases n' <;> rfl
theorem dM (R:RunT T) (ho:InsOk m x r s) (hop:1≤x.op∧x.op≤11∧x.op ≠ 9) (hd0:fd=false->s.data=[]) (hf0:fo=false->n=false->s.out=[]) (hol:s.out.length≤30000) (hv:¬ (doesI m x r s).1=0) :
 ∃ t1,∀ tch,evP ⟨A0,T,A4⟩ (.call 42 [.ptr 0 0 0,x.F,.msl (nE fa fd fo + nB n + 1) 0 r.length 1] ⟨D9 fa fd fo n m s a ++ [.row 1 cs cz,.row 0 (ints r) 1,.row 1 xs xz],nE fa fd fo,tch⟩)=some (.pan (D3 2 (doesI m x r s).1) ⟨D9 fa fd fo n m s a ++ [.row 1 cs cz,.row 0 (ints r) 1,.row 1 xs xz],nE fa fd fo,t1 ++ tch⟩):=by
 obtain ⟨t0,hb⟩:=Ts (T:=T) (fd:=fd) (fo:=fo || n) (m:=m) (s:=s) (r:=r) (x:=x) R ho hop hd0 (by cases fo <;> cases n <;> simp_all) hol
 rw [if_neg hv] at hb
 refine ⟨((t0.filter (· < (Lz fa fd fo n (nE fa fd fo + nB n + 1)).length)).map fun j=>(Lz fa fd fo n (nE fa fd fo + nB n + 1)).getD j 0),fun tch=>Ww (ids:=Lz fa fd fo n (nE fa fd fo + nB n + 1)) (args':=[.ptr 0 0 0,x.F,.msl 1 0 r.length 1]) (Kf:=⟨c8 fd (fo || n) false m s r,2 + nB fd + nB (fo || n),[]⟩) R.hD rfl ?_ ?_ ?_ hb ?_ ?_⟩ <;> cases fa <;> cases fd <;> cases fo <;> cases n <;> rfl
end
end Go.Proofs.AmEnv
set_option maxRecDepth 100000
namespace Go.Proofs.AmEnv
open Go Go.AM
variable {T:Nat->Option (List AV->Option (List AV))}
section
variable {m:Modl} {s:Mst} {fa fd fo n:Bool} {r a:List Int} {c:Cod} {l:List Ins} {k:Nat} {at0:Int} {tch:List Nat}
def Mt (c:Cod):PO:=.row 1 [c.F] 5
def msL (fa fd fo n:Bool) (m:Modl) (s:Mst) (a:List Int) (c:Cod) (r:List Int) (tch:List Nat):PK:=⟨D9 fa fd fo n m s a ++ [Mt c,.row 0 (ints r) 1],nE fa fd fo,tch⟩
def O6 (fa fd fo n:Bool) (r:List Int) (at0:Int):PF:=[(0,.ptr 0 0 0),(7,.ptr (nE fa fd fo + nB n) 0 0),(8,.msl (nE fa fd fo + nB n + 1) 0 r.length 1),(9,.int .i64 at0)]
def frI (l:List Ins) (k:Nat):PF:=[(46,fslN (l.map Ins.F)),(47,.int .i64 (l.length:Int)),(48,.int .i64 (k:Int))]
def stp (s:Mst):Mst:={ s with steps:=s.steps - 1 }
set_option maxHeartbeats 4000000 in
theorem EF (R:RunT T) (hk:k < l.length) (hl:l.length≤2000000000000) (h:¬ 1≤s.steps) :
 ∃ t1,evP ⟨A0,T,A4⟩ (.code U9 (O6 fa fd fo n r at0 ++ frI l k) (msL fa fd fo n m s a c r tch))=some (.pan (D3 3 0) ⟨D9 fa fd fo n m s a,nE fa fd fo,t1⟩):=by
 have hlt:decide ((k:Int) < (l.length:Int))=true:=by simp [hk]
 have hi:=B4 (F:=Ins.F) hk
 have st:=fun d o rest ext tch=>fW (T:=T) (m:=m) (s:=s) (d:=d) (o:=o) (rest:=rest) (ext:=ext) (tch:=tch) R.hS h
 unfold U9 Ou Ot Oq Oo On O6 frI msL D9 Mt
 unfold mB at st ⊢
 simp only [Ins.F,Cod.F,D3] at hi st ⊢
 cases fa <;> cases fd <;> cases fo <;> cases n <;> (
  simp only [dA,dR,oA,oR,aR,nB,nE]
  simp -implicitDefEqProofs only [hlt,hi,st,XP,seval]
  exact ⟨_,rfl⟩)
set_option maxHeartbeats 16000000 in
theorem EG {n':Bool} (R:RunT T) (hk:k < l.length) (hl:l.length≤2000000000000) (h:1≤s.steps) (hs:s.steps≤20000) (hop:1≤l[k].op∧l[k].op≤11∧l[k].op ≠ 9) (ho:InsOk m l[k] r (stp s)) (hd0:fd=false->s.data=[]) (hf0:fo=false->n=false->s.out=[]) (hol:s.out.length≤30000) (hn:decide (l[k].op=11)=n') (hv:(doesI m l[k] r (stp s)).1=0) :
 ∃ t1,evP ⟨A0,T,A4⟩ (.code U9 (O6 fa fd fo n r at0 ++ frI l k) (msL fa fd fo n m s a c r tch))=some (.ok .normal (O6 fa fd fo (n || n') r at0 ++ frI l (k + 1)) (msL fa fd fo (n || n') m (doesI m l[k] r (stp s)).2.1 a c (doesI m l[k] r (stp s)).2.2 t1)):=by
 have hlt:decide ((k:Int) < (l.length:Int))=true:=by simp [hk]
 have hi:=B4 (F:=Ins.F) hk
 have hw:=C8 (i:=k) (by omega)
 have st:=fun d o rest ext tch=>f8 (T:=T) (m:=m) (s:=s) (d:=d) (o:=o) (rest:=rest) (ext:=ext) (tch:=tch) R.hS h hs
 have h9:(l[k].op=9)=False:=eq_false hop.2.2
 have dc:=fun cs cz xs xz=>kB (T:=T) (m:=m) (s:=stp s) (fa:=fa) (fd:=fd) (fo:=fo) (n:=n) (n':=n') (r:=r) (a:=a) (x:=l[k]) (cs:=cs) (cz:=cz) (xs:=xs) (xz:=xz) R ho hop hd0 hf0 hol hn hv
 have hd:=(dc [c.F] 5 [l[k].F] 8).choose_spec
 generalize (dc [c.F] 5 [l[k].F] 8).choose=t1 at hd
 clear dc
 generalize doesI m l[k] r (stp s)=y at hd ⊢
 unfold U9 Ou Ot Oq Oo On O6 frI msL D9 Mt
 unfold D9 at hd
 unfold mB at st hd ⊢
 simp only [Ins.F,Cod.F,stp] at hi st hd ⊢
 cases fa <;> cases fd <;> cases fo <;> cases n <;> cases n' <;> (
  simp only [dA,dR,oA,oR,aR,nB,nE,lD,oG,dd,D9,mB,Nat.reduceAdd,List.cons_append,List.nil_append,List.append_nil,Bool.or_false,Bool.or_true] at hd ⊢
  simp -implicitDefEqProofs only [hlt,hi,st,hd,h9,hw,XP,seval]
  exact ⟨_,rfl⟩)
set_option maxHeartbeats 16000000 in
theorem wX (R:RunT T) (hk:k < l.length) (hl:l.length≤2000000000000) (h:1≤s.steps) (hs:s.steps≤20000) (hop:1≤l[k].op∧l[k].op≤11∧l[k].op ≠ 9) (ho:InsOk m l[k] r (stp s)) (hd0:fd=false->s.data=[]) (hf0:fo=false->n=false->s.out=[]) (hol:s.out.length≤30000) (hv:¬ (doesI m l[k] r (stp s)).1=0) :
 ∃ t1,evP ⟨A0,T,A4⟩ (.code U9 (O6 fa fd fo n r at0 ++ frI l k) (msL fa fd fo n m s a c r tch))=some (.pan (D3 2 (doesI m l[k] r (stp s)).1) ⟨D9 fa fd fo n m (stp s) a,nE fa fd fo,t1⟩):=by
 have hlt:decide ((k:Int) < (l.length:Int))=true:=by simp [hk]
 have hi:=B4 (F:=Ins.F) hk
 have hw:=C8 (i:=k) (by omega)
 have st:=fun d o rest ext tch=>f8 (T:=T) (m:=m) (s:=s) (d:=d) (o:=o) (rest:=rest) (ext:=ext) (tch:=tch) R.hS h hs
 have h9:(l[k].op=9)=False:=eq_false hop.2.2
 have dc:=fun cs cz xs xz=>dM (T:=T) (m:=m) (s:=stp s) (fa:=fa) (fd:=fd) (fo:=fo) (n:=n) (r:=r) (a:=a) (x:=l[k]) (cs:=cs) (cz:=cz) (xs:=xs) (xz:=xz) R ho hop hd0 hf0 hol hv
 have hd:=(dc [c.F] 5 [l[k].F] 8).choose_spec
 generalize (dc [c.F] 5 [l[k].F] 8).choose=t1 at hd
 clear dc
 generalize doesI m l[k] r (stp s)=y at hd ⊢
 unfold D3 at hd ⊢
 unfold U9 Ou Ot Oq Oo On O6 frI msL D9 Mt
 unfold D9 at hd
 unfold mB at st hd ⊢
 simp only [Ins.F,Cod.F,stp] at hi st hd ⊢
 cases fa <;> cases fd <;> cases fo <;> cases n <;> (
  simp only [dA,dR,oA,oR,aR,nB,nE,lD,oG,dd,D9,mB,Nat.reduceAdd,List.cons_append,List.nil_append,List.append_nil,Bool.or_false,Bool.or_true] at hd ⊢
  simp -implicitDefEqProofs only [hlt,hi,st,hd,h9,hw,XP,seval]
  exact ⟨_,rfl⟩)
end
end Go.Proofs.AmEnv
set_option maxRecDepth 100000
namespace Go.Proofs.AmEnv
open Go Go.AM
variable {T:Nat->Option (List AV->Option (List AV))}
section
variable {m:Modl} {s:Mst} {fd fo:Bool} {r:List Int} {x:Ins} {k:Nat} {n':Bool}
def argsI (x:Ins) (r:List Int):List Int:=x.args.map (at' r)
def f9 (f:Bool) (j:Nat) (a:List Int):AV:=match f with | true=>.msl j 0 a.length 1 | false=>.nilsl
def kC (fd fo:Bool) (r:List Int) (y:AV):PF:=[(0,.ptr 0 0 0),(2,.msl 1 0 r.length 1),(4,.ptr (nE true fd fo) 0 0),(6,y)]
def kD (x:Ins) (k:Nat):PF:=[(11,fslN (ints x.args)),(12,.int .i64 (x.args.length:Int)),(13,.int .i64 (k:Int))]
def fX (fd fo f:Bool) (m:Modl) (s:Mst) (r:List Int) (x:Ins) (a:List Int):PK:=⟨D9 true fd fo false m s r ++ (.row 1 [x.F] 8 :: aR f a),nE true fd fo,[]⟩
theorem EH (hk:0 < x.args.length) (hx:∀ y∈x.args,0≤y∧y < r.length) :
 evP ⟨A0,T,A4⟩ (.code Hi (kC fd fo r .nilsl ++ kD x 0) (fX fd fo false m s r x []))=some (.ok .normal (kC fd fo r (.msl (nE true fd fo + 1) 0 1 1) ++ kD x 1) (fX fd fo true m s r x ((argsI x r).take 1))):=by
 obtain ⟨j,hj,hj2⟩:∃ j:Nat,x.args[0]=j∧j < r.length:=by have:=hx _ (List.getElem_mem hk); exact ⟨x.args[0].toNat,by omega,by omega⟩
 have ht:ints ((argsI x r).take 1)=[.int .i64 r[j]]:=by
  unfold argsI
  cases h:x.args with
  | nil=>rw [h] at hk; cases hk
  | cons y l=>simp only [h,List.getElem_cons_zero] at hj; subst hj; simp [ints,hj2]
 have hi:Si ty3 (fslN (ints x.args)) (.int .i64 0)=some (.fptr (.int .i64 x.args[0]) 0):=ix_fslN (i:=0) (A8 hk) rfl
 have hlt:decide ((0:Int) < (x.args.length:Int))=true:=by simp [hk]
 unfold Hi fH fG kC kD fX D9
 unfold mB
 simp only [Ins.F]
 cases fd <;> cases fo <;> (
  simp only [dA,dR,oA,oR,aR,nB,nE]
  simp -implicitDefEqProofs only [hlt,hi,hj,hj2,A8 hj2,ht,show ((0:Nat):Int)=0 from rfl,show IntKind.i64.wrap (0 + 1)=((1:Nat):Int) from rfl,XP,Nat.reduceAdd,Nat.reduceSub,Nat.reduceLT,Nat.reduceLeDiff,Nat.reduceEqDiff,Nat.reduceMul,↓reduceIte])
theorem EI (hk:k < x.args.length) (h0:0 < k) (hx:∀ y∈x.args,0≤y∧y < r.length) (hl:x.args.length≤100000) :
 evP ⟨A0,T,A4⟩ (.code Hi (kC fd fo r (.msl (nE true fd fo + 1) 0 k 1) ++ kD x k) (fX fd fo true m s r x ((argsI x r).take k)))=some (.ok .normal (kC fd fo r (.msl (nE true fd fo + 1) 0 (k + 1) 1) ++ kD x (k + 1)) (fX fd fo true m s r x ((argsI x r).take (k + 1)))):=by
 obtain ⟨j,hj,hj2⟩:∃ j:Nat,x.args[k]=j∧j < r.length:=by have:=hx _ (List.getElem_mem hk); exact ⟨x.args[k].toNat,by omega,by omega⟩
 have hka:k < (argsI x r).length:=by unfold argsI; simpa using hk
 have hg:(argsI x r)[k]=r[j]:=by simp [argsI,hj,hj2]
 have ht:=Jr hka
 rw [hg] at ht
 have hm:(ints ((argsI x r).take k)).length=k:=by simp; omega
 have hw:=C8 (i:=k) (by omega)
 have hz:(k + 1) * 8≤140737488355328:=by omega
 have hi:=A8 hk
 have hlt:decide ((k:Int) < (x.args.length:Int))=true:=by simp [hk]
 unfold Hi fH fG kC kD fX D9
 unfold mB
 simp only [Ins.F]
 cases fd <;> cases fo <;> (
  simp only [dA,dR,oA,oR,aR,nB,nE]
  simp -implicitDefEqProofs only [hlt,hi,hj,hj2,A8 hj2,ht,hm,hw,hz,XP,seval])
theorem uY {y:AV} {K:PK}:∃ fr',evP ⟨A0,T,A4⟩ (.code Hi (kC fd fo r y ++ kD x x.args.length) K)=some (.ok (.exit 0) fr' K)∧lookP fr' 0=.ptr 0 0 0∧lookP fr' 2=.msl 1 0 r.length 1∧lookP fr' 4=.ptr (nE true fd fo) 0 0∧lookP fr' 6=y:=by
 unfold Hi fH fG kC kD
 have hlt:decide ((x.args.length:Int) < (x.args.length:Int))=false:=by simp
 simp -implicitDefEqProofs only [hlt,XP,seval]
 exact ⟨_,rfl,rfl,rfl,rfl,rfl⟩
def neE (l:List Int):Bool:=!l.isEmpty
theorem oC (hx:∀ y∈x.args,0≤y∧y < r.length) (hl:x.args.length≤100000):∃ fr',evP ⟨A0,T,A4⟩ (.code (.loop Hi) (kC fd fo r .nilsl ++ kD x 0) (fX fd fo false m s r x []))=some (.ok (.exit 0) fr' (fX fd fo (neE (argsI x r)) m s r x (argsI x r)))∧lookP fr' 0=.ptr 0 0 0∧lookP fr' 2=.msl 1 0 r.length 1∧lookP fr' 4=.ptr (nE true fd fo) 0 0∧lookP fr' 6=f9 (neE (argsI x r)) (nE true fd fo + 1) (argsI x r):=by
 by_cases h0:x.args.length=0
 . have h1:x.args=[]:=List.length_eq_zero_iff.1 h0
   obtain ⟨fr',e,p⟩:=uY (T:=T) (fd:=fd) (fo:=fo) (r:=r) (x:=x) (y:=.nilsl) (K:=fX fd fo false m s r x [])
   rw [h0] at e
   have h2:argsI x r=[]:=by unfold argsI; rw [h1]; rfl
   rw [h2]
   exact ⟨fr',H6 e,p⟩
 . have:=Rg (P:=⟨A0,T,A4⟩) (c:=Hi) (fun i=>(kC fd fo r (.msl (nE true fd fo + 1) 0 (i + 1) 1) ++ kD x (i + 1),fX fd fo true m s r x ((argsI x r).take (i + 1)))) (x.args.length - 1) fun i hi=>EI (by omega) (by omega) hx hl
   obtain ⟨fr',e,p⟩:=uY (T:=T) (fd:=fd) (fo:=fo) (r:=r) (x:=x) (y:=.msl (nE true fd fo + 1) 0 x.args.length 1) (K:=fX fd fo true m s r x (argsI x r))
   have hn:neE (argsI x r)=true:=by
    unfold neE argsI
    cases h:x.args with
    | nil=>rw [h] at h0; exact absurd rfl h0
    | cons _ _=>rfl
   have hal:(argsI x r).length=x.args.length:=by simp [argsI]
   rw [hn]
   refine ⟨fr',?_,?_⟩
   . rw [G6 (EH (by omega) hx),this]
     simp only [show x.args.length - 1 + 1=x.args.length by omega]
     rw [List.take_of_length_le (by omega)]
     exact H6 e
   . unfold f9; rw [hal]; exact p
end
end Go.Proofs.AmEnv
set_option maxRecDepth 100000
namespace Go.Proofs.AmEnv
open Go Go.AM
variable {T:Nat->Option (List AV->Option (List AV))}
inductive Rs where
 | ret (v:Int) (s:Mst)
 | stop (st c:Int) (s:Mst)
def Rs.st:Rs->Mst | .ret _ s=>s | .stop _ _ s=>s
def rR (x:Rs) (K:Mst->PK):PR:=match x with | .ret v s=>.val [.int .i64 v] (K s) | .stop st c s=>.pan (D3 st c) (K s)
def oD (T:Nat->Option (List AV->Option (List AV))) (m:Modl) (C:Int->List Int->Mst->Rs) (Pre:Int->List Int->Mst->Prop):Prop :=
 ∀ (fa fd fo:Bool) (f:Int) (a:List Int) (s:Mst),Pre f a s->(fa=false->a=[])->(fd=false->s.data=[])->(fo=false->s.out=[]) ->
   ∃ n' t1,(fo=false->n'=false->(C f a s).st.out=[])∧evP ⟨A0,T,A4⟩ (.body 24 [.ptr 0 0 0,.int .i64 f,f9 fa 1 a] ⟨D9 fa fd fo false m s a,nE fa fd fo,[]⟩)=some (rR (C f a s) fun s'=>⟨D9 fa fd fo n' m s' a,nE fa fd fo,t1⟩)
section
variable {m:Modl} {s s':Mst} {fa fd fo n':Bool} {r a:List Int} {x:Ins} {xs:List AV} {xz:Nat} {f v:Int} {t0:List Nat}
def kE (fa fd fo:Bool):List Nat:=0 :: ((match fa with | true=>[nE true fd fo + 1] | false=>[]) ++ ((match fd with | true=>[2] | false=>[]) ++ (match fo with | true=>[2 + nB fd] | false=>[])))
theorem oE (R:RunT T) (hb:evP ⟨A0,T,A4⟩ (.body 24 [.ptr 0 0 0,.int .i64 f,f9 fa 1 a] ⟨D9 fa fd fo false m s a,nE fa fd fo,[]⟩)=some (.val [.int .i64 v] ⟨D9 fa fd fo n' m s' a,nE fa fd fo,t0⟩)) :
 ∃ t1,∀ tch,evP ⟨A0,T,A4⟩ (.call 24 [.ptr 0 0 0,.int .i64 f,f9 fa (nE true fd fo + 1) a] ⟨D9 true fd fo false m s r ++ (.row 1 xs xz :: aR fa a),nE true fd fo,tch⟩)=some (.val [.int .i64 v] ⟨lD true fd fo false n' m s' r (nE true fd fo + 1 + nB fa) ++ (.row 1 xs xz :: (aR fa a ++ oG n' s'.out)),nE true fd fo,t1 ++ tch⟩):=by
 refine ⟨((t0.filter (· < (kE fa fd fo).length)).map fun j=>(kE fa fd fo).getD j 0),fun tch=>iH (ids:=kE fa fd fo) (args':=[.ptr 0 0 0,.int .i64 f,f9 fa 1 a]) (Kf:=⟨D9 fa fd fo false m s a,nE fa fd fo,[]⟩) R.hL rfl ?_ ?_ ?_ hb ?_ ?_⟩ <;> cases fa <;> cases fd <;> cases fo <;> cases n' <;> rfl
theorem rS {st c:Int} (R:RunT T) (hb:evP ⟨A0,T,A4⟩ (.body 24 [.ptr 0 0 0,.int .i64 f,f9 fa 1 a] ⟨D9 fa fd fo false m s a,nE fa fd fo,[]⟩)=some (.pan (D3 st c) ⟨D9 fa fd fo n' m s' a,nE fa fd fo,t0⟩)) :
 ∃ t1,∀ tch,evP ⟨A0,T,A4⟩ (.call 24 [.ptr 0 0 0,.int .i64 f,f9 fa (nE true fd fo + 1) a] ⟨D9 true fd fo false m s r ++ (.row 1 xs xz :: aR fa a),nE true fd fo,tch⟩)=some (.pan (D3 st c) ⟨lD true fd fo false n' m s' r (nE true fd fo + 1 + nB fa) ++ (.row 1 xs xz :: (aR fa a ++ oG n' s'.out)),nE true fd fo,t1 ++ tch⟩):=by
 refine ⟨((t0.filter (· < (kE fa fd fo).length)).map fun j=>(kE fa fd fo).getD j 0),fun tch=>Ww (ids:=kE fa fd fo) (args':=[.ptr 0 0 0,.int .i64 f,f9 fa 1 a]) (Kf:=⟨D9 fa fd fo false m s a,nE fa fd fo,[]⟩) R.hL rfl ?_ ?_ ?_ hb ?_ ?_⟩ <;> cases fa <;> cases fd <;> cases fo <;> cases n' <;> rfl
set_option maxHeartbeats 4000000 in
theorem EJ (R:RunT T) (hx:∀ y∈x.args,0≤y∧y < r.length) (hl:x.args.length≤100000) (hd:0≤x.dst) (hd2:x.dst < r.length) (hb:evP ⟨A0,T,A4⟩ (.body 24 [.ptr 0 0 0,.int .i64 x.n,f9 (neE (argsI x r)) 1 (argsI x r)] ⟨D9 (neE (argsI x r)) fd fo false m s (argsI x r),nE (neE (argsI x r)) fd fo,[]⟩)=some (.val [.int .i64 v] ⟨D9 (neE (argsI x r)) fd fo n' m s' (argsI x r),nE (neE (argsI x r)) fd fo,t0⟩)):∃ t1,evP ⟨A0,T,A4⟩ (.body 41 [.ptr 0 0 0,x.F,.msl 1 0 r.length 1] ⟨D9 true fd fo false m s r,nE true fd fo,[]⟩)=some (.val [] ⟨D9 true fd fo n' m s' (put' r x.dst v),nE true fd fo,t1⟩):=by
 obtain ⟨t1,hc⟩:=oE (r:=r) (xs:=[x.F]) (xz:=8) R hb
 obtain ⟨fr',hl1,h1,h2,h3,h4⟩:=oC (T:=T) (m:=m) (s:=s) (fd:=fd) (fo:=fo) hx hl
 obtain ⟨d,hd3,hd4⟩:∃ d:Nat,x.dst=d∧d < r.length:=⟨x.dst.toNat,by omega,by omega⟩
 have h0:decide ((d:Int) ≥ 0)=true:=by simp
 generalize neE (argsI x r)=fa at hc hl1 h4
 generalize argsI x r=a at hc hl1 h4
 rw [A7 (c:=uA) (nt:=38) (rs:=[]) rfl (by simp)]; unfold uA
 unfold fN fM fL fK fJ fI
 unfold kC kD fX D9 at hl1
 unfold D9 at hc ⊢
 unfold mB at hc hl1 ⊢
 simp only [Ins.F] at hc hl1 ⊢
 cases fa <;> cases fd <;> cases fo <;> cases n' <;> (
  simp only [dA,dR,oA,oR,aR,nB,nE,lD,oG,dd,D9,mB,f9,Nat.reduceAdd,List.cons_append,List.nil_append,List.append_nil,put',hd3,Int.toNat_natCast,show ((0:Nat):Int)=0 from rfl] at hc hl1 h1 h2 h3 h4 ⊢
  simp -implicitDefEqProofs only [hc,hl1,h1,h2,h3,h4,hd3,h0,A8 hd4,hd4,L3,List.length_map,show ((0:Nat):Int)=0 from rfl,XP,Nat.reduceAdd,Nat.reduceSub,Nat.reduceLT,Nat.reduceLeDiff,Nat.reduceEqDiff,Nat.reduceMul,↓reduceIte]
  exact ⟨_,rfl⟩)
set_option maxHeartbeats 4000000 in
theorem EK (R:RunT T) (hx:∀ y∈x.args,0≤y∧y < r.length) (hl:x.args.length≤100000) (hd:¬ 0≤x.dst) (hb:evP ⟨A0,T,A4⟩ (.body 24 [.ptr 0 0 0,.int .i64 x.n,f9 (neE (argsI x r)) 1 (argsI x r)] ⟨D9 (neE (argsI x r)) fd fo false m s (argsI x r),nE (neE (argsI x r)) fd fo,[]⟩)=some (.val [.int .i64 v] ⟨D9 (neE (argsI x r)) fd fo n' m s' (argsI x r),nE (neE (argsI x r)) fd fo,t0⟩)):∃ t1,evP ⟨A0,T,A4⟩ (.body 41 [.ptr 0 0 0,x.F,.msl 1 0 r.length 1] ⟨D9 true fd fo false m s r,nE true fd fo,[]⟩)=some (.val [] ⟨D9 true fd fo n' m s' r,nE true fd fo,t1⟩):=by
 obtain ⟨t1,hc⟩:=oE (r:=r) (xs:=[x.F]) (xz:=8) R hb
 obtain ⟨fr',hl1,h1,h2,h3,h4⟩:=oC (T:=T) (m:=m) (s:=s) (fd:=fd) (fo:=fo) hx hl
 have h0:decide (x.dst ≥ 0)=false:=by simp; omega
 generalize neE (argsI x r)=fa at hc hl1 h4
 generalize argsI x r=a at hc hl1 h4
 rw [A7 (c:=uA) (nt:=38) (rs:=[]) rfl (by simp)]; unfold uA
 unfold fN fM fL fK fJ fI
 unfold kC kD fX D9 at hl1
 unfold D9 at hc ⊢
 unfold mB at hc hl1 ⊢
 simp only [Ins.F] at hc hl1 ⊢
 cases fa <;> cases fd <;> cases fo <;> cases n' <;> (
  simp only [dA,dR,oA,oR,aR,nB,nE,lD,oG,dd,D9,mB,f9,Nat.reduceAdd,List.cons_append,List.nil_append,List.append_nil,show ((0:Nat):Int)=0 from rfl] at hc hl1 h1 h2 h3 h4 ⊢
  simp -implicitDefEqProofs only [hc,hl1,h1,h2,h3,h4,h0,List.length_map,show ((0:Nat):Int)=0 from rfl,XP,Nat.reduceAdd,Nat.reduceSub,Nat.reduceLT,Nat.reduceLeDiff,Nat.reduceEqDiff,Nat.reduceMul,↓reduceIte]
  exact ⟨_,rfl⟩)
set_option maxHeartbeats 4000000 in
theorem EL (R:RunT T) (hx:∀ y∈x.args,0≤y∧y < r.length) (hl:x.args.length≤100000) {st c:Int} (hb:evP ⟨A0,T,A4⟩ (.body 24 [.ptr 0 0 0,.int .i64 x.n,f9 (neE (argsI x r)) 1 (argsI x r)] ⟨D9 (neE (argsI x r)) fd fo false m s (argsI x r),nE (neE (argsI x r)) fd fo,[]⟩)=some (.pan (D3 st c) ⟨D9 (neE (argsI x r)) fd fo n' m s' (argsI x r),nE (neE (argsI x r)) fd fo,t0⟩)):∃ t1,evP ⟨A0,T,A4⟩ (.body 41 [.ptr 0 0 0,x.F,.msl 1 0 r.length 1] ⟨D9 true fd fo false m s r,nE true fd fo,[]⟩)=some (.pan (D3 st c) ⟨D9 true fd fo n' m s' r,nE true fd fo,t1⟩):=by
 obtain ⟨t1,hc⟩:=rS (r:=r) (xs:=[x.F]) (xz:=8) R hb
 obtain ⟨fr',hl1,h1,h2,h3,h4⟩:=oC (T:=T) (m:=m) (s:=s) (fd:=fd) (fo:=fo) hx hl
 unfold D3 at hc ⊢
 generalize neE (argsI x r)=fa at hc hl1 h4
 generalize argsI x r=a at hc hl1 h4
 rw [A7 (c:=uA) (nt:=38) (rs:=[]) rfl (by simp)]; unfold uA
 unfold fN fM fL fK fJ fI
 unfold kC kD fX D9 at hl1
 unfold D9 at hc ⊢
 unfold mB at hc hl1 ⊢
 simp only [Ins.F] at hc hl1 ⊢
 cases fa <;> cases fd <;> cases fo <;> cases n' <;> (
  simp only [dA,dR,oA,oR,aR,nB,nE,lD,oG,dd,D9,mB,f9,Nat.reduceAdd,List.cons_append,List.nil_append,List.append_nil,show ((0:Nat):Int)=0 from rfl] at hc hl1 h1 h2 h3 h4 ⊢
  simp -implicitDefEqProofs only [hc,hl1,h1,h2,h3,h4,List.length_map,show ((0:Nat):Int)=0 from rfl,XP,Nat.reduceAdd,Nat.reduceSub,Nat.reduceLT,Nat.reduceLeDiff,Nat.reduceEqDiff,Nat.reduceMul,↓reduceIte]
  exact ⟨_,rfl⟩)
end
end Go.Proofs.AmEnv
