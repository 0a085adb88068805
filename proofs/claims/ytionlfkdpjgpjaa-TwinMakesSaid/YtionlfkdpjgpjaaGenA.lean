/- What this program's functions do, at any data. Conditions: none. -/
import Derived.Test.YtionlfkdpjgpjaaEnv
set_option linter.unusedVariables false
set_option linter.unusedSimpArgs false
set_option linter.unusedSectionVars false
set_option linter.defProp false
set_option maxRecDepth 100000
noncomputable section
namespace Go.Proofs.AmEnv
open Go Go.AM
variable {T:Nat->Option (List AV->Option (List AV))}
abbrev ints (l:List Int):List AV:=l.map (AV.int .i64)
theorem D3 {l:List Int} {i:Nat} (h:i < l.length):(ints l)[i]?=some (.int .i64 l[i]):=by
 unfold ints; rw [List.getElem?_map,List.getElem?_eq_getElem h]; rfl
theorem Sx {l:List Int} {i:Nat} (h:i < l.length):ints (l.take i) ++ [.int .i64 l[i]]=ints (l.take (i + 1)):=by
 unfold ints; rw [List.take_succ_eq_append_getElem h,List.map_append]; rfl
section
variable {l:List Int} {f:Bool} {i:Nat} {x:Int} {es:List AV}
theorem KM (hl:0 < l.length) :
 evP ⟨A0,T,A2⟩ (.code Fy [(0,.fsl (ints l) f),(3,.nilsl),(4,.int .i64 0)] ⟨[],0,[]⟩)=some (.ok .normal [(0,.fsl (ints l) f),(3,.msl 0 0 1 1),(4,.int .i64 ((1:Nat):Int))] ⟨[.row 0 (ints (l.take 1)) 1],0,[]⟩):=by
 unfold Fy
 have hlt:decide ((0:Int) < ((ints l).length:Int))=true:=by simp [hl]
 have hi:=D3 hl
 have hw:=A9 (i:=0) (by omega)
 have hx:Ua aH (.fsl (ints l) f) (.int .i64 0)=some (.fptr (.int .i64 l[0]) 0):=ix_fsl (i:=0) hi rfl
 have ht:=Sx hl
 rw [List.take_zero] at ht
 have ht:[AV.int .i64 l[0]]=ints (l.take 1):=ht
 simp -implicitDefEqProofs only [hlt,hx,← ht,show IntKind.i64.wrap (0 + 1)=((1:Nat):Int) from rfl,XP,Nat.reduceAdd,Nat.reduceSub,Nat.reduceLT,Nat.reduceLeDiff,Nat.reduceEqDiff,Nat.reduceMul,↓reduceIte]
theorem KN (hl:i < l.length) (hs:l.length * 8≤140737488355328) :
 evP ⟨A0,T,A2⟩ (.code Fy [(0,.fsl (ints l) f),(3,.msl 0 0 i 1),(4,.int .i64 i)] ⟨[.row 0 (ints (l.take i)) 1],0,[]⟩)=some (.ok .normal [(0,.fsl (ints l) f),(3,.msl 0 0 (i + 1) 1),(4,.int .i64 ((i + 1:Nat):Int))] ⟨[.row 0 (ints (l.take (i + 1))) 1],0,[]⟩):=by
 unfold Fy
 have hlt:decide ((i:Int) < ((ints l).length:Int))=true:=by simp [hl]
 have hi:=D3 hl
 have hm:(ints (l.take i)).length=i:=by simp; omega
 have hw:=A9 (i:=i) (by omega)
 have hz:(i + 1) * 8≤140737488355328:=by omega
 simp -implicitDefEqProofs only [hlt,hi,hm,hw,hz,Sx hl,XP,seval]
theorem AP {y:AV} {K:PK}:∃ fr',evP ⟨A0,T,A2⟩ (.code Fy [(0,.fsl (ints l) f),(3,y),(4,.int .i64 l.length)] K)=some (.ok (.exit 0) fr' K)∧lookP fr' 3=y:=by
 unfold Fy
 have hlt:decide ((l.length:Int) < ((ints l).length:Int))=false:=by simp
 simp -implicitDefEqProofs only [hlt,XP,seval]
 exact ⟨_,rfl,rfl⟩
theorem AQ (hs:l.length * 8≤140737488355328):∀ (n i:Nat),l.length=i + n->0 < i->∃ fr',evP ⟨A0,T,A2⟩ (.code (.loop Fy) [(0,.fsl (ints l) f),(3,.msl 0 0 i 1),(4,.int .i64 i)] ⟨[.row 0 (ints (l.take i)) 1],0,[]⟩)=some (.ok (.exit 0) fr' ⟨[.row 0 (ints l) 1],0,[]⟩)∧lookP fr' 3=.msl 0 0 l.length 1
 | 0,i,e,h0=>by
  obtain rfl:i=l.length:=by omega
  rw [List.take_length]
  obtain ⟨fr',h1,h2⟩:=AP (T:=T) (l:=l) (f:=f) (y:=.msl 0 0 l.length 1) (K:=⟨[.row 0 (ints l) 1],0,[]⟩)
  exact ⟨fr',loop_exit h1,h2⟩
 | n + 1,i,e,h0=>by
  rw [loop_more (KN (by omega) hs)]
  exact AQ hs n (i + 1) (by omega) (by omega)
theorem Nz (hs:l.length * 8≤140737488355328):AM.Comes ⟨A0,T,A2⟩ 69 [.fsl (ints l) f] [ownd 0 1 (ints l)]:=by
 cases l with
 | nil =>
  obtain ⟨fr',h1,h2⟩:=AP (T:=T) (l:=[]) (f:=f) (y:=.nilsl) (K:=⟨[],0,[]⟩)
  have hl:=loop_exit h1
  refine ⟨[.nilsl],⟨[],0,[]⟩,?_,⟨by decide,rfl,rfl⟩⟩
  rw [A7 (c:=wK) (nt:=19) (rs:=[.tmp 2]) rfl (by simp)]
  unfold wK K0
  have hl:evP ⟨A0,T,A2⟩ (.code (.loop Fy) [(0,.fsl (ints []) f),(3,.nilsl),(4,.int .i64 0)] ⟨[],0,[]⟩)=_:=hl
  simp -implicitDefEqProofs only [hl,h2,XP,seval]
 | cons x r =>
  obtain ⟨fr',h1,h2⟩:=AQ (T:=T) (f:=f) hs r.length 1 (by simp; omega) (by decide)
  have hl:=(loop_more (KM (T:=T) (f:=f) (l:=x :: r) (by simp))).trans h1
  refine ⟨[.msl 0 0 (x :: r).length 1],⟨[.row 0 (ints (x :: r)) 1],0,[]⟩,?_,?_⟩
  . rw [A7 (c:=wK) (nt:=19) (rs:=[.tmp 2]) rfl (by simp)]
    unfold wK K0
    simp -implicitDefEqProofs only [hl,h2,XP,seval]
  . refine B4 (vs':=[.msl 0 0 (x :: r).length 1]) (os':=[.row 0 (ints (x :: r)) 1]) ?_ ?_ (us:=[.msl 0 0 (ints (x :: r)).length 1]) (ps:=[.row 0 (ints (x :: r)) 1]) ?_ ?_ ?_
    all_goals simp -implicitDefEqProofs only [List.length_map,XP,seval]
end
end Go.Proofs.AmEnv
set_option maxRecDepth 100000
namespace Go.Proofs.AmEnv
open Go Go.AM
variable {T:Nat->Option (List AV->Option (List AV))}
theorem ints_inj {l m:List Int} (h:ints l=ints m):l=m:=by
 induction l generalizing m with
 | nil=>cases m with
  | nil=>rfl
  | cons=>cases h
 | cons x l ih=>cases m with
  | nil=>cases h
  | cons y m=>injection h with h1 h2; injection h1 with _ h1; rw [h1,ih h2]
section
variable {l m:List Int} {f g:Bool} {i:Nat}
theorem KO (hl:i < l.length) (hm:i < m.length) (he:l[i]=m[i]) (hs:l.length≤140737488355328) :
 evP ⟨A0,T,A2⟩ (.code Bg [(0,.fsl (ints l) f),(1,.fsl (ints m) g),(5,.int .i64 i)] ⟨[],0,[]⟩)=some (.ok .normal [(0,.fsl (ints l) f),(1,.fsl (ints m) g),(5,.int .i64 ((i + 1:Nat):Int))] ⟨[],0,[]⟩):=by
 unfold Bg
 have hlt:decide ((i:Int) < ((ints l).length:Int))=true:=by simp [hl]
 have h1:=D3 hl
 have h2:=D3 hm
 have hw:=A9 (i:=i) (by omega)
 simp -implicitDefEqProofs only [hlt,h1,h2,hw,he,u_not,XP,seval]
theorem KP (hl:i < l.length) (hm:i < m.length) (he:¬ l[i]=m[i]) :
 ∃ fr',evP ⟨A0,T,A2⟩ (.code Bg [(0,.fsl (ints l) f),(1,.fsl (ints m) g),(5,.int .i64 i)] ⟨[],0,[]⟩)=some (.ok .ret fr' ⟨[],0,[]⟩)∧lookP fr' 4=.bool false:=by
 unfold Bg
 have hlt:decide ((i:Int) < ((ints l).length:Int))=true:=by simp [hl]
 have h1:=D3 hl
 have h2:=D3 hm
 have hd:decide (l[i]=m[i])=false:=by simp [he]
 simp -implicitDefEqProofs only [hlt,h1,h2,hd,u_not,XP,seval]
 exact ⟨_,rfl,rfl⟩
theorem KQ (hm:l.length=m.length):∃ fr',evP ⟨A0,T,A2⟩ (.code Bg [(0,.fsl (ints l) f),(1,.fsl (ints m) g),(5,.int .i64 l.length)] ⟨[],0,[]⟩)=some (.ok (.exit 0) fr' ⟨[],0,[]⟩):=by
 unfold Bg
 have hlt:decide ((l.length:Int) < ((ints l).length:Int))=false:=by simp
 simp -implicitDefEqProofs only [hlt,XP,seval]
 exact ⟨_,rfl⟩
theorem si_l (hs:l.length≤140737488355328) (hm:l.length=m.length):∀ (n i:Nat),l.length=i + n ->
 (l.drop i=m.drop i∧∃ fr',evP ⟨A0,T,A2⟩ (.code (.loop Bg) [(0,.fsl (ints l) f),(1,.fsl (ints m) g),(5,.int .i64 i)] ⟨[],0,[]⟩)=some (.ok (.exit 0) fr' ⟨[],0,[]⟩)) ∨
 (l.drop i ≠ m.drop i∧∃ fr',evP ⟨A0,T,A2⟩ (.code (.loop Bg) [(0,.fsl (ints l) f),(1,.fsl (ints m) g),(5,.int .i64 i)] ⟨[],0,[]⟩)=some (.ok .ret fr' ⟨[],0,[]⟩)∧lookP fr' 4=.bool false)
 | 0,i,e=>by
  obtain rfl:i=l.length:=by omega
  obtain ⟨fr',h⟩:=KQ (T:=T) (f:=f) (g:=g) hm
  exact .inl ⟨by rw [List.drop_length,hm,List.drop_length],fr',loop_exit h⟩
 | n + 1,i,e=>by
  have hl:i < l.length:=by omega
  have hl':i < m.length:=by omega
  rw [List.drop_eq_getElem_cons hl,List.drop_eq_getElem_cons hl']
  by_cases he:l[i]=m[i]
  . rw [loop_more (KO hl hl' he hs)]
    rcases si_l hs hm n (i + 1) (by omega) with ⟨h1,h2⟩ | ⟨h1,h2⟩
    . exact .inl ⟨by rw [he,h1],h2⟩
    . exact .inr ⟨fun h=>h1 (List.cons.inj h).2,h2⟩
  . obtain ⟨fr',h1,h2⟩:=KP (T:=T) (f:=f) (g:=g) hl hl' he
    exact .inr ⟨fun h=>he (List.cons.inj h).1,fr',S9 h1,h2⟩
theorem Oa (hs:l.length≤140737488355328):AM.Comes ⟨A0,T,A2⟩ 21 [.fsl (ints l) f,.fsl (ints m) g] [.bool (decide (l=m))]:=by
 refine ⟨[.bool (decide (l=m))],⟨[],0,[]⟩,?_,B4 rfl List.nodup_nil rfl rfl rfl⟩
 rw [A7 (c:=GS) (nt:=27) (rs:=[.tmp 4]) rfl (by simp)]
 unfold GS K0
 by_cases hm:l.length=m.length
 . have hn:(!decide (((ints l).length:Int)=((ints m).length:Int)))=false:=by simp [hm]
   rcases si_l (T:=T) (f:=f) (g:=g) hs hm l.length 0 (by omega) with ⟨h1,fr',h2⟩ | ⟨h1,fr',h2,h3⟩
   . have h1:decide (l=m)=true:=by simpa using h1
     have h2:evP ⟨A0,T,A2⟩ (.code (.loop Bg) [(0,.fsl (ints l) f),(1,.fsl (ints m) g),(5,.int .i64 0)] ⟨[],0,[]⟩)=_:=h2
     simp -implicitDefEqProofs only [hn,h1,h2,XP,seval]
   . have h1:decide (l=m)=false:=by simpa using h1
     have h2:evP ⟨A0,T,A2⟩ (.code (.loop Bg) [(0,.fsl (ints l) f),(1,.fsl (ints m) g),(5,.int .i64 0)] ⟨[],0,[]⟩)=_:=h2
     simp -implicitDefEqProofs only [hn,h1,h2,h3,XP,seval]
 . have hn:(!decide (((ints l).length:Int)=((ints m).length:Int)))=true:=by simp [hm]; omega
   have h1:decide (l=m)=false:=by simp; intro h; exact hm (by rw [h])
   simp -implicitDefEqProofs only [hn,h1,XP,seval]
end
end Go.Proofs.AmEnv
set_option maxRecDepth 100000
namespace Go.Proofs.AmEnv
open Go Go.AM
structure Ins where
 op:Int
 ty:Int
 dst:Int
 a:Int
 b:Int
 n:Int
 s:List UInt8
 args:List Int
deriving DecidableEq
abbrev bigN:Nat:=140737488355328
def Ins.cs (x:Ins) (v:AV):List AV:=[.int .i64 x.op,.int .i64 x.ty,.int .i64 x.dst,.int .i64 x.a,.int .i64 x.b,.int .i64 x.n,.str x.s,v]
def Ins.F (x:Ins):AV:=.agg [.int .i64 x.op,.int .i64 x.ty,.int .i64 x.dst,.int .i64 x.a,.int .i64 x.b,.int .i64 x.n,.str x.s,fslN (ints x.args)]
def Ins.O (x:Ins):AV:=.agg [.int .i64 x.op,.int .i64 x.ty,.int .i64 x.dst,.int .i64 x.a,.int .i64 x.b,.int .i64 x.n,.str x.s,ownd 0 1 (ints x.args)]
def Ins.ok (x:Ins):Prop:=x.args.length * 8≤bigN
theorem fslN_inj {l m:List AV} (h:fslN l=fslN m):l=m:=by unfold fslN at h; injection h
theorem Ins.F_inj {x y:Ins} (h:x.F=y.F):x=y:=by
 cases x; cases y
 simp only [Ins.F,AV.agg.injEq,List.cons.injEq,AV.int.injEq,AV.str.injEq,true_and,and_true] at h
 obtain ⟨rfl,rfl,rfl,rfl,rfl,rfl,rfl,h⟩:=h
 rw [ints_inj (fslN_inj h)]
def E2:=U4 (fun l:List Int=>[fslN (ints l)]) (fun l=>[ownd 0 1 (ints l)]) (fun l=>l.length * 8≤bigN)
theorem Y3 {l:List Int} (h:l.length * 8≤bigN):E2 [fslN (ints l)]=some [ownd 0 1 (ints l)]:=C0 (a:=fun l:List Int=>[fslN (ints l)]) (fun x y e=>by injection e with e _; rw [ints_inj (fslN_inj e)]) l h
def U9:=U4 (fun p:List Int × List Int=>[fslN (ints p.1),fslN (ints p.2)]) (fun p=>[.bool (decide (p.1=p.2))]) (fun p=>p.1.length * 8≤bigN)
theorem x8 {l m:List Int} (h:l.length * 8≤bigN):U9 [fslN (ints l),fslN (ints m)]=some [.bool (decide (l=m))]:=C0 (a:=fun p:List Int × List Int=>[fslN (ints p.1),fslN (ints p.2)]) (r:=fun p=>[.bool (decide (p.1=p.2))]) (fun x y e=>by
 injection e with e1 e; injection e with e2 _
 rw [ints_inj (fslN_inj e1),ints_inj (fslN_inj e2)]) (l,m) h
theorem frzL_ints (l:List Int):frzL (ints l)=some (ints l):=V8 (f:=AV.int .i64) (g:=AV.int .i64) (fun _=>rfl) l
section
variable {T:Nat->Option (List AV->Option (List AV))}
theorem noFL_ints (l:List Int):noFL (ints l)=true:=by
 induction l with
 | nil=>rfl
 | cons x l ih=>exact ih
set_option maxHeartbeats 4000000 in
theorem Kr (hT:T 69=some E2) {x:Ins} (h:x.ok):AM.Comes ⟨A0,T,A2⟩ 155 [x.F] [x.O]:=by
 refine ⟨[.agg (x.cs (.msl 1 0 (ints x.args).length 1))],⟨[.row 1 [.agg (x.cs (.msl 1 0 (ints x.args).length 1))] 8,.row 0 (ints x.args) 1],0,[]⟩,?_,?_⟩
 . rw [A7 (c:=oE) (nt:=8) (rs:=[.cell 2 77]) rfl (by simp)]
   unfold oE K0
   have ht:∀ {K:PK},evP ⟨A0,T,A2⟩ (.call 69 [fslN (ints x.args)] K)=some (.val (openTs K.os.length [ownd 0 1 (ints x.args)]).1 ⟨K.os ++ (openTs K.os.length [ownd 0 1 (ints x.args)]).2,K.ext,K.tch⟩):=B5 hT (by show D8 (Ru (frzL (ints x.args))) (some [])=_; rw [frzL_ints]; rfl) (Y3 h) (by rfl)
   simp -implicitDefEqProofs only [Ins.F,Ins.cs,ht,XP,seval]
 . refine B4 (vs':=[.agg (x.cs (.msl 1 0 (ints x.args).length 1))]) (os':=[.row 1 [.agg (x.cs (.msl 1 0 (ints x.args).length 1))] 8,.row 0 (ints x.args) 1]) ?_ ?_ (us:=[.agg (x.cs (.msl 0 0 (ints x.args).length 1))]) (ps:=[.row 0 (ints x.args) 1]) ?_ ?_ ?_
   all_goals simp -implicitDefEqProofs only [Ins.cs,Ins.O,XP,seval]
set_option maxHeartbeats 4000000 in
theorem Ks (hT:T 21=some U9) {x y:Ins} (h:x.ok):AM.Comes ⟨A0,T,A2⟩ 78 [x.F,y.F] [.bool (decide (x=y))]:=by
 refine ⟨[.bool (decide (x=y))],⟨[],0,[]⟩,?_,B4 rfl List.nodup_nil rfl rfl rfl⟩
 rw [A7 (c:=HI) (nt:=59) (rs:=[.tmp 4]) rfl (by simp)]
 unfold HI K0
 have ht:∀ {K:PK},evP ⟨A0,T,A2⟩ (.call 21 [fslN (ints x.args),fslN (ints y.args)] K)=some (.val [.bool (decide (x.args=y.args))] ⟨K.os ++ [],K.ext,K.tch⟩):=B5 hT (by show D8 (Ru (frzL (ints x.args))) (D8 (Ru (frzL (ints y.args))) (some []))=_; rw [frzL_ints,frzL_ints]; rfl) (x8 h) (by rfl)
 have no:∀ {p:Prop} [Decidable p],¬ p->decide p=false:=fun h=>by simp [h]
 have yes:∀ {p:Prop} [Decidable p],p->decide p=true:=fun h=>by simp [h]
 have ext:x=y ↔ x.op=y.op∧x.ty=y.ty∧x.dst=y.dst∧x.a=y.a∧x.b=y.b∧x.n=y.n∧x.s=y.s∧x.args=y.args:=by
  cases x; cases y; simp
 by_cases h1:x.op=y.op
 . by_cases h2:x.ty=y.ty
   . by_cases h3:x.dst=y.dst
     . by_cases h4:x.a=y.a
       . by_cases h5:x.b=y.b
         . by_cases h6:x.n=y.n
           . by_cases h7:x.s=y.s
             . have e:decide (x=y)=decide (x.args=y.args):=by simp [ext,h1,h2,h3,h4,h5,h6,h7]
               simp -implicitDefEqProofs only [Ins.F,ht,e,yes h1,yes h2,yes h3,yes h4,yes h5,yes h6,yes h7,XP,seval]
             . have e:decide (x=y)=false:=no fun e=>h7 (ext.1 e).2.2.2.2.2.2.1
               simp -implicitDefEqProofs only [Ins.F,e,yes h1,yes h2,yes h3,yes h4,yes h5,yes h6,no h7,XP,seval]
           . have e:decide (x=y)=false:=no fun e=>h6 (ext.1 e).2.2.2.2.2.1
             simp -implicitDefEqProofs only [Ins.F,e,yes h1,yes h2,yes h3,yes h4,yes h5,no h6,XP,seval]
         . have e:decide (x=y)=false:=no fun e=>h5 (ext.1 e).2.2.2.2.1
           simp -implicitDefEqProofs only [Ins.F,e,yes h1,yes h2,yes h3,yes h4,no h5,XP,seval]
       . have e:decide (x=y)=false:=no fun e=>h4 (ext.1 e).2.2.2.1
         simp -implicitDefEqProofs only [Ins.F,e,yes h1,yes h2,yes h3,no h4,XP,seval]
     . have e:decide (x=y)=false:=no fun e=>h3 (ext.1 e).2.2.1
       simp -implicitDefEqProofs only [Ins.F,e,yes h1,yes h2,no h3,XP,seval]
   . have e:decide (x=y)=false:=no fun e=>h2 (ext.1 e).2.1
     simp -implicitDefEqProofs only [Ins.F,e,yes h1,no h2,XP,seval]
 . have e:decide (x=y)=false:=no fun e=>h1 (ext.1 e).1
   simp -implicitDefEqProofs only [Ins.F,e,no h1,XP,seval]
end
end Go.Proofs.AmEnv
set_option maxRecDepth 100000
namespace Go.Proofs.AmEnv
open Go Go.AM
variable {T:Nat->Option (List AV->Option (List AV))}
def V0:=U4 (fun x:Ins=>[x.F]) (fun x=>[x.O]) Ins.ok
theorem Rf {x:Ins} (h:x.ok):V0 [x.F]=some [x.O]:=C0 (a:=fun x:Ins=>[x.F]) (fun x y e=>by injection e with e _; rw [Ins.F_inj e]) x h
def F0:=U4 (fun p:Ins × Ins=>[p.1.F,p.2.F]) (fun p=>[.bool (decide (p.1=p.2))]) (fun p=>p.1.ok)
theorem Dq {x y:Ins} (h:x.ok):F0 [x.F,y.F]=some [.bool (decide (x=y))]:=C0 (a:=fun p:Ins × Ins=>[p.1.F,p.2.F]) (r:=fun p=>[.bool (decide (p.1=p.2))]) (fun x y e=>by
 injection e with e1 e; injection e with e2 _
 rw [Ins.F_inj e1,Ins.F_inj e2]) (x,y) h
theorem Ins.viewF {os:List PO} (x:Ins):viewA os x.F=some x.F:=by
 unfold Ins.F
 simp -implicitDefEqProofs only [frzL_ints,XP,seval]
theorem Ins.frzF (x:Ins):frzC x.F=some x.F:=by
 unfold Ins.F
 simp -implicitDefEqProofs only [frzL_ints,XP,seval]
theorem Ins.frzO (x:Ins):frzC x.O=some x.F:=by
 unfold Ins.F Ins.O
 simp -implicitDefEqProofs only [frzL_ints,XP,seval]
theorem B1 {X:Type} {F:X->AV} {l:List X} {i:Nat} (h:i < l.length):(l.map F)[i]?=some (F l[i]):=by rw [List.getElem?_map,List.getElem?_eq_getElem h]; rfl
theorem map_take {X:Type} {F:X->AV} {l:List X} {i:Nat} (h:i < l.length):(l.take i).map F ++ [F l[i]]=(l.take (i + 1)).map F:=by rw [List.take_succ_eq_append_getElem h,List.map_append]; rfl
section
variable {l:List Ins} {f:Bool} {i:Nat}
theorem Ob (hT:T 155=some V0) {x:Ins} (h:x.ok) {K:PK}:evP ⟨A0,T,A2⟩ (.call 155 [x.F] K)=some (.val (openTs K.os.length [x.O]).1 ⟨K.os ++ (openTs K.os.length [x.O]).2,K.ext,K.tch⟩):=B5 hT (by show D8 (viewA _ x.F) (some [])=_; rw [Ins.viewF]; rfl) (Rf h) (by
 unfold Ins.O Ins.F
 simp -implicitDefEqProofs only [noFL_ints,XP,seval])
set_option maxHeartbeats 4000000 in
theorem AR (hT:T 155=some V0) (hl:i < l.length) (hk:l[i].ok) (hs:l.length * 88≤bigN) :
 evP ⟨A0,T,A2⟩ (.code Bh [(0,fslN (l.map Ins.F)),(3,.msl 0 0 i 8),(4,.int .i64 i)] ⟨[.row 0 ((l.take i).map Ins.O) 8],0,[]⟩)=some (.ok .normal [(0,fslN (l.map Ins.F)),(3,.msl 0 0 (i + 1) 8),(4,.int .i64 ((i + 1:Nat):Int))] ⟨[.row 0 ((l.take (i + 1)).map Ins.O) 8],0,[]⟩):=by
 unfold Bh
 have hlt:decide ((i:Int) < ((l.map Ins.F).length:Int))=true:=by simp [hl]
 have hi:=B1 (F:=Ins.F) hl
 have hm:((l.take i).map Ins.O).length=i:=by simp; omega
 have hw:=A9 (i:=i) (by simp only [bigN] at hs; omega)
 have hz:(i + 1) * 88≤140737488355328:=by simp only [bigN] at hs; omega
 have ht:=fun K=>Ob (K:=K) hT hk
 have hx:=map_take (F:=Ins.O) hl
 simp only [Ins.F] at ht hi
 simp only [Ins.O] at hx
 simp -implicitDefEqProofs only [hlt,hi,hm,hw,hz,Ins.O,ht,hx,XP,seval]
set_option maxHeartbeats 4000000 in
theorem AS (hT:T 155=some V0) (hl:0 < l.length) (hk:l[0].ok) (hs:l.length * 88≤bigN) :
 evP ⟨A0,T,A2⟩ (.code Bh [(0,fslN (l.map Ins.F)),(3,.nilsl),(4,.int .i64 0)] ⟨[],0,[]⟩)=some (.ok .normal [(0,fslN (l.map Ins.F)),(3,.msl 0 0 1 8),(4,.int .i64 ((1:Nat):Int))] ⟨[.row 0 ((l.take 1).map Ins.O) 8],0,[]⟩):=by
 unfold Bh
 have hlt:decide ((0:Int) < ((l.map Ins.F).length:Int))=true:=by simp [hl]
 have hi:=B1 (F:=Ins.F) hl
 have hi:=ix_fslN (te:=X6) (k:=.i64) (i:=0) hi rfl
 have hi:Ua X6 (fslN (l.map Ins.F)) (.int .i64 0)=some (.fptr (Ins.F l[0]) 0):=hi
 have ht:=fun K=>Ob (K:=K) hT hk
 have hx:=map_take (F:=Ins.O) hl
 rw [List.take_zero] at hx
 have hx:[Ins.O l[0]]=(l.take 1).map Ins.O:=hx
 simp only [Ins.F] at ht hi
 rw [← hx]
 simp -implicitDefEqProofs only [hlt,hi,Ins.O,ht,show IntKind.i64.wrap (0 + 1)=((1:Nat):Int) from rfl,XP,Nat.reduceAdd,Nat.reduceSub,Nat.reduceLT,Nat.reduceLeDiff,Nat.reduceEqDiff,Nat.reduceMul,↓reduceIte]
theorem AT {y:AV} {K:PK}:∃ fr',evP ⟨A0,T,A2⟩ (.code Bh [(0,fslN (l.map Ins.F)),(3,y),(4,.int .i64 l.length)] K)=some (.ok (.exit 0) fr' K)∧lookP fr' 3=y:=by
 unfold Bh
 have hlt:decide ((l.length:Int) < ((l.map Ins.F).length:Int))=false:=by simp
 simp -implicitDefEqProofs only [hlt,XP,seval]
 exact ⟨_,rfl,rfl⟩
theorem Ig (hT:T 155=some V0) (hk:∀ x∈l,x.ok) (hs:l.length * 88≤bigN):AM.Comes ⟨A0,T,A2⟩ 145 [fslN (l.map Ins.F)] [ownd 0 8 (l.map Ins.O)]:=by
 obtain ⟨fr',y,os,h1,h2,h3⟩:=Ub (P:=⟨A0,T,A2⟩) (c:=Bh) (A:=fslN (l.map Ins.F)) (O:=Ins.O) (sz:=8) (l:=l) (fun h=>AS hT h (hk _ (List.getElem_mem h)) hs) (fun i h=>AR hT h (hk _ (List.getElem_mem h)) hs) (fun y K=>AT)
 refine ⟨[y],⟨os,0,[]⟩,?_,C9 h3⟩
 rw [A7 (c:=oC) (nt:=20) (rs:=[.tmp 2]) rfl (by simp)]
 unfold oC K0
 rcases h3 with ⟨_,rfl,rfl⟩ | ⟨rfl,rfl⟩
 . simp -implicitDefEqProofs only [h1,h2,XP,seval]
 . simp -implicitDefEqProofs only [h1,h2,XP,seval]
end
end Go.Proofs.AmEnv
set_option maxRecDepth 100000
namespace Go.Proofs.AmEnv
open Go Go.AM
variable {T:Nat->Option (List AV->Option (List AV))}
theorem map_inj {X:Type} {F:X->AV} (hF:∀ x y,F x=F y->x=y):∀ {l m:List X},l.map F=m.map F->l=m
 | [],[],_=>rfl
 | [],_ :: _,h=>by cases h
 | _ :: _,[],h=>by cases h
 | x :: l,y :: m,h=>by
  injection h with h1 h2
  rw [hF _ _ h1,map_inj hF h2]
def R6:=U4 (fun l:List Ins=>[fslN (l.map Ins.F)]) (fun l=>[ownd 0 8 (l.map Ins.O)]) (fun l=>(∀ x∈l,x.ok)∧l.length * 88≤bigN)
theorem Oc {l:List Ins} (h1:∀ x∈l,x.ok) (h2:l.length * 88≤bigN):R6 [fslN (l.map Ins.F)]=some [ownd 0 8 (l.map Ins.O)]:=C0 (a:=fun l:List Ins=>[fslN (l.map Ins.F)]) (fun x y e=>by injection e with e _; rw [map_inj (fun _ _=>Ins.F_inj) (fslN_inj e)]) l ⟨h1,h2⟩
def K5:=U4 (fun p:List Ins × List Ins=>[fslN (p.1.map Ins.F),fslN (p.2.map Ins.F)]) (fun p=>[.bool (decide (p.1=p.2))]) (fun p=>(∀ x∈p.1,x.ok)∧p.1.length * 88≤bigN)
theorem Od {l m:List Ins} (h1:∀ x∈l,x.ok) (h2:l.length * 88≤bigN):K5 [fslN (l.map Ins.F),fslN (m.map Ins.F)]=some [.bool (decide (l=m))]:=C0 (a:=fun p:List Ins × List Ins=>[fslN (p.1.map Ins.F),fslN (p.2.map Ins.F)]) (r:=fun p=>[.bool (decide (p.1=p.2))]) (fun x y e=>by
 injection e with e1 e; injection e with e2 _
 rw [map_inj (fun _ _=>Ins.F_inj) (fslN_inj e1),map_inj (fun _ _=>Ins.F_inj) (fslN_inj e2)]) (l,m) ⟨h1,h2⟩
theorem Oe (hT:T 78=some F0) {x y:Ins} (h:x.ok) {K:PK}:evP ⟨A0,T,A2⟩ (.call 78 [x.F,y.F] K)=some (.val [.bool (decide (x=y))] ⟨K.os ++ [],K.ext,K.tch⟩):=B5 hT (by show D8 (viewA _ x.F) (D8 (viewA _ y.F) (some []))=_; rw [Ins.viewF,Ins.viewF]; rfl) (Dq h) (by
 unfold Ins.F
 simp -implicitDefEqProofs only [XP,seval])
section
variable {l m:List Ins} {i:Nat}
set_option maxHeartbeats 4000000 in
theorem AU (hT:T 78=some F0) (hl:i < l.length) (hm:i < m.length) (hk:l[i].ok) (hs:l.length * 88≤bigN) (he:l[i]=m[i]) :
 evP ⟨A0,T,A2⟩ (.code Jy [(0,fslN (l.map Ins.F)),(1,fslN (m.map Ins.F)),(5,.int .i64 i)] ⟨[],0,[]⟩)=some (.ok .normal [(0,fslN (l.map Ins.F)),(1,fslN (m.map Ins.F)),(5,.int .i64 ((i + 1:Nat):Int))] ⟨[],0,[]⟩):=by
 unfold Jy
 have hlt:decide ((i:Int) < ((l.map Ins.F).length:Int))=true:=by simp [hl]
 have h1:=B1 (F:=Ins.F) hl
 have h2:=B1 (F:=Ins.F) hm
 have hw:=A9 (i:=i) (by simp only [bigN] at hs; omega)
 have ht:=fun K=>Oe (K:=K) hT (y:=m[i]) hk
 rw [A5 he] at ht
 simp only [Ins.F] at ht h1 h2
 simp -implicitDefEqProofs only [hlt,h1,h2,hw,ht,u_not,XP,seval]
set_option maxHeartbeats 4000000 in
theorem AW (hT:T 78=some F0) (hl:i < l.length) (hm:i < m.length) (hk:l[i].ok) (he:¬ l[i]=m[i]) :
 ∃ fr',evP ⟨A0,T,A2⟩ (.code Jy [(0,fslN (l.map Ins.F)),(1,fslN (m.map Ins.F)),(5,.int .i64 i)] ⟨[],0,[]⟩)=some (.ok .ret fr' ⟨[],0,[]⟩)∧lookP fr' 4=.bool false:=by
 unfold Jy
 have hlt:decide ((i:Int) < ((l.map Ins.F).length:Int))=true:=by simp [hl]
 have h1:=B1 (F:=Ins.F) hl
 have h2:=B1 (F:=Ins.F) hm
 have ht:=fun K=>Oe (K:=K) hT (y:=m[i]) hk
 rw [B8 he] at ht
 simp only [Ins.F] at ht h1 h2
 simp -implicitDefEqProofs only [hlt,h1,h2,ht,u_not,XP,seval]
 exact ⟨_,rfl,rfl⟩
theorem AX:∃ fr',evP ⟨A0,T,A2⟩ (.code Jy [(0,fslN (l.map Ins.F)),(1,fslN (m.map Ins.F)),(5,.int .i64 l.length)] ⟨[],0,[]⟩)=some (.ok (.exit 0) fr' ⟨[],0,[]⟩):=by
 unfold Jy
 have hlt:decide ((l.length:Int) < ((l.map Ins.F).length:Int))=false:=by simp
 simp -implicitDefEqProofs only [hlt,XP,seval]
 exact ⟨_,rfl⟩
theorem Ih (hT:T 78=some F0) (hk:∀ x∈l,x.ok) (hs:l.length * 88≤bigN):AM.Comes ⟨A0,T,A2⟩ 23 [fslN (l.map Ins.F),fslN (m.map Ins.F)] [.bool (decide (l=m))]:=by
 refine ⟨[.bool (decide (l=m))],⟨[],0,[]⟩,?_,B4 rfl List.nodup_nil rfl rfl rfl⟩
 rw [A7 (c:=GT) (nt:=27) (rs:=[.tmp 4]) rfl (by simp)]
 unfold GT K0
 by_cases hm:l.length=m.length
 . have hn:(!decide (((l.map Ins.F).length:Int)=((m.map Ins.F).length:Int)))=false:=by simp [hm]
   rcases same_loop (P:=⟨A0,T,A2⟩) (c:=Jy) (A:=fslN (l.map Ins.F)) (B:=fslN (m.map Ins.F)) hm (fun i h h' e=>AU hT h h' (hk _ (List.getElem_mem h)) hs e) (fun i h h' e=>AW hT h h' (hk _ (List.getElem_mem h)) e) AX with ⟨h1,fr',h2⟩ | ⟨h1,fr',h2,h3⟩
   . simp -implicitDefEqProofs only [hn,A5 h1,h2,XP,seval]
   . simp -implicitDefEqProofs only [hn,B8 h1,h2,h3,XP,seval]
 . have hn:(!decide (((l.map Ins.F).length:Int)=((m.map Ins.F).length:Int)))=true:=by simp; omega
   have h1:¬ l=m:=fun h=>hm (by rw [h])
   simp -implicitDefEqProofs only [hn,B8 h1,XP,seval]
end
end Go.Proofs.AmEnv
set_option maxRecDepth 100000
namespace Go.Proofs.AmEnv
open Go Go.AM
variable {T:Nat->Option (List AV->Option (List AV))}
structure Endd where
 kind:Int
 a:Int
 to:Int
 els:Int
deriving DecidableEq
structure Blk where
 code:List Ins
 e:Endd
deriving DecidableEq
def Endd.F (e:Endd):AV:=.agg [.int .i64 e.kind,.int .i64 e.a,.int .i64 e.to,.int .i64 e.els]
def Blk.F (x:Blk):AV:=.agg [fslN (x.code.map Ins.F),.int .i64 x.e.kind,.int .i64 x.e.a,.int .i64 x.e.to,.int .i64 x.e.els]
def Blk.O (x:Blk):AV:=.agg [ownd 0 8 (x.code.map Ins.O),.int .i64 x.e.kind,.int .i64 x.e.a,.int .i64 x.e.to,.int .i64 x.e.els]
def Blk.ok (x:Blk):Prop:=(∀ y∈x.code,y.ok)∧x.code.length * 88≤bigN
theorem Blk.F_inj {x y:Blk} (h:x.F=y.F):x=y:=by
 obtain ⟨c,e⟩:=x; obtain ⟨c',e'⟩:=y
 cases e; cases e'
 simp only [Blk.F,AV.agg.injEq,List.cons.injEq,AV.int.injEq,true_and,and_true] at h
 obtain ⟨h,rfl,rfl,rfl,rfl⟩:=h
 rw [map_inj (fun _ _=>Ins.F_inj) (fslN_inj h)]
theorem frzL_insF (l:List Ins):frzL (l.map Ins.F)=some (l.map Ins.F):=V8 Ins.frzF l
theorem gN (l:List Ins):frzL (l.map Ins.O)=some (l.map Ins.F):=V8 Ins.frzO l
theorem s3 {X:Type} {O:X->AV} (h:∀ x,noF (O x)=true):∀ l:List X,noFL (l.map O)=true
 | []=>rfl
 | x :: l=>by show (noF (O x) && noFL (l.map O))=true; rw [h,s3 h l]; rfl
theorem Ins.noF (x:Ins):noF x.O=true:=by
 unfold Ins.O
 simp -implicitDefEqProofs only [noFL_ints,XP,seval]
theorem noFL_insO (l:List Ins):noFL (l.map Ins.O)=true:=s3 Ins.noF l
theorem Blk.viewF {os:List PO} (x:Blk):viewA os x.F=some x.F:=by
 unfold Blk.F
 simp -implicitDefEqProofs only [frzL_insF,XP,seval]
theorem Blk.frzF (x:Blk):frzC x.F=some x.F:=by
 unfold Blk.F
 simp -implicitDefEqProofs only [frzL_insF,XP,seval]
theorem Blk.frzO (x:Blk):frzC x.O=some x.F:=by
 unfold Blk.F Blk.O
 simp -implicitDefEqProofs only [gN,XP,seval]
theorem Blk.noF (x:Blk):noF x.O=true:=by
 unfold Blk.O
 simp -implicitDefEqProofs only [noFL_insO,XP,seval]
theorem Kc (hT:T 145=some R6) {l:List Ins} (h1:∀ x∈l,x.ok) (h2:l.length * 88≤bigN) {K:PK}:evP ⟨A0,T,A2⟩ (.call 145 [fslN (l.map Ins.F)] K)=some (.val (openTs K.os.length [ownd 0 8 (l.map Ins.O)]).1 ⟨K.os ++ (openTs K.os.length [ownd 0 8 (l.map Ins.O)]).2,K.ext,K.tch⟩):=B5 hT (by show D8 (Ru (frzL (l.map Ins.F))) (some [])=_; rw [frzL_insF]; rfl) (Oc h1 h2) (by simp -implicitDefEqProofs only [noFL_insO,XP,seval])
section
variable {l:List Blk} {i:Nat}
set_option maxHeartbeats 4000000 in
theorem AY (hT:T 145=some R6) (hl:i < l.length) (hk:l[i].ok) (hs:l.length * 56≤bigN) :
 evP ⟨A0,T,A2⟩ (.code Jz [(0,fslN (l.map Blk.F)),(3,.msl 0 0 i 5),(4,.int .i64 i)] ⟨[.row 0 ((l.take i).map Blk.O) 5],0,[]⟩)=some (.ok .normal [(0,fslN (l.map Blk.F)),(3,.msl 0 0 (i + 1) 5),(4,.int .i64 ((i + 1:Nat):Int))] ⟨[.row 0 ((l.take (i + 1)).map Blk.O) 5],0,[]⟩):=by
 unfold Jz
 have hlt:decide ((i:Int) < ((l.map Blk.F).length:Int))=true:=by simp [hl]
 have hi:=B1 (F:=Blk.F) hl
 have hm:((l.take i).map Blk.O).length=i:=by simp; omega
 have hw:=A9 (i:=i) (by simp only [bigN] at hs; omega)
 have hz:(i + 1) * 56≤140737488355328:=by simp only [bigN] at hs; omega
 have ht:=fun K=>Kc (K:=K) hT hk.1 hk.2
 have hx:=map_take (F:=Blk.O) hl
 simp only [Blk.F] at hi
 simp only [Blk.O] at hx
 simp -implicitDefEqProofs only [hlt,hi,hm,hw,hz,Blk.O,ht,hx,XP,seval]
set_option maxHeartbeats 4000000 in
theorem AZ (hT:T 145=some R6) (hl:0 < l.length) (hk:l[0].ok) (hs:l.length * 56≤bigN) :
 evP ⟨A0,T,A2⟩ (.code Jz [(0,fslN (l.map Blk.F)),(3,.nilsl),(4,.int .i64 0)] ⟨[],0,[]⟩)=some (.ok .normal [(0,fslN (l.map Blk.F)),(3,.msl 0 0 1 5),(4,.int .i64 ((1:Nat):Int))] ⟨[.row 0 ((l.take 1).map Blk.O) 5],0,[]⟩):=by
 unfold Jz
 have hlt:decide ((0:Int) < ((l.map Blk.F).length:Int))=true:=by simp [hl]
 have hi:=B1 (F:=Blk.F) hl
 have hi:=ix_fslN (te:=n9) (k:=.i64) (i:=0) hi rfl
 have hi:Ua n9 (fslN (l.map Blk.F)) (.int .i64 0)=some (.fptr (Blk.F l[0]) 0):=hi
 have ht:=fun K=>Kc (K:=K) hT hk.1 hk.2
 have hx:=map_take (F:=Blk.O) hl
 rw [List.take_zero] at hx
 have hx:[Blk.O l[0]]=(l.take 1).map Blk.O:=hx
 simp only [Blk.F] at hi
 rw [← hx]
 simp -implicitDefEqProofs only [hlt,hi,Blk.O,ht,show IntKind.i64.wrap (0 + 1)=((1:Nat):Int) from rfl,XP,Nat.reduceAdd,Nat.reduceSub,Nat.reduceLT,Nat.reduceLeDiff,Nat.reduceEqDiff,Nat.reduceMul,↓reduceIte]
theorem BA {y:AV} {K:PK}:∃ fr',evP ⟨A0,T,A2⟩ (.code Jz [(0,fslN (l.map Blk.F)),(3,y),(4,.int .i64 l.length)] K)=some (.ok (.exit 0) fr' K)∧lookP fr' 3=y:=by
 unfold Jz
 have hlt:decide ((l.length:Int) < ((l.map Blk.F).length:Int))=false:=by simp
 simp -implicitDefEqProofs only [hlt,XP,seval]
 exact ⟨_,rfl,rfl⟩
theorem Ii (hT:T 145=some R6) (hk:∀ x∈l,x.ok) (hs:l.length * 56≤bigN):AM.Comes ⟨A0,T,A2⟩ 55 [fslN (l.map Blk.F)] [ownd 0 5 (l.map Blk.O)]:=by
 obtain ⟨fr',y,os,h1,h2,h3⟩:=Ub (P:=⟨A0,T,A2⟩) (c:=Jz) (A:=fslN (l.map Blk.F)) (O:=Blk.O) (sz:=5) (l:=l) (fun h=>AZ hT h (hk _ (List.getElem_mem h)) hs) (fun i h=>AY hT h (hk _ (List.getElem_mem h)) hs) (fun y K=>BA)
 refine ⟨[y],⟨os,0,[]⟩,?_,C9 h3⟩
 rw [A7 (c:=GW) (nt:=27) (rs:=[.tmp 2]) rfl (by simp)]
 unfold GW K0
 rcases h3 with ⟨_,rfl,rfl⟩ | ⟨rfl,rfl⟩
 . simp -implicitDefEqProofs only [h1,h2,XP,seval]
 . simp -implicitDefEqProofs only [h1,h2,XP,seval]
theorem Cr {e e':Endd} {K:PK}:R1 A0 .eql 39 (.agg [.int .i64 e.kind,.int .i64 e.a,.int .i64 e.to,.int .i64 e.els]) (.agg [.int .i64 e'.kind,.int .i64 e'.a,.int .i64 e'.to,.int .i64 e'.els]) K=.val (.bool (decide (e=e'))) K:=by
 have h:∀ a b:Int,Qt (.int .i64 a) (.int .i64 b)=some (decide (a=b)):=fun a b=>by
  show some (intEq a b)=_
  rw [Z6]; by_cases e:a=b <;> simp [e]
 rw [bp _ _ rfl rfl]
 show Ce (A4 (onOB (Qt (.int .i64 e.kind) (.int .i64 e'.kind)) none (onOB (Qt (.int .i64 e.a) (.int .i64 e'.a)) none (onOB (Qt (.int .i64 e.to) (.int .i64 e'.to)) none (onOB (Qt (.int .i64 e.els) (.int .i64 e'.els)) none (some true) (some false)) (some false)) (some false)) (some false)) D6) K=_
 simp only [h]
 obtain ⟨a,b,c,d⟩:=e
 obtain ⟨a',b',c',d'⟩:=e'
 simp only [Endd.mk.injEq]
 by_cases h1:a=a'
 . by_cases h2:b=b'
   . by_cases h3:c=c'
     . by_cases h4:d=d'
       . rw [A5 h1,A5 h2,A5 h3,A5 h4,A5 (p:=a=a'∧b=b'∧c=c'∧d=d') ⟨h1,h2,h3,h4⟩]; rfl
       . rw [A5 h1,A5 h2,A5 h3,B8 h4,B8 (p:=a=a'∧b=b'∧c=c'∧d=d') (fun h=>h4 h.2.2.2)]; rfl
     . rw [A5 h1,A5 h2,B8 h3,B8 (p:=a=a'∧b=b'∧c=c'∧d=d') (fun h=>h3 h.2.2.1)]; rfl
   . rw [A5 h1,B8 h2,B8 (p:=a=a'∧b=b'∧c=c'∧d=d') (fun h=>h2 h.2.1)]; rfl
 . rw [B8 h1,B8 (p:=a=a'∧b=b'∧c=c'∧d=d') (fun h=>h1 h.1)]; rfl
end
end Go.Proofs.AmEnv
set_option maxRecDepth 100000
namespace Go.Proofs.AmEnv
open Go Go.AM
variable {T:Nat->Option (List AV->Option (List AV))}
def R7:=U4 (fun l:List Blk=>[fslN (l.map Blk.F)]) (fun l=>[ownd 0 5 (l.map Blk.O)]) (fun l=>(∀ x∈l,x.ok)∧l.length * 56≤bigN)
theorem Of {l:List Blk} (h1:∀ x∈l,x.ok) (h2:l.length * 56≤bigN):R7 [fslN (l.map Blk.F)]=some [ownd 0 5 (l.map Blk.O)]:=C0 (a:=fun l:List Blk=>[fslN (l.map Blk.F)]) (fun x y e=>by injection e with e _; rw [map_inj (fun _ _=>Blk.F_inj) (fslN_inj e)]) l ⟨h1,h2⟩
def G9:=U4 (fun p:List Blk × List Blk=>[fslN (p.1.map Blk.F),fslN (p.2.map Blk.F)]) (fun p=>[.bool (decide (p.1=p.2))]) (fun p=>(∀ x∈p.1,x.ok)∧p.1.length * 56≤bigN)
theorem Bk {l m:List Blk} (h1:∀ x∈l,x.ok) (h2:l.length * 56≤bigN):G9 [fslN (l.map Blk.F),fslN (m.map Blk.F)]=some [.bool (decide (l=m))]:=C0 (a:=fun p:List Blk × List Blk=>[fslN (p.1.map Blk.F),fslN (p.2.map Blk.F)]) (r:=fun p=>[.bool (decide (p.1=p.2))]) (fun x y e=>by
 injection e with e1 e; injection e with e2 _
 rw [map_inj (fun _ _=>Blk.F_inj) (fslN_inj e1),map_inj (fun _ _=>Blk.F_inj) (fslN_inj e2)]) (l,m) ⟨h1,h2⟩
theorem Bl (hT:T 23=some K5) {l m:List Ins} (h1:∀ x∈l,x.ok) (h2:l.length * 88≤bigN) {K:PK}:evP ⟨A0,T,A2⟩ (.call 23 [fslN (l.map Ins.F),fslN (m.map Ins.F)] K)=some (.val [.bool (decide (l=m))] ⟨K.os ++ [],K.ext,K.tch⟩):=B5 hT (by show D8 (Ru (frzL (l.map Ins.F))) (D8 (Ru (frzL (m.map Ins.F))) (some []))=_; rw [frzL_insF,frzL_insF]; rfl) (Od h1 h2) (by simp -implicitDefEqProofs only [XP,seval])
section
variable {l m:List Blk} {i:Nat}
set_option maxHeartbeats 4000000 in
theorem BB (hT:T 23=some K5) (hl:i < l.length) (hm:i < m.length) (hk:l[i].ok) (hs:l.length * 56≤bigN) (he:l[i]=m[i]) :
 evP ⟨A0,T,A2⟩ (.code Kb [(0,fslN (l.map Blk.F)),(1,fslN (m.map Blk.F)),(5,.int .i64 i)] ⟨[],0,[]⟩)=some (.ok .normal [(0,fslN (l.map Blk.F)),(1,fslN (m.map Blk.F)),(5,.int .i64 ((i + 1:Nat):Int))] ⟨[],0,[]⟩):=by
 unfold Kb
 have hlt:decide ((i:Int) < ((l.map Blk.F).length:Int))=true:=by simp [hl]
 have h1:=B1 (F:=Blk.F) hl
 have h2:=B1 (F:=Blk.F) hm
 have hw:=A9 (i:=i) (by simp only [bigN] at hs; omega)
 have ht:=fun K=>Bl (K:=K) hT (m:=m[i].code) hk.1 hk.2
 have e1:l[i].e=m[i].e:=by rw [he]
 have e2:l[i].code=m[i].code:=by rw [he]
 rw [A5 e2] at ht
 simp only [Blk.F] at h1 h2
 simp -implicitDefEqProofs only [hlt,h1,h2,hw,ht,u_not,Cr,A5 e1,XP,seval]
set_option maxHeartbeats 4000000 in
theorem BC (hT:T 23=some K5) (hl:i < l.length) (hm:i < m.length) (hk:l[i].ok) (he:¬ l[i]=m[i]) :
 ∃ fr',evP ⟨A0,T,A2⟩ (.code Kb [(0,fslN (l.map Blk.F)),(1,fslN (m.map Blk.F)),(5,.int .i64 i)] ⟨[],0,[]⟩)=some (.ok .ret fr' ⟨[],0,[]⟩)∧lookP fr' 4=.bool false:=by
 unfold Kb
 have hlt:decide ((i:Int) < ((l.map Blk.F).length:Int))=true:=by simp [hl]
 have h1:=B1 (F:=Blk.F) hl
 have h2:=B1 (F:=Blk.F) hm
 have ht:=fun K=>Bl (K:=K) hT (m:=m[i].code) hk.1 hk.2
 simp only [Blk.F] at h1 h2
 by_cases e1:l[i].e=m[i].e
 . have e2:¬ l[i].code=m[i].code:=fun h=>he (by cases h3:l[i]; cases h4:m[i]; rw [h3,h4] at e1 h; cases e1; cases h; rfl)
   rw [B8 e2] at ht
   simp -implicitDefEqProofs only [hlt,h1,h2,ht,u_not,Cr,A5 e1,XP,seval]
   exact ⟨_,rfl,rfl⟩
 . simp -implicitDefEqProofs only [hlt,h1,h2,u_not,Cr,B8 e1,XP,seval]
   exact ⟨_,rfl,rfl⟩
theorem BD:∃ fr',evP ⟨A0,T,A2⟩ (.code Kb [(0,fslN (l.map Blk.F)),(1,fslN (m.map Blk.F)),(5,.int .i64 l.length)] ⟨[],0,[]⟩)=some (.ok (.exit 0) fr' ⟨[],0,[]⟩):=by
 unfold Kb
 have hlt:decide ((l.length:Int) < ((l.map Blk.F).length:Int))=false:=by simp
 simp -implicitDefEqProofs only [hlt,XP,seval]
 exact ⟨_,rfl⟩
theorem Ij (hT:T 23=some K5) (hk:∀ x∈l,x.ok) (hs:l.length * 56≤bigN):AM.Comes ⟨A0,T,A2⟩ 75 [fslN (l.map Blk.F),fslN (m.map Blk.F)] [.bool (decide (l=m))]:=by
 refine ⟨[.bool (decide (l=m))],⟨[],0,[]⟩,?_,B4 rfl List.nodup_nil rfl rfl rfl⟩
 rw [A7 (c:=HF) (nt:=42) (rs:=[.tmp 4]) rfl (by simp)]
 unfold HF K0
 by_cases hm:l.length=m.length
 . have hn:(!decide (((l.map Blk.F).length:Int)=((m.map Blk.F).length:Int)))=false:=by simp [hm]
   rcases same_loop (P:=⟨A0,T,A2⟩) (c:=Kb) (A:=fslN (l.map Blk.F)) (B:=fslN (m.map Blk.F)) hm (fun i h h' e=>BB hT h h' (hk _ (List.getElem_mem h)) hs e) (fun i h h' e=>BC hT h h' (hk _ (List.getElem_mem h)) e) BD with ⟨h1,fr',h2⟩ | ⟨h1,fr',h2,h3⟩
   . simp -implicitDefEqProofs only [hn,A5 h1,h2,XP,seval]
   . simp -implicitDefEqProofs only [hn,B8 h1,h2,h3,XP,seval]
 . have hn:(!decide (((l.map Blk.F).length:Int)=((m.map Blk.F).length:Int)))=true:=by simp; omega
   have h1:¬ l=m:=fun h=>hm (by rw [h])
   simp -implicitDefEqProofs only [hn,B8 h1,XP,seval]
end
end Go.Proofs.AmEnv
set_option maxRecDepth 100000
namespace Go.Proofs.AmEnv
open Go Go.AM
variable {T:Nat->Option (List AV->Option (List AV))}
structure Cod where
 name:List UInt8
 ty:Int
 ps:Int
 regs:List Int
 blocks:List Blk
deriving DecidableEq
def Cod.F (x:Cod):AV:=.agg [.str x.name,.int .i64 x.ty,.int .i64 x.ps,fslN (ints x.regs),fslN (x.blocks.map Blk.F)]
def Cod.O (x:Cod):AV:=.agg [.str x.name,.int .i64 x.ty,.int .i64 x.ps,ownd 0 1 (ints x.regs),ownd 0 5 (x.blocks.map Blk.O)]
def Cod.cs (x:Cod) (u v:AV):List AV:=[.str x.name,.int .i64 x.ty,.int .i64 x.ps,u,v]
def Cod.ok (x:Cod):Prop:=x.regs.length * 8≤bigN∧(∀ y∈x.blocks,y.ok)∧x.blocks.length * 56≤bigN
theorem Cod.F_inj {x y:Cod} (h:x.F=y.F):x=y:=by
 cases x; cases y
 simp only [Cod.F,AV.agg.injEq,List.cons.injEq,AV.int.injEq,AV.str.injEq,true_and,and_true] at h
 obtain ⟨rfl,rfl,rfl,h1,h2⟩:=h
 rw [ints_inj (fslN_inj h1),map_inj (fun _ _=>Blk.F_inj) (fslN_inj h2)]
theorem frzL_blkF (l:List Blk):frzL (l.map Blk.F)=some (l.map Blk.F):=V8 Blk.frzF l
theorem Sy (l:List Blk):frzL (l.map Blk.O)=some (l.map Blk.F):=V8 Blk.frzO l
theorem noFL_blkO (l:List Blk):noFL (l.map Blk.O)=true:=s3 Blk.noF l
theorem Cod.viewF {os:List PO} (x:Cod):viewA os x.F=some x.F:=by
 unfold Cod.F
 simp -implicitDefEqProofs only [frzL_blkF,frzL_ints,XP,seval]
theorem Cod.frzF (x:Cod):frzC x.F=some x.F:=by
 unfold Cod.F
 simp -implicitDefEqProofs only [frzL_blkF,frzL_ints,XP,seval]
theorem Cod.noF (x:Cod):noF x.O=true:=by
 unfold Cod.O
 simp -implicitDefEqProofs only [noFL_blkO,noFL_ints,XP,seval]
theorem gO (hT:T 69=some E2) {l:List Int} (h:l.length * 8≤bigN) {K:PK}:evP ⟨A0,T,A2⟩ (.call 69 [fslN (ints l)] K)=some (.val (openTs K.os.length [ownd 0 1 (ints l)]).1 ⟨K.os ++ (openTs K.os.length [ownd 0 1 (ints l)]).2,K.ext,K.tch⟩):=B5 hT (by show D8 (Ru (frzL (ints l))) (some [])=_; rw [frzL_ints]; rfl) (Y3 h) (by rfl)
theorem Kd (hT:T 55=some R7) {l:List Blk} (h1:∀ x∈l,x.ok) (h2:l.length * 56≤bigN) {K:PK}:evP ⟨A0,T,A2⟩ (.call 55 [fslN (l.map Blk.F)] K)=some (.val (openTs K.os.length [ownd 0 5 (l.map Blk.O)]).1 ⟨K.os ++ (openTs K.os.length [ownd 0 5 (l.map Blk.O)]).2,K.ext,K.tch⟩):=B5 hT (by show D8 (Ru (frzL (l.map Blk.F))) (some [])=_; rw [frzL_blkF]; rfl) (Of h1 h2) (by simp -implicitDefEqProofs only [noFL_blkO,XP,seval])
theorem gP (hT:T 21=some U9) {l m:List Int} (h:l.length * 8≤bigN) {K:PK}:evP ⟨A0,T,A2⟩ (.call 21 [fslN (ints l),fslN (ints m)] K)=some (.val [.bool (decide (l=m))] ⟨K.os ++ [],K.ext,K.tch⟩):=B5 hT (by show D8 (Ru (frzL (ints l))) (D8 (Ru (frzL (ints m))) (some []))=_; rw [frzL_ints,frzL_ints]; rfl) (x8 h) (by rfl)
theorem Yk (hT:T 75=some G9) {l m:List Blk} (h1:∀ x∈l,x.ok) (h2:l.length * 56≤bigN) {K:PK}:evP ⟨A0,T,A2⟩ (.call 75 [fslN (l.map Blk.F),fslN (m.map Blk.F)] K)=some (.val [.bool (decide (l=m))] ⟨K.os ++ [],K.ext,K.tch⟩):=B5 hT (by show D8 (Ru (frzL (l.map Blk.F))) (D8 (Ru (frzL (m.map Blk.F))) (some []))=_; rw [frzL_blkF,frzL_blkF]; rfl) (Bk h1 h2) (by simp -implicitDefEqProofs only [XP,seval])
set_option maxHeartbeats 4000000 in
theorem Og (h21:T 69=some E2) (h22:T 55=some R7) {x:Cod} (h:x.ok):AM.Comes ⟨A0,T,A2⟩ 16 [x.F] [x.O]:=by
 refine ⟨[.agg (x.cs (.msl 1 0 (ints x.regs).length 1) (.msl 2 0 (x.blocks.map Blk.O).length 5))],⟨[.row 1 [.agg (x.cs (.msl 1 0 (ints x.regs).length 1) (.msl 2 0 (x.blocks.map Blk.O).length 5))] 5,.row 0 (ints x.regs) 1,.row 0 (x.blocks.map Blk.O) 5],0,[]⟩,?_,?_⟩
 . rw [A7 (c:=GN) (nt:=12) (rs:=[.cell 2 31]) rfl (by simp)]
   unfold GN K0
   have ht1:=fun K=>gO (K:=K) h21 h.1
   have ht2:=fun K=>Kd (K:=K) h22 h.2.1 h.2.2
   simp -implicitDefEqProofs only [Cod.F,Cod.cs,ht1,ht2,XP,seval]
 . refine B4 (vs':=[.agg (x.cs (.msl 1 0 (ints x.regs).length 1) (.msl 2 0 (x.blocks.map Blk.O).length 5))]) (os':=[.row 1 [.agg (x.cs (.msl 1 0 (ints x.regs).length 1) (.msl 2 0 (x.blocks.map Blk.O).length 5))] 5,.row 0 (ints x.regs) 1,.row 0 (x.blocks.map Blk.O) 5]) ?_ ?_ (us:=[.agg (x.cs (.msl 0 0 (ints x.regs).length 1) (.msl 1 0 (x.blocks.map Blk.O).length 5))]) (ps:=[.row 0 (ints x.regs) 1,.row 0 (x.blocks.map Blk.O) 5]) ?_ ?_ ?_
   all_goals simp -implicitDefEqProofs only [Cod.cs,Cod.O,XP,seval]
set_option maxHeartbeats 4000000 in
theorem Oh (h12:T 21=some U9) (h28:T 75=some G9) {x y:Cod} (h:x.ok):AM.Comes ⟨A0,T,A2⟩ 19 [x.F,y.F] [.bool (decide (x=y))]:=by
 refine ⟨[.bool (decide (x=y))],⟨[],0,[]⟩,?_,B4 rfl List.nodup_nil rfl rfl rfl⟩
 rw [A7 (c:=GQ) (nt:=38) (rs:=[.tmp 4]) rfl (by simp)]
 unfold GQ K0
 have ht:=fun K=>gP (K:=K) h12 (m:=y.regs) h.1
 have ht2:=fun K=>Yk (K:=K) h28 (m:=y.blocks) h.2.1 h.2.2
 have ext:x=y ↔ x.name=y.name∧x.ty=y.ty∧x.ps=y.ps∧x.regs=y.regs∧x.blocks=y.blocks:=by
  cases x; cases y; simp
 by_cases h1:x.name=y.name
 . by_cases h2:x.ty=y.ty
   . by_cases h3:x.ps=y.ps
     . by_cases h4:x.regs=y.regs
       . have e:decide (x=y)=decide (x.blocks=y.blocks):=by simp [ext,h1,h2,h3,h4]
         rw [A5 h4] at ht
         simp -implicitDefEqProofs only [Cod.F,ht,ht2,e,A5 h1,A5 h2,A5 h3,XP,seval]
       . have e:decide (x=y)=false:=B8 fun e=>h4 (ext.1 e).2.2.2.1
         rw [B8 h4] at ht
         simp -implicitDefEqProofs only [Cod.F,ht,e,A5 h1,A5 h2,A5 h3,XP,seval]
     . have e:decide (x=y)=false:=B8 fun e=>h3 (ext.1 e).2.2.1
       simp -implicitDefEqProofs only [Cod.F,e,A5 h1,A5 h2,B8 h3,XP,seval]
   . have e:decide (x=y)=false:=B8 fun e=>h2 (ext.1 e).2.1
     simp -implicitDefEqProofs only [Cod.F,e,A5 h1,B8 h2,XP,seval]
 . have e:decide (x=y)=false:=B8 fun e=>h1 (ext.1 e).1
   simp -implicitDefEqProofs only [Cod.F,e,B8 h1,XP,seval]
end Go.Proofs.AmEnv
set_option maxRecDepth 100000
namespace Go.Proofs.AmEnv
open Go Go.AM
variable {T:Nat->Option (List AV->Option (List AV))}
def Yl (n:Int):Int:=IntKind.i64.wrap (7001 + IntKind.i64.wrap (13 * n))
theorem Oi {n:Int}:AM.Comes ⟨A0,T,A2⟩ 152 [.int .i64 n] [.int .i64 (Yl n)]:=by
 refine ⟨[.int .i64 (Yl n)],⟨[],0,[]⟩,?_,B4 rfl List.nodup_nil rfl rfl rfl⟩
 rw [A7 (c:=oD) (nt:=6) (rs:=[.tmp 2]) rfl (by simp)]
 unfold oD K0
 simp -implicitDefEqProofs only [Yl,XP,seval]
def H1:=U4 (fun n:Int=>[.int .i64 n]) (fun n=>[.int .i64 (Yl n)]) (fun _=>True)
theorem gQ (hT:T 152=some H1) (n:Int) {K:PK}:evP ⟨A0,T,A2⟩ (.call 152 [.int .i64 n] K)=some (.val [.int .i64 (Yl n)] ⟨K.os ++ [],K.ext,K.tch⟩):=B5 hT rfl (C0 (a:=fun n:Int=>[AV.int .i64 n]) (fun x y e=>by injection e with e _; injection e with _ e; rw [e]) n trivial) (by rfl)
section
variable {put:List AV->List PO} {id:Nat} {es:List AV} {fr:PF} {ext i:Nat} {tch:List Nat}
theorem BE (hT:T 152=some H1) (L:Lens put id 1) {l:List Int} (h0:lookP fr 0=.msl id 0 l.length 1) (h2:lookP fr 2=.int .i64 (i:Int)) (hl:i < l.length) (hs:l.length * 8≤bigN) :
 ∃ fr' x tch',evP ⟨A0,T,A2⟩ (.code Su fr ⟨put (ints l),ext,tch⟩)=some (.ok .normal fr' ⟨put (ints (l.set i x)),ext,tch'⟩)∧lookP fr' 0=.msl id 0 l.length 1∧lookP fr' 2=.int .i64 ((i + 1:Nat):Int):=by
 unfold Su
 have hlt:decide ((i:Int) < (l.length:Int))=true:=by simp [hl]
 have ht:=fun n K=>gQ (K:=K) hT n
 have hi:=D3 hl
 have hw:=A9 (i:=i) (by simp only [bigN] at hs; omega)
 have hst:∀ x,(ints l).set i (.int .i64 x)=ints (l.set i x):=fun x=>by unfold ints; rw [List.map_set]
 simp -implicitDefEqProofs only [h0,h2,hlt,ht,hl,hi,hw,hst,L.row,L.set,L.raw,XP,seval]
 refine ⟨_,_,_,rfl,?_,?_⟩
 . simp -implicitDefEqProofs only [h0,XP,seval]
 . simp -implicitDefEqProofs only [XP,seval]
theorem BF {l:List Int} {K:PK} (h0:lookP fr 0=.msl id 0 l.length 1) (h2:lookP fr 2=.int .i64 (l.length:Int)) :
 ∃ fr',evP ⟨A0,T,A2⟩ (.code Su fr K)=some (.ok (.exit 0) fr' K):=by
 unfold Su
 have hlt:decide ((l.length:Int) < (l.length:Int))=false:=by simp
 simp -implicitDefEqProofs only [h0,h2,hlt,XP,seval]
 exact ⟨_,rfl⟩
theorem tK (hT:T 152=some H1) (L:Lens put id 1):∀ (n i:Nat) (l:List Int) (fr:PF) (tch:List Nat),l.length=i + n->l.length * 8≤bigN->lookP fr 0=.msl id 0 l.length 1->lookP fr 2=.int .i64 (i:Int) ->
 ∃ fr' l' tch',evP ⟨A0,T,A2⟩ (.code (.loop Su) fr ⟨put (ints l),ext,tch⟩)=some (.ok (.exit 0) fr' ⟨put (ints l'),ext,tch'⟩)∧l'.length=l.length
 | 0,i,l,fr,tch,e,hs,h0,h2=>by
  obtain rfl:i=l.length:=by omega
  obtain ⟨fr',h⟩:=BF (T:=T) (K:=⟨put (ints l),ext,tch⟩) h0 h2
  exact ⟨fr',l,tch,loop_exit h,rfl⟩
 | n + 1,i,l,fr,tch,e,hs,h0,h2=>by
  obtain ⟨fr1,x,tch1,h3,h4,h5⟩:=BE (ext:=ext) (tch:=tch) hT L h0 h2 (by omega) hs
  obtain ⟨fr',l',tch',h6,h7⟩:=tK hT L n (i + 1) (l.set i x) fr1 tch1 (by simp; omega) (by simpa using hs) (by simpa using h4) h5
  exact ⟨fr',l',tch',(loop_more h3).trans h6,by simpa using h7⟩
theorem Bm (hT:T 152=some H1) (hN:T 62=none) (L:Lens put id 1) {l:List Int} (hs:l.length * 8≤bigN) :
 ∃ l' tch',evP ⟨A0,T,A2⟩ (.call 62 [.msl id 0 l.length 1] ⟨put (ints l),ext,tch⟩)=some (.val [] ⟨put (ints l'),ext,tch'⟩)∧l'.length=l.length:=by
 obtain ⟨fr',l',tch',h6,h7⟩:=tK (T:=T) (ext:=(put (ints l)).length) hT L l.length 0 l [(2,.int .i64 0),(0,.msl id 0 l.length 1)] [] (by omega) hs (by simp -implicitDefEqProofs only [XP,Nat.reduceAdd,Nat.reduceSub,Nat.reduceLT,Nat.reduceLeDiff,Nat.reduceEqDiff,Nat.reduceMul,↓reduceIte]) (by simp -implicitDefEqProofs only [XP,Nat.reduceAdd,Nat.reduceSub,Nat.reduceLT,Nat.reduceLeDiff,Nat.reduceEqDiff,Nat.reduceMul,↓reduceIte]; rfl)
 refine ⟨l',tch' ++ tch,?_,h7⟩
 rw [Qp hN rfl,A7 (c:=GX) (nt:=15) (rs:=[]) rfl (by simp)]
 unfold GX
 simp -implicitDefEqProofs only [h6,XP,Nat.reduceAdd,Nat.reduceSub,Nat.reduceLT,Nat.reduceLeDiff,Nat.reduceEqDiff,Nat.reduceMul,↓reduceIte]
end
end Go.Proofs.AmEnv
set_option maxRecDepth 100000
namespace Go.Proofs.AmEnv
open Go Go.AM
variable {T:Nat->Option (List AV->Option (List AV))}
section
variable {l:List Int}
theorem Vh {t:Nat} {K:PK} (h:J6 A0 t=.slc):R1 A0 .eql t .nilsl .nilsl K=.val (.bool true) K:=by rw [bp _ _ rfl rfl,h]; rfl
theorem Vi {t:Nat} {K:PK} (h:J6 A0 t=.slc):R1 A0 .eql t (.fsl [] false) .nilsl K=.val (.bool false) K:=by rw [bp _ _ rfl rfl,h]; rfl
theorem Oj {t:Nat} {K:PK} {e:AV} {es:List AV} (h:J6 A0 t=.slc):R1 A0 .eql t (fslN (e :: es)) .nilsl K=.val (.bool false) K:=by rw [bp _ _ rfl rfl,h]; rfl
theorem bM (n:Nat):G7 n []=true:=rfl
theorem gR:AM.Comes ⟨A0,T,A2⟩ 70 [.nilsl] [ownd 0 1 (ints [])]:=by
 refine ⟨[.nilsl],⟨[],0,[]⟩,?_,C9 (.inl ⟨rfl,rfl,rfl⟩)⟩
 rw [A7 (c:=rV) (nt:=8) (rs:=[.tmp 2]) rfl (by simp)]
 unfold rV K0
 simp -implicitDefEqProofs only [Vh (t:=28) rfl,XP,seval]
theorem gS:AM.Comes ⟨A0,T,A2⟩ 70 [.fsl [] false] [ownd 0 1 (ints [])]:=by
 refine ⟨[.msl 0 0 0 1],⟨[.row 0 [] 1],0,[]⟩,?_,C9 (.inr ⟨rfl,rfl⟩)⟩
 rw [A7 (c:=rV) (nt:=8) (rs:=[.tmp 2]) rfl (by simp)]
 unfold rV K0
 simp -implicitDefEqProofs only [Vi (t:=28) rfl,bM,XP,seval]
theorem eE:∀ l:List Int,G7 1 (ints l)=true
 | []=>rfl
 | x :: l=>eE l
theorem bN {x:Int} {l:List Int} (hs:(x :: l).length * 8≤bigN):AM.Comes ⟨A0,T,A2⟩ 70 [fslN (ints (x :: l))] [ownd 0 1 (ints (x :: l))]:=by
 refine ⟨[.msl 0 0 (ints (x :: l)).length 1],⟨[.row 0 (ints (x :: l)) 1],0,[]⟩,?_,C9 (.inr ⟨rfl,rfl⟩)⟩
 rw [A7 (c:=rV) (nt:=8) (rs:=[.tmp 2]) rfl (by simp)]
 unfold rV K0
 have h1:∀ K:PK,R1 A0 .eql 28 (fslN (ints (x :: l))) .nilsl K=.val (.bool false) K:=fun K=>Oj (t:=28) rfl
 have h2:=eE (x :: l)
 have h3:(ints (x :: l)).isEmpty=false:=rfl
 have h4:(ints (x :: l)).length * 8≤140737488355328:=by simpa [bigN] using hs
 generalize ints (x :: l)=es at h1 h2 h3 h4
 simp -implicitDefEqProofs only [h1,h2,h3,h4,XP,seval]
theorem kY {P:PE} (hP:PEok P) (he:P=⟨A0,T,A2⟩):TC P.E 70 E2:=by
 subst he
 refine cY hP (fun a args rs hg a' ha=>?_) (by unfold E2 U4; rw [dif_neg]; rintro ⟨x,_,h⟩; cases h)
 obtain ⟨l,h1,h2,rfl⟩:=Mb hg
 injection h2 with h2 h3
 subst h2 h3
 cases l with
 | nil =>
  rcases List.mem_cons.1 ha with rfl | ha
  . exact gR
  . obtain rfl:=List.mem_singleton.1 ha; exact gS
 | cons x l =>
  obtain rfl:=List.mem_singleton.1 (show a'∈[fslN (ints (x :: l))] from ha)
  exact bN h1
end
end Go.Proofs.AmEnv
set_option maxRecDepth 100000
namespace Go.Proofs.AmEnv
open Go Go.AM
variable {T:Nat->Option (List AV->Option (List AV))}
section
theorem bO:AM.Comes ⟨A0,T,A2⟩ 72 [.nilsl] [ownd 0 8 (([]:List Ins).map Ins.F)]:=by
 refine ⟨[.nilsl],⟨[],0,[]⟩,?_,C9 (.inl ⟨rfl,rfl,rfl⟩)⟩
 rw [A7 (c:=rX) (nt:=8) (rs:=[.tmp 2]) rfl (by simp)]
 unfold rX K0
 simp -implicitDefEqProofs only [Vh (t:=37) rfl,XP,seval]
theorem bP:AM.Comes ⟨A0,T,A2⟩ 72 [.fsl [] false] [ownd 0 8 (([]:List Ins).map Ins.F)]:=by
 refine ⟨[.msl 0 0 0 8],⟨[.row 0 [] 8],0,[]⟩,?_,C9 (.inr ⟨rfl,rfl⟩)⟩
 rw [A7 (c:=rX) (nt:=8) (rs:=[.tmp 2]) rfl (by simp)]
 unfold rX K0
 simp -implicitDefEqProofs only [Vi (t:=37) rfl,bM,XP,seval]
theorem BG:∀ l:List Ins,G7 8 (l.map Ins.F)=true
 | []=>rfl
 | x :: l=>BG l
theorem Ym {x:Ins} {l:List Ins} (hs:(x :: l).length * 88≤bigN):AM.Comes ⟨A0,T,A2⟩ 72 [fslN ((x :: l).map Ins.F)] [ownd 0 8 ((x :: l).map Ins.F)]:=by
 refine ⟨[.msl 0 0 ((x :: l).map Ins.F).length 8],⟨[.row 0 ((x :: l).map Ins.F) 8],0,[]⟩,?_,C9 (.inr ⟨rfl,rfl⟩)⟩
 rw [A7 (c:=rX) (nt:=8) (rs:=[.tmp 2]) rfl (by simp)]
 unfold rX K0
 have h1:∀ K:PK,R1 A0 .eql 37 (fslN ((x :: l).map Ins.F)) .nilsl K=.val (.bool false) K:=fun K=>Oj (t:=37) rfl
 have h2:=BG (x :: l)
 have h3:((x :: l).map Ins.F).isEmpty=false:=rfl
 have h4:((x :: l).map Ins.F).length * 88≤140737488355328:=by simpa [bigN] using hs
 generalize (x :: l).map Ins.F=es at h1 h2 h3 h4
 simp -implicitDefEqProofs only [h1,h2,h3,h4,XP,seval]
def Y4:=U4 (fun l:List Ins=>[fslN (l.map Ins.F)]) (fun l=>[ownd 0 8 (l.map Ins.F)]) (fun l=>l.length * 88≤bigN)
theorem gT {P:PE} (hP:PEok P) (he:P=⟨A0,T,A2⟩):TC P.E 72 Y4:=by
 subst he
 refine cY hP (fun a args rs hg a' ha=>?_) (by unfold Y4 U4; rw [dif_neg]; rintro ⟨x,_,h⟩; cases h)
 obtain ⟨l,h1,h2,rfl⟩:=Mb hg
 injection h2 with h2 h3
 subst h2 h3
 cases l with
 | nil =>
  rcases List.mem_cons.1 ha with rfl | ha
  . exact bO
  . obtain rfl:=List.mem_singleton.1 ha; exact bP
 | cons x l =>
  obtain rfl:=List.mem_singleton.1 (show a'∈[fslN ((x :: l).map Ins.F)] from ha)
  exact Ym h1
theorem bQ:AM.Comes ⟨A0,T,A2⟩ 71 [.nilsl] [ownd 0 5 (([]:List Blk).map Blk.F)]:=by
 refine ⟨[.nilsl],⟨[],0,[]⟩,?_,C9 (.inl ⟨rfl,rfl,rfl⟩)⟩
 rw [A7 (c:=rW) (nt:=8) (rs:=[.tmp 2]) rfl (by simp)]
 unfold rW K0
 simp -implicitDefEqProofs only [Vh (t:=29) rfl,XP,seval]
theorem bR:AM.Comes ⟨A0,T,A2⟩ 71 [.fsl [] false] [ownd 0 5 (([]:List Blk).map Blk.F)]:=by
 refine ⟨[.msl 0 0 0 5],⟨[.row 0 [] 5],0,[]⟩,?_,C9 (.inr ⟨rfl,rfl⟩)⟩
 rw [A7 (c:=rW) (nt:=8) (rs:=[.tmp 2]) rfl (by simp)]
 unfold rW K0
 simp -implicitDefEqProofs only [Vi (t:=29) rfl,bM,XP,seval]
theorem BH:∀ l:List Blk,G7 5 (l.map Blk.F)=true
 | []=>rfl
 | x :: l=>BH l
theorem Yn {x:Blk} {l:List Blk} (hs:(x :: l).length * 56≤bigN):AM.Comes ⟨A0,T,A2⟩ 71 [fslN ((x :: l).map Blk.F)] [ownd 0 5 ((x :: l).map Blk.F)]:=by
 refine ⟨[.msl 0 0 ((x :: l).map Blk.F).length 5],⟨[.row 0 ((x :: l).map Blk.F) 5],0,[]⟩,?_,C9 (.inr ⟨rfl,rfl⟩)⟩
 rw [A7 (c:=rW) (nt:=8) (rs:=[.tmp 2]) rfl (by simp)]
 unfold rW K0
 have h1:∀ K:PK,R1 A0 .eql 29 (fslN ((x :: l).map Blk.F)) .nilsl K=.val (.bool false) K:=fun K=>Oj (t:=29) rfl
 have h2:=BH (x :: l)
 have h3:((x :: l).map Blk.F).isEmpty=false:=rfl
 have h4:((x :: l).map Blk.F).length * 56≤140737488355328:=by simpa [bigN] using hs
 generalize (x :: l).map Blk.F=es at h1 h2 h3 h4
 simp -implicitDefEqProofs only [h1,h2,h3,h4,XP,seval]
def x9:=U4 (fun l:List Blk=>[fslN (l.map Blk.F)]) (fun l=>[ownd 0 5 (l.map Blk.F)]) (fun l=>l.length * 56≤bigN)
theorem gU {P:PE} (hP:PEok P) (he:P=⟨A0,T,A2⟩):TC P.E 71 x9:=by
 subst he
 refine cY hP (fun a args rs hg a' ha=>?_) (by unfold x9 U4; rw [dif_neg]; rintro ⟨x,_,h⟩; cases h)
 obtain ⟨l,h1,h2,rfl⟩:=Mb hg
 injection h2 with h2 h3
 subst h2 h3
 cases l with
 | nil =>
  rcases List.mem_cons.1 ha with rfl | ha
  . exact bQ
  . obtain rfl:=List.mem_singleton.1 ha; exact bR
 | cons x l =>
  obtain rfl:=List.mem_singleton.1 (show a'∈[fslN ((x :: l).map Blk.F)] from ha)
  exact Yn h1
end
end Go.Proofs.AmEnv
set_option maxRecDepth 100000
namespace Go.Proofs.AmEnv
open Go Go.AM
variable {T:Nat->Option (List AV->Option (List AV))}
section
variable {l m:List Int} {i:Nat}
abbrev Qt (l m:List Int) (n i:Nat):PF:=[(0,fslN (ints l)),(1,fslN (ints m)),(12,.int .i64 (n:Int)),(13,.int .i64 (i:Int))]
theorem KR (hl:i < l.length) (hm:i < m.length) (he:l[i]=m[i]) (hs:l.length * 8≤bigN):evP ⟨A0,T,A2⟩ (.code n7 (Qt l m l.length i) ⟨[],0,[]⟩)=some (.ok .normal (Qt l m l.length (i + 1)) ⟨[],0,[]⟩):=by
 unfold n7
 have hlt:decide ((i:Int) < (l.length:Int))=true:=by simp [hl]
 have h1:=D3 hl
 have h2:=D3 hm
 have hw:=A9 (i:=i) (by simp only [bigN] at hs; omega)
 simp -implicitDefEqProofs only [Qt,hlt,h1,h2,hw,A5 he,XP,seval]
theorem KS (hl:i < l.length) (hm:i < m.length) (he:¬ l[i]=m[i]):∃ fr',evP ⟨A0,T,A2⟩ (.code n7 (Qt l m l.length i) ⟨[],0,[]⟩)=some (.ok .ret fr' ⟨[],0,[]⟩)∧lookP fr' 4=.bool false:=by
 unfold n7
 have hlt:decide ((i:Int) < (l.length:Int))=true:=by simp [hl]
 have h1:=D3 hl
 have h2:=D3 hm
 simp -implicitDefEqProofs only [Qt,hlt,h1,h2,B8 he,XP,seval]
 exact ⟨_,rfl,rfl⟩
theorem KT:∃ fr',evP ⟨A0,T,A2⟩ (.code n7 (Qt l m l.length l.length) ⟨[],0,[]⟩)=some (.ok (.exit 0) fr' ⟨[],0,[]⟩):=by
 unfold n7
 have hlt:decide ((l.length:Int) < (l.length:Int))=false:=by simp
 simp -implicitDefEqProofs only [Qt,hlt,XP,seval]
 exact ⟨_,rfl⟩
theorem Yo (hs:l.length * 8≤bigN):AM.Comes ⟨A0,T,A2⟩ 262 [fslN (ints l),fslN (ints m)] [.bool (decide (l=m))]:=by
 refine ⟨[.bool (decide (l=m))],⟨[],0,[]⟩,?_,B4 rfl List.nodup_nil rfl rfl rfl⟩
 rw [A7 (c:=pF) (nt:=26) (rs:=[.tmp 4]) rfl (by simp)]
 unfold pF K0
 have hl0:(ints l).length=l.length:=List.length_map ..
 have hm0:(ints m).length=m.length:=List.length_map ..
 by_cases hm:l.length=m.length
 . have hn:(!decide ((l.length:Int)=(m.length:Int)))=false:=by simp [hm]
   rcases same_loopS (P:=⟨A0,T,A2⟩) (c:=n7) (S:=Qt l m l.length) hm (fun i h h' e=>KR h h' e hs) (fun i h h' e=>KS h h' e) KT with ⟨h1,fr',h2⟩ | ⟨h1,fr',h2,h3⟩
   . simp only [Qt] at h2
     have h2:evP ⟨A0,T,A2⟩ (.code (.loop n7) [(0,fslN (ints l)),(1,fslN (ints m)),(12,.int .i64 (l.length:Int)),(13,.int .i64 0)] ⟨[],0,[]⟩)=_:=h2
     simp -implicitDefEqProofs only [hn,hl0,hm0,A5 h1,h2,XP,seval]
   . simp only [Qt] at h2
     have h2:evP ⟨A0,T,A2⟩ (.code (.loop n7) [(0,fslN (ints l)),(1,fslN (ints m)),(12,.int .i64 (l.length:Int)),(13,.int .i64 0)] ⟨[],0,[]⟩)=_:=h2
     simp -implicitDefEqProofs only [hn,hl0,hm0,B8 h1,h2,h3,XP,seval]
 . have hn:(!decide ((l.length:Int)=(m.length:Int)))=true:=by simp; omega
   have h1:¬ l=m:=fun h=>hm (by rw [h])
   simp -implicitDefEqProofs only [hn,hl0,hm0,B8 h1,XP,seval]
end
end Go.Proofs.AmEnv
set_option maxRecDepth 100000
namespace Go.Proofs.AmEnv
open Go Go.AM
variable {T:Nat->Option (List AV->Option (List AV))}
section
set_option maxHeartbeats 4000000 in
theorem Kt (hT:T 262=some U9) {x y:Ins} (h:x.ok):AM.Comes ⟨A0,T,A2⟩ 242 [x.F,y.F] [.bool (decide (x=y))]:=by
 refine ⟨[.bool (decide (x=y))],⟨[],0,[]⟩,?_,B4 rfl List.nodup_nil rfl rfl rfl⟩
 rw [A7 (c:=oZ) (nt:=61) (rs:=[.tmp 4]) rfl (by simp)]
 unfold oZ K0
 have ht:∀ {K:PK},evP ⟨A0,T,A2⟩ (.call 262 [fslN (ints x.args),fslN (ints y.args)] K)=some (.val [.bool (decide (x.args=y.args))] ⟨K.os ++ [],K.ext,K.tch⟩):=B5 hT (by show D8 (Ru (frzL (ints x.args))) (D8 (Ru (frzL (ints y.args))) (some []))=_; rw [frzL_ints,frzL_ints]; rfl) (x8 h) (by rfl)
 have no:∀ {p:Prop} [Decidable p],¬ p->decide p=false:=fun h=>by simp [h]
 have yes:∀ {p:Prop} [Decidable p],p->decide p=true:=fun h=>by simp [h]
 have ext:x=y ↔ x.op=y.op∧x.ty=y.ty∧x.dst=y.dst∧x.a=y.a∧x.b=y.b∧x.n=y.n∧x.s=y.s∧x.args=y.args:=by
  cases x; cases y; simp
 by_cases hargs:x.args=y.args
 . rw [A5 hargs] at ht
   by_cases hop:x.op=y.op
   . by_cases hty:x.ty=y.ty
     . by_cases hdst:x.dst=y.dst
       . by_cases ha:x.a=y.a
         . by_cases hb:x.b=y.b
           . by_cases hn:x.n=y.n
             . by_cases hs:x.s=y.s
               . have e:decide (x=y)=true:=A5 (ext.2 ⟨hop,hty,hdst,ha,hb,hn,hs,hargs⟩)
                 simp -implicitDefEqProofs only [Ins.F,ht,e,A5 hop,A5 hty,A5 hdst,A5 ha,A5 hb,A5 hn,A5 hs,XP,seval]
               . have e:decide (x=y)=false:=B8 fun e=>hs (ext.1 e).2.2.2.2.2.2.1
                 simp -implicitDefEqProofs only [Ins.F,ht,e,A5 hop,A5 hty,A5 hdst,A5 ha,A5 hb,A5 hn,B8 hs,XP,seval]
             . have e:decide (x=y)=false:=B8 fun e=>hn (ext.1 e).2.2.2.2.2.1
               simp -implicitDefEqProofs only [Ins.F,ht,e,A5 hop,A5 hty,A5 hdst,A5 ha,A5 hb,B8 hn,XP,seval]
           . have e:decide (x=y)=false:=B8 fun e=>hb (ext.1 e).2.2.2.2.1
             simp -implicitDefEqProofs only [Ins.F,ht,e,A5 hop,A5 hty,A5 hdst,A5 ha,B8 hb,XP,seval]
         . have e:decide (x=y)=false:=B8 fun e=>ha (ext.1 e).2.2.2.1
           simp -implicitDefEqProofs only [Ins.F,ht,e,A5 hop,A5 hty,A5 hdst,B8 ha,XP,seval]
       . have e:decide (x=y)=false:=B8 fun e=>hdst (ext.1 e).2.2.1
         simp -implicitDefEqProofs only [Ins.F,ht,e,A5 hop,A5 hty,B8 hdst,XP,seval]
     . have e:decide (x=y)=false:=B8 fun e=>hty (ext.1 e).2.1
       simp -implicitDefEqProofs only [Ins.F,ht,e,A5 hop,B8 hty,XP,seval]
   . have e:decide (x=y)=false:=B8 fun e=>hop (ext.1 e).1
     simp -implicitDefEqProofs only [Ins.F,ht,e,B8 hop,XP,seval]
 . have e:decide (x=y)=false:=B8 fun e=>hargs (ext.1 e).2.2.2.2.2.2.2
   rw [B8 hargs] at ht
   simp -implicitDefEqProofs only [Ins.F,ht,e,XP,seval]
end
end Go.Proofs.AmEnv
set_option maxRecDepth 100000
namespace Go.Proofs.AmEnv
open Go Go.AM
variable {T:Nat->Option (List AV->Option (List AV))}
theorem Ok (hT:T 242=some F0) {x y:Ins} (h:x.ok) {K:PK}:evP ⟨A0,T,A2⟩ (.call 242 [x.F,y.F] K)=some (.val [.bool (decide (x=y))] ⟨K.os ++ [],K.ext,K.tch⟩):=B5 hT (by show D8 (viewA _ x.F) (D8 (viewA _ y.F) (some []))=_; rw [Ins.viewF,Ins.viewF]; rfl) (Dq h) (by
 unfold Ins.F
 simp -implicitDefEqProofs only [XP,seval])
section
variable {l m:List Ins} {i:Nat}
abbrev nH (l m:List Ins) (n i:Nat):PF:=[(1,fslN (m.map Ins.F)),(2,.fn (.func 242) [] []),(15,fslN (l.map Ins.F)),(16,.int .i64 (n:Int)),(17,.int .i64 (i:Int))]
set_option maxHeartbeats 4000000 in
theorem KU (hT:T 242=some F0) (hl:i < l.length) (hm:i < m.length) (hk:l[i].ok) (hs:l.length * 88≤bigN) (he:l[i]=m[i]) :
 evP ⟨A0,T,A2⟩ (.code m8 (nH l m l.length i) ⟨[],0,[]⟩)=some (.ok .normal (nH l m l.length (i + 1)) ⟨[],0,[]⟩):=by
 unfold m8
 have hlt:decide ((i:Int) < (l.length:Int))=true:=by simp [hl]
 have h1:=B1 (F:=Ins.F) hl
 have h2:=B1 (F:=Ins.F) hm
 have hw:=A9 (i:=i) (by simp only [bigN] at hs; omega)
 have ht:=fun K=>Ok (K:=K) hT (y:=m[i]) hk
 rw [A5 he] at ht
 simp only [Ins.F] at ht h1 h2
 simp -implicitDefEqProofs only [nH,hlt,h1,h2,hw,ht,u_not,XP,seval]
set_option maxHeartbeats 4000000 in
theorem KV (hT:T 242=some F0) (hl:i < l.length) (hm:i < m.length) (hk:l[i].ok) (he:¬ l[i]=m[i]) :
 ∃ fr',evP ⟨A0,T,A2⟩ (.code m8 (nH l m l.length i) ⟨[],0,[]⟩)=some (.ok .ret fr' ⟨[],0,[]⟩)∧lookP fr' 6=.bool false:=by
 unfold m8
 have hlt:decide ((i:Int) < (l.length:Int))=true:=by simp [hl]
 have h1:=B1 (F:=Ins.F) hl
 have h2:=B1 (F:=Ins.F) hm
 have ht:=fun K=>Ok (K:=K) hT (y:=m[i]) hk
 rw [B8 he] at ht
 simp only [Ins.F] at ht h1 h2
 simp -implicitDefEqProofs only [nH,hlt,h1,h2,ht,u_not,XP,seval]
 exact ⟨_,rfl,rfl⟩
theorem KW:∃ fr',evP ⟨A0,T,A2⟩ (.code m8 (nH l m l.length l.length) ⟨[],0,[]⟩)=some (.ok (.exit 0) fr' ⟨[],0,[]⟩):=by
 unfold m8
 have hlt:decide ((l.length:Int) < (l.length:Int))=false:=by simp
 simp -implicitDefEqProofs only [nH,hlt,XP,seval]
 exact ⟨_,rfl⟩
theorem Ol (hT:T 242=some F0) (hk:∀ x∈l,x.ok) (hs:l.length * 88≤bigN):evP ⟨A0,T,A2⟩ (.body 241 [fslN (l.map Ins.F),fslN (m.map Ins.F),.fn (.func 242) [] []] ⟨[],0,[]⟩)=some (.val [.bool (decide (l=m))] ⟨[],0,[]⟩):=by
 rw [A7 (c:=oY) (nt:=32) (rs:=[.tmp 6]) rfl (by simp)]
 unfold oY
 have hl0:(l.map Ins.F).length=l.length:=List.length_map ..
 have hm0:(m.map Ins.F).length=m.length:=List.length_map ..
 by_cases hm:l.length=m.length
 . have hn:(!decide ((l.length:Int)=(m.length:Int)))=false:=by simp [hm]
   rcases same_loopS (P:=⟨A0,T,A2⟩) (c:=m8) (r:=6) (S:=nH l m l.length) hm (fun i h h' e=>KU hT h h' (hk _ (List.getElem_mem h)) hs e) (fun i h h' e=>KV hT h h' (hk _ (List.getElem_mem h)) e) KW with ⟨h1,fr',h2⟩ | ⟨h1,fr',h2,h3⟩
   . simp only [nH] at h2
     have h2:evP ⟨A0,T,A2⟩ (.code (.loop m8) [(1,fslN (m.map Ins.F)),(2,.fn (.func 242) [] []),(15,fslN (l.map Ins.F)),(16,.int .i64 (l.length:Int)),(17,.int .i64 0)] ⟨[],0,[]⟩)=_:=h2
     simp -implicitDefEqProofs only [hn,hl0,hm0,A5 h1,h2,XP,seval]
   . simp only [nH] at h2
     have h2:evP ⟨A0,T,A2⟩ (.code (.loop m8) [(1,fslN (m.map Ins.F)),(2,.fn (.func 242) [] []),(15,fslN (l.map Ins.F)),(16,.int .i64 (l.length:Int)),(17,.int .i64 0)] ⟨[],0,[]⟩)=_:=h2
     simp -implicitDefEqProofs only [hn,hl0,hm0,B8 h1,h2,h3,XP,seval]
 . have hn:(!decide ((l.length:Int)=(m.length:Int)))=true:=by simp; omega
   have h1:¬ l=m:=fun h=>hm (by rw [h])
   simp -implicitDefEqProofs only [hn,hl0,hm0,B8 h1,XP,seval]
theorem Om (hT:T 242=some F0) (hN:T 241=none) (hk:∀ x∈l,x.ok) (hs:l.length * 88≤bigN) (K:PK):evP ⟨A0,T,A2⟩ (.call 241 [fslN (l.map Ins.F),fslN (m.map Ins.F),.fn (.func 242) [] []] K)=some (.val [.bool (decide (l=m))] K) :=
 Wu hN rfl rfl rfl (Ol hT hk hs) rfl
def S5:=U4 (fun p:Blk × Blk=>[p.1.F,p.2.F]) (fun p=>[.bool (decide (p.1=p.2))]) (fun p=>p.1.ok)
theorem gV {x y:Blk} (h:x.ok):S5 [x.F,y.F]=some [.bool (decide (x=y))]:=C0 (a:=fun p:Blk × Blk=>[p.1.F,p.2.F]) (r:=fun p=>[.bool (decide (p.1=p.2))]) (fun x y e=>by
 injection e with e1 e; injection e with e2 _
 rw [Blk.F_inj e1,Blk.F_inj e2]) (x,y) h
set_option maxHeartbeats 4000000 in
theorem Yp (hT:T 242=some F0) (hN:T 241=none) {x y:Blk} (h:x.ok):AM.Comes ⟨A0,T,A2⟩ 218 [x.F,y.F] [.bool (decide (x=y))]:=by
 refine ⟨[.bool (decide (x=y))],⟨[],0,[]⟩,?_,B4 rfl List.nodup_nil rfl rfl rfl⟩
 rw [A7 (c:=oR) (nt:=17) (rs:=[.tmp 4]) rfl (by simp)]
 unfold oR K0
 have ht:=Om (T:=T) (m:=y.code) hT hN h.1 h.2
 have ext:x=y ↔ x.code=y.code∧x.e=y.e:=by cases x; cases y; simp
 by_cases h1:x.e=y.e
 . have e:decide (x=y)=decide (x.code=y.code):=by simp [ext,h1]
   simp -implicitDefEqProofs only [Blk.F,ht,e,Cr,A5 h1,XP,seval]
 . have e:decide (x=y)=false:=B8 fun e=>h1 (ext.1 e).2
   simp -implicitDefEqProofs only [Blk.F,e,Cr,B8 h1,XP,seval]
end
end Go.Proofs.AmEnv
set_option maxRecDepth 100000
namespace Go.Proofs.AmEnv
open Go Go.AM
variable {T:Nat->Option (List AV->Option (List AV))}
def tL (n:Int):List AV:=[.int .i64 (IntKind.i64.wrap (-9 - n)),.int .i64 0,.int .i64 0,.int .i64 0,.int .i64 0,.int .i64 0,.str [],.nilsl]
def tM (n:Int):List AV:=[.nilsl,.int .i64 (IntKind.i64.wrap (-9 - n)),.int .i64 0,.int .i64 0,.int .i64 0]
theorem Ik {n:Int}:AM.Comes ⟨A0,T,A2⟩ 160 [.int .i64 n] [.agg (tL n)]:=by
 refine ⟨[.agg (tL n)],⟨[.row 1 [.agg (tL n)] 8],0,[]⟩,?_,?_⟩
 . rw [A7 (c:=oG) (nt:=6) (rs:=[.cell 2 77]) rfl (by simp)]; unfold oG
   unfold K0 tL
   simp -implicitDefEqProofs only [XP,seval]
 . exact B4 rfl List.nodup_nil rfl rfl rfl
theorem Il {n:Int}:AM.Comes ⟨A0,T,A2⟩ 161 [.int .i64 n] [.agg (tM n)]:=by
 refine ⟨[.agg (tM n)],⟨[.row 1 [.agg (tM n)] 5],0,[]⟩,?_,?_⟩
 . rw [A7 (c:=oH) (nt:=7) (rs:=[.cell 2 41]) rfl (by simp)]; unfold oH
   unfold K0 tM
   simp -implicitDefEqProofs only [XP,seval]
 . exact B4 rfl List.nodup_nil rfl rfl rfl
def F8:=U4 (fun n:Int=>[.int .i64 n]) (fun n=>[.agg (tL n)]) (fun _=>True)
def I6:=U4 (fun n:Int=>[.int .i64 n]) (fun n=>[.agg (tM n)]) (fun _=>True)
theorem Yq (hT:T 160=some F8) (n:Int) {K:PK}:evP ⟨A0,T,A2⟩ (.call 160 [.int .i64 n] K)=some (.val [.agg (tL n)] ⟨K.os ++ [],K.ext,K.tch⟩):=B5 hT rfl (C0 (a:=fun n:Int=>[AV.int .i64 n]) (fun x y e=>by injection e with e _; injection e with _ e; rw [e]) n trivial) (by rfl)
theorem Yr (hT:T 161=some I6) (n:Int) {K:PK}:evP ⟨A0,T,A2⟩ (.call 161 [.int .i64 n] K)=some (.val [.agg (tM n)] ⟨K.os ++ [],K.ext,K.tch⟩):=B5 hT rfl (C0 (a:=fun n:Int=>[AV.int .i64 n]) (fun x y e=>by injection e with e _; injection e with _ e; rw [e]) n trivial) (by rfl)
def wide (sz:Nat) (es:List AV):Prop:=∀ v∈es,∃ cs,v=.agg cs∧cs.length=sz
theorem wide.get {sz:Nat} {es:List AV} (h:wide sz es) {i:Nat} (hi:i < es.length):∃ cs,es[i]?=some (.agg cs)∧cs.length=sz:=by
 obtain ⟨cs,h1,h2⟩:=h _ (List.getElem_mem hi)
 exact ⟨cs,by rw [List.getElem?_eq_getElem hi,h1],h2⟩
theorem wide.set {sz:Nat} {es:List AV} (h:wide sz es) (i:Nat) {xs:List AV} (hx:xs.length=sz):wide sz (es.set i (.agg xs)):=fun v hv=>by
 rcases List.mem_or_eq_of_mem_set hv with hv | rfl
 . exact h v hv
 . exact ⟨xs,rfl,hx⟩
section
variable {put:List AV->List PO} {id:Nat} {es:List AV} {fr:PF} {ext i:Nat} {tch:List Nat}
theorem BI (hT:T 160=some F8) (L:LensK put id 8) (hw:wide 8 es) (h0:lookP fr 0=.msl id 0 es.length 8) (h2:lookP fr 2=.int .i64 (i:Int)) (hl:i < es.length) (hs:es.length≤bigN) :
 ∃ fr' xs tch',evP ⟨A0,T,A2⟩ (.code Sv fr ⟨put es,ext,tch⟩)=some (.ok .normal fr' ⟨put (es.set i (.agg xs)),ext,tch'⟩)∧xs.length=8∧lookP fr' 0=.msl id 0 es.length 8∧lookP fr' 2=.int .i64 ((i + 1:Nat):Int):=by
 unfold Sv
 have hlt:decide ((i:Int) < (es.length:Int))=true:=by simp [hl]
 have ht:=fun n K=>Yq (K:=K) hT n
 have hw2:=A9 (i:=i) (by simp only [bigN] at hs; omega)
 obtain ⟨as1,hv,ha⟩:=hw.get hl
 have hst:=fun n=>fH (t:=X6) (ext:=ext) (tch:=tch) (xs:=tL n) L hv ha rfl rfl (by decide) rfl
 refine ⟨?_,tL (IntKind.i64.wrap ((i:Int) + 7)),?_,?_,rfl,?_,?_⟩
 rotate_left 2
 . simp -implicitDefEqProofs only [ h0,h2,hlt,ht,hl,hw2,hst,XQ,Nat.zero_add,seval]
   rfl
 . simp -implicitDefEqProofs only [h0,XP,seval]
 . simp -implicitDefEqProofs only [XP,seval]
theorem BJ {K:PK} {n:Nat} (h0:lookP fr 0=.msl id 0 n 8) (h2:lookP fr 2=.int .i64 (n:Int)):∃ fr',evP ⟨A0,T,A2⟩ (.code Sv fr K)=some (.ok (.exit 0) fr' K):=by
 unfold Sv
 have hlt:decide ((n:Int) < (n:Int))=false:=by simp
 simp -implicitDefEqProofs only [h0,h2,hlt,XP,seval]
 exact ⟨_,rfl⟩
theorem tN (hT:T 160=some F8) (L:LensK put id 8):∀ (n i:Nat) (es:List AV) (fr:PF) (tch:List Nat),es.length=i + n->es.length≤bigN->wide 8 es->lookP fr 0=.msl id 0 es.length 8->lookP fr 2=.int .i64 (i:Int) ->
 ∃ fr' es' tch',evP ⟨A0,T,A2⟩ (.code (.loop Sv) fr ⟨put es,ext,tch⟩)=some (.ok (.exit 0) fr' ⟨put es',ext,tch'⟩)∧es'.length=es.length
 | 0,i,es,fr,tch,e,hs,hw,h0,h2=>by
  obtain rfl:i=es.length:=by omega
  obtain ⟨fr',h⟩:=BJ (T:=T) (K:=⟨put es,ext,tch⟩) h0 h2
  exact ⟨fr',es,tch,loop_exit h,rfl⟩
 | n + 1,i,es,fr,tch,e,hs,hw,h0,h2=>by
  obtain ⟨fr1,xs,tch1,h3,hx,h4,h5⟩:=BI (ext:=ext) (tch:=tch) hT L hw h0 h2 (by omega) hs
  obtain ⟨fr',es',tch',h6,h7⟩:=tN hT L n (i + 1) (es.set i (.agg xs)) fr1 tch1 (by simp; omega) (by simpa using hs) (hw.set i hx) (by simpa using h4) h5
  exact ⟨fr',es',tch',(loop_more h3).trans h6,by simpa using h7⟩
theorem Im (hT:T 160=some F8) (hN:T 76=none) (L:LensK put id 8) (hw:wide 8 es) (hs:es.length≤bigN) :
 ∃ es' tch',evP ⟨A0,T,A2⟩ (.call 76 [.msl id 0 es.length 8] ⟨put es,ext,tch⟩)=some (.val [] ⟨put es',ext,tch'⟩)∧es'.length=es.length:=by
 obtain ⟨fr',l',tch',h6,h7⟩:=tN (T:=T) (ext:=(put es).length) hT L es.length 0 es [(2,.int .i64 0),(0,.msl id 0 es.length 8)] [] (by omega) hs hw (by simp -implicitDefEqProofs only [XP,Nat.reduceAdd,Nat.reduceSub,Nat.reduceLT,Nat.reduceLeDiff,Nat.reduceEqDiff,Nat.reduceMul,↓reduceIte]) (by simp -implicitDefEqProofs only [XP,Nat.reduceAdd,Nat.reduceSub,Nat.reduceLT,Nat.reduceLeDiff,Nat.reduceEqDiff,Nat.reduceMul,↓reduceIte]; rfl)
 refine ⟨l',tch' ++ tch,?_,h7⟩
 rw [Qp hN rfl]
 rw [A7 (c:=HG) (nt:=15) (rs:=[]) rfl (by simp)]; unfold HG
 simp -implicitDefEqProofs only [h6,XP,Nat.reduceAdd,Nat.reduceSub,Nat.reduceLT,Nat.reduceLeDiff,Nat.reduceEqDiff,Nat.reduceMul,↓reduceIte]
theorem BK (hT:T 161=some I6) (L:LensK put id 5) (hw:wide 5 es) (h0:lookP fr 0=.msl id 0 es.length 5) (h2:lookP fr 2=.int .i64 (i:Int)) (hl:i < es.length) (hs:es.length≤bigN) :
 ∃ fr' xs tch',evP ⟨A0,T,A2⟩ (.code Sw fr ⟨put es,ext,tch⟩)=some (.ok .normal fr' ⟨put (es.set i (.agg xs)),ext,tch'⟩)∧xs.length=5∧lookP fr' 0=.msl id 0 es.length 5∧lookP fr' 2=.int .i64 ((i + 1:Nat):Int):=by
 unfold Sw
 have hlt:decide ((i:Int) < (es.length:Int))=true:=by simp [hl]
 have ht:=fun n K=>Yr (K:=K) hT n
 have hw2:=A9 (i:=i) (by simp only [bigN] at hs; omega)
 obtain ⟨as1,hv,ha⟩:=hw.get hl
 have hst:=fun n=>fH (t:=n9) (ext:=ext) (tch:=tch) (xs:=tM n) L hv ha rfl rfl (by decide) rfl
 refine ⟨?_,tM (IntKind.i64.wrap ((i:Int) + 7)),?_,?_,rfl,?_,?_⟩
 rotate_left 2
 . simp -implicitDefEqProofs only [ h0,h2,hlt,ht,hl,hw2,hst,XQ,Nat.zero_add,seval]
   rfl
 . simp -implicitDefEqProofs only [h0,XP,seval]
 . simp -implicitDefEqProofs only [XP,seval]
theorem BL {K:PK} {n:Nat} (h0:lookP fr 0=.msl id 0 n 5) (h2:lookP fr 2=.int .i64 (n:Int)):∃ fr',evP ⟨A0,T,A2⟩ (.code Sw fr K)=some (.ok (.exit 0) fr' K):=by
 unfold Sw
 have hlt:decide ((n:Int) < (n:Int))=false:=by simp
 simp -implicitDefEqProofs only [h0,h2,hlt,XP,seval]
 exact ⟨_,rfl⟩
theorem tO (hT:T 161=some I6) (L:LensK put id 5):∀ (n i:Nat) (es:List AV) (fr:PF) (tch:List Nat),es.length=i + n->es.length≤bigN->wide 5 es->lookP fr 0=.msl id 0 es.length 5->lookP fr 2=.int .i64 (i:Int) ->
 ∃ fr' es' tch',evP ⟨A0,T,A2⟩ (.code (.loop Sw) fr ⟨put es,ext,tch⟩)=some (.ok (.exit 0) fr' ⟨put es',ext,tch'⟩)∧es'.length=es.length
 | 0,i,es,fr,tch,e,hs,hw,h0,h2=>by
  obtain rfl:i=es.length:=by omega
  obtain ⟨fr',h⟩:=BL (T:=T) (K:=⟨put es,ext,tch⟩) h0 h2
  exact ⟨fr',es,tch,loop_exit h,rfl⟩
 | n + 1,i,es,fr,tch,e,hs,hw,h0,h2=>by
  obtain ⟨fr1,xs,tch1,h3,hx,h4,h5⟩:=BK (ext:=ext) (tch:=tch) hT L hw h0 h2 (by omega) hs
  obtain ⟨fr',es',tch',h6,h7⟩:=tO hT L n (i + 1) (es.set i (.agg xs)) fr1 tch1 (by simp; omega) (by simpa using hs) (hw.set i hx) (by simpa using h4) h5
  exact ⟨fr',es',tch',(loop_more h3).trans h6,by simpa using h7⟩
theorem In (hT:T 161=some I6) (hN:T 77=none) (L:LensK put id 5) (hw:wide 5 es) (hs:es.length≤bigN) :
 ∃ es' tch',evP ⟨A0,T,A2⟩ (.call 77 [.msl id 0 es.length 5] ⟨put es,ext,tch⟩)=some (.val [] ⟨put es',ext,tch'⟩)∧es'.length=es.length:=by
 obtain ⟨fr',l',tch',h6,h7⟩:=tO (T:=T) (ext:=(put es).length) hT L es.length 0 es [(2,.int .i64 0),(0,.msl id 0 es.length 5)] [] (by omega) hs hw (by simp -implicitDefEqProofs only [XP,Nat.reduceAdd,Nat.reduceSub,Nat.reduceLT,Nat.reduceLeDiff,Nat.reduceEqDiff,Nat.reduceMul,↓reduceIte]) (by simp -implicitDefEqProofs only [XP,Nat.reduceAdd,Nat.reduceSub,Nat.reduceLT,Nat.reduceLeDiff,Nat.reduceEqDiff,Nat.reduceMul,↓reduceIte]; rfl)
 refine ⟨l',tch' ++ tch,?_,h7⟩
 rw [Qp hN rfl]
 rw [A7 (c:=HH) (nt:=15) (rs:=[]) rfl (by simp)]; unfold HH
 simp -implicitDefEqProofs only [h6,XP,Nat.reduceAdd,Nat.reduceSub,Nat.reduceLT,Nat.reduceLeDiff,Nat.reduceEqDiff,Nat.reduceMul,↓reduceIte]
end
end Go.Proofs.AmEnv
set_option maxRecDepth 100000
namespace Go.Proofs.AmEnv
open Go Go.AM
variable {T:Nat->Option (List AV->Option (List AV))}
section
variable {regs:List Int} {bs:List AV} {i k:Nat} {b:Blk} {x:Ins} {tch:List Nat} {cells:List AV}
theorem Gc {α:Type} {l:List α} {i:Nat} {v:α} (h:l[i]?=some v):l.set i v=l:=by
 obtain ⟨hi,rfl⟩:=List.getElem?_eq_some_iff.1 h
 exact List.set_getElem_self hi
theorem H9 {α:Type} {l:List α} {i:Nat} {v:α} (h:i < l.length):(l.set i v)[i]?=some v:=List.getElem?_set_self h
def eF (regs:List Int) (box:PO) (bs:List AV) (i k:Nat) (code:List AV) (tl cs:List AV) (es:List AV):List PO :=
 [.row 0 (ints regs) 1,.row 0 (bs.set i (.agg (ownd 0 8 (code.set k (.agg (cs ++ [ownd 0 1 es]))) :: tl))) 5,box,.sub 1 i 0,.sub 1 i 0,.sub 4 k 7]
theorem uX {box:PO} {code tl cs:List AV} (hi:i < bs.length) (hk:k < code.length) (hc:cs.length=7):Lens (eF regs box bs i k code tl cs) 5 1:=by
 obtain ⟨c0,c1,c2,c3,c4,c5,c6,rfl⟩:∃ c0 c1 c2 c3 c4 c5 c6,cs=[c0,c1,c2,c3,c4,c5,c6]:=by
  match cs,hc with
  | [a,b,c,d,e,f,g],_=>exact ⟨a,b,c,d,e,f,g,rfl⟩
 refine ⟨fun es=>?_,fun es es'=>?_,fun es=>?_⟩
 . unfold eF
   simp -implicitDefEqProofs only [H9 hi,H9 hk,XP,seval]
 . unfold eF
   simp -implicitDefEqProofs only [H9 hi,H9 hk,List.set_set,XP,seval]
 . rfl
set_option maxHeartbeats 4000000 in
theorem BM {nm:List UInt8} {ty ps:Int} {nr nb:Nat} (hT:T 152=some H1) (hN:T 62=none) (hb:bs[i]?=some b.O) (hx:b.code[k]?=some x) (hk:x.ok) (hn:nb=bs.length) (hs:b.code.length≤bigN) :
 ∃ l' tch',evP ⟨A0,T,A2⟩ (.code Ns [(1,.ptr 2 0 0),(2,.int .i64 (i:Int)),(3,.int .i64 (k:Int))] ⟨[.row 0 (ints regs) 1,.row 0 bs 5,(PO.row 1 [AV.agg [.str nm,.int .i64 ty,.int .i64 ps,.msl 0 0 nr 1,.msl 1 0 nb 5]] 5)],2,tch⟩)=some (.ok .normal [(1,.ptr 2 0 0),(2,.int .i64 (i:Int)),(3,.int .i64 ((k + 1:Nat):Int))] ⟨[.row 0 (ints regs) 1,.row 0 (bs.set i (Blk.O { b with code:=b.code.set k { x with args:=l' } })) 5,(PO.row 1 [AV.agg [.str nm,.int .i64 ty,.int .i64 ps,.msl 0 0 nr 1,.msl 1 0 nb 5]] 5)],2,tch'⟩)∧l'.length=x.args.length:=by
 subst hn
 have hi:i < bs.length:=(List.getElem?_eq_some_iff.1 hb).1
 have hkl:k < b.code.length:=(List.getElem?_eq_some_iff.1 hx).1
 have hxc:(b.code.map Ins.O)[k]?=some x.O:=by rw [List.getElem?_map,hx]; rfl
 have L:=uX (regs:=regs) (bs:=bs) (i:=i) (k:=k) (box:=(PO.row 1 [AV.agg [.str nm,.int .i64 ty,.int .i64 ps,.msl 0 0 nr 1,.msl 1 0 bs.length 5]] 5)) (code:=b.code.map Ins.O) (tl:=[.int .i64 b.e.kind,.int .i64 b.e.a,.int .i64 b.e.to,.int .i64 b.e.els]) (cs:=[.int .i64 x.op,.int .i64 x.ty,.int .i64 x.dst,.int .i64 x.a,.int .i64 x.b,.int .i64 x.n,.str x.s]) hi (by simpa using hkl) rfl
 obtain ⟨l',tch',hc,hl⟩:=Bm (T:=T) (ext:=2) (tch:=tch) hT hN L hk
 refine ⟨l',?_,?_,hl⟩
 rotate_left 1
 . unfold Ns
   have e1:bs.set i (.agg (ownd 0 8 ((b.code.map Ins.O).set k (.agg [.int .i64 x.op,.int .i64 x.ty,.int .i64 x.dst,.int .i64 x.a,.int .i64 x.b,.int .i64 x.n,.str x.s,ownd 0 1 (ints x.args)])) :: [.int .i64 b.e.kind,.int .i64 b.e.a,.int .i64 b.e.to,.int .i64 b.e.els]))=bs:=by
    have e0:=Gc hxc
    have e3:=Gc hb
    simp only [Ins.O] at e0
    simp only [Blk.O] at e3
    rw [e0,e3]
   have e2:(b.code.map Ins.O).set k (.agg [.int .i64 x.op,.int .i64 x.ty,.int .i64 x.dst,.int .i64 x.a,.int .i64 x.b,.int .i64 x.n,.str x.s,ownd 0 1 (ints l')])=(b.code.set k { x with args:=l' }).map Ins.O:=by
    rw [List.map_set]; rfl
   unfold eF at hc
   simp only [List.cons_append,List.nil_append] at hc
   rw [e1,e2] at hc
   have hlt:decide ((k:Int) < (b.code.length:Int))=true:=by simp [hkl]
   have hw:=A9 (i:=k) (by simp only [bigN] at hs; omega)
   simp only [Blk.O] at hb
   simp only [Ins.O] at hxc
   simp -implicitDefEqProofs only [hb,hxc,hc,hlt,hw,hi,hkl,List.length_map,Blk.O,XP,seval]
   rfl
end
end Go.Proofs.AmEnv
set_option maxRecDepth 100000
namespace Go.Proofs.AmEnv
open Go Go.AM
variable {T:Nat->Option (List AV->Option (List AV))}
section
variable {regs:List Int} {bs:List AV} {i k:Nat} {b:Blk} {x:Ins} {tch:List Nat} {nm:List UInt8} {ty ps:Int} {nr nb:Nat}
theorem BO (hb:bs[i]?=some b.O) (hn:nb=bs.length) :
 ∃ fr',evP ⟨A0,T,A2⟩ (.code Ns [(1,.ptr 2 0 0),(2,.int .i64 (i:Int)),(3,.int .i64 (b.code.length:Int))] ⟨[.row 0 (ints regs) 1,.row 0 bs 5,(PO.row 1 [AV.agg [.str nm,.int .i64 ty,.int .i64 ps,.msl 0 0 nr 1,.msl 1 0 nb 5]] 5)],2,tch⟩)=some (.ok (.exit 2) fr' ⟨[.row 0 (ints regs) 1,.row 0 bs 5,(PO.row 1 [AV.agg [.str nm,.int .i64 ty,.int .i64 ps,.msl 0 0 nr 1,.msl 1 0 nb 5]] 5),.sub 1 i 0],2,tch⟩)∧lookP fr' 1=.ptr 2 0 0∧lookP fr' 2=.int .i64 (i:Int):=by
 subst hn
 have hi:i < bs.length:=(List.getElem?_eq_some_iff.1 hb).1
 unfold Ns
 have hlt:decide ((b.code.length:Int) < (b.code.length:Int))=false:=by simp
 simp only [Blk.O] at hb
 simp -implicitDefEqProofs only [hb,hlt,hi,List.length_map,XP,seval]
 exact ⟨_,rfl,rfl,rfl⟩
theorem tP (hT:T 152=some H1) (hN:T 62=none):∀ (n k:Nat) (bs:List AV) (b:Blk) (tch:List Nat),b.code.length=k + n->bs[i]?=some b.O->nb=bs.length->(∀ x∈b.code,x.ok)->b.code.length≤bigN ->
 ∃ fr' b' tch',evP ⟨A0,T,A2⟩ (.code (.loop Ns) [(1,.ptr 2 0 0),(2,.int .i64 (i:Int)),(3,.int .i64 (k:Int))] ⟨[.row 0 (ints regs) 1,.row 0 bs 5,(PO.row 1 [AV.agg [.str nm,.int .i64 ty,.int .i64 ps,.msl 0 0 nr 1,.msl 1 0 nb 5]] 5)],2,tch⟩)=some (.ok (.exit 2) fr' ⟨[.row 0 (ints regs) 1,.row 0 (bs.set i (Blk.O b')) 5,(PO.row 1 [AV.agg [.str nm,.int .i64 ty,.int .i64 ps,.msl 0 0 nr 1,.msl 1 0 nb 5]] 5),.sub 1 i 0],2,tch'⟩)∧lookP fr' 1=.ptr 2 0 0∧lookP fr' 2=.int .i64 (i:Int)∧b'.code.length=b.code.length
 | 0,k,bs,b,tch,e,hb,hn,hk,hs=>by
  obtain rfl:k=b.code.length:=by omega
  obtain ⟨fr',h1,h2,h3⟩:=BO (T:=T) (regs:=regs) (nm:=nm) (ty:=ty) (ps:=ps) (nr:=nr) (tch:=tch) hb hn
  exact ⟨fr',b,tch,by rw [Gc hb]; exact loop_exit h1,h2,h3,rfl⟩
 | n + 1,k,bs,b,tch,e,hb,hn,hk,hs=>by
  have hi:i < bs.length:=(List.getElem?_eq_some_iff.1 hb).1
  have hx:b.code[k]?=some b.code[k]:=List.getElem?_eq_getElem (by omega)
  obtain ⟨l',tch1,h1,hl⟩:=BM (regs:=regs) (nm:=nm) (ty:=ty) (ps:=ps) (nr:=nr) (tch:=tch) hT hN hb hx (hk _ (List.getElem_mem _)) hn hs
  obtain ⟨fr',b',tch',h2,h3,h4,h5⟩:=tP hT hN n (k + 1) _ { b with code:=b.code.set k { b.code[k] with args:=l' } } tch1 (by simp; omega) (H9 hi) (by simpa using hn) (fun y hy=>by
   rcases List.mem_or_eq_of_mem_set hy with hy | rfl
   . exact hk y hy
   . have:=hk _ (List.getElem_mem (show k < b.code.length by omega))
     unfold Ins.ok at this ⊢; simpa [hl] using this) (by simpa using hs)
  rw [List.set_set] at h2
  exact ⟨fr',b',tch',(loop_more h1).trans h2,h3,h4,by simpa using h5⟩
def Vj (regs:List Int) (box:PO) (bs:List AV) (i:Nat) (tl:List AV) (es:List AV):List PO:=[.row 0 (ints regs) 1,.row 0 (bs.set i (.agg (ownd 0 8 es :: tl))) 5,box,.sub 1 i 0]
theorem pI {box1:AV} {tl:List AV} (hi:i < bs.length):LensK (Vj regs (.row 1 [box1] 5) bs i tl) 3 8:=by
 refine ⟨⟨fun es=>?_,fun es es'=>?_,fun es=>?_⟩,fun es=>?_⟩
 . unfold Vj
   simp -implicitDefEqProofs only [H9 hi,XP,seval]
 . unfold Vj
   simp -implicitDefEqProofs only [H9 hi,List.set_set,XP,seval]
 . rfl
 . rfl
theorem gW (l:List Ins):wide 8 (l.map Ins.O):=fun v hv=>by
 obtain ⟨x,_,rfl⟩:=List.mem_map.1 hv
 exact ⟨_,rfl,rfl⟩
theorem gX (l:List Blk):wide 5 (l.map Blk.O):=fun v hv=>by
 obtain ⟨x,_,rfl⟩:=List.mem_map.1 hv
 exact ⟨_,rfl,rfl⟩
set_option maxHeartbeats 4000000 in
theorem BP (hT:T 152=some H1) (hN:T 62=none) (hT2:T 160=some F8) (hN2:T 76=none) (hb:bs[i]?=some b.O) (hn:nb=bs.length) (hk:b.ok) (hbs:bs.length≤bigN) :
 ∃ cs tch',evP ⟨A0,T,A2⟩ (.code Nt [(1,.ptr 2 0 0),(2,.int .i64 (i:Int))] ⟨[.row 0 (ints regs) 1,.row 0 bs 5,(PO.row 1 [AV.agg [.str nm,.int .i64 ty,.int .i64 ps,.msl 0 0 nr 1,.msl 1 0 nb 5]] 5)],2,tch⟩)=some (.ok .normal [(1,.ptr 2 0 0),(2,.int .i64 ((i + 1:Nat):Int))] ⟨[.row 0 (ints regs) 1,.row 0 (bs.set i (.agg cs)) 5,(PO.row 1 [AV.agg [.str nm,.int .i64 ty,.int .i64 ps,.msl 0 0 nr 1,.msl 1 0 nb 5]] 5)],2,tch'⟩)∧cs.length=5:=by
 have hi:i < bs.length:=(List.getElem?_eq_some_iff.1 hb).1
 have hs:b.code.length≤bigN:=by have:=hk.2; simp only [bigN] at this ⊢; omega
 obtain ⟨fr',b',tch1,h1,h2,h3,h4⟩:=tP (T:=T) (regs:=regs) (nm:=nm) (ty:=ty) (ps:=ps) (nr:=nr) (nb:=nb) (i:=i) hT hN b.code.length 0 bs b (tch.filter (· < 2)) (by omega) hb hn hk.1 hs
 have h1:evP ⟨A0,T,A2⟩ (.code (.loop Ns) [(1,.ptr 2 0 0),(2,.int .i64 (i:Int)),(3,.int .i64 0)] ⟨[.row 0 (ints regs) 1,.row 0 bs 5,(PO.row 1 [AV.agg [.str nm,.int .i64 ty,.int .i64 ps,.msl 0 0 nr 1,.msl 1 0 nb 5]] 5)],2,tch.filter (· < 2)⟩)=_:=h1
 obtain ⟨es',tch2,h5,h6⟩:=Im (T:=T) (ext:=2) (tch:=tch1.filter (· < 2)) (es:=b'.code.map Ins.O) hT2 hN2 (pI (regs:=regs) (bs:=bs) (i:=i) (box1:=AV.agg [.str nm,.int .i64 ty,.int .i64 ps,.msl 0 0 nr 1,.msl 1 0 nb 5]) (tl:=[.int .i64 b'.e.kind,.int .i64 b'.e.a,.int .i64 b'.e.to,.int .i64 b'.e.els]) hi) (gW _) (by simp; omega)
 unfold Vj at h5
 rw [List.length_map] at h5
 have hlt:decide ((i:Int) < (nb:Int))=true:=by simp [hn,hi]
 have hin:i < nb:=by omega
 have hw:=A9 (i:=i) (by simp only [bigN] at hbs; omega)
 simp only [Blk.O] at h1
 have hg:=H9 (v:=AV.agg [ownd 0 8 (b'.code.map Ins.O),.int .i64 b'.e.kind,.int .i64 b'.e.a,.int .i64 b'.e.to,.int .i64 b'.e.els]) hi
 refine ⟨[ownd 0 8 es',.int .i64 b'.e.kind,.int .i64 b'.e.a,.int .i64 b'.e.to,.int .i64 b'.e.els],?_,?_,rfl⟩
 rotate_left 1
 . unfold Nt
   simp -implicitDefEqProofs only [hlt,h1,h2,h3,h5,hin,hw,hg,List.length_map,XP,seval]
   rfl
theorem BQ (hn:i=nb):∃ fr',evP ⟨A0,T,A2⟩ (.code Nt [(1,.ptr 2 0 0),(2,.int .i64 (i:Int))] ⟨[.row 0 (ints regs) 1,.row 0 bs 5,(PO.row 1 [AV.agg [.str nm,.int .i64 ty,.int .i64 ps,.msl 0 0 nr 1,.msl 1 0 nb 5]] 5)],2,tch⟩)=some (.ok (.exit 0) fr' ⟨[.row 0 (ints regs) 1,.row 0 bs 5,(PO.row 1 [AV.agg [.str nm,.int .i64 ty,.int .i64 ps,.msl 0 0 nr 1,.msl 1 0 nb 5]] 5)],2,tch⟩)∧lookP fr' 1=.ptr 2 0 0:=by
 unfold Nt
 have hlt:decide ((i:Int) < (nb:Int))=false:=by simp [hn]
 simp -implicitDefEqProofs only [hlt,XP,seval]
 exact ⟨_,rfl,rfl⟩
theorem tQ (hT:T 152=some H1) (hN:T 62=none) (hT2:T 160=some F8) (hN2:T 76=none) (l:List Blk) (hk:∀ x∈l,x.ok) (hs:l.length≤bigN):∀ (n i:Nat) (bs:List AV) (tch:List Nat),nb=i + n->nb=bs.length->nb=l.length->wide 5 bs->(∀ j,i≤j->bs[j]?=(l.map Blk.O)[j]?) ->
 ∃ fr' bs' tch',evP ⟨A0,T,A2⟩ (.code (.loop Nt) [(1,.ptr 2 0 0),(2,.int .i64 (i:Int))] ⟨[.row 0 (ints regs) 1,.row 0 bs 5,(PO.row 1 [AV.agg [.str nm,.int .i64 ty,.int .i64 ps,.msl 0 0 nr 1,.msl 1 0 nb 5]] 5)],2,tch⟩)=some (.ok (.exit 0) fr' ⟨[.row 0 (ints regs) 1,.row 0 bs' 5,(PO.row 1 [AV.agg [.str nm,.int .i64 ty,.int .i64 ps,.msl 0 0 nr 1,.msl 1 0 nb 5]] 5)],2,tch'⟩)∧lookP fr' 1=.ptr 2 0 0∧wide 5 bs'∧bs'.length=nb
 | 0,i,bs,tch,e,hn,hl,hw,hj=>by
  obtain ⟨fr',h1,h2⟩:=BQ (T:=T) (regs:=regs) (nm:=nm) (ty:=ty) (ps:=ps) (nr:=nr) (bs:=bs) (tch:=tch) (i:=i) (nb:=nb) (by omega)
  exact ⟨fr',bs,tch,loop_exit h1,h2,hw,by omega⟩
 | n + 1,i,bs,tch,e,hn,hl,hw,hj=>by
  have hi:i < l.length:=by omega
  have hb:bs[i]?=some l[i].O:=by rw [hj i (Nat.le_refl _),List.getElem?_map,List.getElem?_eq_getElem hi]; rfl
  obtain ⟨cs,tch1,h1,hc⟩:=BP (regs:=regs) (nm:=nm) (ty:=ty) (ps:=ps) (nr:=nr) (tch:=tch) hT hN hT2 hN2 hb hn (hk _ (List.getElem_mem hi)) (by omega)
  obtain ⟨fr',bs',tch',h2,h3,h4,h5⟩:=tQ hT hN hT2 hN2 l hk hs n (i + 1) (bs.set i (.agg cs)) tch1 (by omega) (by simpa using hn) hl (hw.set i hc) (fun j hij=>by rw [List.getElem?_set_ne (by omega)]; exact hj j (by omega))
  exact ⟨fr',bs',tch',(loop_more h1).trans h2,h3,h4,h5⟩
theorem pJ {box:AV} {bs:List AV}:Lens (fun es=>[.row 0 es 1,.row 0 bs 5,.row 1 [box] 5]) 0 1:=by
 refine ⟨fun es=>rfl,fun es es'=>rfl,fun es=>rfl⟩
theorem pK {box:AV} {rs:List AV}:LensK (fun es=>[.row 0 rs 1,.row 0 es 5,.row 1 [box] 5]) 1 5:=by
 refine ⟨⟨fun es=>rfl,fun es es'=>rfl,fun es=>rfl⟩,fun es=>rfl⟩
set_option maxHeartbeats 4000000 in
theorem On (hT:T 152=some H1) (hN:T 62=none) (hT2:T 160=some F8) (hN2:T 76=none) (hT3:T 161=some I6) (hN3:T 77=none) {c:Cod} (hc:c.ok) :
 ∃ r1 r2 tch',evP ⟨A0,T,A2⟩ (.body 20 [.agg (c.cs (.msl 0 0 c.regs.length 1) (.msl 1 0 c.blocks.length 5))] ⟨[.row 0 (ints c.regs) 1,.row 0 (c.blocks.map Blk.O) 5],2,[]⟩)=some (.val [] ⟨[.row 0 r1 1,.row 0 r2 5],2,tch'⟩):=by
 have hbl:c.blocks.length≤bigN:=by have:=hc.2.2; simp only [bigN] at this ⊢; omega
 obtain ⟨fr',bs',tch1,h1,h2,h3,h4⟩:=tQ (T:=T) (regs:=c.regs) (nm:=c.name) (ty:=c.ty) (ps:=c.ps) (nr:=c.regs.length) (nb:=c.blocks.length) hT hN hT2 hN2 c.blocks hc.2.1 hbl c.blocks.length 0 (c.blocks.map Blk.O) [] (by omega) (by simp) rfl (gX _) (fun _ _=>rfl)
 have h1:evP ⟨A0,T,A2⟩ (.code (.loop Nt) [(1,.ptr 2 0 0),(2,.int .i64 0)] ⟨[.row 0 (ints c.regs) 1,.row 0 (c.blocks.map Blk.O) 5,.row 1 [.agg [.str c.name,.int .i64 c.ty,.int .i64 c.ps,.msl 0 0 c.regs.length 1,.msl 1 0 c.blocks.length 5]] 5],2,[]⟩)=_:=h1
 obtain ⟨l',tch2,h5,h6⟩:=Bm (T:=T) (ext:=2) (tch:=tch1.filter (· < 2)) (l:=c.regs) hT hN (pJ (bs:=bs') (box:=.agg [.str c.name,.int .i64 c.ty,.int .i64 c.ps,.msl 0 0 c.regs.length 1,.msl 1 0 c.blocks.length 5])) hc.1
 obtain ⟨r2,tch3,h7,h8⟩:=In (T:=T) (ext:=2) (tch:=tch2) (es:=bs') hT3 hN3 (pK (rs:=ints l') (box:=.agg [.str c.name,.int .i64 c.ty,.int .i64 c.ps,.msl 0 0 c.regs.length 1,.msl 1 0 c.blocks.length 5])) h3 (by omega)
 rw [h4] at h7
 refine ⟨ints l',r2,?_,?_⟩
 rotate_left 1
 . rw [A7 (c:=GR) (nt:=46) (rs:=[]) rfl (by simp)]; unfold GR
   unfold Cod.cs
   simp -implicitDefEqProofs only [h1,h2,h5,h7,XP,seval]
   rfl
end
end Go.Proofs.AmEnv
set_option maxRecDepth 100000
namespace Go.Proofs.AmEnv
open Go Go.AM
variable {T:Nat->Option (List AV->Option (List AV))}
structure Glo where
 name:List UInt8
 ty:Int
 size:Int
 at_:Int
deriving DecidableEq
structure Modl where
 gs:List Glo
 fs:List Cod
deriving DecidableEq
def Glo.F (g:Glo):AV:=.agg [.str g.name,.int .i64 g.ty,.int .i64 g.size,.int .i64 g.at_]
def Modl.F (m:Modl):AV:=.agg [fslN (m.gs.map Glo.F),fslN (m.fs.map Cod.F)]
def Modl.O (m:Modl):AV:=.agg [ownd 0 4 (m.gs.map Glo.F),ownd 0 5 (m.fs.map Cod.O)]
abbrev tR (l:List Bool):List AV:=l.map AV.bool
def chkF (m:Modl) (c:Cod):AV:=.agg [fslN (m.gs.map Glo.F),fslN (m.fs.map Cod.F),.str c.name,.int .i64 c.ty,.int .i64 c.ps,fslN (ints c.regs),fslN (c.blocks.map Blk.F)]
theorem Glo.F_inj {x y:Glo} (h:x.F=y.F):x=y:=by
 cases x; cases y
 simp only [Glo.F,AV.agg.injEq,List.cons.injEq,AV.int.injEq,AV.str.injEq,true_and,and_true] at h
 obtain ⟨rfl,rfl,rfl,rfl⟩:=h; rfl
theorem Endd.F_inj {x y:Endd} (h:x.F=y.F):x=y:=by
 cases x; cases y
 simp only [Endd.F,AV.agg.injEq,List.cons.injEq,AV.int.injEq,true_and,and_true] at h
 obtain ⟨rfl,rfl,rfl,rfl⟩:=h; rfl
theorem Modl.F_inj {x y:Modl} (h:x.F=y.F):x=y:=by
 cases x; cases y
 simp only [Modl.F,AV.agg.injEq,List.cons.injEq,and_true] at h
 rw [map_inj (fun _ _=>Glo.F_inj) (fslN_inj h.1),map_inj (fun _ _=>Cod.F_inj) (fslN_inj h.2)]
theorem fslN_iff {l m:List AV}:fslN l=fslN m ↔ l=m:=⟨fslN_inj,fun h=>h ▸ rfl⟩
theorem ints_iff {l m:List Int}:l.map (AV.int .i64)=m.map (AV.int .i64) ↔ l=m:=⟨ints_inj,fun h=>h ▸ rfl⟩
theorem bools_iff {l m:List Bool}:l.map AV.bool=m.map AV.bool ↔ l=m:=⟨fun h=>map_inj (fun _ _ h=>by injection h) h,fun h=>h ▸ rfl⟩
theorem Ins.F_iff {x y:Ins}:x.F=y.F ↔ x=y:=⟨Ins.F_inj,fun h=>h ▸ rfl⟩
theorem Blk.F_iff {x y:Blk}:x.F=y.F ↔ x=y:=⟨Blk.F_inj,fun h=>h ▸ rfl⟩
theorem Cod.F_iff {x y:Cod}:x.F=y.F ↔ x=y:=⟨Cod.F_inj,fun h=>h ▸ rfl⟩
theorem Glo.F_iff {x y:Glo}:x.F=y.F ↔ x=y:=⟨Glo.F_inj,fun h=>h ▸ rfl⟩
theorem Endd.F_iff {x y:Endd}:x.F=y.F ↔ x=y:=⟨Endd.F_inj,fun h=>h ▸ rfl⟩
theorem Modl.F_iff {x y:Modl}:x.F=y.F ↔ x=y:=⟨Modl.F_inj,fun h=>h ▸ rfl⟩
theorem insL_iff {l m:List Ins}:l.map Ins.F=m.map Ins.F ↔ l=m:=⟨map_inj fun _ _=>Ins.F_inj,fun h=>h ▸ rfl⟩
theorem blkL_iff {l m:List Blk}:l.map Blk.F=m.map Blk.F ↔ l=m:=⟨map_inj fun _ _=>Blk.F_inj,fun h=>h ▸ rfl⟩
theorem codL_iff {l m:List Cod}:l.map Cod.F=m.map Cod.F ↔ l=m:=⟨map_inj fun _ _=>Cod.F_inj,fun h=>h ▸ rfl⟩
theorem gloL_iff {l m:List Glo}:l.map Glo.F=m.map Glo.F ↔ l=m:=⟨map_inj fun _ _=>Glo.F_inj,fun h=>h ▸ rfl⟩
theorem Glo.frzF (x:Glo):frzC x.F=some x.F:=by unfold Glo.F; simp -implicitDefEqProofs only [XP,seval]
theorem frzL_gloF (l:List Glo):frzL (l.map Glo.F)=some (l.map Glo.F):=V8 Glo.frzF l
theorem frzL_codF (l:List Cod):frzL (l.map Cod.F)=some (l.map Cod.F):=V8 Cod.frzF l
theorem frzL_bools (l:List Bool):frzL (l.map AV.bool)=some (l.map AV.bool):=V8 (f:=AV.bool) (g:=AV.bool) (fun _=>rfl) l
theorem Glo.viewF {os:List PO} (x:Glo):viewA os x.F=some x.F:=by unfold Glo.F; simp -implicitDefEqProofs only [XP,seval]
theorem Endd.viewF {os:List PO} (x:Endd):viewA os x.F=some x.F:=by unfold Endd.F; simp -implicitDefEqProofs only [XP,seval]
theorem Modl.viewF {os:List PO} (x:Modl):viewA os x.F=some x.F:=by unfold Modl.F; simp -implicitDefEqProofs only [frzL_gloF,frzL_codF,XP,seval]
theorem chk_viewF {os:List PO} (m:Modl) (c:Cod):viewA os (chkF m c)=some (chkF m c):=by unfold chkF; simp -implicitDefEqProofs only [frzL_gloF,frzL_codF,frzL_ints,frzL_blkF,XP,seval]
theorem chk_iff {m m':Modl} {c c':Cod}:chkF m c=chkF m' c' ↔ m=m'∧c=c':=by
 constructor
 . intro h
   simp only [chkF,AV.agg.injEq,List.cons.injEq,AV.int.injEq,AV.str.injEq,and_true] at h
   obtain ⟨h1,h2,h3,⟨_,h4⟩,⟨_,h5⟩,h6,h7⟩:=h
   exact ⟨Modl.F_inj (by simp only [Modl.F]; rw [h1,h2]),Cod.F_inj (by simp only [Cod.F]; rw [h3,h4,h5,h6,h7])⟩
 . rintro ⟨rfl,rfl⟩; rfl
theorem noFL_bools (l:List Bool):noFL (tR l)=true:=by
 induction l with
 | nil=>rfl
 | cons x l ih=>exact ih
theorem Glo.noF (x:Glo):noF x.F=true:=by unfold Glo.F; simp -implicitDefEqProofs only [XP,seval]
theorem noFL_gloO (l:List Glo):noFL (l.map Glo.F)=true:=s3 Glo.noF l
theorem noFL_codO (l:List Cod):noFL (l.map Cod.O)=true:=s3 Cod.noF l
theorem Endd.okF (x:Endd):(x.F.cells.all fun c=>(ownOf c).isSome || clo c)=true:=rfl
theorem Endd.noF (x:Endd):noF x.F=true:=by unfold Endd.F; simp -implicitDefEqProofs only [XP,seval]
theorem Cod.okO (c:Cod):(c.O.cells.all fun c=>(ownOf c).isSome || clo c)=true:=rfl
theorem Modl.okO (m:Modl):(m.O.cells.all fun c=>(ownOf c).isSome || clo c)=true:=rfl
theorem Modl.noF (m:Modl):noF m.O=true:=by unfold Modl.O; simp -implicitDefEqProofs only [noFL_gloO,noFL_codO,XP,seval]
def E5 (n:Int):Bool:=decide (n=1) || decide (n=2)
def thereD (a n:Int):Bool:=decide (0≤a) && decide (a < n)
def Dr (t:Int):Int:=if t=2 then 2 else 1
def Ke (t v:Int):Int:=if t=3 then IntKind.wrap .i64 (IntKind.wrap .i8 v) else if t=1 then IntKind.wrap .i64 (IntKind.wrap .i32 v) else if t=2 then v else 0
def B2:List UInt8:=[109,97,105,110]
def VJ:=And.intro @Int.ofNat_inj (And.intro @List.cons.injEq.{0} (And.intro @AV.int.injEq (And.intro @AV.str.injEq (And.intro @AV.bool.injEq (And.intro @AV.agg.injEq (And.intro @true_and (And.intro @and_true (And.intro @fslN_iff (And.intro @chk_iff (And.intro @Ins.F_iff (And.intro @Blk.F_iff (And.intro @Cod.F_iff (And.intro @Glo.F_iff (And.intro @Modl.F_iff (And.intro @Endd.F_iff (And.intro @ints_iff (And.intro @insL_iff (And.intro @blkL_iff (And.intro @codL_iff (And.intro @gloL_iff (@bools_iff)))))))))))))))))))))
def VV:=And.intro @chk_viewF (And.intro @Ins.viewF (And.intro @Blk.viewF (And.intro @Cod.viewF (And.intro @Glo.viewF (And.intro @Modl.viewF (And.intro @Endd.viewF (And.intro @frzL_ints (And.intro @frzL_insF (And.intro @frzL_blkF (And.intro @frzL_codF (And.intro @frzL_gloF (@frzL_bools))))))))))))
def VN:=And.intro @Endd.okF (And.intro @Endd.noF (And.intro @Cod.okO (And.intro @Modl.okO (And.intro @Modl.noF (And.intro @noFL_ints (And.intro @noFL_insO (And.intro @noFL_blkO (And.intro @noFL_bools (And.intro @noFL_codO (And.intro @noFL_gloO (And.intro @Ins.noF (And.intro @Blk.noF (@Cod.noF)))))))))))))
theorem Ku  {n:Int}:AM.Comes ⟨A0,T,A2⟩ 111 [.int .i64 n] [.bool (E5 n)]:=by
 refine ⟨[.bool (E5 n)],⟨[],0,[]⟩,?_,B4 rfl List.nodup_nil rfl rfl rfl⟩
 rw [A7 (c:=nZ) (nt:=9) (rs:=[.tmp 2]) rfl (by simp)]; unfold nZ
 unfold K0
 unfold E5
 by_cases h1:n=1
 . by_cases h2:n=2
   . simp -implicitDefEqProofs only [eq_true h1,eq_true h2,XP,seval]
   . simp -implicitDefEqProofs only [eq_true h1,eq_false h2,XP,seval]
 . by_cases h2:n=2
   . simp -implicitDefEqProofs only [eq_false h1,eq_true h2,XP,seval]
   . simp -implicitDefEqProofs only [eq_false h1,eq_false h2,XP,seval]
def L3:=U4 (fun p:(Int)=>[.int .i64 p]) (fun p=>[.bool (E5 p)]) (fun p=>True)
theorem Eg (hir_number:T 111=some L3) {n:Int} {K:PK}:evP ⟨A0,T,A2⟩ (.call 111 [.int .i64 n] K)=some (.val (openTs K.os.length [.bool (E5 n)]).1 ⟨K.os ++ (openTs K.os.length [.bool (E5 n)]).2,K.ext,K.tch⟩):=B5 hir_number (by simp -implicitDefEqProofs only [VV,XP,seval]) (C0 (a:=fun p:(Int)=>[.int .i64 p]) (r:=fun p=>[.bool (E5 p)]) (fun x y e=>by simp only [VJ] at e; simp only [e]) (n) trivial) (by simp -implicitDefEqProofs only [VN,XP,seval])
theorem Vk  (hP:PEok ⟨A0,T,A2⟩):TC A0 111 L3:=C1 hP fun p h=>Ku
theorem Oo  {a:Int} {n:Int}:AM.Comes ⟨A0,T,A2⟩ 225 [.int .i64 a,.int .i64 n] [.bool (thereD a n)]:=by
 refine ⟨[.bool (thereD a n)],⟨[],0,[]⟩,?_,B4 rfl List.nodup_nil rfl rfl rfl⟩
 rw [A7 (c:=oX) (nt:=12) (rs:=[.tmp 4]) rfl (by simp)]; unfold oX
 unfold K0
 unfold thereD
 by_cases h1:0≤a
 . by_cases h2:a < n
   . simp -implicitDefEqProofs only [eq_true h1,eq_true h2,XP,seval]
   . simp -implicitDefEqProofs only [eq_true h1,eq_false h2,XP,seval]
 . by_cases h2:a < n
   . simp -implicitDefEqProofs only [eq_false h1,eq_true h2,XP,seval]
   . simp -implicitDefEqProofs only [eq_false h1,eq_false h2,XP,seval]
def G3:=U4 (fun p:(Int) × (Int)=>[.int .i64 p.1,.int .i64 p.2]) (fun p=>[.bool (thereD p.1 p.2)]) (fun p=>True)
theorem Z0 (hir_there:T 225=some G3) {a:Int} {n:Int} {K:PK}:evP ⟨A0,T,A2⟩ (.call 225 [.int .i64 a,.int .i64 n] K)=some (.val (openTs K.os.length [.bool (thereD a n)]).1 ⟨K.os ++ (openTs K.os.length [.bool (thereD a n)]).2,K.ext,K.tch⟩):=B5 hir_there (by simp -implicitDefEqProofs only [VV,XP,seval]) (C0 (a:=fun p:(Int) × (Int)=>[.int .i64 p.1,.int .i64 p.2]) (r:=fun p=>[.bool (thereD p.1 p.2)]) (fun x y e=>by simp only [VJ] at e; simp only [e]) (a,n) trivial) (by simp -implicitDefEqProofs only [VN,XP,seval])
theorem Ys  (hP:PEok ⟨A0,T,A2⟩):TC A0 225 G3:=C1 hP fun p h=>Oo
theorem Rg  {t:Int}:AM.Comes ⟨A0,T,A2⟩ 249 [.int .i64 t] [.int .i64 (Dr t)]:=by
 refine ⟨[.int .i64 (Dr t)],⟨[],0,[]⟩,?_,B4 rfl List.nodup_nil rfl rfl rfl⟩
 rw [A7 (c:=pD) (nt:=5) (rs:=[.tmp 2]) rfl (by simp)]; unfold pD
 unfold K0
 unfold Dr
 by_cases h1:t=2
 . simp -implicitDefEqProofs only [eq_true h1,XP,seval]
 . simp -implicitDefEqProofs only [eq_false h1,XP,seval]
def Bn:=U4 (fun p:(Int)=>[.int .i64 p]) (fun p=>[.int .i64 (Dr p)]) (fun p=>True)
theorem kZ (hir_wide:T 249=some Bn) {t:Int} {K:PK}:evP ⟨A0,T,A2⟩ (.call 249 [.int .i64 t] K)=some (.val (openTs K.os.length [.int .i64 (Dr t)]).1 ⟨K.os ++ (openTs K.os.length [.int .i64 (Dr t)]).2,K.ext,K.tch⟩):=B5 hir_wide (by simp -implicitDefEqProofs only [VV,XP,seval]) (C0 (a:=fun p:(Int)=>[.int .i64 p]) (r:=fun p=>[.int .i64 (Dr p)]) (fun x y e=>by simp only [VJ] at e; simp only [e]) (t) trivial) (by simp -implicitDefEqProofs only [VN,XP,seval])
theorem bS  (hP:PEok ⟨A0,T,A2⟩):TC A0 249 Bn:=C1 hP fun p h=>Rg
theorem Gd (k j:IntKind) (n:Int):M6 (.int k) (.int j n)=some (.int k (k.wrap n)):=u4 k n
theorem Kv  {t:Int} {v:Int}:AM.Comes ⟨A0,T,A2⟩ 182 [.int .i64 t,.int .i64 v] [.int .i64 (Ke t v)]:=by
 refine ⟨[.int .i64 (Ke t v)],⟨[],0,[]⟩,?_,B4 rfl List.nodup_nil rfl rfl rfl⟩
 rw [A7 (c:=oO) (nt:=19) (rs:=[.tmp 4]) rfl (by simp)]; unfold oO
 unfold K0
 unfold Ke
 by_cases h1:t=3
 . simp -implicitDefEqProofs only [Gd,eq_true h1,XP,seval]
 by_cases h2:t=1
 . simp -implicitDefEqProofs only [Gd,eq_false h1,eq_true h2,XP,seval]
 by_cases h3:t=2
 . simp -implicitDefEqProofs only [Gd,eq_false h1,eq_false h2,eq_true h3,XP,seval]
 simp -implicitDefEqProofs only [Gd,eq_false h1,eq_false h2,eq_false h3,XP,seval]
def N2:=U4 (fun p:(Int) × (Int)=>[.int .i64 p.1,.int .i64 p.2]) (fun p=>[.int .i64 (Ke p.1 p.2)]) (fun p=>True)
theorem bT (hword_Wrap:T 182=some N2) {t:Int} {v:Int} {K:PK}:evP ⟨A0,T,A2⟩ (.call 182 [.int .i64 t,.int .i64 v] K)=some (.val (openTs K.os.length [.int .i64 (Ke t v)]).1 ⟨K.os ++ (openTs K.os.length [.int .i64 (Ke t v)]).2,K.ext,K.tch⟩):=B5 hword_Wrap (by simp -implicitDefEqProofs only [VV,XP,seval]) (C0 (a:=fun p:(Int) × (Int)=>[.int .i64 p.1,.int .i64 p.2]) (r:=fun p=>[.int .i64 (Ke p.1 p.2)]) (fun x y e=>by simp only [VJ] at e; simp only [e]) (t,v) trivial) (by simp -implicitDefEqProofs only [VN,XP,seval])
theorem Vl  (hP:PEok ⟨A0,T,A2⟩):TC A0 182 N2:=C1 hP fun p h=>Kv
theorem s4 (hir_number:T 111=some L3) {n:Int}:AM.Comes ⟨A0,T,A2⟩ 175 [.int .i64 n] [.bool (!E5 n)]:=by
 refine ⟨[.bool (!E5 n)],⟨[],0,[]⟩,?_,B4 rfl List.nodup_nil rfl rfl rfl⟩
 rw [A7 (c:=oK) (nt:=6) (rs:=[.tmp 2]) rfl (by simp)]; unfold oK
 unfold K0
 simp -implicitDefEqProofs only [Eg hir_number,XP,seval]
def C4:=U4 (fun p:(Int)=>[.int .i64 p]) (fun p=>[.bool (!E5 p)]) (fun p=>True)
theorem c8 (hir_checker_code_1:T 175=some C4) {n:Int} {K:PK}:evP ⟨A0,T,A2⟩ (.call 175 [.int .i64 n] K)=some (.val (openTs K.os.length [.bool (!E5 n)]).1 ⟨K.os ++ (openTs K.os.length [.bool (!E5 n)]).2,K.ext,K.tch⟩):=B5 hir_checker_code_1 (by simp -implicitDefEqProofs only [VV,XP,seval]) (C0 (a:=fun p:(Int)=>[.int .i64 p]) (r:=fun p=>[.bool (!E5 p)]) (fun x y e=>by simp only [VJ] at e; simp only [e]) (n) trivial) (by simp -implicitDefEqProofs only [VN,XP,seval])
theorem Bo (hir_number:T 111=some L3) (hP:PEok ⟨A0,T,A2⟩):TC A0 175 C4:=C1 hP fun p h=>s4 hir_number
theorem Ge  {c:Cod}:AM.Comes ⟨A0,T,A2⟩ 178 [c.F] [.bool (decide (c.name=B2))]:=by
 refine ⟨[.bool (decide (c.name=B2))],⟨[],0,[]⟩,?_,B4 rfl List.nodup_nil rfl rfl rfl⟩
 rw [A7 (c:=oN) (nt:=6) (rs:=[.tmp 2]) rfl (by simp)]; unfold oN
 unfold K0
 unfold Cod.F B2
 simp -implicitDefEqProofs only [XP,seval]
def I7:=U4 (fun p:(Cod)=>[p.F]) (fun p=>[.bool (decide (p.name=B2))]) (fun p=>True)
theorem Gf (hir_mainOf_1:T 178=some I7) {c:Cod} {K:PK}:evP ⟨A0,T,A2⟩ (.call 178 [c.F] K)=some (.val (openTs K.os.length [.bool (decide (c.name=B2))]).1 ⟨K.os ++ (openTs K.os.length [.bool (decide (c.name=B2))]).2,K.ext,K.tch⟩):=B5 hir_mainOf_1 (by simp -implicitDefEqProofs only [VV,XP,seval]) (C0 (a:=fun p:(Cod)=>[p.F]) (r:=fun p=>[.bool (decide (p.name=B2))]) (fun x y e=>by simp only [VJ] at e; simp only [e]) (c) trivial) (by simp -implicitDefEqProofs only [VN,XP,seval])
theorem Oq  (hP:PEok ⟨A0,T,A2⟩):TC A0 178 I7:=C1 hP fun p h=>Ge
end Go.Proofs.AmEnv
set_option maxRecDepth 100000
namespace Go.Proofs.AmEnv
open Go Go.AM
variable {T:Nat->Option (List AV->Option (List AV))}
def writesD (x:Ins):Int:=if x.op=1 then x.dst else if x.op=2 then x.dst else if x.op=3 then x.dst else if x.op=4 then x.dst else if x.op=5 then x.dst else if x.op=7 then x.dst else if x.op=10 then x.dst else if x.op=9 then (if -1≤x.dst then x.dst else -1) else -1
def C6 (x:Ins):List Int:=if x.op=2 then [x.a] else if x.op=4 then [x.a] else if x.op=5 then [x.a] else if x.op=8 then [x.a] else if x.op=11 then [x.a] else if x.op=3 then [x.a,x.b] else if x.op=6 then [x.a,x.b] else if x.op=9 then x.args else []
theorem Y5 (a b:Int) (K:PK):Gw (J1 A0 .max [3,3] [.int .i64 a,.int .i64 b] K)=.val (.int .i64 (if b≤a then a else b)) K:=by
 show Gw ((Hv [.int .i64 b] (.int .i64 a)).map (·,K))=_
 show Gw ((some (AV.int .i64 (bif intLe b a then a else b))).map (·,K))=_
 rw [M9]
 by_cases hb:b≤a
 . rw [if_pos hb,decide_eq_true hb]; rfl
 . rw [if_neg hb,decide_eq_false hb]; rfl
theorem Kw  {x:Ins}:AM.Comes ⟨A0,T,A2⟩ 108 [x.F] [.int .i64 (writesD x)]:=by
 refine ⟨[.int .i64 (writesD x)],⟨[],0,[]⟩,?_,B4 rfl List.nodup_nil rfl rfl rfl⟩
 rw [A7 (c:=nY) (nt:=20) (rs:=[.tmp 2]) rfl (by simp)]; unfold nY
 unfold K0
 unfold Ins.F writesD
 by_cases e1:x.op=1
 . simp -implicitDefEqProofs only [Y5,eq_true e1,XP,seval]
 by_cases e2:x.op=2
 . simp -implicitDefEqProofs only [Y5,eq_false e1,eq_true e2,XP,seval]
 by_cases e3:x.op=3
 . simp -implicitDefEqProofs only [Y5,eq_false e1,eq_false e2,eq_true e3,XP,seval]
 by_cases e4:x.op=4
 . simp -implicitDefEqProofs only [Y5,eq_false e1,eq_false e2,eq_false e3,eq_true e4,XP,seval]
 by_cases e5:x.op=5
 . simp -implicitDefEqProofs only [Y5,eq_false e1,eq_false e2,eq_false e3,eq_false e4,eq_true e5,XP,seval]
 by_cases e7:x.op=7
 . simp -implicitDefEqProofs only [Y5,eq_false e1,eq_false e2,eq_false e3,eq_false e4,eq_false e5,eq_true e7,XP,seval]
 by_cases e10:x.op=10
 . simp -implicitDefEqProofs only [Y5,eq_false e1,eq_false e2,eq_false e3,eq_false e4,eq_false e5,eq_false e7,eq_true e10,XP,seval]
 by_cases e9:x.op=9
 . simp -implicitDefEqProofs only [Y5,eq_false e1,eq_false e2,eq_false e3,eq_false e4,eq_false e5,eq_false e7,eq_false e10,eq_true e9,XP,seval]
 simp -implicitDefEqProofs only [Y5,eq_false e1,eq_false e2,eq_false e3,eq_false e4,eq_false e5,eq_false e7,eq_false e10,eq_false e9,XP,seval]
def V1:=U4 (fun p:(Ins)=>[p.F]) (fun p=>[.int .i64 (writesD p)]) (fun p=>True)
theorem bU (hir_Writes:T 108=some V1) {x:Ins} {K:PK}:evP ⟨A0,T,A2⟩ (.call 108 [x.F] K)=some (.val (openTs K.os.length [.int .i64 (writesD x)]).1 ⟨K.os ++ (openTs K.os.length [.int .i64 (writesD x)]).2,K.ext,K.tch⟩):=B5 hir_Writes (by simp -implicitDefEqProofs only [VV,XP,seval]) (C0 (a:=fun p:(Ins)=>[p.F]) (r:=fun p=>[.int .i64 (writesD p)]) (fun x y e=>by simp only [VJ] at e; simp only [e]) (x) trivial) (by simp -implicitDefEqProofs only [VN,XP,seval])
theorem Vm  (hP:PEok ⟨A0,T,A2⟩):TC A0 108 V1:=C1 hP fun p h=>Kw
theorem Ot (hCloneInts:T 70=some E2) {x:Ins} (hk:x.ok):AM.Comes ⟨A0,T,A2⟩ 170 [x.F] [ownd 0 1 (ints (C6 x))]:=by
 have one:∀ (a:Int) (L:List Int),L=[a]->evP ⟨A0,T,A2⟩ (.body 170 [x.F] K0)=some (.val [.msl 0 0 1 1] ⟨[.row 0 [.int .i64 a] 1],0,[]⟩)->AM.Comes ⟨A0,T,A2⟩ 170 [x.F] [ownd 0 1 (ints L)]:=fun a L e h=>by
  subst e; exact ⟨_,_,h,C9 (.inr ⟨rfl,rfl⟩)⟩
 have two:∀ (a b:Int) (L:List Int),L=[a,b]->evP ⟨A0,T,A2⟩ (.body 170 [x.F] K0)=some (.val [.msl 0 0 2 1] ⟨[.row 0 [.int .i64 a,.int .i64 b] 1],0,[]⟩)->AM.Comes ⟨A0,T,A2⟩ 170 [x.F] [ownd 0 1 (ints L)]:=fun a b L e h=>by
  subst e; exact ⟨_,_,h,C9 (.inr ⟨rfl,rfl⟩)⟩
 by_cases e2:x.op=2
 . refine one x.a _ (by simp [C6,e2]) ?_
   rw [A7 (c:=r9) (nt:=27) (rs:=[.tmp 2]) rfl (by simp)]; unfold r9; unfold K0 Ins.F
   simp -implicitDefEqProofs only [eq_true e2,XP,seval]
 by_cases e4:x.op=4
 . refine one x.a _ (by simp [C6,e4]) ?_
   rw [A7 (c:=r9) (nt:=27) (rs:=[.tmp 2]) rfl (by simp)]; unfold r9; unfold K0 Ins.F
   simp -implicitDefEqProofs only [eq_false e2,eq_true e4,XP,seval]
 by_cases e5:x.op=5
 . refine one x.a _ (by simp [C6,e5]) ?_
   rw [A7 (c:=r9) (nt:=27) (rs:=[.tmp 2]) rfl (by simp)]; unfold r9; unfold K0 Ins.F
   simp -implicitDefEqProofs only [eq_false e2,eq_false e4,eq_true e5,XP,seval]
 by_cases e8:x.op=8
 . refine one x.a _ (by simp [C6,e8]) ?_
   rw [A7 (c:=r9) (nt:=27) (rs:=[.tmp 2]) rfl (by simp)]; unfold r9; unfold K0 Ins.F
   simp -implicitDefEqProofs only [eq_false e2,eq_false e4,eq_false e5,eq_true e8,XP,seval]
 by_cases e11:x.op=11
 . refine one x.a _ (by simp [C6,e11]) ?_
   rw [A7 (c:=r9) (nt:=27) (rs:=[.tmp 2]) rfl (by simp)]; unfold r9; unfold K0 Ins.F
   simp -implicitDefEqProofs only [eq_false e2,eq_false e4,eq_false e5,eq_false e8,eq_true e11,XP,seval]
 by_cases e3:x.op=3
 . refine two x.a x.b _ (by simp [C6,e3]) ?_
   rw [A7 (c:=r9) (nt:=27) (rs:=[.tmp 2]) rfl (by simp)]; unfold r9; unfold K0 Ins.F
   simp -implicitDefEqProofs only [eq_false e2,eq_false e4,eq_false e5,eq_false e8,eq_false e11,eq_true e3,XP,seval]
 by_cases e6:x.op=6
 . refine two x.a x.b _ (by simp [C6,e6]) ?_
   rw [A7 (c:=r9) (nt:=27) (rs:=[.tmp 2]) rfl (by simp)]; unfold r9; unfold K0 Ins.F
   simp -implicitDefEqProofs only [eq_false e2,eq_false e4,eq_false e5,eq_false e8,eq_false e11,eq_false e3,eq_true e6,XP,seval]
 by_cases e9:x.op=9
 . rw [show C6 x=x.args by simp [C6,e9]]
   refine ⟨[.msl 0 0 x.args.length 1],⟨[.row 0 (ints x.args) 1],0,[]⟩,?_,C9 (.inr ⟨by rw [List.length_map],rfl⟩)⟩
   rw [A7 (c:=r9) (nt:=27) (rs:=[.tmp 2]) rfl (by simp)]; unfold r9; unfold K0 Ins.F
   have t:∀ {K:PK},evP ⟨A0,T,A2⟩ (.call 70 [fslN (ints x.args)] K)=some (.val (openTs K.os.length [ownd 0 1 (ints x.args)]).1 ⟨K.os ++ (openTs K.os.length [ownd 0 1 (ints x.args)]).2,K.ext,K.tch⟩):=B5 hCloneInts (by simp -implicitDefEqProofs only [frzL_ints,XP,seval]) (Y3 hk) rfl
   simp -implicitDefEqProofs only [eq_false e2,eq_false e4,eq_false e5,eq_false e8,eq_false e11,eq_false e3,eq_false e6,eq_true e9,t,List.length_map,XP,seval]
 . rw [show C6 x=[] by simp [C6,e2,e4,e5,e8,e11,e3,e6,e9]]
   refine ⟨[.nilsl],⟨[],0,[]⟩,?_,C9 (.inl ⟨rfl,rfl,rfl⟩)⟩
   rw [A7 (c:=r9) (nt:=27) (rs:=[.tmp 2]) rfl (by simp)]; unfold r9; unfold K0 Ins.F
   simp -implicitDefEqProofs only [eq_false e2,eq_false e4,eq_false e5,eq_false e8,eq_false e11,eq_false e3,eq_false e6,eq_false e9,XP,seval]
def s5:=U4 (fun p:(Ins)=>[p.F]) (fun p=>[ownd 0 1 (ints (C6 p))]) (fun p=>p.ok)
theorem gY (hir_Reads:T 170=some s5) {x:Ins} {K:PK} (hk:x.ok):evP ⟨A0,T,A2⟩ (.call 170 [x.F] K)=some (.val (openTs K.os.length [ownd 0 1 (ints (C6 x))]).1 ⟨K.os ++ (openTs K.os.length [ownd 0 1 (ints (C6 x))]).2,K.ext,K.tch⟩):=B5 hir_Reads (by simp -implicitDefEqProofs only [VV,XP,seval]) (C0 (a:=fun p:(Ins)=>[p.F]) (r:=fun p=>[ownd 0 1 (ints (C6 p))]) (fun x y e=>by simp only [VJ] at e; simp only [e]) (x) hk) (by simp -implicitDefEqProofs only [VN,XP,seval])
theorem Yt (hCloneInts:T 70=some E2) (hP:PEok ⟨A0,T,A2⟩):TC A0 170 s5:=C1 hP fun p h=>Ot hCloneInts h
end Go.Proofs.AmEnv
set_option maxRecDepth 100000
namespace Go.Proofs.AmEnv
open Go Go.AM
variable {T:Nat->Option (List AV->Option (List AV))}
def idxOf {X:Type} (p:X->Bool) (l:List X):Int:=match l.findIdx? p with | some i=>(i:Int) | none=>-1
theorem idx_loop {P:PE} {c:PC} {X:Type} {p:X->Bool} {l:List X} {S:Nat->PF} {K:PK}
 (h1:∀ i (h:i < l.length),p l[i]=false->evP P (.code c (S i) K)=some (.ok .normal (S (i + 1)) K))
 (h2:∀ i (h:i < l.length),p l[i]=true->∃ fr',evP P (.code c (S i) K)=some (.ok .ret fr' K)∧lookP fr' 4=.int .i64 (i:Int))
 (hx:∃ fr',evP P (.code c (S l.length) K)=some (.ok (.exit 0) fr' K)) :
 (∃ i:Nat,idxOf p l=i∧∃ fr',evP P (.code (.loop c) (S 0) K)=some (.ok .ret fr' K)∧lookP fr' 4=.int .i64 (i:Int))∨(idxOf p l=-1∧∃ fr',evP P (.code (.loop c) (S 0) K)=some (.ok (.exit 0) fr' K)):=by
 have key:∀ (n i:Nat),l.length=i + n->(∀ j (hj:j < l.length),j < i->p l[j]=false)->(∃ k:Nat,idxOf p l=k∧∃ fr',evP P (.code (.loop c) (S i) K)=some (.ok .ret fr' K)∧lookP fr' 4=.int .i64 (k:Int))∨(idxOf p l=-1∧∃ fr',evP P (.code (.loop c) (S i) K)=some (.ok (.exit 0) fr' K)):=fun n=>by
  induction n with
  | zero =>
   intro i e hp
   obtain rfl:i=l.length:=by omega
   obtain ⟨fr',h⟩:=hx
   refine .inr ⟨?_,fr',loop_exit h⟩
   unfold idxOf
   have:l.findIdx? p=none:=by
    rw [List.findIdx?_eq_none_iff]
    intro x hm
    obtain ⟨j,hj,rfl⟩:=List.getElem_of_mem hm
    exact hp j hj hj
   rw [this]
  | succ n ih =>
   intro i e hp
   have hl:i < l.length:=by omega
   cases hq:p l[i] with
   | false =>
    rw [loop_more (h1 i hl hq)]
    refine ih (i + 1) (by omega) fun j hj hji=>?_
    by_cases he:j=i
    . subst he; exact hq
    . exact hp j hj (by omega)
   | true =>
    obtain ⟨fr',q1,q2⟩:=h2 i hl hq
    refine .inl ⟨i,?_,fr',S9 q1,q2⟩
    unfold idxOf
    have:l.findIdx? p=some i:=by
     rw [List.findIdx?_eq_some_iff_getElem]
     exact ⟨hl,hq,fun j hj=>by simpa using hp j (by omega) hj⟩
    rw [this]
 exact key l.length 0 (by omega) fun j hj h=>absurd h (by omega)
theorem eG {X:Type} {p:X->Bool} {l:List X}:decide (0≤idxOf p l)=l.any p:=by
 unfold idxOf
 cases h:l.findIdx? p with
 | none =>
  rw [List.findIdx?_eq_none_iff] at h
  have:l.any p=false:=by rw [List.any_eq_false]; intro x hx; simp [h x hx]
  rw [this]; rfl
 | some i =>
  rw [List.findIdx?_eq_some_iff_getElem] at h
  obtain ⟨h1,h2,_⟩:=h
  have:l.any p=true:=List.any_eq_true.2 ⟨_,List.getElem_mem h1,h2⟩
  rw [this]; simp
section
variable {l:List Int} {i:Nat} {v:Int}
theorem BR (h:i < l.length) (hs:l.length≤bigN) (hp:decide (v=l[i])=false):evP ⟨A0,T,A2⟩ (.code n8 [(0,fslN (ints l)),(1,.int .i64 v),(7,.int .i64 (l.length:Int)),(8,.int .i64 (i:Int))] ⟨[],0,[]⟩)=some (.ok .normal [(0,fslN (ints l)),(1,.int .i64 v),(7,.int .i64 (l.length:Int)),(8,.int .i64 ((i + 1:Nat):Int))] ⟨[],0,[]⟩):=by
 unfold n8
 have hlt:decide ((i:Int) < (l.length:Int))=true:=by simp [h]
 have hw:=A9 (i:=i) (by simp only [bigN] at hs; omega)
 simp -implicitDefEqProofs only [hlt,D3 h,hw,hp,XP,seval]
theorem BS (h:i < l.length) (hp:decide (v=l[i])=true):∃ fr',evP ⟨A0,T,A2⟩ (.code n8 [(0,fslN (ints l)),(1,.int .i64 v),(7,.int .i64 (l.length:Int)),(8,.int .i64 (i:Int))] ⟨[],0,[]⟩)=some (.ok .ret fr' ⟨[],0,[]⟩)∧lookP fr' 4=.int .i64 (i:Int):=by
 unfold n8
 have hlt:decide ((i:Int) < (l.length:Int))=true:=by simp [h]
 simp -implicitDefEqProofs only [hlt,D3 h,hp,XP,seval]
 exact ⟨_,rfl,rfl⟩
theorem BT:∃ fr',evP ⟨A0,T,A2⟩ (.code n8 [(0,fslN (ints l)),(1,.int .i64 v),(7,.int .i64 (l.length:Int)),(8,.int .i64 (l.length:Int))] ⟨[],0,[]⟩)=some (.ok (.exit 0) fr' ⟨[],0,[]⟩):=by
 unfold n8
 have hlt:decide ((l.length:Int) < (l.length:Int))=false:=by simp
 simp -implicitDefEqProofs only [hlt,XP,seval]
 exact ⟨_,rfl⟩
theorem Rh  {l:List Int} {v:Int} (hk:l.length≤bigN):AM.Comes ⟨A0,T,A2⟩ 264 [fslN (ints l),.int .i64 v] [.int .i64 (idxOf (fun n=>decide (v=n)) l)]:=by
 refine ⟨[.int .i64 (idxOf (fun n=>decide (v=n)) l)],⟨[],0,[]⟩,?_,B4 rfl List.nodup_nil rfl rfl rfl⟩
 rw [A7 (c:=pG) (nt:=19) (rs:=[.tmp 4]) rfl (by simp)]; unfold pG
 unfold K0
 rcases idx_loop (P:=⟨A0,T,A2⟩) (c:=n8) (p:=fun n=>decide (v=n)) (l:=l) (S:=fun i=>[(0,fslN (ints l)),(1,.int .i64 v),(7,.int .i64 (l.length:Int)),(8,.int .i64 (i:Int))]) (K:=⟨[],0,[]⟩) (fun i h hp=>BR h hk hp) (fun i h hp=>BS h hp) BT with ⟨i,e,fr',h1,h2⟩ | ⟨e,fr',h1⟩
 . have h1:evP ⟨A0,T,A2⟩ (.code (.loop n8) [(0,fslN (ints l)),(1,.int .i64 v),(7,.int .i64 (l.length:Int)),(8,.int .i64 0)] ⟨[],0,[]⟩)=_:=h1
   simp -implicitDefEqProofs only [h1,h2,e,List.length_map,XP,seval]
 . have h1:evP ⟨A0,T,A2⟩ (.code (.loop n8) [(0,fslN (ints l)),(1,.int .i64 v),(7,.int .i64 (l.length:Int)),(8,.int .i64 0)] ⟨[],0,[]⟩)=_:=h1
   simp -implicitDefEqProofs only [h1,e,List.length_map,XP,seval]
def Bp:=U4 (fun p:(List Int) × (Int)=>[fslN (ints p.1),.int .i64 p.2]) (fun p=>[.int .i64 (idxOf (fun n=>decide (p.2=n)) p.1)]) (fun p=>p.1.length≤bigN)
theorem lA (hIdxInts:T 264=some Bp) {l:List Int} {v:Int} {K:PK} (hk:l.length≤bigN):evP ⟨A0,T,A2⟩ (.call 264 [fslN (ints l),.int .i64 v] K)=some (.val (openTs K.os.length [.int .i64 (idxOf (fun n=>decide (v=n)) l)]).1 ⟨K.os ++ (openTs K.os.length [.int .i64 (idxOf (fun n=>decide (v=n)) l)]).2,K.ext,K.tch⟩):=B5 hIdxInts (by simp -implicitDefEqProofs only [VV,XP,seval]) (C0 (a:=fun p:(List Int) × (Int)=>[fslN (ints p.1),.int .i64 p.2]) (r:=fun p=>[.int .i64 (idxOf (fun n=>decide (p.2=n)) p.1)]) (fun x y e=>by simp only [VJ] at e; simp only [e]) (l,v) hk) (by simp -implicitDefEqProofs only [VN,XP,seval])
theorem bV  (hP:PEok ⟨A0,T,A2⟩):TC A0 264 Bp:=C1 hP fun p h=>Rh  h
theorem Ou (hIdxInts:T 264=some Bp) {l:List Int} {v:Int} (hk:l.length≤bigN):AM.Comes ⟨A0,T,A2⟩ 246 [fslN (ints l),.int .i64 v] [.bool (l.any fun n=>decide (v=n))]:=by
 refine ⟨[.bool (l.any fun n=>decide (v=n))],⟨[],0,[]⟩,?_,B4 rfl List.nodup_nil rfl rfl rfl⟩
 rw [A7 (c:=pA) (nt:=9) (rs:=[.tmp 4]) rfl (by simp)]; unfold pA
 unfold K0
 rw [← eG]
 have t:=fun K=>lA (K:=K) (v:=v) hIdxInts hk
 simp -implicitDefEqProofs only [t,XP,seval]
def Z3:=U4 (fun p:(List Int) × (Int)=>[fslN (ints p.1),.int .i64 p.2]) (fun p=>[.bool (p.1.any fun n=>decide (p.2=n))]) (fun p=>p.1.length≤bigN)
theorem Yu (hIdxInts:T 264=some Bp) (hP:PEok ⟨A0,T,A2⟩):TC A0 246 Z3:=C1 hP fun p h=>Ou hIdxInts h
end
section
variable {l:List Int} {i:Nat}
theorem BU (hN:T 175=some C4) (h:i < l.length) (hs:l.length≤bigN) (hp:(!E5 l[i])=false):evP ⟨A0,T,A2⟩ (.code m6 [(0,fslN (ints l)),(1,.fn (.func 175) [] []),(7,.int .i64 (l.length:Int)),(8,.int .i64 (i:Int))] ⟨[],0,[]⟩)=some (.ok .normal [(0,fslN (ints l)),(1,.fn (.func 175) [] []),(7,.int .i64 (l.length:Int)),(8,.int .i64 ((i + 1:Nat):Int))] ⟨[],0,[]⟩):=by
 unfold m6
 have hlt:decide ((i:Int) < (l.length:Int))=true:=by simp [h]
 have hw:=A9 (i:=i) (by simp only [bigN] at hs; omega)
 simp -implicitDefEqProofs only [hlt,D3 h,hw,c8 hN,hp,XP,seval]
theorem BV (hN:T 175=some C4) (h:i < l.length) (hp:(!E5 l[i])=true):∃ fr',evP ⟨A0,T,A2⟩ (.code m6 [(0,fslN (ints l)),(1,.fn (.func 175) [] []),(7,.int .i64 (l.length:Int)),(8,.int .i64 (i:Int))] ⟨[],0,[]⟩)=some (.ok .ret fr' ⟨[],0,[]⟩)∧lookP fr' 4=.int .i64 (i:Int):=by
 unfold m6
 have hlt:decide ((i:Int) < (l.length:Int))=true:=by simp [h]
 simp -implicitDefEqProofs only [hlt,D3 h,c8 hN,hp,XP,seval]
 exact ⟨_,rfl,rfl⟩
theorem BW:∃ fr',evP ⟨A0,T,A2⟩ (.code m6 [(0,fslN (ints l)),(1,.fn (.func 175) [] []),(7,.int .i64 (l.length:Int)),(8,.int .i64 (l.length:Int))] ⟨[],0,[]⟩)=some (.ok (.exit 0) fr' ⟨[],0,[]⟩):=by
 unfold m6
 have hlt:decide ((l.length:Int) < (l.length:Int))=false:=by simp
 simp -implicitDefEqProofs only [hlt,XP,seval]
 exact ⟨_,rfl⟩
theorem Ri (hN:T 175=some C4) (hI:T 221=none) (hs:l.length≤bigN) (K:PK):evP ⟨A0,T,A2⟩ (.call 221 [fslN (ints l),.fn (.func 175) [] []] K)=some (.val [.int .i64 (idxOf (fun n=>!E5 n) l)] K):=by
 refine Wu (tch:=[]) hI rfl rfl rfl ?_ rfl
 rw [A7 (c:=oT) (nt:=19) (rs:=[.tmp 4]) rfl (by simp)]; unfold oT
 rcases idx_loop (P:=⟨A0,T,A2⟩) (c:=m6) (p:=fun n=>!E5 n) (l:=l) (S:=fun i=>[(0,fslN (ints l)),(1,.fn (.func 175) [] []),(7,.int .i64 (l.length:Int)),(8,.int .i64 (i:Int))]) (K:=⟨[],0,[]⟩) (fun i h hp=>BU hN h hs hp) (fun i h hp=>BV hN h hp) BW with ⟨i,e,fr',h1,h2⟩ | ⟨e,fr',h1⟩
 . have h1:evP ⟨A0,T,A2⟩ (.code (.loop m6) [(0,fslN (ints l)),(1,.fn (.func 175) [] []),(7,.int .i64 (l.length:Int)),(8,.int .i64 0)] ⟨[],0,[]⟩)=_:=h1
   simp -implicitDefEqProofs only [h1,h2,e,List.length_map,XP,seval]
 . have h1:evP ⟨A0,T,A2⟩ (.code (.loop m6) [(0,fslN (ints l)),(1,.fn (.func 175) [] []),(7,.int .i64 (l.length:Int)),(8,.int .i64 0)] ⟨[],0,[]⟩)=_:=h1
   simp -implicitDefEqProofs only [h1,e,List.length_map,XP,seval]
theorem Ov (hN:T 175=some C4) (hI:T 221=none) (hC:T 174=none) (hs:l.length≤bigN) (K:PK):evP ⟨A0,T,A2⟩ (.call 174 [fslN (ints l),.fn (.func 175) [] []] K)=some (.val [.bool (l.any fun n=>!E5 n)] K):=by
 refine Wu (tch:=[]) hC rfl rfl rfl ?_ rfl
 rw [← eG]
 have t:=fun K=>Ri hN hI hs K
 rw [A7 (c:=oJ) (nt:=9) (rs:=[.tmp 4]) rfl (by simp)]; unfold oJ
 simp -implicitDefEqProofs only [t,XP,seval]
end
section
variable {l:List Cod} {i:Nat}
theorem BX (hN:T 178=some I7) (h:i < l.length) (hs:l.length≤bigN) (hp:decide (l[i].name=B2)=false):evP ⟨A0,T,A2⟩ (.code m4 [(0,fslN (l.map Cod.F)),(1,.fn (.func 178) [] []),(7,.int .i64 (l.length:Int)),(8,.int .i64 (i:Int))] ⟨[],0,[]⟩)=some (.ok .normal [(0,fslN (l.map Cod.F)),(1,.fn (.func 178) [] []),(7,.int .i64 (l.length:Int)),(8,.int .i64 ((i + 1:Nat):Int))] ⟨[],0,[]⟩):=by
 unfold m4
 have hlt:decide ((i:Int) < (l.length:Int))=true:=by simp [h]
 have hw:=A9 (i:=i) (by simp only [bigN] at hs; omega)
 have hi:=B1 (F:=Cod.F) h
 have t:=fun K=>Gf (K:=K) (c:=l[i]) hN
 simp only [Cod.F] at hi t
 simp -implicitDefEqProofs only [hlt,hi,hw,t,hp,XP,seval]
theorem BY (hN:T 178=some I7) (h:i < l.length) (hp:decide (l[i].name=B2)=true):∃ fr',evP ⟨A0,T,A2⟩ (.code m4 [(0,fslN (l.map Cod.F)),(1,.fn (.func 178) [] []),(7,.int .i64 (l.length:Int)),(8,.int .i64 (i:Int))] ⟨[],0,[]⟩)=some (.ok .ret fr' ⟨[],0,[]⟩)∧lookP fr' 4=.int .i64 (i:Int):=by
 unfold m4
 have hlt:decide ((i:Int) < (l.length:Int))=true:=by simp [h]
 have hi:=B1 (F:=Cod.F) h
 have t:=fun K=>Gf (K:=K) (c:=l[i]) hN
 simp only [Cod.F] at hi t
 simp -implicitDefEqProofs only [hlt,hi,t,hp,XP,seval]
 exact ⟨_,rfl,rfl⟩
theorem BZ:∃ fr',evP ⟨A0,T,A2⟩ (.code m4 [(0,fslN (l.map Cod.F)),(1,.fn (.func 178) [] []),(7,.int .i64 (l.length:Int)),(8,.int .i64 (l.length:Int))] ⟨[],0,[]⟩)=some (.ok (.exit 0) fr' ⟨[],0,[]⟩):=by
 unfold m4
 have hlt:decide ((l.length:Int) < (l.length:Int))=false:=by simp
 simp -implicitDefEqProofs only [hlt,XP,seval]
 exact ⟨_,rfl⟩
theorem Rj (hN:T 178=some I7) (hI:T 162=none) (hs:l.length≤bigN) (K:PK):evP ⟨A0,T,A2⟩ (.call 162 [fslN (l.map Cod.F),.fn (.func 178) [] []] K)=some (.val [.int .i64 (idxOf (fun c:Cod=>decide (c.name=B2)) l)] K):=by
 refine Wu (tch:=[]) hI rfl rfl rfl ?_ rfl
 rw [A7 (c:=oI) (nt:=19) (rs:=[.tmp 4]) rfl (by simp)]; unfold oI
 rcases idx_loop (P:=⟨A0,T,A2⟩) (c:=m4) (p:=fun c:Cod=>decide (c.name=B2)) (l:=l) (S:=fun i=>[(0,fslN (l.map Cod.F)),(1,.fn (.func 178) [] []),(7,.int .i64 (l.length:Int)),(8,.int .i64 (i:Int))]) (K:=⟨[],0,[]⟩) (fun i h hp=>BX hN h hs hp) (fun i h hp=>BY hN h hp) BZ with ⟨i,e,fr',h1,h2⟩ | ⟨e,fr',h1⟩
 . have h1:evP ⟨A0,T,A2⟩ (.code (.loop m4) [(0,fslN (l.map Cod.F)),(1,.fn (.func 178) [] []),(7,.int .i64 (l.length:Int)),(8,.int .i64 0)] ⟨[],0,[]⟩)=_:=h1
   simp -implicitDefEqProofs only [h1,h2,e,List.length_map,XP,seval]
 . have h1:evP ⟨A0,T,A2⟩ (.code (.loop m4) [(0,fslN (l.map Cod.F)),(1,.fn (.func 178) [] []),(7,.int .i64 (l.length:Int)),(8,.int .i64 0)] ⟨[],0,[]⟩)=_:=h1
   simp -implicitDefEqProofs only [h1,e,List.length_map,XP,seval]
theorem Kx (hir_mainOf_1:T 178=some I7) (nIdxCodes:T 162=none) {m:Modl} (hk:m.fs.length≤bigN):AM.Comes ⟨A0,T,A2⟩ 113 [m.F] [.int .i64 (idxOf (fun c:Cod=>decide (c.name=B2)) m.fs)]:=by
 refine ⟨[.int .i64 (idxOf (fun c:Cod=>decide (c.name=B2)) m.fs)],⟨[],0,[]⟩,?_,B4 rfl List.nodup_nil rfl rfl rfl⟩
 rw [A7 (c:=oB) (nt:=6) (rs:=[.tmp 2]) rfl (by simp)]; unfold oB
 unfold K0
 unfold Modl.F
 have t:=fun K=>Rj hir_mainOf_1 nIdxCodes hk K
 simp -implicitDefEqProofs only [t,XP,seval]
def c9:=U4 (fun p:(Modl)=>[p.F]) (fun p=>[.int .i64 (idxOf (fun c:Cod=>decide (c.name=B2)) p.fs)]) (fun p=>p.fs.length≤bigN)
theorem bW (hir_mainOf:T 113=some c9) {m:Modl} {K:PK} (hk:m.fs.length≤bigN):evP ⟨A0,T,A2⟩ (.call 113 [m.F] K)=some (.val (openTs K.os.length [.int .i64 (idxOf (fun c:Cod=>decide (c.name=B2)) m.fs)]).1 ⟨K.os ++ (openTs K.os.length [.int .i64 (idxOf (fun c:Cod=>decide (c.name=B2)) m.fs)]).2,K.ext,K.tch⟩):=B5 hir_mainOf (by simp -implicitDefEqProofs only [VV,XP,seval]) (C0 (a:=fun p:(Modl)=>[p.F]) (r:=fun p=>[.int .i64 (idxOf (fun c:Cod=>decide (c.name=B2)) p.fs)]) (fun x y e=>by simp only [VJ] at e; simp only [e]) (m) hk) (by simp -implicitDefEqProofs only [VN,XP,seval])
theorem Vn (hir_mainOf_1:T 178=some I7) (nIdxCodes:T 162=none) (hP:PEok ⟨A0,T,A2⟩):TC A0 113 c9:=C1 hP fun p h=>Kx hir_mainOf_1 nIdxCodes h
end
end Go.Proofs.AmEnv
set_option maxRecDepth 100000
namespace Go.Proofs.AmEnv
open Go Go.AM
variable {T:Nat->Option (List AV->Option (List AV))}
def Io (p s:List UInt8):Bool:=Nat.ble (X1 s) 4000000000 || oneB p
def N8 (args:List AV):Option (List AV):=match args with | [.str s,.str p]=>if Io p s=true then some [.bool (contS p s)] else none | _=>none
theorem Vo {s p:List UInt8} (h:Io p s=true):N8 [.str s,.str p]=some [.bool (contS p s)]:=if_pos h
theorem Ip (hT:T 245=some N8) {s p:List UInt8} {K:PK} (h:Io p s=true):evP ⟨A0,T,A2⟩ (.call 245 [.str s,.str p] K)=some (.val [.bool (contS p s)] ⟨K.os ++ [],K.ext,K.tch⟩):=B5 hT rfl (Vo h) rfl
theorem Lv {t:Nat} {a b:List UInt8} {K:PK} (h:a.length + b.length≤4611686018427387904):R1 A0 .add t (.str a) (.str b) K=.val (.str (a ++ b)) K:=by
 rw [bp _ _ rfl rfl]
 show Ce (bif Nat.ble (Nat.add (X1 a) (X1 b)) 4611686018427387904 then some (AV.str (a ++ b)) else none) K=_
 rw [Y0,Y0,show Nat.ble (Nat.add a.length b.length) 4611686018427387904=true from Nat.ble_eq_true_of_le h]; rfl
def Ow:List UInt8:=[32,43,32,45,32,42,32,47,32,37,32,38,32,124,32,94,32,60,60,32,62,62,32,61,61,32,33,61,32,60,32,60,61,32,62,32,62,61,32]
def Ox:List UInt8:=[32,61,61,32,33,61,32,60,32,60,61,32,62,32,62,61,32]
def Gg (x:Ins):Bool:=if x.op=3 then !decide (x.s=[]) && (!contS [32] x.s && contS (32 :: (x.s ++ [32])) Ow) else if x.op=4 then decide (1≤x.ty) && decide (x.ty≤3) else decide (1≤x.op) && decide (x.op≤11)
theorem Rk (hstrings_Contains:T 245=some N8) {x:Ins} (hk:x.s.length≤bigN):AM.Comes ⟨A0,T,A2⟩ 222 [x.F] [.bool (Gg x)]:=by
 refine ⟨[.bool (Gg x)],⟨[],0,[]⟩,?_,B4 rfl List.nodup_nil rfl rfl rfl⟩
 rw [A7 (c:=oU) (nt:=41) (rs:=[.tmp 2]) rfl (by simp)]; unfold oU
 unfold K0
 have d1:∀ K:PK,R1 A0 .add 9 (.str [32]) (.str x.s) K=.val (.str (32 :: x.s)) K:=fun K=>Lv (by simp only [bigN] at hk; simp; omega)
 have d2:∀ K:PK,R1 A0 .add 9 (.str (32 :: x.s)) (.str [32]) K=.val (.str (32 :: (x.s ++ [32]))) K:=fun K=>Lv (by simp only [bigN] at hk; simp; omega)
 have c1:=fun K=>Ip (K:=K) (s:=x.s) (p:=[32]) hstrings_Contains (by unfold Io; rw [show oneB [32]=true from rfl,Bool.or_true])
 have c2:=fun K=>Ip (K:=K) (s:=Ow) (p:=32 :: (x.s ++ [32])) hstrings_Contains (by unfold Io; rfl)
 unfold Ins.F Gg
 unfold Ow at c2 ⊢
 by_cases e3:x.op=3
 . by_cases q1:x.s=[]
   . simp -implicitDefEqProofs only [eq_true e3,eq_true q1,Bool.false_and,XP,seval]
   cases q2:contS [32] x.s with
   | true=>simp -implicitDefEqProofs only [eq_true e3,eq_false q1,c1,q2,Bool.false_and,Bool.and_false,XP,seval]
   | false=>simp -implicitDefEqProofs only [eq_true e3,eq_false q1,c1,q2,d1,d2,c2,XP,seval]
 by_cases e4:x.op=4
 . by_cases q1:1≤x.ty
   . simp -implicitDefEqProofs only [eq_false e3,eq_true e4,eq_true q1,XP,seval]
   . simp -implicitDefEqProofs only [eq_false e3,eq_true e4,eq_false q1,Bool.false_and,XP,seval]
 . by_cases q1:1≤x.op
   . simp -implicitDefEqProofs only [eq_false e3,eq_false e4,eq_true q1,XP,seval]
   . simp -implicitDefEqProofs only [eq_false e3,eq_false e4,eq_false q1,Bool.false_and,XP,seval]
def Bq:=U4 (fun p:(Ins)=>[p.F]) (fun p=>[.bool (Gg p)]) (fun p=>p.s.length≤bigN)
theorem lB (hir_form:T 222=some Bq) {x:Ins} {K:PK} (hk:x.s.length≤bigN):evP ⟨A0,T,A2⟩ (.call 222 [x.F] K)=some (.val (openTs K.os.length [.bool (Gg x)]).1 ⟨K.os ++ (openTs K.os.length [.bool (Gg x)]).2,K.ext,K.tch⟩):=B5 hir_form (by simp -implicitDefEqProofs only [VV,XP,seval]) (C0 (a:=fun p:(Ins)=>[p.F]) (r:=fun p=>[.bool (Gg p)]) (fun x y e=>by simp only [VJ] at e; simp only [e]) (x) hk) (by simp -implicitDefEqProofs only [VN,XP,seval])
theorem bX (hstrings_Contains:T 245=some N8) (hP:PEok ⟨A0,T,A2⟩):TC A0 222 Bq:=C1 hP fun p h=>Rk hstrings_Contains h
def Q3 (m:Modl) (at_:Int) (arr:Bool):Bool:=thereD at_ m.gs.length && (match m.gs[at_.toNat]? with | some g=>decide (0 < g.size) == arr | none=>false)
theorem eH (t:Nat) (h:J6 A0 t=J6 A0 4) (a b:Bool) (K:PK):R1 A0 .eql t (.bool a) (.bool b) K=.val (.bool (a == b)) K:=by
 rw [bp _ _ rfl rfl,h]; cases a <;> cases b <;> rfl
theorem F1 {a n:Int} (h:thereD a n=true):∃ k:Nat,a=k∧(k:Int) < n:=by
 unfold thereD at h
 rw [Bool.and_eq_true] at h
 have h0:=of_decide_eq_true h.1
 have h1:=of_decide_eq_true h.2
 obtain ⟨k,rfl⟩:=Int.eq_ofNat_of_zero_le h0
 exact ⟨k,rfl,h1⟩
theorem s8 (hir_there:T 225=some G3) {m:Modl} {c:Cod} {a:Int} {arr:Bool}:AM.Comes ⟨A0,T,A2⟩ 247 [chkF m c,.int .i64 a,.bool arr] [.bool (Q3 m a arr)]:=by
 refine ⟨[.bool (Q3 m a arr)],⟨[],0,[]⟩,?_,B4 rfl List.nodup_nil rfl rfl rfl⟩
 rw [A7 (c:=pB) (nt:=25) (rs:=[.tmp 6]) rfl (by simp)]; unfold pB
 unfold K0
 have t:=fun K=>Z0 (K:=K) (a:=a) (n:=m.gs.length) hir_there
 have eb:=eH 4 rfl
 unfold chkF Q3
 cases ht:thereD a m.gs.length with
 | false=>rw [ht] at t; simp -implicitDefEqProofs only [t,List.length_map,Bool.false_and,XP,seval]
 | true =>
  obtain ⟨k,rfl,hk⟩:=F1 ht
  have hk:k < m.gs.length:=by omega
  rw [ht] at t
  have hi:=B1 (F:=Glo.F) hk
  simp only [Glo.F] at hi
  rw [show ((k:Int)).toNat=k from rfl,List.getElem?_eq_getElem hk]
  simp -implicitDefEqProofs only [t,List.length_map,hi,eb,XP,seval]
def D2:=U4 (fun p:(Modl) × (Cod) × (Int) × (Bool)=>[chkF p.1 p.2.1,.int .i64 p.2.2.1,.bool p.2.2.2]) (fun p=>[.bool (Q3 p.1 p.2.2.1 p.2.2.2)]) (fun p=>True)
theorem Eh (hir_checker_global:T 247=some D2) {m:Modl} {c:Cod} {a:Int} {arr:Bool} {K:PK}:evP ⟨A0,T,A2⟩ (.call 247 [chkF m c,.int .i64 a,.bool arr] K)=some (.val (openTs K.os.length [.bool (Q3 m a arr)]).1 ⟨K.os ++ (openTs K.os.length [.bool (Q3 m a arr)]).2,K.ext,K.tch⟩):=B5 hir_checker_global (by simp -implicitDefEqProofs only [VV,XP,seval]) (C0 (a:=fun p:(Modl) × (Cod) × (Int) × (Bool)=>[chkF p.1 p.2.1,.int .i64 p.2.2.1,.bool p.2.2.2]) (r:=fun p=>[.bool (Q3 p.1 p.2.2.1 p.2.2.2)]) (fun x y e=>by simp only [VJ] at e; simp only [e]) (m,c,a,arr) trivial) (by simp -implicitDefEqProofs only [VN,XP,seval])
theorem Br (hir_there:T 225=some G3) (hP:PEok ⟨A0,T,A2⟩):TC A0 247 D2:=C1 hP fun p h=>s8 hir_there
def o9 (l:List Int) (r:Int):Int:=l.getD r.toNat 0
theorem Gh {l:List Int} {k:Nat} (h:k < l.length):(ints l)[k]?=some (.int .i64 (o9 l k)):=by
 rw [D3 h]; unfold o9; simp [h]
theorem Lw {m:Modl} {c:Cod} {r t:Int} {id:Nat} {K:PK} (hN:T 248=none) (hr:thereD r c.regs.length=true) (hK:K.os[id]?=some (.row 1 [chkF m c] 7)) :
 evP ⟨A0,T,A2⟩ (.call 248 [.int .i64 r,.int .i64 t,.ptr id 0 0] K)=some (.val [.bool (decide (o9 c.regs r=t))] K):=by
 obtain ⟨k,rfl,hk⟩:=F1 hr
 have hi:=Gh (show k < c.regs.length by omega)
 rw [Qp hN rfl]
 rw [A7 (c:=pC) (nt:=14) (rs:=[.tmp 5]) rfl (by simp)]; unfold pC
 unfold chkF at hK
 simp -implicitDefEqProofs only [hK,hi,XP,seval]
end Go.Proofs.AmEnv
set_option maxRecDepth 100000
namespace Go.Proofs.AmEnv
open Go Go.AM
variable {T:Nat->Option (List AV->Option (List AV))}
theorem Oy {P:PE} {c:PC} {X:Type} {p:X->Bool} {l:List X} {S:Nat->PF} {K:PK} {x:Nat} {Q:PF->Prop} {R:PF->PK->Prop}
 (h1:∀ i (h:i < l.length),p l[i]=true->evP P (.code c (S i) K)=some (.ok .normal (S (i + 1)) K))
 (h2:∀ i (h:i < l.length),p l[i]=false->∃ fr' K',evP P (.code c (S i) K)=some (.ok .ret fr' K')∧R fr' K')
 (hx:∃ fr',evP P (.code c (S l.length) K)=some (.ok (.exit x) fr' K)∧Q fr') :
 (l.all p=true∧∃ fr',evP P (.code (.loop c) (S 0) K)=some (.ok (.exit x) fr' K)∧Q fr')∨(l.all p=false∧∃ fr' K',evP P (.code (.loop c) (S 0) K)=some (.ok .ret fr' K')∧R fr' K'):=by
 have key:∀ (n i:Nat),l.length=i + n->((l.drop i).all p=true∧∃ fr',evP P (.code (.loop c) (S i) K)=some (.ok (.exit x) fr' K)∧Q fr')∨((l.drop i).all p=false∧∃ fr' K',evP P (.code (.loop c) (S i) K)=some (.ok .ret fr' K')∧R fr' K'):=fun n=>by
  induction n with
  | zero =>
   intro i e
   obtain rfl:i=l.length:=by omega
   obtain ⟨fr',h,q⟩:=hx
   exact .inl ⟨by rw [List.drop_length]; rfl,fr',loop_exit h,q⟩
  | succ n ih =>
   intro i e
   have hl:i < l.length:=by omega
   rw [List.drop_eq_getElem_cons hl,List.all_cons]
   cases hq:p l[i] with
   | true =>
    rw [loop_more (h1 i hl hq),Bool.true_and]
    exact ih (i + 1) (by omega)
   | false =>
    obtain ⟨fr',K',q1,q2⟩:=h2 i hl hq
    exact .inr ⟨rfl,fr',K',S9 q1,q2⟩
 exact key l.length 0 (by omega)
section
variable {m:Modl} {c:Cod} {x:Ins} {fr:PF} {i:Nat} {tch:List Nat}
def Ky:List Int:=[1,2,3,4,5,7,10]
def bY (c:Cod) (x:Ins):Bool:=!((!decide (x.op=9) || decide (0≤writesD x)) && (!decide (writesD x=-1) && !thereD (writesD x) c.regs.length))
def codI (l:List Cod) (i:Int):Cod:=l.getD i.toNat ⟨[],0,0,[],[]⟩
def iT (m:Modl) (c:Cod) (x:Ins):Bool :=
 if x.op=1 then decide (Ke (o9 c.regs x.dst) x.n=x.n) else if x.op=5 then Q3 m x.n true else if x.op=6 then Q3 m x.n true else if x.op=7 then Q3 m x.n false else if x.op=8 then Q3 m x.n false
 else if x.op=9 then thereD x.n m.fs.length && decide ((codI m.fs x.n).ps≤(codI m.fs x.n).regs.length) else true
def Bs (x:Ins):Bool:=(Ky.any fun n=>decide (x.op=n)) && decide (x.dst < 0)
def E3 (m:Modl) (c:Cod) (x:Ins):Bool:=(C6 x).all (fun r=>thereD r c.regs.length) && (bY c x && (!Bs x && iT m c x))
theorem Gi {l:List Cod} {k:Nat} (h:k < l.length):(l.map Cod.F)[k]?=some (codI l k).F:=by
 rw [B1 (F:=Cod.F) h]; unfold codI; simp [h]
set_option maxHeartbeats 4000000 in
theorem tS {w:PO} (h2:lookP fr 2=.ptr 0 0 0) (h3:lookP fr 3=.ptr 1 0 0) (hw:T 182=some N2) (hg:T 247=some D2) (ht:T 225=some G3) (h1:x.op=1->thereD x.dst c.regs.length=true) :
 evP ⟨A0,T,A2⟩ (.code Ga fr ⟨[.row 1 [chkF m c] 7,.row 1 [x.F] 8,w],0,tch⟩)=some (.ok .ret [(4,.bool (iT m c x))] ⟨[],0,[]⟩):=by
 have tw:=fun t v K=>bT (K:=K) (t:=t) (v:=v) hw
 have tg:=fun a b K=>Eh (K:=K) (m:=m) (c:=c) (a:=a) (arr:=b) hg
 have tt:=fun a n K=>Z0 (K:=K) (a:=a) (n:=n) ht
 unfold Ga dW dV dU dT dS kK kJ iT
 unfold Ins.F
 unfold chkF at tg ⊢
 by_cases e1:x.op=1
 . obtain ⟨k,hk,hlt⟩:=F1 (h1 e1)
   have hi:=Gh (show k < c.regs.length by omega)
   rw [hk]
   simp -implicitDefEqProofs only [h2,h3,eq_true e1,tw,hi,XP,seval]
 by_cases e5:x.op=5
 . simp -implicitDefEqProofs only [h2,h3,eq_false e1,eq_true e5,tg,XP,seval]
 by_cases e6:x.op=6
 . simp -implicitDefEqProofs only [h2,h3,eq_false e1,eq_false e5,eq_true e6,tg,XP,seval]
 by_cases e7:x.op=7
 . simp -implicitDefEqProofs only [h2,h3,eq_false e1,eq_false e5,eq_false e6,eq_true e7,tg,XP,seval]
 by_cases e8:x.op=8
 . simp -implicitDefEqProofs only [h2,h3,eq_false e1,eq_false e5,eq_false e6,eq_false e7,eq_true e8,tg,XP,seval]
 by_cases e9:x.op=9
 . cases ht:thereD x.n m.fs.length with
   | false=>simp -implicitDefEqProofs only [h2,h3,eq_false e1,eq_false e5,eq_false e6,eq_false e7,eq_false e8,eq_true e9,tt,ht,List.length_map,Bool.false_and,XP,seval]
   | true =>
    obtain ⟨k,hk,hlt⟩:=F1 ht
    have hi:=Gi (show k < m.fs.length by omega)
    simp only [Cod.F] at hi
    rw [hk] at ht ⊢
    simp -implicitDefEqProofs only [h2,h3,eq_false e1,eq_false e5,eq_false e6,eq_false e7,eq_false e8,eq_true e9,tt,ht,List.length_map,hi,XP,seval]
 . simp -implicitDefEqProofs only [h2,h3,eq_false e1,eq_false e5,eq_false e6,eq_false e7,eq_false e8,eq_false e9,XP,seval]
end
end Go.Proofs.AmEnv
set_option maxRecDepth 100000
namespace Go.Proofs.AmEnv
open Go Go.AM
variable {T:Nat->Option (List AV->Option (List AV))}
section
variable {m:Modl} {c:Cod} {x:Ins} {fr:PF} {i:Nat} {L:List Int}
set_option maxHeartbeats 4000000 in
theorem CA (h2:lookP fr 2=.ptr 0 0 0) (h3:lookP fr 3=.ptr 1 0 0) (hw:T 182=some N2) (hg:T 247=some D2) (ht:T 225=some G3) (hc:T 246=some Z3) (h1:x.op=1->¬ x.dst < 0->thereD x.dst c.regs.length=true) :
 evP ⟨A0,T,A2⟩ (.code Lt fr ⟨[.row 1 [chkF m c] 7,.row 1 [x.F] 8],0,[]⟩)=some (.ok .ret [(4,.bool (!Bs x && iT m c x))] ⟨[],0,[]⟩):=by
 have tc:∀ K:PK,K.os[2]?=some (.row 0 (ints Ky) 1)->evP ⟨A0,T,A2⟩ (.call 246 [.msl 2 0 7 1,.int .i64 x.op] K)=some (.val [.bool (Ky.any fun n=>decide (x.op=n))] ⟨K.os ++ [],K.ext,K.tch⟩):=fun K hK=>B5 hc (by
  simp only [Ky,ints,List.map] at hK
  simp -implicitDefEqProofs only [hK,Ky,XP,seval]
  rfl) (C0 (a:=fun p:List Int × Int=>[fslN (ints p.1),.int .i64 p.2]) (r:=fun p=>[.bool (p.1.any fun n=>decide (p.2=n))]) (fun x y e=>by simp only [List.cons.injEq,fslN_iff,ints_iff,AV.int.injEq,true_and,and_true] at e; simp only [e]) (Ky,x.op) (by show Ky.length≤bigN; decide)) rfl
 unfold Lt kI Bs
 cases ha:(Ky.any fun n=>decide (x.op=n)) with
 | false =>
  rw [Bool.false_and]
  rw [ha] at tc
  have sw:∀ (fr:PF) (tch:List Nat),lookP fr 2=.ptr 0 0 0->lookP fr 3=.ptr 1 0 0->evP ⟨A0,T,A2⟩ (.code Ga fr ⟨[.row 1 [chkF m c] 7,.row 1 [x.F] 8,.row 0 [.int .i64 1,.int .i64 2,.int .i64 3,.int .i64 4,.int .i64 5,.int .i64 7,.int .i64 10] 1],0,tch⟩)=some (.ok .ret [(4,.bool (iT m c x))] ⟨[],0,[]⟩):=fun fr tch a b=>tS a b hw hg ht fun e=>absurd ha (by simp [Ky,e])
  simp only [Ins.F] at sw ⊢
  simp only [Ky,ints,List.map] at tc
  simp -implicitDefEqProofs only [h2,h3,tc,sw,XP,seval]
 | true =>
  rw [ha] at tc
  simp only [Ky,ints,List.map] at tc
  by_cases hd:x.dst < 0
  . simp only [Ins.F]
    simp -implicitDefEqProofs only [h2,h3,tc,eq_true hd,Bool.false_and,XP,seval]
  . have sw:∀ (fr:PF) (tch:List Nat),lookP fr 2=.ptr 0 0 0->lookP fr 3=.ptr 1 0 0->evP ⟨A0,T,A2⟩ (.code Ga fr ⟨[.row 1 [chkF m c] 7,.row 1 [x.F] 8,.row 0 [.int .i64 1,.int .i64 2,.int .i64 3,.int .i64 4,.int .i64 5,.int .i64 7,.int .i64 10] 1],0,tch⟩)=some (.ok .ret [(4,.bool (iT m c x))] ⟨[],0,[]⟩):=fun fr tch a b=>tS a b hw hg ht fun e=>h1 e hd
    simp only [Ins.F] at sw ⊢
    simp -implicitDefEqProofs only [h2,h3,tc,eq_false hd,sw,XP,seval]
theorem CB (h:bY c x=true) (e:x.op=1) (hd:¬ x.dst < 0):thereD x.dst c.regs.length=true:=by
 unfold bY writesD at h
 rw [if_pos e] at h
 have:¬ x.dst=-1:=by omega
 have h9:¬ x.op=9:=by omega
 cases ht:thereD x.dst c.regs.length with
 | true=>rfl
 | false=>rw [ht] at h; simp [this,h9] at h
set_option maxHeartbeats 8000000 in
theorem CC (h2:lookP fr 2=.ptr 0 0 0) (h3:lookP fr 3=.ptr 1 0 0) (hw:T 182=some N2) (hg:T 247=some D2) (ht:T 225=some G3) (hc:T 246=some Z3) (hwr:T 108=some V1) :
 evP ⟨A0,T,A2⟩ (.code Lu fr ⟨[.row 1 [chkF m c] 7,.row 1 [x.F] 8],0,[]⟩)=some (.ok .ret [(4,.bool (bY c x && (!Bs x && iT m c x)))] ⟨[],0,[]⟩):=by
 have tw:=fun K=>bU (K:=K) (x:=x) hwr
 have tt:=fun K=>Z0 (K:=K) (a:=writesD x) (n:=c.regs.length) ht
 have k16:bY c x=true->∀ fr:PF,lookP fr 2=.ptr 0 0 0->lookP fr 3=.ptr 1 0 0->evP ⟨A0,T,A2⟩ (.code Lt fr ⟨[.row 1 [chkF m c] 7,.row 1 [x.F] 8],0,[]⟩)=some (.ok .ret [(4,.bool (!Bs x && iT m c x))] ⟨[],0,[]⟩):=fun h fr a b=>CA a b hw hg ht hc (CB h)
 unfold Lu kH kG
 have fin:bY c x=!((!decide (x.op=9) || decide (0≤writesD x)) && (!decide (writesD x=-1) && !thereD (writesD x) c.regs.length)):=rfl
 simp only [Ins.F] at tw k16 ⊢
 simp only [chkF] at k16 ⊢
 by_cases e9:x.op=9
 . by_cases w0:0≤writesD x
   . have w1:¬ writesD x=-1:=by omega
     cases q:thereD (writesD x) c.regs.length with
     | true =>
      have ok:bY c x=true:=by rw [fin,q]; simp
      have k16:=k16 ok
      rw [q] at tt
      simp -implicitDefEqProofs only [h2,h3,tw,tt,eq_true e9,eq_true w0,eq_false w1,List.length_map,ok,k16,XP,seval]
     | false =>
      have ok:bY c x=false:=by rw [fin,q]; simp [w0,w1]
      rw [q] at tt
      simp -implicitDefEqProofs only [h2,h3,tw,tt,eq_true e9,eq_true w0,eq_false w1,List.length_map,ok,Bool.false_and,XP,seval]
   . have ok:bY c x=true:=by rw [fin]; simp [e9,w0]
     have k16:=k16 ok
     simp -implicitDefEqProofs only [h2,h3,tw,eq_true e9,eq_false w0,ok,k16,XP,seval]
 . by_cases w1:writesD x=-1
   . have ok:bY c x=true:=by rw [fin]; simp [w1]
     have k16:=k16 ok
     simp -implicitDefEqProofs only [h2,h3,tw,eq_false e9,eq_true w1,ok,k16,XP,seval]
   . cases q:thereD (writesD x) c.regs.length with
     | true =>
      have ok:bY c x=true:=by rw [fin,q]; simp
      have k16:=k16 ok
      rw [q] at tt
      simp -implicitDefEqProofs only [h2,h3,tw,tt,eq_false e9,eq_false w1,List.length_map,ok,k16,XP,seval]
     | false =>
      have ok:bY c x=false:=by rw [fin,q]; simp [e9,w1]
      rw [q] at tt
      simp -implicitDefEqProofs only [h2,h3,tw,tt,eq_false e9,eq_false w1,List.length_map,ok,Bool.false_and,XP,seval]
theorem KX (ht:T 225=some G3) (h:i < L.length) (hs:L.length≤bigN) (hp:thereD L[i] c.regs.length=true):evP ⟨A0,T,A2⟩ (.code m7 [(2,.ptr 0 0 0),(3,.ptr 1 0 0),(9,.msl 2 0 L.length 1),(10,.int .i64 (L.length:Int)),(11,.int .i64 (i:Int))] ⟨[.row 1 [chkF m c] 7,.row 1 [x.F] 8,.row 0 (ints L) 1],0,[]⟩)=some (.ok .normal [(2,.ptr 0 0 0),(3,.ptr 1 0 0),(9,.msl 2 0 L.length 1),(10,.int .i64 (L.length:Int)),(11,.int .i64 ((i + 1:Nat):Int))] ⟨[.row 1 [chkF m c] 7,.row 1 [x.F] 8,.row 0 (ints L) 1],0,[]⟩):=by
 unfold m7 Ve bL bK bJ
 have hlt:decide ((i:Int) < (L.length:Int))=true:=by simp [h]
 have hw:=A9 (i:=i) (by simp only [bigN] at hs; omega)
 have tt:=fun K=>Z0 (K:=K) (a:=L[i]) (n:=c.regs.length) ht
 rw [hp] at tt
 unfold chkF Ins.F
 simp -implicitDefEqProofs only [hlt,D3 h,hw,tt,h,List.length_map,XP,seval]
theorem KY (ht:T 225=some G3) (h:i < L.length) (hp:thereD L[i] c.regs.length=false):evP ⟨A0,T,A2⟩ (.code m7 [(2,.ptr 0 0 0),(3,.ptr 1 0 0),(9,.msl 2 0 L.length 1),(10,.int .i64 (L.length:Int)),(11,.int .i64 (i:Int))] ⟨[.row 1 [chkF m c] 7,.row 1 [x.F] 8,.row 0 (ints L) 1],0,[]⟩)=some (.ok .ret [(4,.bool false)] ⟨[],0,[]⟩):=by
 unfold m7 Ve bL bK bJ
 have hlt:decide ((i:Int) < (L.length:Int))=true:=by simp [h]
 have tt:=fun K=>Z0 (K:=K) (a:=L[i]) (n:=c.regs.length) ht
 rw [hp] at tt
 unfold chkF Ins.F
 simp -implicitDefEqProofs only [hlt,D3 h,tt,h,List.length_map,XP,seval]
theorem KZ:∃ fr',evP ⟨A0,T,A2⟩ (.code m7 [(2,.ptr 0 0 0),(3,.ptr 1 0 0),(9,.msl 2 0 L.length 1),(10,.int .i64 (L.length:Int)),(11,.int .i64 (L.length:Int))] ⟨[.row 1 [chkF m c] 7,.row 1 [x.F] 8,.row 0 (ints L) 1],0,[]⟩)=some (.ok (.exit 0) fr' ⟨[.row 1 [chkF m c] 7,.row 1 [x.F] 8,.row 0 (ints L) 1],0,[]⟩)∧(lookP fr' 2=.ptr 0 0 0∧lookP fr' 3=.ptr 1 0 0):=by
 unfold m7 Ve
 have hlt:decide ((L.length:Int) < (L.length:Int))=false:=by simp
 simp -implicitDefEqProofs only [hlt,XP,seval]
 exact ⟨_,rfl,rfl,rfl⟩
theorem bZ (hk:x.ok):(C6 x).length≤bigN:=by
 unfold C6
 have:x.args.length≤bigN:=by unfold Ins.ok at hk; simp only [bigN] at hk ⊢; omega
 repeat' split
 all_goals first | exact this | (simp [bigN])
set_option maxHeartbeats 4000000 in
theorem s9 (hword_Wrap:T 182=some N2) (hir_checker_global:T 247=some D2) (hir_there:T 225=some G3) (hContInts:T 246=some Z3) (hir_Writes:T 108=some V1) (hir_Reads:T 170=some s5) {m:Modl} {c:Cod} {x:Ins} (hk:x.ok):AM.Comes ⟨A0,T,A2⟩ 223 [chkF m c,x.F] [.bool (E3 m c x)]:=by
 refine ⟨[.bool (E3 m c x)],⟨[],0,[]⟩,?_,B4 rfl List.nodup_nil rfl rfl rfl⟩
 rw [A7 (c:=oV) (nt:=114) (rs:=[.tmp 4]) rfl (by simp)]; unfold oV
 unfold K0
 have hr:=fun K=>gY (K:=K) hir_Reads hk
 have hlen:=bZ hk
 have k17:∀ fr:PF,lookP fr 2=.ptr 0 0 0->lookP fr 3=.ptr 1 0 0->evP ⟨A0,T,A2⟩ (.code Lu fr ⟨[.row 1 [chkF m c] 7,.row 1 [x.F] 8],0,[]⟩)=some (.ok .ret [(4,.bool (bY c x && (!Bs x && iT m c x)))] ⟨[],0,[]⟩):=fun fr a b=>CC a b hword_Wrap hir_checker_global hir_there hContInts hir_Writes
 have lp:=Oy (P:=⟨A0,T,A2⟩) (c:=m7) (p:=fun r=>thereD r c.regs.length) (l:=C6 x) (S:=fun i=>[(2,.ptr 0 0 0),(3,.ptr 1 0 0),(9,.msl 2 0 (C6 x).length 1),(10,.int .i64 ((C6 x).length:Int)),(11,.int .i64 (i:Int))]) (K:=⟨[.row 1 [chkF m c] 7,.row 1 [x.F] 8,.row 0 (ints (C6 x)) 1],0,[]⟩)
  (Q:=fun fr'=>lookP fr' 2=.ptr 0 0 0∧lookP fr' 3=.ptr 1 0 0) (R:=fun fr' K'=>fr'=[(4,.bool false)]∧K'=⟨[],0,[]⟩) (fun i h hp=>KX hir_there h hlen hp) (fun i h hp=>⟨_,_,KY hir_there h hp,rfl,rfl⟩) KZ
 unfold dX kF E3
 rcases lp with ⟨ha,fr',h1,h2,h3⟩ | ⟨ha,fr',K',h1,rfl,rfl⟩
 . have h1:evP ⟨A0,T,A2⟩ (.code (.loop m7) [(2,.ptr 0 0 0),(3,.ptr 1 0 0),(9,.msl 2 0 (C6 x).length 1),(10,.int .i64 ((C6 x).length:Int)),(11,.int .i64 0)] _)=_:=h1
   rw [ha]
   simp only [Ins.F,chkF] at hr h1 k17 ⊢
   simp -implicitDefEqProofs only [hr,h1,h2,h3,k17,List.length_map,XP,seval]
 . have h1:evP ⟨A0,T,A2⟩ (.code (.loop m7) [(2,.ptr 0 0 0),(3,.ptr 1 0 0),(9,.msl 2 0 (C6 x).length 1),(10,.int .i64 ((C6 x).length:Int)),(11,.int .i64 0)] _)=_:=h1
   rw [ha,Bool.false_and]
   simp only [Ins.F,chkF] at hr h1 ⊢
   simp -implicitDefEqProofs only [hr,h1,List.length_map,XP,seval]
def H5:=U4 (fun p:(Modl) × (Cod) × (Ins)=>[chkF p.1 p.2.1,p.2.2.F]) (fun p=>[.bool (E3 p.1 p.2.1 p.2.2)]) (fun p=>p.2.2.ok)
theorem Ei (hir_checker_places:T 223=some H5) {m:Modl} {c:Cod} {x:Ins} {K:PK} (hk:x.ok):evP ⟨A0,T,A2⟩ (.call 223 [chkF m c,x.F] K)=some (.val (openTs K.os.length [.bool (E3 m c x)]).1 ⟨K.os ++ (openTs K.os.length [.bool (E3 m c x)]).2,K.ext,K.tch⟩):=B5 hir_checker_places (by simp -implicitDefEqProofs only [VV,XP,seval]) (C0 (a:=fun p:(Modl) × (Cod) × (Ins)=>[chkF p.1 p.2.1,p.2.2.F]) (r:=fun p=>[.bool (E3 p.1 p.2.1 p.2.2)]) (fun x y e=>by simp only [VJ] at e; simp only [e]) (m,c,x) hk) (by simp -implicitDefEqProofs only [VN,XP,seval])
theorem Bt (hword_Wrap:T 182=some N2) (hir_checker_global:T 247=some D2) (hir_there:T 225=some G3) (hContInts:T 246=some Z3) (hir_Writes:T 108=some V1) (hir_Reads:T 170=some s5) (hP:PEok ⟨A0,T,A2⟩):TC A0 223 H5:=C1 hP fun p h=>s9 hword_Wrap hir_checker_global hir_there hContInts hir_Writes hir_Reads h
end
end Go.Proofs.AmEnv
set_option maxRecDepth 100000
namespace Go.Proofs.AmEnv
open Go Go.AM
variable {T:Nat->Option (List AV->Option (List AV))}
section
variable {m:Modl} {c:Cod} {x:Ins} {fr:PF} {i:Nat}
theorem Gj (h:E3 m c x=true) {r:Int} (hr:r∈C6 x):thereD r c.regs.length=true:=by
 unfold E3 at h
 rw [Bool.and_eq_true] at h
 exact List.all_eq_true.1 h.1 r hr
theorem Iq (h:E3 m c x=true) (e:x.op=1∨x.op=2∨x.op=3∨x.op=4∨x.op=5∨x.op=7∨x.op=10):thereD x.dst c.regs.length=true:=by
 unfold E3 at h
 simp only [Bool.and_eq_true] at h
 obtain ⟨_,h1,h2,_⟩:=h
 have hd:¬ x.dst < 0:=fun hd=>by
  have:Bs x=true:=by
   unfold Bs Ky
   rcases e with e | e | e | e | e | e | e <;> simp [e,hd]
  rw [this] at h2; cases h2
 have hw:writesD x=x.dst:=by
  unfold writesD
  rcases e with e | e | e | e | e | e | e <;> simp [e]
 unfold bY at h1
 rw [hw] at h1
 have h9:¬ x.op=9:=by omega
 have:¬ x.dst=-1:=by omega
 cases ht:thereD x.dst c.regs.length with
 | true=>rfl
 | false=>rw [ht] at h1; simp [this,h9] at h1
theorem lC (h:E3 m c x=true):iT m c x=true:=by
 unfold E3 at h
 simp only [Bool.and_eq_true] at h
 exact h.2.2.2
theorem Vp (h:E3 m c x=true) (e:x.op=5∨x.op=6∨x.op=7∨x.op=8):thereD x.n m.gs.length=true:=by
 have h:=lC h
 unfold iT at h
 rcases e with e | e | e | e <;> simp [e,Q3] at h <;> exact h.1
theorem lD (h:E3 m c x=true) (e:x.op=9):thereD x.n m.fs.length=true∧(codI m.fs x.n).ps≤(codI m.fs x.n).regs.length:=by
 have h:=lC h
 unfold iT at h
 simpa [e] using h
theorem pL (h:E3 m c x=true) (e:x.op=9) (hd:¬ x.dst < 0):thereD x.dst c.regs.length=true:=by
 unfold E3 at h
 simp only [Bool.and_eq_true] at h
 obtain ⟨_,h1,h2,_⟩:=h
 have hw:writesD x=x.dst:=by
  unfold writesD
  simp [e]; omega
 unfold bY at h1
 rw [hw] at h1
 have:¬ x.dst=-1:=by omega
 have h0:0≤x.dst:=by omega
 cases ht:thereD x.dst c.regs.length with
 | true=>rfl
 | false=>rw [ht] at h1; simp [this,h0] at h1
def isD (c:Cod) (r t:Int):Bool:=decide (o9 c.regs r=t)
def cA (l:List Glo) (i:Int):Glo:=l.getD i.toNat ⟨[],0,0,0⟩
theorem lE {l:List Glo} {k:Nat} (h:k < l.length):(l.map Glo.F)[k]?=some (cA l k).F:=by
 rw [B1 (F:=Glo.F) h]; unfold cA; simp [h]
def CD (x:Ins):Int:=if contS (32 :: (x.s ++ [32])) Ox then 1 else x.ty
def Ac (m:Modl) (c:Cod) (x:Ins):Bool:=(x.args.zip (codI m.fs x.n).regs).all (fun p=>isD c p.1 p.2) && (decide (x.dst < 0) || (!decide ((codI m.fs x.n).ty=0) && isD c x.dst (codI m.fs x.n).ty))
def d8 (m:Modl) (c:Cod) (x:Ins):Bool :=
 if x.op=2 then isD c x.a (o9 c.regs x.dst) else if x.op=3 then isD c x.a x.ty && (isD c x.b x.ty && isD c x.dst (CD x)) else if x.op=4 then isD c x.dst (Dr x.ty)
 else if x.op=5 then isD c x.a 2 && isD c x.dst (Dr (cA m.gs x.n).ty) else if x.op=6 then isD c x.a 2 && isD c x.b (Dr (cA m.gs x.n).ty) else if x.op=7 then isD c x.dst (cA m.gs x.n).ty else if x.op=8 then isD c x.a (cA m.gs x.n).ty
 else if x.op=9 then Ac m c x else if x.op=10 then isD c x.dst 2 else if x.op=11 then isD c x.a 2 else true
def Oz (m:Modl) (x:Ins):Prop:=x.op=9->(x.args.length:Int)=(codI m.fs x.n).ps
section
variable {F:Cod} {A:List Int}
theorem LA (hN:T 248=none) (h:i < A.length) (hF:i < F.regs.length) (hs:A.length≤bigN) (hr:thereD A[i] c.regs.length=true) (hp:isD c A[i] F.regs[i]=true) :
 evP ⟨A0,T,A2⟩ (.code m9 [(2,.fn (.func 248) [] [.ptr 0 0 0]),(4,.ptr 1 0 0),(7,.ptr 2 0 0),(18,fslN (ints A)),(19,.int .i64 (A.length:Int)),(20,.int .i64 (i:Int))] ⟨[.row 1 [chkF m c] 7,.row 1 [x.F] 8,.row 1 [F.F] 5],1,[]⟩)=some (.ok .normal [(2,.fn (.func 248) [] [.ptr 0 0 0]),(4,.ptr 1 0 0),(7,.ptr 2 0 0),(18,fslN (ints A)),(19,.int .i64 (A.length:Int)),(20,.int .i64 ((i + 1:Nat):Int))] ⟨[.row 1 [chkF m c] 7,.row 1 [x.F] 8,.row 1 [F.F] 5],1,[]⟩):=by
 unfold m9
 have hlt:decide ((i:Int) < (A.length:Int))=true:=by simp [h]
 have hw:=A9 (i:=i) (by simp only [bigN] at hs; omega)
 have ic:=fun t K hK=>Lw (m:=m) (t:=t) (id:=0) (K:=K) hN hr hK
 have hp:decide (o9 c.regs A[i]=F.regs[i])=true:=hp
 simp only [chkF,Ins.F,Cod.F] at ic ⊢
 simp -implicitDefEqProofs only [hlt,D3 h,D3 hF,hw,ic,hp,XP,seval]
theorem LB (hN:T 248=none) (h:i < A.length) (hF:i < F.regs.length) (hr:thereD A[i] c.regs.length=true) (hp:isD c A[i] F.regs[i]=false) :
 ∃ K',evP ⟨A0,T,A2⟩ (.code m9 [(2,.fn (.func 248) [] [.ptr 0 0 0]),(4,.ptr 1 0 0),(7,.ptr 2 0 0),(18,fslN (ints A)),(19,.int .i64 (A.length:Int)),(20,.int .i64 (i:Int))] ⟨[.row 1 [chkF m c] 7,.row 1 [x.F] 8,.row 1 [F.F] 5],1,[]⟩)=some (.ok .ret [(6,.bool false)] K')∧K'=⟨[.row 1 [chkF m c] 7],1,[]⟩:=by
 unfold m9
 have hlt:decide ((i:Int) < (A.length:Int))=true:=by simp [h]
 have ic:=fun t K hK=>Lw (m:=m) (t:=t) (id:=0) (K:=K) hN hr hK
 have hp:decide (o9 c.regs A[i]=F.regs[i])=false:=hp
 simp only [chkF,Ins.F,Cod.F] at ic ⊢
 simp -implicitDefEqProofs only [hlt,D3 h,D3 hF,ic,hp,XP,seval]
 exact ⟨_,rfl,rfl⟩
theorem LC:∃ fr',evP ⟨A0,T,A2⟩ (.code m9 [(2,.fn (.func 248) [] [.ptr 0 0 0]),(4,.ptr 1 0 0),(7,.ptr 2 0 0),(18,fslN (ints A)),(19,.int .i64 (A.length:Int)),(20,.int .i64 (A.length:Int))] ⟨[.row 1 [chkF m c] 7,.row 1 [x.F] 8,.row 1 [F.F] 5],1,[]⟩)=some (.ok (.exit 0) fr' ⟨[.row 1 [chkF m c] 7,.row 1 [x.F] 8,.row 1 [F.F] 5],1,[]⟩)∧(lookP fr' 2=.fn (.func 248) [] [.ptr 0 0 0]∧lookP fr' 4=.ptr 1 0 0∧lookP fr' 7=.ptr 2 0 0):=by
 unfold m9
 have hlt:decide ((A.length:Int) < (A.length:Int))=false:=by simp
 simp -implicitDefEqProofs only [hlt,XP,seval]
 exact ⟨_,rfl,rfl,rfl,rfl⟩
end
set_option maxHeartbeats 8000000 in
theorem gZ (hN:T 248=none) (hk:x.ok) (hpl:E3 m c x=true) (e9:x.op=9) (ha:Oz m x) :
 evP ⟨A0,T,A2⟩ (.body 250 [chkF m c,x.F,.fn (.func 248) [] [.ptr 0 0 0]] ⟨[.row 1 [chkF m c] 7],1,[]⟩)=some (.val [.bool (Ac m c x)] ⟨[.row 1 [chkF m c] 7],1,[]⟩):=by
 obtain ⟨hf,hps⟩:=lD hpl e9
 have ha:=ha e9
 obtain ⟨k,hkn,hkl⟩:=F1 hf
 have hi:=Gi (show k < m.fs.length by omega)
 rw [← hkn] at hi
 have hlen:x.args.length≤bigN:=by unfold Ins.ok at hk; simp only [bigN] at hk ⊢; omega
 have hz:(x.args.zip (codI m.fs x.n).regs).length=x.args.length:=by rw [List.length_zip]; omega
 have rd:∀ i (h:i < x.args.length),thereD x.args[i] c.regs.length=true:=fun i h=>Gj hpl (by
  have:C6 x=x.args:=by simp [C6,e9]
  rw [this]; exact List.getElem_mem h)
 have lp:=Oy (P:=⟨A0,T,A2⟩) (c:=m9) (p:=fun p=>isD c p.1 p.2) (l:=x.args.zip (codI m.fs x.n).regs) (S:=fun i=>[(2,.fn (.func 248) [] [.ptr 0 0 0]),(4,.ptr 1 0 0),(7,.ptr 2 0 0),(18,fslN (ints x.args)),(19,.int .i64 (x.args.length:Int)),(20,.int .i64 (i:Int))]) (K:=⟨[.row 1 [chkF m c] 7,.row 1 [x.F] 8,.row 1 [(codI m.fs x.n).F] 5],1,[]⟩)
  (Q:=fun fr'=>lookP fr' 2=.fn (.func 248) [] [.ptr 0 0 0]∧lookP fr' 4=.ptr 1 0 0∧lookP fr' 7=.ptr 2 0 0) (R:=fun fr' K'=>fr'=[(6,.bool false)]∧K'=⟨[.row 1 [chkF m c] 7],1,[]⟩)
  (fun i h hp=>LA (F:=codI m.fs x.n) (A:=x.args) hN (by omega) (by rw [List.length_zip] at h; omega) hlen (rd i (by omega)) (by simpa using hp)) (fun i h hp=>by
    obtain ⟨K',q1,q2⟩:=LB (m:=m) (x:=x) (F:=codI m.fs x.n) (A:=x.args) hN (show i < x.args.length by omega) (by rw [List.length_zip] at h; omega) (rd i (by omega)) (by simpa using hp)
    exact ⟨_,K',q1,rfl,q2⟩) (by rw [hz]; exact LC)
 rw [A7 (c:=pE) (nt:=51) (rs:=[.tmp 6]) rfl (by simp)]; unfold pE
 have fin:Ac m c x=((x.args.zip (codI m.fs x.n).regs).all (fun p=>isD c p.1 p.2) && (decide (x.dst < 0) || (!decide ((codI m.fs x.n).ty=0) && isD c x.dst (codI m.fs x.n).ty))):=rfl
 have hix:∀ te:TI,te.size=5->Ua te (fslN (m.fs.map Cod.F)) (.int .i64 x.n)=some (.fptr (codI m.fs x.n).F 0):=fun te h=>by
  rw [hkn] at hi ⊢; exact ix_fslN hi (by rw [h]; rfl)
 have hix:=hix _ ty31_z
 rcases lp with ⟨hall,fr',h1,h2,h3,h4⟩ | ⟨hall,fr',K',h1,rfl,rfl⟩
 . have h1:evP ⟨A0,T,A2⟩ (.code (.loop m9) [(2,.fn (.func 248) [] [.ptr 0 0 0]),(4,.ptr 1 0 0),(7,.ptr 2 0 0),(18,fslN (ints x.args)),(19,.int .i64 (x.args.length:Int)),(20,.int .i64 0)] _)=_:=h1
   rw [hall,Bool.true_and] at fin
   simp only [chkF,Ins.F,Cod.F] at h1 hix ⊢
   by_cases hd:x.dst < 0
   . have fin:Ac m c x=true:=by rw [fin]; simp [hd]
     simp -implicitDefEqProofs only [hix,h1,h2,h3,h4,fin,eq_true hd,List.length_map,XP,seval]
   . by_cases hv:(codI m.fs x.n).ty=0
     . have fin:Ac m c x=false:=by rw [fin]; simp [hd,hv]
       simp -implicitDefEqProofs only [hix,h1,h2,h3,h4,fin,eq_false hd,eq_true hv,List.length_map,XP,seval]
     . have fin:Ac m c x=isD c x.dst (codI m.fs x.n).ty:=by rw [fin]; simp [hd,hv]
       have ic:=fun t K hK=>Lw (m:=m) (r:=x.dst) (t:=t) (id:=0) (K:=K) hN (pL hpl e9 hd) hK
       unfold isD at fin
       simp only [chkF] at ic
       simp -implicitDefEqProofs only [hix,h1,h2,h3,h4,fin,eq_false hd,eq_false hv,ic,List.length_map,XP,seval]
 . have h1:evP ⟨A0,T,A2⟩ (.code (.loop m9) [(2,.fn (.func 248) [] [.ptr 0 0 0]),(4,.ptr 1 0 0),(7,.ptr 2 0 0),(18,fslN (ints x.args)),(19,.int .i64 (x.args.length:Int)),(20,.int .i64 0)] _)=_:=h1
   rw [hall,Bool.false_and] at fin
   simp only [chkF,Ins.F,Cod.F] at h1 hix ⊢
   simp -implicitDefEqProofs only [hix,h1,fin,List.length_map,XP,seval]
end
end Go.Proofs.AmEnv
set_option maxRecDepth 100000
namespace Go.Proofs.AmEnv
open Go Go.AM
variable {T:Nat->Option (List AV->Option (List AV))}
section
variable {m:Modl} {c:Cod} {x:Ins} {fr:PF} {i:Nat} {tch:List Nat}
theorem hH (hN:T 248=none) (hC:T 250=none) (hk:x.ok) (hpl:E3 m c x=true) (e9:x.op=9) (ha:Oz m x) :
 evP ⟨A0,T,A2⟩ (.call 250 [chkF m c,x.F,.fn (.func 248) [] [.ptr 0 0 0]] ⟨[.row 1 [chkF m c] 7,.row 1 [x.F] 8],0,tch⟩)=some (.val [.bool (Ac m c x)] ⟨[.row 1 [chkF m c] 7,.row 1 [x.F] 8],0,tch⟩) :=
 aD (ids:=[0]) hC rfl rfl rfl rfl (gZ hN hk hpl e9 ha) rfl rfl
set_option maxHeartbeats 16000000 in
theorem y0 (nir_checker_types_1:T 248=none) (nir_checker_call:T 250=none) (hstrings_Contains:T 245=some N8) (hir_wide:T 249=some Bn) {m:Modl} {c:Cod} {x:Ins} (hk:x.ok∧x.s.length≤bigN∧E3 m c x=true∧Oz m x):AM.Comes ⟨A0,T,A2⟩ 224 [chkF m c,x.F] [.bool (d8 m c x)]:=by
 refine ⟨[.bool (d8 m c x)],⟨[],0,[]⟩,?_,B4 rfl List.nodup_nil rfl rfl rfl⟩
 rw [A7 (c:=oW) (nt:=150) (rs:=[.tmp 4]) rfl (by simp)]; unfold oW
 unfold K0
 obtain ⟨hx,hs,hpl,hargs⟩:=hk
 have isr:=fun (r t:Int) (K:PK) (hr:thereD r c.regs.length=true) hK=>Lw (m:=m) (c:=c) (r:=r) (t:=t) (id:=0) (K:=K) nir_checker_types_1 hr hK
 have tw:=fun t K=>kZ (K:=K) (t:=t) hir_wide
 have cc:=fun e9 tch=>hH (tch:=tch) nir_checker_types_1 nir_checker_call hx hpl e9 hargs
 have gix:∀ k:Nat,x.n=k->k < m.gs.length->Ua Ny (fslN (m.gs.map Glo.F)) (.int .i64 x.n)=some (.fptr (cA m.gs x.n).F 0):=fun k hk hl=>by
  rw [hk]; exact ix_fslN (lE hl) rfl
 have rix:∀ k:Nat,x.dst=k->k < c.regs.length->Ua aH (fslN (ints c.regs)) (.int .i64 x.dst)=some (.fptr (.int .i64 (o9 c.regs x.dst)) 0):=fun k hk hl=>by
  rw [hk]; exact ix_fslN (Gh hl) rfl
 unfold eC eB eA dZ dY kU kT kS kR kQ kP kO kN d8
 simp only [chkF,Ins.F] at isr cc ⊢
 by_cases e2:x.op=2
 . have ia:=fun t K hK=>isr x.a t K (Gj hpl (by simp [C6,e2])) hK
   obtain ⟨k,hk,hl⟩:=F1 (Iq hpl (by simp [e2]))
   have hix:=rix k hk (by omega)
   unfold isD
   simp -implicitDefEqProofs only [eq_true e2,ia,hix,XP,seval]
 by_cases e3:x.op=3
 . have ia:=fun t K hK=>isr x.a t K (Gj hpl (by simp [C6,e3])) hK
   have ib:=fun t K hK=>isr x.b t K (Gj hpl (by simp [C6,e3])) hK
   have id:=fun t K hK=>isr x.dst t K (Iq hpl (by simp [e3])) hK
   have d1:∀ K:PK,R1 A0 .add 9 (.str [32]) (.str x.s) K=.val (.str (32 :: x.s)) K:=fun K=>Lv (by simp only [bigN] at hs; simp; omega)
   have d2:∀ K:PK,R1 A0 .add 9 (.str (32 :: x.s)) (.str [32]) K=.val (.str (32 :: (x.s ++ [32]))) K:=fun K=>Lv (by simp only [bigN] at hs; simp; omega)
   have cn:=fun K=>Ip (K:=K) (s:=Ox) (p:=32 :: (x.s ++ [32])) hstrings_Contains (by unfold Io; rfl)
   unfold isD CD kM kL
   unfold Ox at cn ⊢
   by_cases qa:o9 c.regs x.a=x.ty
   . by_cases qb:o9 c.regs x.b=x.ty
     . cases hcc:contS (32 :: (x.s ++ [32])) [32,61,61,32,33,61,32,60,32,60,61,32,62,32,62,61,32] with
       | true=>simp -implicitDefEqProofs only [eq_false e2,eq_true e3,ia,ib,id,d1,d2,cn,hcc,eq_true qa,eq_true qb,XP,seval]
       | false=>simp -implicitDefEqProofs only [eq_false e2,eq_true e3,ia,ib,id,d1,d2,cn,hcc,eq_true qa,eq_true qb,XP,seval]
     . cases hcc:contS (32 :: (x.s ++ [32])) [32,61,61,32,33,61,32,60,32,60,61,32,62,32,62,61,32] with
       | true=>simp -implicitDefEqProofs only [eq_false e2,eq_true e3,ia,ib,id,d1,d2,cn,hcc,eq_true qa,eq_false qb,Bool.false_and,XP,seval]
       | false=>simp -implicitDefEqProofs only [eq_false e2,eq_true e3,ia,ib,id,d1,d2,cn,hcc,eq_true qa,eq_false qb,Bool.false_and,XP,seval]
   . cases hcc:contS (32 :: (x.s ++ [32])) [32,61,61,32,33,61,32,60,32,60,61,32,62,32,62,61,32] with
     | true=>simp -implicitDefEqProofs only [eq_false e2,eq_true e3,ia,ib,id,d1,d2,cn,hcc,eq_false qa,Bool.false_and,XP,seval]
     | false=>simp -implicitDefEqProofs only [eq_false e2,eq_true e3,ia,ib,id,d1,d2,cn,hcc,eq_false qa,Bool.false_and,XP,seval]
 by_cases e4:x.op=4
 . have id:=fun t K hK=>isr x.dst t K (Iq hpl (by simp [e4])) hK
   unfold isD
   simp -implicitDefEqProofs only [eq_false e2,eq_false e3,eq_true e4,id,tw,XP,seval]
 by_cases e5:x.op=5
 . have ia:=fun t K hK=>isr x.a t K (Gj hpl (by simp [C6,e5])) hK
   have id:=fun t K hK=>isr x.dst t K (Iq hpl (by simp [e5])) hK
   obtain ⟨k,hk,hl⟩:=F1 (Vp hpl (by simp [e5]))
   have hix:=gix k hk (by omega)
   simp only [Glo.F] at hix
   unfold isD
   by_cases qa:o9 c.regs x.a=2
   . simp -implicitDefEqProofs only [eq_false e2,eq_false e3,eq_false e4,eq_true e5,ia,id,hix,tw,eq_true qa,XP,seval]
   . simp -implicitDefEqProofs only [eq_false e2,eq_false e3,eq_false e4,eq_true e5,ia,id,hix,tw,eq_false qa,Bool.false_and,XP,seval]
 by_cases e6:x.op=6
 . have ia:=fun t K hK=>isr x.a t K (Gj hpl (by simp [C6,e6])) hK
   have ib:=fun t K hK=>isr x.b t K (Gj hpl (by simp [C6,e6])) hK
   obtain ⟨k,hk,hl⟩:=F1 (Vp hpl (by simp [e6]))
   have hix:=gix k hk (by omega)
   simp only [Glo.F] at hix
   unfold isD
   by_cases qa:o9 c.regs x.a=2
   . simp -implicitDefEqProofs only [eq_false e2,eq_false e3,eq_false e4,eq_false e5,eq_true e6,ia,ib,hix,tw,eq_true qa,XP,seval]
   . simp -implicitDefEqProofs only [eq_false e2,eq_false e3,eq_false e4,eq_false e5,eq_true e6,ia,ib,hix,tw,eq_false qa,Bool.false_and,XP,seval]
 by_cases e7:x.op=7
 . have id:=fun t K hK=>isr x.dst t K (Iq hpl (by simp [e7])) hK
   obtain ⟨k,hk,hl⟩:=F1 (Vp hpl (by simp [e7]))
   have hix:=gix k hk (by omega)
   simp only [Glo.F] at hix
   unfold isD
   simp -implicitDefEqProofs only [eq_false e2,eq_false e3,eq_false e4,eq_false e5,eq_false e6,eq_true e7,id,hix,XP,seval]
 by_cases e8:x.op=8
 . have ia:=fun t K hK=>isr x.a t K (Gj hpl (by simp [C6,e8])) hK
   obtain ⟨k,hk,hl⟩:=F1 (Vp hpl (by simp [e8]))
   have hix:=gix k hk (by omega)
   simp only [Glo.F] at hix
   unfold isD
   simp -implicitDefEqProofs only [eq_false e2,eq_false e3,eq_false e4,eq_false e5,eq_false e6,eq_false e7,eq_true e8,ia,hix,XP,seval]
 by_cases e9:x.op=9
 . have cc:=cc e9
   simp -implicitDefEqProofs only [eq_false e2,eq_false e3,eq_false e4,eq_false e5,eq_false e6,eq_false e7,eq_false e8,eq_true e9,cc,XP,seval]
 by_cases e10:x.op=10
 . have id:=fun t K hK=>isr x.dst t K (Iq hpl (by simp [e10])) hK
   unfold isD
   simp -implicitDefEqProofs only [eq_false e2,eq_false e3,eq_false e4,eq_false e5,eq_false e6,eq_false e7,eq_false e8,eq_false e9,eq_true e10,id,XP,seval]
 by_cases e11:x.op=11
 . have ia:=fun t K hK=>isr x.a t K (Gj hpl (by simp [C6,e11])) hK
   unfold isD
   simp -implicitDefEqProofs only [eq_false e2,eq_false e3,eq_false e4,eq_false e5,eq_false e6,eq_false e7,eq_false e8,eq_false e9,eq_false e10,eq_true e11,ia,XP,seval]
 . simp -implicitDefEqProofs only [eq_false e2,eq_false e3,eq_false e4,eq_false e5,eq_false e6,eq_false e7,eq_false e8,eq_false e9,eq_false e10,eq_false e11,XP,seval]
def I8:=U4 (fun p:(Modl) × (Cod) × (Ins)=>[chkF p.1 p.2.1,p.2.2.F]) (fun p=>[.bool (d8 p.1 p.2.1 p.2.2)]) (fun p=>p.2.2.ok∧p.2.2.s.length≤bigN∧E3 p.1 p.2.1 p.2.2=true∧Oz p.1 p.2.2)
theorem k8 (hir_checker_types:T 224=some I8) {m:Modl} {c:Cod} {x:Ins} {K:PK} (hk:x.ok∧x.s.length≤bigN∧E3 m c x=true∧Oz m x):evP ⟨A0,T,A2⟩ (.call 224 [chkF m c,x.F] K)=some (.val (openTs K.os.length [.bool (d8 m c x)]).1 ⟨K.os ++ (openTs K.os.length [.bool (d8 m c x)]).2,K.ext,K.tch⟩):=B5 hir_checker_types (by simp -implicitDefEqProofs only [VV,XP,seval]) (C0 (a:=fun p:(Modl) × (Cod) × (Ins)=>[chkF p.1 p.2.1,p.2.2.F]) (r:=fun p=>[.bool (d8 p.1 p.2.1 p.2.2)]) (fun x y e=>by simp only [VJ] at e; simp only [e]) (m,c,x) hk) (by simp -implicitDefEqProofs only [VN,XP,seval])
theorem Dc (nir_checker_types_1:T 248=none) (nir_checker_call:T 250=none) (hstrings_Contains:T 245=some N8) (hir_wide:T 249=some Bn) (hP:PEok ⟨A0,T,A2⟩):TC A0 224 I8:=C1 hP fun p h=>y0 nir_checker_types_1 nir_checker_call hstrings_Contains hir_wide h
end
end Go.Proofs.AmEnv
set_option maxRecDepth 100000
namespace Go.Proofs.AmEnv
open Go Go.AM
variable {T:Nat->Option (List AV->Option (List AV))}
section
variable {m:Modl} {c:Cod} {x:Ins} {fr:PF} {i:Nat} {tch:List Nat}
def O5 (m:Modl) (c:Cod) (x:Ins):Int:=if Gg x=true then (if E3 m c x=true then (if x.op=9 then (if (x.args.length:Int)=(codI m.fs x.n).ps then (if d8 m c x=true then 0 else 6) else 7) else (if d8 m c x=true then 0 else 6)) else 11) else 2
set_option maxHeartbeats 8000000 in
theorem y1 (hir_form:T 222=some Bq) (hir_checker_places:T 223=some H5) (hir_checker_types:T 224=some I8) {m:Modl} {c:Cod} {x:Ins} (hk:x.ok∧x.s.length≤bigN):AM.Comes ⟨A0,T,A2⟩ 176 [chkF m c,x.F] [.int .i64 (O5 m c x)]:=by
 refine ⟨[.int .i64 (O5 m c x)],⟨[],0,[]⟩,?_,B4 rfl List.nodup_nil rfl rfl rfl⟩
 rw [A7 (c:=oL) (nt:=37) (rs:=[.tmp 4]) rfl (by simp)]; unfold oL
 unfold K0
 obtain ⟨hx,hs⟩:=hk
 have tf:=fun K=>lB (K:=K) hir_form hs
 have tp:=fun K=>Ei (K:=K) (m:=m) (c:=c) hir_checker_places hx
 unfold O5
 cases hf:Gg x with
 | false =>
  rw [hf] at tf
  simp only [Ins.F,chkF] at tf ⊢
  simp -implicitDefEqProofs only [tf,XP,seval]
 | true =>
  rw [hf] at tf
  cases hp:E3 m c x with
  | false =>
   rw [hp] at tp
   simp only [Ins.F,chkF] at tf tp ⊢
   simp -implicitDefEqProofs only [tf,tp,XP,seval]
  | true =>
   rw [hp] at tp
   by_cases e9:x.op=9
   . obtain ⟨hfn,hps⟩:=lD hp e9
     obtain ⟨k,hkn,hkl⟩:=F1 hfn
     have hi:=Gi (show k < m.fs.length by omega)
     rw [← hkn] at hi
     have hix:Ua Bi (fslN (m.fs.map Cod.F)) (.int .i64 x.n)=some (.fptr (codI m.fs x.n).F 0):=by
      rw [hkn] at hi ⊢; exact ix_fslN hi rfl
     by_cases hq:(x.args.length:Int)=(codI m.fs x.n).ps
     . have tt:=fun K=>k8 (K:=K) (m:=m) (c:=c) hir_checker_types ⟨hx,hs,hp,fun _=>hq⟩
       cases ht:d8 m c x with
       | true=>rw [ht] at tt; simp only [Ins.F,chkF,Cod.F] at tf tp tt hix ⊢; simp -implicitDefEqProofs only [tf,tp,tt,hix,eq_true e9,eq_true hq,List.length_map,XP,seval]
       | false=>rw [ht] at tt; simp only [Ins.F,chkF,Cod.F] at tf tp tt hix ⊢; simp -implicitDefEqProofs only [tf,tp,tt,hix,eq_true e9,eq_true hq,List.length_map,XP,seval]
     . simp only [Ins.F,chkF,Cod.F] at tf tp hix ⊢; simp -implicitDefEqProofs only [tf,tp,hix,eq_true e9,eq_false hq,List.length_map,XP,seval]
   . have tt:=fun K=>k8 (K:=K) (m:=m) (c:=c) hir_checker_types ⟨hx,hs,hp,fun h=>absurd h e9⟩
     cases ht:d8 m c x with
     | true=>rw [ht] at tt; simp only [Ins.F,chkF] at tf tp tt ⊢; simp -implicitDefEqProofs only [tf,tp,tt,eq_false e9,XP,seval]
     | false=>rw [ht] at tt; simp only [Ins.F,chkF] at tf tp tt ⊢; simp -implicitDefEqProofs only [tf,tp,tt,eq_false e9,XP,seval]
def C3:=U4 (fun p:(Modl) × (Cod) × (Ins)=>[chkF p.1 p.2.1,p.2.2.F]) (fun p=>[.int .i64 (O5 p.1 p.2.1 p.2.2)]) (fun p=>p.2.2.ok∧p.2.2.s.length≤bigN)
theorem k9 (hir_checker_instr:T 176=some C3) {m:Modl} {c:Cod} {x:Ins} {K:PK} (hk:x.ok∧x.s.length≤bigN):evP ⟨A0,T,A2⟩ (.call 176 [chkF m c,x.F] K)=some (.val (openTs K.os.length [.int .i64 (O5 m c x)]).1 ⟨K.os ++ (openTs K.os.length [.int .i64 (O5 m c x)]).2,K.ext,K.tch⟩):=B5 hir_checker_instr (by simp -implicitDefEqProofs only [VV,XP,seval]) (C0 (a:=fun p:(Modl) × (Cod) × (Ins)=>[chkF p.1 p.2.1,p.2.2.F]) (r:=fun p=>[.int .i64 (O5 p.1 p.2.1 p.2.2)]) (fun x y e=>by simp only [VJ] at e; simp only [e]) (m,c,x) hk) (by simp -implicitDefEqProofs only [VN,XP,seval])
theorem Dd (hir_form:T 222=some Bq) (hir_checker_places:T 223=some H5) (hir_checker_types:T 224=some I8) (hP:PEok ⟨A0,T,A2⟩):TC A0 176 C3:=C1 hP fun p h=>y1 hir_form hir_checker_places hir_checker_types h
def Rl (c:Cod) (e:Endd):Int :=
 if e.kind=1 then (if thereD e.to c.blocks.length=true then 0 else 11)
 else if e.kind=2 then (if thereD e.to c.blocks.length=true then (if thereD e.els c.blocks.length=true then (if thereD e.a c.regs.length=true then (if o9 c.regs e.a=1 then 0 else 6) else 11) else 11) else 11)
 else if e.kind=3 then (if e.a < 0 then (if c.ty=0 then 0 else 6) else (if thereD e.a c.regs.length=true then (if c.ty=0 then 6 else if o9 c.regs e.a=c.ty then 0 else 6) else 11)) else 2
set_option maxHeartbeats 8000000 in
theorem Bu (hir_there:T 225=some G3) {m:Modl} {c:Cod} {e:Endd}:AM.Comes ⟨A0,T,A2⟩ 177 [chkF m c,e.F] [.int .i64 (Rl c e)]:=by
 refine ⟨[.int .i64 (Rl c e)],⟨[],0,[]⟩,?_,B4 rfl List.nodup_nil rfl rfl rfl⟩
 rw [A7 (c:=oM) (nt:=100) (rs:=[.tmp 4]) rfl (by simp)]; unfold oM
 unfold K0
 have tt:=fun a n K=>Z0 (K:=K) (a:=a) (n:=n) hir_there
 have eb:=eH 4 rfl
 have rix:∀ k:Nat,e.a=k->k < c.regs.length->Ua aH (fslN (ints c.regs)) (.int .i64 e.a)=some (.fptr (.int .i64 (o9 c.regs e.a)) 0):=fun k hk hl=>by
  rw [hk]; exact ix_fslN (Gh hl) rfl
 have b1:(true == true)=true:=rfl
 have b2:(true == false)=false:=rfl
 have b3:(false == true)=false:=rfl
 have b4:(false == false)=true:=rfl
 unfold Rl
 simp only [Endd.F,chkF]
 by_cases e1:e.kind=1
 . cases h1:thereD e.to c.blocks.length with
   | true=>simp -implicitDefEqProofs only [tt,h1,eq_true e1,List.length_map,XP,seval]
   | false=>simp -implicitDefEqProofs only [tt,h1,eq_true e1,List.length_map,XP,seval]
 by_cases e2:e.kind=2
 . cases h1:thereD e.to c.blocks.length with
   | false=>simp -implicitDefEqProofs only [tt,h1,eq_false e1,eq_true e2,List.length_map,XP,seval]
   | true =>
    cases h2:thereD e.els c.blocks.length with
    | false=>simp -implicitDefEqProofs only [tt,h1,h2,eq_false e1,eq_true e2,List.length_map,XP,seval]
    | true =>
     cases h3:thereD e.a c.regs.length with
     | false=>simp -implicitDefEqProofs only [tt,h1,h2,h3,eq_false e1,eq_true e2,List.length_map,XP,seval]
     | true =>
      obtain ⟨k,hk,hl⟩:=F1 h3
      have hix:=rix k hk (by omega)
      by_cases hq:o9 c.regs e.a=1
      . simp -implicitDefEqProofs only [tt,h1,h2,h3,hix,eq_true hq,eq_false e1,eq_true e2,List.length_map,XP,seval]
      . simp -implicitDefEqProofs only [tt,h1,h2,h3,hix,eq_false hq,eq_false e1,eq_true e2,List.length_map,XP,seval]
 by_cases e3:e.kind=3
 . by_cases ha:e.a < 0
   . by_cases hv:c.ty=0
     . simp -implicitDefEqProofs only [tt,eb,b1,b2,b3,b4,eq_true ha,eq_true hv,eq_false e1,eq_false e2,eq_true e3,List.length_map,XP,seval]
     . simp -implicitDefEqProofs only [tt,eb,b1,b2,b3,b4,eq_true ha,eq_false hv,eq_false e1,eq_false e2,eq_true e3,List.length_map,XP,seval]
   . cases h3:thereD e.a c.regs.length with
     | false=>simp -implicitDefEqProofs only [tt,h3,eq_false ha,eq_false e1,eq_false e2,eq_true e3,List.length_map,XP,seval]
     | true =>
      obtain ⟨k,hk,hl⟩:=F1 h3
      have hix:=rix k hk (by omega)
      by_cases hv:c.ty=0
      . simp -implicitDefEqProofs only [tt,h3,eb,b1,b2,b3,b4,eq_false ha,eq_true hv,eq_false e1,eq_false e2,eq_true e3,List.length_map,XP,seval]
      . by_cases hq:o9 c.regs e.a=c.ty
        . simp -implicitDefEqProofs only [tt,h3,hix,eb,b1,b2,b3,b4,eq_false ha,eq_false hv,eq_true hq,eq_false e1,eq_false e2,eq_true e3,List.length_map,XP,seval]
        . simp -implicitDefEqProofs only [tt,h3,hix,eb,b1,b2,b3,b4,eq_false ha,eq_false hv,eq_false hq,eq_false e1,eq_false e2,eq_true e3,List.length_map,XP,seval]
 . simp -implicitDefEqProofs only [eq_false e1,eq_false e2,eq_false e3,List.length_map,XP,seval]
def G4:=U4 (fun p:(Modl) × (Cod) × (Endd)=>[chkF p.1 p.2.1,p.2.2.F]) (fun p=>[.int .i64 (Rl p.2.1 p.2.2)]) (fun p=>True)
theorem Ad (hir_checker_end:T 177=some G4) {m:Modl} {c:Cod} {e:Endd} {K:PK}:evP ⟨A0,T,A2⟩ (.call 177 [chkF m c,e.F] K)=some (.val (openTs K.os.length [.int .i64 (Rl c e)]).1 ⟨K.os ++ (openTs K.os.length [.int .i64 (Rl c e)]).2,K.ext,K.tch⟩):=B5 hir_checker_end (by simp -implicitDefEqProofs only [VV,XP,seval]) (C0 (a:=fun p:(Modl) × (Cod) × (Endd)=>[chkF p.1 p.2.1,p.2.2.F]) (r:=fun p=>[.int .i64 (Rl p.2.1 p.2.2)]) (fun x y e=>by simp only [VJ] at e; simp only [e]) (m,c,e) trivial) (by simp -implicitDefEqProofs only [VN,XP,seval])
theorem Gk (hir_there:T 225=some G3) (hP:PEok ⟨A0,T,A2⟩):TC A0 177 G4:=C1 hP fun p h=>Bu hir_there
def I1:List Int->Int
 | []=>0
 | e :: l=>if e=0 then I1 l else e
theorem err_loop {P:PE} {c:PC} {X:Type} {f:X->Int} {l:List X} {S:Nat->PF} {K:PK} {x:Nat} {Q:PF->Prop} {R:Int->PF->PK->Prop}
 (h1:∀ i (h:i < l.length),f l[i]=0->evP P (.code c (S i) K)=some (.ok .normal (S (i + 1)) K))
 (h2:∀ i (h:i < l.length),¬ f l[i]=0->∃ fr' K',evP P (.code c (S i) K)=some (.ok .ret fr' K')∧R (f l[i]) fr' K')
 (hx:∃ fr',evP P (.code c (S l.length) K)=some (.ok (.exit x) fr' K)∧Q fr') :
 (I1 (l.map f)=0∧∃ fr',evP P (.code (.loop c) (S 0) K)=some (.ok (.exit x) fr' K)∧Q fr')∨(¬ I1 (l.map f)=0∧∃ fr' K',evP P (.code (.loop c) (S 0) K)=some (.ok .ret fr' K')∧R (I1 (l.map f)) fr' K'):=by
 have key:∀ (n i:Nat),l.length=i + n->(I1 ((l.drop i).map f)=0∧∃ fr',evP P (.code (.loop c) (S i) K)=some (.ok (.exit x) fr' K)∧Q fr')∨(¬ I1 ((l.drop i).map f)=0∧∃ fr' K',evP P (.code (.loop c) (S i) K)=some (.ok .ret fr' K')∧R (I1 ((l.drop i).map f)) fr' K'):=fun n=>by
  induction n with
  | zero =>
   intro i e
   obtain rfl:i=l.length:=by omega
   obtain ⟨fr',h,q⟩:=hx
   exact .inl ⟨by rw [List.drop_length]; rfl,fr',loop_exit h,q⟩
  | succ n ih =>
   intro i e
   have hl:i < l.length:=by omega
   rw [List.drop_eq_getElem_cons hl,List.map_cons]
   unfold I1
   by_cases hq:f l[i]=0
   . rw [loop_more (h1 i hl hq),if_pos hq]
     exact ih (i + 1) (by omega)
   . obtain ⟨fr',K',q1,q2⟩:=h2 i hl hq
     rw [if_neg hq]
     exact .inr ⟨hq,fr',K',S9 q1,q2⟩
 exact key l.length 0 (by omega)
end
end Go.Proofs.AmEnv
set_option maxRecDepth 100000
namespace Go.Proofs.AmEnv
open Go Go.AM
variable {T:Nat->Option (List AV->Option (List AV))}
def Ins.sok (x:Ins):Prop:=x.ok∧x.s.length≤bigN
def Blk.sok (b:Blk):Prop:=b.ok∧∀ x∈b.code,x.sok
def Cod.sok (c:Cod):Prop:=c.ok∧∀ b∈c.blocks,b.sok
def Modl.ok (m:Modl):Prop:=(∀ c∈m.fs,c.sok)∧m.fs.length * 64≤bigN∧m.gs.length * 40≤bigN
section
variable {m:Modl} {c:Cod} {x:Ins} {b:Blk} {fr:PF} {i k:Nat} {tch:List Nat}
def Vq (m:Modl) (c:Cod) (b:Blk):Int:=if I1 (b.code.map (O5 m c))=0 then Rl c b.e else I1 (b.code.map (O5 m c))
def U3 (m:Modl) (c:Cod):Int :=
 if c.blocks.length < 1∨400 < c.blocks.length∨4096 < c.regs.length then 9 else if c.ps < 0∨(c.regs.length:Int) < c.ps then 11
 else if c.ty < 0∨2 < c.ty∨(c.regs.any fun n=>!E5 n)=true then 6 else I1 (c.blocks.map (Vq m c))
theorem CE (hT:T 176=some C3) (h:k < b.code.length) (hs:b.sok) (hp:O5 m c b.code[k]=0) :
 evP ⟨A0,T,A2⟩ (.code m3 [(1,.ptr 0 0 0),(5,.ptr 1 0 0),(56,fslN (c.blocks.map Blk.F)),(57,.int .i64 (c.blocks.length:Int)),(58,.int .i64 (i:Int)),(63,fslN (b.code.map Ins.F)),(64,.int .i64 (b.code.length:Int)),(65,.int .i64 (k:Int))] ⟨[.row 1 [chkF m c] 7,.row 1 [b.F] 5],0,[]⟩)=some (.ok .normal [(1,.ptr 0 0 0),(5,.ptr 1 0 0),(56,fslN (c.blocks.map Blk.F)),(57,.int .i64 (c.blocks.length:Int)),(58,.int .i64 (i:Int)),(63,fslN (b.code.map Ins.F)),(64,.int .i64 (b.code.length:Int)),(65,.int .i64 ((k + 1:Nat):Int))] ⟨[.row 1 [chkF m c] 7,.row 1 [b.F] 5],0,[]⟩):=by
 unfold m3
 have hlt:decide ((k:Int) < (b.code.length:Int))=true:=by simp [h]
 have hw:=A9 (i:=k) (by have:=hs.1.2; simp only [bigN] at this; omega)
 have t:=fun K=>k9 (K:=K) (m:=m) (c:=c) (x:=b.code[k]) hT (hs.2 _ (List.getElem_mem h))
 rw [hp] at t
 have hi:=B1 (F:=Ins.F) h
 simp only [Ins.F,chkF,Blk.F] at t hi ⊢
 simp -implicitDefEqProofs only [hlt,hi,hw,t,XP,seval]
theorem CF (hT:T 176=some C3) (h:k < b.code.length) (hs:b.sok) (hp:¬ O5 m c b.code[k]=0) :
 evP ⟨A0,T,A2⟩ (.code m3 [(1,.ptr 0 0 0),(5,.ptr 1 0 0),(56,fslN (c.blocks.map Blk.F)),(57,.int .i64 (c.blocks.length:Int)),(58,.int .i64 (i:Int)),(63,fslN (b.code.map Ins.F)),(64,.int .i64 (b.code.length:Int)),(65,.int .i64 (k:Int))] ⟨[.row 1 [chkF m c] 7,.row 1 [b.F] 5],0,[]⟩)=some (.ok .ret [(2,.int .i64 (O5 m c b.code[k]))] ⟨[],0,[]⟩):=by
 unfold m3
 have hlt:decide ((k:Int) < (b.code.length:Int))=true:=by simp [h]
 have t:=fun K=>k9 (K:=K) (m:=m) (c:=c) (x:=b.code[k]) hT (hs.2 _ (List.getElem_mem h))
 have hi:=B1 (F:=Ins.F) h
 simp only [Ins.F,chkF,Blk.F] at t hi ⊢
 simp -implicitDefEqProofs only [hlt,hi,t,eq_false hp,XP,seval]
theorem CG:∃ fr',evP ⟨A0,T,A2⟩ (.code m3 [(1,.ptr 0 0 0),(5,.ptr 1 0 0),(56,fslN (c.blocks.map Blk.F)),(57,.int .i64 (c.blocks.length:Int)),(58,.int .i64 (i:Int)),(63,fslN (b.code.map Ins.F)),(64,.int .i64 (b.code.length:Int)),(65,.int .i64 (b.code.length:Int))] ⟨[.row 1 [chkF m c] 7,.row 1 [b.F] 5],0,[]⟩)=some (.ok (.exit 3) fr' ⟨[.row 1 [chkF m c] 7,.row 1 [b.F] 5],0,[]⟩)∧(lookP fr' 1=.ptr 0 0 0∧lookP fr' 5=.ptr 1 0 0∧lookP fr' 56=fslN (c.blocks.map Blk.F)∧lookP fr' 57=.int .i64 (c.blocks.length:Int)∧lookP fr' 58=.int .i64 (i:Int)):=by
 unfold m3
 have hlt:decide ((b.code.length:Int) < (b.code.length:Int))=false:=by simp
 simp -implicitDefEqProofs only [hlt,XP,seval]
 exact ⟨_,rfl,rfl,rfl,rfl,rfl,rfl⟩
theorem cdi_l (hT:T 176=some C3) (hs:b.sok) :
 (I1 (b.code.map (O5 m c))=0∧∃ fr',evP ⟨A0,T,A2⟩ (.code (.loop m3) [(1,.ptr 0 0 0),(5,.ptr 1 0 0),(56,fslN (c.blocks.map Blk.F)),(57,.int .i64 (c.blocks.length:Int)),(58,.int .i64 (i:Int)),(63,fslN (b.code.map Ins.F)),(64,.int .i64 (b.code.length:Int)),(65,.int .i64 0)] ⟨[.row 1 [chkF m c] 7,.row 1 [b.F] 5],0,[]⟩)=some (.ok (.exit 3) fr' ⟨[.row 1 [chkF m c] 7,.row 1 [b.F] 5],0,[]⟩)∧(lookP fr' 1=.ptr 0 0 0∧lookP fr' 5=.ptr 1 0 0∧lookP fr' 56=fslN (c.blocks.map Blk.F)∧lookP fr' 57=.int .i64 (c.blocks.length:Int)∧lookP fr' 58=.int .i64 (i:Int))) ∨
 (¬ I1 (b.code.map (O5 m c))=0∧evP ⟨A0,T,A2⟩ (.code (.loop m3) [(1,.ptr 0 0 0),(5,.ptr 1 0 0),(56,fslN (c.blocks.map Blk.F)),(57,.int .i64 (c.blocks.length:Int)),(58,.int .i64 (i:Int)),(63,fslN (b.code.map Ins.F)),(64,.int .i64 (b.code.length:Int)),(65,.int .i64 0)] ⟨[.row 1 [chkF m c] 7,.row 1 [b.F] 5],0,[]⟩)=some (.ok .ret [(2,.int .i64 (I1 (b.code.map (O5 m c))))] ⟨[],0,[]⟩)):=by
 rcases err_loop (P:=⟨A0,T,A2⟩) (c:=m3) (f:=O5 m c) (l:=b.code) (S:=fun k=>[(1,.ptr 0 0 0),(5,.ptr 1 0 0),(56,fslN (c.blocks.map Blk.F)),(57,.int .i64 (c.blocks.length:Int)),(58,.int .i64 (i:Int)),(63,fslN (b.code.map Ins.F)),(64,.int .i64 (b.code.length:Int)),(65,.int .i64 (k:Int))]) (K:=⟨[.row 1 [chkF m c] 7,.row 1 [b.F] 5],0,[]⟩) (Q:=fun fr'=>lookP fr' 1=.ptr 0 0 0∧lookP fr' 5=.ptr 1 0 0∧lookP fr' 56=fslN (c.blocks.map Blk.F)∧lookP fr' 57=.int .i64 (c.blocks.length:Int)∧lookP fr' 58=.int .i64 (i:Int)) (R:=fun e fr' K'=>fr'=[(2,.int .i64 e)]∧K'=⟨[],0,[]⟩)
  (fun k h hp=>CE hT h hs hp) (fun k h hp=>⟨_,_,CF hT h hs hp,rfl,rfl⟩) CG with h | ⟨h,fr',K',q,rfl,rfl⟩
 . exact .inl h
 . exact .inr ⟨h,q⟩
theorem CH (hT:T 176=some C3) (hE:T 177=some G4) (h:i < c.blocks.length) (hs:c.sok) (hp:Vq m c c.blocks[i]=0) :
 evP ⟨A0,T,A2⟩ (.code b9 [(1,.ptr 0 0 0),(56,fslN (c.blocks.map Blk.F)),(57,.int .i64 (c.blocks.length:Int)),(58,.int .i64 (i:Int))] ⟨[.row 1 [chkF m c] 7],0,[]⟩)=some (.ok .normal [(1,.ptr 0 0 0),(56,fslN (c.blocks.map Blk.F)),(57,.int .i64 (c.blocks.length:Int)),(58,.int .i64 ((i + 1:Nat):Int))] ⟨[.row 1 [chkF m c] 7],0,[]⟩):=by
 have hb:=hs.2 _ (List.getElem_mem h)
 have hlt:decide ((i:Int) < (c.blocks.length:Int))=true:=by simp [h]
 have hw:=A9 (i:=i) (by have:=hs.1.2.2; simp only [bigN] at this; omega)
 have hi:=B1 (F:=Blk.F) h
 have t:=fun K=>Ad (K:=K) (m:=m) (c:=c) (e:=c.blocks[i].e) hE
 unfold Vq at hp
 rcases cdi_l (m:=m) (c:=c) (i:=i) hT hb with ⟨q,fr',h1,h2,h3,h4,h5,h6⟩ | ⟨q,h1⟩
 . rw [if_pos q] at hp
   rw [hp] at t
   unfold b9
   simp only [chkF,Blk.F,Endd.F] at h1 hi t ⊢
   simp -implicitDefEqProofs only [hlt,hi,hw,h1,h2,h3,h4,h5,h6,t,List.length_map,XP,seval]
 . rw [if_neg q] at hp; exact absurd hp q
theorem CI (hT:T 176=some C3) (hE:T 177=some G4) (h:i < c.blocks.length) (hs:c.sok) (hp:¬ Vq m c c.blocks[i]=0) :
 evP ⟨A0,T,A2⟩ (.code b9 [(1,.ptr 0 0 0),(56,fslN (c.blocks.map Blk.F)),(57,.int .i64 (c.blocks.length:Int)),(58,.int .i64 (i:Int))] ⟨[.row 1 [chkF m c] 7],0,[]⟩)=some (.ok .ret [(2,.int .i64 (Vq m c c.blocks[i]))] ⟨[],0,[]⟩):=by
 have hb:=hs.2 _ (List.getElem_mem h)
 have hlt:decide ((i:Int) < (c.blocks.length:Int))=true:=by simp [h]
 have hi:=B1 (F:=Blk.F) h
 have t:=fun K=>Ad (K:=K) (m:=m) (c:=c) (e:=c.blocks[i].e) hE
 unfold Vq at hp ⊢
 rcases cdi_l (m:=m) (c:=c) (i:=i) hT hb with ⟨q,fr',h1,h2,h3,h4,h5,h6⟩ | ⟨q,h1⟩
 . rw [if_pos q] at hp ⊢
   unfold b9
   simp only [chkF,Blk.F,Endd.F] at h1 hi t ⊢
   simp -implicitDefEqProofs only [hlt,hi,h1,h2,h3,h4,h5,h6,t,eq_false hp,List.length_map,XP,seval]
 . rw [if_neg q]
   unfold b9
   simp only [chkF,Blk.F] at h1 hi ⊢
   simp -implicitDefEqProofs only [hlt,hi,h1,List.length_map,XP,seval]
theorem CJ:∃ fr',evP ⟨A0,T,A2⟩ (.code b9 [(1,.ptr 0 0 0),(56,fslN (c.blocks.map Blk.F)),(57,.int .i64 (c.blocks.length:Int)),(58,.int .i64 (c.blocks.length:Int))] ⟨[.row 1 [chkF m c] 7],0,[]⟩)=some (.ok (.exit 1) fr' ⟨[.row 1 [chkF m c] 7],0,[]⟩)∧True:=by
 unfold b9
 have hlt:decide ((c.blocks.length:Int) < (c.blocks.length:Int))=false:=by simp
 simp -implicitDefEqProofs only [hlt,XP,seval]
 exact ⟨_,rfl⟩
set_option maxHeartbeats 8000000 in
theorem Ag (hir_checker_instr:T 176=some C3) (hir_checker_end:T 177=some G4) (hir_checker_code_1:T 175=some C4) (nIdxFInts:T 221=none) (nContFInts:T 174=none) {m:Modl} {c:Cod} (hk:c.sok):AM.Comes ⟨A0,T,A2⟩ 112 [chkF m c] [.int .i64 (U3 m c)]:=by
 refine ⟨[.int .i64 (U3 m c)],⟨[],0,[]⟩,?_,B4 rfl List.nodup_nil rfl rfl rfl⟩
 rw [A7 (c:=oA) (nt:=84) (rs:=[.tmp 2]) rfl (by simp)]; unfold oA
 unfold K0
 have hl:c.regs.length≤bigN:=by have:=hk.1.1; simp only [bigN] at this ⊢; omega
 have tc:=fun K=>Ov (l:=c.regs) hir_checker_code_1 nIdxFInts nContFInts hl K
 have lp:=err_loop (P:=⟨A0,T,A2⟩) (c:=b9) (f:=Vq m c) (l:=c.blocks) (S:=fun i=>[(1,.ptr 0 0 0),(56,fslN (c.blocks.map Blk.F)),(57,.int .i64 (c.blocks.length:Int)),(58,.int .i64 (i:Int))]) (K:=⟨[.row 1 [chkF m c] 7],0,[]⟩) (Q:=fun fr'=>True) (R:=fun e fr' K'=>fr'=[(2,.int .i64 e)]∧K'=⟨[],0,[]⟩)
  (fun k h hp=>CH hir_checker_instr hir_checker_end h hk hp) (fun k h hp=>⟨_,_,CI hir_checker_instr hir_checker_end h hk hp,rfl,rfl⟩) CJ
 unfold U3
 simp only [chkF] at tc lp ⊢
 have q400:decide ((400:Int) < (c.blocks.length:Int))=decide (400 < c.blocks.length):=decide_eq_decide.2 (by omega)
 have q4096:decide ((4096:Int) < (c.regs.length:Int))=decide (4096 < c.regs.length):=decide_eq_decide.2 (by omega)
 have q1':decide ((c.blocks.length:Int) < 1)=decide (c.blocks.length < 1):=decide_eq_decide.2 (by omega)
 by_cases q1:c.blocks.length < 1
 . simp -implicitDefEqProofs only [eq_true q1,q1',q400,q4096,List.length_map,XP,seval]
 by_cases q2:400 < c.blocks.length
 . simp -implicitDefEqProofs only [eq_false q1,eq_true q2,q1',q400,q4096,List.length_map,XP,seval]
 by_cases q3:4096 < c.regs.length
 . simp -implicitDefEqProofs only [eq_false q1,eq_false q2,eq_true q3,q1',q400,q4096,List.length_map,XP,seval]
 by_cases q4:c.ps < 0
 . simp -implicitDefEqProofs only [eq_false q1,eq_false q2,eq_false q3,eq_true q4,q1',q400,q4096,List.length_map,XP,seval]
 by_cases q5:(c.regs.length:Int) < c.ps
 . simp -implicitDefEqProofs only [eq_false q1,eq_false q2,eq_false q3,eq_false q4,eq_true q5,q1',q400,q4096,List.length_map,XP,seval]
 by_cases q6:c.ty < 0
 . simp -implicitDefEqProofs only [eq_false q1,eq_false q2,eq_false q3,eq_false q4,eq_false q5,eq_true q6,q1',q400,q4096,List.length_map,XP,seval]
 by_cases q7:2 < c.ty
 . simp -implicitDefEqProofs only [eq_false q1,eq_false q2,eq_false q3,eq_false q4,eq_false q5,eq_false q6,eq_true q7,q1',q400,q4096,List.length_map,XP,seval]
 cases q8:(c.regs.any fun n=>!E5 n) with
 | true=>simp -implicitDefEqProofs only [eq_false q1,eq_false q2,eq_false q3,eq_false q4,eq_false q5,eq_false q6,eq_false q7,tc,q8,q1',q400,q4096,List.length_map,XP,seval]
 | false =>
  rcases lp with ⟨q,fr',h1,_⟩ | ⟨q,fr',K',h1,rfl,rfl⟩
  . have h1:evP ⟨A0,T,A2⟩ (.code (.loop b9) [(1,.ptr 0 0 0),(56,fslN (c.blocks.map Blk.F)),(57,.int .i64 (c.blocks.length:Int)),(58,.int .i64 0)] _)=_:=h1
    simp -implicitDefEqProofs only [eq_false q1,eq_false q2,eq_false q3,eq_false q4,eq_false q5,eq_false q6,eq_false q7,tc,q8,q,h1,q1',q400,q4096,List.length_map,XP,seval]
  . have h1:evP ⟨A0,T,A2⟩ (.code (.loop b9) [(1,.ptr 0 0 0),(56,fslN (c.blocks.map Blk.F)),(57,.int .i64 (c.blocks.length:Int)),(58,.int .i64 0)] _)=_:=h1
    simp -implicitDefEqProofs only [eq_false q1,eq_false q2,eq_false q3,eq_false q4,eq_false q5,eq_false q6,eq_false q7,tc,q8,h1,q1',q400,q4096,List.length_map,XP,seval]
def F2:=U4 (fun p:(Modl) × (Cod)=>[chkF p.1 p.2]) (fun p=>[.int .i64 (U3 p.1 p.2)]) (fun p=>p.2.sok)
theorem t8 (hir_checker_code:T 112=some F2) {m:Modl} {c:Cod} {K:PK} (hk:c.sok):evP ⟨A0,T,A2⟩ (.call 112 [chkF m c] K)=some (.val (openTs K.os.length [.int .i64 (U3 m c)]).1 ⟨K.os ++ (openTs K.os.length [.int .i64 (U3 m c)]).2,K.ext,K.tch⟩):=B5 hir_checker_code (by simp -implicitDefEqProofs only [VV,XP,seval]) (C0 (a:=fun p:(Modl) × (Cod)=>[chkF p.1 p.2]) (r:=fun p=>[.int .i64 (U3 p.1 p.2)]) (fun x y e=>by simp only [VJ] at e; simp only [e]) (m,c) hk) (by simp -implicitDefEqProofs only [VN,XP,seval])
theorem Ej (hir_checker_instr:T 176=some C3) (hir_checker_end:T 177=some G4) (hir_checker_code_1:T 175=some C4) (nIdxFInts:T 221=none) (nContFInts:T 174=none) (hP:PEok ⟨A0,T,A2⟩):TC A0 112 F2:=C1 hP fun p h=>Ag hir_checker_instr hir_checker_end hir_checker_code_1 nIdxFInts nContFInts h
end
end Go.Proofs.AmEnv
set_option maxRecDepth 100000
namespace Go.Proofs.AmEnv
open Go Go.AM
variable {T:Nat->Option (List AV->Option (List AV))}
section
variable {m:Modl} {c:Cod} {g:Glo} {i k:Nat}
def Vr (g:Glo):Int:=if E5 g.ty=true then 0 else if g.ty=3 then (if g.size < 1 then 6 else 0) else 6
def Bv (m:Modl):Int:=idxOf (fun c:Cod=>decide (c.name=B2)) m.fs
def tT (m:Modl):Int:=if Bv m < 0 then 12 else if (codI m.fs (Bv m)).ty=1 then (if (codI m.fs (Bv m)).ps=0 then 0 else 12) else 12
def d9 (m:Modl):Int:=if I1 (m.gs.map Vr)=0 then (if I1 (m.fs.map (U3 m))=0 then tT m else I1 (m.fs.map (U3 m))) else I1 (m.gs.map Vr)
theorem CK (hT:T 111=some L3) (h:i < m.gs.length) (hs:m.gs.length≤bigN) (hp:Vr m.gs[i]=0) :
 evP ⟨A0,T,A2⟩ (.code Do [(1,.ptr 0 0 0),(10,fslN (m.gs.map Glo.F)),(11,.int .i64 (m.gs.length:Int)),(12,.int .i64 (i:Int))] ⟨[.row 1 [m.F] 2],0,[]⟩)=some (.ok .normal [(1,.ptr 0 0 0),(10,fslN (m.gs.map Glo.F)),(11,.int .i64 (m.gs.length:Int)),(12,.int .i64 ((i + 1:Nat):Int))] ⟨[.row 1 [m.F] 2],0,[]⟩):=by
 unfold Do
 have hlt:decide ((i:Int) < (m.gs.length:Int))=true:=by simp [h]
 have hw:=A9 (i:=i) (by simp only [bigN] at hs; omega)
 have t:=fun K=>Eg (K:=K) (n:=m.gs[i].ty) hT
 have hi:=B1 (F:=Glo.F) h
 unfold Vr at hp
 simp only [Glo.F,Modl.F] at t hi ⊢
 cases q:E5 m.gs[i].ty with
 | true=>rw [q] at t; simp -implicitDefEqProofs only [hlt,hi,hw,t,XP,seval]
 | false =>
  rw [q] at t hp
  by_cases q3:m.gs[i].ty=3
  . by_cases q4:m.gs[i].size < 1
    . rw [if_neg (by decide),if_pos q3,if_pos q4] at hp; cases hp
    . simp -implicitDefEqProofs only [hlt,hi,hw,t,eq_true q3,eq_false q4,XP,seval]
  . rw [if_neg (by decide),if_neg q3] at hp; cases hp
theorem CL (hT:T 111=some L3) (h:i < m.gs.length) (hp:¬ Vr m.gs[i]=0) :
 evP ⟨A0,T,A2⟩ (.code Do [(1,.ptr 0 0 0),(10,fslN (m.gs.map Glo.F)),(11,.int .i64 (m.gs.length:Int)),(12,.int .i64 (i:Int))] ⟨[.row 1 [m.F] 2],0,[]⟩)=some (.ok .ret [(2,.int .i64 (Vr m.gs[i]))] ⟨[],0,[]⟩):=by
 unfold Do
 have hlt:decide ((i:Int) < (m.gs.length:Int))=true:=by simp [h]
 have t:=fun K=>Eg (K:=K) (n:=m.gs[i].ty) hT
 have hi:=B1 (F:=Glo.F) h
 unfold Vr at hp ⊢
 simp only [Glo.F,Modl.F] at t hi ⊢
 cases q:E5 m.gs[i].ty with
 | true=>rw [q] at hp; exact absurd rfl hp
 | false =>
  rw [q] at t hp
  by_cases q3:m.gs[i].ty=3
  . by_cases q4:m.gs[i].size < 1
    . simp -implicitDefEqProofs only [hlt,hi,t,eq_true q3,eq_true q4,XP,seval]
    . rw [if_neg (by decide),if_pos q3,if_neg q4] at hp; exact absurd rfl hp
  . simp -implicitDefEqProofs only [hlt,hi,t,eq_false q3,XP,seval]
theorem CM:∃ fr',evP ⟨A0,T,A2⟩ (.code Do [(1,.ptr 0 0 0),(10,fslN (m.gs.map Glo.F)),(11,.int .i64 (m.gs.length:Int)),(12,.int .i64 (m.gs.length:Int))] ⟨[.row 1 [m.F] 2],0,[]⟩)=some (.ok (.exit 0) fr' ⟨[.row 1 [m.F] 2],0,[]⟩)∧lookP fr' 1=.ptr 0 0 0:=by
 unfold Do
 have hlt:decide ((m.gs.length:Int) < (m.gs.length:Int))=false:=by simp
 simp -implicitDefEqProofs only [hlt,XP,seval]
 exact ⟨_,rfl,rfl⟩
theorem CN (hT:T 112=some F2) (h:i < m.fs.length) (hs:m.ok) (hp:U3 m m.fs[i]=0) :
 evP ⟨A0,T,A2⟩ (.code Dp [(1,.ptr 0 0 0),(32,fslN (m.fs.map Cod.F)),(33,.int .i64 (m.fs.length:Int)),(34,.int .i64 (i:Int))] ⟨[.row 1 [m.F] 2],0,[]⟩)=some (.ok .normal [(1,.ptr 0 0 0),(32,fslN (m.fs.map Cod.F)),(33,.int .i64 (m.fs.length:Int)),(34,.int .i64 ((i + 1:Nat):Int))] ⟨[.row 1 [m.F] 2],0,[]⟩):=by
 unfold Dp
 have hlt:decide ((i:Int) < (m.fs.length:Int))=true:=by simp [h]
 have hw:=A9 (i:=i) (by have:=hs.2.1; simp only [bigN] at this; omega)
 have t:=fun K=>t8 (K:=K) (m:=m) (c:=m.fs[i]) hT (hs.1 _ (List.getElem_mem h))
 rw [hp] at t
 have hi:=B1 (F:=Cod.F) h
 simp only [Cod.F,Modl.F,chkF] at t hi ⊢
 simp -implicitDefEqProofs only [hlt,hi,hw,t,XP,seval]
theorem CO (hT:T 112=some F2) (h:i < m.fs.length) (hs:m.ok) (hp:¬ U3 m m.fs[i]=0) :
 evP ⟨A0,T,A2⟩ (.code Dp [(1,.ptr 0 0 0),(32,fslN (m.fs.map Cod.F)),(33,.int .i64 (m.fs.length:Int)),(34,.int .i64 (i:Int))] ⟨[.row 1 [m.F] 2],0,[]⟩)=some (.ok .ret [(2,.int .i64 (U3 m m.fs[i]))] ⟨[],0,[]⟩):=by
 unfold Dp
 have hlt:decide ((i:Int) < (m.fs.length:Int))=true:=by simp [h]
 have t:=fun K=>t8 (K:=K) (m:=m) (c:=m.fs[i]) hT (hs.1 _ (List.getElem_mem h))
 have hi:=B1 (F:=Cod.F) h
 simp only [Cod.F,Modl.F,chkF] at t hi ⊢
 simp -implicitDefEqProofs only [hlt,hi,t,eq_false hp,XP,seval]
theorem CP:∃ fr',evP ⟨A0,T,A2⟩ (.code Dp [(1,.ptr 0 0 0),(32,fslN (m.fs.map Cod.F)),(33,.int .i64 (m.fs.length:Int)),(34,.int .i64 (m.fs.length:Int))] ⟨[.row 1 [m.F] 2],0,[]⟩)=some (.ok (.exit 2) fr' ⟨[.row 1 [m.F] 2],0,[]⟩)∧lookP fr' 1=.ptr 0 0 0:=by
 unfold Dp
 have hlt:decide ((m.fs.length:Int) < (m.fs.length:Int))=false:=by simp
 simp -implicitDefEqProofs only [hlt,XP,seval]
 exact ⟨_,rfl,rfl⟩
theorem lF {X:Type} {p:X->Bool} {l:List X} (h:¬ idxOf p l < 0):∃ k:Nat,idxOf p l=k∧∃ hk:k < l.length,p l[k]=true:=by
 unfold idxOf at h ⊢
 cases q:l.findIdx? p with
 | none=>rw [q] at h; exact absurd (by decide) h
 | some i =>
  rw [List.findIdx?_eq_some_iff_getElem] at q
  exact ⟨i,rfl,q.1,q.2.1⟩
set_option maxHeartbeats 8000000 in
theorem Pa (hir_number:T 111=some L3) (hir_checker_code:T 112=some F2) (hir_mainOf:T 113=some c9) {m:Modl} (hk:m.ok):AM.Comes ⟨A0,T,A2⟩ 40 [m.F] [.int .i64 (d9 m)]:=by
 refine ⟨[.int .i64 (d9 m)],⟨[],0,[]⟩,?_,B4 rfl List.nodup_nil rfl rfl rfl⟩
 rw [A7 (c:=GV) (nt:=68) (rs:=[.tmp 2]) rfl (by simp)]; unfold GV
 unfold K0
 have hgl:m.gs.length≤bigN:=by have:=hk.2.2; simp only [bigN] at this ⊢; omega
 have hfl:m.fs.length≤bigN:=by have:=hk.2.1; simp only [bigN] at this ⊢; omega
 have tm:=fun K=>bW (K:=K) (m:=m) hir_mainOf hfl
 have tm:∀ K:PK,evP ⟨A0,T,A2⟩ (.call 113 [m.F] K)=some (.val (openTs K.os.length [.int .i64 (Bv m)]).1 ⟨K.os ++ (openTs K.os.length [.int .i64 (Bv m)]).2,K.ext,K.tch⟩):=tm
 have l1:=err_loop (P:=⟨A0,T,A2⟩) (c:=Do) (f:=Vr) (l:=m.gs) (S:=fun i=>[(1,.ptr 0 0 0),(10,fslN (m.gs.map Glo.F)),(11,.int .i64 (m.gs.length:Int)),(12,.int .i64 (i:Int))]) (K:=⟨[.row 1 [m.F] 2],0,[]⟩) (Q:=fun fr'=>lookP fr' 1=.ptr 0 0 0) (R:=fun e fr' K'=>fr'=[(2,.int .i64 e)]∧K'=⟨[],0,[]⟩)
  (fun k h hp=>CK hir_number h hgl hp) (fun k h hp=>⟨_,_,CL hir_number h hp,rfl,rfl⟩) CM
 have l2:=err_loop (P:=⟨A0,T,A2⟩) (c:=Dp) (f:=U3 m) (l:=m.fs) (S:=fun i=>[(1,.ptr 0 0 0),(32,fslN (m.fs.map Cod.F)),(33,.int .i64 (m.fs.length:Int)),(34,.int .i64 (i:Int))]) (K:=⟨[.row 1 [m.F] 2],0,[]⟩) (Q:=fun fr'=>lookP fr' 1=.ptr 0 0 0) (R:=fun e fr' K'=>fr'=[(2,.int .i64 e)]∧K'=⟨[],0,[]⟩)
  (fun k h hp=>CN hir_checker_code h hk hp) (fun k h hp=>⟨_,_,CO hir_checker_code h hk hp,rfl,rfl⟩) CP
 unfold d9
 simp only [Modl.F] at tm l1 l2 ⊢
 rcases l1 with ⟨q,fr',h1,h2⟩ | ⟨q,fr',K',h1,rfl,rfl⟩
 . have h1:evP ⟨A0,T,A2⟩ (.code (.loop Do) [(1,.ptr 0 0 0),(10,fslN (m.gs.map Glo.F)),(11,.int .i64 (m.gs.length:Int)),(12,.int .i64 0)] _)=_:=h1
   rw [if_pos q]
   rcases l2 with ⟨q2,fr2,h3,h4⟩ | ⟨q2,fr2,K2,h3,rfl,rfl⟩
   . have h3:evP ⟨A0,T,A2⟩ (.code (.loop Dp) [(1,.ptr 0 0 0),(32,fslN (m.fs.map Cod.F)),(33,.int .i64 (m.fs.length:Int)),(34,.int .i64 0)] _)=_:=h3
     rw [if_pos q2]
     unfold tT
     by_cases hm:Bv m < 0
     . simp -implicitDefEqProofs only [h1,h2,h3,h4,tm,eq_true hm,List.length_map,XP,seval]
     . obtain ⟨k,hk1,hk2,_⟩:=lF hm
       have hi:=Gi hk2
       have hk1:Bv m=k:=hk1
       have hix:Ua Bi (fslN (m.fs.map Cod.F)) (.int .i64 (Bv m))=some (.fptr (codI m.fs (Bv m)).F 0):=by
        rw [hk1]; exact ix_fslN hi rfl
       simp only [Cod.F] at hix
       by_cases h5:(codI m.fs (Bv m)).ty=1
       . by_cases h6:(codI m.fs (Bv m)).ps=0
         . simp -implicitDefEqProofs only [h1,h2,h3,h4,tm,eq_false hm,hix,eq_true h5,eq_true h6,List.length_map,XP,seval]
         . simp -implicitDefEqProofs only [h1,h2,h3,h4,tm,eq_false hm,hix,eq_true h5,eq_false h6,List.length_map,XP,seval]
       . simp -implicitDefEqProofs only [h1,h2,h3,h4,tm,eq_false hm,hix,eq_false h5,List.length_map,XP,seval]
   . have h3:evP ⟨A0,T,A2⟩ (.code (.loop Dp) [(1,.ptr 0 0 0),(32,fslN (m.fs.map Cod.F)),(33,.int .i64 (m.fs.length:Int)),(34,.int .i64 0)] _)=_:=h3
     rw [if_neg q2]
     simp -implicitDefEqProofs only [h1,h2,h3,List.length_map,XP,seval]
 . have h1:evP ⟨A0,T,A2⟩ (.code (.loop Do) [(1,.ptr 0 0 0),(10,fslN (m.gs.map Glo.F)),(11,.int .i64 (m.gs.length:Int)),(12,.int .i64 0)] _)=_:=h1
   rw [if_neg q]
   simp -implicitDefEqProofs only [h1,List.length_map,XP,seval]
def u3:=U4 (fun p:(Modl)=>[p.F]) (fun p=>[.int .i64 (d9 p)]) (fun p=>p.ok)
theorem hO (hir_Check:T 40=some u3) {m:Modl} {K:PK} (hk:m.ok):evP ⟨A0,T,A2⟩ (.call 40 [m.F] K)=some (.val (openTs K.os.length [.int .i64 (d9 m)]).1 ⟨K.os ++ (openTs K.os.length [.int .i64 (d9 m)]).2,K.ext,K.tch⟩):=B5 hir_Check (by simp -implicitDefEqProofs only [VV,XP,seval]) (C0 (a:=fun p:(Modl)=>[p.F]) (r:=fun p=>[.int .i64 (d9 p)]) (fun x y e=>by simp only [VJ] at e; simp only [e]) (m) hk) (by simp -implicitDefEqProofs only [VN,XP,seval])
theorem Yv (hir_number:T 111=some L3) (hir_checker_code:T 112=some F2) (hir_mainOf:T 113=some c9) (hP:PEok ⟨A0,T,A2⟩):TC A0 40 u3:=C1 hP fun p h=>Pa hir_number hir_checker_code hir_mainOf h
end
end Go.Proofs.AmEnv
set_option maxRecDepth 100000
namespace Go.Proofs.AmEnv
open Go Go.AM
variable {T:Nat->Option (List AV->Option (List AV))}
def Pb {A X ρ:Type} (f:A->X->A ⊕ ρ):A->List X->A ⊕ ρ
 | a,[]=>.inl a
 | a,x :: l=>match f a x with | .inl a=>Pb f a l | .inr r=>.inr r
theorem cB {P:PE} {c:PC} {A X ρ:Type} {f:A->X->A ⊕ ρ} {l:List X} {S:Nat->A->PF} {K:A->PK} {x:Nat} {Q:A->PF->Prop} {R:ρ->PF->PK->Prop}
 (h1:∀ i a a' (h:i < l.length),f a l[i]=.inl a'->evP P (.code c (S i a) (K a))=some (.ok .normal (S (i + 1) a') (K a')))
 (h2:∀ i a r (h:i < l.length),f a l[i]=.inr r->∃ fr' K',evP P (.code c (S i a) (K a))=some (.ok .ret fr' K')∧R r fr' K')
 (hx:∀ a,∃ fr',evP P (.code c (S l.length a) (K a))=some (.ok (.exit x) fr' (K a))∧Q a fr') (a:A) :
 (∃ a',Pb f a l=.inl a'∧∃ fr',evP P (.code (.loop c) (S 0 a) (K a))=some (.ok (.exit x) fr' (K a'))∧Q a' fr')∨(∃ r,Pb f a l=.inr r∧∃ fr' K',evP P (.code (.loop c) (S 0 a) (K a))=some (.ok .ret fr' K')∧R r fr' K'):=by
 have key:∀ (n i:Nat) (a:A),l.length=i + n->(∃ a',Pb f a (l.drop i)=.inl a'∧∃ fr',evP P (.code (.loop c) (S i a) (K a))=some (.ok (.exit x) fr' (K a'))∧Q a' fr')∨(∃ r,Pb f a (l.drop i)=.inr r∧∃ fr' K',evP P (.code (.loop c) (S i a) (K a))=some (.ok .ret fr' K')∧R r fr' K'):=fun n=>by
  induction n with
  | zero =>
   intro i a e
   obtain rfl:i=l.length:=by omega
   obtain ⟨fr',h,q⟩:=hx a
   exact .inl ⟨a,by rw [List.drop_length]; rfl,fr',loop_exit h,q⟩
  | succ n ih =>
   intro i a e
   have hl:i < l.length:=by omega
   rw [List.drop_eq_getElem_cons hl]
   unfold Pb
   cases hq:f a l[i] with
   | inl a'=>rw [loop_more (h1 i a a' hl hq)]; exact ih (i + 1) a' (by omega)
   | inr r =>
    obtain ⟨fr',K',q1,q2⟩:=h2 i a r hl hq
    exact .inr ⟨r,rfl,fr',K',S9 q1,q2⟩
 exact key l.length 0 a (by omega)
theorem Cs {P:PE} {c:PC} {A X:Type} {f:A->X->A} {l:List X} {S:Nat->A->PF} {K:A->PK} {x:Nat} {Q:A->PF->Prop}
 (h1:∀ i a (h:i < l.length),evP P (.code c (S i a) (K a))=some (.ok .normal (S (i + 1) (f a l[i])) (K (f a l[i]))))
 (hx:∀ a,∃ fr',evP P (.code c (S l.length a) (K a))=some (.ok (.exit x) fr' (K a))∧Q a fr') (a:A) :
 ∃ fr',evP P (.code (.loop c) (S 0 a) (K a))=some (.ok (.exit x) fr' (K (l.foldl f a)))∧Q (l.foldl f a) fr':=by
 have key:∀ (n i:Nat) (a:A),l.length=i + n->∃ fr',evP P (.code (.loop c) (S i a) (K a))=some (.ok (.exit x) fr' (K ((l.drop i).foldl f a)))∧Q ((l.drop i).foldl f a) fr':=fun n=>by
  induction n with
  | zero =>
   intro i a e
   obtain rfl:i=l.length:=by omega
   obtain ⟨fr',h,q⟩:=hx a
   exact ⟨fr',by rw [List.drop_length]; exact loop_exit h,by rw [List.drop_length]; exact q⟩
  | succ n ih =>
   intro i a e
   have hl:i < l.length:=by omega
   rw [List.drop_eq_getElem_cons hl,List.foldl_cons,loop_more (h1 i a hl)]
   exact ih (i + 1) _ (by omega)
 exact key l.length 0 a (by omega)
section
variable {m:Modl} {c:Cod} {i j k:Nat} {n:Int}
def O6 (a:Int) (n:Nat):Int:=IntKind.i64.wrap (a + (n:Int))
def CQ (a:Int) (b:Blk):Int:=b.code.foldl (fun a x=>O6 a x.args.length) (O6 a b.code.length)
def wL (a:Int) (c:Cod):Int:=c.blocks.foldl CQ (O6 (O6 a c.regs.length) c.blocks.length)
def HJ (a:Int) (c:Cod):Int ⊕ Unit:=if 3000 < wL a c then .inr () else .inl (wL a c)
def y2 (m:Modl):Bool:=if 20 < m.gs.length then true else if 12 < m.fs.length then true else if (m.gs.all fun g=>!decide (1024 < g.size))=true then (Pb HJ 0 m.fs).isRight else true
def CS (a:Int) (c:Cod):Int:=c.blocks.foldl (fun a b=>O6 a b.code.length) (O6 (O6 a c.regs.length) c.blocks.length)
def o4 (m:Modl):Bool:=if 1000 < m.fs.foldl CS 0 then true else if 12 < m.fs.length then true else if y2 m=true then true else !decide (d9 m=0)
theorem CT (h:i < m.gs.length) (hs:m.gs.length≤bigN) (hp:(!decide (1024 < m.gs[i].size))=true):evP ⟨A0,T,A2⟩ (.code Dn [(1,.ptr 0 0 0),(3,.int .i64 n),(4,.int .i64 (i:Int))] ⟨[.row 1 [m.F] 2],0,[]⟩)=some (.ok .normal [(1,.ptr 0 0 0),(3,.int .i64 n),(4,.int .i64 ((i + 1:Nat):Int))] ⟨[.row 1 [m.F] 2],0,[]⟩):=by
 unfold Dn
 have hlt:decide ((i:Int) < (m.gs.length:Int))=true:=by simp [h]
 have hw:=A9 (i:=i) (by simp only [bigN] at hs; omega)
 have hi:=B1 (F:=Glo.F) h
 have hp:decide (1024 < m.gs[i].size)=false:=by simpa using hp
 simp only [Glo.F,Modl.F] at hi ⊢
 simp -implicitDefEqProofs only [hlt,hi,hw,hp,List.length_map,XP,seval]
theorem CU (h:i < m.gs.length) (hp:(!decide (1024 < m.gs[i].size))=false):evP ⟨A0,T,A2⟩ (.code Dn [(1,.ptr 0 0 0),(3,.int .i64 n),(4,.int .i64 (i:Int))] ⟨[.row 1 [m.F] 2],0,[]⟩)=some (.ok .ret [(2,.bool true)] ⟨[],0,[]⟩):=by
 unfold Dn
 have hlt:decide ((i:Int) < (m.gs.length:Int))=true:=by simp [h]
 have hi:=B1 (F:=Glo.F) h
 have hp:decide (1024 < m.gs[i].size)=true:=by simpa using hp
 simp only [Glo.F,Modl.F] at hi ⊢
 simp -implicitDefEqProofs only [hlt,hi,hp,List.length_map,XP,seval]
theorem CV:∃ fr',evP ⟨A0,T,A2⟩ (.code Dn [(1,.ptr 0 0 0),(3,.int .i64 n),(4,.int .i64 (m.gs.length:Int))] ⟨[.row 1 [m.F] 2],0,[]⟩)=some (.ok (.exit 0) fr' ⟨[.row 1 [m.F] 2],0,[]⟩)∧(lookP fr' 1=.ptr 0 0 0∧lookP fr' 3=.int .i64 n):=by
 unfold Dn
 have hlt:decide ((m.gs.length:Int) < (m.gs.length:Int))=false:=by simp
 simp only [Modl.F]
 simp -implicitDefEqProofs only [hlt,List.length_map,XP,seval]
 exact ⟨_,rfl,rfl,rfl⟩
theorem CW (hj:j < c.blocks.length) (hk:k < c.blocks[j].code.length) (hs:c.ok):evP ⟨A0,T,A2⟩ (.code Nu [(1,.ptr 0 0 0),(3,.int .i64 n),(5,.int .i64 (i:Int)),(6,.ptr 1 0 0),(7,.int .i64 (j:Int)),(8,.int .i64 (k:Int))] ⟨[.row 1 [m.F] 2,.row 1 [c.F] 5],0,[]⟩)=some (.ok .normal [(1,.ptr 0 0 0),(3,.int .i64 (O6 n c.blocks[j].code[k].args.length)),(5,.int .i64 (i:Int)),(6,.ptr 1 0 0),(7,.int .i64 (j:Int)),(8,.int .i64 ((k + 1:Nat):Int))] ⟨[.row 1 [m.F] 2,.row 1 [c.F] 5],0,[]⟩):=by
 unfold Nu O6
 have hb:=hs.2.1 _ (List.getElem_mem hj)
 have hlt:decide ((k:Int) < (c.blocks[j].code.length:Int))=true:=by simp [hk]
 have hw:=A9 (i:=k) (by have:=hb.2; simp only [bigN] at this; omega)
 have hi:=B1 (F:=Blk.F) hj
 have hi2:=B1 (F:=Ins.F) hk
 simp only [Blk.F,Ins.F,Modl.F,Cod.F] at hi hi2 ⊢
 simp -implicitDefEqProofs only [hlt,hi,hi2,hw,List.length_map,XP,seval]
theorem CX (hj:j < c.blocks.length):∃ fr',evP ⟨A0,T,A2⟩ (.code Nu [(1,.ptr 0 0 0),(3,.int .i64 n),(5,.int .i64 (i:Int)),(6,.ptr 1 0 0),(7,.int .i64 (j:Int)),(8,.int .i64 (c.blocks[j].code.length:Int))] ⟨[.row 1 [m.F] 2,.row 1 [c.F] 5],0,[]⟩)=some (.ok (.exit 6) fr' ⟨[.row 1 [m.F] 2,.row 1 [c.F] 5],0,[]⟩)∧(lookP fr' 1=.ptr 0 0 0∧lookP fr' 3=.int .i64 n∧lookP fr' 5=.int .i64 (i:Int)∧lookP fr' 6=.ptr 1 0 0∧lookP fr' 7=.int .i64 (j:Int)):=by
 unfold Nu
 have hlt:decide ((c.blocks[j].code.length:Int) < (c.blocks[j].code.length:Int))=false:=by simp
 have hi:=B1 (F:=Blk.F) hj
 simp only [Blk.F,Modl.F,Cod.F] at hi ⊢
 simp -implicitDefEqProofs only [hlt,hi,List.length_map,XP,seval]
 exact ⟨_,rfl,rfl,rfl,rfl,rfl,rfl⟩
theorem CY (hj:j < c.blocks.length) (hs:c.ok):evP ⟨A0,T,A2⟩ (.code Nv [(1,.ptr 0 0 0),(3,.int .i64 n),(5,.int .i64 (i:Int)),(6,.ptr 1 0 0),(7,.int .i64 (j:Int))] ⟨[.row 1 [m.F] 2,.row 1 [c.F] 5],0,[]⟩)=some (.ok .normal [(1,.ptr 0 0 0),(3,.int .i64 (CQ n c.blocks[j])),(5,.int .i64 (i:Int)),(6,.ptr 1 0 0),(7,.int .i64 ((j + 1:Nat):Int))] ⟨[.row 1 [m.F] 2,.row 1 [c.F] 5],0,[]⟩):=by
 have hlt:decide ((j:Int) < (c.blocks.length:Int))=true:=by simp [hj]
 have hw:=A9 (i:=j) (by have:=hs.2.2; simp only [bigN] at this; omega)
 have hi:=B1 (F:=Blk.F) hj
 obtain ⟨fr',h1,h2,h3,h4,h5,h6⟩:=Cs (P:=⟨A0,T,A2⟩) (c:=Nu) (f:=fun a (x:Ins)=>O6 a x.args.length) (l:=c.blocks[j].code) (S:=fun k n=>[(1,.ptr 0 0 0),(3,.int .i64 n),(5,.int .i64 (i:Int)),(6,.ptr 1 0 0),(7,.int .i64 (j:Int)),(8,.int .i64 (k:Int))]) (K:=fun _=>⟨[.row 1 [m.F] 2,.row 1 [c.F] 5],0,[]⟩) (x:=6) (Q:=fun n fr'=>lookP fr' 1=.ptr 0 0 0∧lookP fr' 3=.int .i64 n∧lookP fr' 5=.int .i64 (i:Int)∧lookP fr' 6=.ptr 1 0 0∧lookP fr' 7=.int .i64 (j:Int)) (fun k a h=>CW hj h hs) (fun a=>CX hj) (O6 n c.blocks[j].code.length)
 have h1:evP ⟨A0,T,A2⟩ (.code (.loop Nu) [(1,.ptr 0 0 0),(3,.int .i64 (O6 n c.blocks[j].code.length)),(5,.int .i64 (i:Int)),(6,.ptr 1 0 0),(7,.int .i64 (j:Int)),(8,.int .i64 0)] ⟨[.row 1 [m.F] 2,.row 1 [c.F] 5],0,[]⟩)=_:=h1
 have hn:CQ n c.blocks[j]=c.blocks[j].code.foldl (fun a x=>O6 a x.args.length) (O6 n c.blocks[j].code.length):=rfl
 rw [← hn] at h3
 unfold Nv
 unfold O6 at h1
 simp only [Blk.F,Modl.F,Cod.F] at hi h1 ⊢
 simp -implicitDefEqProofs only [hlt,hi,h1,h2,h3,h4,h5,h6,hw,List.length_map,XP,seval]
theorem CZ:∃ fr',evP ⟨A0,T,A2⟩ (.code Nv [(1,.ptr 0 0 0),(3,.int .i64 n),(5,.int .i64 (i:Int)),(6,.ptr 1 0 0),(7,.int .i64 (c.blocks.length:Int))] ⟨[.row 1 [m.F] 2,.row 1 [c.F] 5],0,[]⟩)=some (.ok (.exit 4) fr' ⟨[.row 1 [m.F] 2,.row 1 [c.F] 5],0,[]⟩)∧(lookP fr' 1=.ptr 0 0 0∧lookP fr' 3=.int .i64 n∧lookP fr' 5=.int .i64 (i:Int)):=by
 unfold Nv
 have hlt:decide ((c.blocks.length:Int) < (c.blocks.length:Int))=false:=by simp
 simp only [Modl.F,Cod.F]
 simp -implicitDefEqProofs only [hlt,List.length_map,XP,seval]
 exact ⟨_,rfl,rfl,rfl,rfl⟩
theorem b6c (h:i < m.fs.length) (hs:m.ok):(3000 < wL n m.fs[i]->evP ⟨A0,T,A2⟩ (.code Fx [(1,.ptr 0 0 0),(3,.int .i64 n),(5,.int .i64 (i:Int))] ⟨[.row 1 [m.F] 2],0,[]⟩)=some (.ok .ret [(2,.bool true)] ⟨[],0,[]⟩))∧(¬ 3000 < wL n m.fs[i]->evP ⟨A0,T,A2⟩ (.code Fx [(1,.ptr 0 0 0),(3,.int .i64 n),(5,.int .i64 (i:Int))] ⟨[.row 1 [m.F] 2],0,[]⟩)=some (.ok .normal [(1,.ptr 0 0 0),(3,.int .i64 (wL n m.fs[i])),(5,.int .i64 ((i + 1:Nat):Int))] ⟨[.row 1 [m.F] 2],0,[]⟩)):=by
 have hc:=(hs.1 _ (List.getElem_mem h)).1
 have hlt:decide ((i:Int) < (m.fs.length:Int))=true:=by simp [h]
 have hw:=A9 (i:=i) (by have:=hs.2.1; simp only [bigN] at this; omega)
 have hi:=B1 (F:=Cod.F) h
 generalize m.fs[i]=c at hc hi
 obtain ⟨fr',h1,h2,h3,h4⟩:=Cs (P:=⟨A0,T,A2⟩) (c:=Nv) (f:=CQ) (l:=c.blocks) (S:=fun j n=>[(1,.ptr 0 0 0),(3,.int .i64 n),(5,.int .i64 (i:Int)),(6,.ptr 1 0 0),(7,.int .i64 (j:Int))]) (K:=fun _=>⟨[.row 1 [m.F] 2,.row 1 [c.F] 5],0,[]⟩) (x:=4) (Q:=fun n fr'=>lookP fr' 1=.ptr 0 0 0∧lookP fr' 3=.int .i64 n∧lookP fr' 5=.int .i64 (i:Int)) (fun k a h=>CY h hc) (fun a=>CZ) (O6 (O6 n c.regs.length) c.blocks.length)
 have h1:evP ⟨A0,T,A2⟩ (.code (.loop Nv) [(1,.ptr 0 0 0),(3,.int .i64 (O6 (O6 n c.regs.length) c.blocks.length)),(5,.int .i64 (i:Int)),(6,.ptr 1 0 0),(7,.int .i64 0)] ⟨[.row 1 [m.F] 2,.row 1 [c.F] 5],0,[]⟩)=_:=h1
 have hn:wL n c=c.blocks.foldl CQ (O6 (O6 n c.regs.length) c.blocks.length):=rfl
 rw [← hn] at h3
 unfold Fx
 unfold O6 at h1
 simp only [Modl.F,Cod.F] at hi h1 ⊢
 constructor
 . intro hq
   simp -implicitDefEqProofs only [hlt,hi,h1,h2,h3,h4,eq_true hq,List.length_map,XP,seval]
 . intro hq
   simp -implicitDefEqProofs only [hlt,hi,h1,h2,h3,h4,hw,eq_false hq,List.length_map,XP,seval]
theorem DA:∃ fr',evP ⟨A0,T,A2⟩ (.code Fx [(1,.ptr 0 0 0),(3,.int .i64 n),(5,.int .i64 (m.fs.length:Int))] ⟨[.row 1 [m.F] 2],0,[]⟩)=some (.ok (.exit 2) fr' ⟨[.row 1 [m.F] 2],0,[]⟩)∧True:=by
 unfold Fx
 have hlt:decide ((m.fs.length:Int) < (m.fs.length:Int))=false:=by simp
 simp only [Modl.F]
 simp -implicitDefEqProofs only [hlt,List.length_map,XP,seval]
 exact ⟨_,rfl⟩
set_option maxHeartbeats 4000000 in
theorem Kz  {m:Modl} (hk:m.ok):AM.Comes ⟨A0,T,A2⟩ 39 [m.F] [.bool (y2 m)]:=by
 refine ⟨[.bool (y2 m)],⟨[],0,[]⟩,?_,B4 rfl List.nodup_nil rfl rfl rfl⟩
 rw [A7 (c:=GU) (nt:=96) (rs:=[.tmp 2]) rfl (by simp)]; unfold GU
 unfold K0
 have hgl:m.gs.length≤bigN:=by have:=hk.2.2; simp only [bigN] at this ⊢; omega
 have l1:=Oy (P:=⟨A0,T,A2⟩) (c:=Dn) (p:=fun g:Glo=>!decide (1024 < g.size)) (l:=m.gs) (S:=fun i=>[(1,.ptr 0 0 0),(3,.int .i64 0),(4,.int .i64 (i:Int))]) (K:=⟨[.row 1 [m.F] 2],0,[]⟩) (x:=0) (Q:=fun fr'=>lookP fr' 1=.ptr 0 0 0∧lookP fr' 3=.int .i64 0) (R:=fun fr' K'=>fr'=[(2,.bool true)]∧K'=⟨[],0,[]⟩)
  (fun i h hp=>CT h hgl hp) (fun i h hp=>⟨_,_,CU h hp,rfl,rfl⟩) CV
 have l2:=cB (P:=⟨A0,T,A2⟩) (c:=Fx) (f:=HJ) (l:=m.fs) (S:=fun i n=>[(1,.ptr 0 0 0),(3,.int .i64 n),(5,.int .i64 (i:Int))]) (K:=fun _=>⟨[.row 1 [m.F] 2],0,[]⟩) (x:=2) (Q:=fun n fr'=>True) (R:=fun r fr' K'=>fr'=[(2,.bool true)]∧K'=⟨[],0,[]⟩)
  (fun i a a' h hp=>by
    unfold HJ at hp
    split at hp
    . cases hp
    . rename_i hq
      cases hp; exact (b6c h hk).2 hq) (fun i a r h hp=>by
    unfold HJ at hp
    split at hp
    . rename_i hq
      exact ⟨_,_,(b6c h hk).1 hq,rfl,rfl⟩
    . cases hp) (fun a=>DA) 0
 have q20:decide ((20:Int) < (m.gs.length:Int))=decide (20 < m.gs.length):=decide_eq_decide.2 (by omega)
 have q12:decide ((12:Int) < (m.fs.length:Int))=decide (12 < m.fs.length):=decide_eq_decide.2 (by omega)
 unfold y2
 simp only [Modl.F] at l1 l2 ⊢
 by_cases h20:20 < m.gs.length
 . simp -implicitDefEqProofs only [q20,q12,eq_true h20,List.length_map,XP,seval]
 by_cases h12:12 < m.fs.length
 . simp -implicitDefEqProofs only [q20,q12,eq_false h20,eq_true h12,List.length_map,XP,seval]
 rcases l1 with ⟨q,fr',h1,h2,h3⟩ | ⟨q,fr',K',h1,rfl,rfl⟩
 . have h1:evP ⟨A0,T,A2⟩ (.code (.loop Dn) [(1,.ptr 0 0 0),(3,.int .i64 0),(4,.int .i64 0)] _)=_:=h1
   rcases l2 with ⟨a',q2,fr2,h4,_⟩ | ⟨r,q2,fr2,K2,h4,rfl,rfl⟩
   . have h4:evP ⟨A0,T,A2⟩ (.code (.loop Fx) [(1,.ptr 0 0 0),(3,.int .i64 0),(5,.int .i64 0)] _)=_:=h4
     simp -implicitDefEqProofs only [q20,q12,eq_false h20,eq_false h12,h1,h2,h3,h4,q,q2,Sum.isRight_inl,List.length_map,XP,seval]
   . have h4:evP ⟨A0,T,A2⟩ (.code (.loop Fx) [(1,.ptr 0 0 0),(3,.int .i64 0),(5,.int .i64 0)] _)=_:=h4
     simp -implicitDefEqProofs only [q20,q12,eq_false h20,eq_false h12,h1,h2,h3,h4,q,q2,Sum.isRight_inr,List.length_map,XP,seval]
 . have h1:evP ⟨A0,T,A2⟩ (.code (.loop Dn) [(1,.ptr 0 0 0),(3,.int .i64 0),(4,.int .i64 0)] _)=_:=h1
   simp -implicitDefEqProofs only [q20,q12,eq_false h20,eq_false h12,h1,q,List.length_map,XP,seval]
def f4:=U4 (fun p:(Modl)=>[p.F]) (fun p=>[.bool (y2 p)]) (fun p=>p.ok)
theorem cC (hlaw06_Big:T 39=some f4) {m:Modl} {K:PK} (hk:m.ok):evP ⟨A0,T,A2⟩ (.call 39 [m.F] K)=some (.val (openTs K.os.length [.bool (y2 m)]).1 ⟨K.os ++ (openTs K.os.length [.bool (y2 m)]).2,K.ext,K.tch⟩):=B5 hlaw06_Big (by simp -implicitDefEqProofs only [VV,XP,seval]) (C0 (a:=fun p:(Modl)=>[p.F]) (r:=fun p=>[.bool (y2 p)]) (fun x y e=>by simp only [VJ] at e; simp only [e]) (m) hk) (by simp -implicitDefEqProofs only [VN,XP,seval])
theorem Vs  (hP:PEok ⟨A0,T,A2⟩):TC A0 39 f4:=C1 hP fun p h=>Kz  h
end
end Go.Proofs.AmEnv
set_option maxRecDepth 100000
namespace Go.Proofs.AmEnv
open Go Go.AM
variable {T:Nat->Option (List AV->Option (List AV))}
section
variable {m:Modl} {c:Cod} {i j k:Nat} {n:Int}
theorem uY (hi:i < m.fs.length) (hj:j < m.fs[i].blocks.length) (hs:m.fs[i].ok):evP ⟨A0,T,A2⟩ (.code No [(1,.ptr 0 0 0),(3,.int .i64 n),(4,.int .i64 (i:Int)),(5,.int .i64 (j:Int))] ⟨[.row 1 [m.F] 2],0,[]⟩)=some (.ok .normal [(1,.ptr 0 0 0),(3,.int .i64 (O6 n m.fs[i].blocks[j].code.length)),(4,.int .i64 (i:Int)),(5,.int .i64 ((j + 1:Nat):Int))] ⟨[.row 1 [m.F] 2],0,[]⟩):=by
 unfold No O6
 have hlt:decide ((j:Int) < (m.fs[i].blocks.length:Int))=true:=by simp [hj]
 have hw:=A9 (i:=j) (by have:=hs.2.2; simp only [bigN] at this; omega)
 have h1:=B1 (F:=Cod.F) hi
 have h2:=B1 (F:=Blk.F) hj
 simp only [Blk.F,Modl.F,Cod.F] at h1 h2 ⊢
 simp -implicitDefEqProofs only [hlt,h1,h2,hw,List.length_map,XP,seval]
theorem uZ (hi:i < m.fs.length):∃ fr',evP ⟨A0,T,A2⟩ (.code No [(1,.ptr 0 0 0),(3,.int .i64 n),(4,.int .i64 (i:Int)),(5,.int .i64 (m.fs[i].blocks.length:Int))] ⟨[.row 1 [m.F] 2],0,[]⟩)=some (.ok (.exit 2) fr' ⟨[.row 1 [m.F] 2],0,[]⟩)∧(lookP fr' 1=.ptr 0 0 0∧lookP fr' 3=.int .i64 n∧lookP fr' 4=.int .i64 (i:Int)):=by
 unfold No
 have hlt:decide ((m.fs[i].blocks.length:Int) < (m.fs[i].blocks.length:Int))=false:=by simp
 have h1:=B1 (F:=Cod.F) hi
 simp only [Modl.F,Cod.F] at h1 ⊢
 simp -implicitDefEqProofs only [hlt,h1,List.length_map,XP,seval]
 exact ⟨_,rfl,rfl,rfl,rfl⟩
theorem vA (hi:i < m.fs.length) (hs:m.ok):evP ⟨A0,T,A2⟩ (.code Np [(1,.ptr 0 0 0),(3,.int .i64 n),(4,.int .i64 (i:Int))] ⟨[.row 1 [m.F] 2],0,[]⟩)=some (.ok .normal [(1,.ptr 0 0 0),(3,.int .i64 (CS n m.fs[i])),(4,.int .i64 ((i + 1:Nat):Int))] ⟨[.row 1 [m.F] 2],0,[]⟩):=by
 have hc:=(hs.1 _ (List.getElem_mem hi)).1
 have hlt:decide ((i:Int) < (m.fs.length:Int))=true:=by simp [hi]
 have hw:=A9 (i:=i) (by have:=hs.2.1; simp only [bigN] at this; omega)
 have hg:=B1 (F:=Cod.F) hi
 obtain ⟨fr',h1,h2,h3,h4⟩:=Cs (P:=⟨A0,T,A2⟩) (c:=No) (f:=fun a (b:Blk)=>O6 a b.code.length) (l:=m.fs[i].blocks) (S:=fun j n=>[(1,.ptr 0 0 0),(3,.int .i64 n),(4,.int .i64 (i:Int)),(5,.int .i64 (j:Int))]) (K:=fun _=>⟨[.row 1 [m.F] 2],0,[]⟩) (x:=2) (Q:=fun n fr'=>lookP fr' 1=.ptr 0 0 0∧lookP fr' 3=.int .i64 n∧lookP fr' 4=.int .i64 (i:Int)) (fun k a h=>uY hi h hc) (fun a=>uZ hi) (O6 (O6 n m.fs[i].regs.length) m.fs[i].blocks.length)
 have h1:evP ⟨A0,T,A2⟩ (.code (.loop No) [(1,.ptr 0 0 0),(3,.int .i64 (O6 (O6 n m.fs[i].regs.length) m.fs[i].blocks.length)),(4,.int .i64 (i:Int)),(5,.int .i64 0)] ⟨[.row 1 [m.F] 2],0,[]⟩)=_:=h1
 have hn:CS n m.fs[i]=m.fs[i].blocks.foldl (fun a (b:Blk)=>O6 a b.code.length) (O6 (O6 n m.fs[i].regs.length) m.fs[i].blocks.length):=rfl
 rw [← hn] at h3
 unfold Np
 unfold O6 at h1
 simp only [Modl.F,Cod.F] at hg h1 ⊢
 simp -implicitDefEqProofs only [hlt,hg,h1,h2,h3,h4,hw,List.length_map,XP,seval]
theorem vB:∃ fr',evP ⟨A0,T,A2⟩ (.code Np [(1,.ptr 0 0 0),(3,.int .i64 n),(4,.int .i64 (m.fs.length:Int))] ⟨[.row 1 [m.F] 2],0,[]⟩)=some (.ok (.exit 0) fr' ⟨[.row 1 [m.F] 2],0,[]⟩)∧(lookP fr' 1=.ptr 0 0 0∧lookP fr' 3=.int .i64 n):=by
 unfold Np
 have hlt:decide ((m.fs.length:Int) < (m.fs.length:Int))=false:=by simp
 simp only [Modl.F]
 simp -implicitDefEqProofs only [hlt,List.length_map,XP,seval]
 exact ⟨_,rfl,rfl,rfl⟩
set_option maxHeartbeats 4000000 in
theorem La (hlaw06_Big:T 39=some f4) (hir_Check:T 40=some u3) {m:Modl} (hk:m.ok):AM.Comes ⟨A0,T,A2⟩ 14 [m.F] [.bool (o4 m)]:=by
 refine ⟨[.bool (o4 m)],⟨[],0,[]⟩,?_,B4 rfl List.nodup_nil rfl rfl rfl⟩
 rw [A7 (c:=GL) (nt:=71) (rs:=[.tmp 2]) rfl (by simp)]; unfold GL
 unfold K0
 have tb:=fun K=>cC (K:=K) hlaw06_Big hk
 have tc:=fun K=>hO (K:=K) hir_Check hk
 obtain ⟨fr',h1,h2,h3⟩:=Cs (P:=⟨A0,T,A2⟩) (c:=Np) (f:=CS) (l:=m.fs) (S:=fun i n=>[(1,.ptr 0 0 0),(3,.int .i64 n),(4,.int .i64 (i:Int))]) (K:=fun _=>⟨[.row 1 [m.F] 2],0,[]⟩) (x:=0) (Q:=fun n fr'=>lookP fr' 1=.ptr 0 0 0∧lookP fr' 3=.int .i64 n) (fun k a h=>vA h hk) (fun a=>vB) 0
 have h1:evP ⟨A0,T,A2⟩ (.code (.loop Np) [(1,.ptr 0 0 0),(3,.int .i64 0),(4,.int .i64 0)] ⟨[.row 1 [m.F] 2],0,[]⟩)=_:=h1
 have q12:decide ((12:Int) < (m.fs.length:Int))=decide (12 < m.fs.length):=decide_eq_decide.2 (by omega)
 unfold o4
 simp only [Modl.F] at tb tc h1 ⊢
 by_cases h5:1000 < m.fs.foldl CS 0
 . simp -implicitDefEqProofs only [h1,h2,h3,q12,eq_true h5,List.length_map,XP,seval]
 by_cases h12:12 < m.fs.length
 . simp -implicitDefEqProofs only [h1,h2,h3,q12,eq_false h5,eq_true h12,List.length_map,XP,seval]
 cases hb:y2 m with
 | true=>simp -implicitDefEqProofs only [h1,h2,h3,q12,eq_false h5,eq_false h12,tb,hb,List.length_map,XP,seval]
 | false=>simp -implicitDefEqProofs only [h1,h2,h3,q12,eq_false h5,eq_false h12,tb,hb,tc,List.length_map,XP,seval]
def y3:=U4 (fun p:(Modl)=>[p.F]) (fun p=>[.bool (o4 p)]) (fun p=>p.ok)
theorem cD (hlaw15_Big:T 14=some y3) {m:Modl} {K:PK} (hk:m.ok):evP ⟨A0,T,A2⟩ (.call 14 [m.F] K)=some (.val (openTs K.os.length [.bool (o4 m)]).1 ⟨K.os ++ (openTs K.os.length [.bool (o4 m)]).2,K.ext,K.tch⟩):=B5 hlaw15_Big (by simp -implicitDefEqProofs only [VV,XP,seval]) (C0 (a:=fun p:(Modl)=>[p.F]) (r:=fun p=>[.bool (o4 p)]) (fun x y e=>by simp only [VJ] at e; simp only [e]) (m) hk) (by simp -implicitDefEqProofs only [VN,XP,seval])
theorem Vt (hlaw06_Big:T 39=some f4) (hir_Check:T 40=some u3) (hP:PEok ⟨A0,T,A2⟩):TC A0 14 y3:=C1 hP fun p h=>La hlaw06_Big hir_Check h
end
end Go.Proofs.AmEnv
set_option maxRecDepth 100000
namespace Go.Proofs.AmEnv
open Go Go.AM
def fstN (l:List Blk) (t:Nat):Nat:=l.findIdx fun o=>decide (some o=l[t]?)
theorem Ir {l:List Blk} {t:Nat} (h:t < l.length):fstN l t≤t∧l[fstN l t]?=l[t]?∧∀ j,j < fstN l t->l[j]? ≠ l[t]?:=by
 have ht:l[t]?=some l[t]:=List.getElem?_eq_getElem h
 have hle:fstN l t≤t:=by
  refine Nat.le_of_not_lt fun hlt=>?_
  have:=List.not_of_lt_findIdx (p:=fun o=>decide (some o=l[t]?)) (xs:=l) hlt
  simp at this
 have hlt:fstN l t < l.length:=by omega
 refine ⟨hle,?_,fun j hj hje=>?_⟩
 . have:=List.findIdx_getElem (p:=fun o=>decide (some o=l[t]?)) (xs:=l) (w:=hlt)
   simp only [decide_eq_true_eq] at this
   rw [List.getElem?_eq_getElem hlt]
   exact this
 . have hjl:j < l.length:=by omega
   have:=List.not_of_lt_findIdx (p:=fun o=>decide (some o=l[t]?)) (xs:=l) hj
   rw [List.getElem?_eq_getElem hjl] at hje
   simp [hje] at this
theorem Kg {l:List Blk} {t r:Nat} (h:t < l.length) (hr:l[r]?=l[t]?) (hm:∀ j,j < r->l[j]? ≠ l[t]?):fstN l t=r:=by
 obtain ⟨h1,h2,h3⟩:=Ir h
 rcases Nat.lt_trichotomy (fstN l t) r with hlt | he | hgt
 . exact absurd h2 (hm _ hlt)
 . exact he
 . exact absurd hr (h3 _ hgt)
def fstI (l:List Blk) (t:Int):Int:=if 0≤t∧t < l.length then (fstN l t.toNat:Int) else t
theorem fstI_le (l:List Blk) (t:Int):fstI l t=t∨(0≤fstI l t∧fstI l t < t):=by
 unfold fstI
 split
 . rename_i h
   have:=(Ir (l:=l) (t:=t.toNat) (by omega)).1
   omega
 . exact .inl rfl
def Endd.R (l:List Blk) (e:Endd):Endd:=if e.kind=1 then { e with to:=fstI l e.to } else if e.kind=2 then { e with to:=fstI l e.to,els:=fstI l e.els } else e
def Blk.R (l:List Blk) (b:Blk):Blk:={ b with e:=b.e.R l }
def rnd (l:List Blk):List Blk:=l.map (Blk.R l)
def Endd.w (e:Endd):Nat:=e.to.toNat + e.els.toNat
def hU:List Blk->Nat
 | []=>0
 | b :: l=>b.e.w + hU l
theorem Endd.R_w (l:List Blk) (e:Endd):(e.R l).w≤e.w∧(¬ e.R l=e->(e.R l).w < e.w):=by
 obtain ⟨k,a,t,s⟩:=e
 have h1:=fstI_le l t
 have h2:=fstI_le l s
 unfold Endd.R Endd.w
 simp only
 split
 . refine ⟨by simp only; omega,fun hne=>?_⟩
   simp only [Endd.mk.injEq,true_and,and_true] at hne
   simp only; omega
 . split
   . refine ⟨by simp only; omega,fun hne=>?_⟩
     simp only [Endd.mk.injEq,true_and] at hne
     simp only
     by_cases q:fstI l t=t
     . have:¬ fstI l s=s:=fun q2=>hne ⟨q,q2⟩
       omega
     . omega
   . exact ⟨Nat.le_refl _,fun hne=>absurd rfl hne⟩
theorem eI (L:List Blk):∀ l:List Blk,hU (l.map (Blk.R L))≤hU l∧(¬ l.map (Blk.R L)=l->hU (l.map (Blk.R L)) < hU l)
 | []=>⟨Nat.le_refl _,fun h=>absurd rfl h⟩
 | b :: l=>by
  obtain ⟨h1,h2⟩:=eI L l
  obtain ⟨h3,h4⟩:=b.e.R_w L
  simp only [List.map_cons,hU]
  have hb:(Blk.R L b).e=b.e.R L:=rfl
  rw [hb]
  refine ⟨by omega,fun hne=>?_⟩
  by_cases q:b.e.R L=b.e
  . have:¬ l.map (Blk.R L)=l:=fun q2=>hne (by
     rw [q2]; congr 1; unfold Blk.R; rw [q])
    have:=h2 this
    omega
  . have:=h4 q
    omega
theorem Pc {l:List Blk} (h:¬ rnd l=l):hU (rnd l) < hU l:=(eI l l).2 h
def L8 (l:List Blk):List Blk:=if h:rnd l=l then l else L8 (rnd l)
termination_by hU l
decreasing_by exact Pc h
theorem Bw {l:List Blk} (h:rnd l=l):L8 l=l:=by rw [L8,dif_pos h]
theorem Ct {l:List Blk} (h:¬ rnd l=l):L8 l=L8 (rnd l):=by rw [L8,dif_neg h]
def rndTo (l:List Blk) (i:Nat):List Blk:=(l.take i).map (Blk.R l) ++ l.drop i
theorem Sz (l:List Blk):rndTo l l.length=rnd l:=by unfold rndTo rnd; simp
theorem iA (l:List Blk) (i:Nat):(rndTo l i).length=l.length:=by unfold rndTo; simp; omega
theorem Ta {l:List Blk} {i:Nat} (h:i < l.length):(rndTo l i)[i]?=some l[i]:=by
 unfold rndTo
 have e:((l.take i).map (Blk.R l)).length=i:=by simp; omega
 rw [List.getElem?_append_right (by omega),List.getElem?_drop,e,Nat.sub_self,Nat.add_zero,List.getElem?_eq_getElem h]
theorem Tb {l:List Blk} {i:Nat} (h:i < l.length):(rndTo l i).set i (Blk.R l l[i])=rndTo l (i + 1):=by
 unfold rndTo
 have e:((l.take i).map (Blk.R l)).length=i:=by simp; omega
 rw [List.set_append_right _ _ (by omega),e,Nat.sub_self,List.take_succ_eq_append_getElem h,List.map_append,List.drop_eq_getElem_cons h,List.set_cons_zero]
 simp
def Ds (n:Nat) (e:Endd):Prop:=((e.kind=1∨e.kind=2)->0≤e.to∧e.to < n)∧(e.kind=2->0≤e.els∧e.els < n)
theorem Vu {l:List Blk} {t:Int} (h:0≤t∧t < l.length):0≤fstI l t∧fstI l t < l.length:=by
 rcases fstI_le l t with e | e <;> omega
theorem Ds.R {l:List Blk} {e:Endd} (h:Ds l.length e):Ds l.length (e.R l):=by
 unfold Endd.R
 split
 . rename_i q
   exact ⟨fun _=>Vu (h.1 (.inl q)),fun q2=>absurd (q.symm.trans q2) (by decide)⟩
 . split
   . rename_i q1 q
     exact ⟨fun _=>Vu (h.1 (.inr q)),fun _=>Vu (h.2 q)⟩
   . exact h
theorem Y6 (l:List Blk):(rnd l).length=l.length:=List.length_map ..
theorem pM {l:List Blk} (h:∀ b∈l,Ds l.length b.e):∀ b∈rnd l,Ds (rnd l).length b.e:=fun b hb=>by
 obtain ⟨x,hx,rfl⟩:=List.mem_map.1 hb
 rw [Y6]
 exact (h x hx).R
theorem vC {l:List Blk} (h:∀ b∈l,b.ok):∀ b∈rnd l,b.ok:=fun b hb=>by
 obtain ⟨x,hx,rfl⟩:=List.mem_map.1 hb
 exact h x hx
end Go.Proofs.AmEnv
set_option maxRecDepth 100000
namespace Go.Proofs.AmEnv
open Go Go.AM
variable {T:Nat->Option (List AV->Option (List AV))}
section
variable {l:List Blk} {i t:Nat} {x y:Blk}
theorem Blk.eq_iff:x=y ↔ x.e=y.e∧x.code=y.code:=by cases x; cases y; simp; exact And.comm
theorem Gl (hSameInstrs:T 23=some K5) {x:Blk} {y:Blk} (hk:x.ok):AM.Comes ⟨A0,T,A2⟩ 219 [x.F,y.F] [.bool (decide (x=y))]:=by
 refine ⟨[.bool (decide (x=y))],⟨[],0,[]⟩,?_,B4 rfl List.nodup_nil rfl rfl rfl⟩
 rw [A7 (c:=oS) (nt:=17) (rs:=[.tmp 4]) rfl (by simp)]; unfold oS
 unfold K0
 have t:=fun K=>Bl (K:=K) (l:=x.code) (m:=y.code) hSameInstrs hk.1 hk.2
 have ee:=fun K=>Cr (e:=x.e) (e':=y.e) (K:=K)
 by_cases he:x.e=y.e
 . have q:decide (x=y)=decide (x.code=y.code):=decide_eq_decide.2 (by rw [Blk.eq_iff]; simp [he])
   rw [A5 he] at ee
   simp only [Blk.F] at t ⊢
   simp -implicitDefEqProofs only [t,ee,q,XP,seval]
 . have q:decide (x=y)=false:=B8 fun h=>he (by rw [h])
   rw [B8 he] at ee
   simp only [Blk.F]
   simp -implicitDefEqProofs only [ee,q,XP,seval]
def I9:=U4 (fun p:(Blk) × (Blk)=>[p.1.F,p.2.F]) (fun p=>[.bool (decide (p.1=p.2))]) (fun p=>p.1.ok)
theorem Gm (href19_alike:T 219=some I9) {x:Blk} {y:Blk} {K:PK} (hk:x.ok):evP ⟨A0,T,A2⟩ (.call 219 [x.F,y.F] K)=some (.val (openTs K.os.length [.bool (decide (x=y))]).1 ⟨K.os ++ (openTs K.os.length [.bool (decide (x=y))]).2,K.ext,K.tch⟩):=B5 href19_alike (by simp -implicitDefEqProofs only [VV,XP,seval]) (C0 (a:=fun p:(Blk) × (Blk)=>[p.1.F,p.2.F]) (r:=fun p=>[.bool (decide (p.1=p.2))]) (fun x y e=>by simp only [VJ] at e; simp only [e]) (x,y) hk) (by simp -implicitDefEqProofs only [VN,XP,seval])
theorem Pd (hSameInstrs:T 23=some K5) (hP:PEok ⟨A0,T,A2⟩):TC A0 219 I9:=C1 hP fun p h=>Gl hSameInstrs h
theorem DB (hT:T 219=some I9) (ht:t < l.length) (h:i < t) (hs:l.length≤bigN) (hok:l[i].ok) (hp:decide (l[i]=l[t])=false):evP ⟨A0,T,A2⟩ (.code c7 [(0,fslN (l.map Blk.F)),(1,.int .i64 (t:Int)),(5,.int .i64 (i:Int))] ⟨[],0,[]⟩)=some (.ok .normal [(0,fslN (l.map Blk.F)),(1,.int .i64 (t:Int)),(5,.int .i64 ((i + 1:Nat):Int))] ⟨[],0,[]⟩):=by
 unfold c7
 have hlt:decide ((i:Int) < (t:Int))=true:=by simp [h]
 have hw:=A9 (i:=i) (by simp only [bigN] at hs; omega)
 have ta:=fun K=>Gm (K:=K) (x:=l[i]) (y:=l[t]) hT hok
 rw [hp] at ta
 have h1:=B1 (F:=Blk.F) (show i < l.length by omega)
 have h2:=B1 (F:=Blk.F) ht
 simp only [Blk.F] at ta h1 h2 ⊢
 simp -implicitDefEqProofs only [hlt,h1,h2,hw,ta,XP,seval]
theorem DC (hT:T 219=some I9) (ht:t < l.length) (h:i < t) (hok:l[i].ok) (hp:decide (l[i]=l[t])=true):evP ⟨A0,T,A2⟩ (.code c7 [(0,fslN (l.map Blk.F)),(1,.int .i64 (t:Int)),(5,.int .i64 (i:Int))] ⟨[],0,[]⟩)=some (.ok .ret [(4,.int .i64 (i:Int))] ⟨[],0,[]⟩):=by
 unfold c7
 have hlt:decide ((i:Int) < (t:Int))=true:=by simp [h]
 have ta:=fun K=>Gm (K:=K) (x:=l[i]) (y:=l[t]) hT hok
 rw [hp] at ta
 have h1:=B1 (F:=Blk.F) (show i < l.length by omega)
 have h2:=B1 (F:=Blk.F) ht
 simp only [Blk.F] at ta h1 h2 ⊢
 simp -implicitDefEqProofs only [hlt,h1,h2,ta,XP,seval]
theorem DD:∃ fr',evP ⟨A0,T,A2⟩ (.code c7 [(0,fslN (l.map Blk.F)),(1,.int .i64 (t:Int)),(5,.int .i64 (t:Int))] ⟨[],0,[]⟩)=some (.ok (.exit 0) fr' ⟨[],0,[]⟩)∧lookP fr' 1=.int .i64 (t:Int):=by
 unfold c7
 have hlt:decide ((t:Int) < (t:Int))=false:=by simp
 simp -implicitDefEqProofs only [hlt,XP,seval]
 exact ⟨_,rfl,rfl⟩
theorem fst_loop (hT:T 219=some I9) (ht:t < l.length) (hs:l.length≤bigN) (hok:∀ b∈l,b.ok):∀ (n i:Nat),t=i + n->(∀ j,j < i->l[j]? ≠ l[t]?) ->
 (fstN l t < t∧evP ⟨A0,T,A2⟩ (.code (.loop c7) [(0,fslN (l.map Blk.F)),(1,.int .i64 (t:Int)),(5,.int .i64 (i:Int))] ⟨[],0,[]⟩)=some (.ok .ret [(4,.int .i64 (fstN l t:Int))] ⟨[],0,[]⟩))∨(fstN l t=t∧∃ fr',evP ⟨A0,T,A2⟩ (.code (.loop c7) [(0,fslN (l.map Blk.F)),(1,.int .i64 (t:Int)),(5,.int .i64 (i:Int))] ⟨[],0,[]⟩)=some (.ok (.exit 0) fr' ⟨[],0,[]⟩)∧lookP fr' 1=.int .i64 (t:Int))
 | 0,i,e,hj=>by
  obtain rfl:i=t:=by omega
  obtain ⟨fr',h1,h2⟩:=DD (T:=T) (l:=l) (t:=i)
  exact .inr ⟨Kg ht rfl hj,fr',loop_exit h1,h2⟩
 | n + 1,i,e,hj=>by
  have hi:i < l.length:=by omega
  have hg:l[i]?=some l[i]:=List.getElem?_eq_getElem hi
  have hgt:l[t]?=some l[t]:=List.getElem?_eq_getElem ht
  by_cases q:l[i]=l[t]
  . have hu:fstN l t=i:=Kg ht (by rw [hg,hgt,q]) hj
    refine .inl ⟨by omega,?_⟩
    rw [hu]
    exact S9 (DC hT ht (by omega) (hok _ (List.getElem_mem hi)) (A5 q))
  . rw [loop_more (DB hT ht (by omega) hs (hok _ (List.getElem_mem hi)) (B8 q))]
    exact fst_loop hT ht hs hok n (i + 1) (by omega) fun j hji=>by
     by_cases hje:j=i
     . subst hje; rw [hg,hgt]; simpa using q
     . exact hj j (by omega)
theorem Gp (href19_alike:T 219=some I9) {l:List Blk} {t:Nat} (hk:t < l.length∧l.length≤bigN∧(∀ b∈l,b.ok)):AM.Comes ⟨A0,T,A2⟩ 159 [fslN (l.map Blk.F),.int .i64 (t:Int)] [.int .i64 (fstN l t:Int)]:=by
 refine ⟨[.int .i64 (fstN l t:Int)],⟨[],0,[]⟩,?_,B4 rfl List.nodup_nil rfl rfl rfl⟩
 rw [A7 (c:=oF) (nt:=22) (rs:=[.tmp 4]) rfl (by simp)]; unfold oF
 unfold K0
 rcases fst_loop href19_alike hk.1 hk.2.1 hk.2.2 t 0 (by omega) (fun j h=>absurd h (by omega)) with ⟨q,h1⟩ | ⟨q,fr',h1,h2⟩
 . have h1:evP ⟨A0,T,A2⟩ (.code (.loop c7) [(0,fslN (l.map Blk.F)),(1,.int .i64 (t:Int)),(5,.int .i64 0)] ⟨[],0,[]⟩)=_:=h1
   simp -implicitDefEqProofs only [h1,XP,seval]
 . have h1:evP ⟨A0,T,A2⟩ (.code (.loop c7) [(0,fslN (l.map Blk.F)),(1,.int .i64 (t:Int)),(5,.int .i64 0)] ⟨[],0,[]⟩)=_:=h1
   simp -implicitDefEqProofs only [h1,h2,q,XP,seval]
def L4:=U4 (fun p:(List Blk) × (Nat)=>[fslN (p.1.map Blk.F),.int .i64 (p.2:Int)]) (fun p=>[.int .i64 (fstN p.1 p.2:Int)]) (fun p=>p.2 < p.1.length∧p.1.length≤bigN∧(∀ b∈p.1,b.ok))
theorem Vv (href19_first:T 159=some L4) {l:List Blk} {t:Nat} {K:PK} (hk:t < l.length∧l.length≤bigN∧(∀ b∈l,b.ok)):evP ⟨A0,T,A2⟩ (.call 159 [fslN (l.map Blk.F),.int .i64 (t:Int)] K)=some (.val (openTs K.os.length [.int .i64 (fstN l t:Int)]).1 ⟨K.os ++ (openTs K.os.length [.int .i64 (fstN l t:Int)]).2,K.ext,K.tch⟩):=B5 href19_first (by simp -implicitDefEqProofs only [VV,XP,seval]) (C0 (a:=fun p:(List Blk) × (Nat)=>[fslN (p.1.map Blk.F),.int .i64 (p.2:Int)]) (r:=fun p=>[.int .i64 (fstN p.1 p.2:Int)]) (fun x y e=>by simp only [VJ] at e; simp only [e]) (l,t) hk) (by simp -implicitDefEqProofs only [VN,XP,seval])
theorem Pe (href19_alike:T 219=some I9) (hP:PEok ⟨A0,T,A2⟩):TC A0 159 L4:=C1 hP fun p h=>Gp href19_alike h
theorem vD (hT:T 159=some L4) {t:Int} (h:0≤t∧t < l.length) (hs:l.length≤bigN) (hok:∀ b∈l,b.ok) {K:PK}:evP ⟨A0,T,A2⟩ (.call 159 [fslN (l.map Blk.F),.int .i64 t] K)=some (.val [.int .i64 (fstI l t)] ⟨K.os ++ [],K.ext,K.tch⟩):=by
 obtain ⟨k,rfl⟩:=Int.eq_ofNat_of_zero_le h.1
 have hk:k < l.length:=by omega
 have e:fstI l (k:Int)=(fstN l k:Int):=by unfold fstI; rw [if_pos h]; rfl
 rw [e]
 exact Vv hT ⟨hk,hs,hok⟩
set_option maxHeartbeats 4000000 in
theorem LD (hT:T 159=some L4) (h:i < l.length) (hs:l.length≤bigN) (hok:∀ b∈l,b.ok) (htg:∀ b∈l,Ds l.length b.e):∃ tch,tch=[]∧evP ⟨A0,T,A2⟩ (.code Nx [(0,fslN (l.map Blk.F)),(3,.msl 0 0 l.length 5),(4,.int .i64 (i:Int))] ⟨[.row 0 ((rndTo l i).map Blk.O) 5],0,[]⟩)=some (.ok .normal [(0,fslN (l.map Blk.F)),(3,.msl 0 0 l.length 5),(4,.int .i64 ((i + 1:Nat):Int))] ⟨[.row 0 ((rndTo l (i + 1)).map Blk.O) 5],0,tch⟩):=by
 have hlt:decide ((i:Int) < (l.length:Int))=true:=by simp [h]
 have hw:=A9 (i:=i) (by simp only [bigN] at hs; omega)
 have hi:=B1 (F:=Blk.F) h
 have hg:((rndTo l i).map Blk.O)[i]?=some l[i].O:=by rw [List.getElem?_map,Ta h]; rfl
 have hset:((rndTo l i).map Blk.O).set i (Blk.R l l[i]).O=(rndTo l (i + 1)).map Blk.O:=by rw [← List.map_set,Tb h]
 have hb:=htg _ (List.getElem_mem h)
 have tf:=fun t K ht=>vD (K:=K) (t:=t) (l:=l) hT ht hs hok
 unfold Blk.R Endd.R at hset
 unfold Nx
 generalize hbd:l[i]=b at hi hg hset hb
 simp only [Blk.F] at hi
 simp only [Blk.O] at hg
 refine ⟨[],rfl,?_⟩
 by_cases k1:b.e.kind=1
 . have t1:=fun K=>tf b.e.to K (hb.1 (.inl k1))
   have k2:¬ b.e.kind=2:=by omega
   rw [if_pos k1] at hset
   simp only [Blk.O] at hset
   simp -implicitDefEqProofs only [hlt,hi,hg,hw,h,t1,eq_true k1,eq_false k2,hset,List.length_map,XP,seval]
 by_cases k2:b.e.kind=2
 . have t1:=fun K=>tf b.e.to K (hb.1 (.inr k2))
   have t2:=fun K=>tf b.e.els K (hb.2 k2)
   rw [if_neg k1,if_pos k2] at hset
   simp only [Blk.O] at hset
   simp -implicitDefEqProofs only [hlt,hi,hg,hw,h,t1,t2,eq_false k1,eq_true k2,hset,List.length_map,XP,seval]
 . rw [if_neg k1,if_neg k2] at hset
   simp only [Blk.O] at hset
   simp -implicitDefEqProofs only [hlt,hi,hg,hw,h,eq_false k1,eq_false k2,hset,List.length_map,XP,seval]
end
end Go.Proofs.AmEnv
set_option maxRecDepth 100000
namespace Go.Proofs.AmEnv
open Go Go.AM
variable {T:Nat->Option (List AV->Option (List AV))}
section
variable {l:List Blk} {i:Nat} {c:Cod}
theorem LE:∃ fr',evP ⟨A0,T,A2⟩ (.code Nx [(0,fslN (l.map Blk.F)),(3,.msl 0 0 l.length 5),(4,.int .i64 (l.length:Int))] ⟨[.row 0 ((rnd l).map Blk.O) 5],0,[]⟩)=some (.ok (.exit 0) fr' ⟨[.row 0 ((rnd l).map Blk.O) 5],0,[]⟩)∧lookP fr' 3=.msl 0 0 l.length 5:=by
 unfold Nx
 have hlt:decide ((l.length:Int) < (l.length:Int))=false:=by simp
 simp -implicitDefEqProofs only [hlt,List.length_map,XP,seval]
 exact ⟨_,rfl,rfl⟩
def I2 (l:List Blk):Prop:=(∀ b∈l,b.ok)∧l.length * 56≤bigN∧∀ b∈l,Ds l.length b.e
theorem I2.rnd (h:I2 l):I2 (rnd l):=⟨vC h.1,by rw [Y6]; exact h.2.1,pM h.2.2⟩
theorem I2.len (h:I2 l):l.length≤bigN:=by have:=h.2.1; simp only [bigN] at this ⊢; omega
theorem Gq (href19_first:T 159=some L4) (hCopyBlocks:T 55=some R7) {l:List Blk} (hk:I2 l):AM.Comes ⟨A0,T,A2⟩ 74 [fslN (l.map Blk.F)] [ownd 0 5 ((rnd l).map Blk.O)]:=by
 obtain ⟨fr',h1,h2⟩:=LE (T:=T) (l:=l)
 have hs:=Ey (P:=⟨A0,T,A2⟩) (c:=Nx) (fun i=>([(0,fslN (l.map Blk.F)),(3,.msl 0 0 l.length 5),(4,.int .i64 (i:Int))],⟨[.row 0 ((rndTo l i).map Blk.O) 5],0,[]⟩)) l.length (fun i h=>by
  obtain ⟨_,rfl,q⟩:=LD href19_first h hk.len hk.1 hk.2.2
  exact q)
 have hs:evP ⟨A0,T,A2⟩ (.code (.loop Nx) [(0,fslN (l.map Blk.F)),(3,.msl 0 0 l.length 5),(4,.int .i64 0)] ⟨[.row 0 (l.map Blk.O) 5],0,[]⟩)=_:=hs
 simp only [Sz] at hs
 rw [loop_exit h1] at hs
 have tc:=fun K=>Kd (K:=K) hCopyBlocks hk.1 hk.2.1
 refine ⟨[.msl 0 0 l.length 5],⟨[.row 0 ((rnd l).map Blk.O) 5],0,[]⟩,?_,C9 (.inr ⟨by rw [List.length_map,Y6],rfl⟩)⟩
 rw [A7 (c:=HE) (nt:=46) (rs:=[.tmp 2]) rfl (by simp)]; unfold HE
 unfold K0
 simp -implicitDefEqProofs only [tc,hs,h2,List.length_map,XP,seval]
def J0:=U4 (fun p:(List Blk)=>[fslN (p.map Blk.F)]) (fun p=>[ownd 0 5 ((rnd p).map Blk.O)]) (fun p=>I2 p)
theorem Bx (href19_Round:T 74=some J0) {l:List Blk} {K:PK} {args:List AV} (hv:viewAs K.os args=some [fslN (l.map Blk.F)]) (hk:I2 l):evP ⟨A0,T,A2⟩ (.call 74 args K)=some (.val (openTs K.os.length [ownd 0 5 ((rnd l).map Blk.O)]).1 ⟨K.os ++ (openTs K.os.length [ownd 0 5 ((rnd l).map Blk.O)]).2,K.ext,K.tch⟩):=B5 href19_Round hv (C0 (a:=fun p:(List Blk)=>[fslN (p.map Blk.F)]) (r:=fun p=>[ownd 0 5 ((rnd p).map Blk.O)]) (fun x y e=>by simp only [VJ] at e; simp only [e]) (l) hk) (by generalize (refsL args).isEmpty=z; simp -implicitDefEqProofs only [VN,XP,seval])
theorem Pf (href19_first:T 159=some L4) (hCopyBlocks:T 55=some R7) (hP:PEok ⟨A0,T,A2⟩):TC A0 74 J0:=C1 hP fun p h=>Gq href19_first hCopyBlocks h
theorem Dt (hT:T 75=some G9) {l m:List Blk} (h1:∀ x∈l,x.ok) (h2:l.length * 56≤bigN) {K:PK} {args:List AV} (hv:viewAs K.os args=some [fslN (l.map Blk.F),fslN (m.map Blk.F)]):evP ⟨A0,T,A2⟩ (.call 75 args K)=some (.val [.bool (decide (l=m))] ⟨K.os ++ [],K.ext,K.tch⟩):=B5 hT hv (Bk h1 h2) (by show (true && (_ || true))=true; simp)
theorem V2 {os:List PO} {id:Nat} {l:List Blk} (h:os[id]?=some (.row 0 (l.map Blk.O) 5)):viewA os (.msl id 0 l.length 5)=some (fslN (l.map Blk.F)):=by
 have e:(l.map Blk.O).take l.length=l.map Blk.O:=List.take_of_length_le (by simp)
 simp -implicitDefEqProofs only [h,e,Sy,List.length_map,XP,seval]
set_option maxHeartbeats 4000000 in
theorem LF (hR:T 74=some J0) (hS:T 75=some G9) (hok:I2 l) (hn:¬ rnd l=l) :
 evP ⟨A0,T,A2⟩ (.code Ss [(2,.ptr 0 0 0),(3,.ptr 1 0 0)] ⟨[.row 1 [(AV.agg [.str [],.int .i64 0,.int .i64 0,.nilsl,.nilsl])] 5,.row 1 [.agg [.str c.name,.int .i64 c.ty,.int .i64 c.ps,.msl 2 0 c.regs.length 1,.msl 3 0 l.length 5]] 5,.row 0 (ints c.regs) 1,.row 0 (l.map Blk.O) 5],0,[]⟩)=some (.ok .normal [(2,.ptr 0 0 0),(3,.ptr 1 0 0)] ⟨[.row 1 [(AV.agg [.str [],.int .i64 0,.int .i64 0,.nilsl,.nilsl])] 5,.row 1 [.agg [.str c.name,.int .i64 c.ty,.int .i64 c.ps,.msl 2 0 c.regs.length 1,.msl 3 0 l.length 5]] 5,.row 0 (ints c.regs) 1,.row 0 ((rnd l).map Blk.O) 5],0,[]⟩):=by
 have tr:∀ K:PK,K.os[3]?=some (.row 0 (l.map Blk.O) 5)->evP ⟨A0,T,A2⟩ (.call 74 [.msl 3 0 l.length 5] K)=some (.val (openTs K.os.length [ownd 0 5 ((rnd l).map Blk.O)]).1 ⟨K.os ++ (openTs K.os.length [ownd 0 5 ((rnd l).map Blk.O)]).2,K.ext,K.tch⟩):=fun K hK=>Bx hR (by have:=V2 hK; simp -implicitDefEqProofs only [this,XP,seval]) hok
 have ts:∀ K:PK,K.os[3]?=some (.row 0 (l.map Blk.O) 5)->K.os[4]?=some (.row 0 ((rnd l).map Blk.O) 5)->evP ⟨A0,T,A2⟩ (.call 75 [.msl 4 0 l.length 5,.msl 3 0 l.length 5] K)=some (.val [.bool (decide (rnd l=l))] ⟨K.os ++ [],K.ext,K.tch⟩):=fun K h3 h4=>Dt hS hok.rnd.1 hok.rnd.2.1 (by
  have e1:=V2 h3
  have e2:=V2 h4
  rw [Y6] at e2
  simp -implicitDefEqProofs only [e1,e2,XP,seval])
 rw [B8 hn] at ts
 unfold Ss
 simp -implicitDefEqProofs only [tr,ts,List.length_map,Y6,XP,seval]
set_option maxHeartbeats 4000000 in
theorem LG (hR:T 74=some J0) (hS:T 75=some G9) (hok:I2 l) (hn:rnd l=l) :
 evP ⟨A0,T,A2⟩ (.code Ss [(2,.ptr 0 0 0),(3,.ptr 1 0 0)] ⟨[.row 1 [(AV.agg [.str [],.int .i64 0,.int .i64 0,.nilsl,.nilsl])] 5,.row 1 [.agg [.str c.name,.int .i64 c.ty,.int .i64 c.ps,.msl 2 0 c.regs.length 1,.msl 3 0 l.length 5]] 5,.row 0 (ints c.regs) 1,.row 0 (l.map Blk.O) 5],0,[]⟩)=some (.ok .ret [(2,.ptr 0 0 0)] ⟨[.row 1 [.agg [.str c.name,.int .i64 c.ty,.int .i64 c.ps,.msl 1 0 c.regs.length 1,.msl 2 0 l.length 5]] 5,.row 0 (ints c.regs) 1,.row 0 (l.map Blk.O) 5],0,[]⟩):=by
 have tr:∀ K:PK,K.os[3]?=some (.row 0 (l.map Blk.O) 5)->evP ⟨A0,T,A2⟩ (.call 74 [.msl 3 0 l.length 5] K)=some (.val (openTs K.os.length [ownd 0 5 ((rnd l).map Blk.O)]).1 ⟨K.os ++ (openTs K.os.length [ownd 0 5 ((rnd l).map Blk.O)]).2,K.ext,K.tch⟩):=fun K hK=>Bx hR (by have:=V2 hK; simp -implicitDefEqProofs only [this,XP,seval]) hok
 have ts:∀ K:PK,K.os[3]?=some (.row 0 (l.map Blk.O) 5)->K.os[4]?=some (.row 0 ((rnd l).map Blk.O) 5)->evP ⟨A0,T,A2⟩ (.call 75 [.msl 4 0 l.length 5,.msl 3 0 l.length 5] K)=some (.val [.bool (decide (rnd l=l))] ⟨K.os ++ [],K.ext,K.tch⟩):=fun K h3 h4=>Dt hS hok.rnd.1 hok.rnd.2.1 (by
  have e1:=V2 h3
  have e2:=V2 h4
  rw [Y6] at e2
  simp -implicitDefEqProofs only [e1,e2,XP,seval])
 rw [A5 hn] at ts
 rw [hn] at tr ts
 unfold Ss
 simp -implicitDefEqProofs only [tr,ts,List.length_map,XP,seval]
theorem pN (hR:T 74=some J0) (hS:T 75=some G9):∀ (n:Nat) (l:List Blk),hU l=n->I2 l ->
 evP ⟨A0,T,A2⟩ (.code (.loop Ss) [(2,.ptr 0 0 0),(3,.ptr 1 0 0)] ⟨[.row 1 [(AV.agg [.str [],.int .i64 0,.int .i64 0,.nilsl,.nilsl])] 5,.row 1 [.agg [.str c.name,.int .i64 c.ty,.int .i64 c.ps,.msl 2 0 c.regs.length 1,.msl 3 0 l.length 5]] 5,.row 0 (ints c.regs) 1,.row 0 (l.map Blk.O) 5],0,[]⟩)=some (.ok .ret [(2,.ptr 0 0 0)] ⟨[.row 1 [.agg [.str c.name,.int .i64 c.ty,.int .i64 c.ps,.msl 1 0 c.regs.length 1,.msl 2 0 l.length 5]] 5,.row 0 (ints c.regs) 1,.row 0 ((L8 l).map Blk.O) 5],0,[]⟩):=by
 intro n
 induction n using Nat.strongRecOn with
 | ind n ih =>
  intro l hn hok
  by_cases q:rnd l=l
  . rw [Bw q]
    exact S9 (LG hR hS hok q)
  . have:=ih _ (hn ▸ Pc q) (rnd l) rfl hok.rnd
    rw [Y6] at this
    rw [loop_more (LF hR hS hok q),this,Ct q]
theorem Yw (l:List Blk):(L8 l).length=l.length:=by
 have:∀ (n:Nat) (l:List Blk),hU l=n->(L8 l).length=l.length:=fun n=>by
  induction n using Nat.strongRecOn with
  | ind n ih =>
   intro l hn
   by_cases q:rnd l=l
   . rw [Bw q]
   . rw [Ct q,ih _ (hn ▸ Pc q) (rnd l) rfl,Y6]
 exact this _ l rfl
theorem Lx (h:I2 l):I2 (L8 l):=by
 have:∀ (n:Nat) (l:List Blk),hU l=n->I2 l->I2 (L8 l):=fun n=>by
  induction n using Nat.strongRecOn with
  | ind n ih =>
   intro l hn h
   by_cases q:rnd l=l
   . rw [Bw q]; exact h
   . rw [Ct q]; exact ih _ (hn ▸ Pc q) (rnd l) rfl h.rnd
 exact this _ l rfl h
def K6 (c:Cod):Cod:={ c with blocks:=L8 c.blocks }
def Cod.tok (c:Cod):Prop:=c.regs.length * 8≤bigN∧I2 c.blocks
def Z4:=U4 (fun x:Cod=>[x.F]) (fun x=>[x.O]) Cod.ok
def V3:=U4 (fun p:Cod × Cod=>[p.1.F,p.2.F]) (fun p=>[.bool (decide (p.1=p.2))]) (fun p=>p.1.ok)
theorem Tc (hT:T 16=some Z4) {x:Cod} (h:x.ok) {K:PK}:evP ⟨A0,T,A2⟩ (.call 16 [x.F] K)=some (.val (openTs K.os.length [x.O]).1 ⟨K.os ++ (openTs K.os.length [x.O]).2,K.ext,K.tch⟩):=B5 hT (by simp -implicitDefEqProofs only [Cod.viewF,XP,seval]) (C0 (a:=fun x:Cod=>[x.F]) (r:=fun x=>[x.O]) (fun x y e=>by simp only [List.cons.injEq,Cod.F_iff,and_true] at e; simp only [e]) x h) (by
 simp -implicitDefEqProofs only [Cod.okO,Cod.noF,XP,seval])
theorem lG {c:Cod} (h:c.tok):c.ok:=⟨h.1,h.2.1,h.2.2.1⟩
set_option maxHeartbeats 4000000 in
theorem Is (href19_Round:T 74=some J0) (hSameBlocks:T 75=some G9) (hCopyCode:T 16=some Z4) {c:Cod} (hk:c.tok):AM.Comes ⟨A0,T,A2⟩ 18 [c.F] [(K6 c).O]:=by
 have tc:=fun K=>Tc (K:=K) (x:=c) hCopyCode (lG hk)
 have lp:=pN (c:=c) href19_Round hSameBlocks _ c.blocks rfl hk.2
 refine ⟨[.agg (c.cs (.msl 1 0 c.regs.length 1) (.msl 2 0 c.blocks.length 5))],⟨[.row 1 [.agg (c.cs (.msl 1 0 c.regs.length 1) (.msl 2 0 c.blocks.length 5))] 5,.row 0 (ints c.regs) 1,.row 0 ((L8 c.blocks).map Blk.O) 5],0,[]⟩,?_,?_⟩
 . rw [A7 (c:=GP) (nt:=17) (rs:=[.cell 2 31]) rfl (by simp)]; unfold GP
   unfold K0
   simp only [Cod.F,Cod.O] at tc ⊢
   simp -implicitDefEqProofs only [tc,lp,Cod.cs,List.length_map,XP,seval]
 . refine B4 (vs':=[.agg (c.cs (.msl 1 0 c.regs.length 1) (.msl 2 0 c.blocks.length 5))]) (os':=[.row 1 [.agg (c.cs (.msl 1 0 c.regs.length 1) (.msl 2 0 c.blocks.length 5))] 5,.row 0 (ints c.regs) 1,.row 0 ((L8 c.blocks).map Blk.O) 5]) ?_ ?_ (us:=[.agg (c.cs (.msl 0 0 c.regs.length 1) (.msl 1 0 c.blocks.length 5))]) (ps:=[.row 0 (ints c.regs) 1,.row 0 ((L8 c.blocks).map Blk.O) 5]) ?_ ?_ ?_
   all_goals simp -implicitDefEqProofs only [Cod.cs,Cod.O,K6,List.length_map,Yw,XP,seval]
def W4:=U4 (fun p:(Cod)=>[p.F]) (fun p=>[(K6 p).O]) (fun p=>p.tok)
theorem Yx (href19_Twin:T 18=some W4) {c:Cod} {K:PK} (hk:c.tok):evP ⟨A0,T,A2⟩ (.call 18 [c.F] K)=some (.val (openTs K.os.length [(K6 c).O]).1 ⟨K.os ++ (openTs K.os.length [(K6 c).O]).2,K.ext,K.tch⟩):=B5 href19_Twin (by simp -implicitDefEqProofs only [VV,XP,seval]) (C0 (a:=fun p:(Cod)=>[p.F]) (r:=fun p=>[(K6 p).O]) (fun x y e=>by simp only [VJ] at e; simp only [e]) (c) hk) (by simp -implicitDefEqProofs only [VN,XP,seval])
theorem Rm (href19_Round:T 74=some J0) (hSameBlocks:T 75=some G9) (hCopyCode:T 16=some Z4) (hP:PEok ⟨A0,T,A2⟩):TC A0 18 W4:=C1 hP fun p h=>Is href19_Round hSameBlocks hCopyCode h
end
end Go.Proofs.AmEnv
set_option maxRecDepth 100000
namespace Go.Proofs.AmEnv
open Go Go.AM
variable {T:Nat->Option (List AV->Option (List AV))}
section
variable {l:List Blk} {i n:Nat} {x b:Blk} {K:PK} {tch:List Nat}
theorem iB {sz:Nat} {es:List AV} {f:Bool} {n:Nat} (hn:n≤es.length) (h0:N5 sz es=true):l9 sz es f none (some (.int .i64 (n:Int))) none=some (.fsl (es.take n) (f && Nat.beq n (lenL es))):=by
 unfold l9
 show B0 (Nat.ble 0 n && Nat.ble n (lenL es) && Nat.ble (lenL es) (lenL es) && N5 sz es) (some (AV.fsl (z7 (z6 es 0) (Nat.sub n 0)) (f && Nat.beq n (lenL es))))=_
 rw [h0,A6,show Nat.ble 0 n=true from rfl,Nat.ble_eq_true_of_le hn,Nat.ble_eq_true_of_le (Nat.le_refl _),G6,G5]
 rfl
theorem lH (h0:0 < l.length) (hn:n≤l.length):Ce (Ps A0 (.slice 41) none (some (.int .i64 (n:Int))) none (fslN (l.map Blk.F))) K=.val (fslN ((l.take n).map Blk.F)) K:=by
 cases l with
 | nil=>cases h0
 | cons b r =>
  show Ce ((l9 5 ((b :: r).map Blk.F) false none (some (.int .i64 (n:Int))) none).map fun y=>match y with | .fsl l _=>AV.fsl l l.isEmpty | y=>y) K=_
  rw [iB (by simpa using hn) rfl]
  show OpS.val (fslN (((b :: r).map Blk.F).take n)) K=_
  rw [List.map_take]
theorem vE (hT:T 218=some S5) {x y:Blk} (h:x.ok) {K:PK}:evP ⟨A0,T,A2⟩ (.call 218 [x.F,y.F] K)=some (.val [.bool (decide (x=y))] ⟨K.os ++ [],K.ext,K.tch⟩):=B5 hT (by simp -implicitDefEqProofs only [Blk.viewF,XP,seval]) (gV h) (by simp -implicitDefEqProofs only [XP,seval])
theorem Td (hN:T 217=none) (hT:T 218=some S5) (hb:b.ok):evP ⟨A0,T,A2⟩ (.call 217 [b.F,.ptr 0 0 0] ⟨[.row 1 [x.F] 5],1,tch⟩)=some (.val [.bool (decide (b=x))] ⟨[.row 1 [x.F] 5,.row 1 [b.F] 5],1,tch⟩):=by
 have ta:=fun K=>vE (K:=K) (x:=b) (y:=x) hT hb
 rw [Qp hN rfl]
 rw [A7 (c:=oQ) (nt:=7) (rs:=[.tmp 3]) rfl (by simp)]; unfold oQ
 simp only [Blk.F] at ta ⊢
 simp -implicitDefEqProofs only [ta,XP,seval]
theorem DE (hN:T 217=none) (hT:T 218=some S5) (h:i < l.length) (hs:l.length≤bigN) (hb:l[i].ok) (hp:decide (l[i]=x)=false):evP ⟨A0,T,A2⟩ (.code m5 [(0,fslN (l.map Blk.F)),(1,.fn (.func 217) [] [.ptr 0 0 0]),(7,.int .i64 (l.length:Int)),(8,.int .i64 (i:Int))] ⟨[.row 1 [x.F] 5],1,[]⟩)=some (.ok .normal [(0,fslN (l.map Blk.F)),(1,.fn (.func 217) [] [.ptr 0 0 0]),(7,.int .i64 (l.length:Int)),(8,.int .i64 ((i + 1:Nat):Int))] ⟨[.row 1 [x.F] 5],1,[]⟩):=by
 unfold m5
 have hlt:decide ((i:Int) < (l.length:Int))=true:=by simp [h]
 have hw:=A9 (i:=i) (by simp only [bigN] at hs; omega)
 have hi:=B1 (F:=Blk.F) h
 have t:=Td (x:=x) (b:=l[i]) (tch:=[]) hN hT hb
 rw [hp] at t
 simp only [Blk.F] at hi t ⊢
 simp -implicitDefEqProofs only [hlt,hi,hw,t,XP,seval]
theorem DF (hN:T 217=none) (hT:T 218=some S5) (h:i < l.length) (hb:l[i].ok) (hp:decide (l[i]=x)=true):∃ fr',evP ⟨A0,T,A2⟩ (.code m5 [(0,fslN (l.map Blk.F)),(1,.fn (.func 217) [] [.ptr 0 0 0]),(7,.int .i64 (l.length:Int)),(8,.int .i64 (i:Int))] ⟨[.row 1 [x.F] 5],1,[]⟩)=some (.ok .ret fr' ⟨[.row 1 [x.F] 5],1,[]⟩)∧lookP fr' 4=.int .i64 (i:Int):=by
 unfold m5
 have hlt:decide ((i:Int) < (l.length:Int))=true:=by simp [h]
 have hi:=B1 (F:=Blk.F) h
 have t:=Td (x:=x) (b:=l[i]) (tch:=[]) hN hT hb
 rw [hp] at t
 simp only [Blk.F] at hi t ⊢
 simp -implicitDefEqProofs only [hlt,hi,t,XP,seval]
 exact ⟨_,rfl,rfl⟩
theorem DG:∃ fr',evP ⟨A0,T,A2⟩ (.code m5 [(0,fslN (l.map Blk.F)),(1,.fn (.func 217) [] [.ptr 0 0 0]),(7,.int .i64 (l.length:Int)),(8,.int .i64 (l.length:Int))] ⟨[.row 1 [x.F] 5],1,[]⟩)=some (.ok (.exit 0) fr' ⟨[.row 1 [x.F] 5],1,[]⟩):=by
 unfold m5
 have hlt:decide ((l.length:Int) < (l.length:Int))=false:=by simp
 simp -implicitDefEqProofs only [hlt,XP,seval]
 exact ⟨_,rfl⟩
theorem By (hN:T 217=none) (hT:T 218=some S5) (hs:l.length≤bigN) (hok:∀ b∈l,b.ok):evP ⟨A0,T,A2⟩ (.body 216 [fslN (l.map Blk.F),.fn (.func 217) [] [.ptr 0 0 0]] ⟨[.row 1 [x.F] 5],1,[]⟩)=some (.val [.int .i64 (idxOf (fun o=>decide (o=x)) l)] ⟨[.row 1 [x.F] 5],1,[]⟩):=by
 rw [A7 (c:=oP) (nt:=19) (rs:=[.tmp 4]) rfl (by simp)]; unfold oP
 rcases idx_loop (P:=⟨A0,T,A2⟩) (c:=m5) (p:=fun o=>decide (o=x)) (l:=l) (S:=fun i=>[(0,fslN (l.map Blk.F)),(1,.fn (.func 217) [] [.ptr 0 0 0]),(7,.int .i64 (l.length:Int)),(8,.int .i64 (i:Int))]) (K:=⟨[.row 1 [x.F] 5],1,[]⟩) (fun i h hp=>DE hN hT h hs (hok _ (List.getElem_mem h)) hp) (fun i h hp=>DF hN hT h (hok _ (List.getElem_mem h)) hp) DG with ⟨i,e,fr',h1,h2⟩ | ⟨e,fr',h1⟩
 . have h1:evP ⟨A0,T,A2⟩ (.code (.loop m5) [(0,fslN (l.map Blk.F)),(1,.fn (.func 217) [] [.ptr 0 0 0]),(7,.int .i64 (l.length:Int)),(8,.int .i64 0)] ⟨[.row 1 [x.F] 5],1,[]⟩)=_:=h1
   simp only [Blk.F] at h1 ⊢
   simp -implicitDefEqProofs only [h1,h2,e,List.length_map,XP,seval]
 . have h1:evP ⟨A0,T,A2⟩ (.code (.loop m5) [(0,fslN (l.map Blk.F)),(1,.fn (.func 217) [] [.ptr 0 0 0]),(7,.int .i64 (l.length:Int)),(8,.int .i64 0)] ⟨[.row 1 [x.F] 5],1,[]⟩)=_:=h1
   simp only [Blk.F] at h1 ⊢
   simp -implicitDefEqProofs only [h1,e,List.length_map,XP,seval]
theorem eJ (h:i < l.length):idxOf (fun o=>decide (o=l[i])) (l.take (i + 1))=(fstN l i:Int):=by
 obtain ⟨h1,h2,h3⟩:=Ir h
 have hi:l[i]?=some l[i]:=List.getElem?_eq_getElem h
 have hl:fstN l i < (l.take (i + 1)).length:=by simp; omega
 have:(l.take (i + 1)).findIdx? (fun o=>decide (o=l[i]))=some (fstN l i):=by
  rw [List.findIdx?_eq_some_iff_getElem]
  refine ⟨hl,?_,fun j hj=>?_⟩
  . rw [List.getElem_take]
    rw [List.getElem?_eq_getElem (by omega),hi] at h2
    simpa using h2
  . rw [List.getElem_take]
    have:=h3 j hj
    rw [List.getElem?_eq_getElem (by omega),hi] at this
    simpa using this
 unfold idxOf
 rw [this]
def H6 (l:List Blk) (i:Nat):List Int:=(List.range i).map fun i=>(fstN l i:Int)
theorem Ek (l:List Blk) (i:Nat):(H6 l i).length=i:=by simp [H6]
theorem Yy (l:List Blk) (i:Nat):H6 l (i + 1)=H6 l i ++ [(fstN l i:Int)]:=by simp [H6,List.range_succ]
theorem lI (hI:T 216=none) (hN:T 217=none) (hT:T 218=some S5) (h:i < l.length) (hs:l.length≤bigN) (hok:∀ b∈l,b.ok):evP ⟨A0,T,A2⟩ (.call 216 [fslN ((l.take (i + 1)).map Blk.F),.fn (.func 217) [] [.ptr 0 0 0]] ⟨[.row 1 [l[i].F] 5],0,tch⟩)=some (.val [.int .i64 (fstN l i:Int)] ⟨[.row 1 [l[i].F] 5],0,tch⟩):=by
 rw [← eJ h]
 exact aD (ids:=[0]) hI rfl rfl rfl rfl (By hN hT (by simp; omega) fun b hb=>hok b (List.mem_of_mem_take hb)) rfl rfl
theorem lJ {es:List AV} (hI:T 216=none) (hN:T 217=none) (hT:T 218=some S5) (h:i < l.length) (hs:l.length≤bigN) (hok:∀ b∈l,b.ok):evP ⟨A0,T,A2⟩ (.call 216 [fslN ((l.take (i + 1)).map Blk.F),.fn (.func 217) [] [.ptr 1 0 0]] ⟨[.row 0 es 1,.row 1 [l[i].F] 5],0,tch⟩)=some (.val [.int .i64 (fstN l i:Int)] ⟨[.row 0 es 1,.row 1 [l[i].F] 5],0,tch⟩):=by
 rw [← eJ h]
 exact aD (ids:=[1]) hI rfl rfl rfl rfl (By hN hT (by simp; omega) fun b hb=>hok b (List.mem_of_mem_take hb)) rfl rfl
set_option maxHeartbeats 4000000 in
theorem LH (hI:T 216=none) (hN:T 217=none) (hT:T 218=some S5) (h:0 < l.length) (hs:l.length≤bigN) (hok:∀ b∈l,b.ok):evP ⟨A0,T,A2⟩ (.code x7 [(0,fslN (l.map Blk.F)),(3,.nilsl),(6,fslN (l.map Blk.F)),(7,.int .i64 (l.length:Int)),(8,.int .i64 0)] ⟨[],0,[]⟩)=some (.ok .normal [(0,fslN (l.map Blk.F)),(3,.msl 0 0 1 1),(6,fslN (l.map Blk.F)),(7,.int .i64 (l.length:Int)),(8,.int .i64 ((1:Nat):Int))] ⟨[.row 0 (ints (H6 l 1)) 1],0,[]⟩):=by
 unfold x7
 have hlt:decide ((0:Int) < (l.length:Int))=true:=by simp [h]
 have hi:=ix_fslN (te:=n9) (k:=.i64) (i:=0) (B1 (F:=Blk.F) h) rfl
 have hi:Ua n9 (fslN (l.map Blk.F)) (.int .i64 0)=some (.fptr (Blk.F l[0]) 0):=hi
 have tc:=fun tch=>lI (i:=0) (tch:=tch) hI hN hT h hs hok
 have hsl:=fun K=>lH (n:=1) (l:=l) (K:=K) h h
 have hsl:∀ K:PK,Ce (Ps A0 (.slice 41) none (some (.int .i64 1)) none (fslN (l.map Blk.F))) K=.val (fslN ((l.take (0 + 1)).map Blk.F)) K:=hsl
 have hx:ints (H6 l 1)=[.int .i64 (fstN l 0:Int)]:=rfl
 rw [hx]
 simp only [Blk.F] at hi tc ⊢
 simp -implicitDefEqProofs only [ hlt,hi,tc,hsl,show IntKind.i64.wrap (0 + 1)=((1:Nat):Int) from rfl,show ((1:Nat):Int)=1 from rfl,XQ,sp_eq,Nat.reduceAdd,Nat.reduceSub,Nat.reduceLT,Nat.reduceLeDiff,Nat.reduceEqDiff,Nat.reduceMul,↓reduceIte]
end
end Go.Proofs.AmEnv
set_option maxRecDepth 100000
namespace Go.Proofs.AmEnv
open Go Go.AM
variable {T:Nat->Option (List AV->Option (List AV))}
section
variable {l:List Blk} {i n:Nat} {x b:Blk} {K:PK} {tch:List Nat}
set_option maxHeartbeats 4000000 in
theorem LI (hI:T 216=none) (hN:T 217=none) (hT:T 218=some S5) (h:i < l.length) (hs:l.length * 56≤bigN) (hok:∀ b∈l,b.ok):evP ⟨A0,T,A2⟩ (.code x7 [(0,fslN (l.map Blk.F)),(3,.msl 0 0 i 1),(6,fslN (l.map Blk.F)),(7,.int .i64 (l.length:Int)),(8,.int .i64 (i:Int))] ⟨[.row 0 (ints (H6 l i)) 1],0,[]⟩)=some (.ok .normal [(0,fslN (l.map Blk.F)),(3,.msl 0 0 (i + 1) 1),(6,fslN (l.map Blk.F)),(7,.int .i64 (l.length:Int)),(8,.int .i64 ((i + 1:Nat):Int))] ⟨[.row 0 (ints (H6 l (i + 1))) 1],0,[]⟩):=by
 unfold x7
 have hlt:decide ((i:Int) < (l.length:Int))=true:=by simp [h]
 have hw:=A9 (i:=i) (by simp only [bigN] at hs; omega)
 have hi:=B1 (F:=Blk.F) h
 have tc:=fun es tch=>lJ (i:=i) (es:=es) (tch:=tch) hI hN hT h (by simp only [bigN] at hs ⊢; omega) hok
 have hsl:=fun K=>lH (n:=i + 1) (l:=l) (K:=K) (by omega) h
 have hx:ints (H6 l (i + 1))=ints (H6 l i) ++ [.int .i64 (fstN l i:Int)]:=by rw [Yy]; simp [ints]
 have hm:(ints (H6 l i)).length=i:=by rw [List.length_map,Ek]
 have hz:(i + 1) * 8≤140737488355328:=by simp only [bigN] at hs; omega
 rw [hx]
 simp only [Blk.F] at hi tc ⊢
 simp -implicitDefEqProofs only [hlt,hi,tc,hsl,hw,hm,hz,XP,seval]
theorem DH {y:AV} {K:PK}:∃ fr',evP ⟨A0,T,A2⟩ (.code x7 [(0,fslN (l.map Blk.F)),(3,y),(6,fslN (l.map Blk.F)),(7,.int .i64 (l.length:Int)),(8,.int .i64 (l.length:Int))] K)=some (.ok (.exit 0) fr' K)∧lookP fr' 3=y:=by
 unfold x7
 have hlt:decide ((l.length:Int) < (l.length:Int))=false:=by simp
 simp -implicitDefEqProofs only [hlt,XP,seval]
 exact ⟨_,rfl,rfl⟩
theorem DI (hI:T 216=none) (hN:T 217=none) (hT:T 218=some S5) (hs:l.length * 56≤bigN) (hok:∀ b∈l,b.ok):∀ (n i:Nat),l.length=i + n->0 < i->∃ fr',evP ⟨A0,T,A2⟩ (.code (.loop x7) [(0,fslN (l.map Blk.F)),(3,.msl 0 0 i 1),(6,fslN (l.map Blk.F)),(7,.int .i64 (l.length:Int)),(8,.int .i64 (i:Int))] ⟨[.row 0 (ints (H6 l i)) 1],0,[]⟩)=some (.ok (.exit 0) fr' ⟨[.row 0 (ints (H6 l l.length)) 1],0,[]⟩)∧lookP fr' 3=.msl 0 0 l.length 1
 | 0,i,e,h0=>by
  obtain rfl:i=l.length:=by omega
  obtain ⟨fr',h1,h2⟩:=DH (T:=T) (l:=l) (y:=.msl 0 0 l.length 1) (K:=⟨[.row 0 (ints (H6 l l.length)) 1],0,[]⟩)
  exact ⟨fr',loop_exit h1,h2⟩
 | n + 1,i,e,h0=>by
  rw [loop_more (LI hI hN hT (by omega) hs hok)]
  exact DI hI hN hT hs hok n (i + 1) (by omega) (by omega)
theorem Gr (nIdxBlocks:T 216=none) (ntwin_firsts_1:T 217=none) (htwin_alike:T 218=some S5) {l:List Blk} (hk:l.length * 56≤bigN∧(∀ b∈l,b.ok)):AM.Comes ⟨A0,T,A2⟩ 157 [fslN (l.map Blk.F)] [ownd 0 1 (ints (H6 l l.length))]:=by
 obtain ⟨hs,hok⟩:=hk
 cases hl:l with
 | nil =>
  subst hl
  obtain ⟨fr',h1,h2⟩:=DH (T:=T) (l:=[]) (y:=.nilsl) (K:=⟨[],0,[]⟩)
  have hl:=loop_exit h1
  have hl:evP ⟨A0,T,A2⟩ (.code (.loop x7) [(0,fslN (([]:List Blk).map Blk.F)),(3,.nilsl),(6,fslN (([]:List Blk).map Blk.F)),(7,.int .i64 0),(8,.int .i64 0)] ⟨[],0,[]⟩)=_:=hl
  refine ⟨[.nilsl],⟨[],0,[]⟩,?_,C9 (.inl ⟨rfl,rfl,rfl⟩)⟩
  rw [A7 (c:=gJ) (nt:=24) (rs:=[.tmp 2]) rfl (by simp)]; unfold gJ
  unfold K0
  simp only [List.map_nil] at hl ⊢
  have z:((0:Nat):Int)=0:=rfl
  simp -implicitDefEqProofs only [hl,h2,z,XP,seval]
 | cons b r =>
  rw [← hl]
  have h0:0 < l.length:=by rw [hl]; simp
  obtain ⟨fr',h1,h2⟩:=DI nIdxBlocks ntwin_firsts_1 htwin_alike hs hok (l.length - 1) 1 (by omega) (by decide)
  have hl:=(loop_more (LH nIdxBlocks ntwin_firsts_1 htwin_alike h0 (by simp only [bigN] at hs ⊢; omega) hok)).trans h1
  refine ⟨[.msl 0 0 l.length 1],⟨[.row 0 (ints (H6 l l.length)) 1],0,[]⟩,?_,C9 (.inr ⟨by rw [List.length_map,Ek],rfl⟩)⟩
  rw [A7 (c:=gJ) (nt:=24) (rs:=[.tmp 2]) rfl (by simp)]; unfold gJ
  unfold K0
  simp -implicitDefEqProofs only [hl,h2,List.length_map,XP,seval]
def F4:=U4 (fun p:(List Blk)=>[fslN (p.map Blk.F)]) (fun p=>[ownd 0 1 (ints (H6 p p.length))]) (fun p=>p.length * 56≤bigN∧(∀ b∈p,b.ok))
theorem Pg (htwin_firsts:T 157=some F4) {l:List Blk} {K:PK} {args:List AV} (hv:viewAs K.os args=some [fslN (l.map Blk.F)]) (hk:l.length * 56≤bigN∧(∀ b∈l,b.ok)):evP ⟨A0,T,A2⟩ (.call 157 args K)=some (.val (openTs K.os.length [ownd 0 1 (ints (H6 l l.length))]).1 ⟨K.os ++ (openTs K.os.length [ownd 0 1 (ints (H6 l l.length))]).2,K.ext,K.tch⟩):=B5 htwin_firsts hv (C0 (a:=fun p:(List Blk)=>[fslN (p.map Blk.F)]) (r:=fun p=>[ownd 0 1 (ints (H6 p p.length))]) (fun x y e=>by simp only [VJ] at e; simp only [e]) (l) hk) (by generalize (refsL args).isEmpty=z; simp -implicitDefEqProofs only [VN,XP,seval])
theorem Ph (nIdxBlocks:T 216=none) (ntwin_firsts_1:T 217=none) (htwin_alike:T 218=some S5) (hP:PEok ⟨A0,T,A2⟩):TC A0 157 F4:=C1 hP fun p h=>Gr nIdxBlocks ntwin_firsts_1 htwin_alike h
def FI (l:List Blk):List Int:=H6 l l.length
theorem lK {l:List Blk} {t:Int} (h:0≤t∧t < l.length):(ints (FI l))[t.toNat]?=some (.int .i64 (fstI l t)):=by
 have ht:t.toNat < l.length:=by omega
 unfold FI H6 fstI
 rw [if_pos h,List.getElem?_map,List.getElem?_map,List.getElem?_range ht]; rfl
theorem vF (l:List Blk):(FI l).length=l.length:=Ek l _
def rK (l:List Blk) (bs:List AV) (t:Bool):List PO:=[.row 0 bs 5,.row 1 [.bool t] 1,.row 1 [.msl 3 0 l.length 1] 1,.row 0 (ints (FI l)) 1]
variable {bs:List AV} {t:Bool} {u v w:Int} {c0:AV} {tl:List AV}
theorem y4 (id i o:Nat):U5 (.ptr id i o)=some (.ptr id i o):=rfl
theorem eK {k a s:Int} (hN:T 158=none) (hb:bs[i]?=some (.agg [c0,.int .i64 k,.int .i64 a,.int .i64 u,.int .i64 s])) (hu:0≤u∧u < l.length) :
 ∃ tch',evP ⟨A0,T,A2⟩ (.call 158 [.ptr 0 i 3,.ptr 1 0 0,.ptr 2 0 0] ⟨rK l bs t,1,tch⟩)=some (.val [] ⟨rK l (bs.set i (.agg [c0,.int .i64 k,.int .i64 a,.int .i64 (fstI l u),.int .i64 s])) (t || !decide (fstI l u=u)),1,tch'⟩):=by
 have hix:=lK hu
 obtain ⟨n,rfl⟩:=Int.eq_ofNat_of_zero_le hu.1
 have hn:n < l.length:=by omega
 have hix:(ints (FI l))[n]?=some (.int .i64 (fstI l n)):=hix
 have hbi:i < bs.length:=(List.getElem?_eq_some_iff.1 hb).1
 unfold rK
 refine ⟨?_,?_⟩
 rotate_left 1
 . rw [Qp hN rfl]
   rw [A7 (c:=gK) (nt:=25) (rs:=[]) rfl (by simp)]; unfold gK
   cases t with
   | true =>
    simp -implicitDefEqProofs only [hb,hbi,hix,hn,H9 hbi,y4,XP,seval]
    all_goals rfl
   | false =>
    simp -implicitDefEqProofs only [hb,hbi,hix,hn,H9 hbi,y4,XP,seval]
    all_goals rfl
theorem lL {k a s:Int} (hN:T 158=none) (hb:bs[i]?=some (.agg [c0,.int .i64 k,.int .i64 a,.int .i64 s,.int .i64 u])) (hu:0≤u∧u < l.length) :
 ∃ tch',evP ⟨A0,T,A2⟩ (.call 158 [.ptr 0 i 4,.ptr 1 0 0,.ptr 2 0 0] ⟨rK l bs t,1,tch⟩)=some (.val [] ⟨rK l (bs.set i (.agg [c0,.int .i64 k,.int .i64 a,.int .i64 s,.int .i64 (fstI l u)])) (t || !decide (fstI l u=u)),1,tch'⟩):=by
 have hix:=lK hu
 obtain ⟨n,rfl⟩:=Int.eq_ofNat_of_zero_le hu.1
 have hn:n < l.length:=by omega
 have hix:(ints (FI l))[n]?=some (.int .i64 (fstI l n)):=hix
 have hbi:i < bs.length:=(List.getElem?_eq_some_iff.1 hb).1
 unfold rK
 refine ⟨?_,?_⟩
 rotate_left 1
 . rw [Qp hN rfl]
   rw [A7 (c:=gK) (nt:=25) (rs:=[]) rfl (by simp)]; unfold gK
   cases t with
   | true =>
    simp -implicitDefEqProofs only [hb,hbi,hix,hn,H9 hbi,y4,XP,seval]
    all_goals rfl
   | false =>
    simp -implicitDefEqProofs only [hb,hbi,hix,hn,H9 hbi,y4,XP,seval]
    all_goals rfl
def tTo (l:List Blk) (i:Nat):Bool:=!((l.take i).all fun b=>decide (Blk.R l b=b))
theorem lM {l:List Blk} {i:Nat} (h:i < l.length):tTo l (i + 1)=(tTo l i || !decide (Blk.R l l[i]=l[i])):=by
 unfold tTo
 rw [List.take_succ_eq_append_getElem h,List.all_append]
 simp [Bool.not_and]
theorem pO (l:List Blk):tTo l l.length=!decide (rnd l=l):=by
 unfold tTo rnd
 rw [List.take_length]
 congr 1
 have key:∀ m:List Blk,(m.all fun b=>decide (Blk.R l b=b))=decide (m.map (Blk.R l)=m):=fun m=>by
  induction m with
  | nil=>rfl
  | cons b m ih=>rw [List.all_cons,ih]; simp
 exact key l
theorem Rq9 {l:List Blk} {b:Blk}:decide (Blk.R l b=b)=decide (b.e.R l=b.e):=decide_eq_decide.2 (by cases b; simp [Blk.R])
set_option maxHeartbeats 8000000 in
theorem LJ (hN:T 158=none) (h:i < l.length) (hs:l.length≤bigN) (htg:∀ b∈l,Ds l.length b.e) (tch:List Nat) :
 ∃ tch',evP ⟨A0,T,A2⟩ (.code Nw [(0,.msl 0 0 l.length 5),(2,.ptr 1 0 0),(4,.fn (.func 158) [] [.ptr 1 0 0,.ptr 2 0 0]),(11,.int .i64 (l.length:Int)),(12,.int .i64 (i:Int))] ⟨rK l ((rndTo l i).map Blk.O) (tTo l i),1,tch⟩)=some (.ok .normal [(0,.msl 0 0 l.length 5),(2,.ptr 1 0 0),(4,.fn (.func 158) [] [.ptr 1 0 0,.ptr 2 0 0]),(11,.int .i64 (l.length:Int)),(12,.int .i64 ((i + 1:Nat):Int))] ⟨rK l ((rndTo l (i + 1)).map Blk.O) (tTo l (i + 1)),1,tch'⟩):=by
 have hlt:decide ((i:Int) < (l.length:Int))=true:=by simp [h]
 have hw:=A9 (i:=i) (by simp only [bigN] at hs; omega)
 have hg:((rndTo l i).map Blk.O)[i]?=some l[i].O:=by rw [List.getElem?_map,Ta h]; rfl
 have hset:((rndTo l i).map Blk.O).set i (Blk.R l l[i]).O=(rndTo l (i + 1)).map Blk.O:=by rw [← List.map_set,Tb h]
 have hb:=htg _ (List.getElem_mem h)
 have hil:i < ((rndTo l i).map Blk.O).length:=by rw [List.length_map,iA]; exact h
 rw [lM h,Rq9]
 generalize (rndTo l i).map Blk.O=bs at hg hset hil
 generalize tTo l i=t
 unfold Blk.R Endd.R at hset
 unfold Endd.R
 generalize l[i]=b at hg hset hb
 obtain ⟨code,k,a,to,els⟩:=b
 simp only [Blk.O] at hg
 unfold Nw
 by_cases k2:k=2
 . have k1:¬ k=1:=by omega
   simp only [if_neg k1,if_pos k2,Blk.O] at hset
   obtain ⟨tc1,h1⟩:=lL (T:=T) (l:=l) (t:=t) (tch:=tch.filter (· < 1)) hN hg (hb.2 k2)
   have hg2:=H9 (v:=AV.agg [ownd 0 8 (code.map Ins.O),.int .i64 k,.int .i64 a,.int .i64 to,.int .i64 (fstI l els)]) hil
   obtain ⟨tc2,h2⟩:=eK (T:=T) (l:=l) (t:=t || !decide (fstI l els=els)) (tch:=tc1.filter (· < 1)) hN hg2 (hb.1 (.inr k2))
   rw [List.set_set,hset] at h2
   have ht:(t || !decide ((if k=1 then (⟨k,a,fstI l to,els⟩:Endd) else if k=2 then ⟨k,a,fstI l to,fstI l els⟩ else ⟨k,a,to,els⟩)=⟨k,a,to,els⟩))=((t || !decide (fstI l els=els)) || !decide (fstI l to=to)):=by
    rw [if_neg k1,if_pos k2]
    by_cases q1:fstI l to=to <;> by_cases q2:fstI l els=els <;> simp [q1,q2]
   simp only at ht ⊢
   rw [ht]
   refine ⟨?_,?_⟩
   rotate_left 1
   . unfold rK at h1 h2 ⊢
     simp -implicitDefEqProofs only [hlt,hw,h,hg,h1,h2,eq_false k1,eq_true k2,y4,XP,seval]
     all_goals rfl
 by_cases k1:k=1
 . simp only [if_pos k1,Blk.O] at hset
   obtain ⟨tc2,h2⟩:=eK (T:=T) (l:=l) (t:=t) (tch:=tch.filter (· < 1)) hN hg (hb.1 (.inl k1))
   rw [hset] at h2
   have ht:(t || !decide ((if k=1 then (⟨k,a,fstI l to,els⟩:Endd) else if k=2 then ⟨k,a,fstI l to,fstI l els⟩ else ⟨k,a,to,els⟩)=⟨k,a,to,els⟩))=(t || !decide (fstI l to=to)):=by
    rw [if_pos k1]
    by_cases q1:fstI l to=to <;> simp [q1]
   simp only at ht ⊢
   rw [ht]
   refine ⟨?_,?_⟩
   rotate_left 1
   . unfold rK at h2 ⊢
     simp -implicitDefEqProofs only [hlt,hw,h,hg,h2,eq_true k1,eq_false k2,y4,XP,seval]
     all_goals rfl
 . simp only [if_neg k1,if_neg k2,Blk.O] at hset
   have ht:(t || !decide ((if k=1 then (⟨k,a,fstI l to,els⟩:Endd) else if k=2 then ⟨k,a,fstI l to,fstI l els⟩ else ⟨k,a,to,els⟩)=⟨k,a,to,els⟩))=t:=by
    rw [if_neg k1,if_neg k2]; simp
   have hsame:bs=(rndTo l (i + 1)).map Blk.O:=by rw [← hset,Gc hg]
   simp only at ht ⊢
   rw [ht,← hsame]
   refine ⟨?_,?_⟩
   rotate_left 1
   . unfold rK
     simp -implicitDefEqProofs only [hlt,hw,h,hg,eq_false k1,eq_false k2,y4,XP,seval]
     all_goals rfl
end
end Go.Proofs.AmEnv
set_option maxRecDepth 100000
namespace Go.Proofs.AmEnv
open Go Go.AM
variable {T:Nat->Option (List AV->Option (List AV))}
section
variable {l:List Blk} {i k:Nat} {tch:List Nat}
theorem LK {K:PK} {f:AV}:∃ fr',evP ⟨A0,T,A2⟩ (.code Nw [(0,.msl 0 0 l.length 5),(2,.ptr 1 0 0),(4,f),(11,.int .i64 (l.length:Int)),(12,.int .i64 (l.length:Int))] K)=some (.ok (.exit 0) fr' K)∧lookP fr' 2=.ptr 1 0 0:=by
 unfold Nw
 have hlt:decide ((l.length:Int) < (l.length:Int))=false:=by simp
 simp -implicitDefEqProofs only [hlt,XP,seval]
 exact ⟨_,rfl,rfl⟩
theorem DJ (hN:T 158=none) (hs:l.length≤bigN) (htg:∀ b∈l,Ds l.length b.e):∀ (n i:Nat) (tch:List Nat),l.length=i + n ->
 ∃ fr' tch',evP ⟨A0,T,A2⟩ (.code (.loop Nw) [(0,.msl 0 0 l.length 5),(2,.ptr 1 0 0),(4,.fn (.func 158) [] [.ptr 1 0 0,.ptr 2 0 0]),(11,.int .i64 (l.length:Int)),(12,.int .i64 (i:Int))] ⟨rK l ((rndTo l i).map Blk.O) (tTo l i),1,tch⟩)=some (.ok (.exit 0) fr' ⟨rK l ((rnd l).map Blk.O) (!decide (rnd l=l)),1,tch'⟩)∧lookP fr' 2=.ptr 1 0 0
 | 0,i,tch,e=>by
  obtain rfl:i=l.length:=by omega
  rw [Sz,pO]
  obtain ⟨fr',h1,h2⟩:=LK (T:=T) (l:=l) (K:=⟨rK l ((rnd l).map Blk.O) (!decide (rnd l=l)),1,tch⟩)
  exact ⟨fr',tch,loop_exit h1,h2⟩
 | n + 1,i,tch,e=>by
  obtain ⟨tch1,h1⟩:=LJ hN (show i < l.length by omega) hs htg tch
  obtain ⟨fr',tch',h2,h3⟩:=DJ hN hs htg n (i + 1) tch1 (by omega)
  exact ⟨fr',tch',(loop_more h1).trans h2,h3⟩
set_option maxHeartbeats 4000000 in
theorem cE (hN:T 158=none) (hF:T 157=some F4) (hok:I2 l) :
 ∃ tch',evP ⟨A0,T,A2⟩ (.body 73 [.msl 0 0 l.length 5] ⟨[.row 0 (l.map Blk.O) 5],1,[]⟩)=some (.val [.bool (!decide (rnd l=l))] ⟨[.row 0 ((rnd l).map Blk.O) 5,.row 1 [.bool (!decide (rnd l=l))] 1],1,tch'⟩):=by
 have tf:∀ K:PK,K.os[0]?=some (.row 0 (l.map Blk.O) 5)->evP ⟨A0,T,A2⟩ (.call 157 [.msl 0 0 l.length 5] K)=some (.val (openTs K.os.length [ownd 0 1 (ints (FI l))]).1 ⟨K.os ++ (openTs K.os.length [ownd 0 1 (ints (FI l))]).2,K.ext,K.tch⟩):=fun K hK=>Pg hF (by have:=V2 hK; simp -implicitDefEqProofs only [this,XP,seval]) ⟨hok.2.1,hok.1⟩
 obtain ⟨fr',tch1,h1,h2⟩:=DJ (T:=T) hN hok.len hok.2.2 l.length 0 [] (by omega)
 have h1:evP ⟨A0,T,A2⟩ (.code (.loop Nw) [(0,.msl 0 0 l.length 5),(2,.ptr 1 0 0),(4,.fn (.func 158) [] [.ptr 1 0 0,.ptr 2 0 0]),(11,.int .i64 (l.length:Int)),(12,.int .i64 0)] ⟨rK l (l.map Blk.O) false,1,[]⟩)=_:=h1
 unfold rK at h1
 refine ⟨?_,?_⟩
 rotate_left 1
 . rw [A7 (c:=HC) (nt:=39) (rs:=[.cell 2 4]) rfl (by simp)]; unfold HC
   simp -implicitDefEqProofs only [tf,h1,h2,vF,List.length_map,XP,seval]
   all_goals rfl
end
section
variable {bs es tl R:List AV} {i k:Nat} {x:Ins} {c1 c2:AV} {n m:Int}
variable {e1 e2 e3 e4:AV} {nm:List UInt8} {ty ps:Int} {nr nb:Nat}
theorem Pi (hT:T 70=some E2) {l:List Int} (h:l.length * 8≤bigN) {K:PK}:evP ⟨A0,T,A2⟩ (.call 70 [fslN (ints l)] K)=some (.val (openTs K.os.length [ownd 0 1 (ints l)]).1 ⟨K.os ++ (openTs K.os.length [ownd 0 1 (ints l)]).2,K.ext,K.tch⟩):=B5 hT (by simp -implicitDefEqProofs only [frzL_ints,XP,seval]) (Y3 h) rfl
theorem cF {l:List Ins} (h:l.length * 88≤bigN):Y4 [fslN (l.map Ins.F)]=some [ownd 0 8 (l.map Ins.F)]:=C0 (a:=fun l:List Ins=>[fslN (l.map Ins.F)]) (fun x y e=>by simp only [List.cons.injEq,fslN_iff,insL_iff,and_true] at e; rw [e]) l h
theorem pP (hT:T 72=some Y4) {l:List Ins} (h:l.length * 88≤bigN) {K:PK}:evP ⟨A0,T,A2⟩ (.call 72 [fslN (l.map Ins.F)] K)=some (.val (openTs K.os.length [ownd 0 8 (l.map Ins.F)]).1 ⟨K.os ++ (openTs K.os.length [ownd 0 8 (l.map Ins.F)]).2,K.ext,K.tch⟩):=B5 hT (by simp -implicitDefEqProofs only [frzL_insF,XP,seval]) (cF h) rfl
theorem cG {l:List Blk} (h:l.length * 56≤bigN):x9 [fslN (l.map Blk.F)]=some [ownd 0 5 (l.map Blk.F)]:=C0 (a:=fun l:List Blk=>[fslN (l.map Blk.F)]) (fun x y e=>by simp only [List.cons.injEq,fslN_iff,blkL_iff,and_true] at e; rw [e]) l h
theorem pQ (hT:T 71=some x9) {l:List Blk} (h:l.length * 56≤bigN) {K:PK}:evP ⟨A0,T,A2⟩ (.call 71 [fslN (l.map Blk.F)] K)=some (.val (openTs K.os.length [ownd 0 5 (l.map Blk.F)]).1 ⟨K.os ++ (openTs K.os.length [ownd 0 5 (l.map Blk.F)]).2,K.ext,K.tch⟩):=B5 hT (by simp -implicitDefEqProofs only [frzL_blkF,XP,seval]) (cG h) rfl
set_option maxHeartbeats 8000000 in
theorem LL (hT:T 70=some E2) (hb:bs[i]?=some (.agg [ownd 0 8 es,e1,e2,e3,e4])) (he:es[k]?=some x.F) (hx:x.ok) (hs:es.length≤bigN) :
 evP ⟨A0,T,A2⟩ (.code Nq [(1,.ptr 0 0 0),(2,.ptr 1 0 0),(4,.ptr 2 i 0),(16,.int .i64 n),(17,.int .i64 m),(36,.int .i64 (es.length:Int)),(37,.int .i64 (k:Int))] ⟨[(PO.row 1 [AV.agg [.str nm,.int .i64 ty,.int .i64 ps,.msl 3 0 nr 1,.msl 2 0 nb 5]] 5),.row 1 [(AV.agg [.str [],.int .i64 0,.int .i64 0,.nilsl,.nilsl])] 5,.row 0 bs 5,.row 0 R 1],0,[]⟩)=some (.ok .normal [(1,.ptr 0 0 0),(2,.ptr 1 0 0),(4,.ptr 2 i 0),(16,.int .i64 n),(17,.int .i64 m),(36,.int .i64 (es.length:Int)),(37,.int .i64 ((k + 1:Nat):Int))] ⟨[(PO.row 1 [AV.agg [.str nm,.int .i64 ty,.int .i64 ps,.msl 3 0 nr 1,.msl 2 0 nb 5]] 5),.row 1 [(AV.agg [.str [],.int .i64 0,.int .i64 0,.nilsl,.nilsl])] 5,.row 0 (bs.set i (.agg [ownd 0 8 (es.set k x.O),e1,e2,e3,e4])) 5,.row 0 R 1],0,[]⟩):=by
 have hi:i < bs.length:=(List.getElem?_eq_some_iff.1 hb).1
 have hk:k < es.length:=(List.getElem?_eq_some_iff.1 he).1
 have hlt:decide ((k:Int) < (es.length:Int))=true:=by simp [hk]
 have hw:=A9 (i:=k) (by simp only [bigN] at hs; omega)
 have tc:=fun K=>Pi (K:=K) hT hx
 have g1:=fun v=>H9 (v:=v) hi
 have g2:=fun v=>H9 (v:=v) hk
 simp only [Ins.F] at he
 simp only [Ins.O]
 unfold Nq jY rO
 simp -implicitDefEqProofs only [hb,he,hi,hk,hlt,hw,tc,g1,g2,y4,List.set_set,List.length_set,List.length_map,XP,seval]
end
end Go.Proofs.AmEnv
set_option maxRecDepth 100000
namespace Go.Proofs.AmEnv
open Go Go.AM
variable {T:Nat->Option (List AV->Option (List AV))}
def mix {X:Type} (F O:X->AV) (l:List X) (k:Nat):List AV:=(l.take k).map O ++ (l.drop k).map F
section
variable {X:Type} {F O:X->AV} {L:List X} {k:Nat}
theorem tU:mix F O L 0=L.map F:=rfl
theorem eL:mix F O L L.length=L.map O:=by unfold mix; simp
theorem Vw:(mix F O L k).length=L.length:=by unfold mix; simp; omega
theorem eM (h:k < L.length):(mix F O L k)[k]?=some (F L[k]):=by
 unfold mix
 have e:((L.take k).map O).length=k:=by simp; omega
 rw [List.getElem?_append_right (by omega),List.getElem?_map,List.getElem?_drop,e,Nat.sub_self,Nat.add_zero,List.getElem?_eq_getElem h]; rfl
theorem eN (h:k < L.length):(mix F O L k).set k (O L[k])=mix F O L (k + 1):=by
 unfold mix
 have e:((L.take k).map O).length=k:=by simp; omega
 rw [List.set_append_right _ _ (by omega),e,Nat.sub_self,List.take_succ_eq_append_getElem h,List.map_append,List.drop_eq_getElem_cons h,List.map_cons,List.set_cons_zero]
 simp
end
section
variable {bs es tl R:List AV} {i k:Nat} {x:Ins} {b:Blk} {l:List Blk} {n m:Int} {e1 e2 e3 e4:AV} {nm:List UInt8} {ty ps:Int} {nr nb:Nat}
theorem LM (hb:bs[i]?=some (.agg [ownd 0 8 es,e1,e2,e3,e4])):∃ fr',evP ⟨A0,T,A2⟩ (.code Nq [(1,.ptr 0 0 0),(2,.ptr 1 0 0),(4,.ptr 2 i 0),(16,.int .i64 n),(17,.int .i64 m),(36,.int .i64 (k:Int)),(37,.int .i64 (k:Int))] ⟨[(PO.row 1 [AV.agg [.str nm,.int .i64 ty,.int .i64 ps,.msl 3 0 nr 1,.msl 2 0 nb 5]] 5),.row 1 [(AV.agg [.str [],.int .i64 0,.int .i64 0,.nilsl,.nilsl])] 5,.row 0 bs 5,.row 0 R 1],0,[]⟩)=some (.ok (.exit 2) fr' ⟨[(PO.row 1 [AV.agg [.str nm,.int .i64 ty,.int .i64 ps,.msl 3 0 nr 1,.msl 2 0 nb 5]] 5),.row 1 [(AV.agg [.str [],.int .i64 0,.int .i64 0,.nilsl,.nilsl])] 5,.row 0 bs 5,.row 0 R 1],0,[]⟩)∧lookP fr' 1=.ptr 0 0 0∧lookP fr' 2=.ptr 1 0 0∧lookP fr' 16=.int .i64 n∧lookP fr' 17=.int .i64 m:=by
 unfold Nq jY
 have hlt:decide ((k:Int) < (k:Int))=false:=by simp
 simp -implicitDefEqProofs only [hlt,XP,seval]
 exact ⟨_,rfl,rfl,rfl,rfl,rfl⟩
theorem DK (hT:T 70=some E2) (hb:b.ok) (hi:i < bs.length):∀ (q k:Nat),b.code.length=k + q ->
 ∃ fr',evP ⟨A0,T,A2⟩ (.code (.loop Nq) [(1,.ptr 0 0 0),(2,.ptr 1 0 0),(4,.ptr 2 i 0),(16,.int .i64 n),(17,.int .i64 m),(36,.int .i64 (b.code.length:Int)),(37,.int .i64 (k:Int))] ⟨[(PO.row 1 [AV.agg [.str nm,.int .i64 ty,.int .i64 ps,.msl 3 0 nr 1,.msl 2 0 nb 5]] 5),.row 1 [(AV.agg [.str [],.int .i64 0,.int .i64 0,.nilsl,.nilsl])] 5,.row 0 (bs.set i (.agg [ownd 0 8 (mix Ins.F Ins.O b.code k),e1,e2,e3,e4])) 5,.row 0 R 1],0,[]⟩) =
   some (.ok (.exit 2) fr' ⟨[(PO.row 1 [AV.agg [.str nm,.int .i64 ty,.int .i64 ps,.msl 3 0 nr 1,.msl 2 0 nb 5]] 5),.row 1 [(AV.agg [.str [],.int .i64 0,.int .i64 0,.nilsl,.nilsl])] 5,.row 0 (bs.set i (.agg [ownd 0 8 (b.code.map Ins.O),e1,e2,e3,e4])) 5,.row 0 R 1],0,[]⟩)∧lookP fr' 1=.ptr 0 0 0∧lookP fr' 2=.ptr 1 0 0∧lookP fr' 16=.int .i64 n∧lookP fr' 17=.int .i64 m
 | 0,k,e=>by
  obtain rfl:k=b.code.length:=by omega
  rw [eL]
  obtain ⟨fr',h1,h2⟩:=LM (T:=T) (R:=R) (i:=i) (k:=b.code.length) (n:=n) (m:=m) (nm:=nm) (ty:=ty) (ps:=ps) (nr:=nr) (nb:=nb) (H9 (v:=AV.agg [ownd 0 8 (b.code.map Ins.O),e1,e2,e3,e4]) hi)
  exact ⟨fr',loop_exit h1,h2⟩
 | q + 1,k,e=>by
  have hk:k < b.code.length:=by omega
  have h1:=LL (T:=T) (R:=R) (i:=i) (k:=k) (n:=n) (m:=m) (nm:=nm) (ty:=ty) (ps:=ps) (nr:=nr) (nb:=nb) hT (H9 (v:=AV.agg [ownd 0 8 (mix Ins.F Ins.O b.code k),e1,e2,e3,e4]) hi) (eM hk) (hb.1 _ (List.getElem_mem hk)) (by rw [Vw]; have:=hb.2; simp only [bigN] at this ⊢; omega)
  rw [Vw,eN hk,List.set_set] at h1
  rw [loop_more h1]
  exact DK hT hb hi q (k + 1) (by omega)
set_option maxHeartbeats 8000000 in
theorem LN (hT:T 70=some E2) (hC:T 72=some Y4) (h:i < l.length) (hs:l.length≤bigN) (hb:l[i].ok) :
 evP ⟨A0,T,A2⟩ (.code Nr [(1,.ptr 0 0 0),(2,.ptr 1 0 0),(16,.int .i64 (l.length:Int)),(17,.int .i64 (i:Int))] ⟨[PO.row 1 [AV.agg [.str nm,.int .i64 ty,.int .i64 ps,.msl 2 0 nr 1,.msl 3 0 l.length 5]] 5,.row 1 [(AV.agg [.str [],.int .i64 0,.int .i64 0,.nilsl,.nilsl])] 5,.row 0 R 1,.row 0 (mix Blk.F Blk.O l i) 5],0,[]⟩)=some (.ok .normal [(1,.ptr 0 0 0),(2,.ptr 1 0 0),(16,.int .i64 (l.length:Int)),(17,.int .i64 ((i + 1:Nat):Int))] ⟨[PO.row 1 [AV.agg [.str nm,.int .i64 ty,.int .i64 ps,.msl 2 0 nr 1,.msl 3 0 l.length 5]] 5,.row 1 [(AV.agg [.str [],.int .i64 0,.int .i64 0,.nilsl,.nilsl])] 5,.row 0 R 1,.row 0 (mix Blk.F Blk.O l (i + 1)) 5],0,[]⟩):=by
 have hlt:decide ((i:Int) < (l.length:Int))=true:=by simp [h]
 have hw:=A9 (i:=i) (by simp only [bigN] at hs; omega)
 have hg:=eM (F:=Blk.F) (O:=Blk.O) h
 have hset:=eN (F:=Blk.F) (O:=Blk.O) h
 have hil:i < (mix Blk.F Blk.O l i).length:=by rw [Vw]; exact h
 generalize mix Blk.F Blk.O l i=bs at hg hset hil
 rw [← hset]
 generalize l[i]=b at hg hb
 have tc:=fun K=>pP (K:=K) hC hb.2
 obtain ⟨fr',h1,h2,h3,h4,h5⟩:=DK (T:=T) (R:=R) (b:=b) (bs:=bs) (i:=i) (n:=(l.length:Int)) (m:=(i:Int)) (nm:=nm) (ty:=ty) (ps:=ps) (nr:=nr) (nb:=l.length) (e1:=.int .i64 b.e.kind) (e2:=.int .i64 b.e.a) (e3:=.int .i64 b.e.to) (e4:=.int .i64 b.e.els) hT hb hil b.code.length 0 (by omega)
 rw [tU] at h1
 have h1:evP ⟨A0,T,A2⟩ (.code (.loop Nq) [(1,.ptr 0 0 0),(2,.ptr 1 0 0),(4,.ptr 2 i 0),(16,.int .i64 (l.length:Int)),(17,.int .i64 (i:Int)),(36,.int .i64 (b.code.length:Int)),(37,.int .i64 0)] _)=_:=h1
 have g1:=fun v=>H9 (v:=v) hil
 simp only [Blk.F] at hg
 simp only [Blk.O]
 unfold Nr jZ rT rS rR rQ rP
 simp -implicitDefEqProofs only [hlt,hw,h,hg,hil,tc,h1,h2,h3,h4,h5,g1,y4,List.set_set,List.length_set,List.length_map,XP,seval]
end
end Go.Proofs.AmEnv
