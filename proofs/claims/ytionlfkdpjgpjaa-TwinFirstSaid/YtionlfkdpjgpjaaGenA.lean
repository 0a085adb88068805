/- What this program's functions do, at any data. Conditions: none. -/
import Derived.Test.YtionlfkdpjgpjaaEnv
set_option linter.unusedVariables false
set_option linter.unusedSimpArgs false
set_option linter.unusedSectionVars false
set_option linter.defProp false
set_option maxRecDepth 100000
noncomputable section
namespace Go.Proofs.AmEnv
open Go Go.AM
variable {T:Nat->Option (List AV->Option (List AV))}
abbrev ints (l:List Int):List AV:=l.map (AV.int .i64)
theorem E4 {l:List Int} {i:Nat} (h:i < l.length):(ints l)[i]?=some (.int .i64 l[i]):=by
 unfold ints; rw [List.getElem?_map,List.getElem?_eq_getElem h]; rfl
section
variable {l:List Int} {f:Bool} {i:Nat} {x:Int} {es:List AV}
end
end Go.Proofs.AmEnv
set_option maxRecDepth 100000
namespace Go.Proofs.AmEnv
open Go Go.AM
variable {T:Nat->Option (List AV->Option (List AV))}
theorem ints_inj {l m:List Int} (h:ints l=ints m):l=m:=by
 induction l generalizing m with
 | nil=>cases m with
  | nil=>rfl
  | cons=>cases h
 | cons x l ih=>cases m with
  | nil=>cases h
  | cons y m=>injection h with h1 h2; injection h1 with _ h1; rw [h1,ih h2]
section
variable {l m:List Int} {f g:Bool} {i:Nat}
theorem GA (hl:i < l.length) (hm:i < m.length) (he:l[i]=m[i]) (hs:l.length≤140737488355328) :
 evP ⟨A0,T,A3⟩ (.code Bb [(0,.fsl (ints l) f),(1,.fsl (ints m) g),(5,.int .i64 i)] ⟨[],0,[]⟩)=some (.ok .normal [(0,.fsl (ints l) f),(1,.fsl (ints m) g),(5,.int .i64 ((i + 1:Nat):Int))] ⟨[],0,[]⟩):=by
 unfold Bb
 have hlt:decide ((i:Int) < ((ints l).length:Int))=true:=by simp [hl]
 have h1:=E4 hl
 have h2:=E4 hm
 have hw:=B3 (i:=i) (by omega)
 simp -implicitDefEqProofs only [hlt,h1,h2,hw,he,u_not,XP,seval]
theorem GB (hl:i < l.length) (hm:i < m.length) (he:¬ l[i]=m[i]) :
 ∃ fr',evP ⟨A0,T,A3⟩ (.code Bb [(0,.fsl (ints l) f),(1,.fsl (ints m) g),(5,.int .i64 i)] ⟨[],0,[]⟩)=some (.ok .ret fr' ⟨[],0,[]⟩)∧lookP fr' 4=.bool false:=by
 unfold Bb
 have hlt:decide ((i:Int) < ((ints l).length:Int))=true:=by simp [hl]
 have h1:=E4 hl
 have h2:=E4 hm
 have hd:decide (l[i]=m[i])=false:=by simp [he]
 simp -implicitDefEqProofs only [hlt,h1,h2,hd,u_not,XP,seval]
 exact ⟨_,rfl,rfl⟩
theorem GC (hm:l.length=m.length):∃ fr',evP ⟨A0,T,A3⟩ (.code Bb [(0,.fsl (ints l) f),(1,.fsl (ints m) g),(5,.int .i64 l.length)] ⟨[],0,[]⟩)=some (.ok (.exit 0) fr' ⟨[],0,[]⟩):=by
 unfold Bb
 have hlt:decide ((l.length:Int) < ((ints l).length:Int))=false:=by simp
 simp -implicitDefEqProofs only [hlt,XP,seval]
 exact ⟨_,rfl⟩
theorem si_l (hs:l.length≤140737488355328) (hm:l.length=m.length):∀ (n i:Nat),l.length=i + n ->
 (l.drop i=m.drop i∧∃ fr',evP ⟨A0,T,A3⟩ (.code (.loop Bb) [(0,.fsl (ints l) f),(1,.fsl (ints m) g),(5,.int .i64 i)] ⟨[],0,[]⟩)=some (.ok (.exit 0) fr' ⟨[],0,[]⟩)) ∨
 (l.drop i ≠ m.drop i∧∃ fr',evP ⟨A0,T,A3⟩ (.code (.loop Bb) [(0,.fsl (ints l) f),(1,.fsl (ints m) g),(5,.int .i64 i)] ⟨[],0,[]⟩)=some (.ok .ret fr' ⟨[],0,[]⟩)∧lookP fr' 4=.bool false)
 | 0,i,e=>by
  obtain rfl:i=l.length:=by omega
  obtain ⟨fr',h⟩:=GC (T:=T) (f:=f) (g:=g) hm
  exact .inl ⟨by rw [List.drop_length,hm,List.drop_length],fr',D3 h⟩
 | n + 1,i,e=>by
  have hl:i < l.length:=by omega
  have hl':i < m.length:=by omega
  rw [List.drop_eq_getElem_cons hl,List.drop_eq_getElem_cons hl']
  by_cases he:l[i]=m[i]
  . rw [E6 (GA hl hl' he hs)]
    rcases si_l hs hm n (i + 1) (by omega) with ⟨h1,h2⟩ | ⟨h1,h2⟩
    . exact .inl ⟨by rw [he,h1],h2⟩
    . exact .inr ⟨fun h=>h1 (List.cons.inj h).2,h2⟩
  . obtain ⟨fr',h1,h2⟩:=GB (T:=T) (f:=f) (g:=g) hl hl' he
    exact .inr ⟨fun h=>he (List.cons.inj h).1,fr',Z8 h1,h2⟩
theorem Mv (hs:l.length≤140737488355328):AM.Comes ⟨A0,T,A3⟩ 21 [.fsl (ints l) f,.fsl (ints m) g] [.bool (decide (l=m))]:=by
 refine ⟨[.bool (decide (l=m))],⟨[],0,[]⟩,?_,B7 rfl List.nodup_nil rfl rfl rfl⟩
 rw [A8 (c:=CT) (nt:=27) (rs:=[.tmp 4]) rfl (by simp)]
 unfold CT K0
 by_cases hm:l.length=m.length
 . have hn:(!decide (((ints l).length:Int)=((ints m).length:Int)))=false:=by simp [hm]
   rcases si_l (T:=T) (f:=f) (g:=g) hs hm l.length 0 (by omega) with ⟨h1,fr',h2⟩ | ⟨h1,fr',h2,h3⟩
   . have h1:decide (l=m)=true:=by simpa using h1
     have h2:evP ⟨A0,T,A3⟩ (.code (.loop Bb) [(0,.fsl (ints l) f),(1,.fsl (ints m) g),(5,.int .i64 0)] ⟨[],0,[]⟩)=_:=h2
     simp -implicitDefEqProofs only [hn,h1,h2,XP,seval]
   . have h1:decide (l=m)=false:=by simpa using h1
     have h2:evP ⟨A0,T,A3⟩ (.code (.loop Bb) [(0,.fsl (ints l) f),(1,.fsl (ints m) g),(5,.int .i64 0)] ⟨[],0,[]⟩)=_:=h2
     simp -implicitDefEqProofs only [hn,h1,h2,h3,XP,seval]
 . have hn:(!decide (((ints l).length:Int)=((ints m).length:Int)))=true:=by simp [hm]; omega
   have h1:decide (l=m)=false:=by simp; intro h; exact hm (by rw [h])
   simp -implicitDefEqProofs only [hn,h1,XP,seval]
end
end Go.Proofs.AmEnv
set_option maxRecDepth 100000
namespace Go.Proofs.AmEnv
open Go Go.AM
structure Ins where
 op:Int
 ty:Int
 dst:Int
 a:Int
 b:Int
 n:Int
 s:List UInt8
 args:List Int
deriving DecidableEq
abbrev bigN:Nat:=140737488355328
def Ins.cs (x:Ins) (v:AV):List AV:=[.int .i64 x.op,.int .i64 x.ty,.int .i64 x.dst,.int .i64 x.a,.int .i64 x.b,.int .i64 x.n,.str x.s,v]
def Ins.F (x:Ins):AV:=.agg [.int .i64 x.op,.int .i64 x.ty,.int .i64 x.dst,.int .i64 x.a,.int .i64 x.b,.int .i64 x.n,.str x.s,fslN (ints x.args)]
def Ins.O (x:Ins):AV:=.agg [.int .i64 x.op,.int .i64 x.ty,.int .i64 x.dst,.int .i64 x.a,.int .i64 x.b,.int .i64 x.n,.str x.s,ownd 0 1 (ints x.args)]
def Ins.ok (x:Ins):Prop:=x.args.length * 8≤bigN
theorem fslN_inj {l m:List AV} (h:fslN l=fslN m):l=m:=by unfold fslN at h; injection h
theorem Ins.F_inj {x y:Ins} (h:x.F=y.F):x=y:=by
 cases x; cases y
 simp only [Ins.F,AV.agg.injEq,List.cons.injEq,AV.int.injEq,AV.str.injEq,true_and,and_true] at h
 obtain ⟨rfl,rfl,rfl,rfl,rfl,rfl,rfl,h⟩:=h
 rw [ints_inj (fslN_inj h)]
def G9:=b9 (fun l:List Int=>[fslN (ints l)]) (fun l=>[ownd 0 1 (ints l)]) (fun l=>l.length * 8≤bigN)
theorem Fl {l:List Int} (h:l.length * 8≤bigN):G9 [fslN (ints l)]=some [ownd 0 1 (ints l)]:=C3 (a:=fun l:List Int=>[fslN (ints l)]) (fun x y e=>by injection e with e _; rw [ints_inj (fslN_inj e)]) l h
def N3:=b9 (fun p:List Int × List Int=>[fslN (ints p.1),fslN (ints p.2)]) (fun p=>[.bool (decide (p.1=p.2))]) (fun p=>p.1.length * 8≤bigN)
theorem X1 {l m:List Int} (h:l.length * 8≤bigN):N3 [fslN (ints l),fslN (ints m)]=some [.bool (decide (l=m))]:=C3 (a:=fun p:List Int × List Int=>[fslN (ints p.1),fslN (ints p.2)]) (r:=fun p=>[.bool (decide (p.1=p.2))]) (fun x y e=>by
 injection e with e1 e; injection e with e2 _
 rw [ints_inj (fslN_inj e1),ints_inj (fslN_inj e2)]) (l,m) h
theorem frzL_ints (l:List Int):frzL (ints l)=some (ints l):=U4 (f:=AV.int .i64) (g:=AV.int .i64) (fun _=>rfl) l
section
variable {T:Nat->Option (List AV->Option (List AV))}
theorem noFL_ints (l:List Int):noFL (ints l)=true:=by
 induction l with
 | nil=>rfl
 | cons x l ih=>exact ih
set_option maxHeartbeats 4000000 in
theorem Js (hT:T 21=some N3) {x y:Ins} (h:x.ok):AM.Comes ⟨A0,T,A3⟩ 78 [x.F,y.F] [.bool (decide (x=y))]:=by
 refine ⟨[.bool (decide (x=y))],⟨[],0,[]⟩,?_,B7 rfl List.nodup_nil rfl rfl rfl⟩
 rw [A8 (c:=DD) (nt:=59) (rs:=[.tmp 4]) rfl (by simp)]
 unfold DD K0
 have ht:∀ {K:PK},evP ⟨A0,T,A3⟩ (.call 21 [fslN (ints x.args),fslN (ints y.args)] K)=some (.val [.bool (decide (x.args=y.args))] ⟨K.os ++ [],K.ext,K.tch⟩):=B8 hT (by show D2 (Uq (frzL (ints x.args))) (D2 (Uq (frzL (ints y.args))) (some []))=_; rw [frzL_ints,frzL_ints]; rfl) (X1 h) (by rfl)
 have no:∀ {p:Prop} [Decidable p],¬ p->decide p=false:=fun h=>by simp [h]
 have yes:∀ {p:Prop} [Decidable p],p->decide p=true:=fun h=>by simp [h]
 have ext:x=y ↔ x.op=y.op∧x.ty=y.ty∧x.dst=y.dst∧x.a=y.a∧x.b=y.b∧x.n=y.n∧x.s=y.s∧x.args=y.args:=by
  cases x; cases y; simp
 by_cases h1:x.op=y.op
 . by_cases h2:x.ty=y.ty
   . by_cases h3:x.dst=y.dst
     . by_cases h4:x.a=y.a
       . by_cases h5:x.b=y.b
         . by_cases h6:x.n=y.n
           . by_cases h7:x.s=y.s
             . have e:decide (x=y)=decide (x.args=y.args):=by simp [ext,h1,h2,h3,h4,h5,h6,h7]
               simp -implicitDefEqProofs only [Ins.F,ht,e,yes h1,yes h2,yes h3,yes h4,yes h5,yes h6,yes h7,XP,seval]
             . have e:decide (x=y)=false:=no fun e=>h7 (ext.1 e).2.2.2.2.2.2.1
               simp -implicitDefEqProofs only [Ins.F,e,yes h1,yes h2,yes h3,yes h4,yes h5,yes h6,no h7,XP,seval]
           . have e:decide (x=y)=false:=no fun e=>h6 (ext.1 e).2.2.2.2.2.1
             simp -implicitDefEqProofs only [Ins.F,e,yes h1,yes h2,yes h3,yes h4,yes h5,no h6,XP,seval]
         . have e:decide (x=y)=false:=no fun e=>h5 (ext.1 e).2.2.2.2.1
           simp -implicitDefEqProofs only [Ins.F,e,yes h1,yes h2,yes h3,yes h4,no h5,XP,seval]
       . have e:decide (x=y)=false:=no fun e=>h4 (ext.1 e).2.2.2.1
         simp -implicitDefEqProofs only [Ins.F,e,yes h1,yes h2,yes h3,no h4,XP,seval]
     . have e:decide (x=y)=false:=no fun e=>h3 (ext.1 e).2.2.1
       simp -implicitDefEqProofs only [Ins.F,e,yes h1,yes h2,no h3,XP,seval]
   . have e:decide (x=y)=false:=no fun e=>h2 (ext.1 e).2.1
     simp -implicitDefEqProofs only [Ins.F,e,yes h1,no h2,XP,seval]
 . have e:decide (x=y)=false:=no fun e=>h1 (ext.1 e).1
   simp -implicitDefEqProofs only [Ins.F,e,no h1,XP,seval]
end
end Go.Proofs.AmEnv
set_option maxRecDepth 100000
namespace Go.Proofs.AmEnv
open Go Go.AM
variable {T:Nat->Option (List AV->Option (List AV))}
def F1:=b9 (fun p:Ins × Ins=>[p.1.F,p.2.F]) (fun p=>[.bool (decide (p.1=p.2))]) (fun p=>p.1.ok)
theorem De {x y:Ins} (h:x.ok):F1 [x.F,y.F]=some [.bool (decide (x=y))]:=C3 (a:=fun p:Ins × Ins=>[p.1.F,p.2.F]) (r:=fun p=>[.bool (decide (p.1=p.2))]) (fun x y e=>by
 injection e with e1 e; injection e with e2 _
 rw [Ins.F_inj e1,Ins.F_inj e2]) (x,y) h
theorem Ins.viewF {os:List PO} (x:Ins):viewA os x.F=some x.F:=by
 unfold Ins.F
 simp -implicitDefEqProofs only [frzL_ints,XP,seval]
theorem Ins.frzF (x:Ins):frzC x.F=some x.F:=by
 unfold Ins.F
 simp -implicitDefEqProofs only [frzL_ints,XP,seval]
theorem Ins.frzO (x:Ins):frzC x.O=some x.F:=by
 unfold Ins.F Ins.O
 simp -implicitDefEqProofs only [frzL_ints,XP,seval]
theorem B2 {X:Type} {F:X->AV} {l:List X} {i:Nat} (h:i < l.length):(l.map F)[i]?=some (F l[i]):=by rw [List.getElem?_map,List.getElem?_eq_getElem h]; rfl
theorem map_take {X:Type} {F:X->AV} {l:List X} {i:Nat} (h:i < l.length):(l.take i).map F ++ [F l[i]]=(l.take (i + 1)).map F:=by rw [List.take_succ_eq_append_getElem h,List.map_append]; rfl
section
variable {l:List Ins} {f:Bool} {i:Nat}
end
end Go.Proofs.AmEnv
set_option maxRecDepth 100000
namespace Go.Proofs.AmEnv
open Go Go.AM
variable {T:Nat->Option (List AV->Option (List AV))}
theorem K5 {X:Type} {F:X->AV} (hF:∀ x y,F x=F y->x=y):∀ {l m:List X},l.map F=m.map F->l=m
 | [],[],_=>rfl
 | [],_ :: _,h=>by cases h
 | _ :: _,[],h=>by cases h
 | x :: l,y :: m,h=>by
  injection h with h1 h2
  rw [hF _ _ h1,K5 hF h2]
def F9:=b9 (fun p:List Ins × List Ins=>[fslN (p.1.map Ins.F),fslN (p.2.map Ins.F)]) (fun p=>[.bool (decide (p.1=p.2))]) (fun p=>(∀ x∈p.1,x.ok)∧p.1.length * 88≤bigN)
theorem Y6 {l m:List Ins} (h1:∀ x∈l,x.ok) (h2:l.length * 88≤bigN):F9 [fslN (l.map Ins.F),fslN (m.map Ins.F)]=some [.bool (decide (l=m))]:=C3 (a:=fun p:List Ins × List Ins=>[fslN (p.1.map Ins.F),fslN (p.2.map Ins.F)]) (r:=fun p=>[.bool (decide (p.1=p.2))]) (fun x y e=>by
 injection e with e1 e; injection e with e2 _
 rw [K5 (fun _ _=>Ins.F_inj) (fslN_inj e1),K5 (fun _ _=>Ins.F_inj) (fslN_inj e2)]) (l,m) ⟨h1,h2⟩
theorem Mw (hT:T 78=some F1) {x y:Ins} (h:x.ok) {K:PK}:evP ⟨A0,T,A3⟩ (.call 78 [x.F,y.F] K)=some (.val [.bool (decide (x=y))] ⟨K.os ++ [],K.ext,K.tch⟩):=B8 hT (by show D2 (viewA _ x.F) (D2 (viewA _ y.F) (some []))=_; rw [Ins.viewF,Ins.viewF]; rfl) (De h) (by
 unfold Ins.F
 simp -implicitDefEqProofs only [XP,seval])
section
variable {l m:List Ins} {i:Nat}
set_option maxHeartbeats 4000000 in
theorem xS (hT:T 78=some F1) (hl:i < l.length) (hm:i < m.length) (hk:l[i].ok) (hs:l.length * 88≤bigN) (he:l[i]=m[i]) :
 evP ⟨A0,T,A3⟩ (.code Jc [(0,fslN (l.map Ins.F)),(1,fslN (m.map Ins.F)),(5,.int .i64 i)] ⟨[],0,[]⟩)=some (.ok .normal [(0,fslN (l.map Ins.F)),(1,fslN (m.map Ins.F)),(5,.int .i64 ((i + 1:Nat):Int))] ⟨[],0,[]⟩):=by
 unfold Jc
 have hlt:decide ((i:Int) < ((l.map Ins.F).length:Int))=true:=by simp [hl]
 have h1:=B2 (F:=Ins.F) hl
 have h2:=B2 (F:=Ins.F) hm
 have hw:=B3 (i:=i) (by simp only [bigN] at hs; omega)
 have ht:=fun K=>Mw (K:=K) hT (y:=m[i]) hk
 rw [A6 he] at ht
 simp only [Ins.F] at ht h1 h2
 simp -implicitDefEqProofs only [hlt,h1,h2,hw,ht,u_not,XP,seval]
set_option maxHeartbeats 4000000 in
theorem xT (hT:T 78=some F1) (hl:i < l.length) (hm:i < m.length) (hk:l[i].ok) (he:¬ l[i]=m[i]) :
 ∃ fr',evP ⟨A0,T,A3⟩ (.code Jc [(0,fslN (l.map Ins.F)),(1,fslN (m.map Ins.F)),(5,.int .i64 i)] ⟨[],0,[]⟩)=some (.ok .ret fr' ⟨[],0,[]⟩)∧lookP fr' 4=.bool false:=by
 unfold Jc
 have hlt:decide ((i:Int) < ((l.map Ins.F).length:Int))=true:=by simp [hl]
 have h1:=B2 (F:=Ins.F) hl
 have h2:=B2 (F:=Ins.F) hm
 have ht:=fun K=>Mw (K:=K) hT (y:=m[i]) hk
 rw [B5 he] at ht
 simp only [Ins.F] at ht h1 h2
 simp -implicitDefEqProofs only [hlt,h1,h2,ht,u_not,XP,seval]
 exact ⟨_,rfl,rfl⟩
theorem xU:∃ fr',evP ⟨A0,T,A3⟩ (.code Jc [(0,fslN (l.map Ins.F)),(1,fslN (m.map Ins.F)),(5,.int .i64 l.length)] ⟨[],0,[]⟩)=some (.ok (.exit 0) fr' ⟨[],0,[]⟩):=by
 unfold Jc
 have hlt:decide ((l.length:Int) < ((l.map Ins.F).length:Int))=false:=by simp
 simp -implicitDefEqProofs only [hlt,XP,seval]
 exact ⟨_,rfl⟩
theorem Ho (hT:T 78=some F1) (hk:∀ x∈l,x.ok) (hs:l.length * 88≤bigN):AM.Comes ⟨A0,T,A3⟩ 23 [fslN (l.map Ins.F),fslN (m.map Ins.F)] [.bool (decide (l=m))]:=by
 refine ⟨[.bool (decide (l=m))],⟨[],0,[]⟩,?_,B7 rfl List.nodup_nil rfl rfl rfl⟩
 rw [A8 (c:=CU) (nt:=27) (rs:=[.tmp 4]) rfl (by simp)]
 unfold CU K0
 by_cases hm:l.length=m.length
 . have hn:(!decide (((l.map Ins.F).length:Int)=((m.map Ins.F).length:Int)))=false:=by simp [hm]
   rcases same_loop (P:=⟨A0,T,A3⟩) (c:=Jc) (A:=fslN (l.map Ins.F)) (B:=fslN (m.map Ins.F)) hm (fun i h h' e=>xS hT h h' (hk _ (List.getElem_mem h)) hs e) (fun i h h' e=>xT hT h h' (hk _ (List.getElem_mem h)) e) xU with ⟨h1,fr',h2⟩ | ⟨h1,fr',h2,h3⟩
   . simp -implicitDefEqProofs only [hn,A6 h1,h2,XP,seval]
   . simp -implicitDefEqProofs only [hn,B5 h1,h2,h3,XP,seval]
 . have hn:(!decide (((l.map Ins.F).length:Int)=((m.map Ins.F).length:Int)))=true:=by simp; omega
   have h1:¬ l=m:=fun h=>hm (by rw [h])
   simp -implicitDefEqProofs only [hn,B5 h1,XP,seval]
end
end Go.Proofs.AmEnv
set_option maxRecDepth 100000
namespace Go.Proofs.AmEnv
open Go Go.AM
variable {T:Nat->Option (List AV->Option (List AV))}
structure Endd where
 kind:Int
 a:Int
 to:Int
 els:Int
deriving DecidableEq
structure Blk where
 code:List Ins
 e:Endd
deriving DecidableEq
def Endd.F (e:Endd):AV:=.agg [.int .i64 e.kind,.int .i64 e.a,.int .i64 e.to,.int .i64 e.els]
def Blk.F (x:Blk):AV:=.agg [fslN (x.code.map Ins.F),.int .i64 x.e.kind,.int .i64 x.e.a,.int .i64 x.e.to,.int .i64 x.e.els]
def Blk.O (x:Blk):AV:=.agg [ownd 0 8 (x.code.map Ins.O),.int .i64 x.e.kind,.int .i64 x.e.a,.int .i64 x.e.to,.int .i64 x.e.els]
def Blk.ok (x:Blk):Prop:=(∀ y∈x.code,y.ok)∧x.code.length * 88≤bigN
theorem Blk.F_inj {x y:Blk} (h:x.F=y.F):x=y:=by
 obtain ⟨c,e⟩:=x; obtain ⟨c',e'⟩:=y
 cases e; cases e'
 simp only [Blk.F,AV.agg.injEq,List.cons.injEq,AV.int.injEq,true_and,and_true] at h
 obtain ⟨h,rfl,rfl,rfl,rfl⟩:=h
 rw [K5 (fun _ _=>Ins.F_inj) (fslN_inj h)]
theorem frzL_insF (l:List Ins):frzL (l.map Ins.F)=some (l.map Ins.F):=U4 Ins.frzF l
theorem Re (l:List Ins):frzL (l.map Ins.O)=some (l.map Ins.F):=U4 Ins.frzO l
theorem o6 {X:Type} {O:X->AV} (h:∀ x,noF (O x)=true):∀ l:List X,noFL (l.map O)=true
 | []=>rfl
 | x :: l=>by show (noF (O x) && noFL (l.map O))=true; rw [h,o6 h l]; rfl
theorem Ins.noF (x:Ins):noF x.O=true:=by
 unfold Ins.O
 simp -implicitDefEqProofs only [noFL_ints,XP,seval]
theorem noFL_insO (l:List Ins):noFL (l.map Ins.O)=true:=o6 Ins.noF l
theorem Blk.viewF {os:List PO} (x:Blk):viewA os x.F=some x.F:=by
 unfold Blk.F
 simp -implicitDefEqProofs only [frzL_insF,XP,seval]
theorem Blk.frzF (x:Blk):frzC x.F=some x.F:=by
 unfold Blk.F
 simp -implicitDefEqProofs only [frzL_insF,XP,seval]
theorem Blk.frzO (x:Blk):frzC x.O=some x.F:=by
 unfold Blk.F Blk.O
 simp -implicitDefEqProofs only [Re,XP,seval]
theorem Blk.noF (x:Blk):noF x.O=true:=by
 unfold Blk.O
 simp -implicitDefEqProofs only [noFL_insO,XP,seval]
section
variable {l:List Blk} {i:Nat}
theorem Cf {e e':Endd} {K:PK}:Q3 A0 .eql 39 (.agg [.int .i64 e.kind,.int .i64 e.a,.int .i64 e.to,.int .i64 e.els]) (.agg [.int .i64 e'.kind,.int .i64 e'.a,.int .i64 e'.to,.int .i64 e'.els]) K=.val (.bool (decide (e=e'))) K:=by
 have h:∀ a b:Int,Ph (.int .i64 a) (.int .i64 b)=some (decide (a=b)):=fun a b=>by
  show some (intEq a b)=_
  rw [Y0]; by_cases e:a=b <;> simp [e]
 rw [bp _ _ rfl rfl]
 show Bs (A4 (onOB (Ph (.int .i64 e.kind) (.int .i64 e'.kind)) none (onOB (Ph (.int .i64 e.a) (.int .i64 e'.a)) none (onOB (Ph (.int .i64 e.to) (.int .i64 e'.to)) none (onOB (Ph (.int .i64 e.els) (.int .i64 e'.els)) none (some true) (some false)) (some false)) (some false)) (some false)) D6) K=_
 simp only [h]
 obtain ⟨a,b,c,d⟩:=e
 obtain ⟨a',b',c',d'⟩:=e'
 simp only [Endd.mk.injEq]
 by_cases h1:a=a'
 . by_cases h2:b=b'
   . by_cases h3:c=c'
     . by_cases h4:d=d'
       . rw [A6 h1,A6 h2,A6 h3,A6 h4,A6 (p:=a=a'∧b=b'∧c=c'∧d=d') ⟨h1,h2,h3,h4⟩]; rfl
       . rw [A6 h1,A6 h2,A6 h3,B5 h4,B5 (p:=a=a'∧b=b'∧c=c'∧d=d') (fun h=>h4 h.2.2.2)]; rfl
     . rw [A6 h1,A6 h2,B5 h3,B5 (p:=a=a'∧b=b'∧c=c'∧d=d') (fun h=>h3 h.2.2.1)]; rfl
   . rw [A6 h1,B5 h2,B5 (p:=a=a'∧b=b'∧c=c'∧d=d') (fun h=>h2 h.2.1)]; rfl
 . rw [B5 h1,B5 (p:=a=a'∧b=b'∧c=c'∧d=d') (fun h=>h1 h.1)]; rfl
end
end Go.Proofs.AmEnv
set_option maxRecDepth 100000
namespace Go.Proofs.AmEnv
open Go Go.AM
variable {T:Nat->Option (List AV->Option (List AV))}
def j2:=b9 (fun p:List Blk × List Blk=>[fslN (p.1.map Blk.F),fslN (p.2.map Blk.F)]) (fun p=>[.bool (decide (p.1=p.2))]) (fun p=>(∀ x∈p.1,x.ok)∧p.1.length * 56≤bigN)
theorem Mx {l m:List Blk} (h1:∀ x∈l,x.ok) (h2:l.length * 56≤bigN):j2 [fslN (l.map Blk.F),fslN (m.map Blk.F)]=some [.bool (decide (l=m))]:=C3 (a:=fun p:List Blk × List Blk=>[fslN (p.1.map Blk.F),fslN (p.2.map Blk.F)]) (r:=fun p=>[.bool (decide (p.1=p.2))]) (fun x y e=>by
 injection e with e1 e; injection e with e2 _
 rw [K5 (fun _ _=>Blk.F_inj) (fslN_inj e1),K5 (fun _ _=>Blk.F_inj) (fslN_inj e2)]) (l,m) ⟨h1,h2⟩
theorem Jf (hT:T 23=some F9) {l m:List Ins} (h1:∀ x∈l,x.ok) (h2:l.length * 88≤bigN) {K:PK}:evP ⟨A0,T,A3⟩ (.call 23 [fslN (l.map Ins.F),fslN (m.map Ins.F)] K)=some (.val [.bool (decide (l=m))] ⟨K.os ++ [],K.ext,K.tch⟩):=B8 hT (by show D2 (Uq (frzL (l.map Ins.F))) (D2 (Uq (frzL (m.map Ins.F))) (some []))=_; rw [frzL_insF,frzL_insF]; rfl) (Y6 h1 h2) (by simp -implicitDefEqProofs only [XP,seval])
section
variable {l m:List Blk} {i:Nat}
set_option maxHeartbeats 4000000 in
theorem xV (hT:T 23=some F9) (hl:i < l.length) (hm:i < m.length) (hk:l[i].ok) (hs:l.length * 56≤bigN) (he:l[i]=m[i]) :
 evP ⟨A0,T,A3⟩ (.code Je [(0,fslN (l.map Blk.F)),(1,fslN (m.map Blk.F)),(5,.int .i64 i)] ⟨[],0,[]⟩)=some (.ok .normal [(0,fslN (l.map Blk.F)),(1,fslN (m.map Blk.F)),(5,.int .i64 ((i + 1:Nat):Int))] ⟨[],0,[]⟩):=by
 unfold Je
 have hlt:decide ((i:Int) < ((l.map Blk.F).length:Int))=true:=by simp [hl]
 have h1:=B2 (F:=Blk.F) hl
 have h2:=B2 (F:=Blk.F) hm
 have hw:=B3 (i:=i) (by simp only [bigN] at hs; omega)
 have ht:=fun K=>Jf (K:=K) hT (m:=m[i].code) hk.1 hk.2
 have e1:l[i].e=m[i].e:=by rw [he]
 have e2:l[i].code=m[i].code:=by rw [he]
 rw [A6 e2] at ht
 simp only [Blk.F] at h1 h2
 simp -implicitDefEqProofs only [hlt,h1,h2,hw,ht,u_not,Cf,A6 e1,XP,seval]
set_option maxHeartbeats 4000000 in
theorem xW (hT:T 23=some F9) (hl:i < l.length) (hm:i < m.length) (hk:l[i].ok) (he:¬ l[i]=m[i]) :
 ∃ fr',evP ⟨A0,T,A3⟩ (.code Je [(0,fslN (l.map Blk.F)),(1,fslN (m.map Blk.F)),(5,.int .i64 i)] ⟨[],0,[]⟩)=some (.ok .ret fr' ⟨[],0,[]⟩)∧lookP fr' 4=.bool false:=by
 unfold Je
 have hlt:decide ((i:Int) < ((l.map Blk.F).length:Int))=true:=by simp [hl]
 have h1:=B2 (F:=Blk.F) hl
 have h2:=B2 (F:=Blk.F) hm
 have ht:=fun K=>Jf (K:=K) hT (m:=m[i].code) hk.1 hk.2
 simp only [Blk.F] at h1 h2
 by_cases e1:l[i].e=m[i].e
 . have e2:¬ l[i].code=m[i].code:=fun h=>he (by cases h3:l[i]; cases h4:m[i]; rw [h3,h4] at e1 h; cases e1; cases h; rfl)
   rw [B5 e2] at ht
   simp -implicitDefEqProofs only [hlt,h1,h2,ht,u_not,Cf,A6 e1,XP,seval]
   exact ⟨_,rfl,rfl⟩
 . simp -implicitDefEqProofs only [hlt,h1,h2,u_not,Cf,B5 e1,XP,seval]
   exact ⟨_,rfl,rfl⟩
theorem xX:∃ fr',evP ⟨A0,T,A3⟩ (.code Je [(0,fslN (l.map Blk.F)),(1,fslN (m.map Blk.F)),(5,.int .i64 l.length)] ⟨[],0,[]⟩)=some (.ok (.exit 0) fr' ⟨[],0,[]⟩):=by
 unfold Je
 have hlt:decide ((l.length:Int) < ((l.map Blk.F).length:Int))=false:=by simp
 simp -implicitDefEqProofs only [hlt,XP,seval]
 exact ⟨_,rfl⟩
theorem Hp (hT:T 23=some F9) (hk:∀ x∈l,x.ok) (hs:l.length * 56≤bigN):AM.Comes ⟨A0,T,A3⟩ 75 [fslN (l.map Blk.F),fslN (m.map Blk.F)] [.bool (decide (l=m))]:=by
 refine ⟨[.bool (decide (l=m))],⟨[],0,[]⟩,?_,B7 rfl List.nodup_nil rfl rfl rfl⟩
 rw [A8 (c:=DC) (nt:=42) (rs:=[.tmp 4]) rfl (by simp)]
 unfold DC K0
 by_cases hm:l.length=m.length
 . have hn:(!decide (((l.map Blk.F).length:Int)=((m.map Blk.F).length:Int)))=false:=by simp [hm]
   rcases same_loop (P:=⟨A0,T,A3⟩) (c:=Je) (A:=fslN (l.map Blk.F)) (B:=fslN (m.map Blk.F)) hm (fun i h h' e=>xV hT h h' (hk _ (List.getElem_mem h)) hs e) (fun i h h' e=>xW hT h h' (hk _ (List.getElem_mem h)) e) xX with ⟨h1,fr',h2⟩ | ⟨h1,fr',h2,h3⟩
   . simp -implicitDefEqProofs only [hn,A6 h1,h2,XP,seval]
   . simp -implicitDefEqProofs only [hn,B5 h1,h2,h3,XP,seval]
 . have hn:(!decide (((l.map Blk.F).length:Int)=((m.map Blk.F).length:Int)))=true:=by simp; omega
   have h1:¬ l=m:=fun h=>hm (by rw [h])
   simp -implicitDefEqProofs only [hn,B5 h1,XP,seval]
end
end Go.Proofs.AmEnv
set_option maxRecDepth 100000
namespace Go.Proofs.AmEnv
open Go Go.AM
variable {T:Nat->Option (List AV->Option (List AV))}
structure Cod where
 name:List UInt8
 ty:Int
 ps:Int
 regs:List Int
 blocks:List Blk
deriving DecidableEq
def Cod.F (x:Cod):AV:=.agg [.str x.name,.int .i64 x.ty,.int .i64 x.ps,fslN (ints x.regs),fslN (x.blocks.map Blk.F)]
def Cod.O (x:Cod):AV:=.agg [.str x.name,.int .i64 x.ty,.int .i64 x.ps,ownd 0 1 (ints x.regs),ownd 0 5 (x.blocks.map Blk.O)]
def Cod.cs (x:Cod) (u v:AV):List AV:=[.str x.name,.int .i64 x.ty,.int .i64 x.ps,u,v]
def Cod.ok (x:Cod):Prop:=x.regs.length * 8≤bigN∧(∀ y∈x.blocks,y.ok)∧x.blocks.length * 56≤bigN
theorem Cod.F_inj {x y:Cod} (h:x.F=y.F):x=y:=by
 cases x; cases y
 simp only [Cod.F,AV.agg.injEq,List.cons.injEq,AV.int.injEq,AV.str.injEq,true_and,and_true] at h
 obtain ⟨rfl,rfl,rfl,h1,h2⟩:=h
 rw [ints_inj (fslN_inj h1),K5 (fun _ _=>Blk.F_inj) (fslN_inj h2)]
theorem frzL_blkF (l:List Blk):frzL (l.map Blk.F)=some (l.map Blk.F):=U4 Blk.frzF l
theorem Rf (l:List Blk):frzL (l.map Blk.O)=some (l.map Blk.F):=U4 Blk.frzO l
theorem noFL_blkO (l:List Blk):noFL (l.map Blk.O)=true:=o6 Blk.noF l
theorem Cod.viewF {os:List PO} (x:Cod):viewA os x.F=some x.F:=by
 unfold Cod.F
 simp -implicitDefEqProofs only [frzL_blkF,frzL_ints,XP,seval]
theorem Cod.frzF (x:Cod):frzC x.F=some x.F:=by
 unfold Cod.F
 simp -implicitDefEqProofs only [frzL_blkF,frzL_ints,XP,seval]
theorem Cod.noF (x:Cod):noF x.O=true:=by
 unfold Cod.O
 simp -implicitDefEqProofs only [noFL_blkO,noFL_ints,XP,seval]
theorem eR (hT:T 21=some N3) {l m:List Int} (h:l.length * 8≤bigN) {K:PK}:evP ⟨A0,T,A3⟩ (.call 21 [fslN (ints l),fslN (ints m)] K)=some (.val [.bool (decide (l=m))] ⟨K.os ++ [],K.ext,K.tch⟩):=B8 hT (by show D2 (Uq (frzL (ints l))) (D2 (Uq (frzL (ints m))) (some []))=_; rw [frzL_ints,frzL_ints]; rfl) (X1 h) (by rfl)
theorem Wl (hT:T 75=some j2) {l m:List Blk} (h1:∀ x∈l,x.ok) (h2:l.length * 56≤bigN) {K:PK}:evP ⟨A0,T,A3⟩ (.call 75 [fslN (l.map Blk.F),fslN (m.map Blk.F)] K)=some (.val [.bool (decide (l=m))] ⟨K.os ++ [],K.ext,K.tch⟩):=B8 hT (by show D2 (Uq (frzL (l.map Blk.F))) (D2 (Uq (frzL (m.map Blk.F))) (some []))=_; rw [frzL_blkF,frzL_blkF]; rfl) (Mx h1 h2) (by simp -implicitDefEqProofs only [XP,seval])
set_option maxHeartbeats 4000000 in
theorem My (h12:T 21=some N3) (h28:T 75=some j2) {x y:Cod} (h:x.ok):AM.Comes ⟨A0,T,A3⟩ 19 [x.F,y.F] [.bool (decide (x=y))]:=by
 refine ⟨[.bool (decide (x=y))],⟨[],0,[]⟩,?_,B7 rfl List.nodup_nil rfl rfl rfl⟩
 rw [A8 (c:=CS) (nt:=38) (rs:=[.tmp 4]) rfl (by simp)]
 unfold CS K0
 have ht:=fun K=>eR (K:=K) h12 (m:=y.regs) h.1
 have ht2:=fun K=>Wl (K:=K) h28 (m:=y.blocks) h.2.1 h.2.2
 have ext:x=y ↔ x.name=y.name∧x.ty=y.ty∧x.ps=y.ps∧x.regs=y.regs∧x.blocks=y.blocks:=by
  cases x; cases y; simp
 by_cases h1:x.name=y.name
 . by_cases h2:x.ty=y.ty
   . by_cases h3:x.ps=y.ps
     . by_cases h4:x.regs=y.regs
       . have e:decide (x=y)=decide (x.blocks=y.blocks):=by simp [ext,h1,h2,h3,h4]
         rw [A6 h4] at ht
         simp -implicitDefEqProofs only [Cod.F,ht,ht2,e,A6 h1,A6 h2,A6 h3,XP,seval]
       . have e:decide (x=y)=false:=B5 fun e=>h4 (ext.1 e).2.2.2.1
         rw [B5 h4] at ht
         simp -implicitDefEqProofs only [Cod.F,ht,e,A6 h1,A6 h2,A6 h3,XP,seval]
     . have e:decide (x=y)=false:=B5 fun e=>h3 (ext.1 e).2.2.1
       simp -implicitDefEqProofs only [Cod.F,e,A6 h1,A6 h2,B5 h3,XP,seval]
   . have e:decide (x=y)=false:=B5 fun e=>h2 (ext.1 e).2.1
     simp -implicitDefEqProofs only [Cod.F,e,A6 h1,B5 h2,XP,seval]
 . have e:decide (x=y)=false:=B5 fun e=>h1 (ext.1 e).1
   simp -implicitDefEqProofs only [Cod.F,e,B5 h1,XP,seval]
end Go.Proofs.AmEnv
set_option maxRecDepth 100000
namespace Go.Proofs.AmEnv
open Go Go.AM
variable {T:Nat->Option (List AV->Option (List AV))}
section
variable {put:List AV->List PO} {id:Nat} {es:List AV} {fr:PF} {ext i:Nat} {tch:List Nat}
end
end Go.Proofs.AmEnv
set_option maxRecDepth 100000
namespace Go.Proofs.AmEnv
open Go Go.AM
variable {T:Nat->Option (List AV->Option (List AV))}
section
variable {l:List Int}
theorem Tg {t:Nat} {K:PK} (h:J2 A0 t=.slc):Q3 A0 .eql t .nilsl .nilsl K=.val (.bool true) K:=by rw [bp _ _ rfl rfl,h]; rfl
theorem Th {t:Nat} {K:PK} (h:J2 A0 t=.slc):Q3 A0 .eql t (.fsl [] false) .nilsl K=.val (.bool false) K:=by rw [bp _ _ rfl rfl,h]; rfl
theorem Mz {t:Nat} {K:PK} {e:AV} {es:List AV} (h:J2 A0 t=.slc):Q3 A0 .eql t (fslN (e :: es)) .nilsl K=.val (.bool false) K:=by rw [bp _ _ rfl rfl,h]; rfl
theorem Zn (n:Nat):G7 n []=true:=rfl
theorem eS:AM.Comes ⟨A0,T,A3⟩ 70 [.nilsl] [ownd 0 1 (ints [])]:=by
 refine ⟨[.nilsl],⟨[],0,[]⟩,?_,D9 (.inl ⟨rfl,rfl,rfl⟩)⟩
 rw [A8 (c:=qC) (nt:=8) (rs:=[.tmp 2]) rfl (by simp)]
 unfold qC K0
 simp -implicitDefEqProofs only [Tg (t:=28) rfl,XP,seval]
theorem eT:AM.Comes ⟨A0,T,A3⟩ 70 [.fsl [] false] [ownd 0 1 (ints [])]:=by
 refine ⟨[.msl 0 0 0 1],⟨[.row 0 [] 1],0,[]⟩,?_,D9 (.inr ⟨rfl,rfl⟩)⟩
 rw [A8 (c:=qC) (nt:=8) (rs:=[.tmp 2]) rfl (by simp)]
 unfold qC K0
 simp -implicitDefEqProofs only [Th (t:=28) rfl,Zn,XP,seval]
theorem cG:∀ l:List Int,G7 1 (ints l)=true
 | []=>rfl
 | x :: l=>cG l
theorem Zo {x:Int} {l:List Int} (hs:(x :: l).length * 8≤bigN):AM.Comes ⟨A0,T,A3⟩ 70 [fslN (ints (x :: l))] [ownd 0 1 (ints (x :: l))]:=by
 refine ⟨[.msl 0 0 (ints (x :: l)).length 1],⟨[.row 0 (ints (x :: l)) 1],0,[]⟩,?_,D9 (.inr ⟨rfl,rfl⟩)⟩
 rw [A8 (c:=qC) (nt:=8) (rs:=[.tmp 2]) rfl (by simp)]
 unfold qC K0
 have h1:∀ K:PK,Q3 A0 .eql 28 (fslN (ints (x :: l))) .nilsl K=.val (.bool false) K:=fun K=>Mz (t:=28) rfl
 have h2:=cG (x :: l)
 have h3:(ints (x :: l)).isEmpty=false:=rfl
 have h4:(ints (x :: l)).length * 8≤140737488355328:=by simpa [bigN] using hs
 generalize ints (x :: l)=es at h1 h2 h3 h4
 simp -implicitDefEqProofs only [h1,h2,h3,h4,XP,seval]
theorem jD {P:PE} (hP:PEok P) (he:P=⟨A0,T,A3⟩):TC P.E 70 G9:=by
 subst he
 refine bA hP (fun a args rs hg a' ha=>?_) (by unfold G9 b9; rw [dif_neg]; rintro ⟨x,_,h⟩; cases h)
 obtain ⟨l,h1,h2,rfl⟩:=Kx hg
 injection h2 with h2 h3
 subst h2 h3
 cases l with
 | nil =>
  rcases List.mem_cons.1 ha with rfl | ha
  . exact eS
  . obtain rfl:=List.mem_singleton.1 ha; exact eT
 | cons x l =>
  obtain rfl:=List.mem_singleton.1 (show a'∈[fslN (ints (x :: l))] from ha)
  exact Zo h1
end
end Go.Proofs.AmEnv
set_option maxRecDepth 100000
namespace Go.Proofs.AmEnv
open Go Go.AM
variable {T:Nat->Option (List AV->Option (List AV))}
section
theorem Zp:AM.Comes ⟨A0,T,A3⟩ 72 [.nilsl] [ownd 0 8 (([]:List Ins).map Ins.F)]:=by
 refine ⟨[.nilsl],⟨[],0,[]⟩,?_,D9 (.inl ⟨rfl,rfl,rfl⟩)⟩
 rw [A8 (c:=qE) (nt:=8) (rs:=[.tmp 2]) rfl (by simp)]
 unfold qE K0
 simp -implicitDefEqProofs only [Tg (t:=37) rfl,XP,seval]
theorem Zq:AM.Comes ⟨A0,T,A3⟩ 72 [.fsl [] false] [ownd 0 8 (([]:List Ins).map Ins.F)]:=by
 refine ⟨[.msl 0 0 0 8],⟨[.row 0 [] 8],0,[]⟩,?_,D9 (.inr ⟨rfl,rfl⟩)⟩
 rw [A8 (c:=qE) (nt:=8) (rs:=[.tmp 2]) rfl (by simp)]
 unfold qE K0
 simp -implicitDefEqProofs only [Th (t:=37) rfl,Zn,XP,seval]
theorem xY:∀ l:List Ins,G7 8 (l.map Ins.F)=true
 | []=>rfl
 | x :: l=>xY l
theorem Wm {x:Ins} {l:List Ins} (hs:(x :: l).length * 88≤bigN):AM.Comes ⟨A0,T,A3⟩ 72 [fslN ((x :: l).map Ins.F)] [ownd 0 8 ((x :: l).map Ins.F)]:=by
 refine ⟨[.msl 0 0 ((x :: l).map Ins.F).length 8],⟨[.row 0 ((x :: l).map Ins.F) 8],0,[]⟩,?_,D9 (.inr ⟨rfl,rfl⟩)⟩
 rw [A8 (c:=qE) (nt:=8) (rs:=[.tmp 2]) rfl (by simp)]
 unfold qE K0
 have h1:∀ K:PK,Q3 A0 .eql 37 (fslN ((x :: l).map Ins.F)) .nilsl K=.val (.bool false) K:=fun K=>Mz (t:=37) rfl
 have h2:=xY (x :: l)
 have h3:((x :: l).map Ins.F).isEmpty=false:=rfl
 have h4:((x :: l).map Ins.F).length * 88≤140737488355328:=by simpa [bigN] using hs
 generalize (x :: l).map Ins.F=es at h1 h2 h3 h4
 simp -implicitDefEqProofs only [h1,h2,h3,h4,XP,seval]
def X2:=b9 (fun l:List Ins=>[fslN (l.map Ins.F)]) (fun l=>[ownd 0 8 (l.map Ins.F)]) (fun l=>l.length * 88≤bigN)
theorem eU {P:PE} (hP:PEok P) (he:P=⟨A0,T,A3⟩):TC P.E 72 X2:=by
 subst he
 refine bA hP (fun a args rs hg a' ha=>?_) (by unfold X2 b9; rw [dif_neg]; rintro ⟨x,_,h⟩; cases h)
 obtain ⟨l,h1,h2,rfl⟩:=Kx hg
 injection h2 with h2 h3
 subst h2 h3
 cases l with
 | nil =>
  rcases List.mem_cons.1 ha with rfl | ha
  . exact Zp
  . obtain rfl:=List.mem_singleton.1 ha; exact Zq
 | cons x l =>
  obtain rfl:=List.mem_singleton.1 (show a'∈[fslN ((x :: l).map Ins.F)] from ha)
  exact Wm h1
theorem Zr:AM.Comes ⟨A0,T,A3⟩ 71 [.nilsl] [ownd 0 5 (([]:List Blk).map Blk.F)]:=by
 refine ⟨[.nilsl],⟨[],0,[]⟩,?_,D9 (.inl ⟨rfl,rfl,rfl⟩)⟩
 rw [A8 (c:=qD) (nt:=8) (rs:=[.tmp 2]) rfl (by simp)]
 unfold qD K0
 simp -implicitDefEqProofs only [Tg (t:=29) rfl,XP,seval]
theorem Zs:AM.Comes ⟨A0,T,A3⟩ 71 [.fsl [] false] [ownd 0 5 (([]:List Blk).map Blk.F)]:=by
 refine ⟨[.msl 0 0 0 5],⟨[.row 0 [] 5],0,[]⟩,?_,D9 (.inr ⟨rfl,rfl⟩)⟩
 rw [A8 (c:=qD) (nt:=8) (rs:=[.tmp 2]) rfl (by simp)]
 unfold qD K0
 simp -implicitDefEqProofs only [Th (t:=29) rfl,Zn,XP,seval]
theorem xZ:∀ l:List Blk,G7 5 (l.map Blk.F)=true
 | []=>rfl
 | x :: l=>xZ l
theorem Wn {x:Blk} {l:List Blk} (hs:(x :: l).length * 56≤bigN):AM.Comes ⟨A0,T,A3⟩ 71 [fslN ((x :: l).map Blk.F)] [ownd 0 5 ((x :: l).map Blk.F)]:=by
 refine ⟨[.msl 0 0 ((x :: l).map Blk.F).length 5],⟨[.row 0 ((x :: l).map Blk.F) 5],0,[]⟩,?_,D9 (.inr ⟨rfl,rfl⟩)⟩
 rw [A8 (c:=qD) (nt:=8) (rs:=[.tmp 2]) rfl (by simp)]
 unfold qD K0
 have h1:∀ K:PK,Q3 A0 .eql 29 (fslN ((x :: l).map Blk.F)) .nilsl K=.val (.bool false) K:=fun K=>Mz (t:=29) rfl
 have h2:=xZ (x :: l)
 have h3:((x :: l).map Blk.F).isEmpty=false:=rfl
 have h4:((x :: l).map Blk.F).length * 56≤140737488355328:=by simpa [bigN] using hs
 generalize (x :: l).map Blk.F=es at h1 h2 h3 h4
 simp -implicitDefEqProofs only [h1,h2,h3,h4,XP,seval]
def w7:=b9 (fun l:List Blk=>[fslN (l.map Blk.F)]) (fun l=>[ownd 0 5 (l.map Blk.F)]) (fun l=>l.length * 56≤bigN)
theorem eV {P:PE} (hP:PEok P) (he:P=⟨A0,T,A3⟩):TC P.E 71 w7:=by
 subst he
 refine bA hP (fun a args rs hg a' ha=>?_) (by unfold w7 b9; rw [dif_neg]; rintro ⟨x,_,h⟩; cases h)
 obtain ⟨l,h1,h2,rfl⟩:=Kx hg
 injection h2 with h2 h3
 subst h2 h3
 cases l with
 | nil =>
  rcases List.mem_cons.1 ha with rfl | ha
  . exact Zr
  . obtain rfl:=List.mem_singleton.1 ha; exact Zs
 | cons x l =>
  obtain rfl:=List.mem_singleton.1 (show a'∈[fslN ((x :: l).map Blk.F)] from ha)
  exact Wn h1
end
end Go.Proofs.AmEnv
set_option maxRecDepth 100000
namespace Go.Proofs.AmEnv
open Go Go.AM
variable {T:Nat->Option (List AV->Option (List AV))}
section
variable {l m:List Int} {i:Nat}
abbrev Ph (l m:List Int) (n i:Nat):PF:=[(0,fslN (ints l)),(1,fslN (ints m)),(12,.int .i64 (n:Int)),(13,.int .i64 (i:Int))]
theorem GD (hl:i < l.length) (hm:i < m.length) (he:l[i]=m[i]) (hs:l.length * 8≤bigN):evP ⟨A0,T,A3⟩ (.code m3 (Ph l m l.length i) ⟨[],0,[]⟩)=some (.ok .normal (Ph l m l.length (i + 1)) ⟨[],0,[]⟩):=by
 unfold m3
 have hlt:decide ((i:Int) < (l.length:Int))=true:=by simp [hl]
 have h1:=E4 hl
 have h2:=E4 hm
 have hw:=B3 (i:=i) (by simp only [bigN] at hs; omega)
 simp -implicitDefEqProofs only [Ph,hlt,h1,h2,hw,A6 he,XP,seval]
theorem GE (hl:i < l.length) (hm:i < m.length) (he:¬ l[i]=m[i]):∃ fr',evP ⟨A0,T,A3⟩ (.code m3 (Ph l m l.length i) ⟨[],0,[]⟩)=some (.ok .ret fr' ⟨[],0,[]⟩)∧lookP fr' 4=.bool false:=by
 unfold m3
 have hlt:decide ((i:Int) < (l.length:Int))=true:=by simp [hl]
 have h1:=E4 hl
 have h2:=E4 hm
 simp -implicitDefEqProofs only [Ph,hlt,h1,h2,B5 he,XP,seval]
 exact ⟨_,rfl,rfl⟩
theorem GF:∃ fr',evP ⟨A0,T,A3⟩ (.code m3 (Ph l m l.length l.length) ⟨[],0,[]⟩)=some (.ok (.exit 0) fr' ⟨[],0,[]⟩):=by
 unfold m3
 have hlt:decide ((l.length:Int) < (l.length:Int))=false:=by simp
 simp -implicitDefEqProofs only [Ph,hlt,XP,seval]
 exact ⟨_,rfl⟩
theorem Wo (hs:l.length * 8≤bigN):AM.Comes ⟨A0,T,A3⟩ 262 [fslN (ints l),fslN (ints m)] [.bool (decide (l=m))]:=by
 refine ⟨[.bool (decide (l=m))],⟨[],0,[]⟩,?_,B7 rfl List.nodup_nil rfl rfl rfl⟩
 rw [A8 (c:=nD) (nt:=26) (rs:=[.tmp 4]) rfl (by simp)]
 unfold nD K0
 have hl0:(ints l).length=l.length:=List.length_map ..
 have hm0:(ints m).length=m.length:=List.length_map ..
 by_cases hm:l.length=m.length
 . have hn:(!decide ((l.length:Int)=(m.length:Int)))=false:=by simp [hm]
   rcases same_loopS (P:=⟨A0,T,A3⟩) (c:=m3) (S:=Ph l m l.length) hm (fun i h h' e=>GD h h' e hs) (fun i h h' e=>GE h h' e) GF with ⟨h1,fr',h2⟩ | ⟨h1,fr',h2,h3⟩
   . simp only [Ph] at h2
     have h2:evP ⟨A0,T,A3⟩ (.code (.loop m3) [(0,fslN (ints l)),(1,fslN (ints m)),(12,.int .i64 (l.length:Int)),(13,.int .i64 0)] ⟨[],0,[]⟩)=_:=h2
     simp -implicitDefEqProofs only [hn,hl0,hm0,A6 h1,h2,XP,seval]
   . simp only [Ph] at h2
     have h2:evP ⟨A0,T,A3⟩ (.code (.loop m3) [(0,fslN (ints l)),(1,fslN (ints m)),(12,.int .i64 (l.length:Int)),(13,.int .i64 0)] ⟨[],0,[]⟩)=_:=h2
     simp -implicitDefEqProofs only [hn,hl0,hm0,B5 h1,h2,h3,XP,seval]
 . have hn:(!decide ((l.length:Int)=(m.length:Int)))=true:=by simp; omega
   have h1:¬ l=m:=fun h=>hm (by rw [h])
   simp -implicitDefEqProofs only [hn,hl0,hm0,B5 h1,XP,seval]
end
end Go.Proofs.AmEnv
set_option maxRecDepth 100000
namespace Go.Proofs.AmEnv
open Go Go.AM
variable {T:Nat->Option (List AV->Option (List AV))}
section
set_option maxHeartbeats 4000000 in
theorem Jt (hT:T 262=some N3) {x y:Ins} (h:x.ok):AM.Comes ⟨A0,T,A3⟩ 242 [x.F,y.F] [.bool (decide (x=y))]:=by
 refine ⟨[.bool (decide (x=y))],⟨[],0,[]⟩,?_,B7 rfl List.nodup_nil rfl rfl rfl⟩
 rw [A8 (c:=mX) (nt:=61) (rs:=[.tmp 4]) rfl (by simp)]
 unfold mX K0
 have ht:∀ {K:PK},evP ⟨A0,T,A3⟩ (.call 262 [fslN (ints x.args),fslN (ints y.args)] K)=some (.val [.bool (decide (x.args=y.args))] ⟨K.os ++ [],K.ext,K.tch⟩):=B8 hT (by show D2 (Uq (frzL (ints x.args))) (D2 (Uq (frzL (ints y.args))) (some []))=_; rw [frzL_ints,frzL_ints]; rfl) (X1 h) (by rfl)
 have no:∀ {p:Prop} [Decidable p],¬ p->decide p=false:=fun h=>by simp [h]
 have yes:∀ {p:Prop} [Decidable p],p->decide p=true:=fun h=>by simp [h]
 have ext:x=y ↔ x.op=y.op∧x.ty=y.ty∧x.dst=y.dst∧x.a=y.a∧x.b=y.b∧x.n=y.n∧x.s=y.s∧x.args=y.args:=by
  cases x; cases y; simp
 by_cases hargs:x.args=y.args
 . rw [A6 hargs] at ht
   by_cases hop:x.op=y.op
   . by_cases hty:x.ty=y.ty
     . by_cases hdst:x.dst=y.dst
       . by_cases ha:x.a=y.a
         . by_cases hb:x.b=y.b
           . by_cases hn:x.n=y.n
             . by_cases hs:x.s=y.s
               . have e:decide (x=y)=true:=A6 (ext.2 ⟨hop,hty,hdst,ha,hb,hn,hs,hargs⟩)
                 simp -implicitDefEqProofs only [Ins.F,ht,e,A6 hop,A6 hty,A6 hdst,A6 ha,A6 hb,A6 hn,A6 hs,XP,seval]
               . have e:decide (x=y)=false:=B5 fun e=>hs (ext.1 e).2.2.2.2.2.2.1
                 simp -implicitDefEqProofs only [Ins.F,ht,e,A6 hop,A6 hty,A6 hdst,A6 ha,A6 hb,A6 hn,B5 hs,XP,seval]
             . have e:decide (x=y)=false:=B5 fun e=>hn (ext.1 e).2.2.2.2.2.1
               simp -implicitDefEqProofs only [Ins.F,ht,e,A6 hop,A6 hty,A6 hdst,A6 ha,A6 hb,B5 hn,XP,seval]
           . have e:decide (x=y)=false:=B5 fun e=>hb (ext.1 e).2.2.2.2.1
             simp -implicitDefEqProofs only [Ins.F,ht,e,A6 hop,A6 hty,A6 hdst,A6 ha,B5 hb,XP,seval]
         . have e:decide (x=y)=false:=B5 fun e=>ha (ext.1 e).2.2.2.1
           simp -implicitDefEqProofs only [Ins.F,ht,e,A6 hop,A6 hty,A6 hdst,B5 ha,XP,seval]
       . have e:decide (x=y)=false:=B5 fun e=>hdst (ext.1 e).2.2.1
         simp -implicitDefEqProofs only [Ins.F,ht,e,A6 hop,A6 hty,B5 hdst,XP,seval]
     . have e:decide (x=y)=false:=B5 fun e=>hty (ext.1 e).2.1
       simp -implicitDefEqProofs only [Ins.F,ht,e,A6 hop,B5 hty,XP,seval]
   . have e:decide (x=y)=false:=B5 fun e=>hop (ext.1 e).1
     simp -implicitDefEqProofs only [Ins.F,ht,e,B5 hop,XP,seval]
 . have e:decide (x=y)=false:=B5 fun e=>hargs (ext.1 e).2.2.2.2.2.2.2
   rw [B5 hargs] at ht
   simp -implicitDefEqProofs only [Ins.F,ht,e,XP,seval]
end
end Go.Proofs.AmEnv
set_option maxRecDepth 100000
namespace Go.Proofs.AmEnv
open Go Go.AM
variable {T:Nat->Option (List AV->Option (List AV))}
theorem Na (hT:T 242=some F1) {x y:Ins} (h:x.ok) {K:PK}:evP ⟨A0,T,A3⟩ (.call 242 [x.F,y.F] K)=some (.val [.bool (decide (x=y))] ⟨K.os ++ [],K.ext,K.tch⟩):=B8 hT (by show D2 (viewA _ x.F) (D2 (viewA _ y.F) (some []))=_; rw [Ins.viewF,Ins.viewF]; rfl) (De h) (by
 unfold Ins.F
 simp -implicitDefEqProofs only [XP,seval])
section
variable {l m:List Ins} {i:Nat}
abbrev lL (l m:List Ins) (n i:Nat):PF:=[(1,fslN (m.map Ins.F)),(2,.fn (.func 242) [] []),(15,fslN (l.map Ins.F)),(16,.int .i64 (n:Int)),(17,.int .i64 (i:Int))]
set_option maxHeartbeats 4000000 in
theorem GG (hT:T 242=some F1) (hl:i < l.length) (hm:i < m.length) (hk:l[i].ok) (hs:l.length * 88≤bigN) (he:l[i]=m[i]) :
 evP ⟨A0,T,A3⟩ (.code l9 (lL l m l.length i) ⟨[],0,[]⟩)=some (.ok .normal (lL l m l.length (i + 1)) ⟨[],0,[]⟩):=by
 unfold l9
 have hlt:decide ((i:Int) < (l.length:Int))=true:=by simp [hl]
 have h1:=B2 (F:=Ins.F) hl
 have h2:=B2 (F:=Ins.F) hm
 have hw:=B3 (i:=i) (by simp only [bigN] at hs; omega)
 have ht:=fun K=>Na (K:=K) hT (y:=m[i]) hk
 rw [A6 he] at ht
 simp only [Ins.F] at ht h1 h2
 simp -implicitDefEqProofs only [lL,hlt,h1,h2,hw,ht,u_not,XP,seval]
set_option maxHeartbeats 4000000 in
theorem GH (hT:T 242=some F1) (hl:i < l.length) (hm:i < m.length) (hk:l[i].ok) (he:¬ l[i]=m[i]) :
 ∃ fr',evP ⟨A0,T,A3⟩ (.code l9 (lL l m l.length i) ⟨[],0,[]⟩)=some (.ok .ret fr' ⟨[],0,[]⟩)∧lookP fr' 6=.bool false:=by
 unfold l9
 have hlt:decide ((i:Int) < (l.length:Int))=true:=by simp [hl]
 have h1:=B2 (F:=Ins.F) hl
 have h2:=B2 (F:=Ins.F) hm
 have ht:=fun K=>Na (K:=K) hT (y:=m[i]) hk
 rw [B5 he] at ht
 simp only [Ins.F] at ht h1 h2
 simp -implicitDefEqProofs only [lL,hlt,h1,h2,ht,u_not,XP,seval]
 exact ⟨_,rfl,rfl⟩
theorem GI:∃ fr',evP ⟨A0,T,A3⟩ (.code l9 (lL l m l.length l.length) ⟨[],0,[]⟩)=some (.ok (.exit 0) fr' ⟨[],0,[]⟩):=by
 unfold l9
 have hlt:decide ((l.length:Int) < (l.length:Int))=false:=by simp
 simp -implicitDefEqProofs only [lL,hlt,XP,seval]
 exact ⟨_,rfl⟩
theorem Nb (hT:T 242=some F1) (hk:∀ x∈l,x.ok) (hs:l.length * 88≤bigN):evP ⟨A0,T,A3⟩ (.body 241 [fslN (l.map Ins.F),fslN (m.map Ins.F),.fn (.func 242) [] []] ⟨[],0,[]⟩)=some (.val [.bool (decide (l=m))] ⟨[],0,[]⟩):=by
 rw [A8 (c:=mW) (nt:=32) (rs:=[.tmp 6]) rfl (by simp)]
 unfold mW
 have hl0:(l.map Ins.F).length=l.length:=List.length_map ..
 have hm0:(m.map Ins.F).length=m.length:=List.length_map ..
 by_cases hm:l.length=m.length
 . have hn:(!decide ((l.length:Int)=(m.length:Int)))=false:=by simp [hm]
   rcases same_loopS (P:=⟨A0,T,A3⟩) (c:=l9) (r:=6) (S:=lL l m l.length) hm (fun i h h' e=>GG hT h h' (hk _ (List.getElem_mem h)) hs e) (fun i h h' e=>GH hT h h' (hk _ (List.getElem_mem h)) e) GI with ⟨h1,fr',h2⟩ | ⟨h1,fr',h2,h3⟩
   . simp only [lL] at h2
     have h2:evP ⟨A0,T,A3⟩ (.code (.loop l9) [(1,fslN (m.map Ins.F)),(2,.fn (.func 242) [] []),(15,fslN (l.map Ins.F)),(16,.int .i64 (l.length:Int)),(17,.int .i64 0)] ⟨[],0,[]⟩)=_:=h2
     simp -implicitDefEqProofs only [hn,hl0,hm0,A6 h1,h2,XP,seval]
   . simp only [lL] at h2
     have h2:evP ⟨A0,T,A3⟩ (.code (.loop l9) [(1,fslN (m.map Ins.F)),(2,.fn (.func 242) [] []),(15,fslN (l.map Ins.F)),(16,.int .i64 (l.length:Int)),(17,.int .i64 0)] ⟨[],0,[]⟩)=_:=h2
     simp -implicitDefEqProofs only [hn,hl0,hm0,B5 h1,h2,h3,XP,seval]
 . have hn:(!decide ((l.length:Int)=(m.length:Int)))=true:=by simp; omega
   have h1:¬ l=m:=fun h=>hm (by rw [h])
   simp -implicitDefEqProofs only [hn,hl0,hm0,B5 h1,XP,seval]
theorem Nc (hT:T 242=some F1) (hN:T 241=none) (hk:∀ x∈l,x.ok) (hs:l.length * 88≤bigN) (K:PK):evP ⟨A0,T,A3⟩ (.call 241 [fslN (l.map Ins.F),fslN (m.map Ins.F),.fn (.func 242) [] []] K)=some (.val [.bool (decide (l=m))] K) :=
 Ur hN rfl rfl rfl (Nb hT hk hs) rfl
def R5:=b9 (fun p:Blk × Blk=>[p.1.F,p.2.F]) (fun p=>[.bool (decide (p.1=p.2))]) (fun p=>p.1.ok)
theorem eW {x y:Blk} (h:x.ok):R5 [x.F,y.F]=some [.bool (decide (x=y))]:=C3 (a:=fun p:Blk × Blk=>[p.1.F,p.2.F]) (r:=fun p=>[.bool (decide (p.1=p.2))]) (fun x y e=>by
 injection e with e1 e; injection e with e2 _
 rw [Blk.F_inj e1,Blk.F_inj e2]) (x,y) h
set_option maxHeartbeats 4000000 in
theorem Wp (hT:T 242=some F1) (hN:T 241=none) {x y:Blk} (h:x.ok):AM.Comes ⟨A0,T,A3⟩ 218 [x.F,y.F] [.bool (decide (x=y))]:=by
 refine ⟨[.bool (decide (x=y))],⟨[],0,[]⟩,?_,B7 rfl List.nodup_nil rfl rfl rfl⟩
 rw [A8 (c:=mQ) (nt:=17) (rs:=[.tmp 4]) rfl (by simp)]
 unfold mQ K0
 have ht:=Nc (T:=T) (m:=y.code) hT hN h.1 h.2
 have ext:x=y ↔ x.code=y.code∧x.e=y.e:=by cases x; cases y; simp
 by_cases h1:x.e=y.e
 . have e:decide (x=y)=decide (x.code=y.code):=by simp [ext,h1]
   simp -implicitDefEqProofs only [Blk.F,ht,e,Cf,A6 h1,XP,seval]
 . have e:decide (x=y)=false:=B5 fun e=>h1 (ext.1 e).2
   simp -implicitDefEqProofs only [Blk.F,e,Cf,B5 h1,XP,seval]
end
end Go.Proofs.AmEnv
set_option maxRecDepth 100000
namespace Go.Proofs.AmEnv
open Go Go.AM
variable {T:Nat->Option (List AV->Option (List AV))}
def wide (sz:Nat) (es:List AV):Prop:=∀ v∈es,∃ cs,v=.agg cs∧cs.length=sz
theorem wide.get {sz:Nat} {es:List AV} (h:wide sz es) {i:Nat} (hi:i < es.length):∃ cs,es[i]?=some (.agg cs)∧cs.length=sz:=by
 obtain ⟨cs,h1,h2⟩:=h _ (List.getElem_mem hi)
 exact ⟨cs,by rw [List.getElem?_eq_getElem hi,h1],h2⟩
theorem wide.set {sz:Nat} {es:List AV} (h:wide sz es) (i:Nat) {xs:List AV} (hx:xs.length=sz):wide sz (es.set i (.agg xs)):=fun v hv=>by
 rcases List.mem_or_eq_of_mem_set hv with hv | rfl
 . exact h v hv
 . exact ⟨xs,rfl,hx⟩
section
variable {put:List AV->List PO} {id:Nat} {es:List AV} {fr:PF} {ext i:Nat} {tch:List Nat}
end
end Go.Proofs.AmEnv
set_option maxRecDepth 100000
namespace Go.Proofs.AmEnv
open Go Go.AM
variable {T:Nat->Option (List AV->Option (List AV))}
section
variable {regs:List Int} {bs:List AV} {i k:Nat} {b:Blk} {x:Ins} {tch:List Nat} {cells:List AV}
theorem jE {α:Type} {l:List α} {i:Nat} {v:α} (h:l[i]?=some v):l.set i v=l:=by
 obtain ⟨hi,rfl⟩:=List.getElem?_eq_some_iff.1 h
 exact List.set_getElem_self hi
theorem U2 {α:Type} {l:List α} {i:Nat} {v:α} (h:i < l.length):(l.set i v)[i]?=some v:=List.getElem?_set_self h
end
end Go.Proofs.AmEnv
set_option maxRecDepth 100000
namespace Go.Proofs.AmEnv
open Go Go.AM
variable {T:Nat->Option (List AV->Option (List AV))}
section
variable {regs:List Int} {bs:List AV} {i k:Nat} {b:Blk} {x:Ins} {tch:List Nat} {nm:List UInt8} {ty ps:Int} {nr nb:Nat}
end
end Go.Proofs.AmEnv
set_option maxRecDepth 100000
namespace Go.Proofs.AmEnv
open Go Go.AM
variable {T:Nat->Option (List AV->Option (List AV))}
structure Glo where
 name:List UInt8
 ty:Int
 size:Int
 at_:Int
deriving DecidableEq
structure Modl where
 gs:List Glo
 fs:List Cod
deriving DecidableEq
def Glo.F (g:Glo):AV:=.agg [.str g.name,.int .i64 g.ty,.int .i64 g.size,.int .i64 g.at_]
def Modl.F (m:Modl):AV:=.agg [fslN (m.gs.map Glo.F),fslN (m.fs.map Cod.F)]
def Modl.O (m:Modl):AV:=.agg [ownd 0 4 (m.gs.map Glo.F),ownd 0 5 (m.fs.map Cod.O)]
abbrev rL (l:List Bool):List AV:=l.map AV.bool
def chkF (m:Modl) (c:Cod):AV:=.agg [fslN (m.gs.map Glo.F),fslN (m.fs.map Cod.F),.str c.name,.int .i64 c.ty,.int .i64 c.ps,fslN (ints c.regs),fslN (c.blocks.map Blk.F)]
theorem Glo.F_inj {x y:Glo} (h:x.F=y.F):x=y:=by
 cases x; cases y
 simp only [Glo.F,AV.agg.injEq,List.cons.injEq,AV.int.injEq,AV.str.injEq,true_and,and_true] at h
 obtain ⟨rfl,rfl,rfl,rfl⟩:=h; rfl
theorem Endd.F_inj {x y:Endd} (h:x.F=y.F):x=y:=by
 cases x; cases y
 simp only [Endd.F,AV.agg.injEq,List.cons.injEq,AV.int.injEq,true_and,and_true] at h
 obtain ⟨rfl,rfl,rfl,rfl⟩:=h; rfl
theorem Modl.F_inj {x y:Modl} (h:x.F=y.F):x=y:=by
 cases x; cases y
 simp only [Modl.F,AV.agg.injEq,List.cons.injEq,and_true] at h
 rw [K5 (fun _ _=>Glo.F_inj) (fslN_inj h.1),K5 (fun _ _=>Cod.F_inj) (fslN_inj h.2)]
theorem fslN_iff {l m:List AV}:fslN l=fslN m ↔ l=m:=⟨fslN_inj,fun h=>h ▸ rfl⟩
theorem ints_iff {l m:List Int}:l.map (AV.int .i64)=m.map (AV.int .i64) ↔ l=m:=⟨ints_inj,fun h=>h ▸ rfl⟩
theorem bools_iff {l m:List Bool}:l.map AV.bool=m.map AV.bool ↔ l=m:=⟨fun h=>K5 (fun _ _ h=>by injection h) h,fun h=>h ▸ rfl⟩
theorem Ins.F_iff {x y:Ins}:x.F=y.F ↔ x=y:=⟨Ins.F_inj,fun h=>h ▸ rfl⟩
theorem Blk.F_iff {x y:Blk}:x.F=y.F ↔ x=y:=⟨Blk.F_inj,fun h=>h ▸ rfl⟩
theorem Cod.F_iff {x y:Cod}:x.F=y.F ↔ x=y:=⟨Cod.F_inj,fun h=>h ▸ rfl⟩
theorem Glo.F_iff {x y:Glo}:x.F=y.F ↔ x=y:=⟨Glo.F_inj,fun h=>h ▸ rfl⟩
theorem Endd.F_iff {x y:Endd}:x.F=y.F ↔ x=y:=⟨Endd.F_inj,fun h=>h ▸ rfl⟩
theorem Modl.F_iff {x y:Modl}:x.F=y.F ↔ x=y:=⟨Modl.F_inj,fun h=>h ▸ rfl⟩
theorem insL_iff {l m:List Ins}:l.map Ins.F=m.map Ins.F ↔ l=m:=⟨K5 fun _ _=>Ins.F_inj,fun h=>h ▸ rfl⟩
theorem blkL_iff {l m:List Blk}:l.map Blk.F=m.map Blk.F ↔ l=m:=⟨K5 fun _ _=>Blk.F_inj,fun h=>h ▸ rfl⟩
theorem codL_iff {l m:List Cod}:l.map Cod.F=m.map Cod.F ↔ l=m:=⟨K5 fun _ _=>Cod.F_inj,fun h=>h ▸ rfl⟩
theorem gloL_iff {l m:List Glo}:l.map Glo.F=m.map Glo.F ↔ l=m:=⟨K5 fun _ _=>Glo.F_inj,fun h=>h ▸ rfl⟩
theorem Glo.frzF (x:Glo):frzC x.F=some x.F:=by unfold Glo.F; simp -implicitDefEqProofs only [XP,seval]
theorem frzL_gloF (l:List Glo):frzL (l.map Glo.F)=some (l.map Glo.F):=U4 Glo.frzF l
theorem frzL_codF (l:List Cod):frzL (l.map Cod.F)=some (l.map Cod.F):=U4 Cod.frzF l
theorem frzL_bools (l:List Bool):frzL (l.map AV.bool)=some (l.map AV.bool):=U4 (f:=AV.bool) (g:=AV.bool) (fun _=>rfl) l
theorem Glo.viewF {os:List PO} (x:Glo):viewA os x.F=some x.F:=by unfold Glo.F; simp -implicitDefEqProofs only [XP,seval]
theorem Endd.viewF {os:List PO} (x:Endd):viewA os x.F=some x.F:=by unfold Endd.F; simp -implicitDefEqProofs only [XP,seval]
theorem Modl.viewF {os:List PO} (x:Modl):viewA os x.F=some x.F:=by unfold Modl.F; simp -implicitDefEqProofs only [frzL_gloF,frzL_codF,XP,seval]
theorem chk_viewF {os:List PO} (m:Modl) (c:Cod):viewA os (chkF m c)=some (chkF m c):=by unfold chkF; simp -implicitDefEqProofs only [frzL_gloF,frzL_codF,frzL_ints,frzL_blkF,XP,seval]
theorem chk_iff {m m':Modl} {c c':Cod}:chkF m c=chkF m' c' ↔ m=m'∧c=c':=by
 constructor
 . intro h
   simp only [chkF,AV.agg.injEq,List.cons.injEq,AV.int.injEq,AV.str.injEq,and_true] at h
   obtain ⟨h1,h2,h3,⟨_,h4⟩,⟨_,h5⟩,h6,h7⟩:=h
   exact ⟨Modl.F_inj (by simp only [Modl.F]; rw [h1,h2]),Cod.F_inj (by simp only [Cod.F]; rw [h3,h4,h5,h6,h7])⟩
 . rintro ⟨rfl,rfl⟩; rfl
theorem noFL_bools (l:List Bool):noFL (rL l)=true:=by
 induction l with
 | nil=>rfl
 | cons x l ih=>exact ih
theorem Glo.noF (x:Glo):noF x.F=true:=by unfold Glo.F; simp -implicitDefEqProofs only [XP,seval]
theorem noFL_gloO (l:List Glo):noFL (l.map Glo.F)=true:=o6 Glo.noF l
theorem noFL_codO (l:List Cod):noFL (l.map Cod.O)=true:=o6 Cod.noF l
theorem Endd.okF (x:Endd):(x.F.cells.all fun c=>(ownOf c).isSome || clo c)=true:=rfl
theorem Endd.noF (x:Endd):noF x.F=true:=by unfold Endd.F; simp -implicitDefEqProofs only [XP,seval]
theorem Cod.okO (c:Cod):(c.O.cells.all fun c=>(ownOf c).isSome || clo c)=true:=rfl
theorem Modl.okO (m:Modl):(m.O.cells.all fun c=>(ownOf c).isSome || clo c)=true:=rfl
theorem Modl.noF (m:Modl):noF m.O=true:=by unfold Modl.O; simp -implicitDefEqProofs only [noFL_gloO,noFL_codO,XP,seval]
def E5 (n:Int):Bool:=decide (n=1) || decide (n=2)
def thereD (a n:Int):Bool:=decide (0≤a) && decide (a < n)
def Df (t:Int):Int:=if t=2 then 2 else 1
def Jg (t v:Int):Int:=if t=3 then IntKind.wrap .i64 (IntKind.wrap .i8 v) else if t=1 then IntKind.wrap .i64 (IntKind.wrap .i32 v) else if t=2 then v else 0
def B0:List UInt8:=[109,97,105,110]
def VJ:=And.intro @Int.ofNat_inj (And.intro @List.cons.injEq.{0} (And.intro @AV.int.injEq (And.intro @AV.str.injEq (And.intro @AV.bool.injEq (And.intro @AV.agg.injEq (And.intro @true_and (And.intro @and_true (And.intro @fslN_iff (And.intro @chk_iff (And.intro @Ins.F_iff (And.intro @Blk.F_iff (And.intro @Cod.F_iff (And.intro @Glo.F_iff (And.intro @Modl.F_iff (And.intro @Endd.F_iff (And.intro @ints_iff (And.intro @insL_iff (And.intro @blkL_iff (And.intro @codL_iff (And.intro @gloL_iff (@bools_iff)))))))))))))))))))))
def VV:=And.intro @chk_viewF (And.intro @Ins.viewF (And.intro @Blk.viewF (And.intro @Cod.viewF (And.intro @Glo.viewF (And.intro @Modl.viewF (And.intro @Endd.viewF (And.intro @frzL_ints (And.intro @frzL_insF (And.intro @frzL_blkF (And.intro @frzL_codF (And.intro @frzL_gloF (@frzL_bools))))))))))))
def VN:=And.intro @Endd.okF (And.intro @Endd.noF (And.intro @Cod.okO (And.intro @Modl.okO (And.intro @Modl.noF (And.intro @noFL_ints (And.intro @noFL_insO (And.intro @noFL_blkO (And.intro @noFL_bools (And.intro @noFL_codO (And.intro @noFL_gloO (And.intro @Ins.noF (And.intro @Blk.noF (@Cod.noF)))))))))))))
theorem Ju  {n:Int}:AM.Comes ⟨A0,T,A3⟩ 111 [.int .i64 n] [.bool (E5 n)]:=by
 refine ⟨[.bool (E5 n)],⟨[],0,[]⟩,?_,B7 rfl List.nodup_nil rfl rfl rfl⟩
 rw [A8 (c:=mD) (nt:=9) (rs:=[.tmp 2]) rfl (by simp)]; unfold mD
 unfold K0
 unfold E5
 by_cases h1:n=1
 . by_cases h2:n=2
   . simp -implicitDefEqProofs only [eq_true h1,eq_true h2,XP,seval]
   . simp -implicitDefEqProofs only [eq_true h1,eq_false h2,XP,seval]
 . by_cases h2:n=2
   . simp -implicitDefEqProofs only [eq_false h1,eq_true h2,XP,seval]
   . simp -implicitDefEqProofs only [eq_false h1,eq_false h2,XP,seval]
def K6:=b9 (fun p:(Int)=>[.int .i64 p]) (fun p=>[.bool (E5 p)]) (fun p=>True)
theorem Dt (hir_number:T 111=some K6) {n:Int} {K:PK}:evP ⟨A0,T,A3⟩ (.call 111 [.int .i64 n] K)=some (.val (openTs K.os.length [.bool (E5 n)]).1 ⟨K.os ++ (openTs K.os.length [.bool (E5 n)]).2,K.ext,K.tch⟩):=B8 hir_number (by simp -implicitDefEqProofs only [VV,XP,seval]) (C3 (a:=fun p:(Int)=>[.int .i64 p]) (r:=fun p=>[.bool (E5 p)]) (fun x y e=>by simp only [VJ] at e; simp only [e]) (n) trivial) (by simp -implicitDefEqProofs only [VN,XP,seval])
theorem Ti  (hP:PEok ⟨A0,T,A3⟩):TC A0 111 K6:=C8 hP fun p h=>Ju
theorem Nd  {a:Int} {n:Int}:AM.Comes ⟨A0,T,A3⟩ 225 [.int .i64 a,.int .i64 n] [.bool (thereD a n)]:=by
 refine ⟨[.bool (thereD a n)],⟨[],0,[]⟩,?_,B7 rfl List.nodup_nil rfl rfl rfl⟩
 rw [A8 (c:=mV) (nt:=12) (rs:=[.tmp 4]) rfl (by simp)]; unfold mV
 unfold K0
 unfold thereD
 by_cases h1:0≤a
 . by_cases h2:a < n
   . simp -implicitDefEqProofs only [eq_true h1,eq_true h2,XP,seval]
   . simp -implicitDefEqProofs only [eq_true h1,eq_false h2,XP,seval]
 . by_cases h2:a < n
   . simp -implicitDefEqProofs only [eq_false h1,eq_true h2,XP,seval]
   . simp -implicitDefEqProofs only [eq_false h1,eq_false h2,XP,seval]
def G3:=b9 (fun p:(Int) × (Int)=>[.int .i64 p.1,.int .i64 p.2]) (fun p=>[.bool (thereD p.1 p.2)]) (fun p=>True)
theorem X7 (hir_there:T 225=some G3) {a:Int} {n:Int} {K:PK}:evP ⟨A0,T,A3⟩ (.call 225 [.int .i64 a,.int .i64 n] K)=some (.val (openTs K.os.length [.bool (thereD a n)]).1 ⟨K.os ++ (openTs K.os.length [.bool (thereD a n)]).2,K.ext,K.tch⟩):=B8 hir_there (by simp -implicitDefEqProofs only [VV,XP,seval]) (C3 (a:=fun p:(Int) × (Int)=>[.int .i64 p.1,.int .i64 p.2]) (r:=fun p=>[.bool (thereD p.1 p.2)]) (fun x y e=>by simp only [VJ] at e; simp only [e]) (a,n) trivial) (by simp -implicitDefEqProofs only [VN,XP,seval])
theorem Wq  (hP:PEok ⟨A0,T,A3⟩):TC A0 225 G3:=C8 hP fun p h=>Nd
theorem Pt  {t:Int}:AM.Comes ⟨A0,T,A3⟩ 249 [.int .i64 t] [.int .i64 (Df t)]:=by
 refine ⟨[.int .i64 (Df t)],⟨[],0,[]⟩,?_,B7 rfl List.nodup_nil rfl rfl rfl⟩
 rw [A8 (c:=nB) (nt:=5) (rs:=[.tmp 2]) rfl (by simp)]; unfold nB
 unfold K0
 unfold Df
 by_cases h1:t=2
 . simp -implicitDefEqProofs only [eq_true h1,XP,seval]
 . simp -implicitDefEqProofs only [eq_false h1,XP,seval]
def Be:=b9 (fun p:(Int)=>[.int .i64 p]) (fun p=>[.int .i64 (Df p)]) (fun p=>True)
theorem jF (hir_wide:T 249=some Be) {t:Int} {K:PK}:evP ⟨A0,T,A3⟩ (.call 249 [.int .i64 t] K)=some (.val (openTs K.os.length [.int .i64 (Df t)]).1 ⟨K.os ++ (openTs K.os.length [.int .i64 (Df t)]).2,K.ext,K.tch⟩):=B8 hir_wide (by simp -implicitDefEqProofs only [VV,XP,seval]) (C3 (a:=fun p:(Int)=>[.int .i64 p]) (r:=fun p=>[.int .i64 (Df p)]) (fun x y e=>by simp only [VJ] at e; simp only [e]) (t) trivial) (by simp -implicitDefEqProofs only [VN,XP,seval])
theorem Zt  (hP:PEok ⟨A0,T,A3⟩):TC A0 249 Be:=C8 hP fun p h=>Pt
theorem Fm (k j:IntKind) (n:Int):M0 (.int k) (.int j n)=some (.int k (k.wrap n)):=r9 k n
theorem Jv  {t:Int} {v:Int}:AM.Comes ⟨A0,T,A3⟩ 182 [.int .i64 t,.int .i64 v] [.int .i64 (Jg t v)]:=by
 refine ⟨[.int .i64 (Jg t v)],⟨[],0,[]⟩,?_,B7 rfl List.nodup_nil rfl rfl rfl⟩
 rw [A8 (c:=mN) (nt:=19) (rs:=[.tmp 4]) rfl (by simp)]; unfold mN
 unfold K0
 unfold Jg
 by_cases h1:t=3
 . simp -implicitDefEqProofs only [Fm,eq_true h1,XP,seval]
 by_cases h2:t=1
 . simp -implicitDefEqProofs only [Fm,eq_false h1,eq_true h2,XP,seval]
 by_cases h3:t=2
 . simp -implicitDefEqProofs only [Fm,eq_false h1,eq_false h2,eq_true h3,XP,seval]
 simp -implicitDefEqProofs only [Fm,eq_false h1,eq_false h2,eq_false h3,XP,seval]
def M6:=b9 (fun p:(Int) × (Int)=>[.int .i64 p.1,.int .i64 p.2]) (fun p=>[.int .i64 (Jg p.1 p.2)]) (fun p=>True)
theorem Zu (hword_Wrap:T 182=some M6) {t:Int} {v:Int} {K:PK}:evP ⟨A0,T,A3⟩ (.call 182 [.int .i64 t,.int .i64 v] K)=some (.val (openTs K.os.length [.int .i64 (Jg t v)]).1 ⟨K.os ++ (openTs K.os.length [.int .i64 (Jg t v)]).2,K.ext,K.tch⟩):=B8 hword_Wrap (by simp -implicitDefEqProofs only [VV,XP,seval]) (C3 (a:=fun p:(Int) × (Int)=>[.int .i64 p.1,.int .i64 p.2]) (r:=fun p=>[.int .i64 (Jg p.1 p.2)]) (fun x y e=>by simp only [VJ] at e; simp only [e]) (t,v) trivial) (by simp -implicitDefEqProofs only [VN,XP,seval])
theorem Tj  (hP:PEok ⟨A0,T,A3⟩):TC A0 182 M6:=C8 hP fun p h=>Jv
theorem o7 (hir_number:T 111=some K6) {n:Int}:AM.Comes ⟨A0,T,A3⟩ 175 [.int .i64 n] [.bool (!E5 n)]:=by
 refine ⟨[.bool (!E5 n)],⟨[],0,[]⟩,?_,B7 rfl List.nodup_nil rfl rfl rfl⟩
 rw [A8 (c:=mJ) (nt:=6) (rs:=[.tmp 2]) rfl (by simp)]; unfold mJ
 unfold K0
 simp -implicitDefEqProofs only [Dt hir_number,XP,seval]
def C2:=b9 (fun p:(Int)=>[.int .i64 p]) (fun p=>[.bool (!E5 p)]) (fun p=>True)
theorem Y7 (hir_checker_code_1:T 175=some C2) {n:Int} {K:PK}:evP ⟨A0,T,A3⟩ (.call 175 [.int .i64 n] K)=some (.val (openTs K.os.length [.bool (!E5 n)]).1 ⟨K.os ++ (openTs K.os.length [.bool (!E5 n)]).2,K.ext,K.tch⟩):=B8 hir_checker_code_1 (by simp -implicitDefEqProofs only [VV,XP,seval]) (C3 (a:=fun p:(Int)=>[.int .i64 p]) (r:=fun p=>[.bool (!E5 p)]) (fun x y e=>by simp only [VJ] at e; simp only [e]) (n) trivial) (by simp -implicitDefEqProofs only [VN,XP,seval])
theorem Bf (hir_number:T 111=some K6) (hP:PEok ⟨A0,T,A3⟩):TC A0 175 C2:=C8 hP fun p h=>o7 hir_number
theorem Fo  {c:Cod}:AM.Comes ⟨A0,T,A3⟩ 178 [c.F] [.bool (decide (c.name=B0))]:=by
 refine ⟨[.bool (decide (c.name=B0))],⟨[],0,[]⟩,?_,B7 rfl List.nodup_nil rfl rfl rfl⟩
 rw [A8 (c:=mM) (nt:=6) (rs:=[.tmp 2]) rfl (by simp)]; unfold mM
 unfold K0
 unfold Cod.F B0
 simp -implicitDefEqProofs only [XP,seval]
def I4:=b9 (fun p:(Cod)=>[p.F]) (fun p=>[.bool (decide (p.name=B0))]) (fun p=>True)
theorem Fp (hir_mainOf_1:T 178=some I4) {c:Cod} {K:PK}:evP ⟨A0,T,A3⟩ (.call 178 [c.F] K)=some (.val (openTs K.os.length [.bool (decide (c.name=B0))]).1 ⟨K.os ++ (openTs K.os.length [.bool (decide (c.name=B0))]).2,K.ext,K.tch⟩):=B8 hir_mainOf_1 (by simp -implicitDefEqProofs only [VV,XP,seval]) (C3 (a:=fun p:(Cod)=>[p.F]) (r:=fun p=>[.bool (decide (p.name=B0))]) (fun x y e=>by simp only [VJ] at e; simp only [e]) (c) trivial) (by simp -implicitDefEqProofs only [VN,XP,seval])
theorem Nf  (hP:PEok ⟨A0,T,A3⟩):TC A0 178 I4:=C8 hP fun p h=>Fo
end Go.Proofs.AmEnv
set_option maxRecDepth 100000
namespace Go.Proofs.AmEnv
open Go Go.AM
variable {T:Nat->Option (List AV->Option (List AV))}
def writesD (x:Ins):Int:=if x.op=1 then x.dst else if x.op=2 then x.dst else if x.op=3 then x.dst else if x.op=4 then x.dst else if x.op=5 then x.dst else if x.op=7 then x.dst else if x.op=10 then x.dst else if x.op=9 then (if -1≤x.dst then x.dst else -1) else -1
def C5 (x:Ins):List Int:=if x.op=2 then [x.a] else if x.op=4 then [x.a] else if x.op=5 then [x.a] else if x.op=8 then [x.a] else if x.op=11 then [x.a] else if x.op=3 then [x.a,x.b] else if x.op=6 then [x.a,x.b] else if x.op=9 then x.args else []
theorem X3 (a b:Int) (K:PK):Gd (I6 A0 .max [3,3] [.int .i64 a,.int .i64 b] K)=.val (.int .i64 (if b≤a then a else b)) K:=by
 show Gd ((Hd [.int .i64 b] (.int .i64 a)).map (·,K))=_
 show Gd ((some (AV.int .i64 (bif intLe b a then a else b))).map (·,K))=_
 rw [M3]
 by_cases hb:b≤a
 . rw [if_pos hb,decide_eq_true hb]; rfl
 . rw [if_neg hb,decide_eq_false hb]; rfl
theorem Jw  {x:Ins}:AM.Comes ⟨A0,T,A3⟩ 108 [x.F] [.int .i64 (writesD x)]:=by
 refine ⟨[.int .i64 (writesD x)],⟨[],0,[]⟩,?_,B7 rfl List.nodup_nil rfl rfl rfl⟩
 rw [A8 (c:=mC) (nt:=20) (rs:=[.tmp 2]) rfl (by simp)]; unfold mC
 unfold K0
 unfold Ins.F writesD
 by_cases e1:x.op=1
 . simp -implicitDefEqProofs only [X3,eq_true e1,XP,seval]
 by_cases e2:x.op=2
 . simp -implicitDefEqProofs only [X3,eq_false e1,eq_true e2,XP,seval]
 by_cases e3:x.op=3
 . simp -implicitDefEqProofs only [X3,eq_false e1,eq_false e2,eq_true e3,XP,seval]
 by_cases e4:x.op=4
 . simp -implicitDefEqProofs only [X3,eq_false e1,eq_false e2,eq_false e3,eq_true e4,XP,seval]
 by_cases e5:x.op=5
 . simp -implicitDefEqProofs only [X3,eq_false e1,eq_false e2,eq_false e3,eq_false e4,eq_true e5,XP,seval]
 by_cases e7:x.op=7
 . simp -implicitDefEqProofs only [X3,eq_false e1,eq_false e2,eq_false e3,eq_false e4,eq_false e5,eq_true e7,XP,seval]
 by_cases e10:x.op=10
 . simp -implicitDefEqProofs only [X3,eq_false e1,eq_false e2,eq_false e3,eq_false e4,eq_false e5,eq_false e7,eq_true e10,XP,seval]
 by_cases e9:x.op=9
 . simp -implicitDefEqProofs only [X3,eq_false e1,eq_false e2,eq_false e3,eq_false e4,eq_false e5,eq_false e7,eq_false e10,eq_true e9,XP,seval]
 simp -implicitDefEqProofs only [X3,eq_false e1,eq_false e2,eq_false e3,eq_false e4,eq_false e5,eq_false e7,eq_false e10,eq_false e9,XP,seval]
def S7:=b9 (fun p:(Ins)=>[p.F]) (fun p=>[.int .i64 (writesD p)]) (fun p=>True)
theorem Zw (hir_Writes:T 108=some S7) {x:Ins} {K:PK}:evP ⟨A0,T,A3⟩ (.call 108 [x.F] K)=some (.val (openTs K.os.length [.int .i64 (writesD x)]).1 ⟨K.os ++ (openTs K.os.length [.int .i64 (writesD x)]).2,K.ext,K.tch⟩):=B8 hir_Writes (by simp -implicitDefEqProofs only [VV,XP,seval]) (C3 (a:=fun p:(Ins)=>[p.F]) (r:=fun p=>[.int .i64 (writesD p)]) (fun x y e=>by simp only [VJ] at e; simp only [e]) (x) trivial) (by simp -implicitDefEqProofs only [VN,XP,seval])
theorem Tk  (hP:PEok ⟨A0,T,A3⟩):TC A0 108 S7:=C8 hP fun p h=>Jw
theorem Ng (hCloneInts:T 70=some G9) {x:Ins} (hk:x.ok):AM.Comes ⟨A0,T,A3⟩ 170 [x.F] [ownd 0 1 (ints (C5 x))]:=by
 have one:∀ (a:Int) (L:List Int),L=[a]->evP ⟨A0,T,A3⟩ (.body 170 [x.F] K0)=some (.val [.msl 0 0 1 1] ⟨[.row 0 [.int .i64 a] 1],0,[]⟩)->AM.Comes ⟨A0,T,A3⟩ 170 [x.F] [ownd 0 1 (ints L)]:=fun a L e h=>by
  subst e; exact ⟨_,_,h,D9 (.inr ⟨rfl,rfl⟩)⟩
 have two:∀ (a b:Int) (L:List Int),L=[a,b]->evP ⟨A0,T,A3⟩ (.body 170 [x.F] K0)=some (.val [.msl 0 0 2 1] ⟨[.row 0 [.int .i64 a,.int .i64 b] 1],0,[]⟩)->AM.Comes ⟨A0,T,A3⟩ 170 [x.F] [ownd 0 1 (ints L)]:=fun a b L e h=>by
  subst e; exact ⟨_,_,h,D9 (.inr ⟨rfl,rfl⟩)⟩
 by_cases e2:x.op=2
 . refine one x.a _ (by simp [C5,e2]) ?_
   rw [A8 (c:=o5) (nt:=27) (rs:=[.tmp 2]) rfl (by simp)]; unfold o5; unfold K0 Ins.F
   simp -implicitDefEqProofs only [eq_true e2,XP,seval]
 by_cases e4:x.op=4
 . refine one x.a _ (by simp [C5,e4]) ?_
   rw [A8 (c:=o5) (nt:=27) (rs:=[.tmp 2]) rfl (by simp)]; unfold o5; unfold K0 Ins.F
   simp -implicitDefEqProofs only [eq_false e2,eq_true e4,XP,seval]
 by_cases e5:x.op=5
 . refine one x.a _ (by simp [C5,e5]) ?_
   rw [A8 (c:=o5) (nt:=27) (rs:=[.tmp 2]) rfl (by simp)]; unfold o5; unfold K0 Ins.F
   simp -implicitDefEqProofs only [eq_false e2,eq_false e4,eq_true e5,XP,seval]
 by_cases e8:x.op=8
 . refine one x.a _ (by simp [C5,e8]) ?_
   rw [A8 (c:=o5) (nt:=27) (rs:=[.tmp 2]) rfl (by simp)]; unfold o5; unfold K0 Ins.F
   simp -implicitDefEqProofs only [eq_false e2,eq_false e4,eq_false e5,eq_true e8,XP,seval]
 by_cases e11:x.op=11
 . refine one x.a _ (by simp [C5,e11]) ?_
   rw [A8 (c:=o5) (nt:=27) (rs:=[.tmp 2]) rfl (by simp)]; unfold o5; unfold K0 Ins.F
   simp -implicitDefEqProofs only [eq_false e2,eq_false e4,eq_false e5,eq_false e8,eq_true e11,XP,seval]
 by_cases e3:x.op=3
 . refine two x.a x.b _ (by simp [C5,e3]) ?_
   rw [A8 (c:=o5) (nt:=27) (rs:=[.tmp 2]) rfl (by simp)]; unfold o5; unfold K0 Ins.F
   simp -implicitDefEqProofs only [eq_false e2,eq_false e4,eq_false e5,eq_false e8,eq_false e11,eq_true e3,XP,seval]
 by_cases e6:x.op=6
 . refine two x.a x.b _ (by simp [C5,e6]) ?_
   rw [A8 (c:=o5) (nt:=27) (rs:=[.tmp 2]) rfl (by simp)]; unfold o5; unfold K0 Ins.F
   simp -implicitDefEqProofs only [eq_false e2,eq_false e4,eq_false e5,eq_false e8,eq_false e11,eq_false e3,eq_true e6,XP,seval]
 by_cases e9:x.op=9
 . rw [show C5 x=x.args by simp [C5,e9]]
   refine ⟨[.msl 0 0 x.args.length 1],⟨[.row 0 (ints x.args) 1],0,[]⟩,?_,D9 (.inr ⟨by rw [List.length_map],rfl⟩)⟩
   rw [A8 (c:=o5) (nt:=27) (rs:=[.tmp 2]) rfl (by simp)]; unfold o5; unfold K0 Ins.F
   have t:∀ {K:PK},evP ⟨A0,T,A3⟩ (.call 70 [fslN (ints x.args)] K)=some (.val (openTs K.os.length [ownd 0 1 (ints x.args)]).1 ⟨K.os ++ (openTs K.os.length [ownd 0 1 (ints x.args)]).2,K.ext,K.tch⟩):=B8 hCloneInts (by simp -implicitDefEqProofs only [frzL_ints,XP,seval]) (Fl hk) rfl
   simp -implicitDefEqProofs only [eq_false e2,eq_false e4,eq_false e5,eq_false e8,eq_false e11,eq_false e3,eq_false e6,eq_true e9,t,List.length_map,XP,seval]
 . rw [show C5 x=[] by simp [C5,e2,e4,e5,e8,e11,e3,e6,e9]]
   refine ⟨[.nilsl],⟨[],0,[]⟩,?_,D9 (.inl ⟨rfl,rfl,rfl⟩)⟩
   rw [A8 (c:=o5) (nt:=27) (rs:=[.tmp 2]) rfl (by simp)]; unfold o5; unfold K0 Ins.F
   simp -implicitDefEqProofs only [eq_false e2,eq_false e4,eq_false e5,eq_false e8,eq_false e11,eq_false e3,eq_false e6,eq_false e9,XP,seval]
def o8:=b9 (fun p:(Ins)=>[p.F]) (fun p=>[ownd 0 1 (ints (C5 p))]) (fun p=>p.ok)
theorem eX (hir_Reads:T 170=some o8) {x:Ins} {K:PK} (hk:x.ok):evP ⟨A0,T,A3⟩ (.call 170 [x.F] K)=some (.val (openTs K.os.length [ownd 0 1 (ints (C5 x))]).1 ⟨K.os ++ (openTs K.os.length [ownd 0 1 (ints (C5 x))]).2,K.ext,K.tch⟩):=B8 hir_Reads (by simp -implicitDefEqProofs only [VV,XP,seval]) (C3 (a:=fun p:(Ins)=>[p.F]) (r:=fun p=>[ownd 0 1 (ints (C5 p))]) (fun x y e=>by simp only [VJ] at e; simp only [e]) (x) hk) (by simp -implicitDefEqProofs only [VN,XP,seval])
theorem Wr (hCloneInts:T 70=some G9) (hP:PEok ⟨A0,T,A3⟩):TC A0 170 o8:=C8 hP fun p h=>Ng hCloneInts h
end Go.Proofs.AmEnv
set_option maxRecDepth 100000
namespace Go.Proofs.AmEnv
open Go Go.AM
variable {T:Nat->Option (List AV->Option (List AV))}
def idxOf {X:Type} (p:X->Bool) (l:List X):Int:=match l.findIdx? p with | some i=>(i:Int) | none=>-1
theorem idx_loop {P:PE} {c:PC} {X:Type} {p:X->Bool} {l:List X} {S:Nat->PF} {K:PK}
 (h1:∀ i (h:i < l.length),p l[i]=false->evP P (.code c (S i) K)=some (.ok .normal (S (i + 1)) K))
 (h2:∀ i (h:i < l.length),p l[i]=true->∃ fr',evP P (.code c (S i) K)=some (.ok .ret fr' K)∧lookP fr' 4=.int .i64 (i:Int))
 (hx:∃ fr',evP P (.code c (S l.length) K)=some (.ok (.exit 0) fr' K)) :
 (∃ i:Nat,idxOf p l=i∧∃ fr',evP P (.code (.loop c) (S 0) K)=some (.ok .ret fr' K)∧lookP fr' 4=.int .i64 (i:Int))∨(idxOf p l=-1∧∃ fr',evP P (.code (.loop c) (S 0) K)=some (.ok (.exit 0) fr' K)):=by
 have key:∀ (n i:Nat),l.length=i + n->(∀ j (hj:j < l.length),j < i->p l[j]=false)->(∃ k:Nat,idxOf p l=k∧∃ fr',evP P (.code (.loop c) (S i) K)=some (.ok .ret fr' K)∧lookP fr' 4=.int .i64 (k:Int))∨(idxOf p l=-1∧∃ fr',evP P (.code (.loop c) (S i) K)=some (.ok (.exit 0) fr' K)):=fun n=>by
  induction n with
  | zero =>
   intro i e hp
   obtain rfl:i=l.length:=by omega
   obtain ⟨fr',h⟩:=hx
   refine .inr ⟨?_,fr',D3 h⟩
   unfold idxOf
   have:l.findIdx? p=none:=by
    rw [List.findIdx?_eq_none_iff]
    intro x hm
    obtain ⟨j,hj,rfl⟩:=List.getElem_of_mem hm
    exact hp j hj hj
   rw [this]
  | succ n ih =>
   intro i e hp
   have hl:i < l.length:=by omega
   cases hq:p l[i] with
   | false =>
    rw [E6 (h1 i hl hq)]
    refine ih (i + 1) (by omega) fun j hj hji=>?_
    by_cases he:j=i
    . subst he; exact hq
    . exact hp j hj (by omega)
   | true =>
    obtain ⟨fr',q1,q2⟩:=h2 i hl hq
    refine .inl ⟨i,?_,fr',Z8 q1,q2⟩
    unfold idxOf
    have:l.findIdx? p=some i:=by
     rw [List.findIdx?_eq_some_iff_getElem]
     exact ⟨hl,hq,fun j hj=>by simpa using hp j (by omega) hj⟩
    rw [this]
 exact key l.length 0 (by omega) fun j hj h=>absurd h (by omega)
theorem cH {X:Type} {p:X->Bool} {l:List X}:decide (0≤idxOf p l)=l.any p:=by
 unfold idxOf
 cases h:l.findIdx? p with
 | none =>
  rw [List.findIdx?_eq_none_iff] at h
  have:l.any p=false:=by rw [List.any_eq_false]; intro x hx; simp [h x hx]
  rw [this]; rfl
 | some i =>
  rw [List.findIdx?_eq_some_iff_getElem] at h
  obtain ⟨h1,h2,_⟩:=h
  have:l.any p=true:=List.any_eq_true.2 ⟨_,List.getElem_mem h1,h2⟩
  rw [this]; simp
section
variable {l:List Int} {i:Nat} {v:Int}
theorem yA (h:i < l.length) (hs:l.length≤bigN) (hp:decide (v=l[i])=false):evP ⟨A0,T,A3⟩ (.code m4 [(0,fslN (ints l)),(1,.int .i64 v),(7,.int .i64 (l.length:Int)),(8,.int .i64 (i:Int))] ⟨[],0,[]⟩)=some (.ok .normal [(0,fslN (ints l)),(1,.int .i64 v),(7,.int .i64 (l.length:Int)),(8,.int .i64 ((i + 1:Nat):Int))] ⟨[],0,[]⟩):=by
 unfold m4
 have hlt:decide ((i:Int) < (l.length:Int))=true:=by simp [h]
 have hw:=B3 (i:=i) (by simp only [bigN] at hs; omega)
 simp -implicitDefEqProofs only [hlt,E4 h,hw,hp,XP,seval]
theorem yB (h:i < l.length) (hp:decide (v=l[i])=true):∃ fr',evP ⟨A0,T,A3⟩ (.code m4 [(0,fslN (ints l)),(1,.int .i64 v),(7,.int .i64 (l.length:Int)),(8,.int .i64 (i:Int))] ⟨[],0,[]⟩)=some (.ok .ret fr' ⟨[],0,[]⟩)∧lookP fr' 4=.int .i64 (i:Int):=by
 unfold m4
 have hlt:decide ((i:Int) < (l.length:Int))=true:=by simp [h]
 simp -implicitDefEqProofs only [hlt,E4 h,hp,XP,seval]
 exact ⟨_,rfl,rfl⟩
theorem yC:∃ fr',evP ⟨A0,T,A3⟩ (.code m4 [(0,fslN (ints l)),(1,.int .i64 v),(7,.int .i64 (l.length:Int)),(8,.int .i64 (l.length:Int))] ⟨[],0,[]⟩)=some (.ok (.exit 0) fr' ⟨[],0,[]⟩):=by
 unfold m4
 have hlt:decide ((l.length:Int) < (l.length:Int))=false:=by simp
 simp -implicitDefEqProofs only [hlt,XP,seval]
 exact ⟨_,rfl⟩
theorem Pu  {l:List Int} {v:Int} (hk:l.length≤bigN):AM.Comes ⟨A0,T,A3⟩ 264 [fslN (ints l),.int .i64 v] [.int .i64 (idxOf (fun n=>decide (v=n)) l)]:=by
 refine ⟨[.int .i64 (idxOf (fun n=>decide (v=n)) l)],⟨[],0,[]⟩,?_,B7 rfl List.nodup_nil rfl rfl rfl⟩
 rw [A8 (c:=nE) (nt:=19) (rs:=[.tmp 4]) rfl (by simp)]; unfold nE
 unfold K0
 rcases idx_loop (P:=⟨A0,T,A3⟩) (c:=m4) (p:=fun n=>decide (v=n)) (l:=l) (S:=fun i=>[(0,fslN (ints l)),(1,.int .i64 v),(7,.int .i64 (l.length:Int)),(8,.int .i64 (i:Int))]) (K:=⟨[],0,[]⟩) (fun i h hp=>yA h hk hp) (fun i h hp=>yB h hp) yC with ⟨i,e,fr',h1,h2⟩ | ⟨e,fr',h1⟩
 . have h1:evP ⟨A0,T,A3⟩ (.code (.loop m4) [(0,fslN (ints l)),(1,.int .i64 v),(7,.int .i64 (l.length:Int)),(8,.int .i64 0)] ⟨[],0,[]⟩)=_:=h1
   simp -implicitDefEqProofs only [h1,h2,e,List.length_map,XP,seval]
 . have h1:evP ⟨A0,T,A3⟩ (.code (.loop m4) [(0,fslN (ints l)),(1,.int .i64 v),(7,.int .i64 (l.length:Int)),(8,.int .i64 0)] ⟨[],0,[]⟩)=_:=h1
   simp -implicitDefEqProofs only [h1,e,List.length_map,XP,seval]
def Bg:=b9 (fun p:(List Int) × (Int)=>[fslN (ints p.1),.int .i64 p.2]) (fun p=>[.int .i64 (idxOf (fun n=>decide (p.2=n)) p.1)]) (fun p=>p.1.length≤bigN)
theorem jG (hIdxInts:T 264=some Bg) {l:List Int} {v:Int} {K:PK} (hk:l.length≤bigN):evP ⟨A0,T,A3⟩ (.call 264 [fslN (ints l),.int .i64 v] K)=some (.val (openTs K.os.length [.int .i64 (idxOf (fun n=>decide (v=n)) l)]).1 ⟨K.os ++ (openTs K.os.length [.int .i64 (idxOf (fun n=>decide (v=n)) l)]).2,K.ext,K.tch⟩):=B8 hIdxInts (by simp -implicitDefEqProofs only [VV,XP,seval]) (C3 (a:=fun p:(List Int) × (Int)=>[fslN (ints p.1),.int .i64 p.2]) (r:=fun p=>[.int .i64 (idxOf (fun n=>decide (p.2=n)) p.1)]) (fun x y e=>by simp only [VJ] at e; simp only [e]) (l,v) hk) (by simp -implicitDefEqProofs only [VN,XP,seval])
theorem Zx  (hP:PEok ⟨A0,T,A3⟩):TC A0 264 Bg:=C8 hP fun p h=>Pu  h
theorem Nh (hIdxInts:T 264=some Bg) {l:List Int} {v:Int} (hk:l.length≤bigN):AM.Comes ⟨A0,T,A3⟩ 246 [fslN (ints l),.int .i64 v] [.bool (l.any fun n=>decide (v=n))]:=by
 refine ⟨[.bool (l.any fun n=>decide (v=n))],⟨[],0,[]⟩,?_,B7 rfl List.nodup_nil rfl rfl rfl⟩
 rw [A8 (c:=mY) (nt:=9) (rs:=[.tmp 4]) rfl (by simp)]; unfold mY
 unfold K0
 rw [← cH]
 have t:=fun K=>jG (K:=K) (v:=v) hIdxInts hk
 simp -implicitDefEqProofs only [t,XP,seval]
def X8:=b9 (fun p:(List Int) × (Int)=>[fslN (ints p.1),.int .i64 p.2]) (fun p=>[.bool (p.1.any fun n=>decide (p.2=n))]) (fun p=>p.1.length≤bigN)
theorem Ws (hIdxInts:T 264=some Bg) (hP:PEok ⟨A0,T,A3⟩):TC A0 246 X8:=C8 hP fun p h=>Nh hIdxInts h
end
section
variable {l:List Int} {i:Nat}
theorem yD (hN:T 175=some C2) (h:i < l.length) (hs:l.length≤bigN) (hp:(!E5 l[i])=false):evP ⟨A0,T,A3⟩ (.code l7 [(0,fslN (ints l)),(1,.fn (.func 175) [] []),(7,.int .i64 (l.length:Int)),(8,.int .i64 (i:Int))] ⟨[],0,[]⟩)=some (.ok .normal [(0,fslN (ints l)),(1,.fn (.func 175) [] []),(7,.int .i64 (l.length:Int)),(8,.int .i64 ((i + 1:Nat):Int))] ⟨[],0,[]⟩):=by
 unfold l7
 have hlt:decide ((i:Int) < (l.length:Int))=true:=by simp [h]
 have hw:=B3 (i:=i) (by simp only [bigN] at hs; omega)
 simp -implicitDefEqProofs only [hlt,E4 h,hw,Y7 hN,hp,XP,seval]
theorem yE (hN:T 175=some C2) (h:i < l.length) (hp:(!E5 l[i])=true):∃ fr',evP ⟨A0,T,A3⟩ (.code l7 [(0,fslN (ints l)),(1,.fn (.func 175) [] []),(7,.int .i64 (l.length:Int)),(8,.int .i64 (i:Int))] ⟨[],0,[]⟩)=some (.ok .ret fr' ⟨[],0,[]⟩)∧lookP fr' 4=.int .i64 (i:Int):=by
 unfold l7
 have hlt:decide ((i:Int) < (l.length:Int))=true:=by simp [h]
 simp -implicitDefEqProofs only [hlt,E4 h,Y7 hN,hp,XP,seval]
 exact ⟨_,rfl,rfl⟩
theorem yF:∃ fr',evP ⟨A0,T,A3⟩ (.code l7 [(0,fslN (ints l)),(1,.fn (.func 175) [] []),(7,.int .i64 (l.length:Int)),(8,.int .i64 (l.length:Int))] ⟨[],0,[]⟩)=some (.ok (.exit 0) fr' ⟨[],0,[]⟩):=by
 unfold l7
 have hlt:decide ((l.length:Int) < (l.length:Int))=false:=by simp
 simp -implicitDefEqProofs only [hlt,XP,seval]
 exact ⟨_,rfl⟩
theorem Pv (hN:T 175=some C2) (hI:T 221=none) (hs:l.length≤bigN) (K:PK):evP ⟨A0,T,A3⟩ (.call 221 [fslN (ints l),.fn (.func 175) [] []] K)=some (.val [.int .i64 (idxOf (fun n=>!E5 n) l)] K):=by
 refine Ur (tch:=[]) hI rfl rfl rfl ?_ rfl
 rw [A8 (c:=mR) (nt:=19) (rs:=[.tmp 4]) rfl (by simp)]; unfold mR
 rcases idx_loop (P:=⟨A0,T,A3⟩) (c:=l7) (p:=fun n=>!E5 n) (l:=l) (S:=fun i=>[(0,fslN (ints l)),(1,.fn (.func 175) [] []),(7,.int .i64 (l.length:Int)),(8,.int .i64 (i:Int))]) (K:=⟨[],0,[]⟩) (fun i h hp=>yD hN h hs hp) (fun i h hp=>yE hN h hp) yF with ⟨i,e,fr',h1,h2⟩ | ⟨e,fr',h1⟩
 . have h1:evP ⟨A0,T,A3⟩ (.code (.loop l7) [(0,fslN (ints l)),(1,.fn (.func 175) [] []),(7,.int .i64 (l.length:Int)),(8,.int .i64 0)] ⟨[],0,[]⟩)=_:=h1
   simp -implicitDefEqProofs only [h1,h2,e,List.length_map,XP,seval]
 . have h1:evP ⟨A0,T,A3⟩ (.code (.loop l7) [(0,fslN (ints l)),(1,.fn (.func 175) [] []),(7,.int .i64 (l.length:Int)),(8,.int .i64 0)] ⟨[],0,[]⟩)=_:=h1
   simp -implicitDefEqProofs only [h1,e,List.length_map,XP,seval]
theorem Ni (hN:T 175=some C2) (hI:T 221=none) (hC:T 174=none) (hs:l.length≤bigN) (K:PK):evP ⟨A0,T,A3⟩ (.call 174 [fslN (ints l),.fn (.func 175) [] []] K)=some (.val [.bool (l.any fun n=>!E5 n)] K):=by
 refine Ur (tch:=[]) hC rfl rfl rfl ?_ rfl
 rw [← cH]
 have t:=fun K=>Pv hN hI hs K
 rw [A8 (c:=mI) (nt:=9) (rs:=[.tmp 4]) rfl (by simp)]; unfold mI
 simp -implicitDefEqProofs only [t,XP,seval]
end
section
variable {l:List Cod} {i:Nat}
theorem yG (hN:T 178=some I4) (h:i < l.length) (hs:l.length≤bigN) (hp:decide (l[i].name=B0)=false):evP ⟨A0,T,A3⟩ (.code l5 [(0,fslN (l.map Cod.F)),(1,.fn (.func 178) [] []),(7,.int .i64 (l.length:Int)),(8,.int .i64 (i:Int))] ⟨[],0,[]⟩)=some (.ok .normal [(0,fslN (l.map Cod.F)),(1,.fn (.func 178) [] []),(7,.int .i64 (l.length:Int)),(8,.int .i64 ((i + 1:Nat):Int))] ⟨[],0,[]⟩):=by
 unfold l5
 have hlt:decide ((i:Int) < (l.length:Int))=true:=by simp [h]
 have hw:=B3 (i:=i) (by simp only [bigN] at hs; omega)
 have hi:=B2 (F:=Cod.F) h
 have t:=fun K=>Fp (K:=K) (c:=l[i]) hN
 simp only [Cod.F] at hi t
 simp -implicitDefEqProofs only [hlt,hi,hw,t,hp,XP,seval]
theorem yH (hN:T 178=some I4) (h:i < l.length) (hp:decide (l[i].name=B0)=true):∃ fr',evP ⟨A0,T,A3⟩ (.code l5 [(0,fslN (l.map Cod.F)),(1,.fn (.func 178) [] []),(7,.int .i64 (l.length:Int)),(8,.int .i64 (i:Int))] ⟨[],0,[]⟩)=some (.ok .ret fr' ⟨[],0,[]⟩)∧lookP fr' 4=.int .i64 (i:Int):=by
 unfold l5
 have hlt:decide ((i:Int) < (l.length:Int))=true:=by simp [h]
 have hi:=B2 (F:=Cod.F) h
 have t:=fun K=>Fp (K:=K) (c:=l[i]) hN
 simp only [Cod.F] at hi t
 simp -implicitDefEqProofs only [hlt,hi,t,hp,XP,seval]
 exact ⟨_,rfl,rfl⟩
theorem yI:∃ fr',evP ⟨A0,T,A3⟩ (.code l5 [(0,fslN (l.map Cod.F)),(1,.fn (.func 178) [] []),(7,.int .i64 (l.length:Int)),(8,.int .i64 (l.length:Int))] ⟨[],0,[]⟩)=some (.ok (.exit 0) fr' ⟨[],0,[]⟩):=by
 unfold l5
 have hlt:decide ((l.length:Int) < (l.length:Int))=false:=by simp
 simp -implicitDefEqProofs only [hlt,XP,seval]
 exact ⟨_,rfl⟩
theorem Pw (hN:T 178=some I4) (hI:T 162=none) (hs:l.length≤bigN) (K:PK):evP ⟨A0,T,A3⟩ (.call 162 [fslN (l.map Cod.F),.fn (.func 178) [] []] K)=some (.val [.int .i64 (idxOf (fun c:Cod=>decide (c.name=B0)) l)] K):=by
 refine Ur (tch:=[]) hI rfl rfl rfl ?_ rfl
 rw [A8 (c:=mH) (nt:=19) (rs:=[.tmp 4]) rfl (by simp)]; unfold mH
 rcases idx_loop (P:=⟨A0,T,A3⟩) (c:=l5) (p:=fun c:Cod=>decide (c.name=B0)) (l:=l) (S:=fun i=>[(0,fslN (l.map Cod.F)),(1,.fn (.func 178) [] []),(7,.int .i64 (l.length:Int)),(8,.int .i64 (i:Int))]) (K:=⟨[],0,[]⟩) (fun i h hp=>yG hN h hs hp) (fun i h hp=>yH hN h hp) yI with ⟨i,e,fr',h1,h2⟩ | ⟨e,fr',h1⟩
 . have h1:evP ⟨A0,T,A3⟩ (.code (.loop l5) [(0,fslN (l.map Cod.F)),(1,.fn (.func 178) [] []),(7,.int .i64 (l.length:Int)),(8,.int .i64 0)] ⟨[],0,[]⟩)=_:=h1
   simp -implicitDefEqProofs only [h1,h2,e,List.length_map,XP,seval]
 . have h1:evP ⟨A0,T,A3⟩ (.code (.loop l5) [(0,fslN (l.map Cod.F)),(1,.fn (.func 178) [] []),(7,.int .i64 (l.length:Int)),(8,.int .i64 0)] ⟨[],0,[]⟩)=_:=h1
   simp -implicitDefEqProofs only [h1,e,List.length_map,XP,seval]
theorem Jx (hir_mainOf_1:T 178=some I4) (nIdxCodes:T 162=none) {m:Modl} (hk:m.fs.length≤bigN):AM.Comes ⟨A0,T,A3⟩ 113 [m.F] [.int .i64 (idxOf (fun c:Cod=>decide (c.name=B0)) m.fs)]:=by
 refine ⟨[.int .i64 (idxOf (fun c:Cod=>decide (c.name=B0)) m.fs)],⟨[],0,[]⟩,?_,B7 rfl List.nodup_nil rfl rfl rfl⟩
 rw [A8 (c:=mG) (nt:=6) (rs:=[.tmp 2]) rfl (by simp)]; unfold mG
 unfold K0
 unfold Modl.F
 have t:=fun K=>Pw hir_mainOf_1 nIdxCodes hk K
 simp -implicitDefEqProofs only [t,XP,seval]
def Y8:=b9 (fun p:(Modl)=>[p.F]) (fun p=>[.int .i64 (idxOf (fun c:Cod=>decide (c.name=B0)) p.fs)]) (fun p=>p.fs.length≤bigN)
theorem Zy (hir_mainOf:T 113=some Y8) {m:Modl} {K:PK} (hk:m.fs.length≤bigN):evP ⟨A0,T,A3⟩ (.call 113 [m.F] K)=some (.val (openTs K.os.length [.int .i64 (idxOf (fun c:Cod=>decide (c.name=B0)) m.fs)]).1 ⟨K.os ++ (openTs K.os.length [.int .i64 (idxOf (fun c:Cod=>decide (c.name=B0)) m.fs)]).2,K.ext,K.tch⟩):=B8 hir_mainOf (by simp -implicitDefEqProofs only [VV,XP,seval]) (C3 (a:=fun p:(Modl)=>[p.F]) (r:=fun p=>[.int .i64 (idxOf (fun c:Cod=>decide (c.name=B0)) p.fs)]) (fun x y e=>by simp only [VJ] at e; simp only [e]) (m) hk) (by simp -implicitDefEqProofs only [VN,XP,seval])
theorem Tl (hir_mainOf_1:T 178=some I4) (nIdxCodes:T 162=none) (hP:PEok ⟨A0,T,A3⟩):TC A0 113 Y8:=C8 hP fun p h=>Jx hir_mainOf_1 nIdxCodes h
end
end Go.Proofs.AmEnv
set_option maxRecDepth 100000
namespace Go.Proofs.AmEnv
open Go Go.AM
variable {T:Nat->Option (List AV->Option (List AV))}
def Hq (p s:List UInt8):Bool:=Nat.ble (V3 s) 4000000000 || oneB p
def N4 (args:List AV):Option (List AV):=match args with | [.str s,.str p]=>if Hq p s=true then some [.bool (contS p s)] else none | _=>none
theorem Tm {s p:List UInt8} (h:Hq p s=true):N4 [.str s,.str p]=some [.bool (contS p s)]:=if_pos h
theorem Hr (hT:T 245=some N4) {s p:List UInt8} {K:PK} (h:Hq p s=true):evP ⟨A0,T,A3⟩ (.call 245 [.str s,.str p] K)=some (.val [.bool (contS p s)] ⟨K.os ++ [],K.ext,K.tch⟩):=B8 hT rfl (Tm h) rfl
theorem Ks {t:Nat} {a b:List UInt8} {K:PK} (h:a.length + b.length≤4611686018427387904):Q3 A0 .add t (.str a) (.str b) K=.val (.str (a ++ b)) K:=by
 rw [bp _ _ rfl rfl]
 show Bs (bif Nat.ble (Nat.add (V3 a) (V3 b)) 4611686018427387904 then some (AV.str (a ++ b)) else none) K=_
 rw [W8,W8,show Nat.ble (Nat.add a.length b.length) 4611686018427387904=true from Nat.ble_eq_true_of_le h]; rfl
def Nj:List UInt8:=[32,43,32,45,32,42,32,47,32,37,32,38,32,124,32,94,32,60,60,32,62,62,32,61,61,32,33,61,32,60,32,60,61,32,62,32,62,61,32]
def Nk:List UInt8:=[32,61,61,32,33,61,32,60,32,60,61,32,62,32,62,61,32]
def Fq (x:Ins):Bool:=if x.op=3 then !decide (x.s=[]) && (!contS [32] x.s && contS (32 :: (x.s ++ [32])) Nj) else if x.op=4 then decide (1≤x.ty) && decide (x.ty≤3) else decide (1≤x.op) && decide (x.op≤11)
theorem Px (hstrings_Contains:T 245=some N4) {x:Ins} (hk:x.s.length≤bigN):AM.Comes ⟨A0,T,A3⟩ 222 [x.F] [.bool (Fq x)]:=by
 refine ⟨[.bool (Fq x)],⟨[],0,[]⟩,?_,B7 rfl List.nodup_nil rfl rfl rfl⟩
 rw [A8 (c:=mS) (nt:=41) (rs:=[.tmp 2]) rfl (by simp)]; unfold mS
 unfold K0
 have d1:∀ K:PK,Q3 A0 .add 9 (.str [32]) (.str x.s) K=.val (.str (32 :: x.s)) K:=fun K=>Ks (by simp only [bigN] at hk; simp; omega)
 have d2:∀ K:PK,Q3 A0 .add 9 (.str (32 :: x.s)) (.str [32]) K=.val (.str (32 :: (x.s ++ [32]))) K:=fun K=>Ks (by simp only [bigN] at hk; simp; omega)
 have c1:=fun K=>Hr (K:=K) (s:=x.s) (p:=[32]) hstrings_Contains (by unfold Hq; rw [show oneB [32]=true from rfl,Bool.or_true])
 have c2:=fun K=>Hr (K:=K) (s:=Nj) (p:=32 :: (x.s ++ [32])) hstrings_Contains (by unfold Hq; rfl)
 unfold Ins.F Fq
 unfold Nj at c2 ⊢
 by_cases e3:x.op=3
 . by_cases q1:x.s=[]
   . simp -implicitDefEqProofs only [eq_true e3,eq_true q1,Bool.false_and,XP,seval]
   cases q2:contS [32] x.s with
   | true=>simp -implicitDefEqProofs only [eq_true e3,eq_false q1,c1,q2,Bool.false_and,Bool.and_false,XP,seval]
   | false=>simp -implicitDefEqProofs only [eq_true e3,eq_false q1,c1,q2,d1,d2,c2,XP,seval]
 by_cases e4:x.op=4
 . by_cases q1:1≤x.ty
   . simp -implicitDefEqProofs only [eq_false e3,eq_true e4,eq_true q1,XP,seval]
   . simp -implicitDefEqProofs only [eq_false e3,eq_true e4,eq_false q1,Bool.false_and,XP,seval]
 . by_cases q1:1≤x.op
   . simp -implicitDefEqProofs only [eq_false e3,eq_false e4,eq_true q1,XP,seval]
   . simp -implicitDefEqProofs only [eq_false e3,eq_false e4,eq_false q1,Bool.false_and,XP,seval]
def Bh:=b9 (fun p:(Ins)=>[p.F]) (fun p=>[.bool (Fq p)]) (fun p=>p.s.length≤bigN)
theorem jH (hir_form:T 222=some Bh) {x:Ins} {K:PK} (hk:x.s.length≤bigN):evP ⟨A0,T,A3⟩ (.call 222 [x.F] K)=some (.val (openTs K.os.length [.bool (Fq x)]).1 ⟨K.os ++ (openTs K.os.length [.bool (Fq x)]).2,K.ext,K.tch⟩):=B8 hir_form (by simp -implicitDefEqProofs only [VV,XP,seval]) (C3 (a:=fun p:(Ins)=>[p.F]) (r:=fun p=>[.bool (Fq p)]) (fun x y e=>by simp only [VJ] at e; simp only [e]) (x) hk) (by simp -implicitDefEqProofs only [VN,XP,seval])
theorem Zz (hstrings_Contains:T 245=some N4) (hP:PEok ⟨A0,T,A3⟩):TC A0 222 Bh:=C8 hP fun p h=>Px hstrings_Contains h
def O7 (m:Modl) (at_:Int) (arr:Bool):Bool:=thereD at_ m.gs.length && (match m.gs[at_.toNat]? with | some g=>decide (0 < g.size) == arr | none=>false)
theorem cI (t:Nat) (h:J2 A0 t=J2 A0 4) (a b:Bool) (K:PK):Q3 A0 .eql t (.bool a) (.bool b) K=.val (.bool (a == b)) K:=by
 rw [bp _ _ rfl rfl,h]; cases a <;> cases b <;> rfl
theorem F2 {a n:Int} (h:thereD a n=true):∃ k:Nat,a=k∧(k:Int) < n:=by
 unfold thereD at h
 rw [Bool.and_eq_true] at h
 have h0:=of_decide_eq_true h.1
 have h1:=of_decide_eq_true h.2
 obtain ⟨k,rfl⟩:=Int.eq_ofNat_of_zero_le h0
 exact ⟨k,rfl,h1⟩
theorem o9 (hir_there:T 225=some G3) {m:Modl} {c:Cod} {a:Int} {arr:Bool}:AM.Comes ⟨A0,T,A3⟩ 247 [chkF m c,.int .i64 a,.bool arr] [.bool (O7 m a arr)]:=by
 refine ⟨[.bool (O7 m a arr)],⟨[],0,[]⟩,?_,B7 rfl List.nodup_nil rfl rfl rfl⟩
 rw [A8 (c:=mZ) (nt:=25) (rs:=[.tmp 6]) rfl (by simp)]; unfold mZ
 unfold K0
 have t:=fun K=>X7 (K:=K) (a:=a) (n:=m.gs.length) hir_there
 have eb:=cI 4 rfl
 unfold chkF O7
 cases ht:thereD a m.gs.length with
 | false=>rw [ht] at t; simp -implicitDefEqProofs only [t,List.length_map,Bool.false_and,XP,seval]
 | true =>
  obtain ⟨k,rfl,hk⟩:=F2 ht
  have hk:k < m.gs.length:=by omega
  rw [ht] at t
  have hi:=B2 (F:=Glo.F) hk
  simp only [Glo.F] at hi
  rw [show ((k:Int)).toNat=k from rfl,List.getElem?_eq_getElem hk]
  simp -implicitDefEqProofs only [t,List.length_map,hi,eb,XP,seval]
def D1:=b9 (fun p:(Modl) × (Cod) × (Int) × (Bool)=>[chkF p.1 p.2.1,.int .i64 p.2.2.1,.bool p.2.2.2]) (fun p=>[.bool (O7 p.1 p.2.2.1 p.2.2.2)]) (fun p=>True)
theorem Du (hir_checker_global:T 247=some D1) {m:Modl} {c:Cod} {a:Int} {arr:Bool} {K:PK}:evP ⟨A0,T,A3⟩ (.call 247 [chkF m c,.int .i64 a,.bool arr] K)=some (.val (openTs K.os.length [.bool (O7 m a arr)]).1 ⟨K.os ++ (openTs K.os.length [.bool (O7 m a arr)]).2,K.ext,K.tch⟩):=B8 hir_checker_global (by simp -implicitDefEqProofs only [VV,XP,seval]) (C3 (a:=fun p:(Modl) × (Cod) × (Int) × (Bool)=>[chkF p.1 p.2.1,.int .i64 p.2.2.1,.bool p.2.2.2]) (r:=fun p=>[.bool (O7 p.1 p.2.2.1 p.2.2.2)]) (fun x y e=>by simp only [VJ] at e; simp only [e]) (m,c,a,arr) trivial) (by simp -implicitDefEqProofs only [VN,XP,seval])
theorem Bi (hir_there:T 225=some G3) (hP:PEok ⟨A0,T,A3⟩):TC A0 247 D1:=C8 hP fun p h=>o9 hir_there
def n7 (l:List Int) (r:Int):Int:=l.getD r.toNat 0
theorem Fr {l:List Int} {k:Nat} (h:k < l.length):(ints l)[k]?=some (.int .i64 (n7 l k)):=by
 rw [E4 h]; unfold n7; simp [h]
theorem Kt {m:Modl} {c:Cod} {r t:Int} {id:Nat} {K:PK} (hN:T 248=none) (hr:thereD r c.regs.length=true) (hK:K.os[id]?=some (.row 1 [chkF m c] 7)) :
 evP ⟨A0,T,A3⟩ (.call 248 [.int .i64 r,.int .i64 t,.ptr id 0 0] K)=some (.val [.bool (decide (n7 c.regs r=t))] K):=by
 obtain ⟨k,rfl,hk⟩:=F2 hr
 have hi:=Fr (show k < c.regs.length by omega)
 rw [dK hN rfl]
 rw [A8 (c:=nA) (nt:=14) (rs:=[.tmp 5]) rfl (by simp)]; unfold nA
 unfold chkF at hK
 simp -implicitDefEqProofs only [hK,hi,XP,seval]
end Go.Proofs.AmEnv
set_option maxRecDepth 100000
namespace Go.Proofs.AmEnv
open Go Go.AM
variable {T:Nat->Option (List AV->Option (List AV))}
theorem Nl {P:PE} {c:PC} {X:Type} {p:X->Bool} {l:List X} {S:Nat->PF} {K:PK} {x:Nat} {Q:PF->Prop} {R:PF->PK->Prop}
 (h1:∀ i (h:i < l.length),p l[i]=true->evP P (.code c (S i) K)=some (.ok .normal (S (i + 1)) K))
 (h2:∀ i (h:i < l.length),p l[i]=false->∃ fr' K',evP P (.code c (S i) K)=some (.ok .ret fr' K')∧R fr' K')
 (hx:∃ fr',evP P (.code c (S l.length) K)=some (.ok (.exit x) fr' K)∧Q fr') :
 (l.all p=true∧∃ fr',evP P (.code (.loop c) (S 0) K)=some (.ok (.exit x) fr' K)∧Q fr')∨(l.all p=false∧∃ fr' K',evP P (.code (.loop c) (S 0) K)=some (.ok .ret fr' K')∧R fr' K'):=by
 have key:∀ (n i:Nat),l.length=i + n->((l.drop i).all p=true∧∃ fr',evP P (.code (.loop c) (S i) K)=some (.ok (.exit x) fr' K)∧Q fr')∨((l.drop i).all p=false∧∃ fr' K',evP P (.code (.loop c) (S i) K)=some (.ok .ret fr' K')∧R fr' K'):=fun n=>by
  induction n with
  | zero =>
   intro i e
   obtain rfl:i=l.length:=by omega
   obtain ⟨fr',h,q⟩:=hx
   exact .inl ⟨by rw [List.drop_length]; rfl,fr',D3 h,q⟩
  | succ n ih =>
   intro i e
   have hl:i < l.length:=by omega
   rw [List.drop_eq_getElem_cons hl,List.all_cons]
   cases hq:p l[i] with
   | true =>
    rw [E6 (h1 i hl hq),Bool.true_and]
    exact ih (i + 1) (by omega)
   | false =>
    obtain ⟨fr',K',q1,q2⟩:=h2 i hl hq
    exact .inr ⟨rfl,fr',K',Z8 q1,q2⟩
 exact key l.length 0 (by omega)
section
variable {m:Modl} {c:Cod} {x:Ins} {fr:PF} {i:Nat} {tch:List Nat}
def Jy:List Int:=[1,2,3,4,5,7,10]
def aA (c:Cod) (x:Ins):Bool:=!((!decide (x.op=9) || decide (0≤writesD x)) && (!decide (writesD x=-1) && !thereD (writesD x) c.regs.length))
def codI (l:List Cod) (i:Int):Cod:=l.getD i.toNat ⟨[],0,0,[],[]⟩
def gB (m:Modl) (c:Cod) (x:Ins):Bool :=
 if x.op=1 then decide (Jg (n7 c.regs x.dst) x.n=x.n) else if x.op=5 then O7 m x.n true else if x.op=6 then O7 m x.n true else if x.op=7 then O7 m x.n false else if x.op=8 then O7 m x.n false
 else if x.op=9 then thereD x.n m.fs.length && decide ((codI m.fs x.n).ps≤(codI m.fs x.n).regs.length) else true
def Bj (x:Ins):Bool:=(Jy.any fun n=>decide (x.op=n)) && decide (x.dst < 0)
def E2 (m:Modl) (c:Cod) (x:Ins):Bool:=(C5 x).all (fun r=>thereD r c.regs.length) && (aA c x && (!Bj x && gB m c x))
theorem Fs {l:List Cod} {k:Nat} (h:k < l.length):(l.map Cod.F)[k]?=some (codI l k).F:=by
 rw [B2 (F:=Cod.F) h]; unfold codI; simp [h]
set_option maxHeartbeats 4000000 in
theorem rM {w:PO} (h2:lookP fr 2=.ptr 0 0 0) (h3:lookP fr 3=.ptr 1 0 0) (hw:T 182=some M6) (hg:T 247=some D1) (ht:T 225=some G3) (h1:x.op=1->thereD x.dst c.regs.length=true) :
 evP ⟨A0,T,A3⟩ (.code Fj fr ⟨[.row 1 [chkF m c] 7,.row 1 [x.F] 8,w],0,tch⟩)=some (.ok .ret [(4,.bool (gB m c x))] ⟨[],0,[]⟩):=by
 have tw:=fun t v K=>Zu (K:=K) (t:=t) (v:=v) hw
 have tg:=fun a b K=>Du (K:=K) (m:=m) (c:=c) (a:=a) (arr:=b) hg
 have tt:=fun a n K=>X7 (K:=K) (a:=a) (n:=n) ht
 unfold Fj bY bX bW bV bU iP iO gB
 unfold Ins.F
 unfold chkF at tg ⊢
 by_cases e1:x.op=1
 . obtain ⟨k,hk,hlt⟩:=F2 (h1 e1)
   have hi:=Fr (show k < c.regs.length by omega)
   rw [hk]
   simp -implicitDefEqProofs only [h2,h3,eq_true e1,tw,hi,XP,seval]
 by_cases e5:x.op=5
 . simp -implicitDefEqProofs only [h2,h3,eq_false e1,eq_true e5,tg,XP,seval]
 by_cases e6:x.op=6
 . simp -implicitDefEqProofs only [h2,h3,eq_false e1,eq_false e5,eq_true e6,tg,XP,seval]
 by_cases e7:x.op=7
 . simp -implicitDefEqProofs only [h2,h3,eq_false e1,eq_false e5,eq_false e6,eq_true e7,tg,XP,seval]
 by_cases e8:x.op=8
 . simp -implicitDefEqProofs only [h2,h3,eq_false e1,eq_false e5,eq_false e6,eq_false e7,eq_true e8,tg,XP,seval]
 by_cases e9:x.op=9
 . cases ht:thereD x.n m.fs.length with
   | false=>simp -implicitDefEqProofs only [h2,h3,eq_false e1,eq_false e5,eq_false e6,eq_false e7,eq_false e8,eq_true e9,tt,ht,List.length_map,Bool.false_and,XP,seval]
   | true =>
    obtain ⟨k,hk,hlt⟩:=F2 ht
    have hi:=Fs (show k < m.fs.length by omega)
    simp only [Cod.F] at hi
    rw [hk] at ht ⊢
    simp -implicitDefEqProofs only [h2,h3,eq_false e1,eq_false e5,eq_false e6,eq_false e7,eq_false e8,eq_true e9,tt,ht,List.length_map,hi,XP,seval]
 . simp -implicitDefEqProofs only [h2,h3,eq_false e1,eq_false e5,eq_false e6,eq_false e7,eq_false e8,eq_false e9,XP,seval]
end
end Go.Proofs.AmEnv
set_option maxRecDepth 100000
namespace Go.Proofs.AmEnv
open Go Go.AM
variable {T:Nat->Option (List AV->Option (List AV))}
section
variable {m:Modl} {c:Cod} {x:Ins} {fr:PF} {i:Nat} {L:List Int}
set_option maxHeartbeats 4000000 in
theorem yJ (h2:lookP fr 2=.ptr 0 0 0) (h3:lookP fr 3=.ptr 1 0 0) (hw:T 182=some M6) (hg:T 247=some D1) (ht:T 225=some G3) (hc:T 246=some X8) (h1:x.op=1->¬ x.dst < 0->thereD x.dst c.regs.length=true) :
 evP ⟨A0,T,A3⟩ (.code Kq fr ⟨[.row 1 [chkF m c] 7,.row 1 [x.F] 8],0,[]⟩)=some (.ok .ret [(4,.bool (!Bj x && gB m c x))] ⟨[],0,[]⟩):=by
 have tc:∀ K:PK,K.os[2]?=some (.row 0 (ints Jy) 1)->evP ⟨A0,T,A3⟩ (.call 246 [.msl 2 0 7 1,.int .i64 x.op] K)=some (.val [.bool (Jy.any fun n=>decide (x.op=n))] ⟨K.os ++ [],K.ext,K.tch⟩):=fun K hK=>B8 hc (by
  simp only [Jy,ints,List.map] at hK
  simp -implicitDefEqProofs only [hK,Jy,XP,seval]
  rfl) (C3 (a:=fun p:List Int × Int=>[fslN (ints p.1),.int .i64 p.2]) (r:=fun p=>[.bool (p.1.any fun n=>decide (p.2=n))]) (fun x y e=>by simp only [List.cons.injEq,fslN_iff,ints_iff,AV.int.injEq,true_and,and_true] at e; simp only [e]) (Jy,x.op) (by show Jy.length≤bigN; decide)) rfl
 unfold Kq iN Bj
 cases ha:(Jy.any fun n=>decide (x.op=n)) with
 | false =>
  rw [Bool.false_and]
  rw [ha] at tc
  have sw:∀ (fr:PF) (tch:List Nat),lookP fr 2=.ptr 0 0 0->lookP fr 3=.ptr 1 0 0->evP ⟨A0,T,A3⟩ (.code Fj fr ⟨[.row 1 [chkF m c] 7,.row 1 [x.F] 8,.row 0 [.int .i64 1,.int .i64 2,.int .i64 3,.int .i64 4,.int .i64 5,.int .i64 7,.int .i64 10] 1],0,tch⟩)=some (.ok .ret [(4,.bool (gB m c x))] ⟨[],0,[]⟩):=fun fr tch a b=>rM a b hw hg ht fun e=>absurd ha (by simp [Jy,e])
  simp only [Ins.F] at sw ⊢
  simp only [Jy,ints,List.map] at tc
  simp -implicitDefEqProofs only [h2,h3,tc,sw,XP,seval]
 | true =>
  rw [ha] at tc
  simp only [Jy,ints,List.map] at tc
  by_cases hd:x.dst < 0
  . simp only [Ins.F]
    simp -implicitDefEqProofs only [h2,h3,tc,eq_true hd,Bool.false_and,XP,seval]
  . have sw:∀ (fr:PF) (tch:List Nat),lookP fr 2=.ptr 0 0 0->lookP fr 3=.ptr 1 0 0->evP ⟨A0,T,A3⟩ (.code Fj fr ⟨[.row 1 [chkF m c] 7,.row 1 [x.F] 8,.row 0 [.int .i64 1,.int .i64 2,.int .i64 3,.int .i64 4,.int .i64 5,.int .i64 7,.int .i64 10] 1],0,tch⟩)=some (.ok .ret [(4,.bool (gB m c x))] ⟨[],0,[]⟩):=fun fr tch a b=>rM a b hw hg ht fun e=>h1 e hd
    simp only [Ins.F] at sw ⊢
    simp -implicitDefEqProofs only [h2,h3,tc,eq_false hd,sw,XP,seval]
theorem yK (h:aA c x=true) (e:x.op=1) (hd:¬ x.dst < 0):thereD x.dst c.regs.length=true:=by
 unfold aA writesD at h
 rw [if_pos e] at h
 have:¬ x.dst=-1:=by omega
 have h9:¬ x.op=9:=by omega
 cases ht:thereD x.dst c.regs.length with
 | true=>rfl
 | false=>rw [ht] at h; simp [this,h9] at h
set_option maxHeartbeats 8000000 in
theorem yL (h2:lookP fr 2=.ptr 0 0 0) (h3:lookP fr 3=.ptr 1 0 0) (hw:T 182=some M6) (hg:T 247=some D1) (ht:T 225=some G3) (hc:T 246=some X8) (hwr:T 108=some S7) :
 evP ⟨A0,T,A3⟩ (.code Kr fr ⟨[.row 1 [chkF m c] 7,.row 1 [x.F] 8],0,[]⟩)=some (.ok .ret [(4,.bool (aA c x && (!Bj x && gB m c x)))] ⟨[],0,[]⟩):=by
 have tw:=fun K=>Zw (K:=K) (x:=x) hwr
 have tt:=fun K=>X7 (K:=K) (a:=writesD x) (n:=c.regs.length) ht
 have k16:aA c x=true->∀ fr:PF,lookP fr 2=.ptr 0 0 0->lookP fr 3=.ptr 1 0 0->evP ⟨A0,T,A3⟩ (.code Kq fr ⟨[.row 1 [chkF m c] 7,.row 1 [x.F] 8],0,[]⟩)=some (.ok .ret [(4,.bool (!Bj x && gB m c x))] ⟨[],0,[]⟩):=fun h fr a b=>yJ a b hw hg ht hc (yK h)
 unfold Kr iM iL
 have fin:aA c x=!((!decide (x.op=9) || decide (0≤writesD x)) && (!decide (writesD x=-1) && !thereD (writesD x) c.regs.length)):=rfl
 simp only [Ins.F] at tw k16 ⊢
 simp only [chkF] at k16 ⊢
 by_cases e9:x.op=9
 . by_cases w0:0≤writesD x
   . have w1:¬ writesD x=-1:=by omega
     cases q:thereD (writesD x) c.regs.length with
     | true =>
      have ok:aA c x=true:=by rw [fin,q]; simp
      have k16:=k16 ok
      rw [q] at tt
      simp -implicitDefEqProofs only [h2,h3,tw,tt,eq_true e9,eq_true w0,eq_false w1,List.length_map,ok,k16,XP,seval]
     | false =>
      have ok:aA c x=false:=by rw [fin,q]; simp [w0,w1]
      rw [q] at tt
      simp -implicitDefEqProofs only [h2,h3,tw,tt,eq_true e9,eq_true w0,eq_false w1,List.length_map,ok,Bool.false_and,XP,seval]
   . have ok:aA c x=true:=by rw [fin]; simp [e9,w0]
     have k16:=k16 ok
     simp -implicitDefEqProofs only [h2,h3,tw,eq_true e9,eq_false w0,ok,k16,XP,seval]
 . by_cases w1:writesD x=-1
   . have ok:aA c x=true:=by rw [fin]; simp [w1]
     have k16:=k16 ok
     simp -implicitDefEqProofs only [h2,h3,tw,eq_false e9,eq_true w1,ok,k16,XP,seval]
   . cases q:thereD (writesD x) c.regs.length with
     | true =>
      have ok:aA c x=true:=by rw [fin,q]; simp
      have k16:=k16 ok
      rw [q] at tt
      simp -implicitDefEqProofs only [h2,h3,tw,tt,eq_false e9,eq_false w1,List.length_map,ok,k16,XP,seval]
     | false =>
      have ok:aA c x=false:=by rw [fin,q]; simp [e9,w1]
      rw [q] at tt
      simp -implicitDefEqProofs only [h2,h3,tw,tt,eq_false e9,eq_false w1,List.length_map,ok,Bool.false_and,XP,seval]
theorem GJ (ht:T 225=some G3) (h:i < L.length) (hs:L.length≤bigN) (hp:thereD L[i] c.regs.length=true):evP ⟨A0,T,A3⟩ (.code l8 [(2,.ptr 0 0 0),(3,.ptr 1 0 0),(9,.msl 2 0 L.length 1),(10,.int .i64 (L.length:Int)),(11,.int .i64 (i:Int))] ⟨[.row 1 [chkF m c] 7,.row 1 [x.F] 8,.row 0 (ints L) 1],0,[]⟩)=some (.ok .normal [(2,.ptr 0 0 0),(3,.ptr 1 0 0),(9,.msl 2 0 L.length 1),(10,.int .i64 (L.length:Int)),(11,.int .i64 ((i + 1:Nat):Int))] ⟨[.row 1 [chkF m c] 7,.row 1 [x.F] 8,.row 0 (ints L) 1],0,[]⟩):=by
 unfold l8 Te Zl Zk Zj
 have hlt:decide ((i:Int) < (L.length:Int))=true:=by simp [h]
 have hw:=B3 (i:=i) (by simp only [bigN] at hs; omega)
 have tt:=fun K=>X7 (K:=K) (a:=L[i]) (n:=c.regs.length) ht
 rw [hp] at tt
 unfold chkF Ins.F
 simp -implicitDefEqProofs only [hlt,E4 h,hw,tt,h,List.length_map,XP,seval]
theorem GK (ht:T 225=some G3) (h:i < L.length) (hp:thereD L[i] c.regs.length=false):evP ⟨A0,T,A3⟩ (.code l8 [(2,.ptr 0 0 0),(3,.ptr 1 0 0),(9,.msl 2 0 L.length 1),(10,.int .i64 (L.length:Int)),(11,.int .i64 (i:Int))] ⟨[.row 1 [chkF m c] 7,.row 1 [x.F] 8,.row 0 (ints L) 1],0,[]⟩)=some (.ok .ret [(4,.bool false)] ⟨[],0,[]⟩):=by
 unfold l8 Te Zl Zk Zj
 have hlt:decide ((i:Int) < (L.length:Int))=true:=by simp [h]
 have tt:=fun K=>X7 (K:=K) (a:=L[i]) (n:=c.regs.length) ht
 rw [hp] at tt
 unfold chkF Ins.F
 simp -implicitDefEqProofs only [hlt,E4 h,tt,h,List.length_map,XP,seval]
theorem GL:∃ fr',evP ⟨A0,T,A3⟩ (.code l8 [(2,.ptr 0 0 0),(3,.ptr 1 0 0),(9,.msl 2 0 L.length 1),(10,.int .i64 (L.length:Int)),(11,.int .i64 (L.length:Int))] ⟨[.row 1 [chkF m c] 7,.row 1 [x.F] 8,.row 0 (ints L) 1],0,[]⟩)=some (.ok (.exit 0) fr' ⟨[.row 1 [chkF m c] 7,.row 1 [x.F] 8,.row 0 (ints L) 1],0,[]⟩)∧(lookP fr' 2=.ptr 0 0 0∧lookP fr' 3=.ptr 1 0 0):=by
 unfold l8 Te
 have hlt:decide ((L.length:Int) < (L.length:Int))=false:=by simp
 simp -implicitDefEqProofs only [hlt,XP,seval]
 exact ⟨_,rfl,rfl,rfl⟩
theorem aB (hk:x.ok):(C5 x).length≤bigN:=by
 unfold C5
 have:x.args.length≤bigN:=by unfold Ins.ok at hk; simp only [bigN] at hk ⊢; omega
 repeat' split
 all_goals first | exact this | (simp [bigN])
set_option maxHeartbeats 4000000 in
theorem r6 (hword_Wrap:T 182=some M6) (hir_checker_global:T 247=some D1) (hir_there:T 225=some G3) (hContInts:T 246=some X8) (hir_Writes:T 108=some S7) (hir_Reads:T 170=some o8) {m:Modl} {c:Cod} {x:Ins} (hk:x.ok):AM.Comes ⟨A0,T,A3⟩ 223 [chkF m c,x.F] [.bool (E2 m c x)]:=by
 refine ⟨[.bool (E2 m c x)],⟨[],0,[]⟩,?_,B7 rfl List.nodup_nil rfl rfl rfl⟩
 rw [A8 (c:=mT) (nt:=114) (rs:=[.tmp 4]) rfl (by simp)]; unfold mT
 unfold K0
 have hr:=fun K=>eX (K:=K) hir_Reads hk
 have hlen:=aB hk
 have k17:∀ fr:PF,lookP fr 2=.ptr 0 0 0->lookP fr 3=.ptr 1 0 0->evP ⟨A0,T,A3⟩ (.code Kr fr ⟨[.row 1 [chkF m c] 7,.row 1 [x.F] 8],0,[]⟩)=some (.ok .ret [(4,.bool (aA c x && (!Bj x && gB m c x)))] ⟨[],0,[]⟩):=fun fr a b=>yL a b hword_Wrap hir_checker_global hir_there hContInts hir_Writes
 have lp:=Nl (P:=⟨A0,T,A3⟩) (c:=l8) (p:=fun r=>thereD r c.regs.length) (l:=C5 x) (S:=fun i=>[(2,.ptr 0 0 0),(3,.ptr 1 0 0),(9,.msl 2 0 (C5 x).length 1),(10,.int .i64 ((C5 x).length:Int)),(11,.int .i64 (i:Int))]) (K:=⟨[.row 1 [chkF m c] 7,.row 1 [x.F] 8,.row 0 (ints (C5 x)) 1],0,[]⟩)
  (Q:=fun fr'=>lookP fr' 2=.ptr 0 0 0∧lookP fr' 3=.ptr 1 0 0) (R:=fun fr' K'=>fr'=[(4,.bool false)]∧K'=⟨[],0,[]⟩) (fun i h hp=>GJ hir_there h hlen hp) (fun i h hp=>⟨_,_,GK hir_there h hp,rfl,rfl⟩) GL
 unfold bZ iK E2
 rcases lp with ⟨ha,fr',h1,h2,h3⟩ | ⟨ha,fr',K',h1,rfl,rfl⟩
 . have h1:evP ⟨A0,T,A3⟩ (.code (.loop l8) [(2,.ptr 0 0 0),(3,.ptr 1 0 0),(9,.msl 2 0 (C5 x).length 1),(10,.int .i64 ((C5 x).length:Int)),(11,.int .i64 0)] _)=_:=h1
   rw [ha]
   simp only [Ins.F,chkF] at hr h1 k17 ⊢
   simp -implicitDefEqProofs only [hr,h1,h2,h3,k17,List.length_map,XP,seval]
 . have h1:evP ⟨A0,T,A3⟩ (.code (.loop l8) [(2,.ptr 0 0 0),(3,.ptr 1 0 0),(9,.msl 2 0 (C5 x).length 1),(10,.int .i64 ((C5 x).length:Int)),(11,.int .i64 0)] _)=_:=h1
   rw [ha,Bool.false_and]
   simp only [Ins.F,chkF] at hr h1 ⊢
   simp -implicitDefEqProofs only [hr,h1,List.length_map,XP,seval]
def H4:=b9 (fun p:(Modl) × (Cod) × (Ins)=>[chkF p.1 p.2.1,p.2.2.F]) (fun p=>[.bool (E2 p.1 p.2.1 p.2.2)]) (fun p=>p.2.2.ok)
theorem Dv (hir_checker_places:T 223=some H4) {m:Modl} {c:Cod} {x:Ins} {K:PK} (hk:x.ok):evP ⟨A0,T,A3⟩ (.call 223 [chkF m c,x.F] K)=some (.val (openTs K.os.length [.bool (E2 m c x)]).1 ⟨K.os ++ (openTs K.os.length [.bool (E2 m c x)]).2,K.ext,K.tch⟩):=B8 hir_checker_places (by simp -implicitDefEqProofs only [VV,XP,seval]) (C3 (a:=fun p:(Modl) × (Cod) × (Ins)=>[chkF p.1 p.2.1,p.2.2.F]) (r:=fun p=>[.bool (E2 p.1 p.2.1 p.2.2)]) (fun x y e=>by simp only [VJ] at e; simp only [e]) (m,c,x) hk) (by simp -implicitDefEqProofs only [VN,XP,seval])
theorem Bk (hword_Wrap:T 182=some M6) (hir_checker_global:T 247=some D1) (hir_there:T 225=some G3) (hContInts:T 246=some X8) (hir_Writes:T 108=some S7) (hir_Reads:T 170=some o8) (hP:PEok ⟨A0,T,A3⟩):TC A0 223 H4:=C8 hP fun p h=>r6 hword_Wrap hir_checker_global hir_there hContInts hir_Writes hir_Reads h
end
end Go.Proofs.AmEnv
set_option maxRecDepth 100000
namespace Go.Proofs.AmEnv
open Go Go.AM
variable {T:Nat->Option (List AV->Option (List AV))}
section
variable {m:Modl} {c:Cod} {x:Ins} {fr:PF} {i:Nat}
theorem Ft (h:E2 m c x=true) {r:Int} (hr:r∈C5 x):thereD r c.regs.length=true:=by
 unfold E2 at h
 rw [Bool.and_eq_true] at h
 exact List.all_eq_true.1 h.1 r hr
theorem Hs (h:E2 m c x=true) (e:x.op=1∨x.op=2∨x.op=3∨x.op=4∨x.op=5∨x.op=7∨x.op=10):thereD x.dst c.regs.length=true:=by
 unfold E2 at h
 simp only [Bool.and_eq_true] at h
 obtain ⟨_,h1,h2,_⟩:=h
 have hd:¬ x.dst < 0:=fun hd=>by
  have:Bj x=true:=by
   unfold Bj Jy
   rcases e with e | e | e | e | e | e | e <;> simp [e,hd]
  rw [this] at h2; cases h2
 have hw:writesD x=x.dst:=by
  unfold writesD
  rcases e with e | e | e | e | e | e | e <;> simp [e]
 unfold aA at h1
 rw [hw] at h1
 have h9:¬ x.op=9:=by omega
 have:¬ x.dst=-1:=by omega
 cases ht:thereD x.dst c.regs.length with
 | true=>rfl
 | false=>rw [ht] at h1; simp [this,h9] at h1
theorem jI (h:E2 m c x=true):gB m c x=true:=by
 unfold E2 at h
 simp only [Bool.and_eq_true] at h
 exact h.2.2.2
theorem Tn (h:E2 m c x=true) (e:x.op=5∨x.op=6∨x.op=7∨x.op=8):thereD x.n m.gs.length=true:=by
 have h:=jI h
 unfold gB at h
 rcases e with e | e | e | e <;> simp [e,O7] at h <;> exact h.1
theorem jJ (h:E2 m c x=true) (e:x.op=9):thereD x.n m.fs.length=true∧(codI m.fs x.n).ps≤(codI m.fs x.n).regs.length:=by
 have h:=jI h
 unfold gB at h
 simpa [e] using h
theorem nG (h:E2 m c x=true) (e:x.op=9) (hd:¬ x.dst < 0):thereD x.dst c.regs.length=true:=by
 unfold E2 at h
 simp only [Bool.and_eq_true] at h
 obtain ⟨_,h1,h2,_⟩:=h
 have hw:writesD x=x.dst:=by
  unfold writesD
  simp [e]; omega
 unfold aA at h1
 rw [hw] at h1
 have:¬ x.dst=-1:=by omega
 have h0:0≤x.dst:=by omega
 cases ht:thereD x.dst c.regs.length with
 | true=>rfl
 | false=>rw [ht] at h1; simp [this,h0] at h1
def isD (c:Cod) (r t:Int):Bool:=decide (n7 c.regs r=t)
def aC (l:List Glo) (i:Int):Glo:=l.getD i.toNat ⟨[],0,0,0⟩
theorem jK {l:List Glo} {k:Nat} (h:k < l.length):(l.map Glo.F)[k]?=some (aC l k).F:=by
 rw [B2 (F:=Glo.F) h]; unfold aC; simp [h]
def yM (x:Ins):Int:=if contS (32 :: (x.s ++ [32])) Nk then 1 else x.ty
def y8 (m:Modl) (c:Cod) (x:Ins):Bool:=(x.args.zip (codI m.fs x.n).regs).all (fun p=>isD c p.1 p.2) && (decide (x.dst < 0) || (!decide ((codI m.fs x.n).ty=0) && isD c x.dst (codI m.fs x.n).ty))
def Y9 (m:Modl) (c:Cod) (x:Ins):Bool :=
 if x.op=2 then isD c x.a (n7 c.regs x.dst) else if x.op=3 then isD c x.a x.ty && (isD c x.b x.ty && isD c x.dst (yM x)) else if x.op=4 then isD c x.dst (Df x.ty)
 else if x.op=5 then isD c x.a 2 && isD c x.dst (Df (aC m.gs x.n).ty) else if x.op=6 then isD c x.a 2 && isD c x.b (Df (aC m.gs x.n).ty) else if x.op=7 then isD c x.dst (aC m.gs x.n).ty else if x.op=8 then isD c x.a (aC m.gs x.n).ty
 else if x.op=9 then y8 m c x else if x.op=10 then isD c x.dst 2 else if x.op=11 then isD c x.a 2 else true
def Nm (m:Modl) (x:Ins):Prop:=x.op=9->(x.args.length:Int)=(codI m.fs x.n).ps
section
variable {F:Cod} {A:List Int}
theorem GM (hN:T 248=none) (h:i < A.length) (hF:i < F.regs.length) (hs:A.length≤bigN) (hr:thereD A[i] c.regs.length=true) (hp:isD c A[i] F.regs[i]=true) :
 evP ⟨A0,T,A3⟩ (.code m2 [(2,.fn (.func 248) [] [.ptr 0 0 0]),(4,.ptr 1 0 0),(7,.ptr 2 0 0),(18,fslN (ints A)),(19,.int .i64 (A.length:Int)),(20,.int .i64 (i:Int))] ⟨[.row 1 [chkF m c] 7,.row 1 [x.F] 8,.row 1 [F.F] 5],1,[]⟩)=some (.ok .normal [(2,.fn (.func 248) [] [.ptr 0 0 0]),(4,.ptr 1 0 0),(7,.ptr 2 0 0),(18,fslN (ints A)),(19,.int .i64 (A.length:Int)),(20,.int .i64 ((i + 1:Nat):Int))] ⟨[.row 1 [chkF m c] 7,.row 1 [x.F] 8,.row 1 [F.F] 5],1,[]⟩):=by
 unfold m2
 have hlt:decide ((i:Int) < (A.length:Int))=true:=by simp [h]
 have hw:=B3 (i:=i) (by simp only [bigN] at hs; omega)
 have ic:=fun t K hK=>Kt (m:=m) (t:=t) (id:=0) (K:=K) hN hr hK
 have hp:decide (n7 c.regs A[i]=F.regs[i])=true:=hp
 simp only [chkF,Ins.F,Cod.F] at ic ⊢
 simp -implicitDefEqProofs only [hlt,E4 h,E4 hF,hw,ic,hp,XP,seval]
theorem GN (hN:T 248=none) (h:i < A.length) (hF:i < F.regs.length) (hr:thereD A[i] c.regs.length=true) (hp:isD c A[i] F.regs[i]=false) :
 ∃ K',evP ⟨A0,T,A3⟩ (.code m2 [(2,.fn (.func 248) [] [.ptr 0 0 0]),(4,.ptr 1 0 0),(7,.ptr 2 0 0),(18,fslN (ints A)),(19,.int .i64 (A.length:Int)),(20,.int .i64 (i:Int))] ⟨[.row 1 [chkF m c] 7,.row 1 [x.F] 8,.row 1 [F.F] 5],1,[]⟩)=some (.ok .ret [(6,.bool false)] K')∧K'=⟨[.row 1 [chkF m c] 7],1,[]⟩:=by
 unfold m2
 have hlt:decide ((i:Int) < (A.length:Int))=true:=by simp [h]
 have ic:=fun t K hK=>Kt (m:=m) (t:=t) (id:=0) (K:=K) hN hr hK
 have hp:decide (n7 c.regs A[i]=F.regs[i])=false:=hp
 simp only [chkF,Ins.F,Cod.F] at ic ⊢
 simp -implicitDefEqProofs only [hlt,E4 h,E4 hF,ic,hp,XP,seval]
 exact ⟨_,rfl,rfl⟩
theorem GO:∃ fr',evP ⟨A0,T,A3⟩ (.code m2 [(2,.fn (.func 248) [] [.ptr 0 0 0]),(4,.ptr 1 0 0),(7,.ptr 2 0 0),(18,fslN (ints A)),(19,.int .i64 (A.length:Int)),(20,.int .i64 (A.length:Int))] ⟨[.row 1 [chkF m c] 7,.row 1 [x.F] 8,.row 1 [F.F] 5],1,[]⟩)=some (.ok (.exit 0) fr' ⟨[.row 1 [chkF m c] 7,.row 1 [x.F] 8,.row 1 [F.F] 5],1,[]⟩)∧(lookP fr' 2=.fn (.func 248) [] [.ptr 0 0 0]∧lookP fr' 4=.ptr 1 0 0∧lookP fr' 7=.ptr 2 0 0):=by
 unfold m2
 have hlt:decide ((A.length:Int) < (A.length:Int))=false:=by simp
 simp -implicitDefEqProofs only [hlt,XP,seval]
 exact ⟨_,rfl,rfl,rfl,rfl⟩
end
set_option maxHeartbeats 8000000 in
theorem eY (hN:T 248=none) (hk:x.ok) (hpl:E2 m c x=true) (e9:x.op=9) (ha:Nm m x) :
 evP ⟨A0,T,A3⟩ (.body 250 [chkF m c,x.F,.fn (.func 248) [] [.ptr 0 0 0]] ⟨[.row 1 [chkF m c] 7],1,[]⟩)=some (.val [.bool (y8 m c x)] ⟨[.row 1 [chkF m c] 7],1,[]⟩):=by
 obtain ⟨hf,hps⟩:=jJ hpl e9
 have ha:=ha e9
 obtain ⟨k,hkn,hkl⟩:=F2 hf
 have hi:=Fs (show k < m.fs.length by omega)
 rw [← hkn] at hi
 have hlen:x.args.length≤bigN:=by unfold Ins.ok at hk; simp only [bigN] at hk ⊢; omega
 have hz:(x.args.zip (codI m.fs x.n).regs).length=x.args.length:=by rw [List.length_zip]; omega
 have rd:∀ i (h:i < x.args.length),thereD x.args[i] c.regs.length=true:=fun i h=>Ft hpl (by
  have:C5 x=x.args:=by simp [C5,e9]
  rw [this]; exact List.getElem_mem h)
 have lp:=Nl (P:=⟨A0,T,A3⟩) (c:=m2) (p:=fun p=>isD c p.1 p.2) (l:=x.args.zip (codI m.fs x.n).regs) (S:=fun i=>[(2,.fn (.func 248) [] [.ptr 0 0 0]),(4,.ptr 1 0 0),(7,.ptr 2 0 0),(18,fslN (ints x.args)),(19,.int .i64 (x.args.length:Int)),(20,.int .i64 (i:Int))]) (K:=⟨[.row 1 [chkF m c] 7,.row 1 [x.F] 8,.row 1 [(codI m.fs x.n).F] 5],1,[]⟩)
  (Q:=fun fr'=>lookP fr' 2=.fn (.func 248) [] [.ptr 0 0 0]∧lookP fr' 4=.ptr 1 0 0∧lookP fr' 7=.ptr 2 0 0) (R:=fun fr' K'=>fr'=[(6,.bool false)]∧K'=⟨[.row 1 [chkF m c] 7],1,[]⟩)
  (fun i h hp=>GM (F:=codI m.fs x.n) (A:=x.args) hN (by omega) (by rw [List.length_zip] at h; omega) hlen (rd i (by omega)) (by simpa using hp)) (fun i h hp=>by
    obtain ⟨K',q1,q2⟩:=GN (m:=m) (x:=x) (F:=codI m.fs x.n) (A:=x.args) hN (show i < x.args.length by omega) (by rw [List.length_zip] at h; omega) (rd i (by omega)) (by simpa using hp)
    exact ⟨_,K',q1,rfl,q2⟩) (by rw [hz]; exact GO)
 rw [A8 (c:=nC) (nt:=51) (rs:=[.tmp 6]) rfl (by simp)]; unfold nC
 have fin:y8 m c x=((x.args.zip (codI m.fs x.n).regs).all (fun p=>isD c p.1 p.2) && (decide (x.dst < 0) || (!decide ((codI m.fs x.n).ty=0) && isD c x.dst (codI m.fs x.n).ty))):=rfl
 have hix:∀ te:TI,te.size=5->Yb te (fslN (m.fs.map Cod.F)) (.int .i64 x.n)=some (.fptr (codI m.fs x.n).F 0):=fun te h=>by
  rw [hkn] at hi ⊢; exact ix_fslN hi (by rw [h]; rfl)
 have hix:=hix _ ty31_z
 rcases lp with ⟨hall,fr',h1,h2,h3,h4⟩ | ⟨hall,fr',K',h1,rfl,rfl⟩
 . have h1:evP ⟨A0,T,A3⟩ (.code (.loop m2) [(2,.fn (.func 248) [] [.ptr 0 0 0]),(4,.ptr 1 0 0),(7,.ptr 2 0 0),(18,fslN (ints x.args)),(19,.int .i64 (x.args.length:Int)),(20,.int .i64 0)] _)=_:=h1
   rw [hall,Bool.true_and] at fin
   simp only [chkF,Ins.F,Cod.F] at h1 hix ⊢
   by_cases hd:x.dst < 0
   . have fin:y8 m c x=true:=by rw [fin]; simp [hd]
     simp -implicitDefEqProofs only [hix,h1,h2,h3,h4,fin,eq_true hd,List.length_map,XP,seval]
   . by_cases hv:(codI m.fs x.n).ty=0
     . have fin:y8 m c x=false:=by rw [fin]; simp [hd,hv]
       simp -implicitDefEqProofs only [hix,h1,h2,h3,h4,fin,eq_false hd,eq_true hv,List.length_map,XP,seval]
     . have fin:y8 m c x=isD c x.dst (codI m.fs x.n).ty:=by rw [fin]; simp [hd,hv]
       have ic:=fun t K hK=>Kt (m:=m) (r:=x.dst) (t:=t) (id:=0) (K:=K) hN (nG hpl e9 hd) hK
       unfold isD at fin
       simp only [chkF] at ic
       simp -implicitDefEqProofs only [hix,h1,h2,h3,h4,fin,eq_false hd,eq_false hv,ic,List.length_map,XP,seval]
 . have h1:evP ⟨A0,T,A3⟩ (.code (.loop m2) [(2,.fn (.func 248) [] [.ptr 0 0 0]),(4,.ptr 1 0 0),(7,.ptr 2 0 0),(18,fslN (ints x.args)),(19,.int .i64 (x.args.length:Int)),(20,.int .i64 0)] _)=_:=h1
   rw [hall,Bool.false_and] at fin
   simp only [chkF,Ins.F,Cod.F] at h1 hix ⊢
   simp -implicitDefEqProofs only [hix,h1,fin,List.length_map,XP,seval]
end
end Go.Proofs.AmEnv
set_option maxRecDepth 100000
namespace Go.Proofs.AmEnv
open Go Go.AM
variable {T:Nat->Option (List AV->Option (List AV))}
section
variable {m:Modl} {c:Cod} {x:Ins} {fr:PF} {i:Nat} {tch:List Nat}
theorem eZ (hN:T 248=none) (hC:T 250=none) (hk:x.ok) (hpl:E2 m c x=true) (e9:x.op=9) (ha:Nm m x) :
 evP ⟨A0,T,A3⟩ (.call 250 [chkF m c,x.F,.fn (.func 248) [] [.ptr 0 0 0]] ⟨[.row 1 [chkF m c] 7,.row 1 [x.F] 8],0,tch⟩)=some (.val [.bool (y8 m c x)] ⟨[.row 1 [chkF m c] 7,.row 1 [x.F] 8],0,tch⟩) :=
 dL (ids:=[0]) hC rfl rfl rfl rfl (eY hN hk hpl e9 ha) rfl rfl
set_option maxHeartbeats 16000000 in
theorem w8 (nir_checker_types_1:T 248=none) (nir_checker_call:T 250=none) (hstrings_Contains:T 245=some N4) (hir_wide:T 249=some Be) {m:Modl} {c:Cod} {x:Ins} (hk:x.ok∧x.s.length≤bigN∧E2 m c x=true∧Nm m x):AM.Comes ⟨A0,T,A3⟩ 224 [chkF m c,x.F] [.bool (Y9 m c x)]:=by
 refine ⟨[.bool (Y9 m c x)],⟨[],0,[]⟩,?_,B7 rfl List.nodup_nil rfl rfl rfl⟩
 rw [A8 (c:=mU) (nt:=150) (rs:=[.tmp 4]) rfl (by simp)]; unfold mU
 unfold K0
 obtain ⟨hx,hs,hpl,hargs⟩:=hk
 have isr:=fun (r t:Int) (K:PK) (hr:thereD r c.regs.length=true) hK=>Kt (m:=m) (c:=c) (r:=r) (t:=t) (id:=0) (K:=K) nir_checker_types_1 hr hK
 have tw:=fun t K=>jF (K:=K) (t:=t) hir_wide
 have cc:=fun e9 tch=>eZ (tch:=tch) nir_checker_types_1 nir_checker_call hx hpl e9 hargs
 have gix:∀ k:Nat,x.n=k->k < m.gs.length->Yb Mu (fslN (m.gs.map Glo.F)) (.int .i64 x.n)=some (.fptr (aC m.gs x.n).F 0):=fun k hk hl=>by
  rw [hk]; exact ix_fslN (jK hl) rfl
 have rix:∀ k:Nat,x.dst=k->k < c.regs.length->Yb Zm (fslN (ints c.regs)) (.int .i64 x.dst)=some (.fptr (.int .i64 (n7 c.regs x.dst)) 0):=fun k hk hl=>by
  rw [hk]; exact ix_fslN (Fr hl) rfl
 unfold cE cD cC cB cA iZ iY iX iW iV iU iT iS Y9
 simp only [chkF,Ins.F] at isr cc ⊢
 by_cases e2:x.op=2
 . have ia:=fun t K hK=>isr x.a t K (Ft hpl (by simp [C5,e2])) hK
   obtain ⟨k,hk,hl⟩:=F2 (Hs hpl (by simp [e2]))
   have hix:=rix k hk (by omega)
   unfold isD
   simp -implicitDefEqProofs only [eq_true e2,ia,hix,XP,seval]
 by_cases e3:x.op=3
 . have ia:=fun t K hK=>isr x.a t K (Ft hpl (by simp [C5,e3])) hK
   have ib:=fun t K hK=>isr x.b t K (Ft hpl (by simp [C5,e3])) hK
   have id:=fun t K hK=>isr x.dst t K (Hs hpl (by simp [e3])) hK
   have d1:∀ K:PK,Q3 A0 .add 9 (.str [32]) (.str x.s) K=.val (.str (32 :: x.s)) K:=fun K=>Ks (by simp only [bigN] at hs; simp; omega)
   have d2:∀ K:PK,Q3 A0 .add 9 (.str (32 :: x.s)) (.str [32]) K=.val (.str (32 :: (x.s ++ [32]))) K:=fun K=>Ks (by simp only [bigN] at hs; simp; omega)
   have cn:=fun K=>Hr (K:=K) (s:=Nk) (p:=32 :: (x.s ++ [32])) hstrings_Contains (by unfold Hq; rfl)
   unfold isD yM iR iQ
   unfold Nk at cn ⊢
   by_cases qa:n7 c.regs x.a=x.ty
   . by_cases qb:n7 c.regs x.b=x.ty
     . cases hcc:contS (32 :: (x.s ++ [32])) [32,61,61,32,33,61,32,60,32,60,61,32,62,32,62,61,32] with
       | true=>simp -implicitDefEqProofs only [eq_false e2,eq_true e3,ia,ib,id,d1,d2,cn,hcc,eq_true qa,eq_true qb,XP,seval]
       | false=>simp -implicitDefEqProofs only [eq_false e2,eq_true e3,ia,ib,id,d1,d2,cn,hcc,eq_true qa,eq_true qb,XP,seval]
     . cases hcc:contS (32 :: (x.s ++ [32])) [32,61,61,32,33,61,32,60,32,60,61,32,62,32,62,61,32] with
       | true=>simp -implicitDefEqProofs only [eq_false e2,eq_true e3,ia,ib,id,d1,d2,cn,hcc,eq_true qa,eq_false qb,Bool.false_and,XP,seval]
       | false=>simp -implicitDefEqProofs only [eq_false e2,eq_true e3,ia,ib,id,d1,d2,cn,hcc,eq_true qa,eq_false qb,Bool.false_and,XP,seval]
   . cases hcc:contS (32 :: (x.s ++ [32])) [32,61,61,32,33,61,32,60,32,60,61,32,62,32,62,61,32] with
     | true=>simp -implicitDefEqProofs only [eq_false e2,eq_true e3,ia,ib,id,d1,d2,cn,hcc,eq_false qa,Bool.false_and,XP,seval]
     | false=>simp -implicitDefEqProofs only [eq_false e2,eq_true e3,ia,ib,id,d1,d2,cn,hcc,eq_false qa,Bool.false_and,XP,seval]
 by_cases e4:x.op=4
 . have id:=fun t K hK=>isr x.dst t K (Hs hpl (by simp [e4])) hK
   unfold isD
   simp -implicitDefEqProofs only [eq_false e2,eq_false e3,eq_true e4,id,tw,XP,seval]
 by_cases e5:x.op=5
 . have ia:=fun t K hK=>isr x.a t K (Ft hpl (by simp [C5,e5])) hK
   have id:=fun t K hK=>isr x.dst t K (Hs hpl (by simp [e5])) hK
   obtain ⟨k,hk,hl⟩:=F2 (Tn hpl (by simp [e5]))
   have hix:=gix k hk (by omega)
   simp only [Glo.F] at hix
   unfold isD
   by_cases qa:n7 c.regs x.a=2
   . simp -implicitDefEqProofs only [eq_false e2,eq_false e3,eq_false e4,eq_true e5,ia,id,hix,tw,eq_true qa,XP,seval]
   . simp -implicitDefEqProofs only [eq_false e2,eq_false e3,eq_false e4,eq_true e5,ia,id,hix,tw,eq_false qa,Bool.false_and,XP,seval]
 by_cases e6:x.op=6
 . have ia:=fun t K hK=>isr x.a t K (Ft hpl (by simp [C5,e6])) hK
   have ib:=fun t K hK=>isr x.b t K (Ft hpl (by simp [C5,e6])) hK
   obtain ⟨k,hk,hl⟩:=F2 (Tn hpl (by simp [e6]))
   have hix:=gix k hk (by omega)
   simp only [Glo.F] at hix
   unfold isD
   by_cases qa:n7 c.regs x.a=2
   . simp -implicitDefEqProofs only [eq_false e2,eq_false e3,eq_false e4,eq_false e5,eq_true e6,ia,ib,hix,tw,eq_true qa,XP,seval]
   . simp -implicitDefEqProofs only [eq_false e2,eq_false e3,eq_false e4,eq_false e5,eq_true e6,ia,ib,hix,tw,eq_false qa,Bool.false_and,XP,seval]
 by_cases e7:x.op=7
 . have id:=fun t K hK=>isr x.dst t K (Hs hpl (by simp [e7])) hK
   obtain ⟨k,hk,hl⟩:=F2 (Tn hpl (by simp [e7]))
   have hix:=gix k hk (by omega)
   simp only [Glo.F] at hix
   unfold isD
   simp -implicitDefEqProofs only [eq_false e2,eq_false e3,eq_false e4,eq_false e5,eq_false e6,eq_true e7,id,hix,XP,seval]
 by_cases e8:x.op=8
 . have ia:=fun t K hK=>isr x.a t K (Ft hpl (by simp [C5,e8])) hK
   obtain ⟨k,hk,hl⟩:=F2 (Tn hpl (by simp [e8]))
   have hix:=gix k hk (by omega)
   simp only [Glo.F] at hix
   unfold isD
   simp -implicitDefEqProofs only [eq_false e2,eq_false e3,eq_false e4,eq_false e5,eq_false e6,eq_false e7,eq_true e8,ia,hix,XP,seval]
 by_cases e9:x.op=9
 . have cc:=cc e9
   simp -implicitDefEqProofs only [eq_false e2,eq_false e3,eq_false e4,eq_false e5,eq_false e6,eq_false e7,eq_false e8,eq_true e9,cc,XP,seval]
 by_cases e10:x.op=10
 . have id:=fun t K hK=>isr x.dst t K (Hs hpl (by simp [e10])) hK
   unfold isD
   simp -implicitDefEqProofs only [eq_false e2,eq_false e3,eq_false e4,eq_false e5,eq_false e6,eq_false e7,eq_false e8,eq_false e9,eq_true e10,id,XP,seval]
 by_cases e11:x.op=11
 . have ia:=fun t K hK=>isr x.a t K (Ft hpl (by simp [C5,e11])) hK
   unfold isD
   simp -implicitDefEqProofs only [eq_false e2,eq_false e3,eq_false e4,eq_false e5,eq_false e6,eq_false e7,eq_false e8,eq_false e9,eq_false e10,eq_true e11,ia,XP,seval]
 . simp -implicitDefEqProofs only [eq_false e2,eq_false e3,eq_false e4,eq_false e5,eq_false e6,eq_false e7,eq_false e8,eq_false e9,eq_false e10,eq_false e11,XP,seval]
def I5:=b9 (fun p:(Modl) × (Cod) × (Ins)=>[chkF p.1 p.2.1,p.2.2.F]) (fun p=>[.bool (Y9 p.1 p.2.1 p.2.2)]) (fun p=>p.2.2.ok∧p.2.2.s.length≤bigN∧E2 p.1 p.2.1 p.2.2=true∧Nm p.1 p.2.2)
theorem j3 (hir_checker_types:T 224=some I5) {m:Modl} {c:Cod} {x:Ins} {K:PK} (hk:x.ok∧x.s.length≤bigN∧E2 m c x=true∧Nm m x):evP ⟨A0,T,A3⟩ (.call 224 [chkF m c,x.F] K)=some (.val (openTs K.os.length [.bool (Y9 m c x)]).1 ⟨K.os ++ (openTs K.os.length [.bool (Y9 m c x)]).2,K.ext,K.tch⟩):=B8 hir_checker_types (by simp -implicitDefEqProofs only [VV,XP,seval]) (C3 (a:=fun p:(Modl) × (Cod) × (Ins)=>[chkF p.1 p.2.1,p.2.2.F]) (r:=fun p=>[.bool (Y9 p.1 p.2.1 p.2.2)]) (fun x y e=>by simp only [VJ] at e; simp only [e]) (m,c,x) hk) (by simp -implicitDefEqProofs only [VN,XP,seval])
theorem Cp (nir_checker_types_1:T 248=none) (nir_checker_call:T 250=none) (hstrings_Contains:T 245=some N4) (hir_wide:T 249=some Be) (hP:PEok ⟨A0,T,A3⟩):TC A0 224 I5:=C8 hP fun p h=>w8 nir_checker_types_1 nir_checker_call hstrings_Contains hir_wide h
end
end Go.Proofs.AmEnv
set_option maxRecDepth 100000
namespace Go.Proofs.AmEnv
open Go Go.AM
variable {T:Nat->Option (List AV->Option (List AV))}
section
variable {m:Modl} {c:Cod} {x:Ins} {fr:PF} {i:Nat} {tch:List Nat}
def O1 (m:Modl) (c:Cod) (x:Ins):Int:=if Fq x=true then (if E2 m c x=true then (if x.op=9 then (if (x.args.length:Int)=(codI m.fs x.n).ps then (if Y9 m c x=true then 0 else 6) else 7) else (if Y9 m c x=true then 0 else 6)) else 11) else 2
set_option maxHeartbeats 8000000 in
theorem w9 (hir_form:T 222=some Bh) (hir_checker_places:T 223=some H4) (hir_checker_types:T 224=some I5) {m:Modl} {c:Cod} {x:Ins} (hk:x.ok∧x.s.length≤bigN):AM.Comes ⟨A0,T,A3⟩ 176 [chkF m c,x.F] [.int .i64 (O1 m c x)]:=by
 refine ⟨[.int .i64 (O1 m c x)],⟨[],0,[]⟩,?_,B7 rfl List.nodup_nil rfl rfl rfl⟩
 rw [A8 (c:=mK) (nt:=37) (rs:=[.tmp 4]) rfl (by simp)]; unfold mK
 unfold K0
 obtain ⟨hx,hs⟩:=hk
 have tf:=fun K=>jH (K:=K) hir_form hs
 have tp:=fun K=>Dv (K:=K) (m:=m) (c:=c) hir_checker_places hx
 unfold O1
 cases hf:Fq x with
 | false =>
  rw [hf] at tf
  simp only [Ins.F,chkF] at tf ⊢
  simp -implicitDefEqProofs only [tf,XP,seval]
 | true =>
  rw [hf] at tf
  cases hp:E2 m c x with
  | false =>
   rw [hp] at tp
   simp only [Ins.F,chkF] at tf tp ⊢
   simp -implicitDefEqProofs only [tf,tp,XP,seval]
  | true =>
   rw [hp] at tp
   by_cases e9:x.op=9
   . obtain ⟨hfn,hps⟩:=jJ hp e9
     obtain ⟨k,hkn,hkl⟩:=F2 hfn
     have hi:=Fs (show k < m.fs.length by omega)
     rw [← hkn] at hi
     have hix:Yb Bc (fslN (m.fs.map Cod.F)) (.int .i64 x.n)=some (.fptr (codI m.fs x.n).F 0):=by
      rw [hkn] at hi ⊢; exact ix_fslN hi rfl
     by_cases hq:(x.args.length:Int)=(codI m.fs x.n).ps
     . have tt:=fun K=>j3 (K:=K) (m:=m) (c:=c) hir_checker_types ⟨hx,hs,hp,fun _=>hq⟩
       cases ht:Y9 m c x with
       | true=>rw [ht] at tt; simp only [Ins.F,chkF,Cod.F] at tf tp tt hix ⊢; simp -implicitDefEqProofs only [tf,tp,tt,hix,eq_true e9,eq_true hq,List.length_map,XP,seval]
       | false=>rw [ht] at tt; simp only [Ins.F,chkF,Cod.F] at tf tp tt hix ⊢; simp -implicitDefEqProofs only [tf,tp,tt,hix,eq_true e9,eq_true hq,List.length_map,XP,seval]
     . simp only [Ins.F,chkF,Cod.F] at tf tp hix ⊢; simp -implicitDefEqProofs only [tf,tp,hix,eq_true e9,eq_false hq,List.length_map,XP,seval]
   . have tt:=fun K=>j3 (K:=K) (m:=m) (c:=c) hir_checker_types ⟨hx,hs,hp,fun h=>absurd h e9⟩
     cases ht:Y9 m c x with
     | true=>rw [ht] at tt; simp only [Ins.F,chkF] at tf tp tt ⊢; simp -implicitDefEqProofs only [tf,tp,tt,eq_false e9,XP,seval]
     | false=>rw [ht] at tt; simp only [Ins.F,chkF] at tf tp tt ⊢; simp -implicitDefEqProofs only [tf,tp,tt,eq_false e9,XP,seval]
def C1:=b9 (fun p:(Modl) × (Cod) × (Ins)=>[chkF p.1 p.2.1,p.2.2.F]) (fun p=>[.int .i64 (O1 p.1 p.2.1 p.2.2)]) (fun p=>p.2.2.ok∧p.2.2.s.length≤bigN)
theorem j4 (hir_checker_instr:T 176=some C1) {m:Modl} {c:Cod} {x:Ins} {K:PK} (hk:x.ok∧x.s.length≤bigN):evP ⟨A0,T,A3⟩ (.call 176 [chkF m c,x.F] K)=some (.val (openTs K.os.length [.int .i64 (O1 m c x)]).1 ⟨K.os ++ (openTs K.os.length [.int .i64 (O1 m c x)]).2,K.ext,K.tch⟩):=B8 hir_checker_instr (by simp -implicitDefEqProofs only [VV,XP,seval]) (C3 (a:=fun p:(Modl) × (Cod) × (Ins)=>[chkF p.1 p.2.1,p.2.2.F]) (r:=fun p=>[.int .i64 (O1 p.1 p.2.1 p.2.2)]) (fun x y e=>by simp only [VJ] at e; simp only [e]) (m,c,x) hk) (by simp -implicitDefEqProofs only [VN,XP,seval])
theorem Cq (hir_form:T 222=some Bh) (hir_checker_places:T 223=some H4) (hir_checker_types:T 224=some I5) (hP:PEok ⟨A0,T,A3⟩):TC A0 176 C1:=C8 hP fun p h=>w9 hir_form hir_checker_places hir_checker_types h
def Py (c:Cod) (e:Endd):Int :=
 if e.kind=1 then (if thereD e.to c.blocks.length=true then 0 else 11)
 else if e.kind=2 then (if thereD e.to c.blocks.length=true then (if thereD e.els c.blocks.length=true then (if thereD e.a c.regs.length=true then (if n7 c.regs e.a=1 then 0 else 6) else 11) else 11) else 11)
 else if e.kind=3 then (if e.a < 0 then (if c.ty=0 then 0 else 6) else (if thereD e.a c.regs.length=true then (if c.ty=0 then 6 else if n7 c.regs e.a=c.ty then 0 else 6) else 11)) else 2
set_option maxHeartbeats 8000000 in
theorem Bl (hir_there:T 225=some G3) {m:Modl} {c:Cod} {e:Endd}:AM.Comes ⟨A0,T,A3⟩ 177 [chkF m c,e.F] [.int .i64 (Py c e)]:=by
 refine ⟨[.int .i64 (Py c e)],⟨[],0,[]⟩,?_,B7 rfl List.nodup_nil rfl rfl rfl⟩
 rw [A8 (c:=mL) (nt:=100) (rs:=[.tmp 4]) rfl (by simp)]; unfold mL
 unfold K0
 have tt:=fun a n K=>X7 (K:=K) (a:=a) (n:=n) hir_there
 have eb:=cI 4 rfl
 have rix:∀ k:Nat,e.a=k->k < c.regs.length->Yb Zm (fslN (ints c.regs)) (.int .i64 e.a)=some (.fptr (.int .i64 (n7 c.regs e.a)) 0):=fun k hk hl=>by
  rw [hk]; exact ix_fslN (Fr hl) rfl
 have b1:(true == true)=true:=rfl
 have b2:(true == false)=false:=rfl
 have b3:(false == true)=false:=rfl
 have b4:(false == false)=true:=rfl
 unfold Py
 simp only [Endd.F,chkF]
 by_cases e1:e.kind=1
 . cases h1:thereD e.to c.blocks.length with
   | true=>simp -implicitDefEqProofs only [tt,h1,eq_true e1,List.length_map,XP,seval]
   | false=>simp -implicitDefEqProofs only [tt,h1,eq_true e1,List.length_map,XP,seval]
 by_cases e2:e.kind=2
 . cases h1:thereD e.to c.blocks.length with
   | false=>simp -implicitDefEqProofs only [tt,h1,eq_false e1,eq_true e2,List.length_map,XP,seval]
   | true =>
    cases h2:thereD e.els c.blocks.length with
    | false=>simp -implicitDefEqProofs only [tt,h1,h2,eq_false e1,eq_true e2,List.length_map,XP,seval]
    | true =>
     cases h3:thereD e.a c.regs.length with
     | false=>simp -implicitDefEqProofs only [tt,h1,h2,h3,eq_false e1,eq_true e2,List.length_map,XP,seval]
     | true =>
      obtain ⟨k,hk,hl⟩:=F2 h3
      have hix:=rix k hk (by omega)
      by_cases hq:n7 c.regs e.a=1
      . simp -implicitDefEqProofs only [tt,h1,h2,h3,hix,eq_true hq,eq_false e1,eq_true e2,List.length_map,XP,seval]
      . simp -implicitDefEqProofs only [tt,h1,h2,h3,hix,eq_false hq,eq_false e1,eq_true e2,List.length_map,XP,seval]
 by_cases e3:e.kind=3
 . by_cases ha:e.a < 0
   . by_cases hv:c.ty=0
     . simp -implicitDefEqProofs only [tt,eb,b1,b2,b3,b4,eq_true ha,eq_true hv,eq_false e1,eq_false e2,eq_true e3,List.length_map,XP,seval]
     . simp -implicitDefEqProofs only [tt,eb,b1,b2,b3,b4,eq_true ha,eq_false hv,eq_false e1,eq_false e2,eq_true e3,List.length_map,XP,seval]
   . cases h3:thereD e.a c.regs.length with
     | false=>simp -implicitDefEqProofs only [tt,h3,eq_false ha,eq_false e1,eq_false e2,eq_true e3,List.length_map,XP,seval]
     | true =>
      obtain ⟨k,hk,hl⟩:=F2 h3
      have hix:=rix k hk (by omega)
      by_cases hv:c.ty=0
      . simp -implicitDefEqProofs only [tt,h3,eb,b1,b2,b3,b4,eq_false ha,eq_true hv,eq_false e1,eq_false e2,eq_true e3,List.length_map,XP,seval]
      . by_cases hq:n7 c.regs e.a=c.ty
        . simp -implicitDefEqProofs only [tt,h3,hix,eb,b1,b2,b3,b4,eq_false ha,eq_false hv,eq_true hq,eq_false e1,eq_false e2,eq_true e3,List.length_map,XP,seval]
        . simp -implicitDefEqProofs only [tt,h3,hix,eb,b1,b2,b3,b4,eq_false ha,eq_false hv,eq_false hq,eq_false e1,eq_false e2,eq_true e3,List.length_map,XP,seval]
 . simp -implicitDefEqProofs only [eq_false e1,eq_false e2,eq_false e3,List.length_map,XP,seval]
def G4:=b9 (fun p:(Modl) × (Cod) × (Endd)=>[chkF p.1 p.2.1,p.2.2.F]) (fun p=>[.int .i64 (Py p.2.1 p.2.2)]) (fun p=>True)
theorem y9 (hir_checker_end:T 177=some G4) {m:Modl} {c:Cod} {e:Endd} {K:PK}:evP ⟨A0,T,A3⟩ (.call 177 [chkF m c,e.F] K)=some (.val (openTs K.os.length [.int .i64 (Py c e)]).1 ⟨K.os ++ (openTs K.os.length [.int .i64 (Py c e)]).2,K.ext,K.tch⟩):=B8 hir_checker_end (by simp -implicitDefEqProofs only [VV,XP,seval]) (C3 (a:=fun p:(Modl) × (Cod) × (Endd)=>[chkF p.1 p.2.1,p.2.2.F]) (r:=fun p=>[.int .i64 (Py p.2.1 p.2.2)]) (fun x y e=>by simp only [VJ] at e; simp only [e]) (m,c,e) trivial) (by simp -implicitDefEqProofs only [VN,XP,seval])
theorem Fu (hir_there:T 225=some G3) (hP:PEok ⟨A0,T,A3⟩):TC A0 177 G4:=C8 hP fun p h=>Bl hir_there
def I0:List Int->Int
 | []=>0
 | e :: l=>if e=0 then I0 l else e
theorem err_loop {P:PE} {c:PC} {X:Type} {f:X->Int} {l:List X} {S:Nat->PF} {K:PK} {x:Nat} {Q:PF->Prop} {R:Int->PF->PK->Prop}
 (h1:∀ i (h:i < l.length),f l[i]=0->evP P (.code c (S i) K)=some (.ok .normal (S (i + 1)) K))
 (h2:∀ i (h:i < l.length),¬ f l[i]=0->∃ fr' K',evP P (.code c (S i) K)=some (.ok .ret fr' K')∧R (f l[i]) fr' K')
 (hx:∃ fr',evP P (.code c (S l.length) K)=some (.ok (.exit x) fr' K)∧Q fr') :
 (I0 (l.map f)=0∧∃ fr',evP P (.code (.loop c) (S 0) K)=some (.ok (.exit x) fr' K)∧Q fr')∨(¬ I0 (l.map f)=0∧∃ fr' K',evP P (.code (.loop c) (S 0) K)=some (.ok .ret fr' K')∧R (I0 (l.map f)) fr' K'):=by
 have key:∀ (n i:Nat),l.length=i + n->(I0 ((l.drop i).map f)=0∧∃ fr',evP P (.code (.loop c) (S i) K)=some (.ok (.exit x) fr' K)∧Q fr')∨(¬ I0 ((l.drop i).map f)=0∧∃ fr' K',evP P (.code (.loop c) (S i) K)=some (.ok .ret fr' K')∧R (I0 ((l.drop i).map f)) fr' K'):=fun n=>by
  induction n with
  | zero =>
   intro i e
   obtain rfl:i=l.length:=by omega
   obtain ⟨fr',h,q⟩:=hx
   exact .inl ⟨by rw [List.drop_length]; rfl,fr',D3 h,q⟩
  | succ n ih =>
   intro i e
   have hl:i < l.length:=by omega
   rw [List.drop_eq_getElem_cons hl,List.map_cons]
   unfold I0
   by_cases hq:f l[i]=0
   . rw [E6 (h1 i hl hq),if_pos hq]
     exact ih (i + 1) (by omega)
   . obtain ⟨fr',K',q1,q2⟩:=h2 i hl hq
     rw [if_neg hq]
     exact .inr ⟨hq,fr',K',Z8 q1,q2⟩
 exact key l.length 0 (by omega)
end
end Go.Proofs.AmEnv
set_option maxRecDepth 100000
namespace Go.Proofs.AmEnv
open Go Go.AM
variable {T:Nat->Option (List AV->Option (List AV))}
def Ins.sok (x:Ins):Prop:=x.ok∧x.s.length≤bigN
def Blk.sok (b:Blk):Prop:=b.ok∧∀ x∈b.code,x.sok
def Cod.sok (c:Cod):Prop:=c.ok∧∀ b∈c.blocks,b.sok
def Modl.ok (m:Modl):Prop:=(∀ c∈m.fs,c.sok)∧m.fs.length * 64≤bigN∧m.gs.length * 40≤bigN
section
variable {m:Modl} {c:Cod} {x:Ins} {b:Blk} {fr:PF} {i k:Nat} {tch:List Nat}
def To (m:Modl) (c:Cod) (b:Blk):Int:=if I0 (b.code.map (O1 m c))=0 then Py c b.e else I0 (b.code.map (O1 m c))
def S2 (m:Modl) (c:Cod):Int :=
 if c.blocks.length < 1∨400 < c.blocks.length∨4096 < c.regs.length then 9 else if c.ps < 0∨(c.regs.length:Int) < c.ps then 11
 else if c.ty < 0∨2 < c.ty∨(c.regs.any fun n=>!E5 n)=true then 6 else I0 (c.blocks.map (To m c))
theorem yN (hT:T 176=some C1) (h:k < b.code.length) (hs:b.sok) (hp:O1 m c b.code[k]=0) :
 evP ⟨A0,T,A3⟩ (.code k9 [(1,.ptr 0 0 0),(5,.ptr 1 0 0),(56,fslN (c.blocks.map Blk.F)),(57,.int .i64 (c.blocks.length:Int)),(58,.int .i64 (i:Int)),(63,fslN (b.code.map Ins.F)),(64,.int .i64 (b.code.length:Int)),(65,.int .i64 (k:Int))] ⟨[.row 1 [chkF m c] 7,.row 1 [b.F] 5],0,[]⟩)=some (.ok .normal [(1,.ptr 0 0 0),(5,.ptr 1 0 0),(56,fslN (c.blocks.map Blk.F)),(57,.int .i64 (c.blocks.length:Int)),(58,.int .i64 (i:Int)),(63,fslN (b.code.map Ins.F)),(64,.int .i64 (b.code.length:Int)),(65,.int .i64 ((k + 1:Nat):Int))] ⟨[.row 1 [chkF m c] 7,.row 1 [b.F] 5],0,[]⟩):=by
 unfold k9
 have hlt:decide ((k:Int) < (b.code.length:Int))=true:=by simp [h]
 have hw:=B3 (i:=k) (by have:=hs.1.2; simp only [bigN] at this; omega)
 have t:=fun K=>j4 (K:=K) (m:=m) (c:=c) (x:=b.code[k]) hT (hs.2 _ (List.getElem_mem h))
 rw [hp] at t
 have hi:=B2 (F:=Ins.F) h
 simp only [Ins.F,chkF,Blk.F] at t hi ⊢
 simp -implicitDefEqProofs only [hlt,hi,hw,t,XP,seval]
theorem yO (hT:T 176=some C1) (h:k < b.code.length) (hs:b.sok) (hp:¬ O1 m c b.code[k]=0) :
 evP ⟨A0,T,A3⟩ (.code k9 [(1,.ptr 0 0 0),(5,.ptr 1 0 0),(56,fslN (c.blocks.map Blk.F)),(57,.int .i64 (c.blocks.length:Int)),(58,.int .i64 (i:Int)),(63,fslN (b.code.map Ins.F)),(64,.int .i64 (b.code.length:Int)),(65,.int .i64 (k:Int))] ⟨[.row 1 [chkF m c] 7,.row 1 [b.F] 5],0,[]⟩)=some (.ok .ret [(2,.int .i64 (O1 m c b.code[k]))] ⟨[],0,[]⟩):=by
 unfold k9
 have hlt:decide ((k:Int) < (b.code.length:Int))=true:=by simp [h]
 have t:=fun K=>j4 (K:=K) (m:=m) (c:=c) (x:=b.code[k]) hT (hs.2 _ (List.getElem_mem h))
 have hi:=B2 (F:=Ins.F) h
 simp only [Ins.F,chkF,Blk.F] at t hi ⊢
 simp -implicitDefEqProofs only [hlt,hi,t,eq_false hp,XP,seval]
theorem yP:∃ fr',evP ⟨A0,T,A3⟩ (.code k9 [(1,.ptr 0 0 0),(5,.ptr 1 0 0),(56,fslN (c.blocks.map Blk.F)),(57,.int .i64 (c.blocks.length:Int)),(58,.int .i64 (i:Int)),(63,fslN (b.code.map Ins.F)),(64,.int .i64 (b.code.length:Int)),(65,.int .i64 (b.code.length:Int))] ⟨[.row 1 [chkF m c] 7,.row 1 [b.F] 5],0,[]⟩)=some (.ok (.exit 3) fr' ⟨[.row 1 [chkF m c] 7,.row 1 [b.F] 5],0,[]⟩)∧(lookP fr' 1=.ptr 0 0 0∧lookP fr' 5=.ptr 1 0 0∧lookP fr' 56=fslN (c.blocks.map Blk.F)∧lookP fr' 57=.int .i64 (c.blocks.length:Int)∧lookP fr' 58=.int .i64 (i:Int)):=by
 unfold k9
 have hlt:decide ((b.code.length:Int) < (b.code.length:Int))=false:=by simp
 simp -implicitDefEqProofs only [hlt,XP,seval]
 exact ⟨_,rfl,rfl,rfl,rfl,rfl,rfl⟩
theorem cdi_l (hT:T 176=some C1) (hs:b.sok) :
 (I0 (b.code.map (O1 m c))=0∧∃ fr',evP ⟨A0,T,A3⟩ (.code (.loop k9) [(1,.ptr 0 0 0),(5,.ptr 1 0 0),(56,fslN (c.blocks.map Blk.F)),(57,.int .i64 (c.blocks.length:Int)),(58,.int .i64 (i:Int)),(63,fslN (b.code.map Ins.F)),(64,.int .i64 (b.code.length:Int)),(65,.int .i64 0)] ⟨[.row 1 [chkF m c] 7,.row 1 [b.F] 5],0,[]⟩)=some (.ok (.exit 3) fr' ⟨[.row 1 [chkF m c] 7,.row 1 [b.F] 5],0,[]⟩)∧(lookP fr' 1=.ptr 0 0 0∧lookP fr' 5=.ptr 1 0 0∧lookP fr' 56=fslN (c.blocks.map Blk.F)∧lookP fr' 57=.int .i64 (c.blocks.length:Int)∧lookP fr' 58=.int .i64 (i:Int))) ∨
 (¬ I0 (b.code.map (O1 m c))=0∧evP ⟨A0,T,A3⟩ (.code (.loop k9) [(1,.ptr 0 0 0),(5,.ptr 1 0 0),(56,fslN (c.blocks.map Blk.F)),(57,.int .i64 (c.blocks.length:Int)),(58,.int .i64 (i:Int)),(63,fslN (b.code.map Ins.F)),(64,.int .i64 (b.code.length:Int)),(65,.int .i64 0)] ⟨[.row 1 [chkF m c] 7,.row 1 [b.F] 5],0,[]⟩)=some (.ok .ret [(2,.int .i64 (I0 (b.code.map (O1 m c))))] ⟨[],0,[]⟩)):=by
 rcases err_loop (P:=⟨A0,T,A3⟩) (c:=k9) (f:=O1 m c) (l:=b.code) (S:=fun k=>[(1,.ptr 0 0 0),(5,.ptr 1 0 0),(56,fslN (c.blocks.map Blk.F)),(57,.int .i64 (c.blocks.length:Int)),(58,.int .i64 (i:Int)),(63,fslN (b.code.map Ins.F)),(64,.int .i64 (b.code.length:Int)),(65,.int .i64 (k:Int))]) (K:=⟨[.row 1 [chkF m c] 7,.row 1 [b.F] 5],0,[]⟩) (Q:=fun fr'=>lookP fr' 1=.ptr 0 0 0∧lookP fr' 5=.ptr 1 0 0∧lookP fr' 56=fslN (c.blocks.map Blk.F)∧lookP fr' 57=.int .i64 (c.blocks.length:Int)∧lookP fr' 58=.int .i64 (i:Int)) (R:=fun e fr' K'=>fr'=[(2,.int .i64 e)]∧K'=⟨[],0,[]⟩)
  (fun k h hp=>yN hT h hs hp) (fun k h hp=>⟨_,_,yO hT h hs hp,rfl,rfl⟩) yP with h | ⟨h,fr',K',q,rfl,rfl⟩
 . exact .inl h
 . exact .inr ⟨h,q⟩
theorem yQ (hT:T 176=some C1) (hE:T 177=some G4) (h:i < c.blocks.length) (hs:c.sok) (hp:To m c c.blocks[i]=0) :
 evP ⟨A0,T,A3⟩ (.code Y5 [(1,.ptr 0 0 0),(56,fslN (c.blocks.map Blk.F)),(57,.int .i64 (c.blocks.length:Int)),(58,.int .i64 (i:Int))] ⟨[.row 1 [chkF m c] 7],0,[]⟩)=some (.ok .normal [(1,.ptr 0 0 0),(56,fslN (c.blocks.map Blk.F)),(57,.int .i64 (c.blocks.length:Int)),(58,.int .i64 ((i + 1:Nat):Int))] ⟨[.row 1 [chkF m c] 7],0,[]⟩):=by
 have hb:=hs.2 _ (List.getElem_mem h)
 have hlt:decide ((i:Int) < (c.blocks.length:Int))=true:=by simp [h]
 have hw:=B3 (i:=i) (by have:=hs.1.2.2; simp only [bigN] at this; omega)
 have hi:=B2 (F:=Blk.F) h
 have t:=fun K=>y9 (K:=K) (m:=m) (c:=c) (e:=c.blocks[i].e) hE
 unfold To at hp
 rcases cdi_l (m:=m) (c:=c) (i:=i) hT hb with ⟨q,fr',h1,h2,h3,h4,h5,h6⟩ | ⟨q,h1⟩
 . rw [if_pos q] at hp
   rw [hp] at t
   unfold Y5
   simp only [chkF,Blk.F,Endd.F] at h1 hi t ⊢
   simp -implicitDefEqProofs only [hlt,hi,hw,h1,h2,h3,h4,h5,h6,t,List.length_map,XP,seval]
 . rw [if_neg q] at hp; exact absurd hp q
theorem yR (hT:T 176=some C1) (hE:T 177=some G4) (h:i < c.blocks.length) (hs:c.sok) (hp:¬ To m c c.blocks[i]=0) :
 evP ⟨A0,T,A3⟩ (.code Y5 [(1,.ptr 0 0 0),(56,fslN (c.blocks.map Blk.F)),(57,.int .i64 (c.blocks.length:Int)),(58,.int .i64 (i:Int))] ⟨[.row 1 [chkF m c] 7],0,[]⟩)=some (.ok .ret [(2,.int .i64 (To m c c.blocks[i]))] ⟨[],0,[]⟩):=by
 have hb:=hs.2 _ (List.getElem_mem h)
 have hlt:decide ((i:Int) < (c.blocks.length:Int))=true:=by simp [h]
 have hi:=B2 (F:=Blk.F) h
 have t:=fun K=>y9 (K:=K) (m:=m) (c:=c) (e:=c.blocks[i].e) hE
 unfold To at hp ⊢
 rcases cdi_l (m:=m) (c:=c) (i:=i) hT hb with ⟨q,fr',h1,h2,h3,h4,h5,h6⟩ | ⟨q,h1⟩
 . rw [if_pos q] at hp ⊢
   unfold Y5
   simp only [chkF,Blk.F,Endd.F] at h1 hi t ⊢
   simp -implicitDefEqProofs only [hlt,hi,h1,h2,h3,h4,h5,h6,t,eq_false hp,List.length_map,XP,seval]
 . rw [if_neg q]
   unfold Y5
   simp only [chkF,Blk.F] at h1 hi ⊢
   simp -implicitDefEqProofs only [hlt,hi,h1,List.length_map,XP,seval]
theorem yS:∃ fr',evP ⟨A0,T,A3⟩ (.code Y5 [(1,.ptr 0 0 0),(56,fslN (c.blocks.map Blk.F)),(57,.int .i64 (c.blocks.length:Int)),(58,.int .i64 (c.blocks.length:Int))] ⟨[.row 1 [chkF m c] 7],0,[]⟩)=some (.ok (.exit 1) fr' ⟨[.row 1 [chkF m c] 7],0,[]⟩)∧True:=by
 unfold Y5
 have hlt:decide ((c.blocks.length:Int) < (c.blocks.length:Int))=false:=by simp
 simp -implicitDefEqProofs only [hlt,XP,seval]
 exact ⟨_,rfl⟩
set_option maxHeartbeats 8000000 in
theorem Ab (hir_checker_instr:T 176=some C1) (hir_checker_end:T 177=some G4) (hir_checker_code_1:T 175=some C2) (nIdxFInts:T 221=none) (nContFInts:T 174=none) {m:Modl} {c:Cod} (hk:c.sok):AM.Comes ⟨A0,T,A3⟩ 112 [chkF m c] [.int .i64 (S2 m c)]:=by
 refine ⟨[.int .i64 (S2 m c)],⟨[],0,[]⟩,?_,B7 rfl List.nodup_nil rfl rfl rfl⟩
 rw [A8 (c:=mE) (nt:=84) (rs:=[.tmp 2]) rfl (by simp)]; unfold mE
 unfold K0
 have hl:c.regs.length≤bigN:=by have:=hk.1.1; simp only [bigN] at this ⊢; omega
 have tc:=fun K=>Ni (l:=c.regs) hir_checker_code_1 nIdxFInts nContFInts hl K
 have lp:=err_loop (P:=⟨A0,T,A3⟩) (c:=Y5) (f:=To m c) (l:=c.blocks) (S:=fun i=>[(1,.ptr 0 0 0),(56,fslN (c.blocks.map Blk.F)),(57,.int .i64 (c.blocks.length:Int)),(58,.int .i64 (i:Int))]) (K:=⟨[.row 1 [chkF m c] 7],0,[]⟩) (Q:=fun fr'=>True) (R:=fun e fr' K'=>fr'=[(2,.int .i64 e)]∧K'=⟨[],0,[]⟩)
  (fun k h hp=>yQ hir_checker_instr hir_checker_end h hk hp) (fun k h hp=>⟨_,_,yR hir_checker_instr hir_checker_end h hk hp,rfl,rfl⟩) yS
 unfold S2
 simp only [chkF] at tc lp ⊢
 have q400:decide ((400:Int) < (c.blocks.length:Int))=decide (400 < c.blocks.length):=decide_eq_decide.2 (by omega)
 have q4096:decide ((4096:Int) < (c.regs.length:Int))=decide (4096 < c.regs.length):=decide_eq_decide.2 (by omega)
 have q1':decide ((c.blocks.length:Int) < 1)=decide (c.blocks.length < 1):=decide_eq_decide.2 (by omega)
 by_cases q1:c.blocks.length < 1
 . simp -implicitDefEqProofs only [eq_true q1,q1',q400,q4096,List.length_map,XP,seval]
 by_cases q2:400 < c.blocks.length
 . simp -implicitDefEqProofs only [eq_false q1,eq_true q2,q1',q400,q4096,List.length_map,XP,seval]
 by_cases q3:4096 < c.regs.length
 . simp -implicitDefEqProofs only [eq_false q1,eq_false q2,eq_true q3,q1',q400,q4096,List.length_map,XP,seval]
 by_cases q4:c.ps < 0
 . simp -implicitDefEqProofs only [eq_false q1,eq_false q2,eq_false q3,eq_true q4,q1',q400,q4096,List.length_map,XP,seval]
 by_cases q5:(c.regs.length:Int) < c.ps
 . simp -implicitDefEqProofs only [eq_false q1,eq_false q2,eq_false q3,eq_false q4,eq_true q5,q1',q400,q4096,List.length_map,XP,seval]
 by_cases q6:c.ty < 0
 . simp -implicitDefEqProofs only [eq_false q1,eq_false q2,eq_false q3,eq_false q4,eq_false q5,eq_true q6,q1',q400,q4096,List.length_map,XP,seval]
 by_cases q7:2 < c.ty
 . simp -implicitDefEqProofs only [eq_false q1,eq_false q2,eq_false q3,eq_false q4,eq_false q5,eq_false q6,eq_true q7,q1',q400,q4096,List.length_map,XP,seval]
 cases q8:(c.regs.any fun n=>!E5 n) with
 | true=>simp -implicitDefEqProofs only [eq_false q1,eq_false q2,eq_false q3,eq_false q4,eq_false q5,eq_false q6,eq_false q7,tc,q8,q1',q400,q4096,List.length_map,XP,seval]
 | false =>
  rcases lp with ⟨q,fr',h1,_⟩ | ⟨q,fr',K',h1,rfl,rfl⟩
  . have h1:evP ⟨A0,T,A3⟩ (.code (.loop Y5) [(1,.ptr 0 0 0),(56,fslN (c.blocks.map Blk.F)),(57,.int .i64 (c.blocks.length:Int)),(58,.int .i64 0)] _)=_:=h1
    simp -implicitDefEqProofs only [eq_false q1,eq_false q2,eq_false q3,eq_false q4,eq_false q5,eq_false q6,eq_false q7,tc,q8,q,h1,q1',q400,q4096,List.length_map,XP,seval]
  . have h1:evP ⟨A0,T,A3⟩ (.code (.loop Y5) [(1,.ptr 0 0 0),(56,fslN (c.blocks.map Blk.F)),(57,.int .i64 (c.blocks.length:Int)),(58,.int .i64 0)] _)=_:=h1
    simp -implicitDefEqProofs only [eq_false q1,eq_false q2,eq_false q3,eq_false q4,eq_false q5,eq_false q6,eq_false q7,tc,q8,h1,q1',q400,q4096,List.length_map,XP,seval]
def F3:=b9 (fun p:(Modl) × (Cod)=>[chkF p.1 p.2]) (fun p=>[.int .i64 (S2 p.1 p.2)]) (fun p=>p.2.sok)
theorem r7 (hir_checker_code:T 112=some F3) {m:Modl} {c:Cod} {K:PK} (hk:c.sok):evP ⟨A0,T,A3⟩ (.call 112 [chkF m c] K)=some (.val (openTs K.os.length [.int .i64 (S2 m c)]).1 ⟨K.os ++ (openTs K.os.length [.int .i64 (S2 m c)]).2,K.ext,K.tch⟩):=B8 hir_checker_code (by simp -implicitDefEqProofs only [VV,XP,seval]) (C3 (a:=fun p:(Modl) × (Cod)=>[chkF p.1 p.2]) (r:=fun p=>[.int .i64 (S2 p.1 p.2)]) (fun x y e=>by simp only [VJ] at e; simp only [e]) (m,c) hk) (by simp -implicitDefEqProofs only [VN,XP,seval])
theorem Dw (hir_checker_instr:T 176=some C1) (hir_checker_end:T 177=some G4) (hir_checker_code_1:T 175=some C2) (nIdxFInts:T 221=none) (nContFInts:T 174=none) (hP:PEok ⟨A0,T,A3⟩):TC A0 112 F3:=C8 hP fun p h=>Ab hir_checker_instr hir_checker_end hir_checker_code_1 nIdxFInts nContFInts h
end
end Go.Proofs.AmEnv
set_option maxRecDepth 100000
namespace Go.Proofs.AmEnv
open Go Go.AM
variable {T:Nat->Option (List AV->Option (List AV))}
section
variable {m:Modl} {c:Cod} {g:Glo} {i k:Nat}
def Tp (g:Glo):Int:=if E5 g.ty=true then 0 else if g.ty=3 then (if g.size < 1 then 6 else 0) else 6
def Bm (m:Modl):Int:=idxOf (fun c:Cod=>decide (c.name=B0)) m.fs
def rN (m:Modl):Int:=if Bm m < 0 then 12 else if (codI m.fs (Bm m)).ty=1 then (if (codI m.fs (Bm m)).ps=0 then 0 else 12) else 12
def Z0 (m:Modl):Int:=if I0 (m.gs.map Tp)=0 then (if I0 (m.fs.map (S2 m))=0 then rN m else I0 (m.fs.map (S2 m))) else I0 (m.gs.map Tp)
theorem yT (hT:T 111=some K6) (h:i < m.gs.length) (hs:m.gs.length≤bigN) (hp:Tp m.gs[i]=0) :
 evP ⟨A0,T,A3⟩ (.code Dc [(1,.ptr 0 0 0),(10,fslN (m.gs.map Glo.F)),(11,.int .i64 (m.gs.length:Int)),(12,.int .i64 (i:Int))] ⟨[.row 1 [m.F] 2],0,[]⟩)=some (.ok .normal [(1,.ptr 0 0 0),(10,fslN (m.gs.map Glo.F)),(11,.int .i64 (m.gs.length:Int)),(12,.int .i64 ((i + 1:Nat):Int))] ⟨[.row 1 [m.F] 2],0,[]⟩):=by
 unfold Dc
 have hlt:decide ((i:Int) < (m.gs.length:Int))=true:=by simp [h]
 have hw:=B3 (i:=i) (by simp only [bigN] at hs; omega)
 have t:=fun K=>Dt (K:=K) (n:=m.gs[i].ty) hT
 have hi:=B2 (F:=Glo.F) h
 unfold Tp at hp
 simp only [Glo.F,Modl.F] at t hi ⊢
 cases q:E5 m.gs[i].ty with
 | true=>rw [q] at t; simp -implicitDefEqProofs only [hlt,hi,hw,t,XP,seval]
 | false =>
  rw [q] at t hp
  by_cases q3:m.gs[i].ty=3
  . by_cases q4:m.gs[i].size < 1
    . rw [if_neg (by decide),if_pos q3,if_pos q4] at hp; cases hp
    . simp -implicitDefEqProofs only [hlt,hi,hw,t,eq_true q3,eq_false q4,XP,seval]
  . rw [if_neg (by decide),if_neg q3] at hp; cases hp
theorem yU (hT:T 111=some K6) (h:i < m.gs.length) (hp:¬ Tp m.gs[i]=0) :
 evP ⟨A0,T,A3⟩ (.code Dc [(1,.ptr 0 0 0),(10,fslN (m.gs.map Glo.F)),(11,.int .i64 (m.gs.length:Int)),(12,.int .i64 (i:Int))] ⟨[.row 1 [m.F] 2],0,[]⟩)=some (.ok .ret [(2,.int .i64 (Tp m.gs[i]))] ⟨[],0,[]⟩):=by
 unfold Dc
 have hlt:decide ((i:Int) < (m.gs.length:Int))=true:=by simp [h]
 have t:=fun K=>Dt (K:=K) (n:=m.gs[i].ty) hT
 have hi:=B2 (F:=Glo.F) h
 unfold Tp at hp ⊢
 simp only [Glo.F,Modl.F] at t hi ⊢
 cases q:E5 m.gs[i].ty with
 | true=>rw [q] at hp; exact absurd rfl hp
 | false =>
  rw [q] at t hp
  by_cases q3:m.gs[i].ty=3
  . by_cases q4:m.gs[i].size < 1
    . simp -implicitDefEqProofs only [hlt,hi,t,eq_true q3,eq_true q4,XP,seval]
    . rw [if_neg (by decide),if_pos q3,if_neg q4] at hp; exact absurd rfl hp
  . simp -implicitDefEqProofs only [hlt,hi,t,eq_false q3,XP,seval]
theorem yV:∃ fr',evP ⟨A0,T,A3⟩ (.code Dc [(1,.ptr 0 0 0),(10,fslN (m.gs.map Glo.F)),(11,.int .i64 (m.gs.length:Int)),(12,.int .i64 (m.gs.length:Int))] ⟨[.row 1 [m.F] 2],0,[]⟩)=some (.ok (.exit 0) fr' ⟨[.row 1 [m.F] 2],0,[]⟩)∧lookP fr' 1=.ptr 0 0 0:=by
 unfold Dc
 have hlt:decide ((m.gs.length:Int) < (m.gs.length:Int))=false:=by simp
 simp -implicitDefEqProofs only [hlt,XP,seval]
 exact ⟨_,rfl,rfl⟩
theorem yW (hT:T 112=some F3) (h:i < m.fs.length) (hs:m.ok) (hp:S2 m m.fs[i]=0) :
 evP ⟨A0,T,A3⟩ (.code Dd [(1,.ptr 0 0 0),(32,fslN (m.fs.map Cod.F)),(33,.int .i64 (m.fs.length:Int)),(34,.int .i64 (i:Int))] ⟨[.row 1 [m.F] 2],0,[]⟩)=some (.ok .normal [(1,.ptr 0 0 0),(32,fslN (m.fs.map Cod.F)),(33,.int .i64 (m.fs.length:Int)),(34,.int .i64 ((i + 1:Nat):Int))] ⟨[.row 1 [m.F] 2],0,[]⟩):=by
 unfold Dd
 have hlt:decide ((i:Int) < (m.fs.length:Int))=true:=by simp [h]
 have hw:=B3 (i:=i) (by have:=hs.2.1; simp only [bigN] at this; omega)
 have t:=fun K=>r7 (K:=K) (m:=m) (c:=m.fs[i]) hT (hs.1 _ (List.getElem_mem h))
 rw [hp] at t
 have hi:=B2 (F:=Cod.F) h
 simp only [Cod.F,Modl.F,chkF] at t hi ⊢
 simp -implicitDefEqProofs only [hlt,hi,hw,t,XP,seval]
theorem yX (hT:T 112=some F3) (h:i < m.fs.length) (hs:m.ok) (hp:¬ S2 m m.fs[i]=0) :
 evP ⟨A0,T,A3⟩ (.code Dd [(1,.ptr 0 0 0),(32,fslN (m.fs.map Cod.F)),(33,.int .i64 (m.fs.length:Int)),(34,.int .i64 (i:Int))] ⟨[.row 1 [m.F] 2],0,[]⟩)=some (.ok .ret [(2,.int .i64 (S2 m m.fs[i]))] ⟨[],0,[]⟩):=by
 unfold Dd
 have hlt:decide ((i:Int) < (m.fs.length:Int))=true:=by simp [h]
 have t:=fun K=>r7 (K:=K) (m:=m) (c:=m.fs[i]) hT (hs.1 _ (List.getElem_mem h))
 have hi:=B2 (F:=Cod.F) h
 simp only [Cod.F,Modl.F,chkF] at t hi ⊢
 simp -implicitDefEqProofs only [hlt,hi,t,eq_false hp,XP,seval]
theorem yY:∃ fr',evP ⟨A0,T,A3⟩ (.code Dd [(1,.ptr 0 0 0),(32,fslN (m.fs.map Cod.F)),(33,.int .i64 (m.fs.length:Int)),(34,.int .i64 (m.fs.length:Int))] ⟨[.row 1 [m.F] 2],0,[]⟩)=some (.ok (.exit 2) fr' ⟨[.row 1 [m.F] 2],0,[]⟩)∧lookP fr' 1=.ptr 0 0 0:=by
 unfold Dd
 have hlt:decide ((m.fs.length:Int) < (m.fs.length:Int))=false:=by simp
 simp -implicitDefEqProofs only [hlt,XP,seval]
 exact ⟨_,rfl,rfl⟩
theorem jL {X:Type} {p:X->Bool} {l:List X} (h:¬ idxOf p l < 0):∃ k:Nat,idxOf p l=k∧∃ hk:k < l.length,p l[k]=true:=by
 unfold idxOf at h ⊢
 cases q:l.findIdx? p with
 | none=>rw [q] at h; exact absurd (by decide) h
 | some i =>
  rw [List.findIdx?_eq_some_iff_getElem] at q
  exact ⟨i,rfl,q.1,q.2.1⟩
set_option maxHeartbeats 8000000 in
theorem Nn (hir_number:T 111=some K6) (hir_checker_code:T 112=some F3) (hir_mainOf:T 113=some Y8) {m:Modl} (hk:m.ok):AM.Comes ⟨A0,T,A3⟩ 40 [m.F] [.int .i64 (Z0 m)]:=by
 refine ⟨[.int .i64 (Z0 m)],⟨[],0,[]⟩,?_,B7 rfl List.nodup_nil rfl rfl rfl⟩
 rw [A8 (c:=CW) (nt:=68) (rs:=[.tmp 2]) rfl (by simp)]; unfold CW
 unfold K0
 have hgl:m.gs.length≤bigN:=by have:=hk.2.2; simp only [bigN] at this ⊢; omega
 have hfl:m.fs.length≤bigN:=by have:=hk.2.1; simp only [bigN] at this ⊢; omega
 have tm:=fun K=>Zy (K:=K) (m:=m) hir_mainOf hfl
 have tm:∀ K:PK,evP ⟨A0,T,A3⟩ (.call 113 [m.F] K)=some (.val (openTs K.os.length [.int .i64 (Bm m)]).1 ⟨K.os ++ (openTs K.os.length [.int .i64 (Bm m)]).2,K.ext,K.tch⟩):=tm
 have l1:=err_loop (P:=⟨A0,T,A3⟩) (c:=Dc) (f:=Tp) (l:=m.gs) (S:=fun i=>[(1,.ptr 0 0 0),(10,fslN (m.gs.map Glo.F)),(11,.int .i64 (m.gs.length:Int)),(12,.int .i64 (i:Int))]) (K:=⟨[.row 1 [m.F] 2],0,[]⟩) (Q:=fun fr'=>lookP fr' 1=.ptr 0 0 0) (R:=fun e fr' K'=>fr'=[(2,.int .i64 e)]∧K'=⟨[],0,[]⟩)
  (fun k h hp=>yT hir_number h hgl hp) (fun k h hp=>⟨_,_,yU hir_number h hp,rfl,rfl⟩) yV
 have l2:=err_loop (P:=⟨A0,T,A3⟩) (c:=Dd) (f:=S2 m) (l:=m.fs) (S:=fun i=>[(1,.ptr 0 0 0),(32,fslN (m.fs.map Cod.F)),(33,.int .i64 (m.fs.length:Int)),(34,.int .i64 (i:Int))]) (K:=⟨[.row 1 [m.F] 2],0,[]⟩) (Q:=fun fr'=>lookP fr' 1=.ptr 0 0 0) (R:=fun e fr' K'=>fr'=[(2,.int .i64 e)]∧K'=⟨[],0,[]⟩)
  (fun k h hp=>yW hir_checker_code h hk hp) (fun k h hp=>⟨_,_,yX hir_checker_code h hk hp,rfl,rfl⟩) yY
 unfold Z0
 simp only [Modl.F] at tm l1 l2 ⊢
 rcases l1 with ⟨q,fr',h1,h2⟩ | ⟨q,fr',K',h1,rfl,rfl⟩
 . have h1:evP ⟨A0,T,A3⟩ (.code (.loop Dc) [(1,.ptr 0 0 0),(10,fslN (m.gs.map Glo.F)),(11,.int .i64 (m.gs.length:Int)),(12,.int .i64 0)] _)=_:=h1
   rw [if_pos q]
   rcases l2 with ⟨q2,fr2,h3,h4⟩ | ⟨q2,fr2,K2,h3,rfl,rfl⟩
   . have h3:evP ⟨A0,T,A3⟩ (.code (.loop Dd) [(1,.ptr 0 0 0),(32,fslN (m.fs.map Cod.F)),(33,.int .i64 (m.fs.length:Int)),(34,.int .i64 0)] _)=_:=h3
     rw [if_pos q2]
     unfold rN
     by_cases hm:Bm m < 0
     . simp -implicitDefEqProofs only [h1,h2,h3,h4,tm,eq_true hm,List.length_map,XP,seval]
     . obtain ⟨k,hk1,hk2,_⟩:=jL hm
       have hi:=Fs hk2
       have hk1:Bm m=k:=hk1
       have hix:Yb Bc (fslN (m.fs.map Cod.F)) (.int .i64 (Bm m))=some (.fptr (codI m.fs (Bm m)).F 0):=by
        rw [hk1]; exact ix_fslN hi rfl
       simp only [Cod.F] at hix
       by_cases h5:(codI m.fs (Bm m)).ty=1
       . by_cases h6:(codI m.fs (Bm m)).ps=0
         . simp -implicitDefEqProofs only [h1,h2,h3,h4,tm,eq_false hm,hix,eq_true h5,eq_true h6,List.length_map,XP,seval]
         . simp -implicitDefEqProofs only [h1,h2,h3,h4,tm,eq_false hm,hix,eq_true h5,eq_false h6,List.length_map,XP,seval]
       . simp -implicitDefEqProofs only [h1,h2,h3,h4,tm,eq_false hm,hix,eq_false h5,List.length_map,XP,seval]
   . have h3:evP ⟨A0,T,A3⟩ (.code (.loop Dd) [(1,.ptr 0 0 0),(32,fslN (m.fs.map Cod.F)),(33,.int .i64 (m.fs.length:Int)),(34,.int .i64 0)] _)=_:=h3
     rw [if_neg q2]
     simp -implicitDefEqProofs only [h1,h2,h3,List.length_map,XP,seval]
 . have h1:evP ⟨A0,T,A3⟩ (.code (.loop Dc) [(1,.ptr 0 0 0),(10,fslN (m.gs.map Glo.F)),(11,.int .i64 (m.gs.length:Int)),(12,.int .i64 0)] _)=_:=h1
   rw [if_neg q]
   simp -implicitDefEqProofs only [h1,List.length_map,XP,seval]
def r8:=b9 (fun p:(Modl)=>[p.F]) (fun p=>[.int .i64 (Z0 p)]) (fun p=>p.ok)
theorem fA (hir_Check:T 40=some r8) {m:Modl} {K:PK} (hk:m.ok):evP ⟨A0,T,A3⟩ (.call 40 [m.F] K)=some (.val (openTs K.os.length [.int .i64 (Z0 m)]).1 ⟨K.os ++ (openTs K.os.length [.int .i64 (Z0 m)]).2,K.ext,K.tch⟩):=B8 hir_Check (by simp -implicitDefEqProofs only [VV,XP,seval]) (C3 (a:=fun p:(Modl)=>[p.F]) (r:=fun p=>[.int .i64 (Z0 p)]) (fun x y e=>by simp only [VJ] at e; simp only [e]) (m) hk) (by simp -implicitDefEqProofs only [VN,XP,seval])
theorem Wu (hir_number:T 111=some K6) (hir_checker_code:T 112=some F3) (hir_mainOf:T 113=some Y8) (hP:PEok ⟨A0,T,A3⟩):TC A0 40 r8:=C8 hP fun p h=>Nn hir_number hir_checker_code hir_mainOf h
end
end Go.Proofs.AmEnv
set_option maxRecDepth 100000
namespace Go.Proofs.AmEnv
open Go Go.AM
variable {T:Nat->Option (List AV->Option (List AV))}
def No {A X ρ:Type} (f:A->X->A ⊕ ρ):A->List X->A ⊕ ρ
 | a,[]=>.inl a
 | a,x :: l=>match f a x with | .inl a=>No f a l | .inr r=>.inr r
theorem aD {P:PE} {c:PC} {A X ρ:Type} {f:A->X->A ⊕ ρ} {l:List X} {S:Nat->A->PF} {K:A->PK} {x:Nat} {Q:A->PF->Prop} {R:ρ->PF->PK->Prop}
 (h1:∀ i a a' (h:i < l.length),f a l[i]=.inl a'->evP P (.code c (S i a) (K a))=some (.ok .normal (S (i + 1) a') (K a')))
 (h2:∀ i a r (h:i < l.length),f a l[i]=.inr r->∃ fr' K',evP P (.code c (S i a) (K a))=some (.ok .ret fr' K')∧R r fr' K')
 (hx:∀ a,∃ fr',evP P (.code c (S l.length a) (K a))=some (.ok (.exit x) fr' (K a))∧Q a fr') (a:A) :
 (∃ a',No f a l=.inl a'∧∃ fr',evP P (.code (.loop c) (S 0 a) (K a))=some (.ok (.exit x) fr' (K a'))∧Q a' fr')∨(∃ r,No f a l=.inr r∧∃ fr' K',evP P (.code (.loop c) (S 0 a) (K a))=some (.ok .ret fr' K')∧R r fr' K'):=by
 have key:∀ (n i:Nat) (a:A),l.length=i + n->(∃ a',No f a (l.drop i)=.inl a'∧∃ fr',evP P (.code (.loop c) (S i a) (K a))=some (.ok (.exit x) fr' (K a'))∧Q a' fr')∨(∃ r,No f a (l.drop i)=.inr r∧∃ fr' K',evP P (.code (.loop c) (S i a) (K a))=some (.ok .ret fr' K')∧R r fr' K'):=fun n=>by
  induction n with
  | zero =>
   intro i a e
   obtain rfl:i=l.length:=by omega
   obtain ⟨fr',h,q⟩:=hx a
   exact .inl ⟨a,by rw [List.drop_length]; rfl,fr',D3 h,q⟩
  | succ n ih =>
   intro i a e
   have hl:i < l.length:=by omega
   rw [List.drop_eq_getElem_cons hl]
   unfold No
   cases hq:f a l[i] with
   | inl a'=>rw [E6 (h1 i a a' hl hq)]; exact ih (i + 1) a' (by omega)
   | inr r =>
    obtain ⟨fr',K',q1,q2⟩:=h2 i a r hl hq
    exact .inr ⟨r,rfl,fr',K',Z8 q1,q2⟩
 exact key l.length 0 a (by omega)
theorem Cg {P:PE} {c:PC} {A X:Type} {f:A->X->A} {l:List X} {S:Nat->A->PF} {K:A->PK} {x:Nat} {Q:A->PF->Prop}
 (h1:∀ i a (h:i < l.length),evP P (.code c (S i a) (K a))=some (.ok .normal (S (i + 1) (f a l[i])) (K (f a l[i]))))
 (hx:∀ a,∃ fr',evP P (.code c (S l.length a) (K a))=some (.ok (.exit x) fr' (K a))∧Q a fr') (a:A) :
 ∃ fr',evP P (.code (.loop c) (S 0 a) (K a))=some (.ok (.exit x) fr' (K (l.foldl f a)))∧Q (l.foldl f a) fr':=by
 have key:∀ (n i:Nat) (a:A),l.length=i + n->∃ fr',evP P (.code (.loop c) (S i a) (K a))=some (.ok (.exit x) fr' (K ((l.drop i).foldl f a)))∧Q ((l.drop i).foldl f a) fr':=fun n=>by
  induction n with
  | zero =>
   intro i a e
   obtain rfl:i=l.length:=by omega
   obtain ⟨fr',h,q⟩:=hx a
   exact ⟨fr',by rw [List.drop_length]; exact D3 h,by rw [List.drop_length]; exact q⟩
  | succ n ih =>
   intro i a e
   have hl:i < l.length:=by omega
   rw [List.drop_eq_getElem_cons hl,List.foldl_cons,E6 (h1 i a hl)]
   exact ih (i + 1) _ (by omega)
 exact key l.length 0 a (by omega)
section
variable {m:Modl} {c:Cod} {i j k:Nat} {n:Int}
def O2 (a:Int) (n:Nat):Int:=IntKind.i64.wrap (a + (n:Int))
def yZ (a:Int) (b:Blk):Int:=b.code.foldl (fun a x=>O2 a x.args.length) (O2 a b.code.length)
def uH (a:Int) (c:Cod):Int:=c.blocks.foldl yZ (O2 (O2 a c.regs.length) c.blocks.length)
def DE (a:Int) (c:Cod):Int ⊕ Unit:=if 3000 < uH a c then .inr () else .inl (uH a c)
def x4 (m:Modl):Bool:=if 20 < m.gs.length then true else if 12 < m.fs.length then true else if (m.gs.all fun g=>!decide (1024 < g.size))=true then (No DE 0 m.fs).isRight else true
def zA (a:Int) (c:Cod):Int:=c.blocks.foldl (fun a b=>O2 a b.code.length) (O2 (O2 a c.regs.length) c.blocks.length)
def m5 (m:Modl):Bool:=if 1000 < m.fs.foldl zA 0 then true else if 12 < m.fs.length then true else if x4 m=true then true else !decide (Z0 m=0)
theorem zB (h:i < m.gs.length) (hs:m.gs.length≤bigN) (hp:(!decide (1024 < m.gs[i].size))=true):evP ⟨A0,T,A3⟩ (.code Db [(1,.ptr 0 0 0),(3,.int .i64 n),(4,.int .i64 (i:Int))] ⟨[.row 1 [m.F] 2],0,[]⟩)=some (.ok .normal [(1,.ptr 0 0 0),(3,.int .i64 n),(4,.int .i64 ((i + 1:Nat):Int))] ⟨[.row 1 [m.F] 2],0,[]⟩):=by
 unfold Db
 have hlt:decide ((i:Int) < (m.gs.length:Int))=true:=by simp [h]
 have hw:=B3 (i:=i) (by simp only [bigN] at hs; omega)
 have hi:=B2 (F:=Glo.F) h
 have hp:decide (1024 < m.gs[i].size)=false:=by simpa using hp
 simp only [Glo.F,Modl.F] at hi ⊢
 simp -implicitDefEqProofs only [hlt,hi,hw,hp,List.length_map,XP,seval]
theorem zC (h:i < m.gs.length) (hp:(!decide (1024 < m.gs[i].size))=false):evP ⟨A0,T,A3⟩ (.code Db [(1,.ptr 0 0 0),(3,.int .i64 n),(4,.int .i64 (i:Int))] ⟨[.row 1 [m.F] 2],0,[]⟩)=some (.ok .ret [(2,.bool true)] ⟨[],0,[]⟩):=by
 unfold Db
 have hlt:decide ((i:Int) < (m.gs.length:Int))=true:=by simp [h]
 have hi:=B2 (F:=Glo.F) h
 have hp:decide (1024 < m.gs[i].size)=true:=by simpa using hp
 simp only [Glo.F,Modl.F] at hi ⊢
 simp -implicitDefEqProofs only [hlt,hi,hp,List.length_map,XP,seval]
theorem zD:∃ fr',evP ⟨A0,T,A3⟩ (.code Db [(1,.ptr 0 0 0),(3,.int .i64 n),(4,.int .i64 (m.gs.length:Int))] ⟨[.row 1 [m.F] 2],0,[]⟩)=some (.ok (.exit 0) fr' ⟨[.row 1 [m.F] 2],0,[]⟩)∧(lookP fr' 1=.ptr 0 0 0∧lookP fr' 3=.int .i64 n):=by
 unfold Db
 have hlt:decide ((m.gs.length:Int) < (m.gs.length:Int))=false:=by simp
 simp only [Modl.F]
 simp -implicitDefEqProofs only [hlt,List.length_map,XP,seval]
 exact ⟨_,rfl,rfl,rfl⟩
theorem zE (hj:j < c.blocks.length) (hk:k < c.blocks[j].code.length) (hs:c.ok):evP ⟨A0,T,A3⟩ (.code Mr [(1,.ptr 0 0 0),(3,.int .i64 n),(5,.int .i64 (i:Int)),(6,.ptr 1 0 0),(7,.int .i64 (j:Int)),(8,.int .i64 (k:Int))] ⟨[.row 1 [m.F] 2,.row 1 [c.F] 5],0,[]⟩)=some (.ok .normal [(1,.ptr 0 0 0),(3,.int .i64 (O2 n c.blocks[j].code[k].args.length)),(5,.int .i64 (i:Int)),(6,.ptr 1 0 0),(7,.int .i64 (j:Int)),(8,.int .i64 ((k + 1:Nat):Int))] ⟨[.row 1 [m.F] 2,.row 1 [c.F] 5],0,[]⟩):=by
 unfold Mr O2
 have hb:=hs.2.1 _ (List.getElem_mem hj)
 have hlt:decide ((k:Int) < (c.blocks[j].code.length:Int))=true:=by simp [hk]
 have hw:=B3 (i:=k) (by have:=hb.2; simp only [bigN] at this; omega)
 have hi:=B2 (F:=Blk.F) hj
 have hi2:=B2 (F:=Ins.F) hk
 simp only [Blk.F,Ins.F,Modl.F,Cod.F] at hi hi2 ⊢
 simp -implicitDefEqProofs only [hlt,hi,hi2,hw,List.length_map,XP,seval]
theorem zF (hj:j < c.blocks.length):∃ fr',evP ⟨A0,T,A3⟩ (.code Mr [(1,.ptr 0 0 0),(3,.int .i64 n),(5,.int .i64 (i:Int)),(6,.ptr 1 0 0),(7,.int .i64 (j:Int)),(8,.int .i64 (c.blocks[j].code.length:Int))] ⟨[.row 1 [m.F] 2,.row 1 [c.F] 5],0,[]⟩)=some (.ok (.exit 6) fr' ⟨[.row 1 [m.F] 2,.row 1 [c.F] 5],0,[]⟩)∧(lookP fr' 1=.ptr 0 0 0∧lookP fr' 3=.int .i64 n∧lookP fr' 5=.int .i64 (i:Int)∧lookP fr' 6=.ptr 1 0 0∧lookP fr' 7=.int .i64 (j:Int)):=by
 unfold Mr
 have hlt:decide ((c.blocks[j].code.length:Int) < (c.blocks[j].code.length:Int))=false:=by simp
 have hi:=B2 (F:=Blk.F) hj
 simp only [Blk.F,Modl.F,Cod.F] at hi ⊢
 simp -implicitDefEqProofs only [hlt,hi,List.length_map,XP,seval]
 exact ⟨_,rfl,rfl,rfl,rfl,rfl,rfl⟩
theorem zG (hj:j < c.blocks.length) (hs:c.ok):evP ⟨A0,T,A3⟩ (.code Ms [(1,.ptr 0 0 0),(3,.int .i64 n),(5,.int .i64 (i:Int)),(6,.ptr 1 0 0),(7,.int .i64 (j:Int))] ⟨[.row 1 [m.F] 2,.row 1 [c.F] 5],0,[]⟩)=some (.ok .normal [(1,.ptr 0 0 0),(3,.int .i64 (yZ n c.blocks[j])),(5,.int .i64 (i:Int)),(6,.ptr 1 0 0),(7,.int .i64 ((j + 1:Nat):Int))] ⟨[.row 1 [m.F] 2,.row 1 [c.F] 5],0,[]⟩):=by
 have hlt:decide ((j:Int) < (c.blocks.length:Int))=true:=by simp [hj]
 have hw:=B3 (i:=j) (by have:=hs.2.2; simp only [bigN] at this; omega)
 have hi:=B2 (F:=Blk.F) hj
 obtain ⟨fr',h1,h2,h3,h4,h5,h6⟩:=Cg (P:=⟨A0,T,A3⟩) (c:=Mr) (f:=fun a (x:Ins)=>O2 a x.args.length) (l:=c.blocks[j].code) (S:=fun k n=>[(1,.ptr 0 0 0),(3,.int .i64 n),(5,.int .i64 (i:Int)),(6,.ptr 1 0 0),(7,.int .i64 (j:Int)),(8,.int .i64 (k:Int))]) (K:=fun _=>⟨[.row 1 [m.F] 2,.row 1 [c.F] 5],0,[]⟩) (x:=6) (Q:=fun n fr'=>lookP fr' 1=.ptr 0 0 0∧lookP fr' 3=.int .i64 n∧lookP fr' 5=.int .i64 (i:Int)∧lookP fr' 6=.ptr 1 0 0∧lookP fr' 7=.int .i64 (j:Int)) (fun k a h=>zE hj h hs) (fun a=>zF hj) (O2 n c.blocks[j].code.length)
 have h1:evP ⟨A0,T,A3⟩ (.code (.loop Mr) [(1,.ptr 0 0 0),(3,.int .i64 (O2 n c.blocks[j].code.length)),(5,.int .i64 (i:Int)),(6,.ptr 1 0 0),(7,.int .i64 (j:Int)),(8,.int .i64 0)] ⟨[.row 1 [m.F] 2,.row 1 [c.F] 5],0,[]⟩)=_:=h1
 have hn:yZ n c.blocks[j]=c.blocks[j].code.foldl (fun a x=>O2 a x.args.length) (O2 n c.blocks[j].code.length):=rfl
 rw [← hn] at h3
 unfold Ms
 unfold O2 at h1
 simp only [Blk.F,Modl.F,Cod.F] at hi h1 ⊢
 simp -implicitDefEqProofs only [hlt,hi,h1,h2,h3,h4,h5,h6,hw,List.length_map,XP,seval]
theorem zH:∃ fr',evP ⟨A0,T,A3⟩ (.code Ms [(1,.ptr 0 0 0),(3,.int .i64 n),(5,.int .i64 (i:Int)),(6,.ptr 1 0 0),(7,.int .i64 (c.blocks.length:Int))] ⟨[.row 1 [m.F] 2,.row 1 [c.F] 5],0,[]⟩)=some (.ok (.exit 4) fr' ⟨[.row 1 [m.F] 2,.row 1 [c.F] 5],0,[]⟩)∧(lookP fr' 1=.ptr 0 0 0∧lookP fr' 3=.int .i64 n∧lookP fr' 5=.int .i64 (i:Int)):=by
 unfold Ms
 have hlt:decide ((c.blocks.length:Int) < (c.blocks.length:Int))=false:=by simp
 simp only [Modl.F,Cod.F]
 simp -implicitDefEqProofs only [hlt,List.length_map,XP,seval]
 exact ⟨_,rfl,rfl,rfl,rfl⟩
theorem b6c (h:i < m.fs.length) (hs:m.ok):(3000 < uH n m.fs[i]->evP ⟨A0,T,A3⟩ (.code Fi [(1,.ptr 0 0 0),(3,.int .i64 n),(5,.int .i64 (i:Int))] ⟨[.row 1 [m.F] 2],0,[]⟩)=some (.ok .ret [(2,.bool true)] ⟨[],0,[]⟩))∧(¬ 3000 < uH n m.fs[i]->evP ⟨A0,T,A3⟩ (.code Fi [(1,.ptr 0 0 0),(3,.int .i64 n),(5,.int .i64 (i:Int))] ⟨[.row 1 [m.F] 2],0,[]⟩)=some (.ok .normal [(1,.ptr 0 0 0),(3,.int .i64 (uH n m.fs[i])),(5,.int .i64 ((i + 1:Nat):Int))] ⟨[.row 1 [m.F] 2],0,[]⟩)):=by
 have hc:=(hs.1 _ (List.getElem_mem h)).1
 have hlt:decide ((i:Int) < (m.fs.length:Int))=true:=by simp [h]
 have hw:=B3 (i:=i) (by have:=hs.2.1; simp only [bigN] at this; omega)
 have hi:=B2 (F:=Cod.F) h
 generalize m.fs[i]=c at hc hi
 obtain ⟨fr',h1,h2,h3,h4⟩:=Cg (P:=⟨A0,T,A3⟩) (c:=Ms) (f:=yZ) (l:=c.blocks) (S:=fun j n=>[(1,.ptr 0 0 0),(3,.int .i64 n),(5,.int .i64 (i:Int)),(6,.ptr 1 0 0),(7,.int .i64 (j:Int))]) (K:=fun _=>⟨[.row 1 [m.F] 2,.row 1 [c.F] 5],0,[]⟩) (x:=4) (Q:=fun n fr'=>lookP fr' 1=.ptr 0 0 0∧lookP fr' 3=.int .i64 n∧lookP fr' 5=.int .i64 (i:Int)) (fun k a h=>zG h hc) (fun a=>zH) (O2 (O2 n c.regs.length) c.blocks.length)
 have h1:evP ⟨A0,T,A3⟩ (.code (.loop Ms) [(1,.ptr 0 0 0),(3,.int .i64 (O2 (O2 n c.regs.length) c.blocks.length)),(5,.int .i64 (i:Int)),(6,.ptr 1 0 0),(7,.int .i64 0)] ⟨[.row 1 [m.F] 2,.row 1 [c.F] 5],0,[]⟩)=_:=h1
 have hn:uH n c=c.blocks.foldl yZ (O2 (O2 n c.regs.length) c.blocks.length):=rfl
 rw [← hn] at h3
 unfold Fi
 unfold O2 at h1
 simp only [Modl.F,Cod.F] at hi h1 ⊢
 constructor
 . intro hq
   simp -implicitDefEqProofs only [hlt,hi,h1,h2,h3,h4,eq_true hq,List.length_map,XP,seval]
 . intro hq
   simp -implicitDefEqProofs only [hlt,hi,h1,h2,h3,h4,hw,eq_false hq,List.length_map,XP,seval]
theorem zI:∃ fr',evP ⟨A0,T,A3⟩ (.code Fi [(1,.ptr 0 0 0),(3,.int .i64 n),(5,.int .i64 (m.fs.length:Int))] ⟨[.row 1 [m.F] 2],0,[]⟩)=some (.ok (.exit 2) fr' ⟨[.row 1 [m.F] 2],0,[]⟩)∧True:=by
 unfold Fi
 have hlt:decide ((m.fs.length:Int) < (m.fs.length:Int))=false:=by simp
 simp only [Modl.F]
 simp -implicitDefEqProofs only [hlt,List.length_map,XP,seval]
 exact ⟨_,rfl⟩
set_option maxHeartbeats 4000000 in
theorem Jz  {m:Modl} (hk:m.ok):AM.Comes ⟨A0,T,A3⟩ 39 [m.F] [.bool (x4 m)]:=by
 refine ⟨[.bool (x4 m)],⟨[],0,[]⟩,?_,B7 rfl List.nodup_nil rfl rfl rfl⟩
 rw [A8 (c:=CV) (nt:=96) (rs:=[.tmp 2]) rfl (by simp)]; unfold CV
 unfold K0
 have hgl:m.gs.length≤bigN:=by have:=hk.2.2; simp only [bigN] at this ⊢; omega
 have l1:=Nl (P:=⟨A0,T,A3⟩) (c:=Db) (p:=fun g:Glo=>!decide (1024 < g.size)) (l:=m.gs) (S:=fun i=>[(1,.ptr 0 0 0),(3,.int .i64 0),(4,.int .i64 (i:Int))]) (K:=⟨[.row 1 [m.F] 2],0,[]⟩) (x:=0) (Q:=fun fr'=>lookP fr' 1=.ptr 0 0 0∧lookP fr' 3=.int .i64 0) (R:=fun fr' K'=>fr'=[(2,.bool true)]∧K'=⟨[],0,[]⟩)
  (fun i h hp=>zB h hgl hp) (fun i h hp=>⟨_,_,zC h hp,rfl,rfl⟩) zD
 have l2:=aD (P:=⟨A0,T,A3⟩) (c:=Fi) (f:=DE) (l:=m.fs) (S:=fun i n=>[(1,.ptr 0 0 0),(3,.int .i64 n),(5,.int .i64 (i:Int))]) (K:=fun _=>⟨[.row 1 [m.F] 2],0,[]⟩) (x:=2) (Q:=fun n fr'=>True) (R:=fun r fr' K'=>fr'=[(2,.bool true)]∧K'=⟨[],0,[]⟩)
  (fun i a a' h hp=>by
    unfold DE at hp
    split at hp
    . cases hp
    . rename_i hq
      cases hp; exact (b6c h hk).2 hq) (fun i a r h hp=>by
    unfold DE at hp
    split at hp
    . rename_i hq
      exact ⟨_,_,(b6c h hk).1 hq,rfl,rfl⟩
    . cases hp) (fun a=>zI) 0
 have q20:decide ((20:Int) < (m.gs.length:Int))=decide (20 < m.gs.length):=decide_eq_decide.2 (by omega)
 have q12:decide ((12:Int) < (m.fs.length:Int))=decide (12 < m.fs.length):=decide_eq_decide.2 (by omega)
 unfold x4
 simp only [Modl.F] at l1 l2 ⊢
 by_cases h20:20 < m.gs.length
 . simp -implicitDefEqProofs only [q20,q12,eq_true h20,List.length_map,XP,seval]
 by_cases h12:12 < m.fs.length
 . simp -implicitDefEqProofs only [q20,q12,eq_false h20,eq_true h12,List.length_map,XP,seval]
 rcases l1 with ⟨q,fr',h1,h2,h3⟩ | ⟨q,fr',K',h1,rfl,rfl⟩
 . have h1:evP ⟨A0,T,A3⟩ (.code (.loop Db) [(1,.ptr 0 0 0),(3,.int .i64 0),(4,.int .i64 0)] _)=_:=h1
   rcases l2 with ⟨a',q2,fr2,h4,_⟩ | ⟨r,q2,fr2,K2,h4,rfl,rfl⟩
   . have h4:evP ⟨A0,T,A3⟩ (.code (.loop Fi) [(1,.ptr 0 0 0),(3,.int .i64 0),(5,.int .i64 0)] _)=_:=h4
     simp -implicitDefEqProofs only [q20,q12,eq_false h20,eq_false h12,h1,h2,h3,h4,q,q2,Sum.isRight_inl,List.length_map,XP,seval]
   . have h4:evP ⟨A0,T,A3⟩ (.code (.loop Fi) [(1,.ptr 0 0 0),(3,.int .i64 0),(5,.int .i64 0)] _)=_:=h4
     simp -implicitDefEqProofs only [q20,q12,eq_false h20,eq_false h12,h1,h2,h3,h4,q,q2,Sum.isRight_inr,List.length_map,XP,seval]
 . have h1:evP ⟨A0,T,A3⟩ (.code (.loop Db) [(1,.ptr 0 0 0),(3,.int .i64 0),(4,.int .i64 0)] _)=_:=h1
   simp -implicitDefEqProofs only [q20,q12,eq_false h20,eq_false h12,h1,q,List.length_map,XP,seval]
def Z3:=b9 (fun p:(Modl)=>[p.F]) (fun p=>[.bool (x4 p)]) (fun p=>p.ok)
theorem aE (hlaw06_Big:T 39=some Z3) {m:Modl} {K:PK} (hk:m.ok):evP ⟨A0,T,A3⟩ (.call 39 [m.F] K)=some (.val (openTs K.os.length [.bool (x4 m)]).1 ⟨K.os ++ (openTs K.os.length [.bool (x4 m)]).2,K.ext,K.tch⟩):=B8 hlaw06_Big (by simp -implicitDefEqProofs only [VV,XP,seval]) (C3 (a:=fun p:(Modl)=>[p.F]) (r:=fun p=>[.bool (x4 p)]) (fun x y e=>by simp only [VJ] at e; simp only [e]) (m) hk) (by simp -implicitDefEqProofs only [VN,XP,seval])
theorem Tq  (hP:PEok ⟨A0,T,A3⟩):TC A0 39 Z3:=C8 hP fun p h=>Jz  h
end
end Go.Proofs.AmEnv
set_option maxRecDepth 100000
namespace Go.Proofs.AmEnv
open Go Go.AM
variable {T:Nat->Option (List AV->Option (List AV))}
section
variable {m:Modl} {c:Cod} {i j k:Nat} {n:Int}
theorem sV (hi:i < m.fs.length) (hj:j < m.fs[i].blocks.length) (hs:m.fs[i].ok):evP ⟨A0,T,A3⟩ (.code Mn [(1,.ptr 0 0 0),(3,.int .i64 n),(4,.int .i64 (i:Int)),(5,.int .i64 (j:Int))] ⟨[.row 1 [m.F] 2],0,[]⟩)=some (.ok .normal [(1,.ptr 0 0 0),(3,.int .i64 (O2 n m.fs[i].blocks[j].code.length)),(4,.int .i64 (i:Int)),(5,.int .i64 ((j + 1:Nat):Int))] ⟨[.row 1 [m.F] 2],0,[]⟩):=by
 unfold Mn O2
 have hlt:decide ((j:Int) < (m.fs[i].blocks.length:Int))=true:=by simp [hj]
 have hw:=B3 (i:=j) (by have:=hs.2.2; simp only [bigN] at this; omega)
 have h1:=B2 (F:=Cod.F) hi
 have h2:=B2 (F:=Blk.F) hj
 simp only [Blk.F,Modl.F,Cod.F] at h1 h2 ⊢
 simp -implicitDefEqProofs only [hlt,h1,h2,hw,List.length_map,XP,seval]
theorem sW (hi:i < m.fs.length):∃ fr',evP ⟨A0,T,A3⟩ (.code Mn [(1,.ptr 0 0 0),(3,.int .i64 n),(4,.int .i64 (i:Int)),(5,.int .i64 (m.fs[i].blocks.length:Int))] ⟨[.row 1 [m.F] 2],0,[]⟩)=some (.ok (.exit 2) fr' ⟨[.row 1 [m.F] 2],0,[]⟩)∧(lookP fr' 1=.ptr 0 0 0∧lookP fr' 3=.int .i64 n∧lookP fr' 4=.int .i64 (i:Int)):=by
 unfold Mn
 have hlt:decide ((m.fs[i].blocks.length:Int) < (m.fs[i].blocks.length:Int))=false:=by simp
 have h1:=B2 (F:=Cod.F) hi
 simp only [Modl.F,Cod.F] at h1 ⊢
 simp -implicitDefEqProofs only [hlt,h1,List.length_map,XP,seval]
 exact ⟨_,rfl,rfl,rfl,rfl⟩
theorem sX (hi:i < m.fs.length) (hs:m.ok):evP ⟨A0,T,A3⟩ (.code Mo [(1,.ptr 0 0 0),(3,.int .i64 n),(4,.int .i64 (i:Int))] ⟨[.row 1 [m.F] 2],0,[]⟩)=some (.ok .normal [(1,.ptr 0 0 0),(3,.int .i64 (zA n m.fs[i])),(4,.int .i64 ((i + 1:Nat):Int))] ⟨[.row 1 [m.F] 2],0,[]⟩):=by
 have hc:=(hs.1 _ (List.getElem_mem hi)).1
 have hlt:decide ((i:Int) < (m.fs.length:Int))=true:=by simp [hi]
 have hw:=B3 (i:=i) (by have:=hs.2.1; simp only [bigN] at this; omega)
 have hg:=B2 (F:=Cod.F) hi
 obtain ⟨fr',h1,h2,h3,h4⟩:=Cg (P:=⟨A0,T,A3⟩) (c:=Mn) (f:=fun a (b:Blk)=>O2 a b.code.length) (l:=m.fs[i].blocks) (S:=fun j n=>[(1,.ptr 0 0 0),(3,.int .i64 n),(4,.int .i64 (i:Int)),(5,.int .i64 (j:Int))]) (K:=fun _=>⟨[.row 1 [m.F] 2],0,[]⟩) (x:=2) (Q:=fun n fr'=>lookP fr' 1=.ptr 0 0 0∧lookP fr' 3=.int .i64 n∧lookP fr' 4=.int .i64 (i:Int)) (fun k a h=>sV hi h hc) (fun a=>sW hi) (O2 (O2 n m.fs[i].regs.length) m.fs[i].blocks.length)
 have h1:evP ⟨A0,T,A3⟩ (.code (.loop Mn) [(1,.ptr 0 0 0),(3,.int .i64 (O2 (O2 n m.fs[i].regs.length) m.fs[i].blocks.length)),(4,.int .i64 (i:Int)),(5,.int .i64 0)] ⟨[.row 1 [m.F] 2],0,[]⟩)=_:=h1
 have hn:zA n m.fs[i]=m.fs[i].blocks.foldl (fun a (b:Blk)=>O2 a b.code.length) (O2 (O2 n m.fs[i].regs.length) m.fs[i].blocks.length):=rfl
 rw [← hn] at h3
 unfold Mo
 unfold O2 at h1
 simp only [Modl.F,Cod.F] at hg h1 ⊢
 simp -implicitDefEqProofs only [hlt,hg,h1,h2,h3,h4,hw,List.length_map,XP,seval]
theorem sY:∃ fr',evP ⟨A0,T,A3⟩ (.code Mo [(1,.ptr 0 0 0),(3,.int .i64 n),(4,.int .i64 (m.fs.length:Int))] ⟨[.row 1 [m.F] 2],0,[]⟩)=some (.ok (.exit 0) fr' ⟨[.row 1 [m.F] 2],0,[]⟩)∧(lookP fr' 1=.ptr 0 0 0∧lookP fr' 3=.int .i64 n):=by
 unfold Mo
 have hlt:decide ((m.fs.length:Int) < (m.fs.length:Int))=false:=by simp
 simp only [Modl.F]
 simp -implicitDefEqProofs only [hlt,List.length_map,XP,seval]
 exact ⟨_,rfl,rfl,rfl⟩
set_option maxHeartbeats 4000000 in
theorem Ka (hlaw06_Big:T 39=some Z3) (hir_Check:T 40=some r8) {m:Modl} (hk:m.ok):AM.Comes ⟨A0,T,A3⟩ 14 [m.F] [.bool (m5 m)]:=by
 refine ⟨[.bool (m5 m)],⟨[],0,[]⟩,?_,B7 rfl List.nodup_nil rfl rfl rfl⟩
 rw [A8 (c:=CO) (nt:=71) (rs:=[.tmp 2]) rfl (by simp)]; unfold CO
 unfold K0
 have tb:=fun K=>aE (K:=K) hlaw06_Big hk
 have tc:=fun K=>fA (K:=K) hir_Check hk
 obtain ⟨fr',h1,h2,h3⟩:=Cg (P:=⟨A0,T,A3⟩) (c:=Mo) (f:=zA) (l:=m.fs) (S:=fun i n=>[(1,.ptr 0 0 0),(3,.int .i64 n),(4,.int .i64 (i:Int))]) (K:=fun _=>⟨[.row 1 [m.F] 2],0,[]⟩) (x:=0) (Q:=fun n fr'=>lookP fr' 1=.ptr 0 0 0∧lookP fr' 3=.int .i64 n) (fun k a h=>sX h hk) (fun a=>sY) 0
 have h1:evP ⟨A0,T,A3⟩ (.code (.loop Mo) [(1,.ptr 0 0 0),(3,.int .i64 0),(4,.int .i64 0)] ⟨[.row 1 [m.F] 2],0,[]⟩)=_:=h1
 have q12:decide ((12:Int) < (m.fs.length:Int))=decide (12 < m.fs.length):=decide_eq_decide.2 (by omega)
 unfold m5
 simp only [Modl.F] at tb tc h1 ⊢
 by_cases h5:1000 < m.fs.foldl zA 0
 . simp -implicitDefEqProofs only [h1,h2,h3,q12,eq_true h5,List.length_map,XP,seval]
 by_cases h12:12 < m.fs.length
 . simp -implicitDefEqProofs only [h1,h2,h3,q12,eq_false h5,eq_true h12,List.length_map,XP,seval]
 cases hb:x4 m with
 | true=>simp -implicitDefEqProofs only [h1,h2,h3,q12,eq_false h5,eq_false h12,tb,hb,List.length_map,XP,seval]
 | false=>simp -implicitDefEqProofs only [h1,h2,h3,q12,eq_false h5,eq_false h12,tb,hb,tc,List.length_map,XP,seval]
def x5:=b9 (fun p:(Modl)=>[p.F]) (fun p=>[.bool (m5 p)]) (fun p=>p.ok)
theorem aF (hlaw15_Big:T 14=some x5) {m:Modl} {K:PK} (hk:m.ok):evP ⟨A0,T,A3⟩ (.call 14 [m.F] K)=some (.val (openTs K.os.length [.bool (m5 m)]).1 ⟨K.os ++ (openTs K.os.length [.bool (m5 m)]).2,K.ext,K.tch⟩):=B8 hlaw15_Big (by simp -implicitDefEqProofs only [VV,XP,seval]) (C3 (a:=fun p:(Modl)=>[p.F]) (r:=fun p=>[.bool (m5 p)]) (fun x y e=>by simp only [VJ] at e; simp only [e]) (m) hk) (by simp -implicitDefEqProofs only [VN,XP,seval])
theorem Ts (hlaw06_Big:T 39=some Z3) (hir_Check:T 40=some r8) (hP:PEok ⟨A0,T,A3⟩):TC A0 14 x5:=C8 hP fun p h=>Ka hlaw06_Big hir_Check h
end
end Go.Proofs.AmEnv
set_option maxRecDepth 100000
namespace Go.Proofs.AmEnv
open Go Go.AM
def fstN (l:List Blk) (t:Nat):Nat:=l.findIdx fun o=>decide (some o=l[t]?)
theorem Ht {l:List Blk} {t:Nat} (h:t < l.length):fstN l t≤t∧l[fstN l t]?=l[t]?∧∀ j,j < fstN l t->l[j]? ≠ l[t]?:=by
 have ht:l[t]?=some l[t]:=List.getElem?_eq_getElem h
 have hle:fstN l t≤t:=by
  refine Nat.le_of_not_lt fun hlt=>?_
  have:=List.not_of_lt_findIdx (p:=fun o=>decide (some o=l[t]?)) (xs:=l) hlt
  simp at this
 have hlt:fstN l t < l.length:=by omega
 refine ⟨hle,?_,fun j hj hje=>?_⟩
 . have:=List.findIdx_getElem (p:=fun o=>decide (some o=l[t]?)) (xs:=l) (w:=hlt)
   simp only [decide_eq_true_eq] at this
   rw [List.getElem?_eq_getElem hlt]
   exact this
 . have hjl:j < l.length:=by omega
   have:=List.not_of_lt_findIdx (p:=fun o=>decide (some o=l[t]?)) (xs:=l) hj
   rw [List.getElem?_eq_getElem hjl] at hje
   simp [hje] at this
def fstI (l:List Blk) (t:Int):Int:=if 0≤t∧t < l.length then (fstN l t.toNat:Int) else t
theorem fstI_le (l:List Blk) (t:Int):fstI l t=t∨(0≤fstI l t∧fstI l t < t):=by
 unfold fstI
 split
 . rename_i h
   have:=(Ht (l:=l) (t:=t.toNat) (by omega)).1
   omega
 . exact .inl rfl
def Endd.R (l:List Blk) (e:Endd):Endd:=if e.kind=1 then { e with to:=fstI l e.to } else if e.kind=2 then { e with to:=fstI l e.to,els:=fstI l e.els } else e
def Blk.R (l:List Blk) (b:Blk):Blk:={ b with e:=b.e.R l }
def rnd (l:List Blk):List Blk:=l.map (Blk.R l)
def Endd.w (e:Endd):Nat:=e.to.toNat + e.els.toNat
def cJ:List Blk->Nat
 | []=>0
 | b :: l=>b.e.w + cJ l
theorem Endd.R_w (l:List Blk) (e:Endd):(e.R l).w≤e.w∧(¬ e.R l=e->(e.R l).w < e.w):=by
 obtain ⟨k,a,t,s⟩:=e
 have h1:=fstI_le l t
 have h2:=fstI_le l s
 unfold Endd.R Endd.w
 simp only
 split
 . refine ⟨by simp only; omega,fun hne=>?_⟩
   simp only [Endd.mk.injEq,true_and,and_true] at hne
   simp only; omega
 . split
   . refine ⟨by simp only; omega,fun hne=>?_⟩
     simp only [Endd.mk.injEq,true_and] at hne
     simp only
     by_cases q:fstI l t=t
     . have:¬ fstI l s=s:=fun q2=>hne ⟨q,q2⟩
       omega
     . omega
   . exact ⟨Nat.le_refl _,fun hne=>absurd rfl hne⟩
theorem cK (L:List Blk):∀ l:List Blk,cJ (l.map (Blk.R L))≤cJ l∧(¬ l.map (Blk.R L)=l->cJ (l.map (Blk.R L)) < cJ l)
 | []=>⟨Nat.le_refl _,fun h=>absurd rfl h⟩
 | b :: l=>by
  obtain ⟨h1,h2⟩:=cK L l
  obtain ⟨h3,h4⟩:=b.e.R_w L
  simp only [List.map_cons,cJ]
  have hb:(Blk.R L b).e=b.e.R L:=rfl
  rw [hb]
  refine ⟨by omega,fun hne=>?_⟩
  by_cases q:b.e.R L=b.e
  . have:¬ l.map (Blk.R L)=l:=fun q2=>hne (by
     rw [q2]; congr 1; unfold Blk.R; rw [q])
    have:=h2 this
    omega
  . have:=h4 q
    omega
theorem Hu {l:List Blk} (h:¬ rnd l=l):cJ (rnd l) < cJ l:=(cK l l).2 h
def twin (l:List Blk):List Blk:=if h:rnd l=l then l else twin (rnd l)
termination_by cJ l
decreasing_by exact Hu h
theorem Z4 {l:List Blk} (h:rnd l=l):twin l=l:=by rw [twin,dif_pos h]
theorem x6 {l:List Blk} (h:¬ rnd l=l):twin l=twin (rnd l):=by rw [twin,dif_neg h]
def rndTo (l:List Blk) (i:Nat):List Blk:=(l.take i).map (Blk.R l) ++ l.drop i
theorem fB (l:List Blk):rndTo l l.length=rnd l:=by unfold rndTo rnd; simp
theorem fC (l:List Blk) (i:Nat):(rndTo l i).length=l.length:=by unfold rndTo; simp; omega
theorem fD {l:List Blk} {i:Nat} (h:i < l.length):(rndTo l i)[i]?=some l[i]:=by
 unfold rndTo
 have e:((l.take i).map (Blk.R l)).length=i:=by simp; omega
 rw [List.getElem?_append_right (by omega),List.getElem?_drop,e,Nat.sub_self,Nat.add_zero,List.getElem?_eq_getElem h]
theorem fE {l:List Blk} {i:Nat} (h:i < l.length):(rndTo l i).set i (Blk.R l l[i])=rndTo l (i + 1):=by
 unfold rndTo
 have e:((l.take i).map (Blk.R l)).length=i:=by simp; omega
 rw [List.set_append_right _ _ (by omega),e,Nat.sub_self,List.take_succ_eq_append_getElem h,List.map_append,List.drop_eq_getElem_cons h,List.set_cons_zero]
 simp
def z6 (n:Nat) (e:Endd):Prop:=((e.kind=1∨e.kind=2)->0≤e.to∧e.to < n)∧(e.kind=2->0≤e.els∧e.els < n)
theorem Tt {l:List Blk} {t:Int} (h:0≤t∧t < l.length):0≤fstI l t∧fstI l t < l.length:=by
 rcases fstI_le l t with e | e <;> omega
theorem z6.R {l:List Blk} {e:Endd} (h:z6 l.length e):z6 l.length (e.R l):=by
 unfold Endd.R
 split
 . rename_i q
   exact ⟨fun _=>Tt (h.1 (.inl q)),fun q2=>absurd (q.symm.trans q2) (by decide)⟩
 . split
   . rename_i q1 q
     exact ⟨fun _=>Tt (h.1 (.inr q)),fun _=>Tt (h.2 q)⟩
   . exact h
theorem Fv (l:List Blk):(rnd l).length=l.length:=List.length_map ..
theorem nH {l:List Blk} (h:∀ b∈l,z6 l.length b.e):∀ b∈rnd l,z6 (rnd l).length b.e:=fun b hb=>by
 obtain ⟨x,hx,rfl⟩:=List.mem_map.1 hb
 rw [Fv]
 exact (h x hx).R
theorem sZ {l:List Blk} (h:∀ b∈l,b.ok):∀ b∈rnd l,b.ok:=fun b hb=>by
 obtain ⟨x,hx,rfl⟩:=List.mem_map.1 hb
 exact h x hx
end Go.Proofs.AmEnv
set_option maxRecDepth 100000
namespace Go.Proofs.AmEnv
open Go Go.AM
variable {T:Nat->Option (List AV->Option (List AV))}
section
variable {l:List Blk} {i t:Nat} {x y:Blk}
theorem Blk.eq_iff:x=y ↔ x.e=y.e∧x.code=y.code:=by cases x; cases y; simp; exact And.comm
end
end Go.Proofs.AmEnv
set_option maxRecDepth 100000
namespace Go.Proofs.AmEnv
open Go Go.AM
variable {T:Nat->Option (List AV->Option (List AV))}
section
variable {l:List Blk} {i:Nat} {c:Cod}
def O3 (l:List Blk):Prop:=(∀ b∈l,b.ok)∧l.length * 56≤bigN∧∀ b∈l,z6 l.length b.e
theorem O3.rnd (h:O3 l):O3 (rnd l):=⟨sZ h.1,by rw [Fv]; exact h.2.1,nH h.2.2⟩
theorem O3.len (h:O3 l):l.length≤bigN:=by have:=h.2.1; simp only [bigN] at this ⊢; omega
theorem fF {os:List PO} {id:Nat} {l:List Blk} (h:os[id]?=some (.row 0 (l.map Blk.O) 5)):viewA os (.msl id 0 l.length 5)=some (fslN (l.map Blk.F)):=by
 have e:(l.map Blk.O).take l.length=l.map Blk.O:=List.take_of_length_le (by simp)
 simp -implicitDefEqProofs only [h,e,Rf,List.length_map,XP,seval]
theorem jM (l:List Blk):(twin l).length=l.length:=by
 have:∀ (n:Nat) (l:List Blk),cJ l=n->(twin l).length=l.length:=fun n=>by
  induction n using Nat.strongRecOn with
  | ind n ih =>
   intro l hn
   by_cases q:rnd l=l
   . rw [Z4 q]
   . rw [x6 q,ih _ (hn ▸ Hu q) (rnd l) rfl,Fv]
 exact this _ l rfl
theorem j5 (h:O3 l):O3 (twin l):=by
 have:∀ (n:Nat) (l:List Blk),cJ l=n->O3 l->O3 (twin l):=fun n=>by
  induction n using Nat.strongRecOn with
  | ind n ih =>
   intro l hn h
   by_cases q:rnd l=l
   . rw [Z4 q]; exact h
   . rw [x6 q]; exact ih _ (hn ▸ Hu q) (rnd l) rfl h.rnd
 exact this _ l rfl h
def H9 (c:Cod):Cod:={ c with blocks:=twin c.blocks }
def Cod.tok (c:Cod):Prop:=c.regs.length * 8≤bigN∧O3 c.blocks
def S8:=b9 (fun p:Cod × Cod=>[p.1.F,p.2.F]) (fun p=>[.bool (decide (p.1=p.2))]) (fun p=>p.1.ok)
theorem tA {c:Cod} (h:c.tok):c.ok:=⟨h.1,h.2.1,h.2.2.1⟩
end
end Go.Proofs.AmEnv
set_option maxRecDepth 100000
namespace Go.Proofs.AmEnv
open Go Go.AM
variable {T:Nat->Option (List AV->Option (List AV))}
section
variable {l:List Blk} {i n:Nat} {x b:Blk} {K:PK} {tch:List Nat}
theorem fG {sz:Nat} {es:List AV} {f:Bool} {n:Nat} (hn:n≤es.length) (h0:N0 sz es=true):k7 sz es f none (some (.int .i64 (n:Int))) none=some (.fsl (es.take n) (f && Nat.beq n (lenL es))):=by
 unfold k7
 show A9 (Nat.ble 0 n && Nat.ble n (lenL es) && Nat.ble (lenL es) (lenL es) && N0 sz es) (some (AV.fsl (y4 (y3 es 0) (Nat.sub n 0)) (f && Nat.beq n (lenL es))))=_
 rw [h0,A5,show Nat.ble 0 n=true from rfl,Nat.ble_eq_true_of_le hn,Nat.ble_eq_true_of_le (Nat.le_refl _),G6,G5]
 rfl
theorem jN (h0:0 < l.length) (hn:n≤l.length):Bs (Of A0 (.slice 41) none (some (.int .i64 (n:Int))) none (fslN (l.map Blk.F))) K=.val (fslN ((l.take n).map Blk.F)) K:=by
 cases l with
 | nil=>cases h0
 | cons b r =>
  show Bs ((k7 5 ((b :: r).map Blk.F) false none (some (.int .i64 (n:Int))) none).map fun y=>match y with | .fsl l _=>AV.fsl l l.isEmpty | y=>y) K=_
  rw [fG (by simpa using hn) rfl]
  show OpS.val (fslN (((b :: r).map Blk.F).take n)) K=_
  rw [List.map_take]
theorem tB (hT:T 218=some R5) {x y:Blk} (h:x.ok) {K:PK}:evP ⟨A0,T,A3⟩ (.call 218 [x.F,y.F] K)=some (.val [.bool (decide (x=y))] ⟨K.os ++ [],K.ext,K.tch⟩):=B8 hT (by simp -implicitDefEqProofs only [Blk.viewF,XP,seval]) (eW h) (by simp -implicitDefEqProofs only [XP,seval])
theorem Rg (hN:T 217=none) (hT:T 218=some R5) (hb:b.ok):evP ⟨A0,T,A3⟩ (.call 217 [b.F,.ptr 0 0 0] ⟨[.row 1 [x.F] 5],1,tch⟩)=some (.val [.bool (decide (b=x))] ⟨[.row 1 [x.F] 5,.row 1 [b.F] 5],1,tch⟩):=by
 have ta:=fun K=>tB (K:=K) (x:=b) (y:=x) hT hb
 rw [dK hN rfl]
 rw [A8 (c:=mP) (nt:=7) (rs:=[.tmp 3]) rfl (by simp)]; unfold mP
 simp only [Blk.F] at ta ⊢
 simp -implicitDefEqProofs only [ta,XP,seval]
theorem zJ (hN:T 217=none) (hT:T 218=some R5) (h:i < l.length) (hs:l.length≤bigN) (hb:l[i].ok) (hp:decide (l[i]=x)=false):evP ⟨A0,T,A3⟩ (.code l6 [(0,fslN (l.map Blk.F)),(1,.fn (.func 217) [] [.ptr 0 0 0]),(7,.int .i64 (l.length:Int)),(8,.int .i64 (i:Int))] ⟨[.row 1 [x.F] 5],1,[]⟩)=some (.ok .normal [(0,fslN (l.map Blk.F)),(1,.fn (.func 217) [] [.ptr 0 0 0]),(7,.int .i64 (l.length:Int)),(8,.int .i64 ((i + 1:Nat):Int))] ⟨[.row 1 [x.F] 5],1,[]⟩):=by
 unfold l6
 have hlt:decide ((i:Int) < (l.length:Int))=true:=by simp [h]
 have hw:=B3 (i:=i) (by simp only [bigN] at hs; omega)
 have hi:=B2 (F:=Blk.F) h
 have t:=Rg (x:=x) (b:=l[i]) (tch:=[]) hN hT hb
 rw [hp] at t
 simp only [Blk.F] at hi t ⊢
 simp -implicitDefEqProofs only [hlt,hi,hw,t,XP,seval]
theorem zK (hN:T 217=none) (hT:T 218=some R5) (h:i < l.length) (hb:l[i].ok) (hp:decide (l[i]=x)=true):∃ fr',evP ⟨A0,T,A3⟩ (.code l6 [(0,fslN (l.map Blk.F)),(1,.fn (.func 217) [] [.ptr 0 0 0]),(7,.int .i64 (l.length:Int)),(8,.int .i64 (i:Int))] ⟨[.row 1 [x.F] 5],1,[]⟩)=some (.ok .ret fr' ⟨[.row 1 [x.F] 5],1,[]⟩)∧lookP fr' 4=.int .i64 (i:Int):=by
 unfold l6
 have hlt:decide ((i:Int) < (l.length:Int))=true:=by simp [h]
 have hi:=B2 (F:=Blk.F) h
 have t:=Rg (x:=x) (b:=l[i]) (tch:=[]) hN hT hb
 rw [hp] at t
 simp only [Blk.F] at hi t ⊢
 simp -implicitDefEqProofs only [hlt,hi,t,XP,seval]
 exact ⟨_,rfl,rfl⟩
theorem zL:∃ fr',evP ⟨A0,T,A3⟩ (.code l6 [(0,fslN (l.map Blk.F)),(1,.fn (.func 217) [] [.ptr 0 0 0]),(7,.int .i64 (l.length:Int)),(8,.int .i64 (l.length:Int))] ⟨[.row 1 [x.F] 5],1,[]⟩)=some (.ok (.exit 0) fr' ⟨[.row 1 [x.F] 5],1,[]⟩):=by
 unfold l6
 have hlt:decide ((l.length:Int) < (l.length:Int))=false:=by simp
 simp -implicitDefEqProofs only [hlt,XP,seval]
 exact ⟨_,rfl⟩
theorem Bn (hN:T 217=none) (hT:T 218=some R5) (hs:l.length≤bigN) (hok:∀ b∈l,b.ok):evP ⟨A0,T,A3⟩ (.body 216 [fslN (l.map Blk.F),.fn (.func 217) [] [.ptr 0 0 0]] ⟨[.row 1 [x.F] 5],1,[]⟩)=some (.val [.int .i64 (idxOf (fun o=>decide (o=x)) l)] ⟨[.row 1 [x.F] 5],1,[]⟩):=by
 rw [A8 (c:=mO) (nt:=19) (rs:=[.tmp 4]) rfl (by simp)]; unfold mO
 rcases idx_loop (P:=⟨A0,T,A3⟩) (c:=l6) (p:=fun o=>decide (o=x)) (l:=l) (S:=fun i=>[(0,fslN (l.map Blk.F)),(1,.fn (.func 217) [] [.ptr 0 0 0]),(7,.int .i64 (l.length:Int)),(8,.int .i64 (i:Int))]) (K:=⟨[.row 1 [x.F] 5],1,[]⟩) (fun i h hp=>zJ hN hT h hs (hok _ (List.getElem_mem h)) hp) (fun i h hp=>zK hN hT h (hok _ (List.getElem_mem h)) hp) zL with ⟨i,e,fr',h1,h2⟩ | ⟨e,fr',h1⟩
 . have h1:evP ⟨A0,T,A3⟩ (.code (.loop l6) [(0,fslN (l.map Blk.F)),(1,.fn (.func 217) [] [.ptr 0 0 0]),(7,.int .i64 (l.length:Int)),(8,.int .i64 0)] ⟨[.row 1 [x.F] 5],1,[]⟩)=_:=h1
   simp only [Blk.F] at h1 ⊢
   simp -implicitDefEqProofs only [h1,h2,e,List.length_map,XP,seval]
 . have h1:evP ⟨A0,T,A3⟩ (.code (.loop l6) [(0,fslN (l.map Blk.F)),(1,.fn (.func 217) [] [.ptr 0 0 0]),(7,.int .i64 (l.length:Int)),(8,.int .i64 0)] ⟨[.row 1 [x.F] 5],1,[]⟩)=_:=h1
   simp only [Blk.F] at h1 ⊢
   simp -implicitDefEqProofs only [h1,e,List.length_map,XP,seval]
theorem cL (h:i < l.length):idxOf (fun o=>decide (o=l[i])) (l.take (i + 1))=(fstN l i:Int):=by
 obtain ⟨h1,h2,h3⟩:=Ht h
 have hi:l[i]?=some l[i]:=List.getElem?_eq_getElem h
 have hl:fstN l i < (l.take (i + 1)).length:=by simp; omega
 have:(l.take (i + 1)).findIdx? (fun o=>decide (o=l[i]))=some (fstN l i):=by
  rw [List.findIdx?_eq_some_iff_getElem]
  refine ⟨hl,?_,fun j hj=>?_⟩
  . rw [List.getElem_take]
    rw [List.getElem?_eq_getElem (by omega),hi] at h2
    simpa using h2
  . rw [List.getElem_take]
    have:=h3 j hj
    rw [List.getElem?_eq_getElem (by omega),hi] at this
    simpa using this
 unfold idxOf
 rw [this]
def H5 (l:List Blk) (i:Nat):List Int:=(List.range i).map fun i=>(fstN l i:Int)
theorem Dx (l:List Blk) (i:Nat):(H5 l i).length=i:=by simp [H5]
theorem Wv (l:List Blk) (i:Nat):H5 l (i + 1)=H5 l i ++ [(fstN l i:Int)]:=by simp [H5,List.range_succ]
theorem jO (hI:T 216=none) (hN:T 217=none) (hT:T 218=some R5) (h:i < l.length) (hs:l.length≤bigN) (hok:∀ b∈l,b.ok):evP ⟨A0,T,A3⟩ (.call 216 [fslN ((l.take (i + 1)).map Blk.F),.fn (.func 217) [] [.ptr 0 0 0]] ⟨[.row 1 [l[i].F] 5],0,tch⟩)=some (.val [.int .i64 (fstN l i:Int)] ⟨[.row 1 [l[i].F] 5],0,tch⟩):=by
 rw [← cL h]
 exact dL (ids:=[0]) hI rfl rfl rfl rfl (Bn hN hT (by simp; omega) fun b hb=>hok b (List.mem_of_mem_take hb)) rfl rfl
theorem jP {es:List AV} (hI:T 216=none) (hN:T 217=none) (hT:T 218=some R5) (h:i < l.length) (hs:l.length≤bigN) (hok:∀ b∈l,b.ok):evP ⟨A0,T,A3⟩ (.call 216 [fslN ((l.take (i + 1)).map Blk.F),.fn (.func 217) [] [.ptr 1 0 0]] ⟨[.row 0 es 1,.row 1 [l[i].F] 5],0,tch⟩)=some (.val [.int .i64 (fstN l i:Int)] ⟨[.row 0 es 1,.row 1 [l[i].F] 5],0,tch⟩):=by
 rw [← cL h]
 exact dL (ids:=[1]) hI rfl rfl rfl rfl (Bn hN hT (by simp; omega) fun b hb=>hok b (List.mem_of_mem_take hb)) rfl rfl
set_option maxHeartbeats 4000000 in
theorem GP (hI:T 216=none) (hN:T 217=none) (hT:T 218=some R5) (h:0 < l.length) (hs:l.length≤bigN) (hok:∀ b∈l,b.ok):evP ⟨A0,T,A3⟩ (.code w6 [(0,fslN (l.map Blk.F)),(3,.nilsl),(6,fslN (l.map Blk.F)),(7,.int .i64 (l.length:Int)),(8,.int .i64 0)] ⟨[],0,[]⟩)=some (.ok .normal [(0,fslN (l.map Blk.F)),(3,.msl 0 0 1 1),(6,fslN (l.map Blk.F)),(7,.int .i64 (l.length:Int)),(8,.int .i64 ((1:Nat):Int))] ⟨[.row 0 (ints (H5 l 1)) 1],0,[]⟩):=by
 unfold w6
 have hlt:decide ((0:Int) < (l.length:Int))=true:=by simp [h]
 have hi:=ix_fslN (te:=Aa) (k:=.i64) (i:=0) (B2 (F:=Blk.F) h) rfl
 have hi:Yb Aa (fslN (l.map Blk.F)) (.int .i64 0)=some (.fptr (Blk.F l[0]) 0):=hi
 have tc:=fun tch=>jO (i:=0) (tch:=tch) hI hN hT h hs hok
 have hsl:=fun K=>jN (n:=1) (l:=l) (K:=K) h h
 have hsl:∀ K:PK,Bs (Of A0 (.slice 41) none (some (.int .i64 1)) none (fslN (l.map Blk.F))) K=.val (fslN ((l.take (0 + 1)).map Blk.F)) K:=hsl
 have hx:ints (H5 l 1)=[.int .i64 (fstN l 0:Int)]:=rfl
 rw [hx]
 simp only [Blk.F] at hi tc ⊢
 simp -implicitDefEqProofs only [ hlt,hi,tc,hsl,show IntKind.i64.wrap (0 + 1)=((1:Nat):Int) from rfl,show ((1:Nat):Int)=1 from rfl,XQ,sp_eq,Nat.reduceAdd,Nat.reduceSub,Nat.reduceLT,Nat.reduceLeDiff,Nat.reduceEqDiff,Nat.reduceMul,↓reduceIte]
end
end Go.Proofs.AmEnv
set_option maxRecDepth 100000
namespace Go.Proofs.AmEnv
open Go Go.AM
variable {T:Nat->Option (List AV->Option (List AV))}
section
variable {l:List Blk} {i n:Nat} {x b:Blk} {K:PK} {tch:List Nat}
set_option maxHeartbeats 4000000 in
theorem GQ (hI:T 216=none) (hN:T 217=none) (hT:T 218=some R5) (h:i < l.length) (hs:l.length * 56≤bigN) (hok:∀ b∈l,b.ok):evP ⟨A0,T,A3⟩ (.code w6 [(0,fslN (l.map Blk.F)),(3,.msl 0 0 i 1),(6,fslN (l.map Blk.F)),(7,.int .i64 (l.length:Int)),(8,.int .i64 (i:Int))] ⟨[.row 0 (ints (H5 l i)) 1],0,[]⟩)=some (.ok .normal [(0,fslN (l.map Blk.F)),(3,.msl 0 0 (i + 1) 1),(6,fslN (l.map Blk.F)),(7,.int .i64 (l.length:Int)),(8,.int .i64 ((i + 1:Nat):Int))] ⟨[.row 0 (ints (H5 l (i + 1))) 1],0,[]⟩):=by
 unfold w6
 have hlt:decide ((i:Int) < (l.length:Int))=true:=by simp [h]
 have hw:=B3 (i:=i) (by simp only [bigN] at hs; omega)
 have hi:=B2 (F:=Blk.F) h
 have tc:=fun es tch=>jP (i:=i) (es:=es) (tch:=tch) hI hN hT h (by simp only [bigN] at hs ⊢; omega) hok
 have hsl:=fun K=>jN (n:=i + 1) (l:=l) (K:=K) (by omega) h
 have hx:ints (H5 l (i + 1))=ints (H5 l i) ++ [.int .i64 (fstN l i:Int)]:=by rw [Wv]; simp [ints]
 have hm:(ints (H5 l i)).length=i:=by rw [List.length_map,Dx]
 have hz:(i + 1) * 8≤140737488355328:=by simp only [bigN] at hs; omega
 rw [hx]
 simp only [Blk.F] at hi tc ⊢
 simp -implicitDefEqProofs only [hlt,hi,tc,hsl,hw,hm,hz,XP,seval]
theorem zM {y:AV} {K:PK}:∃ fr',evP ⟨A0,T,A3⟩ (.code w6 [(0,fslN (l.map Blk.F)),(3,y),(6,fslN (l.map Blk.F)),(7,.int .i64 (l.length:Int)),(8,.int .i64 (l.length:Int))] K)=some (.ok (.exit 0) fr' K)∧lookP fr' 3=y:=by
 unfold w6
 have hlt:decide ((l.length:Int) < (l.length:Int))=false:=by simp
 simp -implicitDefEqProofs only [hlt,XP,seval]
 exact ⟨_,rfl,rfl⟩
theorem zN (hI:T 216=none) (hN:T 217=none) (hT:T 218=some R5) (hs:l.length * 56≤bigN) (hok:∀ b∈l,b.ok):∀ (n i:Nat),l.length=i + n->0 < i->∃ fr',evP ⟨A0,T,A3⟩ (.code (.loop w6) [(0,fslN (l.map Blk.F)),(3,.msl 0 0 i 1),(6,fslN (l.map Blk.F)),(7,.int .i64 (l.length:Int)),(8,.int .i64 (i:Int))] ⟨[.row 0 (ints (H5 l i)) 1],0,[]⟩)=some (.ok (.exit 0) fr' ⟨[.row 0 (ints (H5 l l.length)) 1],0,[]⟩)∧lookP fr' 3=.msl 0 0 l.length 1
 | 0,i,e,h0=>by
  obtain rfl:i=l.length:=by omega
  obtain ⟨fr',h1,h2⟩:=zM (T:=T) (l:=l) (y:=.msl 0 0 l.length 1) (K:=⟨[.row 0 (ints (H5 l l.length)) 1],0,[]⟩)
  exact ⟨fr',D3 h1,h2⟩
 | n + 1,i,e,h0=>by
  rw [E6 (GQ hI hN hT (by omega) hs hok)]
  exact zN hI hN hT hs hok n (i + 1) (by omega) (by omega)
theorem Fw (nIdxBlocks:T 216=none) (ntwin_firsts_1:T 217=none) (htwin_alike:T 218=some R5) {l:List Blk} (hk:l.length * 56≤bigN∧(∀ b∈l,b.ok)):AM.Comes ⟨A0,T,A3⟩ 157 [fslN (l.map Blk.F)] [ownd 0 1 (ints (H5 l l.length))]:=by
 obtain ⟨hs,hok⟩:=hk
 cases hl:l with
 | nil =>
  subst hl
  obtain ⟨fr',h1,h2⟩:=zM (T:=T) (l:=[]) (y:=.nilsl) (K:=⟨[],0,[]⟩)
  have hl:=D3 h1
  have hl:evP ⟨A0,T,A3⟩ (.code (.loop w6) [(0,fslN (([]:List Blk).map Blk.F)),(3,.nilsl),(6,fslN (([]:List Blk).map Blk.F)),(7,.int .i64 0),(8,.int .i64 0)] ⟨[],0,[]⟩)=_:=hl
  refine ⟨[.nilsl],⟨[],0,[]⟩,?_,D9 (.inl ⟨rfl,rfl,rfl⟩)⟩
  rw [A8 (c:=eN) (nt:=24) (rs:=[.tmp 2]) rfl (by simp)]; unfold eN
  unfold K0
  simp only [List.map_nil] at hl ⊢
  have z:((0:Nat):Int)=0:=rfl
  simp -implicitDefEqProofs only [hl,h2,z,XP,seval]
 | cons b r =>
  rw [← hl]
  have h0:0 < l.length:=by rw [hl]; simp
  obtain ⟨fr',h1,h2⟩:=zN nIdxBlocks ntwin_firsts_1 htwin_alike hs hok (l.length - 1) 1 (by omega) (by decide)
  have hl:=(E6 (GP nIdxBlocks ntwin_firsts_1 htwin_alike h0 (by simp only [bigN] at hs ⊢; omega) hok)).trans h1
  refine ⟨[.msl 0 0 l.length 1],⟨[.row 0 (ints (H5 l l.length)) 1],0,[]⟩,?_,D9 (.inr ⟨by rw [List.length_map,Dx],rfl⟩)⟩
  rw [A8 (c:=eN) (nt:=24) (rs:=[.tmp 2]) rfl (by simp)]; unfold eN
  unfold K0
  simp -implicitDefEqProofs only [hl,h2,List.length_map,XP,seval]
def F5:=b9 (fun p:(List Blk)=>[fslN (p.map Blk.F)]) (fun p=>[ownd 0 1 (ints (H5 p p.length))]) (fun p=>p.length * 56≤bigN∧(∀ b∈p,b.ok))
theorem Np (htwin_firsts:T 157=some F5) {l:List Blk} {K:PK} {args:List AV} (hv:viewAs K.os args=some [fslN (l.map Blk.F)]) (hk:l.length * 56≤bigN∧(∀ b∈l,b.ok)):evP ⟨A0,T,A3⟩ (.call 157 args K)=some (.val (openTs K.os.length [ownd 0 1 (ints (H5 l l.length))]).1 ⟨K.os ++ (openTs K.os.length [ownd 0 1 (ints (H5 l l.length))]).2,K.ext,K.tch⟩):=B8 htwin_firsts hv (C3 (a:=fun p:(List Blk)=>[fslN (p.map Blk.F)]) (r:=fun p=>[ownd 0 1 (ints (H5 p p.length))]) (fun x y e=>by simp only [VJ] at e; simp only [e]) (l) hk) (by generalize (refsL args).isEmpty=z; simp -implicitDefEqProofs only [VN,XP,seval])
theorem Nq (nIdxBlocks:T 216=none) (ntwin_firsts_1:T 217=none) (htwin_alike:T 218=some R5) (hP:PEok ⟨A0,T,A3⟩):TC A0 157 F5:=C8 hP fun p h=>Fw nIdxBlocks ntwin_firsts_1 htwin_alike h
def FI (l:List Blk):List Int:=H5 l l.length
theorem jQ {l:List Blk} {t:Int} (h:0≤t∧t < l.length):(ints (FI l))[t.toNat]?=some (.int .i64 (fstI l t)):=by
 have ht:t.toNat < l.length:=by omega
 unfold FI H5 fstI
 rw [if_pos h,List.getElem?_map,List.getElem?_map,List.getElem?_range ht]; rfl
theorem tC (l:List Blk):(FI l).length=l.length:=Dx l _
def rK (l:List Blk) (bs:List AV) (t:Bool):List PO:=[.row 0 bs 5,.row 1 [.bool t] 1,.row 1 [.msl 3 0 l.length 1] 1,.row 0 (ints (FI l)) 1]
variable {bs:List AV} {t:Bool} {u v w:Int} {c0:AV} {tl:List AV}
theorem x7 (id i o:Nat):S3 (.ptr id i o)=some (.ptr id i o):=rfl
theorem cM {k a s:Int} (hN:T 158=none) (hb:bs[i]?=some (.agg [c0,.int .i64 k,.int .i64 a,.int .i64 u,.int .i64 s])) (hu:0≤u∧u < l.length) :
 ∃ tch',evP ⟨A0,T,A3⟩ (.call 158 [.ptr 0 i 3,.ptr 1 0 0,.ptr 2 0 0] ⟨rK l bs t,1,tch⟩)=some (.val [] ⟨rK l (bs.set i (.agg [c0,.int .i64 k,.int .i64 a,.int .i64 (fstI l u),.int .i64 s])) (t || !decide (fstI l u=u)),1,tch'⟩):=by
 have hix:=jQ hu
 obtain ⟨n,rfl⟩:=Int.eq_ofNat_of_zero_le hu.1
 have hn:n < l.length:=by omega
 have hix:(ints (FI l))[n]?=some (.int .i64 (fstI l n)):=hix
 have hbi:i < bs.length:=(List.getElem?_eq_some_iff.1 hb).1
 unfold rK
 refine ⟨?_,?_⟩
 rotate_left 1
 . rw [dK hN rfl]
   rw [A8 (c:=eO) (nt:=25) (rs:=[]) rfl (by simp)]; unfold eO
   cases t with
   | true =>
    simp -implicitDefEqProofs only [hb,hbi,hix,hn,U2 hbi,x7,XP,seval]
    all_goals rfl
   | false =>
    simp -implicitDefEqProofs only [hb,hbi,hix,hn,U2 hbi,x7,XP,seval]
    all_goals rfl
theorem jR {k a s:Int} (hN:T 158=none) (hb:bs[i]?=some (.agg [c0,.int .i64 k,.int .i64 a,.int .i64 s,.int .i64 u])) (hu:0≤u∧u < l.length) :
 ∃ tch',evP ⟨A0,T,A3⟩ (.call 158 [.ptr 0 i 4,.ptr 1 0 0,.ptr 2 0 0] ⟨rK l bs t,1,tch⟩)=some (.val [] ⟨rK l (bs.set i (.agg [c0,.int .i64 k,.int .i64 a,.int .i64 s,.int .i64 (fstI l u)])) (t || !decide (fstI l u=u)),1,tch'⟩):=by
 have hix:=jQ hu
 obtain ⟨n,rfl⟩:=Int.eq_ofNat_of_zero_le hu.1
 have hn:n < l.length:=by omega
 have hix:(ints (FI l))[n]?=some (.int .i64 (fstI l n)):=hix
 have hbi:i < bs.length:=(List.getElem?_eq_some_iff.1 hb).1
 unfold rK
 refine ⟨?_,?_⟩
 rotate_left 1
 . rw [dK hN rfl]
   rw [A8 (c:=eO) (nt:=25) (rs:=[]) rfl (by simp)]; unfold eO
   cases t with
   | true =>
    simp -implicitDefEqProofs only [hb,hbi,hix,hn,U2 hbi,x7,XP,seval]
    all_goals rfl
   | false =>
    simp -implicitDefEqProofs only [hb,hbi,hix,hn,U2 hbi,x7,XP,seval]
    all_goals rfl
def tTo (l:List Blk) (i:Nat):Bool:=!((l.take i).all fun b=>decide (Blk.R l b=b))
theorem jS {l:List Blk} {i:Nat} (h:i < l.length):tTo l (i + 1)=(tTo l i || !decide (Blk.R l l[i]=l[i])):=by
 unfold tTo
 rw [List.take_succ_eq_append_getElem h,List.all_append]
 simp [Bool.not_and]
theorem nI (l:List Blk):tTo l l.length=!decide (rnd l=l):=by
 unfold tTo rnd
 rw [List.take_length]
 congr 1
 have key:∀ m:List Blk,(m.all fun b=>decide (Blk.R l b=b))=decide (m.map (Blk.R l)=m):=fun m=>by
  induction m with
  | nil=>rfl
  | cons b m ih=>rw [List.all_cons,ih]; simp
 exact key l
theorem zO {l:List Blk} {b:Blk}:decide (Blk.R l b=b)=decide (b.e.R l=b.e):=decide_eq_decide.2 (by cases b; simp [Blk.R])
set_option maxHeartbeats 8000000 in
theorem GR (hN:T 158=none) (h:i < l.length) (hs:l.length≤bigN) (htg:∀ b∈l,z6 l.length b.e) (tch:List Nat) :
 ∃ tch',evP ⟨A0,T,A3⟩ (.code Mt [(0,.msl 0 0 l.length 5),(2,.ptr 1 0 0),(4,.fn (.func 158) [] [.ptr 1 0 0,.ptr 2 0 0]),(11,.int .i64 (l.length:Int)),(12,.int .i64 (i:Int))] ⟨rK l ((rndTo l i).map Blk.O) (tTo l i),1,tch⟩)=some (.ok .normal [(0,.msl 0 0 l.length 5),(2,.ptr 1 0 0),(4,.fn (.func 158) [] [.ptr 1 0 0,.ptr 2 0 0]),(11,.int .i64 (l.length:Int)),(12,.int .i64 ((i + 1:Nat):Int))] ⟨rK l ((rndTo l (i + 1)).map Blk.O) (tTo l (i + 1)),1,tch'⟩):=by
 have hlt:decide ((i:Int) < (l.length:Int))=true:=by simp [h]
 have hw:=B3 (i:=i) (by simp only [bigN] at hs; omega)
 have hg:((rndTo l i).map Blk.O)[i]?=some l[i].O:=by rw [List.getElem?_map,fD h]; rfl
 have hset:((rndTo l i).map Blk.O).set i (Blk.R l l[i]).O=(rndTo l (i + 1)).map Blk.O:=by rw [← List.map_set,fE h]
 have hb:=htg _ (List.getElem_mem h)
 have hil:i < ((rndTo l i).map Blk.O).length:=by rw [List.length_map,fC]; exact h
 rw [jS h,zO]
 generalize (rndTo l i).map Blk.O=bs at hg hset hil
 generalize tTo l i=t
 unfold Blk.R Endd.R at hset
 unfold Endd.R
 generalize l[i]=b at hg hset hb
 obtain ⟨code,k,a,to,els⟩:=b
 simp only [Blk.O] at hg
 unfold Mt
 by_cases k2:k=2
 . have k1:¬ k=1:=by omega
   simp only [if_neg k1,if_pos k2,Blk.O] at hset
   obtain ⟨tc1,h1⟩:=jR (T:=T) (l:=l) (t:=t) (tch:=tch.filter (· < 1)) hN hg (hb.2 k2)
   have hg2:=U2 (v:=AV.agg [ownd 0 8 (code.map Ins.O),.int .i64 k,.int .i64 a,.int .i64 to,.int .i64 (fstI l els)]) hil
   obtain ⟨tc2,h2⟩:=cM (T:=T) (l:=l) (t:=t || !decide (fstI l els=els)) (tch:=tc1.filter (· < 1)) hN hg2 (hb.1 (.inr k2))
   rw [List.set_set,hset] at h2
   have ht:(t || !decide ((if k=1 then (⟨k,a,fstI l to,els⟩:Endd) else if k=2 then ⟨k,a,fstI l to,fstI l els⟩ else ⟨k,a,to,els⟩)=⟨k,a,to,els⟩))=((t || !decide (fstI l els=els)) || !decide (fstI l to=to)):=by
    rw [if_neg k1,if_pos k2]
    by_cases q1:fstI l to=to <;> by_cases q2:fstI l els=els <;> simp [q1,q2]
   simp only at ht ⊢
   rw [ht]
   refine ⟨?_,?_⟩
   rotate_left 1
   . unfold rK at h1 h2 ⊢
     simp -implicitDefEqProofs only [hlt,hw,h,hg,h1,h2,eq_false k1,eq_true k2,x7,XP,seval]
     all_goals rfl
 by_cases k1:k=1
 . simp only [if_pos k1,Blk.O] at hset
   obtain ⟨tc2,h2⟩:=cM (T:=T) (l:=l) (t:=t) (tch:=tch.filter (· < 1)) hN hg (hb.1 (.inl k1))
   rw [hset] at h2
   have ht:(t || !decide ((if k=1 then (⟨k,a,fstI l to,els⟩:Endd) else if k=2 then ⟨k,a,fstI l to,fstI l els⟩ else ⟨k,a,to,els⟩)=⟨k,a,to,els⟩))=(t || !decide (fstI l to=to)):=by
    rw [if_pos k1]
    by_cases q1:fstI l to=to <;> simp [q1]
   simp only at ht ⊢
   rw [ht]
   refine ⟨?_,?_⟩
   rotate_left 1
   . unfold rK at h2 ⊢
     simp -implicitDefEqProofs only [hlt,hw,h,hg,h2,eq_true k1,eq_false k2,x7,XP,seval]
     all_goals rfl
 . simp only [if_neg k1,if_neg k2,Blk.O] at hset
   have ht:(t || !decide ((if k=1 then (⟨k,a,fstI l to,els⟩:Endd) else if k=2 then ⟨k,a,fstI l to,fstI l els⟩ else ⟨k,a,to,els⟩)=⟨k,a,to,els⟩))=t:=by
    rw [if_neg k1,if_neg k2]; simp
   have hsame:bs=(rndTo l (i + 1)).map Blk.O:=by rw [← hset,jE hg]
   simp only at ht ⊢
   rw [ht,← hsame]
   refine ⟨?_,?_⟩
   rotate_left 1
   . unfold rK
     simp -implicitDefEqProofs only [hlt,hw,h,hg,eq_false k1,eq_false k2,x7,XP,seval]
     all_goals rfl
end
end Go.Proofs.AmEnv
set_option maxRecDepth 100000
namespace Go.Proofs.AmEnv
open Go Go.AM
variable {T:Nat->Option (List AV->Option (List AV))}
section
variable {l:List Blk} {i k:Nat} {tch:List Nat}
theorem GS {K:PK} {f:AV}:∃ fr',evP ⟨A0,T,A3⟩ (.code Mt [(0,.msl 0 0 l.length 5),(2,.ptr 1 0 0),(4,f),(11,.int .i64 (l.length:Int)),(12,.int .i64 (l.length:Int))] K)=some (.ok (.exit 0) fr' K)∧lookP fr' 2=.ptr 1 0 0:=by
 unfold Mt
 have hlt:decide ((l.length:Int) < (l.length:Int))=false:=by simp
 simp -implicitDefEqProofs only [hlt,XP,seval]
 exact ⟨_,rfl,rfl⟩
theorem zP (hN:T 158=none) (hs:l.length≤bigN) (htg:∀ b∈l,z6 l.length b.e):∀ (n i:Nat) (tch:List Nat),l.length=i + n ->
 ∃ fr' tch',evP ⟨A0,T,A3⟩ (.code (.loop Mt) [(0,.msl 0 0 l.length 5),(2,.ptr 1 0 0),(4,.fn (.func 158) [] [.ptr 1 0 0,.ptr 2 0 0]),(11,.int .i64 (l.length:Int)),(12,.int .i64 (i:Int))] ⟨rK l ((rndTo l i).map Blk.O) (tTo l i),1,tch⟩)=some (.ok (.exit 0) fr' ⟨rK l ((rnd l).map Blk.O) (!decide (rnd l=l)),1,tch'⟩)∧lookP fr' 2=.ptr 1 0 0
 | 0,i,tch,e=>by
  obtain rfl:i=l.length:=by omega
  rw [fB,nI]
  obtain ⟨fr',h1,h2⟩:=GS (T:=T) (l:=l) (K:=⟨rK l ((rnd l).map Blk.O) (!decide (rnd l=l)),1,tch⟩)
  exact ⟨fr',tch,D3 h1,h2⟩
 | n + 1,i,tch,e=>by
  obtain ⟨tch1,h1⟩:=GR hN (show i < l.length by omega) hs htg tch
  obtain ⟨fr',tch',h2,h3⟩:=zP hN hs htg n (i + 1) tch1 (by omega)
  exact ⟨fr',tch',(E6 h1).trans h2,h3⟩
set_option maxHeartbeats 4000000 in
theorem aG (hN:T 158=none) (hF:T 157=some F5) (hok:O3 l) :
 ∃ tch',evP ⟨A0,T,A3⟩ (.body 73 [.msl 0 0 l.length 5] ⟨[.row 0 (l.map Blk.O) 5],1,[]⟩)=some (.val [.bool (!decide (rnd l=l))] ⟨[.row 0 ((rnd l).map Blk.O) 5,.row 1 [.bool (!decide (rnd l=l))] 1],1,tch'⟩):=by
 have tf:∀ K:PK,K.os[0]?=some (.row 0 (l.map Blk.O) 5)->evP ⟨A0,T,A3⟩ (.call 157 [.msl 0 0 l.length 5] K)=some (.val (openTs K.os.length [ownd 0 1 (ints (FI l))]).1 ⟨K.os ++ (openTs K.os.length [ownd 0 1 (ints (FI l))]).2,K.ext,K.tch⟩):=fun K hK=>Np hF (by have:=fF hK; simp -implicitDefEqProofs only [this,XP,seval]) ⟨hok.2.1,hok.1⟩
 obtain ⟨fr',tch1,h1,h2⟩:=zP (T:=T) hN hok.len hok.2.2 l.length 0 [] (by omega)
 have h1:evP ⟨A0,T,A3⟩ (.code (.loop Mt) [(0,.msl 0 0 l.length 5),(2,.ptr 1 0 0),(4,.fn (.func 158) [] [.ptr 1 0 0,.ptr 2 0 0]),(11,.int .i64 (l.length:Int)),(12,.int .i64 0)] ⟨rK l (l.map Blk.O) false,1,[]⟩)=_:=h1
 unfold rK at h1
 refine ⟨?_,?_⟩
 rotate_left 1
 . rw [A8 (c:=DB) (nt:=39) (rs:=[.cell 2 4]) rfl (by simp)]; unfold DB
   simp -implicitDefEqProofs only [tf,h1,h2,tC,List.length_map,XP,seval]
   all_goals rfl
end
section
variable {bs es tl R:List AV} {i k:Nat} {x:Ins} {c1 c2:AV} {n m:Int}
variable {e1 e2 e3 e4:AV} {nm:List UInt8} {ty ps:Int} {nr nb:Nat}
theorem Nr (hT:T 70=some G9) {l:List Int} (h:l.length * 8≤bigN) {K:PK}:evP ⟨A0,T,A3⟩ (.call 70 [fslN (ints l)] K)=some (.val (openTs K.os.length [ownd 0 1 (ints l)]).1 ⟨K.os ++ (openTs K.os.length [ownd 0 1 (ints l)]).2,K.ext,K.tch⟩):=B8 hT (by simp -implicitDefEqProofs only [frzL_ints,XP,seval]) (Fl h) rfl
theorem aH {l:List Ins} (h:l.length * 88≤bigN):X2 [fslN (l.map Ins.F)]=some [ownd 0 8 (l.map Ins.F)]:=C3 (a:=fun l:List Ins=>[fslN (l.map Ins.F)]) (fun x y e=>by simp only [List.cons.injEq,fslN_iff,insL_iff,and_true] at e; rw [e]) l h
theorem nJ (hT:T 72=some X2) {l:List Ins} (h:l.length * 88≤bigN) {K:PK}:evP ⟨A0,T,A3⟩ (.call 72 [fslN (l.map Ins.F)] K)=some (.val (openTs K.os.length [ownd 0 8 (l.map Ins.F)]).1 ⟨K.os ++ (openTs K.os.length [ownd 0 8 (l.map Ins.F)]).2,K.ext,K.tch⟩):=B8 hT (by simp -implicitDefEqProofs only [frzL_insF,XP,seval]) (aH h) rfl
theorem aI {l:List Blk} (h:l.length * 56≤bigN):w7 [fslN (l.map Blk.F)]=some [ownd 0 5 (l.map Blk.F)]:=C3 (a:=fun l:List Blk=>[fslN (l.map Blk.F)]) (fun x y e=>by simp only [List.cons.injEq,fslN_iff,blkL_iff,and_true] at e; rw [e]) l h
theorem nK (hT:T 71=some w7) {l:List Blk} (h:l.length * 56≤bigN) {K:PK}:evP ⟨A0,T,A3⟩ (.call 71 [fslN (l.map Blk.F)] K)=some (.val (openTs K.os.length [ownd 0 5 (l.map Blk.F)]).1 ⟨K.os ++ (openTs K.os.length [ownd 0 5 (l.map Blk.F)]).2,K.ext,K.tch⟩):=B8 hT (by simp -implicitDefEqProofs only [frzL_blkF,XP,seval]) (aI h) rfl
set_option maxHeartbeats 8000000 in
theorem GT (hT:T 70=some G9) (hb:bs[i]?=some (.agg [ownd 0 8 es,e1,e2,e3,e4])) (he:es[k]?=some x.F) (hx:x.ok) (hs:es.length≤bigN) :
 evP ⟨A0,T,A3⟩ (.code Mp [(1,.ptr 0 0 0),(2,.ptr 1 0 0),(4,.ptr 2 i 0),(16,.int .i64 n),(17,.int .i64 m),(36,.int .i64 (es.length:Int)),(37,.int .i64 (k:Int))] ⟨[(PO.row 1 [AV.agg [.str nm,.int .i64 ty,.int .i64 ps,.msl 3 0 nr 1,.msl 2 0 nb 5]] 5),.row 1 [(AV.agg [.str [],.int .i64 0,.int .i64 0,.nilsl,.nilsl])] 5,.row 0 bs 5,.row 0 R 1],0,[]⟩)=some (.ok .normal [(1,.ptr 0 0 0),(2,.ptr 1 0 0),(4,.ptr 2 i 0),(16,.int .i64 n),(17,.int .i64 m),(36,.int .i64 (es.length:Int)),(37,.int .i64 ((k + 1:Nat):Int))] ⟨[(PO.row 1 [AV.agg [.str nm,.int .i64 ty,.int .i64 ps,.msl 3 0 nr 1,.msl 2 0 nb 5]] 5),.row 1 [(AV.agg [.str [],.int .i64 0,.int .i64 0,.nilsl,.nilsl])] 5,.row 0 (bs.set i (.agg [ownd 0 8 (es.set k x.O),e1,e2,e3,e4])) 5,.row 0 R 1],0,[]⟩):=by
 have hi:i < bs.length:=(List.getElem?_eq_some_iff.1 hb).1
 have hk:k < es.length:=(List.getElem?_eq_some_iff.1 he).1
 have hlt:decide ((k:Int) < (es.length:Int))=true:=by simp [hk]
 have hw:=B3 (i:=k) (by simp only [bigN] at hs; omega)
 have tc:=fun K=>Nr (K:=K) hT hx
 have g1:=fun v=>U2 (v:=v) hi
 have g2:=fun v=>U2 (v:=v) hk
 simp only [Ins.F] at he
 simp only [Ins.O]
 unfold Mp iD pU
 simp -implicitDefEqProofs only [hb,he,hi,hk,hlt,hw,tc,g1,g2,x7,List.set_set,List.length_set,List.length_map,XP,seval]
end
end Go.Proofs.AmEnv
set_option maxRecDepth 100000
namespace Go.Proofs.AmEnv
open Go Go.AM
variable {T:Nat->Option (List AV->Option (List AV))}
def mix {X:Type} (F O:X->AV) (l:List X) (k:Nat):List AV:=(l.take k).map O ++ (l.drop k).map F
section
variable {X:Type} {F O:X->AV} {L:List X} {k:Nat}
theorem rO:mix F O L 0=L.map F:=rfl
theorem cN:mix F O L L.length=L.map O:=by unfold mix; simp
theorem Tu:(mix F O L k).length=L.length:=by unfold mix; simp; omega
theorem cO (h:k < L.length):(mix F O L k)[k]?=some (F L[k]):=by
 unfold mix
 have e:((L.take k).map O).length=k:=by simp; omega
 rw [List.getElem?_append_right (by omega),List.getElem?_map,List.getElem?_drop,e,Nat.sub_self,Nat.add_zero,List.getElem?_eq_getElem h]; rfl
theorem cP (h:k < L.length):(mix F O L k).set k (O L[k])=mix F O L (k + 1):=by
 unfold mix
 have e:((L.take k).map O).length=k:=by simp; omega
 rw [List.set_append_right _ _ (by omega),e,Nat.sub_self,List.take_succ_eq_append_getElem h,List.map_append,List.drop_eq_getElem_cons h,List.map_cons,List.set_cons_zero]
 simp
end
section
variable {bs es tl R:List AV} {i k:Nat} {x:Ins} {b:Blk} {l:List Blk} {n m:Int} {e1 e2 e3 e4:AV} {nm:List UInt8} {ty ps:Int} {nr nb:Nat}
theorem GU (hb:bs[i]?=some (.agg [ownd 0 8 es,e1,e2,e3,e4])):∃ fr',evP ⟨A0,T,A3⟩ (.code Mp [(1,.ptr 0 0 0),(2,.ptr 1 0 0),(4,.ptr 2 i 0),(16,.int .i64 n),(17,.int .i64 m),(36,.int .i64 (k:Int)),(37,.int .i64 (k:Int))] ⟨[(PO.row 1 [AV.agg [.str nm,.int .i64 ty,.int .i64 ps,.msl 3 0 nr 1,.msl 2 0 nb 5]] 5),.row 1 [(AV.agg [.str [],.int .i64 0,.int .i64 0,.nilsl,.nilsl])] 5,.row 0 bs 5,.row 0 R 1],0,[]⟩)=some (.ok (.exit 2) fr' ⟨[(PO.row 1 [AV.agg [.str nm,.int .i64 ty,.int .i64 ps,.msl 3 0 nr 1,.msl 2 0 nb 5]] 5),.row 1 [(AV.agg [.str [],.int .i64 0,.int .i64 0,.nilsl,.nilsl])] 5,.row 0 bs 5,.row 0 R 1],0,[]⟩)∧lookP fr' 1=.ptr 0 0 0∧lookP fr' 2=.ptr 1 0 0∧lookP fr' 16=.int .i64 n∧lookP fr' 17=.int .i64 m:=by
 unfold Mp iD
 have hlt:decide ((k:Int) < (k:Int))=false:=by simp
 simp -implicitDefEqProofs only [hlt,XP,seval]
 exact ⟨_,rfl,rfl,rfl,rfl,rfl⟩
theorem zQ (hT:T 70=some G9) (hb:b.ok) (hi:i < bs.length):∀ (q k:Nat),b.code.length=k + q ->
 ∃ fr',evP ⟨A0,T,A3⟩ (.code (.loop Mp) [(1,.ptr 0 0 0),(2,.ptr 1 0 0),(4,.ptr 2 i 0),(16,.int .i64 n),(17,.int .i64 m),(36,.int .i64 (b.code.length:Int)),(37,.int .i64 (k:Int))] ⟨[(PO.row 1 [AV.agg [.str nm,.int .i64 ty,.int .i64 ps,.msl 3 0 nr 1,.msl 2 0 nb 5]] 5),.row 1 [(AV.agg [.str [],.int .i64 0,.int .i64 0,.nilsl,.nilsl])] 5,.row 0 (bs.set i (.agg [ownd 0 8 (mix Ins.F Ins.O b.code k),e1,e2,e3,e4])) 5,.row 0 R 1],0,[]⟩) =
   some (.ok (.exit 2) fr' ⟨[(PO.row 1 [AV.agg [.str nm,.int .i64 ty,.int .i64 ps,.msl 3 0 nr 1,.msl 2 0 nb 5]] 5),.row 1 [(AV.agg [.str [],.int .i64 0,.int .i64 0,.nilsl,.nilsl])] 5,.row 0 (bs.set i (.agg [ownd 0 8 (b.code.map Ins.O),e1,e2,e3,e4])) 5,.row 0 R 1],0,[]⟩)∧lookP fr' 1=.ptr 0 0 0∧lookP fr' 2=.ptr 1 0 0∧lookP fr' 16=.int .i64 n∧lookP fr' 17=.int .i64 m
 | 0,k,e=>by
  obtain rfl:k=b.code.length:=by omega
  rw [cN]
  obtain ⟨fr',h1,h2⟩:=GU (T:=T) (R:=R) (i:=i) (k:=b.code.length) (n:=n) (m:=m) (nm:=nm) (ty:=ty) (ps:=ps) (nr:=nr) (nb:=nb) (U2 (v:=AV.agg [ownd 0 8 (b.code.map Ins.O),e1,e2,e3,e4]) hi)
  exact ⟨fr',D3 h1,h2⟩
 | q + 1,k,e=>by
  have hk:k < b.code.length:=by omega
  have h1:=GT (T:=T) (R:=R) (i:=i) (k:=k) (n:=n) (m:=m) (nm:=nm) (ty:=ty) (ps:=ps) (nr:=nr) (nb:=nb) hT (U2 (v:=AV.agg [ownd 0 8 (mix Ins.F Ins.O b.code k),e1,e2,e3,e4]) hi) (cO hk) (hb.1 _ (List.getElem_mem hk)) (by rw [Tu]; have:=hb.2; simp only [bigN] at this ⊢; omega)
  rw [Tu,cP hk,List.set_set] at h1
  rw [E6 h1]
  exact zQ hT hb hi q (k + 1) (by omega)
set_option maxHeartbeats 8000000 in
theorem GV (hT:T 70=some G9) (hC:T 72=some X2) (h:i < l.length) (hs:l.length≤bigN) (hb:l[i].ok) :
 evP ⟨A0,T,A3⟩ (.code Mq [(1,.ptr 0 0 0),(2,.ptr 1 0 0),(16,.int .i64 (l.length:Int)),(17,.int .i64 (i:Int))] ⟨[PO.row 1 [AV.agg [.str nm,.int .i64 ty,.int .i64 ps,.msl 2 0 nr 1,.msl 3 0 l.length 5]] 5,.row 1 [(AV.agg [.str [],.int .i64 0,.int .i64 0,.nilsl,.nilsl])] 5,.row 0 R 1,.row 0 (mix Blk.F Blk.O l i) 5],0,[]⟩)=some (.ok .normal [(1,.ptr 0 0 0),(2,.ptr 1 0 0),(16,.int .i64 (l.length:Int)),(17,.int .i64 ((i + 1:Nat):Int))] ⟨[PO.row 1 [AV.agg [.str nm,.int .i64 ty,.int .i64 ps,.msl 2 0 nr 1,.msl 3 0 l.length 5]] 5,.row 1 [(AV.agg [.str [],.int .i64 0,.int .i64 0,.nilsl,.nilsl])] 5,.row 0 R 1,.row 0 (mix Blk.F Blk.O l (i + 1)) 5],0,[]⟩):=by
 have hlt:decide ((i:Int) < (l.length:Int))=true:=by simp [h]
 have hw:=B3 (i:=i) (by simp only [bigN] at hs; omega)
 have hg:=cO (F:=Blk.F) (O:=Blk.O) h
 have hset:=cP (F:=Blk.F) (O:=Blk.O) h
 have hil:i < (mix Blk.F Blk.O l i).length:=by rw [Tu]; exact h
 generalize mix Blk.F Blk.O l i=bs at hg hset hil
 rw [← hset]
 generalize l[i]=b at hg hb
 have tc:=fun K=>nJ (K:=K) hC hb.2
 obtain ⟨fr',h1,h2,h3,h4,h5⟩:=zQ (T:=T) (R:=R) (b:=b) (bs:=bs) (i:=i) (n:=(l.length:Int)) (m:=(i:Int)) (nm:=nm) (ty:=ty) (ps:=ps) (nr:=nr) (nb:=l.length) (e1:=.int .i64 b.e.kind) (e2:=.int .i64 b.e.a) (e3:=.int .i64 b.e.to) (e4:=.int .i64 b.e.els) hT hb hil b.code.length 0 (by omega)
 rw [rO] at h1
 have h1:evP ⟨A0,T,A3⟩ (.code (.loop Mp) [(1,.ptr 0 0 0),(2,.ptr 1 0 0),(4,.ptr 2 i 0),(16,.int .i64 (l.length:Int)),(17,.int .i64 (i:Int)),(36,.int .i64 (b.code.length:Int)),(37,.int .i64 0)] _)=_:=h1
 have g1:=fun v=>U2 (v:=v) hil
 simp only [Blk.F] at hg
 simp only [Blk.O]
 unfold Mq iE pZ pY pX pW pV
 simp -implicitDefEqProofs only [hlt,hw,h,hg,hil,tc,h1,h2,h3,h4,h5,g1,x7,List.set_set,List.length_set,List.length_map,XP,seval]
end
end Go.Proofs.AmEnv
