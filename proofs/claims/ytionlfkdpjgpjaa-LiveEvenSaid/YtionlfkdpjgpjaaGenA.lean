/- What this program's functions do, at any data. Conditions: none. -/
import Derived.Test.YtionlfkdpjgpjaaEnv
set_option linter.unusedVariables false
set_option linter.unusedSimpArgs false
set_option linter.unusedSectionVars false
set_option linter.defProp false
set_option maxRecDepth 100000
noncomputable section
namespace Go.Proofs.AmEnv
open Go Go.AM
variable {T:Nat->Option (List AV->Option (List AV))}
abbrev ints (l:List Int):List AV:=l.map (AV.int .i64)
theorem M4 {l:List Int} {i:Nat} (h:i < l.length):(ints l)[i]?=some (.int .i64 l[i]):=by
 unfold ints; rw [List.getElem?_map,List.getElem?_eq_getElem h]; rfl
section
variable {l:List Int} {f:Bool} {i:Nat} {x:Int} {es:List AV}
end
end Go.Proofs.AmEnv
set_option maxRecDepth 100000
namespace Go.Proofs.AmEnv
open Go Go.AM
variable {T:Nat->Option (List AV->Option (List AV))}
theorem ints_inj {l m:List Int} (h:ints l=ints m):l=m:=by
 induction l generalizing m with
 | nil=>cases m with
  | nil=>rfl
  | cons=>cases h
 | cons x l ih=>cases m with
  | nil=>cases h
  | cons y m=>injection h with h1 h2; injection h1 with _ h1; rw [h1,ih h2]
section
variable {l m:List Int} {f g:Bool} {i:Nat}
end
end Go.Proofs.AmEnv
set_option maxRecDepth 100000
namespace Go.Proofs.AmEnv
open Go Go.AM
structure Ins where
 op:Int
 ty:Int
 dst:Int
 a:Int
 b:Int
 n:Int
 s:List UInt8
 args:List Int
deriving DecidableEq
abbrev bigN:Nat:=140737488355328
def Ins.F (x:Ins):AV:=.agg [.int .i64 x.op,.int .i64 x.ty,.int .i64 x.dst,.int .i64 x.a,.int .i64 x.b,.int .i64 x.n,.str x.s,fslN (ints x.args)]
def Ins.ok (x:Ins):Prop:=x.args.length * 8≤bigN
theorem fslN_inj {l m:List AV} (h:fslN l=fslN m):l=m:=by unfold fslN at h; injection h
theorem Ins.F_inj {x y:Ins} (h:x.F=y.F):x=y:=by
 cases x; cases y
 simp only [Ins.F,AV.agg.injEq,List.cons.injEq,AV.int.injEq,AV.str.injEq,true_and,and_true] at h
 obtain ⟨rfl,rfl,rfl,rfl,rfl,rfl,rfl,h⟩:=h
 rw [ints_inj (fslN_inj h)]
def j5:=Cc (fun l:List Int=>[fslN (ints l)]) (fun l=>[ownd 0 1 (ints l)]) (fun l=>l.length * 8≤bigN)
theorem Ws {l:List Int} (h:l.length * 8≤bigN):j5 [fslN (ints l)]=some [ownd 0 1 (ints l)]:=E5 (a:=fun l:List Int=>[fslN (ints l)]) (fun x y e=>by injection e with e _; rw [ints_inj (fslN_inj e)]) l h
theorem frzL_ints (l:List Int):frzL (ints l)=some (ints l):=Br (f:=AV.int .i64) (g:=AV.int .i64) (fun _=>rfl) l
section
variable {T:Nat->Option (List AV->Option (List AV))}
theorem noFL_ints (l:List Int):noFL (ints l)=true:=by
 induction l with
 | nil=>rfl
 | cons x l ih=>exact ih
end
end Go.Proofs.AmEnv
set_option maxRecDepth 100000
namespace Go.Proofs.AmEnv
open Go Go.AM
variable {T:Nat->Option (List AV->Option (List AV))}
theorem Ins.viewF {os:List PO} (x:Ins):viewA os x.F=some x.F:=by
 unfold Ins.F
 simp -implicitDefEqProofs only [frzL_ints,XP,seval]
theorem Ins.frzF (x:Ins):frzC x.F=some x.F:=by
 unfold Ins.F
 simp -implicitDefEqProofs only [frzL_ints,XP,seval]
theorem D2 {X:Type} {F:X->AV} {l:List X} {i:Nat} (h:i < l.length):(l.map F)[i]?=some (F l[i]):=by rw [List.getElem?_map,List.getElem?_eq_getElem h]; rfl
section
variable {l:List Ins} {f:Bool} {i:Nat}
end
end Go.Proofs.AmEnv
set_option maxRecDepth 100000
namespace Go.Proofs.AmEnv
open Go Go.AM
variable {T:Nat->Option (List AV->Option (List AV))}
theorem Ek {X:Type} {F:X->AV} (hF:∀ x y,F x=F y->x=y):∀ {l m:List X},l.map F=m.map F->l=m
 | [],[],_=>rfl
 | [],_ :: _,h=>by cases h
 | _ :: _,[],h=>by cases h
 | x :: l,y :: m,h=>by
  injection h with h1 h2
  rw [hF _ _ h1,Ek hF h2]
section
variable {l m:List Ins} {i:Nat}
end
end Go.Proofs.AmEnv
set_option maxRecDepth 100000
namespace Go.Proofs.AmEnv
open Go Go.AM
variable {T:Nat->Option (List AV->Option (List AV))}
structure Endd where
 kind:Int
 a:Int
 to:Int
 els:Int
deriving DecidableEq
structure Blk where
 code:List Ins
 e:Endd
deriving DecidableEq
def Endd.F (e:Endd):AV:=.agg [.int .i64 e.kind,.int .i64 e.a,.int .i64 e.to,.int .i64 e.els]
def Blk.F (x:Blk):AV:=.agg [fslN (x.code.map Ins.F),.int .i64 x.e.kind,.int .i64 x.e.a,.int .i64 x.e.to,.int .i64 x.e.els]
def Blk.ok (x:Blk):Prop:=(∀ y∈x.code,y.ok)∧x.code.length * 88≤bigN
theorem Blk.F_inj {x y:Blk} (h:x.F=y.F):x=y:=by
 obtain ⟨c,e⟩:=x; obtain ⟨c',e'⟩:=y
 cases e; cases e'
 simp only [Blk.F,AV.agg.injEq,List.cons.injEq,AV.int.injEq,true_and,and_true] at h
 obtain ⟨h,rfl,rfl,rfl,rfl⟩:=h
 rw [Ek (fun _ _=>Ins.F_inj) (fslN_inj h)]
theorem frzL_insF (l:List Ins):frzL (l.map Ins.F)=some (l.map Ins.F):=Br Ins.frzF l
theorem Blk.frzF (x:Blk):frzC x.F=some x.F:=by
 unfold Blk.F
 simp -implicitDefEqProofs only [frzL_insF,XP,seval]
section
variable {l:List Blk} {i:Nat}
end
end Go.Proofs.AmEnv
set_option maxRecDepth 100000
namespace Go.Proofs.AmEnv
open Go Go.AM
variable {T:Nat->Option (List AV->Option (List AV))}
section
variable {l m:List Blk} {i:Nat}
end
end Go.Proofs.AmEnv
set_option maxRecDepth 100000
namespace Go.Proofs.AmEnv
open Go Go.AM
variable {T:Nat->Option (List AV->Option (List AV))}
structure Cod where
 name:List UInt8
 ty:Int
 ps:Int
 regs:List Int
 blocks:List Blk
deriving DecidableEq
def Cod.F (x:Cod):AV:=.agg [.str x.name,.int .i64 x.ty,.int .i64 x.ps,fslN (ints x.regs),fslN (x.blocks.map Blk.F)]
def Cod.ok (x:Cod):Prop:=x.regs.length * 8≤bigN∧(∀ y∈x.blocks,y.ok)∧x.blocks.length * 56≤bigN
theorem Cod.F_inj {x y:Cod} (h:x.F=y.F):x=y:=by
 cases x; cases y
 simp only [Cod.F,AV.agg.injEq,List.cons.injEq,AV.int.injEq,AV.str.injEq,true_and,and_true] at h
 obtain ⟨rfl,rfl,rfl,h1,h2⟩:=h
 rw [ints_inj (fslN_inj h1),Ek (fun _ _=>Blk.F_inj) (fslN_inj h2)]
theorem frzL_blkF (l:List Blk):frzL (l.map Blk.F)=some (l.map Blk.F):=Br Blk.frzF l
theorem Cod.viewF {os:List PO} (x:Cod):viewA os x.F=some x.F:=by
 unfold Cod.F
 simp -implicitDefEqProofs only [frzL_blkF,frzL_ints,XP,seval]
theorem Cod.frzF (x:Cod):frzC x.F=some x.F:=by
 unfold Cod.F
 simp -implicitDefEqProofs only [frzL_blkF,frzL_ints,XP,seval]
end Go.Proofs.AmEnv
set_option maxRecDepth 100000
namespace Go.Proofs.AmEnv
open Go Go.AM
variable {T:Nat->Option (List AV->Option (List AV))}
section
variable {put:List AV->List PO} {id:Nat} {es:List AV} {fr:PF} {ext i:Nat} {tch:List Nat}
end
end Go.Proofs.AmEnv
set_option maxRecDepth 100000
namespace Go.Proofs.AmEnv
open Go Go.AM
variable {T:Nat->Option (List AV->Option (List AV))}
section
variable {l:List Int}
theorem fU {t:Nat} {K:PK} (h:M0 A0 t=.slc):W7 A0 .eql t .nilsl .nilsl K=.val (.bool true) K:=by rw [bp _ _ rfl rfl,h]; rfl
theorem fV {t:Nat} {K:PK} (h:M0 A0 t=.slc):W7 A0 .eql t (.fsl [] false) .nilsl K=.val (.bool false) K:=by rw [bp _ _ rfl rfl,h]; rfl
theorem aF {t:Nat} {K:PK} {e:AV} {es:List AV} (h:M0 A0 t=.slc):W7 A0 .eql t (fslN (e :: es)) .nilsl K=.val (.bool false) K:=by rw [bp _ _ rfl rfl,h]; rfl
theorem nA (n:Nat):I9 n []=true:=rfl
theorem jR:AM.Comes ⟨A0,T,A5⟩ 70 [.nilsl] [ownd 0 1 (ints [])]:=by
 refine ⟨[.nilsl],⟨[],0,[]⟩,?_,E9 (.inl ⟨rfl,rfl,rfl⟩)⟩
 rw [A9 (c:=uE) (nt:=8) (rs:=[.tmp 2]) rfl (by simp)]
 unfold uE K0
 simp -implicitDefEqProofs only [fU (t:=28) rfl,XP,seval]
theorem jS:AM.Comes ⟨A0,T,A5⟩ 70 [.fsl [] false] [ownd 0 1 (ints [])]:=by
 refine ⟨[.msl 0 0 0 1],⟨[.row 0 [] 1],0,[]⟩,?_,E9 (.inr ⟨rfl,rfl⟩)⟩
 rw [A9 (c:=uE) (nt:=8) (rs:=[.tmp 2]) rfl (by simp)]
 unfold uE K0
 simp -implicitDefEqProofs only [fV (t:=28) rfl,nA,XP,seval]
theorem fW:∀ l:List Int,I9 1 (ints l)=true
 | []=>rfl
 | x :: l=>fW l
theorem dG {x:Int} {l:List Int} (hs:(x :: l).length * 8≤bigN):AM.Comes ⟨A0,T,A5⟩ 70 [fslN (ints (x :: l))] [ownd 0 1 (ints (x :: l))]:=by
 refine ⟨[.msl 0 0 (ints (x :: l)).length 1],⟨[.row 0 (ints (x :: l)) 1],0,[]⟩,?_,E9 (.inr ⟨rfl,rfl⟩)⟩
 rw [A9 (c:=uE) (nt:=8) (rs:=[.tmp 2]) rfl (by simp)]
 unfold uE K0
 have h1:∀ K:PK,W7 A0 .eql 28 (fslN (ints (x :: l))) .nilsl K=.val (.bool false) K:=fun K=>aF (t:=28) rfl
 have h2:=fW (x :: l)
 have h3:(ints (x :: l)).isEmpty=false:=rfl
 have h4:(ints (x :: l)).length * 8≤140737488355328:=by simpa [bigN] using hs
 generalize ints (x :: l)=es at h1 h2 h3 h4
 simp -implicitDefEqProofs only [h1,h2,h3,h4,XP,seval]
theorem nB {P:PE} (hP:PEok P) (he:P=⟨A0,T,A5⟩):TC P.E 70 j5:=by
 subst he
 refine pQ hP (fun a args rs hg a' ha=>?_) (by unfold j5 Cc; rw [dif_neg]; rintro ⟨x,_,h⟩; cases h)
 obtain ⟨l,h1,h2,rfl⟩:=Yc hg
 injection h2 with h2 h3
 subst h2 h3
 cases l with
 | nil =>
  rcases List.mem_cons.1 ha with rfl | ha
  . exact jR
  . obtain rfl:=List.mem_singleton.1 ha; exact jS
 | cons x l =>
  obtain rfl:=List.mem_singleton.1 (show a'∈[fslN (ints (x :: l))] from ha)
  exact dG h1
end
end Go.Proofs.AmEnv
set_option maxRecDepth 100000
namespace Go.Proofs.AmEnv
open Go Go.AM
variable {T:Nat->Option (List AV->Option (List AV))}
section
end
end Go.Proofs.AmEnv
set_option maxRecDepth 100000
namespace Go.Proofs.AmEnv
open Go Go.AM
variable {T:Nat->Option (List AV->Option (List AV))}
section
variable {l m:List Int} {i:Nat}
end
end Go.Proofs.AmEnv
set_option maxRecDepth 100000
namespace Go.Proofs.AmEnv
open Go Go.AM
variable {T:Nat->Option (List AV->Option (List AV))}
section
end
end Go.Proofs.AmEnv
set_option maxRecDepth 100000
namespace Go.Proofs.AmEnv
open Go Go.AM
variable {T:Nat->Option (List AV->Option (List AV))}
section
variable {l m:List Ins} {i:Nat}
end
end Go.Proofs.AmEnv
set_option maxRecDepth 100000
namespace Go.Proofs.AmEnv
open Go Go.AM
variable {T:Nat->Option (List AV->Option (List AV))}
def wide (sz:Nat) (es:List AV):Prop:=∀ v∈es,∃ cs,v=.agg cs∧cs.length=sz
section
variable {put:List AV->List PO} {id:Nat} {es:List AV} {fr:PF} {ext i:Nat} {tch:List Nat}
end
end Go.Proofs.AmEnv
set_option maxRecDepth 100000
namespace Go.Proofs.AmEnv
open Go Go.AM
variable {T:Nat->Option (List AV->Option (List AV))}
section
variable {regs:List Int} {bs:List AV} {i k:Nat} {b:Blk} {x:Ins} {tch:List Nat} {cells:List AV}
theorem aG {α:Type} {l:List α} {i:Nat} {v:α} (h:l[i]?=some v):l.set i v=l:=by
 obtain ⟨hi,rfl⟩:=List.getElem?_eq_some_iff.1 h
 exact List.set_getElem_self hi
theorem Nw {α:Type} {l:List α} {i:Nat} {v:α} (h:i < l.length):(l.set i v)[i]?=some v:=List.getElem?_set_self h
end
end Go.Proofs.AmEnv
set_option maxRecDepth 100000
namespace Go.Proofs.AmEnv
open Go Go.AM
variable {T:Nat->Option (List AV->Option (List AV))}
section
variable {regs:List Int} {bs:List AV} {i k:Nat} {b:Blk} {x:Ins} {tch:List Nat} {nm:List UInt8} {ty ps:Int} {nr nb:Nat}
end
end Go.Proofs.AmEnv
set_option maxRecDepth 100000
namespace Go.Proofs.AmEnv
open Go Go.AM
variable {T:Nat->Option (List AV->Option (List AV))}
structure Glo where
 name:List UInt8
 ty:Int
 size:Int
 at_:Int
deriving DecidableEq
structure Modl where
 gs:List Glo
 fs:List Cod
deriving DecidableEq
def Glo.F (g:Glo):AV:=.agg [.str g.name,.int .i64 g.ty,.int .i64 g.size,.int .i64 g.at_]
def Modl.F (m:Modl):AV:=.agg [fslN (m.gs.map Glo.F),fslN (m.fs.map Cod.F)]
abbrev bools (l:List Bool):List AV:=l.map AV.bool
def chkF (m:Modl) (c:Cod):AV:=.agg [fslN (m.gs.map Glo.F),fslN (m.fs.map Cod.F),.str c.name,.int .i64 c.ty,.int .i64 c.ps,fslN (ints c.regs),fslN (c.blocks.map Blk.F)]
theorem Glo.F_inj {x y:Glo} (h:x.F=y.F):x=y:=by
 cases x; cases y
 simp only [Glo.F,AV.agg.injEq,List.cons.injEq,AV.int.injEq,AV.str.injEq,true_and,and_true] at h
 obtain ⟨rfl,rfl,rfl,rfl⟩:=h; rfl
theorem Endd.F_inj {x y:Endd} (h:x.F=y.F):x=y:=by
 cases x; cases y
 simp only [Endd.F,AV.agg.injEq,List.cons.injEq,AV.int.injEq,true_and,and_true] at h
 obtain ⟨rfl,rfl,rfl,rfl⟩:=h; rfl
theorem Modl.F_inj {x y:Modl} (h:x.F=y.F):x=y:=by
 cases x; cases y
 simp only [Modl.F,AV.agg.injEq,List.cons.injEq,and_true] at h
 rw [Ek (fun _ _=>Glo.F_inj) (fslN_inj h.1),Ek (fun _ _=>Cod.F_inj) (fslN_inj h.2)]
theorem fslN_iff {l m:List AV}:fslN l=fslN m ↔ l=m:=⟨fslN_inj,fun h=>h ▸ rfl⟩
theorem ints_iff {l m:List Int}:l.map (AV.int .i64)=m.map (AV.int .i64) ↔ l=m:=⟨ints_inj,fun h=>h ▸ rfl⟩
theorem bools_iff {l m:List Bool}:l.map AV.bool=m.map AV.bool ↔ l=m:=⟨fun h=>Ek (fun _ _ h=>by injection h) h,fun h=>h ▸ rfl⟩
theorem Ins.F_iff {x y:Ins}:x.F=y.F ↔ x=y:=⟨Ins.F_inj,fun h=>h ▸ rfl⟩
theorem Cod.F_iff {x y:Cod}:x.F=y.F ↔ x=y:=⟨Cod.F_inj,fun h=>h ▸ rfl⟩
theorem Endd.F_iff {x y:Endd}:x.F=y.F ↔ x=y:=⟨Endd.F_inj,fun h=>h ▸ rfl⟩
theorem Modl.F_iff {x y:Modl}:x.F=y.F ↔ x=y:=⟨Modl.F_inj,fun h=>h ▸ rfl⟩
theorem Glo.frzF (x:Glo):frzC x.F=some x.F:=by unfold Glo.F; simp -implicitDefEqProofs only [XP,seval]
theorem frzL_gloF (l:List Glo):frzL (l.map Glo.F)=some (l.map Glo.F):=Br Glo.frzF l
theorem frzL_codF (l:List Cod):frzL (l.map Cod.F)=some (l.map Cod.F):=Br Cod.frzF l
theorem frzL_bools (l:List Bool):frzL (l.map AV.bool)=some (l.map AV.bool):=Br (f:=AV.bool) (g:=AV.bool) (fun _=>rfl) l
theorem Endd.viewF {os:List PO} (x:Endd):viewA os x.F=some x.F:=by unfold Endd.F; simp -implicitDefEqProofs only [XP,seval]
theorem Modl.viewF {os:List PO} (x:Modl):viewA os x.F=some x.F:=by unfold Modl.F; simp -implicitDefEqProofs only [frzL_gloF,frzL_codF,XP,seval]
theorem chk_viewF {os:List PO} (m:Modl) (c:Cod):viewA os (chkF m c)=some (chkF m c):=by unfold chkF; simp -implicitDefEqProofs only [frzL_gloF,frzL_codF,frzL_ints,frzL_blkF,XP,seval]
theorem chk_iff {m m':Modl} {c c':Cod}:chkF m c=chkF m' c' ↔ m=m'∧c=c':=by
 constructor
 . intro h
   simp only [chkF,AV.agg.injEq,List.cons.injEq,AV.int.injEq,AV.str.injEq,and_true] at h
   obtain ⟨h1,h2,h3,⟨_,h4⟩,⟨_,h5⟩,h6,h7⟩:=h
   exact ⟨Modl.F_inj (by simp only [Modl.F]; rw [h1,h2]),Cod.F_inj (by simp only [Cod.F]; rw [h3,h4,h5,h6,h7])⟩
 . rintro ⟨rfl,rfl⟩; rfl
theorem noFL_bools (l:List Bool):noFL (bools l)=true:=by
 induction l with
 | nil=>rfl
 | cons x l ih=>exact ih
def F6 (n:Int):Bool:=decide (n=1) || decide (n=2)
def thereD (a n:Int):Bool:=decide (0≤a) && decide (a < n)
def Fy (t:Int):Int:=if t=2 then 2 else 1
def Mi (t v:Int):Int:=if t=3 then IntKind.wrap .i64 (IntKind.wrap .i8 v) else if t=1 then IntKind.wrap .i64 (IntKind.wrap .i32 v) else if t=2 then v else 0
def B6:List UInt8:=[109,97,105,110]
def VJ:=And.intro @Int.ofNat_inj (And.intro @List.cons.injEq.{0} (And.intro @AV.int.injEq (And.intro @AV.str.injEq (And.intro @AV.bool.injEq (And.intro @AV.agg.injEq (And.intro @true_and (And.intro @and_true (And.intro @fslN_iff (And.intro @chk_iff (And.intro @Ins.F_iff (And.intro @Cod.F_iff (And.intro @Modl.F_iff (And.intro @Endd.F_iff (And.intro @ints_iff (@bools_iff)))))))))))))))
def VV:=And.intro @chk_viewF (And.intro @Ins.viewF (And.intro @Cod.viewF (And.intro @Modl.viewF (And.intro @Endd.viewF (And.intro @frzL_ints (And.intro @frzL_insF (And.intro @frzL_blkF (And.intro @frzL_codF (And.intro @frzL_gloF (@frzL_bools))))))))))
def VN:=And.intro @noFL_ints (@noFL_bools)
theorem Mu  {n:Int}:AM.Comes ⟨A0,T,A5⟩ 111 [.int .i64 n] [.bool (F6 n)]:=by
 refine ⟨[.bool (F6 n)],⟨[],0,[]⟩,?_,E2 rfl List.nodup_nil rfl rfl rfl⟩
 rw [A9 (c:=rC) (nt:=9) (rs:=[.tmp 2]) rfl (by simp)]; unfold rC
 unfold K0
 unfold F6
 by_cases h1:n=1
 . by_cases h2:n=2
   . simp -implicitDefEqProofs only [eq_true h1,eq_true h2,XP,seval]
   . simp -implicitDefEqProofs only [eq_true h1,eq_false h2,XP,seval]
 . by_cases h2:n=2
   . simp -implicitDefEqProofs only [eq_false h1,eq_true h2,XP,seval]
   . simp -implicitDefEqProofs only [eq_false h1,eq_false h2,XP,seval]
def N4:=Cc (fun p:(Int)=>[.int .i64 p]) (fun p=>[.bool (F6 p)]) (fun p=>True)
theorem Gu (hir_number:T 111=some N4) {n:Int} {K:PK}:evP ⟨A0,T,A5⟩ (.call 111 [.int .i64 n] K)=some (.val (openTs K.os.length [.bool (F6 n)]).1 ⟨K.os ++ (openTs K.os.length [.bool (F6 n)]).2,K.ext,K.tch⟩):=E1 hir_number (by simp -implicitDefEqProofs only [VV,XP,seval]) (E5 (a:=fun p:(Int)=>[.int .i64 p]) (r:=fun p=>[.bool (F6 p)]) (fun x y e=>by simp only [VJ] at e; simp only [e]) (n) trivial) (by simp -implicitDefEqProofs only [VN,XP,seval])
theorem Wu  (hP:PEok ⟨A0,T,A5⟩):TC A0 111 N4:=G4 hP fun p h=>Mu
theorem Qa  {a:Int} {n:Int}:AM.Comes ⟨A0,T,A5⟩ 225 [.int .i64 a,.int .i64 n] [.bool (thereD a n)]:=by
 refine ⟨[.bool (thereD a n)],⟨[],0,[]⟩,?_,E2 rfl List.nodup_nil rfl rfl rfl⟩
 rw [A9 (c:=rR) (nt:=12) (rs:=[.tmp 4]) rfl (by simp)]; unfold rR
 unfold K0
 unfold thereD
 by_cases h1:0≤a
 . by_cases h2:a < n
   . simp -implicitDefEqProofs only [eq_true h1,eq_true h2,XP,seval]
   . simp -implicitDefEqProofs only [eq_true h1,eq_false h2,XP,seval]
 . by_cases h2:a < n
   . simp -implicitDefEqProofs only [eq_false h1,eq_true h2,XP,seval]
   . simp -implicitDefEqProofs only [eq_false h1,eq_false h2,XP,seval]
def G9:=Cc (fun p:(Int) × (Int)=>[.int .i64 p.1,.int .i64 p.2]) (fun p=>[.bool (thereD p.1 p.2)]) (fun p=>True)
theorem j6 (hir_there:T 225=some G9) {a:Int} {n:Int} {K:PK}:evP ⟨A0,T,A5⟩ (.call 225 [.int .i64 a,.int .i64 n] K)=some (.val (openTs K.os.length [.bool (thereD a n)]).1 ⟨K.os ++ (openTs K.os.length [.bool (thereD a n)]).2,K.ext,K.tch⟩):=E1 hir_there (by simp -implicitDefEqProofs only [VV,XP,seval]) (E5 (a:=fun p:(Int) × (Int)=>[.int .i64 p.1,.int .i64 p.2]) (r:=fun p=>[.bool (thereD p.1 p.2)]) (fun x y e=>by simp only [VJ] at e; simp only [e]) (a,n) trivial) (by simp -implicitDefEqProofs only [VN,XP,seval])
theorem aH  (hP:PEok ⟨A0,T,A5⟩):TC A0 225 G9:=G4 hP fun p h=>Qa
theorem Sm  {t:Int}:AM.Comes ⟨A0,T,A5⟩ 249 [.int .i64 t] [.int .i64 (Fy t)]:=by
 refine ⟨[.int .i64 (Fy t)],⟨[],0,[]⟩,?_,E2 rfl List.nodup_nil rfl rfl rfl⟩
 rw [A9 (c:=rV) (nt:=5) (rs:=[.tmp 2]) rfl (by simp)]; unfold rV
 unfold K0
 unfold Fy
 by_cases h1:t=2
 . simp -implicitDefEqProofs only [eq_true h1,XP,seval]
 . simp -implicitDefEqProofs only [eq_false h1,XP,seval]
def Dg:=Cc (fun p:(Int)=>[.int .i64 p]) (fun p=>[.int .i64 (Fy p)]) (fun p=>True)
theorem nC (hir_wide:T 249=some Dg) {t:Int} {K:PK}:evP ⟨A0,T,A5⟩ (.call 249 [.int .i64 t] K)=some (.val (openTs K.os.length [.int .i64 (Fy t)]).1 ⟨K.os ++ (openTs K.os.length [.int .i64 (Fy t)]).2,K.ext,K.tch⟩):=E1 hir_wide (by simp -implicitDefEqProofs only [VV,XP,seval]) (E5 (a:=fun p:(Int)=>[.int .i64 p]) (r:=fun p=>[.int .i64 (Fy p)]) (fun x y e=>by simp only [VJ] at e; simp only [e]) (t) trivial) (by simp -implicitDefEqProofs only [VN,XP,seval])
theorem dH  (hP:PEok ⟨A0,T,A5⟩):TC A0 249 Dg:=G4 hP fun p h=>Sm
theorem Im (k j:IntKind) (n:Int):O7 (.int k) (.int j n)=some (.int k (k.wrap n)):=Er k n
theorem Mv  {t:Int} {v:Int}:AM.Comes ⟨A0,T,A5⟩ 182 [.int .i64 t,.int .i64 v] [.int .i64 (Mi t v)]:=by
 refine ⟨[.int .i64 (Mi t v)],⟨[],0,[]⟩,?_,E2 rfl List.nodup_nil rfl rfl rfl⟩
 rw [A9 (c:=rM) (nt:=19) (rs:=[.tmp 4]) rfl (by simp)]; unfold rM
 unfold K0
 unfold Mi
 by_cases h1:t=3
 . simp -implicitDefEqProofs only [Im,eq_true h1,XP,seval]
 by_cases h2:t=1
 . simp -implicitDefEqProofs only [Im,eq_false h1,eq_true h2,XP,seval]
 by_cases h3:t=2
 . simp -implicitDefEqProofs only [Im,eq_false h1,eq_false h2,eq_true h3,XP,seval]
 simp -implicitDefEqProofs only [Im,eq_false h1,eq_false h2,eq_false h3,XP,seval]
def Q2:=Cc (fun p:(Int) × (Int)=>[.int .i64 p.1,.int .i64 p.2]) (fun p=>[.int .i64 (Mi p.1 p.2)]) (fun p=>True)
theorem dI (hword_Wrap:T 182=some Q2) {t:Int} {v:Int} {K:PK}:evP ⟨A0,T,A5⟩ (.call 182 [.int .i64 t,.int .i64 v] K)=some (.val (openTs K.os.length [.int .i64 (Mi t v)]).1 ⟨K.os ++ (openTs K.os.length [.int .i64 (Mi t v)]).2,K.ext,K.tch⟩):=E1 hword_Wrap (by simp -implicitDefEqProofs only [VV,XP,seval]) (E5 (a:=fun p:(Int) × (Int)=>[.int .i64 p.1,.int .i64 p.2]) (r:=fun p=>[.int .i64 (Mi p.1 p.2)]) (fun x y e=>by simp only [VJ] at e; simp only [e]) (t,v) trivial) (by simp -implicitDefEqProofs only [VN,XP,seval])
theorem Wv  (hP:PEok ⟨A0,T,A5⟩):TC A0 182 Q2:=G4 hP fun p h=>Mv
theorem Ab (hir_number:T 111=some N4) {n:Int}:AM.Comes ⟨A0,T,A5⟩ 175 [.int .i64 n] [.bool (!F6 n)]:=by
 refine ⟨[.bool (!F6 n)],⟨[],0,[]⟩,?_,E2 rfl List.nodup_nil rfl rfl rfl⟩
 rw [A9 (c:=rI) (nt:=6) (rs:=[.tmp 2]) rfl (by simp)]; unfold rI
 unfold K0
 simp -implicitDefEqProofs only [Gu hir_number,XP,seval]
def C6:=Cc (fun p:(Int)=>[.int .i64 p]) (fun p=>[.bool (!F6 p)]) (fun p=>True)
theorem n7 (hir_checker_code_1:T 175=some C6) {n:Int} {K:PK}:evP ⟨A0,T,A5⟩ (.call 175 [.int .i64 n] K)=some (.val (openTs K.os.length [.bool (!F6 n)]).1 ⟨K.os ++ (openTs K.os.length [.bool (!F6 n)]).2,K.ext,K.tch⟩):=E1 hir_checker_code_1 (by simp -implicitDefEqProofs only [VV,XP,seval]) (E5 (a:=fun p:(Int)=>[.int .i64 p]) (r:=fun p=>[.bool (!F6 p)]) (fun x y e=>by simp only [VJ] at e; simp only [e]) (n) trivial) (by simp -implicitDefEqProofs only [VN,XP,seval])
theorem Dh (hir_number:T 111=some N4) (hP:PEok ⟨A0,T,A5⟩):TC A0 175 C6:=G4 hP fun p h=>Ab hir_number
theorem In  {c:Cod}:AM.Comes ⟨A0,T,A5⟩ 178 [c.F] [.bool (decide (c.name=B6))]:=by
 refine ⟨[.bool (decide (c.name=B6))],⟨[],0,[]⟩,?_,E2 rfl List.nodup_nil rfl rfl rfl⟩
 rw [A9 (c:=rL) (nt:=6) (rs:=[.tmp 2]) rfl (by simp)]; unfold rL
 unfold K0
 unfold Cod.F B6
 simp -implicitDefEqProofs only [XP,seval]
def K6:=Cc (fun p:(Cod)=>[p.F]) (fun p=>[.bool (decide (p.name=B6))]) (fun p=>True)
theorem Io (hir_mainOf_1:T 178=some K6) {c:Cod} {K:PK}:evP ⟨A0,T,A5⟩ (.call 178 [c.F] K)=some (.val (openTs K.os.length [.bool (decide (c.name=B6))]).1 ⟨K.os ++ (openTs K.os.length [.bool (decide (c.name=B6))]).2,K.ext,K.tch⟩):=E1 hir_mainOf_1 (by simp -implicitDefEqProofs only [VV,XP,seval]) (E5 (a:=fun p:(Cod)=>[p.F]) (r:=fun p=>[.bool (decide (p.name=B6))]) (fun x y e=>by simp only [VJ] at e; simp only [e]) (c) trivial) (by simp -implicitDefEqProofs only [VN,XP,seval])
theorem Qb  (hP:PEok ⟨A0,T,A5⟩):TC A0 178 K6:=G4 hP fun p h=>In
end Go.Proofs.AmEnv
set_option maxRecDepth 100000
namespace Go.Proofs.AmEnv
open Go Go.AM
variable {T:Nat->Option (List AV->Option (List AV))}
def writesD (x:Ins):Int:=if x.op=1 then x.dst else if x.op=2 then x.dst else if x.op=3 then x.dst else if x.op=4 then x.dst else if x.op=5 then x.dst else if x.op=7 then x.dst else if x.op=10 then x.dst else if x.op=9 then (if -1≤x.dst then x.dst else -1) else -1
def readsD (x:Ins):List Int:=if x.op=2 then [x.a] else if x.op=4 then [x.a] else if x.op=5 then [x.a] else if x.op=8 then [x.a] else if x.op=11 then [x.a] else if x.op=3 then [x.a,x.b] else if x.op=6 then [x.a,x.b] else if x.op=9 then x.args else []
theorem j0 (a b:Int) (K:PK):Iy (I6 A0 .max [3,3] [.int .i64 a,.int .i64 b] K)=.val (.int .i64 (if b≤a then a else b)) K:=by
 show Iy ((Jw [.int .i64 b] (.int .i64 a)).map (·,K))=_
 show Iy ((some (AV.int .i64 (bif intLe b a then a else b))).map (·,K))=_
 rw [P0]
 by_cases hb:b≤a
 . rw [if_pos hb,decide_eq_true hb]; rfl
 . rw [if_neg hb,decide_eq_false hb]; rfl
theorem Mw  {x:Ins}:AM.Comes ⟨A0,T,A5⟩ 108 [x.F] [.int .i64 (writesD x)]:=by
 refine ⟨[.int .i64 (writesD x)],⟨[],0,[]⟩,?_,E2 rfl List.nodup_nil rfl rfl rfl⟩
 rw [A9 (c:=rB) (nt:=20) (rs:=[.tmp 2]) rfl (by simp)]; unfold rB
 unfold K0
 unfold Ins.F writesD
 by_cases e1:x.op=1
 . simp -implicitDefEqProofs only [j0,eq_true e1,XP,seval]
 by_cases e2:x.op=2
 . simp -implicitDefEqProofs only [j0,eq_false e1,eq_true e2,XP,seval]
 by_cases e3:x.op=3
 . simp -implicitDefEqProofs only [j0,eq_false e1,eq_false e2,eq_true e3,XP,seval]
 by_cases e4:x.op=4
 . simp -implicitDefEqProofs only [j0,eq_false e1,eq_false e2,eq_false e3,eq_true e4,XP,seval]
 by_cases e5:x.op=5
 . simp -implicitDefEqProofs only [j0,eq_false e1,eq_false e2,eq_false e3,eq_false e4,eq_true e5,XP,seval]
 by_cases e7:x.op=7
 . simp -implicitDefEqProofs only [j0,eq_false e1,eq_false e2,eq_false e3,eq_false e4,eq_false e5,eq_true e7,XP,seval]
 by_cases e10:x.op=10
 . simp -implicitDefEqProofs only [j0,eq_false e1,eq_false e2,eq_false e3,eq_false e4,eq_false e5,eq_false e7,eq_true e10,XP,seval]
 by_cases e9:x.op=9
 . simp -implicitDefEqProofs only [j0,eq_false e1,eq_false e2,eq_false e3,eq_false e4,eq_false e5,eq_false e7,eq_false e10,eq_true e9,XP,seval]
 simp -implicitDefEqProofs only [j0,eq_false e1,eq_false e2,eq_false e3,eq_false e4,eq_false e5,eq_false e7,eq_false e10,eq_false e9,XP,seval]
def B0:=Cc (fun p:(Ins)=>[p.F]) (fun p=>[.int .i64 (writesD p)]) (fun p=>True)
theorem Y3 (hir_Writes:T 108=some B0) {x:Ins} {K:PK}:evP ⟨A0,T,A5⟩ (.call 108 [x.F] K)=some (.val (openTs K.os.length [.int .i64 (writesD x)]).1 ⟨K.os ++ (openTs K.os.length [.int .i64 (writesD x)]).2,K.ext,K.tch⟩):=E1 hir_Writes (by simp -implicitDefEqProofs only [VV,XP,seval]) (E5 (a:=fun p:(Ins)=>[p.F]) (r:=fun p=>[.int .i64 (writesD p)]) (fun x y e=>by simp only [VJ] at e; simp only [e]) (x) trivial) (by simp -implicitDefEqProofs only [VN,XP,seval])
theorem Ww  (hP:PEok ⟨A0,T,A5⟩):TC A0 108 B0:=G4 hP fun p h=>Mw
theorem Qc (hCloneInts:T 70=some j5) {x:Ins} (hk:x.ok):AM.Comes ⟨A0,T,A5⟩ 170 [x.F] [ownd 0 1 (ints (readsD x))]:=by
 have one:∀ (a:Int) (L:List Int),L=[a]->evP ⟨A0,T,A5⟩ (.body 170 [x.F] K0)=some (.val [.msl 0 0 1 1] ⟨[.row 0 [.int .i64 a] 1],0,[]⟩)->AM.Comes ⟨A0,T,A5⟩ 170 [x.F] [ownd 0 1 (ints L)]:=fun a L e h=>by
  subst e; exact ⟨_,_,h,E9 (.inr ⟨rfl,rfl⟩)⟩
 have two:∀ (a b:Int) (L:List Int),L=[a,b]->evP ⟨A0,T,A5⟩ (.body 170 [x.F] K0)=some (.val [.msl 0 0 2 1] ⟨[.row 0 [.int .i64 a,.int .i64 b] 1],0,[]⟩)->AM.Comes ⟨A0,T,A5⟩ 170 [x.F] [ownd 0 1 (ints L)]:=fun a b L e h=>by
  subst e; exact ⟨_,_,h,E9 (.inr ⟨rfl,rfl⟩)⟩
 by_cases e2:x.op=2
 . refine one x.a _ (by simp [readsD,e2]) ?_
   rw [A9 (c:=Aa) (nt:=27) (rs:=[.tmp 2]) rfl (by simp)]; unfold Aa; unfold K0 Ins.F
   simp -implicitDefEqProofs only [eq_true e2,XP,seval]
 by_cases e4:x.op=4
 . refine one x.a _ (by simp [readsD,e4]) ?_
   rw [A9 (c:=Aa) (nt:=27) (rs:=[.tmp 2]) rfl (by simp)]; unfold Aa; unfold K0 Ins.F
   simp -implicitDefEqProofs only [eq_false e2,eq_true e4,XP,seval]
 by_cases e5:x.op=5
 . refine one x.a _ (by simp [readsD,e5]) ?_
   rw [A9 (c:=Aa) (nt:=27) (rs:=[.tmp 2]) rfl (by simp)]; unfold Aa; unfold K0 Ins.F
   simp -implicitDefEqProofs only [eq_false e2,eq_false e4,eq_true e5,XP,seval]
 by_cases e8:x.op=8
 . refine one x.a _ (by simp [readsD,e8]) ?_
   rw [A9 (c:=Aa) (nt:=27) (rs:=[.tmp 2]) rfl (by simp)]; unfold Aa; unfold K0 Ins.F
   simp -implicitDefEqProofs only [eq_false e2,eq_false e4,eq_false e5,eq_true e8,XP,seval]
 by_cases e11:x.op=11
 . refine one x.a _ (by simp [readsD,e11]) ?_
   rw [A9 (c:=Aa) (nt:=27) (rs:=[.tmp 2]) rfl (by simp)]; unfold Aa; unfold K0 Ins.F
   simp -implicitDefEqProofs only [eq_false e2,eq_false e4,eq_false e5,eq_false e8,eq_true e11,XP,seval]
 by_cases e3:x.op=3
 . refine two x.a x.b _ (by simp [readsD,e3]) ?_
   rw [A9 (c:=Aa) (nt:=27) (rs:=[.tmp 2]) rfl (by simp)]; unfold Aa; unfold K0 Ins.F
   simp -implicitDefEqProofs only [eq_false e2,eq_false e4,eq_false e5,eq_false e8,eq_false e11,eq_true e3,XP,seval]
 by_cases e6:x.op=6
 . refine two x.a x.b _ (by simp [readsD,e6]) ?_
   rw [A9 (c:=Aa) (nt:=27) (rs:=[.tmp 2]) rfl (by simp)]; unfold Aa; unfold K0 Ins.F
   simp -implicitDefEqProofs only [eq_false e2,eq_false e4,eq_false e5,eq_false e8,eq_false e11,eq_false e3,eq_true e6,XP,seval]
 by_cases e9:x.op=9
 . rw [show readsD x=x.args by simp [readsD,e9]]
   refine ⟨[.msl 0 0 x.args.length 1],⟨[.row 0 (ints x.args) 1],0,[]⟩,?_,E9 (.inr ⟨by rw [List.length_map],rfl⟩)⟩
   rw [A9 (c:=Aa) (nt:=27) (rs:=[.tmp 2]) rfl (by simp)]; unfold Aa; unfold K0 Ins.F
   have t:∀ {K:PK},evP ⟨A0,T,A5⟩ (.call 70 [fslN (ints x.args)] K)=some (.val (openTs K.os.length [ownd 0 1 (ints x.args)]).1 ⟨K.os ++ (openTs K.os.length [ownd 0 1 (ints x.args)]).2,K.ext,K.tch⟩):=E1 hCloneInts (by simp -implicitDefEqProofs only [frzL_ints,XP,seval]) (Ws hk) rfl
   simp -implicitDefEqProofs only [eq_false e2,eq_false e4,eq_false e5,eq_false e8,eq_false e11,eq_false e3,eq_false e6,eq_true e9,t,List.length_map,XP,seval]
 . rw [show readsD x=[] by simp [readsD,e2,e4,e5,e8,e11,e3,e6,e9]]
   refine ⟨[.nilsl],⟨[],0,[]⟩,?_,E9 (.inl ⟨rfl,rfl,rfl⟩)⟩
   rw [A9 (c:=Aa) (nt:=27) (rs:=[.tmp 2]) rfl (by simp)]; unfold Aa; unfold K0 Ins.F
   simp -implicitDefEqProofs only [eq_false e2,eq_false e4,eq_false e5,eq_false e8,eq_false e11,eq_false e3,eq_false e6,eq_false e9,XP,seval]
def B7:=Cc (fun p:(Ins)=>[p.F]) (fun p=>[ownd 0 1 (ints (readsD p))]) (fun p=>p.ok)
theorem El (hir_Reads:T 170=some B7) {x:Ins} {K:PK} (hk:x.ok):evP ⟨A0,T,A5⟩ (.call 170 [x.F] K)=some (.val (openTs K.os.length [ownd 0 1 (ints (readsD x))]).1 ⟨K.os ++ (openTs K.os.length [ownd 0 1 (ints (readsD x))]).2,K.ext,K.tch⟩):=E1 hir_Reads (by simp -implicitDefEqProofs only [VV,XP,seval]) (E5 (a:=fun p:(Ins)=>[p.F]) (r:=fun p=>[ownd 0 1 (ints (readsD p))]) (fun x y e=>by simp only [VJ] at e; simp only [e]) (x) hk) (by simp -implicitDefEqProofs only [VN,XP,seval])
theorem aI (hCloneInts:T 70=some j5) (hP:PEok ⟨A0,T,A5⟩):TC A0 170 B7:=G4 hP fun p h=>Qc hCloneInts h
end Go.Proofs.AmEnv
set_option maxRecDepth 100000
namespace Go.Proofs.AmEnv
open Go Go.AM
variable {T:Nat->Option (List AV->Option (List AV))}
def idxOf {X:Type} (p:X->Bool) (l:List X):Int:=match l.findIdx? p with | some i=>(i:Int) | none=>-1
theorem idx_loop {P:PE} {c:PC} {X:Type} {p:X->Bool} {l:List X} {S:Nat->PF} {K:PK}
 (h1:∀ i (h:i < l.length),p l[i]=false->evP P (.code c (S i) K)=some (.ok .normal (S (i + 1)) K))
 (h2:∀ i (h:i < l.length),p l[i]=true->∃ fr',evP P (.code c (S i) K)=some (.ok .ret fr' K)∧lookP fr' 4=.int .i64 (i:Int))
 (hx:∃ fr',evP P (.code c (S l.length) K)=some (.ok (.exit 0) fr' K)) :
 (∃ i:Nat,idxOf p l=i∧∃ fr',evP P (.code (.loop c) (S 0) K)=some (.ok .ret fr' K)∧lookP fr' 4=.int .i64 (i:Int))∨(idxOf p l=-1∧∃ fr',evP P (.code (.loop c) (S 0) K)=some (.ok (.exit 0) fr' K)):=by
 have key:∀ (n i:Nat),l.length=i + n->(∀ j (hj:j < l.length),j < i->p l[j]=false)->(∃ k:Nat,idxOf p l=k∧∃ fr',evP P (.code (.loop c) (S i) K)=some (.ok .ret fr' K)∧lookP fr' 4=.int .i64 (k:Int))∨(idxOf p l=-1∧∃ fr',evP P (.code (.loop c) (S i) K)=some (.ok (.exit 0) fr' K)):=fun n=>by
  induction n with
  | zero =>
   intro i e hp
   obtain rfl:i=l.length:=by omega
   obtain ⟨fr',h⟩:=hx
   refine .inr ⟨?_,fr',C4 h⟩
   unfold idxOf
   have:l.findIdx? p=none:=by
    rw [List.findIdx?_eq_none_iff]
    intro x hm
    obtain ⟨j,hj,rfl⟩:=List.getElem_of_mem hm
    exact hp j hj hj
   rw [this]
  | succ n ih =>
   intro i e hp
   have hl:i < l.length:=by omega
   cases hq:p l[i] with
   | false =>
    rw [C2 (h1 i hl hq)]
    refine ih (i + 1) (by omega) fun j hj hji=>?_
    by_cases he:j=i
    . subst he; exact hq
    . exact hp j hj (by omega)
   | true =>
    obtain ⟨fr',q1,q2⟩:=h2 i hl hq
    refine .inl ⟨i,?_,fr',Ee q1,q2⟩
    unfold idxOf
    have:l.findIdx? p=some i:=by
     rw [List.findIdx?_eq_some_iff_getElem]
     exact ⟨hl,hq,fun j hj=>by simpa using hp j (by omega) hj⟩
    rw [this]
 exact key l.length 0 (by omega) fun j hj h=>absurd h (by omega)
theorem fX {X:Type} {p:X->Bool} {l:List X}:decide (0≤idxOf p l)=l.any p:=by
 unfold idxOf
 cases h:l.findIdx? p with
 | none =>
  rw [List.findIdx?_eq_none_iff] at h
  have:l.any p=false:=by rw [List.any_eq_false]; intro x hx; simp [h x hx]
  rw [this]; rfl
 | some i =>
  rw [List.findIdx?_eq_some_iff_getElem] at h
  obtain ⟨h1,h2,_⟩:=h
  have:l.any p=true:=List.any_eq_true.2 ⟨_,List.getElem_mem h1,h2⟩
  rw [this]; simp
section
variable {l:List Int} {i:Nat} {v:Int}
theorem BX (h:i < l.length) (hs:l.length≤bigN) (hp:decide (v=l[i])=false):evP ⟨A0,T,A5⟩ (.code x9 [(0,fslN (ints l)),(1,.int .i64 v),(7,.int .i64 (l.length:Int)),(8,.int .i64 (i:Int))] ⟨[],0,[]⟩)=some (.ok .normal [(0,fslN (ints l)),(1,.int .i64 v),(7,.int .i64 (l.length:Int)),(8,.int .i64 ((i + 1:Nat):Int))] ⟨[],0,[]⟩):=by
 unfold x9
 have hlt:decide ((i:Int) < (l.length:Int))=true:=by simp [h]
 have hw:=B3 (i:=i) (by simp only [bigN] at hs; omega)
 simp -implicitDefEqProofs only [hlt,M4 h,hw,hp,XP,seval]
theorem BY (h:i < l.length) (hp:decide (v=l[i])=true):∃ fr',evP ⟨A0,T,A5⟩ (.code x9 [(0,fslN (ints l)),(1,.int .i64 v),(7,.int .i64 (l.length:Int)),(8,.int .i64 (i:Int))] ⟨[],0,[]⟩)=some (.ok .ret fr' ⟨[],0,[]⟩)∧lookP fr' 4=.int .i64 (i:Int):=by
 unfold x9
 have hlt:decide ((i:Int) < (l.length:Int))=true:=by simp [h]
 simp -implicitDefEqProofs only [hlt,M4 h,hp,XP,seval]
 exact ⟨_,rfl,rfl⟩
theorem BZ:∃ fr',evP ⟨A0,T,A5⟩ (.code x9 [(0,fslN (ints l)),(1,.int .i64 v),(7,.int .i64 (l.length:Int)),(8,.int .i64 (l.length:Int))] ⟨[],0,[]⟩)=some (.ok (.exit 0) fr' ⟨[],0,[]⟩):=by
 unfold x9
 have hlt:decide ((l.length:Int) < (l.length:Int))=false:=by simp
 simp -implicitDefEqProofs only [hlt,XP,seval]
 exact ⟨_,rfl⟩
theorem Sn  {l:List Int} {v:Int} (hk:l.length≤bigN):AM.Comes ⟨A0,T,A5⟩ 264 [fslN (ints l),.int .i64 v] [.int .i64 (idxOf (fun n=>decide (v=n)) l)]:=by
 refine ⟨[.int .i64 (idxOf (fun n=>decide (v=n)) l)],⟨[],0,[]⟩,?_,E2 rfl List.nodup_nil rfl rfl rfl⟩
 rw [A9 (c:=rX) (nt:=19) (rs:=[.tmp 4]) rfl (by simp)]; unfold rX
 unfold K0
 rcases idx_loop (P:=⟨A0,T,A5⟩) (c:=x9) (p:=fun n=>decide (v=n)) (l:=l) (S:=fun i=>[(0,fslN (ints l)),(1,.int .i64 v),(7,.int .i64 (l.length:Int)),(8,.int .i64 (i:Int))]) (K:=⟨[],0,[]⟩) (fun i h hp=>BX h hk hp) (fun i h hp=>BY h hp) BZ with ⟨i,e,fr',h1,h2⟩ | ⟨e,fr',h1⟩
 . have h1:evP ⟨A0,T,A5⟩ (.code (.loop x9) [(0,fslN (ints l)),(1,.int .i64 v),(7,.int .i64 (l.length:Int)),(8,.int .i64 0)] ⟨[],0,[]⟩)=_:=h1
   simp -implicitDefEqProofs only [h1,h2,e,List.length_map,XP,seval]
 . have h1:evP ⟨A0,T,A5⟩ (.code (.loop x9) [(0,fslN (ints l)),(1,.int .i64 v),(7,.int .i64 (l.length:Int)),(8,.int .i64 0)] ⟨[],0,[]⟩)=_:=h1
   simp -implicitDefEqProofs only [h1,e,List.length_map,XP,seval]
def Di:=Cc (fun p:(List Int) × (Int)=>[fslN (ints p.1),.int .i64 p.2]) (fun p=>[.int .i64 (idxOf (fun n=>decide (p.2=n)) p.1)]) (fun p=>p.1.length≤bigN)
theorem nD (hIdxInts:T 264=some Di) {l:List Int} {v:Int} {K:PK} (hk:l.length≤bigN):evP ⟨A0,T,A5⟩ (.call 264 [fslN (ints l),.int .i64 v] K)=some (.val (openTs K.os.length [.int .i64 (idxOf (fun n=>decide (v=n)) l)]).1 ⟨K.os ++ (openTs K.os.length [.int .i64 (idxOf (fun n=>decide (v=n)) l)]).2,K.ext,K.tch⟩):=E1 hIdxInts (by simp -implicitDefEqProofs only [VV,XP,seval]) (E5 (a:=fun p:(List Int) × (Int)=>[fslN (ints p.1),.int .i64 p.2]) (r:=fun p=>[.int .i64 (idxOf (fun n=>decide (p.2=n)) p.1)]) (fun x y e=>by simp only [VJ] at e; simp only [e]) (l,v) hk) (by simp -implicitDefEqProofs only [VN,XP,seval])
theorem dJ  (hP:PEok ⟨A0,T,A5⟩):TC A0 264 Di:=G4 hP fun p h=>Sn  h
theorem Qd (hIdxInts:T 264=some Di) {l:List Int} {v:Int} (hk:l.length≤bigN):AM.Comes ⟨A0,T,A5⟩ 246 [fslN (ints l),.int .i64 v] [.bool (l.any fun n=>decide (v=n))]:=by
 refine ⟨[.bool (l.any fun n=>decide (v=n))],⟨[],0,[]⟩,?_,E2 rfl List.nodup_nil rfl rfl rfl⟩
 rw [A9 (c:=rS) (nt:=9) (rs:=[.tmp 4]) rfl (by simp)]; unfold rS
 unfold K0
 rw [← fX]
 have t:=fun K=>nD (K:=K) (v:=v) hIdxInts hk
 simp -implicitDefEqProofs only [t,XP,seval]
def j7:=Cc (fun p:(List Int) × (Int)=>[fslN (ints p.1),.int .i64 p.2]) (fun p=>[.bool (p.1.any fun n=>decide (p.2=n))]) (fun p=>p.1.length≤bigN)
theorem aJ (hIdxInts:T 264=some Di) (hP:PEok ⟨A0,T,A5⟩):TC A0 246 j7:=G4 hP fun p h=>Qd hIdxInts h
end
section
variable {l:List Int} {i:Nat}
theorem CA (hN:T 175=some C6) (h:i < l.length) (hs:l.length≤bigN) (hp:(!F6 l[i])=false):evP ⟨A0,T,A5⟩ (.code x6 [(0,fslN (ints l)),(1,.fn (.func 175) [] []),(7,.int .i64 (l.length:Int)),(8,.int .i64 (i:Int))] ⟨[],0,[]⟩)=some (.ok .normal [(0,fslN (ints l)),(1,.fn (.func 175) [] []),(7,.int .i64 (l.length:Int)),(8,.int .i64 ((i + 1:Nat):Int))] ⟨[],0,[]⟩):=by
 unfold x6
 have hlt:decide ((i:Int) < (l.length:Int))=true:=by simp [h]
 have hw:=B3 (i:=i) (by simp only [bigN] at hs; omega)
 simp -implicitDefEqProofs only [hlt,M4 h,hw,n7 hN,hp,XP,seval]
theorem CB (hN:T 175=some C6) (h:i < l.length) (hp:(!F6 l[i])=true):∃ fr',evP ⟨A0,T,A5⟩ (.code x6 [(0,fslN (ints l)),(1,.fn (.func 175) [] []),(7,.int .i64 (l.length:Int)),(8,.int .i64 (i:Int))] ⟨[],0,[]⟩)=some (.ok .ret fr' ⟨[],0,[]⟩)∧lookP fr' 4=.int .i64 (i:Int):=by
 unfold x6
 have hlt:decide ((i:Int) < (l.length:Int))=true:=by simp [h]
 simp -implicitDefEqProofs only [hlt,M4 h,n7 hN,hp,XP,seval]
 exact ⟨_,rfl,rfl⟩
theorem CC:∃ fr',evP ⟨A0,T,A5⟩ (.code x6 [(0,fslN (ints l)),(1,.fn (.func 175) [] []),(7,.int .i64 (l.length:Int)),(8,.int .i64 (l.length:Int))] ⟨[],0,[]⟩)=some (.ok (.exit 0) fr' ⟨[],0,[]⟩):=by
 unfold x6
 have hlt:decide ((l.length:Int) < (l.length:Int))=false:=by simp
 simp -implicitDefEqProofs only [hlt,XP,seval]
 exact ⟨_,rfl⟩
theorem So (hN:T 175=some C6) (hI:T 221=none) (hs:l.length≤bigN) (K:PK):evP ⟨A0,T,A5⟩ (.call 221 [fslN (ints l),.fn (.func 175) [] []] K)=some (.val [.int .i64 (idxOf (fun n=>!F6 n) l)] K):=by
 refine eR (tch:=[]) hI rfl rfl rfl ?_ rfl
 rw [A9 (c:=rN) (nt:=19) (rs:=[.tmp 4]) rfl (by simp)]; unfold rN
 rcases idx_loop (P:=⟨A0,T,A5⟩) (c:=x6) (p:=fun n=>!F6 n) (l:=l) (S:=fun i=>[(0,fslN (ints l)),(1,.fn (.func 175) [] []),(7,.int .i64 (l.length:Int)),(8,.int .i64 (i:Int))]) (K:=⟨[],0,[]⟩) (fun i h hp=>CA hN h hs hp) (fun i h hp=>CB hN h hp) CC with ⟨i,e,fr',h1,h2⟩ | ⟨e,fr',h1⟩
 . have h1:evP ⟨A0,T,A5⟩ (.code (.loop x6) [(0,fslN (ints l)),(1,.fn (.func 175) [] []),(7,.int .i64 (l.length:Int)),(8,.int .i64 0)] ⟨[],0,[]⟩)=_:=h1
   simp -implicitDefEqProofs only [h1,h2,e,List.length_map,XP,seval]
 . have h1:evP ⟨A0,T,A5⟩ (.code (.loop x6) [(0,fslN (ints l)),(1,.fn (.func 175) [] []),(7,.int .i64 (l.length:Int)),(8,.int .i64 0)] ⟨[],0,[]⟩)=_:=h1
   simp -implicitDefEqProofs only [h1,e,List.length_map,XP,seval]
theorem Qe (hN:T 175=some C6) (hI:T 221=none) (hC:T 174=none) (hs:l.length≤bigN) (K:PK):evP ⟨A0,T,A5⟩ (.call 174 [fslN (ints l),.fn (.func 175) [] []] K)=some (.val [.bool (l.any fun n=>!F6 n)] K):=by
 refine eR (tch:=[]) hC rfl rfl rfl ?_ rfl
 rw [← fX]
 have t:=fun K=>So hN hI hs K
 rw [A9 (c:=rH) (nt:=9) (rs:=[.tmp 4]) rfl (by simp)]; unfold rH
 simp -implicitDefEqProofs only [t,XP,seval]
end
section
variable {l:List Cod} {i:Nat}
theorem CD (hN:T 178=some K6) (h:i < l.length) (hs:l.length≤bigN) (hp:decide (l[i].name=B6)=false):evP ⟨A0,T,A5⟩ (.code x5 [(0,fslN (l.map Cod.F)),(1,.fn (.func 178) [] []),(7,.int .i64 (l.length:Int)),(8,.int .i64 (i:Int))] ⟨[],0,[]⟩)=some (.ok .normal [(0,fslN (l.map Cod.F)),(1,.fn (.func 178) [] []),(7,.int .i64 (l.length:Int)),(8,.int .i64 ((i + 1:Nat):Int))] ⟨[],0,[]⟩):=by
 unfold x5
 have hlt:decide ((i:Int) < (l.length:Int))=true:=by simp [h]
 have hw:=B3 (i:=i) (by simp only [bigN] at hs; omega)
 have hi:=D2 (F:=Cod.F) h
 have t:=fun K=>Io (K:=K) (c:=l[i]) hN
 simp only [Cod.F] at hi t
 simp -implicitDefEqProofs only [hlt,hi,hw,t,hp,XP,seval]
theorem CE (hN:T 178=some K6) (h:i < l.length) (hp:decide (l[i].name=B6)=true):∃ fr',evP ⟨A0,T,A5⟩ (.code x5 [(0,fslN (l.map Cod.F)),(1,.fn (.func 178) [] []),(7,.int .i64 (l.length:Int)),(8,.int .i64 (i:Int))] ⟨[],0,[]⟩)=some (.ok .ret fr' ⟨[],0,[]⟩)∧lookP fr' 4=.int .i64 (i:Int):=by
 unfold x5
 have hlt:decide ((i:Int) < (l.length:Int))=true:=by simp [h]
 have hi:=D2 (F:=Cod.F) h
 have t:=fun K=>Io (K:=K) (c:=l[i]) hN
 simp only [Cod.F] at hi t
 simp -implicitDefEqProofs only [hlt,hi,t,hp,XP,seval]
 exact ⟨_,rfl,rfl⟩
theorem CF:∃ fr',evP ⟨A0,T,A5⟩ (.code x5 [(0,fslN (l.map Cod.F)),(1,.fn (.func 178) [] []),(7,.int .i64 (l.length:Int)),(8,.int .i64 (l.length:Int))] ⟨[],0,[]⟩)=some (.ok (.exit 0) fr' ⟨[],0,[]⟩):=by
 unfold x5
 have hlt:decide ((l.length:Int) < (l.length:Int))=false:=by simp
 simp -implicitDefEqProofs only [hlt,XP,seval]
 exact ⟨_,rfl⟩
theorem Sp (hN:T 178=some K6) (hI:T 162=none) (hs:l.length≤bigN) (K:PK):evP ⟨A0,T,A5⟩ (.call 162 [fslN (l.map Cod.F),.fn (.func 178) [] []] K)=some (.val [.int .i64 (idxOf (fun c:Cod=>decide (c.name=B6)) l)] K):=by
 refine eR (tch:=[]) hI rfl rfl rfl ?_ rfl
 rw [A9 (c:=rG) (nt:=19) (rs:=[.tmp 4]) rfl (by simp)]; unfold rG
 rcases idx_loop (P:=⟨A0,T,A5⟩) (c:=x5) (p:=fun c:Cod=>decide (c.name=B6)) (l:=l) (S:=fun i=>[(0,fslN (l.map Cod.F)),(1,.fn (.func 178) [] []),(7,.int .i64 (l.length:Int)),(8,.int .i64 (i:Int))]) (K:=⟨[],0,[]⟩) (fun i h hp=>CD hN h hs hp) (fun i h hp=>CE hN h hp) CF with ⟨i,e,fr',h1,h2⟩ | ⟨e,fr',h1⟩
 . have h1:evP ⟨A0,T,A5⟩ (.code (.loop x5) [(0,fslN (l.map Cod.F)),(1,.fn (.func 178) [] []),(7,.int .i64 (l.length:Int)),(8,.int .i64 0)] ⟨[],0,[]⟩)=_:=h1
   simp -implicitDefEqProofs only [h1,h2,e,List.length_map,XP,seval]
 . have h1:evP ⟨A0,T,A5⟩ (.code (.loop x5) [(0,fslN (l.map Cod.F)),(1,.fn (.func 178) [] []),(7,.int .i64 (l.length:Int)),(8,.int .i64 0)] ⟨[],0,[]⟩)=_:=h1
   simp -implicitDefEqProofs only [h1,e,List.length_map,XP,seval]
theorem Mx (hir_mainOf_1:T 178=some K6) (nIdxCodes:T 162=none) {m:Modl} (hk:m.fs.length≤bigN):AM.Comes ⟨A0,T,A5⟩ 113 [m.F] [.int .i64 (idxOf (fun c:Cod=>decide (c.name=B6)) m.fs)]:=by
 refine ⟨[.int .i64 (idxOf (fun c:Cod=>decide (c.name=B6)) m.fs)],⟨[],0,[]⟩,?_,E2 rfl List.nodup_nil rfl rfl rfl⟩
 rw [A9 (c:=rE) (nt:=6) (rs:=[.tmp 2]) rfl (by simp)]; unfold rE
 unfold K0
 unfold Modl.F
 have t:=fun K=>Sp hir_mainOf_1 nIdxCodes hk K
 simp -implicitDefEqProofs only [t,XP,seval]
def n8:=Cc (fun p:(Modl)=>[p.F]) (fun p=>[.int .i64 (idxOf (fun c:Cod=>decide (c.name=B6)) p.fs)]) (fun p=>p.fs.length≤bigN)
theorem dK (hir_mainOf:T 113=some n8) {m:Modl} {K:PK} (hk:m.fs.length≤bigN):evP ⟨A0,T,A5⟩ (.call 113 [m.F] K)=some (.val (openTs K.os.length [.int .i64 (idxOf (fun c:Cod=>decide (c.name=B6)) m.fs)]).1 ⟨K.os ++ (openTs K.os.length [.int .i64 (idxOf (fun c:Cod=>decide (c.name=B6)) m.fs)]).2,K.ext,K.tch⟩):=E1 hir_mainOf (by simp -implicitDefEqProofs only [VV,XP,seval]) (E5 (a:=fun p:(Modl)=>[p.F]) (r:=fun p=>[.int .i64 (idxOf (fun c:Cod=>decide (c.name=B6)) p.fs)]) (fun x y e=>by simp only [VJ] at e; simp only [e]) (m) hk) (by simp -implicitDefEqProofs only [VN,XP,seval])
theorem Wx (hir_mainOf_1:T 178=some K6) (nIdxCodes:T 162=none) (hP:PEok ⟨A0,T,A5⟩):TC A0 113 n8:=G4 hP fun p h=>Mx hir_mainOf_1 nIdxCodes h
end
end Go.Proofs.AmEnv
set_option maxRecDepth 100000
namespace Go.Proofs.AmEnv
open Go Go.AM
variable {T:Nat->Option (List AV->Option (List AV))}
def Kn (p s:List UInt8):Bool:=Nat.ble (c8 s) 4000000000 || oneB p
def Q7 (args:List AV):Option (List AV):=match args with | [.str s,.str p]=>if Kn p s=true then some [.bool (contS p s)] else none | _=>none
theorem Wy {s p:List UInt8} (h:Kn p s=true):Q7 [.str s,.str p]=some [.bool (contS p s)]:=if_pos h
theorem Ko (hT:T 245=some Q7) {s p:List UInt8} {K:PK} (h:Kn p s=true):evP ⟨A0,T,A5⟩ (.call 245 [.str s,.str p] K)=some (.val [.bool (contS p s)] ⟨K.os ++ [],K.ext,K.tch⟩):=E1 hT rfl (Wy h) rfl
theorem Nx {t:Nat} {a b:List UInt8} {K:PK} (h:a.length + b.length≤4611686018427387904):W7 A0 .add t (.str a) (.str b) K=.val (.str (a ++ b)) K:=by
 rw [bp _ _ rfl rfl]
 show Hc (bif Nat.ble (Nat.add (c8 a) (c8 b)) 4611686018427387904 then some (AV.str (a ++ b)) else none) K=_
 rw [g9,g9,show Nat.ble (Nat.add a.length b.length) 4611686018427387904=true from Nat.ble_eq_true_of_le h]; rfl
def Qf:List UInt8:=[32,43,32,45,32,42,32,47,32,37,32,38,32,124,32,94,32,60,60,32,62,62,32,61,61,32,33,61,32,60,32,60,61,32,62,32,62,61,32]
def Qg:List UInt8:=[32,61,61,32,33,61,32,60,32,60,61,32,62,32,62,61,32]
def Ip (x:Ins):Bool:=if x.op=3 then !decide (x.s=[]) && (!contS [32] x.s && contS (32 :: (x.s ++ [32])) Qf) else if x.op=4 then decide (1≤x.ty) && decide (x.ty≤3) else decide (1≤x.op) && decide (x.op≤11)
theorem Sq (hstrings_Contains:T 245=some Q7) {x:Ins} (hk:x.s.length≤bigN):AM.Comes ⟨A0,T,A5⟩ 222 [x.F] [.bool (Ip x)]:=by
 refine ⟨[.bool (Ip x)],⟨[],0,[]⟩,?_,E2 rfl List.nodup_nil rfl rfl rfl⟩
 rw [A9 (c:=rO) (nt:=41) (rs:=[.tmp 2]) rfl (by simp)]; unfold rO
 unfold K0
 have d1:∀ K:PK,W7 A0 .add 9 (.str [32]) (.str x.s) K=.val (.str (32 :: x.s)) K:=fun K=>Nx (by simp only [bigN] at hk; simp; omega)
 have d2:∀ K:PK,W7 A0 .add 9 (.str (32 :: x.s)) (.str [32]) K=.val (.str (32 :: (x.s ++ [32]))) K:=fun K=>Nx (by simp only [bigN] at hk; simp; omega)
 have c1:=fun K=>Ko (K:=K) (s:=x.s) (p:=[32]) hstrings_Contains (by unfold Kn; rw [show oneB [32]=true from rfl,Bool.or_true])
 have c2:=fun K=>Ko (K:=K) (s:=Qf) (p:=32 :: (x.s ++ [32])) hstrings_Contains (by unfold Kn; rfl)
 unfold Ins.F Ip
 unfold Qf at c2 ⊢
 by_cases e3:x.op=3
 . by_cases q1:x.s=[]
   . simp -implicitDefEqProofs only [eq_true e3,eq_true q1,Bool.false_and,XP,seval]
   cases q2:contS [32] x.s with
   | true=>simp -implicitDefEqProofs only [eq_true e3,eq_false q1,c1,q2,Bool.false_and,Bool.and_false,XP,seval]
   | false=>simp -implicitDefEqProofs only [eq_true e3,eq_false q1,c1,q2,d1,d2,c2,XP,seval]
 by_cases e4:x.op=4
 . by_cases q1:1≤x.ty
   . simp -implicitDefEqProofs only [eq_false e3,eq_true e4,eq_true q1,XP,seval]
   . simp -implicitDefEqProofs only [eq_false e3,eq_true e4,eq_false q1,Bool.false_and,XP,seval]
 . by_cases q1:1≤x.op
   . simp -implicitDefEqProofs only [eq_false e3,eq_false e4,eq_true q1,XP,seval]
   . simp -implicitDefEqProofs only [eq_false e3,eq_false e4,eq_false q1,Bool.false_and,XP,seval]
def Dj:=Cc (fun p:(Ins)=>[p.F]) (fun p=>[.bool (Ip p)]) (fun p=>p.s.length≤bigN)
theorem nE (hir_form:T 222=some Dj) {x:Ins} {K:PK} (hk:x.s.length≤bigN):evP ⟨A0,T,A5⟩ (.call 222 [x.F] K)=some (.val (openTs K.os.length [.bool (Ip x)]).1 ⟨K.os ++ (openTs K.os.length [.bool (Ip x)]).2,K.ext,K.tch⟩):=E1 hir_form (by simp -implicitDefEqProofs only [VV,XP,seval]) (E5 (a:=fun p:(Ins)=>[p.F]) (r:=fun p=>[.bool (Ip p)]) (fun x y e=>by simp only [VJ] at e; simp only [e]) (x) hk) (by simp -implicitDefEqProofs only [VN,XP,seval])
theorem dL (hstrings_Contains:T 245=some Q7) (hP:PEok ⟨A0,T,A5⟩):TC A0 222 Dj:=G4 hP fun p h=>Sq hstrings_Contains h
def S0 (m:Modl) (at_:Int) (arr:Bool):Bool:=thereD at_ m.gs.length && (match m.gs[at_.toNat]? with | some g=>decide (0 < g.size) == arr | none=>false)
theorem Ny (t:Nat) (h:M0 A0 t=M0 A0 4) (a b:Bool) (K:PK):W7 A0 .eql t (.bool a) (.bool b) K=.val (.bool (a == b)) K:=by
 rw [bp _ _ rfl rfl,h]; cases a <;> cases b <;> rfl
theorem G2 {a n:Int} (h:thereD a n=true):∃ k:Nat,a=k∧(k:Int) < n:=by
 unfold thereD at h
 rw [Bool.and_eq_true] at h
 have h0:=of_decide_eq_true h.1
 have h1:=of_decide_eq_true h.2
 obtain ⟨k,rfl⟩:=Int.eq_ofNat_of_zero_le h0
 exact ⟨k,rfl,h1⟩
theorem Ac (hir_there:T 225=some G9) {m:Modl} {c:Cod} {a:Int} {arr:Bool}:AM.Comes ⟨A0,T,A5⟩ 247 [chkF m c,.int .i64 a,.bool arr] [.bool (S0 m a arr)]:=by
 refine ⟨[.bool (S0 m a arr)],⟨[],0,[]⟩,?_,E2 rfl List.nodup_nil rfl rfl rfl⟩
 rw [A9 (c:=rT) (nt:=25) (rs:=[.tmp 6]) rfl (by simp)]; unfold rT
 unfold K0
 have t:=fun K=>j6 (K:=K) (a:=a) (n:=m.gs.length) hir_there
 have eb:=Ny 4 rfl
 unfold chkF S0
 cases ht:thereD a m.gs.length with
 | false=>rw [ht] at t; simp -implicitDefEqProofs only [t,List.length_map,Bool.false_and,XP,seval]
 | true =>
  obtain ⟨k,rfl,hk⟩:=G2 ht
  have hk:k < m.gs.length:=by omega
  rw [ht] at t
  have hi:=D2 (F:=Glo.F) hk
  simp only [Glo.F] at hi
  rw [show ((k:Int)).toNat=k from rfl,List.getElem?_eq_getElem hk]
  simp -implicitDefEqProofs only [t,List.length_map,hi,eb,XP,seval]
def D3:=Cc (fun p:(Modl) × (Cod) × (Int) × (Bool)=>[chkF p.1 p.2.1,.int .i64 p.2.2.1,.bool p.2.2.2]) (fun p=>[.bool (S0 p.1 p.2.2.1 p.2.2.2)]) (fun p=>True)
theorem Gv (hir_checker_global:T 247=some D3) {m:Modl} {c:Cod} {a:Int} {arr:Bool} {K:PK}:evP ⟨A0,T,A5⟩ (.call 247 [chkF m c,.int .i64 a,.bool arr] K)=some (.val (openTs K.os.length [.bool (S0 m a arr)]).1 ⟨K.os ++ (openTs K.os.length [.bool (S0 m a arr)]).2,K.ext,K.tch⟩):=E1 hir_checker_global (by simp -implicitDefEqProofs only [VV,XP,seval]) (E5 (a:=fun p:(Modl) × (Cod) × (Int) × (Bool)=>[chkF p.1 p.2.1,.int .i64 p.2.2.1,.bool p.2.2.2]) (r:=fun p=>[.bool (S0 p.1 p.2.2.1 p.2.2.2)]) (fun x y e=>by simp only [VJ] at e; simp only [e]) (m,c,a,arr) trivial) (by simp -implicitDefEqProofs only [VN,XP,seval])
theorem Dk (hir_there:T 225=some G9) (hP:PEok ⟨A0,T,A5⟩):TC A0 247 D3:=G4 hP fun p h=>Ac hir_there
def l8 (l:List Int) (r:Int):Int:=l.getD r.toNat 0
theorem Iq {l:List Int} {k:Nat} (h:k < l.length):(ints l)[k]?=some (.int .i64 (l8 l k)):=by
 rw [M4 h]; unfold l8; simp [h]
theorem Nz {m:Modl} {c:Cod} {r t:Int} {id:Nat} {K:PK} (hN:T 248=none) (hr:thereD r c.regs.length=true) (hK:K.os[id]?=some (.row 1 [chkF m c] 7)) :
 evP ⟨A0,T,A5⟩ (.call 248 [.int .i64 r,.int .i64 t,.ptr id 0 0] K)=some (.val [.bool (decide (l8 c.regs r=t))] K):=by
 obtain ⟨k,rfl,hk⟩:=G2 hr
 have hi:=Iq (show k < c.regs.length by omega)
 rw [w5 hN rfl]
 rw [A9 (c:=rU) (nt:=14) (rs:=[.tmp 5]) rfl (by simp)]; unfold rU
 unfold chkF at hK
 simp -implicitDefEqProofs only [hK,hi,XP,seval]
end Go.Proofs.AmEnv
set_option maxRecDepth 100000
namespace Go.Proofs.AmEnv
open Go Go.AM
variable {T:Nat->Option (List AV->Option (List AV))}
theorem Qh {P:PE} {c:PC} {X:Type} {p:X->Bool} {l:List X} {S:Nat->PF} {K:PK} {x:Nat} {Q:PF->Prop} {R:PF->PK->Prop}
 (h1:∀ i (h:i < l.length),p l[i]=true->evP P (.code c (S i) K)=some (.ok .normal (S (i + 1)) K))
 (h2:∀ i (h:i < l.length),p l[i]=false->∃ fr' K',evP P (.code c (S i) K)=some (.ok .ret fr' K')∧R fr' K')
 (hx:∃ fr',evP P (.code c (S l.length) K)=some (.ok (.exit x) fr' K)∧Q fr') :
 (l.all p=true∧∃ fr',evP P (.code (.loop c) (S 0) K)=some (.ok (.exit x) fr' K)∧Q fr')∨(l.all p=false∧∃ fr' K',evP P (.code (.loop c) (S 0) K)=some (.ok .ret fr' K')∧R fr' K'):=by
 have key:∀ (n i:Nat),l.length=i + n->((l.drop i).all p=true∧∃ fr',evP P (.code (.loop c) (S i) K)=some (.ok (.exit x) fr' K)∧Q fr')∨((l.drop i).all p=false∧∃ fr' K',evP P (.code (.loop c) (S i) K)=some (.ok .ret fr' K')∧R fr' K'):=fun n=>by
  induction n with
  | zero =>
   intro i e
   obtain rfl:i=l.length:=by omega
   obtain ⟨fr',h,q⟩:=hx
   exact .inl ⟨by rw [List.drop_length]; rfl,fr',C4 h,q⟩
  | succ n ih =>
   intro i e
   have hl:i < l.length:=by omega
   rw [List.drop_eq_getElem_cons hl,List.all_cons]
   cases hq:p l[i] with
   | true =>
    rw [C2 (h1 i hl hq),Bool.true_and]
    exact ih (i + 1) (by omega)
   | false =>
    obtain ⟨fr',K',q1,q2⟩:=h2 i hl hq
    exact .inr ⟨rfl,fr',K',Ee q1,q2⟩
 exact key l.length 0 (by omega)
section
variable {m:Modl} {c:Cod} {x:Ins} {fr:PF} {i:Nat} {tch:List Nat}
def My:List Int:=[1,2,3,4,5,7,10]
def bX (c:Cod) (x:Ins):Bool:=!((!decide (x.op=9) || decide (0≤writesD x)) && (!decide (writesD x=-1) && !thereD (writesD x) c.regs.length))
def codI (l:List Cod) (i:Int):Cod:=l.getD i.toNat ⟨[],0,0,[],[]⟩
def kS (m:Modl) (c:Cod) (x:Ins):Bool :=
 if x.op=1 then decide (Mi (l8 c.regs x.dst) x.n=x.n) else if x.op=5 then S0 m x.n true else if x.op=6 then S0 m x.n true else if x.op=7 then S0 m x.n false else if x.op=8 then S0 m x.n false
 else if x.op=9 then thereD x.n m.fs.length && decide ((codI m.fs x.n).ps≤(codI m.fs x.n).regs.length) else true
def Dm (x:Ins):Bool:=(My.any fun n=>decide (x.op=n)) && decide (x.dst < 0)
def E6 (m:Modl) (c:Cod) (x:Ins):Bool:=(readsD x).all (fun r=>thereD r c.regs.length) && (bX c x && (!Dm x && kS m c x))
theorem Ir {l:List Cod} {k:Nat} (h:k < l.length):(l.map Cod.F)[k]?=some (codI l k).F:=by
 rw [D2 (F:=Cod.F) h]; unfold codI; simp [h]
set_option maxHeartbeats 4000000 in
theorem vN {w:PO} (h2:lookP fr 2=.ptr 0 0 0) (h3:lookP fr 3=.ptr 1 0 0) (hw:T 182=some Q2) (hg:T 247=some D3) (ht:T 225=some G9) (h1:x.op=1->thereD x.dst c.regs.length=true) :
 evP ⟨A0,T,A5⟩ (.code Ik fr ⟨[.row 1 [chkF m c] 7,.row 1 [x.F] 8,w],0,tch⟩)=some (.ok .ret [(4,.bool (kS m c x))] ⟨[],0,[]⟩):=by
 have tw:=fun t v K=>dI (K:=K) (t:=t) (v:=v) hw
 have tg:=fun a b K=>Gv (K:=K) (m:=m) (c:=c) (a:=a) (arr:=b) hg
 have tt:=fun a n K=>j6 (K:=K) (a:=a) (n:=n) ht
 unfold Ik fL fK fJ fI fH mM mL kS
 unfold Ins.F
 unfold chkF at tg ⊢
 by_cases e1:x.op=1
 . obtain ⟨k,hk,hlt⟩:=G2 (h1 e1)
   have hi:=Iq (show k < c.regs.length by omega)
   rw [hk]
   simp -implicitDefEqProofs only [h2,h3,eq_true e1,tw,hi,XP,seval]
 by_cases e5:x.op=5
 . simp -implicitDefEqProofs only [h2,h3,eq_false e1,eq_true e5,tg,XP,seval]
 by_cases e6:x.op=6
 . simp -implicitDefEqProofs only [h2,h3,eq_false e1,eq_false e5,eq_true e6,tg,XP,seval]
 by_cases e7:x.op=7
 . simp -implicitDefEqProofs only [h2,h3,eq_false e1,eq_false e5,eq_false e6,eq_true e7,tg,XP,seval]
 by_cases e8:x.op=8
 . simp -implicitDefEqProofs only [h2,h3,eq_false e1,eq_false e5,eq_false e6,eq_false e7,eq_true e8,tg,XP,seval]
 by_cases e9:x.op=9
 . cases ht:thereD x.n m.fs.length with
   | false=>simp -implicitDefEqProofs only [h2,h3,eq_false e1,eq_false e5,eq_false e6,eq_false e7,eq_false e8,eq_true e9,tt,ht,List.length_map,Bool.false_and,XP,seval]
   | true =>
    obtain ⟨k,hk,hlt⟩:=G2 ht
    have hi:=Ir (show k < m.fs.length by omega)
    simp only [Cod.F] at hi
    rw [hk] at ht ⊢
    simp -implicitDefEqProofs only [h2,h3,eq_false e1,eq_false e5,eq_false e6,eq_false e7,eq_false e8,eq_true e9,tt,ht,List.length_map,hi,XP,seval]
 . simp -implicitDefEqProofs only [h2,h3,eq_false e1,eq_false e5,eq_false e6,eq_false e7,eq_false e8,eq_false e9,XP,seval]
end
end Go.Proofs.AmEnv
set_option maxRecDepth 100000
namespace Go.Proofs.AmEnv
open Go Go.AM
variable {T:Nat->Option (List AV->Option (List AV))}
section
variable {m:Modl} {c:Cod} {x:Ins} {fr:PF} {i:Nat} {L:List Int}
set_option maxHeartbeats 4000000 in
theorem CG (h2:lookP fr 2=.ptr 0 0 0) (h3:lookP fr 3=.ptr 1 0 0) (hw:T 182=some Q2) (hg:T 247=some D3) (ht:T 225=some G9) (hc:T 246=some j7) (h1:x.op=1->¬ x.dst < 0->thereD x.dst c.regs.length=true) :
 evP ⟨A0,T,A5⟩ (.code Nu fr ⟨[.row 1 [chkF m c] 7,.row 1 [x.F] 8],0,[]⟩)=some (.ok .ret [(4,.bool (!Dm x && kS m c x))] ⟨[],0,[]⟩):=by
 have tc:∀ K:PK,K.os[2]?=some (.row 0 (ints My) 1)->evP ⟨A0,T,A5⟩ (.call 246 [.msl 2 0 7 1,.int .i64 x.op] K)=some (.val [.bool (My.any fun n=>decide (x.op=n))] ⟨K.os ++ [],K.ext,K.tch⟩):=fun K hK=>E1 hc (by
  simp only [My,ints,List.map] at hK
  simp -implicitDefEqProofs only [hK,My,XP,seval]
  rfl) (E5 (a:=fun p:List Int × Int=>[fslN (ints p.1),.int .i64 p.2]) (r:=fun p=>[.bool (p.1.any fun n=>decide (p.2=n))]) (fun x y e=>by simp only [List.cons.injEq,fslN_iff,ints_iff,AV.int.injEq,true_and,and_true] at e; simp only [e]) (My,x.op) (by show My.length≤bigN; decide)) rfl
 unfold Nu mK Dm
 cases ha:(My.any fun n=>decide (x.op=n)) with
 | false =>
  rw [Bool.false_and]
  rw [ha] at tc
  have sw:∀ (fr:PF) (tch:List Nat),lookP fr 2=.ptr 0 0 0->lookP fr 3=.ptr 1 0 0->evP ⟨A0,T,A5⟩ (.code Ik fr ⟨[.row 1 [chkF m c] 7,.row 1 [x.F] 8,.row 0 [.int .i64 1,.int .i64 2,.int .i64 3,.int .i64 4,.int .i64 5,.int .i64 7,.int .i64 10] 1],0,tch⟩)=some (.ok .ret [(4,.bool (kS m c x))] ⟨[],0,[]⟩):=fun fr tch a b=>vN a b hw hg ht fun e=>absurd ha (by simp [My,e])
  simp only [Ins.F] at sw ⊢
  simp only [My,ints,List.map] at tc
  simp -implicitDefEqProofs only [h2,h3,tc,sw,XP,seval]
 | true =>
  rw [ha] at tc
  simp only [My,ints,List.map] at tc
  by_cases hd:x.dst < 0
  . simp only [Ins.F]
    simp -implicitDefEqProofs only [h2,h3,tc,eq_true hd,Bool.false_and,XP,seval]
  . have sw:∀ (fr:PF) (tch:List Nat),lookP fr 2=.ptr 0 0 0->lookP fr 3=.ptr 1 0 0->evP ⟨A0,T,A5⟩ (.code Ik fr ⟨[.row 1 [chkF m c] 7,.row 1 [x.F] 8,.row 0 [.int .i64 1,.int .i64 2,.int .i64 3,.int .i64 4,.int .i64 5,.int .i64 7,.int .i64 10] 1],0,tch⟩)=some (.ok .ret [(4,.bool (kS m c x))] ⟨[],0,[]⟩):=fun fr tch a b=>vN a b hw hg ht fun e=>h1 e hd
    simp only [Ins.F] at sw ⊢
    simp -implicitDefEqProofs only [h2,h3,tc,eq_false hd,sw,XP,seval]
theorem CH (h:bX c x=true) (e:x.op=1) (hd:¬ x.dst < 0):thereD x.dst c.regs.length=true:=by
 unfold bX writesD at h
 rw [if_pos e] at h
 have:¬ x.dst=-1:=by omega
 have h9:¬ x.op=9:=by omega
 cases ht:thereD x.dst c.regs.length with
 | true=>rfl
 | false=>rw [ht] at h; simp [this,h9] at h
set_option maxHeartbeats 8000000 in
theorem CI (h2:lookP fr 2=.ptr 0 0 0) (h3:lookP fr 3=.ptr 1 0 0) (hw:T 182=some Q2) (hg:T 247=some D3) (ht:T 225=some G9) (hc:T 246=some j7) (hwr:T 108=some B0) :
 evP ⟨A0,T,A5⟩ (.code Nv fr ⟨[.row 1 [chkF m c] 7,.row 1 [x.F] 8],0,[]⟩)=some (.ok .ret [(4,.bool (bX c x && (!Dm x && kS m c x)))] ⟨[],0,[]⟩):=by
 have tw:=fun K=>Y3 (K:=K) (x:=x) hwr
 have tt:=fun K=>j6 (K:=K) (a:=writesD x) (n:=c.regs.length) ht
 have k16:bX c x=true->∀ fr:PF,lookP fr 2=.ptr 0 0 0->lookP fr 3=.ptr 1 0 0->evP ⟨A0,T,A5⟩ (.code Nu fr ⟨[.row 1 [chkF m c] 7,.row 1 [x.F] 8],0,[]⟩)=some (.ok .ret [(4,.bool (!Dm x && kS m c x))] ⟨[],0,[]⟩):=fun h fr a b=>CG a b hw hg ht hc (CH h)
 unfold Nv mJ mI
 have fin:bX c x=!((!decide (x.op=9) || decide (0≤writesD x)) && (!decide (writesD x=-1) && !thereD (writesD x) c.regs.length)):=rfl
 simp only [Ins.F] at tw k16 ⊢
 simp only [chkF] at k16 ⊢
 by_cases e9:x.op=9
 . by_cases w0:0≤writesD x
   . have w1:¬ writesD x=-1:=by omega
     cases q:thereD (writesD x) c.regs.length with
     | true =>
      have ok:bX c x=true:=by rw [fin,q]; simp
      have k16:=k16 ok
      rw [q] at tt
      simp -implicitDefEqProofs only [h2,h3,tw,tt,eq_true e9,eq_true w0,eq_false w1,List.length_map,ok,k16,XP,seval]
     | false =>
      have ok:bX c x=false:=by rw [fin,q]; simp [w0,w1]
      rw [q] at tt
      simp -implicitDefEqProofs only [h2,h3,tw,tt,eq_true e9,eq_true w0,eq_false w1,List.length_map,ok,Bool.false_and,XP,seval]
   . have ok:bX c x=true:=by rw [fin]; simp [e9,w0]
     have k16:=k16 ok
     simp -implicitDefEqProofs only [h2,h3,tw,eq_true e9,eq_false w0,ok,k16,XP,seval]
 . by_cases w1:writesD x=-1
   . have ok:bX c x=true:=by rw [fin]; simp [w1]
     have k16:=k16 ok
     simp -implicitDefEqProofs only [h2,h3,tw,eq_false e9,eq_true w1,ok,k16,XP,seval]
   . cases q:thereD (writesD x) c.regs.length with
     | true =>
      have ok:bX c x=true:=by rw [fin,q]; simp
      have k16:=k16 ok
      rw [q] at tt
      simp -implicitDefEqProofs only [h2,h3,tw,tt,eq_false e9,eq_false w1,List.length_map,ok,k16,XP,seval]
     | false =>
      have ok:bX c x=false:=by rw [fin,q]; simp [e9,w1]
      rw [q] at tt
      simp -implicitDefEqProofs only [h2,h3,tw,tt,eq_false e9,eq_false w1,List.length_map,ok,Bool.false_and,XP,seval]
theorem KR (ht:T 225=some G9) (h:i < L.length) (hs:L.length≤bigN) (hp:thereD L[i] c.regs.length=true):evP ⟨A0,T,A5⟩ (.code x7 [(2,.ptr 0 0 0),(3,.ptr 1 0 0),(9,.msl 2 0 L.length 1),(10,.int .i64 (L.length:Int)),(11,.int .i64 (i:Int))] ⟨[.row 1 [chkF m c] 7,.row 1 [x.F] 8,.row 0 (ints L) 1],0,[]⟩)=some (.ok .normal [(2,.ptr 0 0 0),(3,.ptr 1 0 0),(9,.msl 2 0 L.length 1),(10,.int .i64 (L.length:Int)),(11,.int .i64 ((i + 1:Nat):Int))] ⟨[.row 1 [chkF m c] 7,.row 1 [x.F] 8,.row 0 (ints L) 1],0,[]⟩):=by
 unfold x7 Wr dC dB dA
 have hlt:decide ((i:Int) < (L.length:Int))=true:=by simp [h]
 have hw:=B3 (i:=i) (by simp only [bigN] at hs; omega)
 have tt:=fun K=>j6 (K:=K) (a:=L[i]) (n:=c.regs.length) ht
 rw [hp] at tt
 unfold chkF Ins.F
 simp -implicitDefEqProofs only [hlt,M4 h,hw,tt,h,List.length_map,XP,seval]
theorem KS (ht:T 225=some G9) (h:i < L.length) (hp:thereD L[i] c.regs.length=false):evP ⟨A0,T,A5⟩ (.code x7 [(2,.ptr 0 0 0),(3,.ptr 1 0 0),(9,.msl 2 0 L.length 1),(10,.int .i64 (L.length:Int)),(11,.int .i64 (i:Int))] ⟨[.row 1 [chkF m c] 7,.row 1 [x.F] 8,.row 0 (ints L) 1],0,[]⟩)=some (.ok .ret [(4,.bool false)] ⟨[],0,[]⟩):=by
 unfold x7 Wr dC dB dA
 have hlt:decide ((i:Int) < (L.length:Int))=true:=by simp [h]
 have tt:=fun K=>j6 (K:=K) (a:=L[i]) (n:=c.regs.length) ht
 rw [hp] at tt
 unfold chkF Ins.F
 simp -implicitDefEqProofs only [hlt,M4 h,tt,h,List.length_map,XP,seval]
theorem KT:∃ fr',evP ⟨A0,T,A5⟩ (.code x7 [(2,.ptr 0 0 0),(3,.ptr 1 0 0),(9,.msl 2 0 L.length 1),(10,.int .i64 (L.length:Int)),(11,.int .i64 (L.length:Int))] ⟨[.row 1 [chkF m c] 7,.row 1 [x.F] 8,.row 0 (ints L) 1],0,[]⟩)=some (.ok (.exit 0) fr' ⟨[.row 1 [chkF m c] 7,.row 1 [x.F] 8,.row 0 (ints L) 1],0,[]⟩)∧(lookP fr' 2=.ptr 0 0 0∧lookP fr' 3=.ptr 1 0 0):=by
 unfold x7 Wr
 have hlt:decide ((L.length:Int) < (L.length:Int))=false:=by simp
 simp -implicitDefEqProofs only [hlt,XP,seval]
 exact ⟨_,rfl,rfl,rfl⟩
theorem dM (hk:x.ok):(readsD x).length≤bigN:=by
 unfold readsD
 have:x.args.length≤bigN:=by unfold Ins.ok at hk; simp only [bigN] at hk ⊢; omega
 repeat' split
 all_goals first | exact this | (simp [bigN])
set_option maxHeartbeats 4000000 in
theorem Ad (hword_Wrap:T 182=some Q2) (hir_checker_global:T 247=some D3) (hir_there:T 225=some G9) (hContInts:T 246=some j7) (hir_Writes:T 108=some B0) (hir_Reads:T 170=some B7) {m:Modl} {c:Cod} {x:Ins} (hk:x.ok):AM.Comes ⟨A0,T,A5⟩ 223 [chkF m c,x.F] [.bool (E6 m c x)]:=by
 refine ⟨[.bool (E6 m c x)],⟨[],0,[]⟩,?_,E2 rfl List.nodup_nil rfl rfl rfl⟩
 rw [A9 (c:=rP) (nt:=114) (rs:=[.tmp 4]) rfl (by simp)]; unfold rP
 unfold K0
 have hr:=fun K=>El (K:=K) hir_Reads hk
 have hlen:=dM hk
 have k17:∀ fr:PF,lookP fr 2=.ptr 0 0 0->lookP fr 3=.ptr 1 0 0->evP ⟨A0,T,A5⟩ (.code Nv fr ⟨[.row 1 [chkF m c] 7,.row 1 [x.F] 8],0,[]⟩)=some (.ok .ret [(4,.bool (bX c x && (!Dm x && kS m c x)))] ⟨[],0,[]⟩):=fun fr a b=>CI a b hword_Wrap hir_checker_global hir_there hContInts hir_Writes
 have lp:=Qh (P:=⟨A0,T,A5⟩) (c:=x7) (p:=fun r=>thereD r c.regs.length) (l:=readsD x) (S:=fun i=>[(2,.ptr 0 0 0),(3,.ptr 1 0 0),(9,.msl 2 0 (readsD x).length 1),(10,.int .i64 ((readsD x).length:Int)),(11,.int .i64 (i:Int))]) (K:=⟨[.row 1 [chkF m c] 7,.row 1 [x.F] 8,.row 0 (ints (readsD x)) 1],0,[]⟩)
  (Q:=fun fr'=>lookP fr' 2=.ptr 0 0 0∧lookP fr' 3=.ptr 1 0 0) (R:=fun fr' K'=>fr'=[(4,.bool false)]∧K'=⟨[],0,[]⟩) (fun i h hp=>KR hir_there h hlen hp) (fun i h hp=>⟨_,_,KS hir_there h hp,rfl,rfl⟩) KT
 unfold fM mH E6
 rcases lp with ⟨ha,fr',h1,h2,h3⟩ | ⟨ha,fr',K',h1,rfl,rfl⟩
 . have h1:evP ⟨A0,T,A5⟩ (.code (.loop x7) [(2,.ptr 0 0 0),(3,.ptr 1 0 0),(9,.msl 2 0 (readsD x).length 1),(10,.int .i64 ((readsD x).length:Int)),(11,.int .i64 0)] _)=_:=h1
   rw [ha]
   simp only [Ins.F,chkF] at hr h1 k17 ⊢
   simp -implicitDefEqProofs only [hr,h1,h2,h3,k17,List.length_map,XP,seval]
 . have h1:evP ⟨A0,T,A5⟩ (.code (.loop x7) [(2,.ptr 0 0 0),(3,.ptr 1 0 0),(9,.msl 2 0 (readsD x).length 1),(10,.int .i64 ((readsD x).length:Int)),(11,.int .i64 0)] _)=_:=h1
   rw [ha,Bool.false_and]
   simp only [Ins.F,chkF] at hr h1 ⊢
   simp -implicitDefEqProofs only [hr,h1,List.length_map,XP,seval]
def I4:=Cc (fun p:(Modl) × (Cod) × (Ins)=>[chkF p.1 p.2.1,p.2.2.F]) (fun p=>[.bool (E6 p.1 p.2.1 p.2.2)]) (fun p=>p.2.2.ok)
theorem Gw (hir_checker_places:T 223=some I4) {m:Modl} {c:Cod} {x:Ins} {K:PK} (hk:x.ok):evP ⟨A0,T,A5⟩ (.call 223 [chkF m c,x.F] K)=some (.val (openTs K.os.length [.bool (E6 m c x)]).1 ⟨K.os ++ (openTs K.os.length [.bool (E6 m c x)]).2,K.ext,K.tch⟩):=E1 hir_checker_places (by simp -implicitDefEqProofs only [VV,XP,seval]) (E5 (a:=fun p:(Modl) × (Cod) × (Ins)=>[chkF p.1 p.2.1,p.2.2.F]) (r:=fun p=>[.bool (E6 p.1 p.2.1 p.2.2)]) (fun x y e=>by simp only [VJ] at e; simp only [e]) (m,c,x) hk) (by simp -implicitDefEqProofs only [VN,XP,seval])
theorem Dn (hword_Wrap:T 182=some Q2) (hir_checker_global:T 247=some D3) (hir_there:T 225=some G9) (hContInts:T 246=some j7) (hir_Writes:T 108=some B0) (hir_Reads:T 170=some B7) (hP:PEok ⟨A0,T,A5⟩):TC A0 223 I4:=G4 hP fun p h=>Ad hword_Wrap hir_checker_global hir_there hContInts hir_Writes hir_Reads h
end
end Go.Proofs.AmEnv
set_option maxRecDepth 100000
namespace Go.Proofs.AmEnv
open Go Go.AM
variable {T:Nat->Option (List AV->Option (List AV))}
section
variable {m:Modl} {c:Cod} {x:Ins} {fr:PF} {i:Nat}
theorem Is (h:E6 m c x=true) {r:Int} (hr:r∈readsD x):thereD r c.regs.length=true:=by
 unfold E6 at h
 rw [Bool.and_eq_true] at h
 exact List.all_eq_true.1 h.1 r hr
theorem Kp (h:E6 m c x=true) (e:x.op=1∨x.op=2∨x.op=3∨x.op=4∨x.op=5∨x.op=7∨x.op=10):thereD x.dst c.regs.length=true:=by
 unfold E6 at h
 simp only [Bool.and_eq_true] at h
 obtain ⟨_,h1,h2,_⟩:=h
 have hd:¬ x.dst < 0:=fun hd=>by
  have:Dm x=true:=by
   unfold Dm My
   rcases e with e | e | e | e | e | e | e <;> simp [e,hd]
  rw [this] at h2; cases h2
 have hw:writesD x=x.dst:=by
  unfold writesD
  rcases e with e | e | e | e | e | e | e <;> simp [e]
 unfold bX at h1
 rw [hw] at h1
 have h9:¬ x.op=9:=by omega
 have:¬ x.dst=-1:=by omega
 cases ht:thereD x.dst c.regs.length with
 | true=>rfl
 | false=>rw [ht] at h1; simp [this,h9] at h1
theorem nF (h:E6 m c x=true):kS m c x=true:=by
 unfold E6 at h
 simp only [Bool.and_eq_true] at h
 exact h.2.2.2
theorem Wz (h:E6 m c x=true) (e:x.op=5∨x.op=6∨x.op=7∨x.op=8):thereD x.n m.gs.length=true:=by
 have h:=nF h
 unfold kS at h
 rcases e with e | e | e | e <;> simp [e,S0] at h <;> exact h.1
theorem nG (h:E6 m c x=true) (e:x.op=9):thereD x.n m.fs.length=true∧(codI m.fs x.n).ps≤(codI m.fs x.n).regs.length:=by
 have h:=nF h
 unfold kS at h
 simpa [e] using h
theorem rY (h:E6 m c x=true) (e:x.op=9) (hd:¬ x.dst < 0):thereD x.dst c.regs.length=true:=by
 unfold E6 at h
 simp only [Bool.and_eq_true] at h
 obtain ⟨_,h1,h2,_⟩:=h
 have hw:writesD x=x.dst:=by
  unfold writesD
  simp [e]; omega
 unfold bX at h1
 rw [hw] at h1
 have:¬ x.dst=-1:=by omega
 have h0:0≤x.dst:=by omega
 cases ht:thereD x.dst c.regs.length with
 | true=>rfl
 | false=>rw [ht] at h1; simp [this,h0] at h1
def isD (c:Cod) (r t:Int):Bool:=decide (l8 c.regs r=t)
def dN (l:List Glo) (i:Int):Glo:=l.getD i.toNat ⟨[],0,0,0⟩
theorem nH {l:List Glo} {k:Nat} (h:k < l.length):(l.map Glo.F)[k]?=some (dN l k).F:=by
 rw [D2 (F:=Glo.F) h]; unfold dN; simp [h]
def CJ (x:Ins):Int:=if contS (32 :: (x.s ++ [32])) Qg then 1 else x.ty
def Bv (m:Modl) (c:Cod) (x:Ins):Bool:=(x.args.zip (codI m.fs x.n).regs).all (fun p=>isD c p.1 p.2) && (decide (x.dst < 0) || (!decide ((codI m.fs x.n).ty=0) && isD c x.dst (codI m.fs x.n).ty))
def n9 (m:Modl) (c:Cod) (x:Ins):Bool :=
 if x.op=2 then isD c x.a (l8 c.regs x.dst) else if x.op=3 then isD c x.a x.ty && (isD c x.b x.ty && isD c x.dst (CJ x)) else if x.op=4 then isD c x.dst (Fy x.ty)
 else if x.op=5 then isD c x.a 2 && isD c x.dst (Fy (dN m.gs x.n).ty) else if x.op=6 then isD c x.a 2 && isD c x.b (Fy (dN m.gs x.n).ty) else if x.op=7 then isD c x.dst (dN m.gs x.n).ty else if x.op=8 then isD c x.a (dN m.gs x.n).ty
 else if x.op=9 then Bv m c x else if x.op=10 then isD c x.dst 2 else if x.op=11 then isD c x.a 2 else true
def Qi (m:Modl) (x:Ins):Prop:=x.op=9->(x.args.length:Int)=(codI m.fs x.n).ps
section
variable {F:Cod} {A:List Int}
theorem KU (hN:T 248=none) (h:i < A.length) (hF:i < F.regs.length) (hs:A.length≤bigN) (hr:thereD A[i] c.regs.length=true) (hp:isD c A[i] F.regs[i]=true) :
 evP ⟨A0,T,A5⟩ (.code x8 [(2,.fn (.func 248) [] [.ptr 0 0 0]),(4,.ptr 2 0 0),(7,.ptr 3 0 0),(18,fslN (ints A)),(19,.int .i64 (A.length:Int)),(20,.int .i64 (i:Int))] ⟨[.row 1 [chkF m c] 7,.row 1 [x.F] 8,.row 1 [x.F] 8,.row 1 [F.F] 5],2,[]⟩)=some (.ok .normal [(2,.fn (.func 248) [] [.ptr 0 0 0]),(4,.ptr 2 0 0),(7,.ptr 3 0 0),(18,fslN (ints A)),(19,.int .i64 (A.length:Int)),(20,.int .i64 ((i + 1:Nat):Int))] ⟨[.row 1 [chkF m c] 7,.row 1 [x.F] 8,.row 1 [x.F] 8,.row 1 [F.F] 5],2,[]⟩):=by
 unfold x8
 have hlt:decide ((i:Int) < (A.length:Int))=true:=by simp [h]
 have hw:=B3 (i:=i) (by simp only [bigN] at hs; omega)
 have ic:=fun t K hK=>Nz (m:=m) (t:=t) (id:=0) (K:=K) hN hr hK
 have hp:decide (l8 c.regs A[i]=F.regs[i])=true:=hp
 simp only [chkF,Ins.F,Cod.F] at ic ⊢
 simp -implicitDefEqProofs only [hlt,M4 h,M4 hF,hw,ic,hp,XP,seval]
theorem KV (hN:T 248=none) (h:i < A.length) (hF:i < F.regs.length) (hr:thereD A[i] c.regs.length=true) (hp:isD c A[i] F.regs[i]=false) :
 ∃ K',evP ⟨A0,T,A5⟩ (.code x8 [(2,.fn (.func 248) [] [.ptr 0 0 0]),(4,.ptr 2 0 0),(7,.ptr 3 0 0),(18,fslN (ints A)),(19,.int .i64 (A.length:Int)),(20,.int .i64 (i:Int))] ⟨[.row 1 [chkF m c] 7,.row 1 [x.F] 8,.row 1 [x.F] 8,.row 1 [F.F] 5],2,[]⟩)=some (.ok .ret [(6,.bool false)] K')∧K'=⟨[.row 1 [chkF m c] 7,.row 1 [x.F] 8],2,[]⟩:=by
 unfold x8
 have hlt:decide ((i:Int) < (A.length:Int))=true:=by simp [h]
 have ic:=fun t K hK=>Nz (m:=m) (t:=t) (id:=0) (K:=K) hN hr hK
 have hp:decide (l8 c.regs A[i]=F.regs[i])=false:=hp
 simp only [chkF,Ins.F,Cod.F] at ic ⊢
 simp -implicitDefEqProofs only [hlt,M4 h,M4 hF,ic,hp,XP,seval]
 exact ⟨_,rfl,rfl⟩
theorem KW:∃ fr',evP ⟨A0,T,A5⟩ (.code x8 [(2,.fn (.func 248) [] [.ptr 0 0 0]),(4,.ptr 2 0 0),(7,.ptr 3 0 0),(18,fslN (ints A)),(19,.int .i64 (A.length:Int)),(20,.int .i64 (A.length:Int))] ⟨[.row 1 [chkF m c] 7,.row 1 [x.F] 8,.row 1 [x.F] 8,.row 1 [F.F] 5],2,[]⟩)=some (.ok (.exit 0) fr' ⟨[.row 1 [chkF m c] 7,.row 1 [x.F] 8,.row 1 [x.F] 8,.row 1 [F.F] 5],2,[]⟩)∧(lookP fr' 2=.fn (.func 248) [] [.ptr 0 0 0]∧lookP fr' 4=.ptr 2 0 0∧lookP fr' 7=.ptr 3 0 0):=by
 unfold x8
 have hlt:decide ((A.length:Int) < (A.length:Int))=false:=by simp
 simp -implicitDefEqProofs only [hlt,XP,seval]
 exact ⟨_,rfl,rfl,rfl,rfl⟩
end
set_option maxHeartbeats 8000000 in
theorem jT (hN:T 248=none) (hk:x.ok) (hpl:E6 m c x=true) (e9:x.op=9) (ha:Qi m x) :
 evP ⟨A0,T,A5⟩ (.body 250 [chkF m c,x.F,.fn (.func 248) [] [.ptr 0 0 0]] ⟨[.row 1 [chkF m c] 7,.row 1 [x.F] 8],2,[]⟩)=some (.val [.bool (Bv m c x)] ⟨[.row 1 [chkF m c] 7,.row 1 [x.F] 8],2,[]⟩):=by
 obtain ⟨hf,hps⟩:=nG hpl e9
 have ha:=ha e9
 obtain ⟨k,hkn,hkl⟩:=G2 hf
 have hi:=Ir (show k < m.fs.length by omega)
 rw [← hkn] at hi
 have hlen:x.args.length≤bigN:=by unfold Ins.ok at hk; simp only [bigN] at hk ⊢; omega
 have hz:(x.args.zip (codI m.fs x.n).regs).length=x.args.length:=by rw [List.length_zip]; omega
 have rd:∀ i (h:i < x.args.length),thereD x.args[i] c.regs.length=true:=fun i h=>Is hpl (by
  have:readsD x=x.args:=by simp [readsD,e9]
  rw [this]; exact List.getElem_mem h)
 have lp:=Qh (P:=⟨A0,T,A5⟩) (c:=x8) (p:=fun p=>isD c p.1 p.2) (l:=x.args.zip (codI m.fs x.n).regs) (S:=fun i=>[(2,.fn (.func 248) [] [.ptr 0 0 0]),(4,.ptr 2 0 0),(7,.ptr 3 0 0),(18,fslN (ints x.args)),(19,.int .i64 (x.args.length:Int)),(20,.int .i64 (i:Int))]) (K:=⟨[.row 1 [chkF m c] 7,.row 1 [x.F] 8,.row 1 [x.F] 8,.row 1 [(codI m.fs x.n).F] 5],2,[]⟩)
  (Q:=fun fr'=>lookP fr' 2=.fn (.func 248) [] [.ptr 0 0 0]∧lookP fr' 4=.ptr 2 0 0∧lookP fr' 7=.ptr 3 0 0) (R:=fun fr' K'=>fr'=[(6,.bool false)]∧K'=⟨[.row 1 [chkF m c] 7,.row 1 [x.F] 8],2,[]⟩)
  (fun i h hp=>KU (F:=codI m.fs x.n) (A:=x.args) hN (by omega) (by rw [List.length_zip] at h; omega) hlen (rd i (by omega)) (by simpa using hp)) (fun i h hp=>by
    obtain ⟨K',q1,q2⟩:=KV (m:=m) (x:=x) (F:=codI m.fs x.n) (A:=x.args) hN (show i < x.args.length by omega) (by rw [List.length_zip] at h; omega) (rd i (by omega)) (by simpa using hp)
    exact ⟨_,K',q1,rfl,q2⟩) (by rw [hz]; exact KW)
 rw [A9 (c:=rW) (nt:=51) (rs:=[.tmp 6]) rfl (by simp)]; unfold rW
 have fin:Bv m c x=((x.args.zip (codI m.fs x.n).regs).all (fun p=>isD c p.1 p.2) && (decide (x.dst < 0) || (!decide ((codI m.fs x.n).ty=0) && isD c x.dst (codI m.fs x.n).ty))):=rfl
 have hix:∀ te:TI,te.size=5->Ye te (fslN (m.fs.map Cod.F)) (.int .i64 x.n)=some (.fptr (codI m.fs x.n).F 0):=fun te h=>by
  rw [hkn] at hi ⊢; exact ix_fslN hi (by rw [h]; rfl)
 have hix:=hix _ ty31_z
 rcases lp with ⟨hall,fr',h1,h2,h3,h4⟩ | ⟨hall,fr',K',h1,rfl,rfl⟩
 . have h1:evP ⟨A0,T,A5⟩ (.code (.loop x8) [(2,.fn (.func 248) [] [.ptr 0 0 0]),(4,.ptr 2 0 0),(7,.ptr 3 0 0),(18,fslN (ints x.args)),(19,.int .i64 (x.args.length:Int)),(20,.int .i64 0)] _)=_:=h1
   rw [hall,Bool.true_and] at fin
   simp only [chkF,Ins.F,Cod.F] at h1 hix ⊢
   by_cases hd:x.dst < 0
   . have fin:Bv m c x=true:=by rw [fin]; simp [hd]
     simp -implicitDefEqProofs only [hix,h1,h2,h3,h4,fin,eq_true hd,List.length_map,XP,seval]
   . by_cases hv:(codI m.fs x.n).ty=0
     . have fin:Bv m c x=false:=by rw [fin]; simp [hd,hv]
       simp -implicitDefEqProofs only [hix,h1,h2,h3,h4,fin,eq_false hd,eq_true hv,List.length_map,XP,seval]
     . have fin:Bv m c x=isD c x.dst (codI m.fs x.n).ty:=by rw [fin]; simp [hd,hv]
       have ic:=fun t K hK=>Nz (m:=m) (r:=x.dst) (t:=t) (id:=0) (K:=K) hN (rY hpl e9 hd) hK
       unfold isD at fin
       simp only [chkF] at ic
       simp -implicitDefEqProofs only [hix,h1,h2,h3,h4,fin,eq_false hd,eq_false hv,ic,List.length_map,XP,seval]
 . have h1:evP ⟨A0,T,A5⟩ (.code (.loop x8) [(2,.fn (.func 248) [] [.ptr 0 0 0]),(4,.ptr 2 0 0),(7,.ptr 3 0 0),(18,fslN (ints x.args)),(19,.int .i64 (x.args.length:Int)),(20,.int .i64 0)] _)=_:=h1
   rw [hall,Bool.false_and] at fin
   simp only [chkF,Ins.F,Cod.F] at h1 hix ⊢
   simp -implicitDefEqProofs only [hix,h1,fin,List.length_map,XP,seval]
end
end Go.Proofs.AmEnv
set_option maxRecDepth 100000
namespace Go.Proofs.AmEnv
open Go Go.AM
variable {T:Nat->Option (List AV->Option (List AV))}
section
variable {m:Modl} {c:Cod} {x:Ins} {fr:PF} {i:Nat} {tch:List Nat}
theorem jU (hN:T 248=none) (hC:T 250=none) (hk:x.ok) (hpl:E6 m c x=true) (e9:x.op=9) (ha:Qi m x) :
 evP ⟨A0,T,A5⟩ (.call 250 [chkF m c,x.F,.fn (.func 248) [] [.ptr 0 0 0]] ⟨[.row 1 [chkF m c] 7,.row 1 [x.F] 8],0,tch⟩)=some (.val [.bool (Bv m c x)] ⟨[.row 1 [chkF m c] 7,.row 1 [x.F] 8],0,tch⟩) :=
 (w5 hC rfl).trans ((congrArg _ (jT hN hk hpl e9 ha)).trans rfl)
set_option maxHeartbeats 16000000 in
theorem Be (nir_checker_types_1:T 248=none) (nir_checker_call:T 250=none) (hstrings_Contains:T 245=some Q7) (hir_wide:T 249=some Dg) {m:Modl} {c:Cod} {x:Ins} (hk:x.ok∧x.s.length≤bigN∧E6 m c x=true∧Qi m x):AM.Comes ⟨A0,T,A5⟩ 224 [chkF m c,x.F] [.bool (n9 m c x)]:=by
 refine ⟨[.bool (n9 m c x)],⟨[],0,[]⟩,?_,E2 rfl List.nodup_nil rfl rfl rfl⟩
 rw [A9 (c:=rQ) (nt:=150) (rs:=[.tmp 4]) rfl (by simp)]; unfold rQ
 unfold K0
 obtain ⟨hx,hs,hpl,hargs⟩:=hk
 have isr:=fun (r t:Int) (K:PK) (hr:thereD r c.regs.length=true) hK=>Nz (m:=m) (c:=c) (r:=r) (t:=t) (id:=0) (K:=K) nir_checker_types_1 hr hK
 have tw:=fun t K=>nC (K:=K) (t:=t) hir_wide
 have cc:=fun e9 tch=>jU (tch:=tch) nir_checker_types_1 nir_checker_call hx hpl e9 hargs
 have gix:∀ k:Nat,x.n=k->k < m.gs.length->Ye Pz (fslN (m.gs.map Glo.F)) (.int .i64 x.n)=some (.fptr (dN m.gs x.n).F 0):=fun k hk hl=>by
  rw [hk]; exact ix_fslN (nH hl) rfl
 have rix:∀ k:Nat,x.dst=k->k < c.regs.length->Ye fS (fslN (ints c.regs)) (.int .i64 x.dst)=some (.fptr (.int .i64 (l8 c.regs x.dst)) 0):=fun k hk hl=>by
  rw [hk]; exact ix_fslN (Iq hl) rfl
 unfold fR fQ fP fO fN mW mV mU mT mS mR mQ mP n9
 simp only [chkF,Ins.F] at isr cc ⊢
 by_cases e2:x.op=2
 . have ia:=fun t K hK=>isr x.a t K (Is hpl (by simp [readsD,e2])) hK
   obtain ⟨k,hk,hl⟩:=G2 (Kp hpl (by simp [e2]))
   have hix:=rix k hk (by omega)
   unfold isD
   simp -implicitDefEqProofs only [eq_true e2,ia,hix,XP,seval]
 by_cases e3:x.op=3
 . have ia:=fun t K hK=>isr x.a t K (Is hpl (by simp [readsD,e3])) hK
   have ib:=fun t K hK=>isr x.b t K (Is hpl (by simp [readsD,e3])) hK
   have id:=fun t K hK=>isr x.dst t K (Kp hpl (by simp [e3])) hK
   have d1:∀ K:PK,W7 A0 .add 9 (.str [32]) (.str x.s) K=.val (.str (32 :: x.s)) K:=fun K=>Nx (by simp only [bigN] at hs; simp; omega)
   have d2:∀ K:PK,W7 A0 .add 9 (.str (32 :: x.s)) (.str [32]) K=.val (.str (32 :: (x.s ++ [32]))) K:=fun K=>Nx (by simp only [bigN] at hs; simp; omega)
   have cn:=fun K=>Ko (K:=K) (s:=Qg) (p:=32 :: (x.s ++ [32])) hstrings_Contains (by unfold Kn; rfl)
   unfold isD CJ mO mN
   unfold Qg at cn ⊢
   by_cases qa:l8 c.regs x.a=x.ty
   . by_cases qb:l8 c.regs x.b=x.ty
     . cases hcc:contS (32 :: (x.s ++ [32])) [32,61,61,32,33,61,32,60,32,60,61,32,62,32,62,61,32] with
       | true=>simp -implicitDefEqProofs only [eq_false e2,eq_true e3,ia,ib,id,d1,d2,cn,hcc,eq_true qa,eq_true qb,XP,seval]
       | false=>simp -implicitDefEqProofs only [eq_false e2,eq_true e3,ia,ib,id,d1,d2,cn,hcc,eq_true qa,eq_true qb,XP,seval]
     . cases hcc:contS (32 :: (x.s ++ [32])) [32,61,61,32,33,61,32,60,32,60,61,32,62,32,62,61,32] with
       | true=>simp -implicitDefEqProofs only [eq_false e2,eq_true e3,ia,ib,id,d1,d2,cn,hcc,eq_true qa,eq_false qb,Bool.false_and,XP,seval]
       | false=>simp -implicitDefEqProofs only [eq_false e2,eq_true e3,ia,ib,id,d1,d2,cn,hcc,eq_true qa,eq_false qb,Bool.false_and,XP,seval]
   . cases hcc:contS (32 :: (x.s ++ [32])) [32,61,61,32,33,61,32,60,32,60,61,32,62,32,62,61,32] with
     | true=>simp -implicitDefEqProofs only [eq_false e2,eq_true e3,ia,ib,id,d1,d2,cn,hcc,eq_false qa,Bool.false_and,XP,seval]
     | false=>simp -implicitDefEqProofs only [eq_false e2,eq_true e3,ia,ib,id,d1,d2,cn,hcc,eq_false qa,Bool.false_and,XP,seval]
 by_cases e4:x.op=4
 . have id:=fun t K hK=>isr x.dst t K (Kp hpl (by simp [e4])) hK
   unfold isD
   simp -implicitDefEqProofs only [eq_false e2,eq_false e3,eq_true e4,id,tw,XP,seval]
 by_cases e5:x.op=5
 . have ia:=fun t K hK=>isr x.a t K (Is hpl (by simp [readsD,e5])) hK
   have id:=fun t K hK=>isr x.dst t K (Kp hpl (by simp [e5])) hK
   obtain ⟨k,hk,hl⟩:=G2 (Wz hpl (by simp [e5]))
   have hix:=gix k hk (by omega)
   simp only [Glo.F] at hix
   unfold isD
   by_cases qa:l8 c.regs x.a=2
   . simp -implicitDefEqProofs only [eq_false e2,eq_false e3,eq_false e4,eq_true e5,ia,id,hix,tw,eq_true qa,XP,seval]
   . simp -implicitDefEqProofs only [eq_false e2,eq_false e3,eq_false e4,eq_true e5,ia,id,hix,tw,eq_false qa,Bool.false_and,XP,seval]
 by_cases e6:x.op=6
 . have ia:=fun t K hK=>isr x.a t K (Is hpl (by simp [readsD,e6])) hK
   have ib:=fun t K hK=>isr x.b t K (Is hpl (by simp [readsD,e6])) hK
   obtain ⟨k,hk,hl⟩:=G2 (Wz hpl (by simp [e6]))
   have hix:=gix k hk (by omega)
   simp only [Glo.F] at hix
   unfold isD
   by_cases qa:l8 c.regs x.a=2
   . simp -implicitDefEqProofs only [eq_false e2,eq_false e3,eq_false e4,eq_false e5,eq_true e6,ia,ib,hix,tw,eq_true qa,XP,seval]
   . simp -implicitDefEqProofs only [eq_false e2,eq_false e3,eq_false e4,eq_false e5,eq_true e6,ia,ib,hix,tw,eq_false qa,Bool.false_and,XP,seval]
 by_cases e7:x.op=7
 . have id:=fun t K hK=>isr x.dst t K (Kp hpl (by simp [e7])) hK
   obtain ⟨k,hk,hl⟩:=G2 (Wz hpl (by simp [e7]))
   have hix:=gix k hk (by omega)
   simp only [Glo.F] at hix
   unfold isD
   simp -implicitDefEqProofs only [eq_false e2,eq_false e3,eq_false e4,eq_false e5,eq_false e6,eq_true e7,id,hix,XP,seval]
 by_cases e8:x.op=8
 . have ia:=fun t K hK=>isr x.a t K (Is hpl (by simp [readsD,e8])) hK
   obtain ⟨k,hk,hl⟩:=G2 (Wz hpl (by simp [e8]))
   have hix:=gix k hk (by omega)
   simp only [Glo.F] at hix
   unfold isD
   simp -implicitDefEqProofs only [eq_false e2,eq_false e3,eq_false e4,eq_false e5,eq_false e6,eq_false e7,eq_true e8,ia,hix,XP,seval]
 by_cases e9:x.op=9
 . have cc:=cc e9
   simp -implicitDefEqProofs only [eq_false e2,eq_false e3,eq_false e4,eq_false e5,eq_false e6,eq_false e7,eq_false e8,eq_true e9,cc,XP,seval]
 by_cases e10:x.op=10
 . have id:=fun t K hK=>isr x.dst t K (Kp hpl (by simp [e10])) hK
   unfold isD
   simp -implicitDefEqProofs only [eq_false e2,eq_false e3,eq_false e4,eq_false e5,eq_false e6,eq_false e7,eq_false e8,eq_false e9,eq_true e10,id,XP,seval]
 by_cases e11:x.op=11
 . have ia:=fun t K hK=>isr x.a t K (Is hpl (by simp [readsD,e11])) hK
   unfold isD
   simp -implicitDefEqProofs only [eq_false e2,eq_false e3,eq_false e4,eq_false e5,eq_false e6,eq_false e7,eq_false e8,eq_false e9,eq_false e10,eq_true e11,ia,XP,seval]
 . simp -implicitDefEqProofs only [eq_false e2,eq_false e3,eq_false e4,eq_false e5,eq_false e6,eq_false e7,eq_false e8,eq_false e9,eq_false e10,eq_false e11,XP,seval]
def K7:=Cc (fun p:(Modl) × (Cod) × (Ins)=>[chkF p.1 p.2.1,p.2.2.F]) (fun p=>[.bool (n9 p.1 p.2.1 p.2.2)]) (fun p=>p.2.2.ok∧p.2.2.s.length≤bigN∧E6 p.1 p.2.1 p.2.2=true∧Qi p.1 p.2.2)
theorem u9 (hir_checker_types:T 224=some K7) {m:Modl} {c:Cod} {x:Ins} {K:PK} (hk:x.ok∧x.s.length≤bigN∧E6 m c x=true∧Qi m x):evP ⟨A0,T,A5⟩ (.call 224 [chkF m c,x.F] K)=some (.val (openTs K.os.length [.bool (n9 m c x)]).1 ⟨K.os ++ (openTs K.os.length [.bool (n9 m c x)]).2,K.ext,K.tch⟩):=E1 hir_checker_types (by simp -implicitDefEqProofs only [VV,XP,seval]) (E5 (a:=fun p:(Modl) × (Cod) × (Ins)=>[chkF p.1 p.2.1,p.2.2.F]) (r:=fun p=>[.bool (n9 p.1 p.2.1 p.2.2)]) (fun x y e=>by simp only [VJ] at e; simp only [e]) (m,c,x) hk) (by simp -implicitDefEqProofs only [VN,XP,seval])
theorem Fk (nir_checker_types_1:T 248=none) (nir_checker_call:T 250=none) (hstrings_Contains:T 245=some Q7) (hir_wide:T 249=some Dg) (hP:PEok ⟨A0,T,A5⟩):TC A0 224 K7:=G4 hP fun p h=>Be nir_checker_types_1 nir_checker_call hstrings_Contains hir_wide h
end
end Go.Proofs.AmEnv
set_option maxRecDepth 100000
namespace Go.Proofs.AmEnv
open Go Go.AM
variable {T:Nat->Option (List AV->Option (List AV))}
section
variable {m:Modl} {c:Cod} {x:Ins} {fr:PF} {i:Nat} {tch:List Nat}
def N5 (m:Modl) (c:Cod) (x:Ins):Int:=if Ip x=true then (if E6 m c x=true then (if x.op=9 then (if (x.args.length:Int)=(codI m.fs x.n).ps then (if n9 m c x=true then 0 else 6) else 7) else (if n9 m c x=true then 0 else 6)) else 11) else 2
set_option maxHeartbeats 8000000 in
theorem Bf (hir_form:T 222=some Dj) (hir_checker_places:T 223=some I4) (hir_checker_types:T 224=some K7) {m:Modl} {c:Cod} {x:Ins} (hk:x.ok∧x.s.length≤bigN):AM.Comes ⟨A0,T,A5⟩ 176 [chkF m c,x.F] [.int .i64 (N5 m c x)]:=by
 refine ⟨[.int .i64 (N5 m c x)],⟨[],0,[]⟩,?_,E2 rfl List.nodup_nil rfl rfl rfl⟩
 rw [A9 (c:=rJ) (nt:=37) (rs:=[.tmp 4]) rfl (by simp)]; unfold rJ
 unfold K0
 obtain ⟨hx,hs⟩:=hk
 have tf:=fun K=>nE (K:=K) hir_form hs
 have tp:=fun K=>Gw (K:=K) (m:=m) (c:=c) hir_checker_places hx
 unfold N5
 cases hf:Ip x with
 | false =>
  rw [hf] at tf
  simp only [Ins.F,chkF] at tf ⊢
  simp -implicitDefEqProofs only [tf,XP,seval]
 | true =>
  rw [hf] at tf
  cases hp:E6 m c x with
  | false =>
   rw [hp] at tp
   simp only [Ins.F,chkF] at tf tp ⊢
   simp -implicitDefEqProofs only [tf,tp,XP,seval]
  | true =>
   rw [hp] at tp
   by_cases e9:x.op=9
   . obtain ⟨hfn,hps⟩:=nG hp e9
     obtain ⟨k,hkn,hkl⟩:=G2 hfn
     have hi:=Ir (show k < m.fs.length by omega)
     rw [← hkn] at hi
     have hix:Ye Df (fslN (m.fs.map Cod.F)) (.int .i64 x.n)=some (.fptr (codI m.fs x.n).F 0):=by
      rw [hkn] at hi ⊢; exact ix_fslN hi rfl
     by_cases hq:(x.args.length:Int)=(codI m.fs x.n).ps
     . have tt:=fun K=>u9 (K:=K) (m:=m) (c:=c) hir_checker_types ⟨hx,hs,hp,fun _=>hq⟩
       cases ht:n9 m c x with
       | true=>rw [ht] at tt; simp only [Ins.F,chkF,Cod.F] at tf tp tt hix ⊢; simp -implicitDefEqProofs only [tf,tp,tt,hix,eq_true e9,eq_true hq,List.length_map,XP,seval]
       | false=>rw [ht] at tt; simp only [Ins.F,chkF,Cod.F] at tf tp tt hix ⊢; simp -implicitDefEqProofs only [tf,tp,tt,hix,eq_true e9,eq_true hq,List.length_map,XP,seval]
     . simp only [Ins.F,chkF,Cod.F] at tf tp hix ⊢; simp -implicitDefEqProofs only [tf,tp,hix,eq_true e9,eq_false hq,List.length_map,XP,seval]
   . have tt:=fun K=>u9 (K:=K) (m:=m) (c:=c) hir_checker_types ⟨hx,hs,hp,fun h=>absurd h e9⟩
     cases ht:n9 m c x with
     | true=>rw [ht] at tt; simp only [Ins.F,chkF] at tf tp tt ⊢; simp -implicitDefEqProofs only [tf,tp,tt,eq_false e9,XP,seval]
     | false=>rw [ht] at tt; simp only [Ins.F,chkF] at tf tp tt ⊢; simp -implicitDefEqProofs only [tf,tp,tt,eq_false e9,XP,seval]
def C5:=Cc (fun p:(Modl) × (Cod) × (Ins)=>[chkF p.1 p.2.1,p.2.2.F]) (fun p=>[.int .i64 (N5 p.1 p.2.1 p.2.2)]) (fun p=>p.2.2.ok∧p.2.2.s.length≤bigN)
theorem v6 (hir_checker_instr:T 176=some C5) {m:Modl} {c:Cod} {x:Ins} {K:PK} (hk:x.ok∧x.s.length≤bigN):evP ⟨A0,T,A5⟩ (.call 176 [chkF m c,x.F] K)=some (.val (openTs K.os.length [.int .i64 (N5 m c x)]).1 ⟨K.os ++ (openTs K.os.length [.int .i64 (N5 m c x)]).2,K.ext,K.tch⟩):=E1 hir_checker_instr (by simp -implicitDefEqProofs only [VV,XP,seval]) (E5 (a:=fun p:(Modl) × (Cod) × (Ins)=>[chkF p.1 p.2.1,p.2.2.F]) (r:=fun p=>[.int .i64 (N5 p.1 p.2.1 p.2.2)]) (fun x y e=>by simp only [VJ] at e; simp only [e]) (m,c,x) hk) (by simp -implicitDefEqProofs only [VN,XP,seval])
theorem Fl (hir_form:T 222=some Dj) (hir_checker_places:T 223=some I4) (hir_checker_types:T 224=some K7) (hP:PEok ⟨A0,T,A5⟩):TC A0 176 C5:=G4 hP fun p h=>Bf hir_form hir_checker_places hir_checker_types h
def Qj (c:Cod) (e:Endd):Int :=
 if e.kind=1 then (if thereD e.to c.blocks.length=true then 0 else 11)
 else if e.kind=2 then (if thereD e.to c.blocks.length=true then (if thereD e.els c.blocks.length=true then (if thereD e.a c.regs.length=true then (if l8 c.regs e.a=1 then 0 else 6) else 11) else 11) else 11)
 else if e.kind=3 then (if e.a < 0 then (if c.ty=0 then 0 else 6) else (if thereD e.a c.regs.length=true then (if c.ty=0 then 6 else if l8 c.regs e.a=c.ty then 0 else 6) else 11)) else 2
set_option maxHeartbeats 8000000 in
theorem Do (hir_there:T 225=some G9) {m:Modl} {c:Cod} {e:Endd}:AM.Comes ⟨A0,T,A5⟩ 177 [chkF m c,e.F] [.int .i64 (Qj c e)]:=by
 refine ⟨[.int .i64 (Qj c e)],⟨[],0,[]⟩,?_,E2 rfl List.nodup_nil rfl rfl rfl⟩
 rw [A9 (c:=rK) (nt:=100) (rs:=[.tmp 4]) rfl (by simp)]; unfold rK
 unfold K0
 have tt:=fun a n K=>j6 (K:=K) (a:=a) (n:=n) hir_there
 have eb:=Ny 4 rfl
 have rix:∀ k:Nat,e.a=k->k < c.regs.length->Ye fS (fslN (ints c.regs)) (.int .i64 e.a)=some (.fptr (.int .i64 (l8 c.regs e.a)) 0):=fun k hk hl=>by
  rw [hk]; exact ix_fslN (Iq hl) rfl
 have b1:(true == true)=true:=rfl
 have b2:(true == false)=false:=rfl
 have b3:(false == true)=false:=rfl
 have b4:(false == false)=true:=rfl
 unfold Qj
 simp only [Endd.F,chkF]
 by_cases e1:e.kind=1
 . cases h1:thereD e.to c.blocks.length with
   | true=>simp -implicitDefEqProofs only [tt,h1,eq_true e1,List.length_map,XP,seval]
   | false=>simp -implicitDefEqProofs only [tt,h1,eq_true e1,List.length_map,XP,seval]
 by_cases e2:e.kind=2
 . cases h1:thereD e.to c.blocks.length with
   | false=>simp -implicitDefEqProofs only [tt,h1,eq_false e1,eq_true e2,List.length_map,XP,seval]
   | true =>
    cases h2:thereD e.els c.blocks.length with
    | false=>simp -implicitDefEqProofs only [tt,h1,h2,eq_false e1,eq_true e2,List.length_map,XP,seval]
    | true =>
     cases h3:thereD e.a c.regs.length with
     | false=>simp -implicitDefEqProofs only [tt,h1,h2,h3,eq_false e1,eq_true e2,List.length_map,XP,seval]
     | true =>
      obtain ⟨k,hk,hl⟩:=G2 h3
      have hix:=rix k hk (by omega)
      by_cases hq:l8 c.regs e.a=1
      . simp -implicitDefEqProofs only [tt,h1,h2,h3,hix,eq_true hq,eq_false e1,eq_true e2,List.length_map,XP,seval]
      . simp -implicitDefEqProofs only [tt,h1,h2,h3,hix,eq_false hq,eq_false e1,eq_true e2,List.length_map,XP,seval]
 by_cases e3:e.kind=3
 . by_cases ha:e.a < 0
   . by_cases hv:c.ty=0
     . simp -implicitDefEqProofs only [tt,eb,b1,b2,b3,b4,eq_true ha,eq_true hv,eq_false e1,eq_false e2,eq_true e3,List.length_map,XP,seval]
     . simp -implicitDefEqProofs only [tt,eb,b1,b2,b3,b4,eq_true ha,eq_false hv,eq_false e1,eq_false e2,eq_true e3,List.length_map,XP,seval]
   . cases h3:thereD e.a c.regs.length with
     | false=>simp -implicitDefEqProofs only [tt,h3,eq_false ha,eq_false e1,eq_false e2,eq_true e3,List.length_map,XP,seval]
     | true =>
      obtain ⟨k,hk,hl⟩:=G2 h3
      have hix:=rix k hk (by omega)
      by_cases hv:c.ty=0
      . simp -implicitDefEqProofs only [tt,h3,eb,b1,b2,b3,b4,eq_false ha,eq_true hv,eq_false e1,eq_false e2,eq_true e3,List.length_map,XP,seval]
      . by_cases hq:l8 c.regs e.a=c.ty
        . simp -implicitDefEqProofs only [tt,h3,hix,eb,b1,b2,b3,b4,eq_false ha,eq_false hv,eq_true hq,eq_false e1,eq_false e2,eq_true e3,List.length_map,XP,seval]
        . simp -implicitDefEqProofs only [tt,h3,hix,eb,b1,b2,b3,b4,eq_false ha,eq_false hv,eq_false hq,eq_false e1,eq_false e2,eq_true e3,List.length_map,XP,seval]
 . simp -implicitDefEqProofs only [eq_false e1,eq_false e2,eq_false e3,List.length_map,XP,seval]
def H1:=Cc (fun p:(Modl) × (Cod) × (Endd)=>[chkF p.1 p.2.1,p.2.2.F]) (fun p=>[.int .i64 (Qj p.2.1 p.2.2)]) (fun p=>True)
theorem Bw (hir_checker_end:T 177=some H1) {m:Modl} {c:Cod} {e:Endd} {K:PK}:evP ⟨A0,T,A5⟩ (.call 177 [chkF m c,e.F] K)=some (.val (openTs K.os.length [.int .i64 (Qj c e)]).1 ⟨K.os ++ (openTs K.os.length [.int .i64 (Qj c e)]).2,K.ext,K.tch⟩):=E1 hir_checker_end (by simp -implicitDefEqProofs only [VV,XP,seval]) (E5 (a:=fun p:(Modl) × (Cod) × (Endd)=>[chkF p.1 p.2.1,p.2.2.F]) (r:=fun p=>[.int .i64 (Qj p.2.1 p.2.2)]) (fun x y e=>by simp only [VJ] at e; simp only [e]) (m,c,e) trivial) (by simp -implicitDefEqProofs only [VN,XP,seval])
theorem It (hir_there:T 225=some G9) (hP:PEok ⟨A0,T,A5⟩):TC A0 177 H1:=G4 hP fun p h=>Do hir_there
def J8:List Int->Int
 | []=>0
 | e :: l=>if e=0 then J8 l else e
theorem err_loop {P:PE} {c:PC} {X:Type} {f:X->Int} {l:List X} {S:Nat->PF} {K:PK} {x:Nat} {Q:PF->Prop} {R:Int->PF->PK->Prop}
 (h1:∀ i (h:i < l.length),f l[i]=0->evP P (.code c (S i) K)=some (.ok .normal (S (i + 1)) K))
 (h2:∀ i (h:i < l.length),¬ f l[i]=0->∃ fr' K',evP P (.code c (S i) K)=some (.ok .ret fr' K')∧R (f l[i]) fr' K')
 (hx:∃ fr',evP P (.code c (S l.length) K)=some (.ok (.exit x) fr' K)∧Q fr') :
 (J8 (l.map f)=0∧∃ fr',evP P (.code (.loop c) (S 0) K)=some (.ok (.exit x) fr' K)∧Q fr')∨(¬ J8 (l.map f)=0∧∃ fr' K',evP P (.code (.loop c) (S 0) K)=some (.ok .ret fr' K')∧R (J8 (l.map f)) fr' K'):=by
 have key:∀ (n i:Nat),l.length=i + n->(J8 ((l.drop i).map f)=0∧∃ fr',evP P (.code (.loop c) (S i) K)=some (.ok (.exit x) fr' K)∧Q fr')∨(¬ J8 ((l.drop i).map f)=0∧∃ fr' K',evP P (.code (.loop c) (S i) K)=some (.ok .ret fr' K')∧R (J8 ((l.drop i).map f)) fr' K'):=fun n=>by
  induction n with
  | zero =>
   intro i e
   obtain rfl:i=l.length:=by omega
   obtain ⟨fr',h,q⟩:=hx
   exact .inl ⟨by rw [List.drop_length]; rfl,fr',C4 h,q⟩
  | succ n ih =>
   intro i e
   have hl:i < l.length:=by omega
   rw [List.drop_eq_getElem_cons hl,List.map_cons]
   unfold J8
   by_cases hq:f l[i]=0
   . rw [C2 (h1 i hl hq),if_pos hq]
     exact ih (i + 1) (by omega)
   . obtain ⟨fr',K',q1,q2⟩:=h2 i hl hq
     rw [if_neg hq]
     exact .inr ⟨hq,fr',K',Ee q1,q2⟩
 exact key l.length 0 (by omega)
end
end Go.Proofs.AmEnv
set_option maxRecDepth 100000
namespace Go.Proofs.AmEnv
open Go Go.AM
variable {T:Nat->Option (List AV->Option (List AV))}
def Ins.sok (x:Ins):Prop:=x.ok∧x.s.length≤bigN
def Blk.sok (b:Blk):Prop:=b.ok∧∀ x∈b.code,x.sok
def Cod.sok (c:Cod):Prop:=c.ok∧∀ b∈c.blocks,b.sok
def Modl.ok (m:Modl):Prop:=(∀ c∈m.fs,c.sok)∧m.fs.length * 64≤bigN∧m.gs.length * 40≤bigN
section
variable {m:Modl} {c:Cod} {x:Ins} {b:Blk} {fr:PF} {i k:Nat} {tch:List Nat}
def Sr (m:Modl) (c:Cod) (b:Blk):Int:=if J8 (b.code.map (N5 m c))=0 then Qj c b.e else J8 (b.code.map (N5 m c))
def a8 (m:Modl) (c:Cod):Int :=
 if c.blocks.length < 1∨400 < c.blocks.length∨4096 < c.regs.length then 9 else if c.ps < 0∨(c.regs.length:Int) < c.ps then 11
 else if c.ty < 0∨2 < c.ty∨(c.regs.any fun n=>!F6 n)=true then 6 else J8 (c.blocks.map (Sr m c))
theorem CK (hT:T 176=some C5) (h:k < b.code.length) (hs:b.sok) (hp:N5 m c b.code[k]=0) :
 evP ⟨A0,T,A5⟩ (.code x4 [(1,.ptr 0 0 0),(5,.ptr 1 0 0),(56,fslN (c.blocks.map Blk.F)),(57,.int .i64 (c.blocks.length:Int)),(58,.int .i64 (i:Int)),(63,fslN (b.code.map Ins.F)),(64,.int .i64 (b.code.length:Int)),(65,.int .i64 (k:Int))] ⟨[.row 1 [chkF m c] 7,.row 1 [b.F] 5],0,[]⟩)=some (.ok .normal [(1,.ptr 0 0 0),(5,.ptr 1 0 0),(56,fslN (c.blocks.map Blk.F)),(57,.int .i64 (c.blocks.length:Int)),(58,.int .i64 (i:Int)),(63,fslN (b.code.map Ins.F)),(64,.int .i64 (b.code.length:Int)),(65,.int .i64 ((k + 1:Nat):Int))] ⟨[.row 1 [chkF m c] 7,.row 1 [b.F] 5],0,[]⟩):=by
 unfold x4
 have hlt:decide ((k:Int) < (b.code.length:Int))=true:=by simp [h]
 have hw:=B3 (i:=k) (by have:=hs.1.2; simp only [bigN] at this; omega)
 have t:=fun K=>v6 (K:=K) (m:=m) (c:=c) (x:=b.code[k]) hT (hs.2 _ (List.getElem_mem h))
 rw [hp] at t
 have hi:=D2 (F:=Ins.F) h
 simp only [Ins.F,chkF,Blk.F] at t hi ⊢
 simp -implicitDefEqProofs only [hlt,hi,hw,t,XP,seval]
theorem CL (hT:T 176=some C5) (h:k < b.code.length) (hs:b.sok) (hp:¬ N5 m c b.code[k]=0) :
 evP ⟨A0,T,A5⟩ (.code x4 [(1,.ptr 0 0 0),(5,.ptr 1 0 0),(56,fslN (c.blocks.map Blk.F)),(57,.int .i64 (c.blocks.length:Int)),(58,.int .i64 (i:Int)),(63,fslN (b.code.map Ins.F)),(64,.int .i64 (b.code.length:Int)),(65,.int .i64 (k:Int))] ⟨[.row 1 [chkF m c] 7,.row 1 [b.F] 5],0,[]⟩)=some (.ok .ret [(2,.int .i64 (N5 m c b.code[k]))] ⟨[],0,[]⟩):=by
 unfold x4
 have hlt:decide ((k:Int) < (b.code.length:Int))=true:=by simp [h]
 have t:=fun K=>v6 (K:=K) (m:=m) (c:=c) (x:=b.code[k]) hT (hs.2 _ (List.getElem_mem h))
 have hi:=D2 (F:=Ins.F) h
 simp only [Ins.F,chkF,Blk.F] at t hi ⊢
 simp -implicitDefEqProofs only [hlt,hi,t,eq_false hp,XP,seval]
theorem CM:∃ fr',evP ⟨A0,T,A5⟩ (.code x4 [(1,.ptr 0 0 0),(5,.ptr 1 0 0),(56,fslN (c.blocks.map Blk.F)),(57,.int .i64 (c.blocks.length:Int)),(58,.int .i64 (i:Int)),(63,fslN (b.code.map Ins.F)),(64,.int .i64 (b.code.length:Int)),(65,.int .i64 (b.code.length:Int))] ⟨[.row 1 [chkF m c] 7,.row 1 [b.F] 5],0,[]⟩)=some (.ok (.exit 3) fr' ⟨[.row 1 [chkF m c] 7,.row 1 [b.F] 5],0,[]⟩)∧(lookP fr' 1=.ptr 0 0 0∧lookP fr' 5=.ptr 1 0 0∧lookP fr' 56=fslN (c.blocks.map Blk.F)∧lookP fr' 57=.int .i64 (c.blocks.length:Int)∧lookP fr' 58=.int .i64 (i:Int)):=by
 unfold x4
 have hlt:decide ((b.code.length:Int) < (b.code.length:Int))=false:=by simp
 simp -implicitDefEqProofs only [hlt,XP,seval]
 exact ⟨_,rfl,rfl,rfl,rfl,rfl,rfl⟩
theorem cdi_l (hT:T 176=some C5) (hs:b.sok) :
 (J8 (b.code.map (N5 m c))=0∧∃ fr',evP ⟨A0,T,A5⟩ (.code (.loop x4) [(1,.ptr 0 0 0),(5,.ptr 1 0 0),(56,fslN (c.blocks.map Blk.F)),(57,.int .i64 (c.blocks.length:Int)),(58,.int .i64 (i:Int)),(63,fslN (b.code.map Ins.F)),(64,.int .i64 (b.code.length:Int)),(65,.int .i64 0)] ⟨[.row 1 [chkF m c] 7,.row 1 [b.F] 5],0,[]⟩)=some (.ok (.exit 3) fr' ⟨[.row 1 [chkF m c] 7,.row 1 [b.F] 5],0,[]⟩)∧(lookP fr' 1=.ptr 0 0 0∧lookP fr' 5=.ptr 1 0 0∧lookP fr' 56=fslN (c.blocks.map Blk.F)∧lookP fr' 57=.int .i64 (c.blocks.length:Int)∧lookP fr' 58=.int .i64 (i:Int))) ∨
 (¬ J8 (b.code.map (N5 m c))=0∧evP ⟨A0,T,A5⟩ (.code (.loop x4) [(1,.ptr 0 0 0),(5,.ptr 1 0 0),(56,fslN (c.blocks.map Blk.F)),(57,.int .i64 (c.blocks.length:Int)),(58,.int .i64 (i:Int)),(63,fslN (b.code.map Ins.F)),(64,.int .i64 (b.code.length:Int)),(65,.int .i64 0)] ⟨[.row 1 [chkF m c] 7,.row 1 [b.F] 5],0,[]⟩)=some (.ok .ret [(2,.int .i64 (J8 (b.code.map (N5 m c))))] ⟨[],0,[]⟩)):=by
 rcases err_loop (P:=⟨A0,T,A5⟩) (c:=x4) (f:=N5 m c) (l:=b.code) (S:=fun k=>[(1,.ptr 0 0 0),(5,.ptr 1 0 0),(56,fslN (c.blocks.map Blk.F)),(57,.int .i64 (c.blocks.length:Int)),(58,.int .i64 (i:Int)),(63,fslN (b.code.map Ins.F)),(64,.int .i64 (b.code.length:Int)),(65,.int .i64 (k:Int))]) (K:=⟨[.row 1 [chkF m c] 7,.row 1 [b.F] 5],0,[]⟩) (Q:=fun fr'=>lookP fr' 1=.ptr 0 0 0∧lookP fr' 5=.ptr 1 0 0∧lookP fr' 56=fslN (c.blocks.map Blk.F)∧lookP fr' 57=.int .i64 (c.blocks.length:Int)∧lookP fr' 58=.int .i64 (i:Int)) (R:=fun e fr' K'=>fr'=[(2,.int .i64 e)]∧K'=⟨[],0,[]⟩)
  (fun k h hp=>CK hT h hs hp) (fun k h hp=>⟨_,_,CL hT h hs hp,rfl,rfl⟩) CM with h | ⟨h,fr',K',q,rfl,rfl⟩
 . exact .inl h
 . exact .inr ⟨h,q⟩
theorem CN (hT:T 176=some C5) (hE:T 177=some H1) (h:i < c.blocks.length) (hs:c.sok) (hp:Sr m c c.blocks[i]=0) :
 evP ⟨A0,T,A5⟩ (.code m9 [(1,.ptr 0 0 0),(56,fslN (c.blocks.map Blk.F)),(57,.int .i64 (c.blocks.length:Int)),(58,.int .i64 (i:Int))] ⟨[.row 1 [chkF m c] 7],0,[]⟩)=some (.ok .normal [(1,.ptr 0 0 0),(56,fslN (c.blocks.map Blk.F)),(57,.int .i64 (c.blocks.length:Int)),(58,.int .i64 ((i + 1:Nat):Int))] ⟨[.row 1 [chkF m c] 7],0,[]⟩):=by
 have hb:=hs.2 _ (List.getElem_mem h)
 have hlt:decide ((i:Int) < (c.blocks.length:Int))=true:=by simp [h]
 have hw:=B3 (i:=i) (by have:=hs.1.2.2; simp only [bigN] at this; omega)
 have hi:=D2 (F:=Blk.F) h
 have t:=fun K=>Bw (K:=K) (m:=m) (c:=c) (e:=c.blocks[i].e) hE
 unfold Sr at hp
 rcases cdi_l (m:=m) (c:=c) (i:=i) hT hb with ⟨q,fr',h1,h2,h3,h4,h5,h6⟩ | ⟨q,h1⟩
 . rw [if_pos q] at hp
   rw [hp] at t
   unfold m9
   simp only [chkF,Blk.F,Endd.F] at h1 hi t ⊢
   simp -implicitDefEqProofs only [hlt,hi,hw,h1,h2,h3,h4,h5,h6,t,List.length_map,XP,seval]
 . rw [if_neg q] at hp; exact absurd hp q
theorem CO (hT:T 176=some C5) (hE:T 177=some H1) (h:i < c.blocks.length) (hs:c.sok) (hp:¬ Sr m c c.blocks[i]=0) :
 evP ⟨A0,T,A5⟩ (.code m9 [(1,.ptr 0 0 0),(56,fslN (c.blocks.map Blk.F)),(57,.int .i64 (c.blocks.length:Int)),(58,.int .i64 (i:Int))] ⟨[.row 1 [chkF m c] 7],0,[]⟩)=some (.ok .ret [(2,.int .i64 (Sr m c c.blocks[i]))] ⟨[],0,[]⟩):=by
 have hb:=hs.2 _ (List.getElem_mem h)
 have hlt:decide ((i:Int) < (c.blocks.length:Int))=true:=by simp [h]
 have hi:=D2 (F:=Blk.F) h
 have t:=fun K=>Bw (K:=K) (m:=m) (c:=c) (e:=c.blocks[i].e) hE
 unfold Sr at hp ⊢
 rcases cdi_l (m:=m) (c:=c) (i:=i) hT hb with ⟨q,fr',h1,h2,h3,h4,h5,h6⟩ | ⟨q,h1⟩
 . rw [if_pos q] at hp ⊢
   unfold m9
   simp only [chkF,Blk.F,Endd.F] at h1 hi t ⊢
   simp -implicitDefEqProofs only [hlt,hi,h1,h2,h3,h4,h5,h6,t,eq_false hp,List.length_map,XP,seval]
 . rw [if_neg q]
   unfold m9
   simp only [chkF,Blk.F] at h1 hi ⊢
   simp -implicitDefEqProofs only [hlt,hi,h1,List.length_map,XP,seval]
theorem CP:∃ fr',evP ⟨A0,T,A5⟩ (.code m9 [(1,.ptr 0 0 0),(56,fslN (c.blocks.map Blk.F)),(57,.int .i64 (c.blocks.length:Int)),(58,.int .i64 (c.blocks.length:Int))] ⟨[.row 1 [chkF m c] 7],0,[]⟩)=some (.ok (.exit 1) fr' ⟨[.row 1 [chkF m c] 7],0,[]⟩)∧True:=by
 unfold m9
 have hlt:decide ((c.blocks.length:Int) < (c.blocks.length:Int))=false:=by simp
 simp -implicitDefEqProofs only [hlt,XP,seval]
 exact ⟨_,rfl⟩
set_option maxHeartbeats 8000000 in
theorem Ca (hir_checker_instr:T 176=some C5) (hir_checker_end:T 177=some H1) (hir_checker_code_1:T 175=some C6) (nIdxFInts:T 221=none) (nContFInts:T 174=none) {m:Modl} {c:Cod} (hk:c.sok):AM.Comes ⟨A0,T,A5⟩ 112 [chkF m c] [.int .i64 (a8 m c)]:=by
 refine ⟨[.int .i64 (a8 m c)],⟨[],0,[]⟩,?_,E2 rfl List.nodup_nil rfl rfl rfl⟩
 rw [A9 (c:=rD) (nt:=84) (rs:=[.tmp 2]) rfl (by simp)]; unfold rD
 unfold K0
 have hl:c.regs.length≤bigN:=by have:=hk.1.1; simp only [bigN] at this ⊢; omega
 have tc:=fun K=>Qe (l:=c.regs) hir_checker_code_1 nIdxFInts nContFInts hl K
 have lp:=err_loop (P:=⟨A0,T,A5⟩) (c:=m9) (f:=Sr m c) (l:=c.blocks) (S:=fun i=>[(1,.ptr 0 0 0),(56,fslN (c.blocks.map Blk.F)),(57,.int .i64 (c.blocks.length:Int)),(58,.int .i64 (i:Int))]) (K:=⟨[.row 1 [chkF m c] 7],0,[]⟩) (Q:=fun fr'=>True) (R:=fun e fr' K'=>fr'=[(2,.int .i64 e)]∧K'=⟨[],0,[]⟩)
  (fun k h hp=>CN hir_checker_instr hir_checker_end h hk hp) (fun k h hp=>⟨_,_,CO hir_checker_instr hir_checker_end h hk hp,rfl,rfl⟩) CP
 unfold a8
 simp only [chkF] at tc lp ⊢
 have q400:decide ((400:Int) < (c.blocks.length:Int))=decide (400 < c.blocks.length):=decide_eq_decide.2 (by omega)
 have q4096:decide ((4096:Int) < (c.regs.length:Int))=decide (4096 < c.regs.length):=decide_eq_decide.2 (by omega)
 have q1':decide ((c.blocks.length:Int) < 1)=decide (c.blocks.length < 1):=decide_eq_decide.2 (by omega)
 by_cases q1:c.blocks.length < 1
 . simp -implicitDefEqProofs only [eq_true q1,q1',q400,q4096,List.length_map,XP,seval]
 by_cases q2:400 < c.blocks.length
 . simp -implicitDefEqProofs only [eq_false q1,eq_true q2,q1',q400,q4096,List.length_map,XP,seval]
 by_cases q3:4096 < c.regs.length
 . simp -implicitDefEqProofs only [eq_false q1,eq_false q2,eq_true q3,q1',q400,q4096,List.length_map,XP,seval]
 by_cases q4:c.ps < 0
 . simp -implicitDefEqProofs only [eq_false q1,eq_false q2,eq_false q3,eq_true q4,q1',q400,q4096,List.length_map,XP,seval]
 by_cases q5:(c.regs.length:Int) < c.ps
 . simp -implicitDefEqProofs only [eq_false q1,eq_false q2,eq_false q3,eq_false q4,eq_true q5,q1',q400,q4096,List.length_map,XP,seval]
 by_cases q6:c.ty < 0
 . simp -implicitDefEqProofs only [eq_false q1,eq_false q2,eq_false q3,eq_false q4,eq_false q5,eq_true q6,q1',q400,q4096,List.length_map,XP,seval]
 by_cases q7:2 < c.ty
 . simp -implicitDefEqProofs only [eq_false q1,eq_false q2,eq_false q3,eq_false q4,eq_false q5,eq_false q6,eq_true q7,q1',q400,q4096,List.length_map,XP,seval]
 cases q8:(c.regs.any fun n=>!F6 n) with
 | true=>simp -implicitDefEqProofs only [eq_false q1,eq_false q2,eq_false q3,eq_false q4,eq_false q5,eq_false q6,eq_false q7,tc,q8,q1',q400,q4096,List.length_map,XP,seval]
 | false =>
  rcases lp with ⟨q,fr',h1,_⟩ | ⟨q,fr',K',h1,rfl,rfl⟩
  . have h1:evP ⟨A0,T,A5⟩ (.code (.loop m9) [(1,.ptr 0 0 0),(56,fslN (c.blocks.map Blk.F)),(57,.int .i64 (c.blocks.length:Int)),(58,.int .i64 0)] _)=_:=h1
    simp -implicitDefEqProofs only [eq_false q1,eq_false q2,eq_false q3,eq_false q4,eq_false q5,eq_false q6,eq_false q7,tc,q8,q,h1,q1',q400,q4096,List.length_map,XP,seval]
  . have h1:evP ⟨A0,T,A5⟩ (.code (.loop m9) [(1,.ptr 0 0 0),(56,fslN (c.blocks.map Blk.F)),(57,.int .i64 (c.blocks.length:Int)),(58,.int .i64 0)] _)=_:=h1
    simp -implicitDefEqProofs only [eq_false q1,eq_false q2,eq_false q3,eq_false q4,eq_false q5,eq_false q6,eq_false q7,tc,q8,h1,q1',q400,q4096,List.length_map,XP,seval]
def G3:=Cc (fun p:(Modl) × (Cod)=>[chkF p.1 p.2]) (fun p=>[.int .i64 (a8 p.1 p.2)]) (fun p=>p.2.sok)
theorem Ae (hir_checker_code:T 112=some G3) {m:Modl} {c:Cod} {K:PK} (hk:c.sok):evP ⟨A0,T,A5⟩ (.call 112 [chkF m c] K)=some (.val (openTs K.os.length [.int .i64 (a8 m c)]).1 ⟨K.os ++ (openTs K.os.length [.int .i64 (a8 m c)]).2,K.ext,K.tch⟩):=E1 hir_checker_code (by simp -implicitDefEqProofs only [VV,XP,seval]) (E5 (a:=fun p:(Modl) × (Cod)=>[chkF p.1 p.2]) (r:=fun p=>[.int .i64 (a8 p.1 p.2)]) (fun x y e=>by simp only [VJ] at e; simp only [e]) (m,c) hk) (by simp -implicitDefEqProofs only [VN,XP,seval])
theorem Gx (hir_checker_instr:T 176=some C5) (hir_checker_end:T 177=some H1) (hir_checker_code_1:T 175=some C6) (nIdxFInts:T 221=none) (nContFInts:T 174=none) (hP:PEok ⟨A0,T,A5⟩):TC A0 112 G3:=G4 hP fun p h=>Ca hir_checker_instr hir_checker_end hir_checker_code_1 nIdxFInts nContFInts h
end
end Go.Proofs.AmEnv
set_option maxRecDepth 100000
namespace Go.Proofs.AmEnv
open Go Go.AM
variable {T:Nat->Option (List AV->Option (List AV))}
section
variable {m:Modl} {c:Cod} {g:Glo} {i k:Nat}
def Xa (g:Glo):Int:=if F6 g.ty=true then 0 else if g.ty=3 then (if g.size < 1 then 6 else 0) else 6
def Dp (m:Modl):Int:=idxOf (fun c:Cod=>decide (c.name=B6)) m.fs
def vO (m:Modl):Int:=if Dp m < 0 then 12 else if (codI m.fs (Dp m)).ty=1 then (if (codI m.fs (Dp m)).ps=0 then 0 else 12) else 12
def o4 (m:Modl):Int:=if J8 (m.gs.map Xa)=0 then (if J8 (m.fs.map (a8 m))=0 then vO m else J8 (m.fs.map (a8 m))) else J8 (m.gs.map Xa)
theorem CQ (hT:T 111=some N4) (h:i < m.gs.length) (hs:m.gs.length≤bigN) (hp:Xa m.gs[i]=0) :
 evP ⟨A0,T,A5⟩ (.code Fw [(1,.ptr 0 0 0),(10,fslN (m.gs.map Glo.F)),(11,.int .i64 (m.gs.length:Int)),(12,.int .i64 (i:Int))] ⟨[.row 1 [m.F] 2],0,[]⟩)=some (.ok .normal [(1,.ptr 0 0 0),(10,fslN (m.gs.map Glo.F)),(11,.int .i64 (m.gs.length:Int)),(12,.int .i64 ((i + 1:Nat):Int))] ⟨[.row 1 [m.F] 2],0,[]⟩):=by
 unfold Fw
 have hlt:decide ((i:Int) < (m.gs.length:Int))=true:=by simp [h]
 have hw:=B3 (i:=i) (by simp only [bigN] at hs; omega)
 have t:=fun K=>Gu (K:=K) (n:=m.gs[i].ty) hT
 have hi:=D2 (F:=Glo.F) h
 unfold Xa at hp
 simp only [Glo.F,Modl.F] at t hi ⊢
 cases q:F6 m.gs[i].ty with
 | true=>rw [q] at t; simp -implicitDefEqProofs only [hlt,hi,hw,t,XP,seval]
 | false =>
  rw [q] at t hp
  by_cases q3:m.gs[i].ty=3
  . by_cases q4:m.gs[i].size < 1
    . rw [if_neg (by decide),if_pos q3,if_pos q4] at hp; cases hp
    . simp -implicitDefEqProofs only [hlt,hi,hw,t,eq_true q3,eq_false q4,XP,seval]
  . rw [if_neg (by decide),if_neg q3] at hp; cases hp
theorem CS (hT:T 111=some N4) (h:i < m.gs.length) (hp:¬ Xa m.gs[i]=0) :
 evP ⟨A0,T,A5⟩ (.code Fw [(1,.ptr 0 0 0),(10,fslN (m.gs.map Glo.F)),(11,.int .i64 (m.gs.length:Int)),(12,.int .i64 (i:Int))] ⟨[.row 1 [m.F] 2],0,[]⟩)=some (.ok .ret [(2,.int .i64 (Xa m.gs[i]))] ⟨[],0,[]⟩):=by
 unfold Fw
 have hlt:decide ((i:Int) < (m.gs.length:Int))=true:=by simp [h]
 have t:=fun K=>Gu (K:=K) (n:=m.gs[i].ty) hT
 have hi:=D2 (F:=Glo.F) h
 unfold Xa at hp ⊢
 simp only [Glo.F,Modl.F] at t hi ⊢
 cases q:F6 m.gs[i].ty with
 | true=>rw [q] at hp; exact absurd rfl hp
 | false =>
  rw [q] at t hp
  by_cases q3:m.gs[i].ty=3
  . by_cases q4:m.gs[i].size < 1
    . simp -implicitDefEqProofs only [hlt,hi,t,eq_true q3,eq_true q4,XP,seval]
    . rw [if_neg (by decide),if_pos q3,if_neg q4] at hp; exact absurd rfl hp
  . simp -implicitDefEqProofs only [hlt,hi,t,eq_false q3,XP,seval]
theorem CT:∃ fr',evP ⟨A0,T,A5⟩ (.code Fw [(1,.ptr 0 0 0),(10,fslN (m.gs.map Glo.F)),(11,.int .i64 (m.gs.length:Int)),(12,.int .i64 (m.gs.length:Int))] ⟨[.row 1 [m.F] 2],0,[]⟩)=some (.ok (.exit 0) fr' ⟨[.row 1 [m.F] 2],0,[]⟩)∧lookP fr' 1=.ptr 0 0 0:=by
 unfold Fw
 have hlt:decide ((m.gs.length:Int) < (m.gs.length:Int))=false:=by simp
 simp -implicitDefEqProofs only [hlt,XP,seval]
 exact ⟨_,rfl,rfl⟩
theorem CU (hT:T 112=some G3) (h:i < m.fs.length) (hs:m.ok) (hp:a8 m m.fs[i]=0) :
 evP ⟨A0,T,A5⟩ (.code Fx [(1,.ptr 0 0 0),(32,fslN (m.fs.map Cod.F)),(33,.int .i64 (m.fs.length:Int)),(34,.int .i64 (i:Int))] ⟨[.row 1 [m.F] 2],0,[]⟩)=some (.ok .normal [(1,.ptr 0 0 0),(32,fslN (m.fs.map Cod.F)),(33,.int .i64 (m.fs.length:Int)),(34,.int .i64 ((i + 1:Nat):Int))] ⟨[.row 1 [m.F] 2],0,[]⟩):=by
 unfold Fx
 have hlt:decide ((i:Int) < (m.fs.length:Int))=true:=by simp [h]
 have hw:=B3 (i:=i) (by have:=hs.2.1; simp only [bigN] at this; omega)
 have t:=fun K=>Ae (K:=K) (m:=m) (c:=m.fs[i]) hT (hs.1 _ (List.getElem_mem h))
 rw [hp] at t
 have hi:=D2 (F:=Cod.F) h
 simp only [Cod.F,Modl.F,chkF] at t hi ⊢
 simp -implicitDefEqProofs only [hlt,hi,hw,t,XP,seval]
theorem CV (hT:T 112=some G3) (h:i < m.fs.length) (hs:m.ok) (hp:¬ a8 m m.fs[i]=0) :
 evP ⟨A0,T,A5⟩ (.code Fx [(1,.ptr 0 0 0),(32,fslN (m.fs.map Cod.F)),(33,.int .i64 (m.fs.length:Int)),(34,.int .i64 (i:Int))] ⟨[.row 1 [m.F] 2],0,[]⟩)=some (.ok .ret [(2,.int .i64 (a8 m m.fs[i]))] ⟨[],0,[]⟩):=by
 unfold Fx
 have hlt:decide ((i:Int) < (m.fs.length:Int))=true:=by simp [h]
 have t:=fun K=>Ae (K:=K) (m:=m) (c:=m.fs[i]) hT (hs.1 _ (List.getElem_mem h))
 have hi:=D2 (F:=Cod.F) h
 simp only [Cod.F,Modl.F,chkF] at t hi ⊢
 simp -implicitDefEqProofs only [hlt,hi,t,eq_false hp,XP,seval]
theorem CW:∃ fr',evP ⟨A0,T,A5⟩ (.code Fx [(1,.ptr 0 0 0),(32,fslN (m.fs.map Cod.F)),(33,.int .i64 (m.fs.length:Int)),(34,.int .i64 (m.fs.length:Int))] ⟨[.row 1 [m.F] 2],0,[]⟩)=some (.ok (.exit 2) fr' ⟨[.row 1 [m.F] 2],0,[]⟩)∧lookP fr' 1=.ptr 0 0 0:=by
 unfold Fx
 have hlt:decide ((m.fs.length:Int) < (m.fs.length:Int))=false:=by simp
 simp -implicitDefEqProofs only [hlt,XP,seval]
 exact ⟨_,rfl,rfl⟩
theorem nI {X:Type} {p:X->Bool} {l:List X} (h:¬ idxOf p l < 0):∃ k:Nat,idxOf p l=k∧∃ hk:k < l.length,p l[k]=true:=by
 unfold idxOf at h ⊢
 cases q:l.findIdx? p with
 | none=>rw [q] at h; exact absurd (by decide) h
 | some i =>
  rw [List.findIdx?_eq_some_iff_getElem] at q
  exact ⟨i,rfl,q.1,q.2.1⟩
set_option maxHeartbeats 8000000 in
theorem Qk (hir_number:T 111=some N4) (hir_checker_code:T 112=some G3) (hir_mainOf:T 113=some n8) {m:Modl} (hk:m.ok):AM.Comes ⟨A0,T,A5⟩ 40 [m.F] [.int .i64 (o4 m)]:=by
 refine ⟨[.int .i64 (o4 m)],⟨[],0,[]⟩,?_,E2 rfl List.nodup_nil rfl rfl rfl⟩
 rw [A9 (c:=IE) (nt:=68) (rs:=[.tmp 2]) rfl (by simp)]; unfold IE
 unfold K0
 have hgl:m.gs.length≤bigN:=by have:=hk.2.2; simp only [bigN] at this ⊢; omega
 have hfl:m.fs.length≤bigN:=by have:=hk.2.1; simp only [bigN] at this ⊢; omega
 have tm:=fun K=>dK (K:=K) (m:=m) hir_mainOf hfl
 have tm:∀ K:PK,evP ⟨A0,T,A5⟩ (.call 113 [m.F] K)=some (.val (openTs K.os.length [.int .i64 (Dp m)]).1 ⟨K.os ++ (openTs K.os.length [.int .i64 (Dp m)]).2,K.ext,K.tch⟩):=tm
 have l1:=err_loop (P:=⟨A0,T,A5⟩) (c:=Fw) (f:=Xa) (l:=m.gs) (S:=fun i=>[(1,.ptr 0 0 0),(10,fslN (m.gs.map Glo.F)),(11,.int .i64 (m.gs.length:Int)),(12,.int .i64 (i:Int))]) (K:=⟨[.row 1 [m.F] 2],0,[]⟩) (Q:=fun fr'=>lookP fr' 1=.ptr 0 0 0) (R:=fun e fr' K'=>fr'=[(2,.int .i64 e)]∧K'=⟨[],0,[]⟩)
  (fun k h hp=>CQ hir_number h hgl hp) (fun k h hp=>⟨_,_,CS hir_number h hp,rfl,rfl⟩) CT
 have l2:=err_loop (P:=⟨A0,T,A5⟩) (c:=Fx) (f:=a8 m) (l:=m.fs) (S:=fun i=>[(1,.ptr 0 0 0),(32,fslN (m.fs.map Cod.F)),(33,.int .i64 (m.fs.length:Int)),(34,.int .i64 (i:Int))]) (K:=⟨[.row 1 [m.F] 2],0,[]⟩) (Q:=fun fr'=>lookP fr' 1=.ptr 0 0 0) (R:=fun e fr' K'=>fr'=[(2,.int .i64 e)]∧K'=⟨[],0,[]⟩)
  (fun k h hp=>CU hir_checker_code h hk hp) (fun k h hp=>⟨_,_,CV hir_checker_code h hk hp,rfl,rfl⟩) CW
 unfold o4
 simp only [Modl.F] at tm l1 l2 ⊢
 rcases l1 with ⟨q,fr',h1,h2⟩ | ⟨q,fr',K',h1,rfl,rfl⟩
 . have h1:evP ⟨A0,T,A5⟩ (.code (.loop Fw) [(1,.ptr 0 0 0),(10,fslN (m.gs.map Glo.F)),(11,.int .i64 (m.gs.length:Int)),(12,.int .i64 0)] _)=_:=h1
   rw [if_pos q]
   rcases l2 with ⟨q2,fr2,h3,h4⟩ | ⟨q2,fr2,K2,h3,rfl,rfl⟩
   . have h3:evP ⟨A0,T,A5⟩ (.code (.loop Fx) [(1,.ptr 0 0 0),(32,fslN (m.fs.map Cod.F)),(33,.int .i64 (m.fs.length:Int)),(34,.int .i64 0)] _)=_:=h3
     rw [if_pos q2]
     unfold vO
     by_cases hm:Dp m < 0
     . simp -implicitDefEqProofs only [h1,h2,h3,h4,tm,eq_true hm,List.length_map,XP,seval]
     . obtain ⟨k,hk1,hk2,_⟩:=nI hm
       have hi:=Ir hk2
       have hk1:Dp m=k:=hk1
       have hix:Ye Df (fslN (m.fs.map Cod.F)) (.int .i64 (Dp m))=some (.fptr (codI m.fs (Dp m)).F 0):=by
        rw [hk1]; exact ix_fslN hi rfl
       simp only [Cod.F] at hix
       by_cases h5:(codI m.fs (Dp m)).ty=1
       . by_cases h6:(codI m.fs (Dp m)).ps=0
         . simp -implicitDefEqProofs only [h1,h2,h3,h4,tm,eq_false hm,hix,eq_true h5,eq_true h6,List.length_map,XP,seval]
         . simp -implicitDefEqProofs only [h1,h2,h3,h4,tm,eq_false hm,hix,eq_true h5,eq_false h6,List.length_map,XP,seval]
       . simp -implicitDefEqProofs only [h1,h2,h3,h4,tm,eq_false hm,hix,eq_false h5,List.length_map,XP,seval]
   . have h3:evP ⟨A0,T,A5⟩ (.code (.loop Fx) [(1,.ptr 0 0 0),(32,fslN (m.fs.map Cod.F)),(33,.int .i64 (m.fs.length:Int)),(34,.int .i64 0)] _)=_:=h3
     rw [if_neg q2]
     simp -implicitDefEqProofs only [h1,h2,h3,List.length_map,XP,seval]
 . have h1:evP ⟨A0,T,A5⟩ (.code (.loop Fw) [(1,.ptr 0 0 0),(10,fslN (m.gs.map Glo.F)),(11,.int .i64 (m.gs.length:Int)),(12,.int .i64 0)] _)=_:=h1
   rw [if_neg q]
   simp -implicitDefEqProofs only [h1,List.length_map,XP,seval]
def Af:=Cc (fun p:(Modl)=>[p.F]) (fun p=>[.int .i64 (o4 p)]) (fun p=>p.ok)
theorem jV (hir_Check:T 40=some Af) {m:Modl} {K:PK} (hk:m.ok):evP ⟨A0,T,A5⟩ (.call 40 [m.F] K)=some (.val (openTs K.os.length [.int .i64 (o4 m)]).1 ⟨K.os ++ (openTs K.os.length [.int .i64 (o4 m)]).2,K.ext,K.tch⟩):=E1 hir_Check (by simp -implicitDefEqProofs only [VV,XP,seval]) (E5 (a:=fun p:(Modl)=>[p.F]) (r:=fun p=>[.int .i64 (o4 p)]) (fun x y e=>by simp only [VJ] at e; simp only [e]) (m) hk) (by simp -implicitDefEqProofs only [VN,XP,seval])
theorem aK (hir_number:T 111=some N4) (hir_checker_code:T 112=some G3) (hir_mainOf:T 113=some n8) (hP:PEok ⟨A0,T,A5⟩):TC A0 40 Af:=G4 hP fun p h=>Qk hir_number hir_checker_code hir_mainOf h
end
end Go.Proofs.AmEnv
set_option maxRecDepth 100000
namespace Go.Proofs.AmEnv
open Go Go.AM
variable {T:Nat->Option (List AV->Option (List AV))}
def Ql {A X ρ:Type} (f:A->X->A ⊕ ρ):A->List X->A ⊕ ρ
 | a,[]=>.inl a
 | a,x :: l=>match f a x with | .inl a=>Ql f a l | .inr r=>.inr r
theorem dO {P:PE} {c:PC} {A X ρ:Type} {f:A->X->A ⊕ ρ} {l:List X} {S:Nat->A->PF} {K:A->PK} {x:Nat} {Q:A->PF->Prop} {R:ρ->PF->PK->Prop}
 (h1:∀ i a a' (h:i < l.length),f a l[i]=.inl a'->evP P (.code c (S i a) (K a))=some (.ok .normal (S (i + 1) a') (K a')))
 (h2:∀ i a r (h:i < l.length),f a l[i]=.inr r->∃ fr' K',evP P (.code c (S i a) (K a))=some (.ok .ret fr' K')∧R r fr' K')
 (hx:∀ a,∃ fr',evP P (.code c (S l.length a) (K a))=some (.ok (.exit x) fr' (K a))∧Q a fr') (a:A) :
 (∃ a',Ql f a l=.inl a'∧∃ fr',evP P (.code (.loop c) (S 0 a) (K a))=some (.ok (.exit x) fr' (K a'))∧Q a' fr')∨(∃ r,Ql f a l=.inr r∧∃ fr' K',evP P (.code (.loop c) (S 0 a) (K a))=some (.ok .ret fr' K')∧R r fr' K'):=by
 have key:∀ (n i:Nat) (a:A),l.length=i + n->(∃ a',Ql f a (l.drop i)=.inl a'∧∃ fr',evP P (.code (.loop c) (S i a) (K a))=some (.ok (.exit x) fr' (K a'))∧Q a' fr')∨(∃ r,Ql f a (l.drop i)=.inr r∧∃ fr' K',evP P (.code (.loop c) (S i a) (K a))=some (.ok .ret fr' K')∧R r fr' K'):=fun n=>by
  induction n with
  | zero =>
   intro i a e
   obtain rfl:i=l.length:=by omega
   obtain ⟨fr',h,q⟩:=hx a
   exact .inl ⟨a,by rw [List.drop_length]; rfl,fr',C4 h,q⟩
  | succ n ih =>
   intro i a e
   have hl:i < l.length:=by omega
   rw [List.drop_eq_getElem_cons hl]
   unfold Ql
   cases hq:f a l[i] with
   | inl a'=>rw [C2 (h1 i a a' hl hq)]; exact ih (i + 1) a' (by omega)
   | inr r =>
    obtain ⟨fr',K',q1,q2⟩:=h2 i a r hl hq
    exact .inr ⟨r,rfl,fr',K',Ee q1,q2⟩
 exact key l.length 0 a (by omega)
theorem Em {P:PE} {c:PC} {A X:Type} {f:A->X->A} {l:List X} {S:Nat->A->PF} {K:A->PK} {x:Nat} {Q:A->PF->Prop}
 (h1:∀ i a (h:i < l.length),evP P (.code c (S i a) (K a))=some (.ok .normal (S (i + 1) (f a l[i])) (K (f a l[i]))))
 (hx:∀ a,∃ fr',evP P (.code c (S l.length a) (K a))=some (.ok (.exit x) fr' (K a))∧Q a fr') (a:A) :
 ∃ fr',evP P (.code (.loop c) (S 0 a) (K a))=some (.ok (.exit x) fr' (K (l.foldl f a)))∧Q (l.foldl f a) fr':=by
 have key:∀ (n i:Nat) (a:A),l.length=i + n->∃ fr',evP P (.code (.loop c) (S i a) (K a))=some (.ok (.exit x) fr' (K ((l.drop i).foldl f a)))∧Q ((l.drop i).foldl f a) fr':=fun n=>by
  induction n with
  | zero =>
   intro i a e
   obtain rfl:i=l.length:=by omega
   obtain ⟨fr',h,q⟩:=hx a
   exact ⟨fr',by rw [List.drop_length]; exact C4 h,by rw [List.drop_length]; exact q⟩
  | succ n ih =>
   intro i a e
   have hl:i < l.length:=by omega
   rw [List.drop_eq_getElem_cons hl,List.foldl_cons,C2 (h1 i a hl)]
   exact ih (i + 1) _ (by omega)
 exact key l.length 0 a (by omega)
section
variable {m:Modl} {c:Cod} {i j k:Nat} {n:Int}
def N9 (a:Int) (n:Nat):Int:=IntKind.i64.wrap (a + (n:Int))
def CX (a:Int) (b:Blk):Int:=b.code.foldl (fun a x=>N9 a x.args.length) (N9 a b.code.length)
def zF (a:Int) (c:Cod):Int:=c.blocks.foldl CX (N9 (N9 a c.regs.length) c.blocks.length)
def IJ (a:Int) (c:Cod):Int ⊕ Unit:=if 3000 < zF a c then .inr () else .inl (zF a c)
def Bg (m:Modl):Bool:=if 20 < m.gs.length then true else if 12 < m.fs.length then true else if (m.gs.all fun g=>!decide (1024 < g.size))=true then (Ql IJ 0 m.fs).isRight else true
def nJ (a:Int) (c:Cod):Int:=c.blocks.foldl (fun a b=>N9 a b.code.length) (N9 (N9 a c.regs.length) c.blocks.length)
def o5 (m:Modl):Bool:=if 1000 < m.fs.foldl nJ 0 then true else if 12 < m.fs.length then true else if Bg m=true then true else !decide (o4 m=0)
theorem CY (h:i < m.gs.length) (hs:m.gs.length≤bigN) (hp:(!decide (1024 < m.gs[i].size))=true):evP ⟨A0,T,A5⟩ (.code Fv [(1,.ptr 0 0 0),(3,.int .i64 n),(4,.int .i64 (i:Int))] ⟨[.row 1 [m.F] 2],0,[]⟩)=some (.ok .normal [(1,.ptr 0 0 0),(3,.int .i64 n),(4,.int .i64 ((i + 1:Nat):Int))] ⟨[.row 1 [m.F] 2],0,[]⟩):=by
 unfold Fv
 have hlt:decide ((i:Int) < (m.gs.length:Int))=true:=by simp [h]
 have hw:=B3 (i:=i) (by simp only [bigN] at hs; omega)
 have hi:=D2 (F:=Glo.F) h
 have hp:decide (1024 < m.gs[i].size)=false:=by simpa using hp
 simp only [Glo.F,Modl.F] at hi ⊢
 simp -implicitDefEqProofs only [hlt,hi,hw,hp,List.length_map,XP,seval]
theorem CZ (h:i < m.gs.length) (hp:(!decide (1024 < m.gs[i].size))=false):evP ⟨A0,T,A5⟩ (.code Fv [(1,.ptr 0 0 0),(3,.int .i64 n),(4,.int .i64 (i:Int))] ⟨[.row 1 [m.F] 2],0,[]⟩)=some (.ok .ret [(2,.bool true)] ⟨[],0,[]⟩):=by
 unfold Fv
 have hlt:decide ((i:Int) < (m.gs.length:Int))=true:=by simp [h]
 have hi:=D2 (F:=Glo.F) h
 have hp:decide (1024 < m.gs[i].size)=true:=by simpa using hp
 simp only [Glo.F,Modl.F] at hi ⊢
 simp -implicitDefEqProofs only [hlt,hi,hp,List.length_map,XP,seval]
theorem DA:∃ fr',evP ⟨A0,T,A5⟩ (.code Fv [(1,.ptr 0 0 0),(3,.int .i64 n),(4,.int .i64 (m.gs.length:Int))] ⟨[.row 1 [m.F] 2],0,[]⟩)=some (.ok (.exit 0) fr' ⟨[.row 1 [m.F] 2],0,[]⟩)∧(lookP fr' 1=.ptr 0 0 0∧lookP fr' 3=.int .i64 n):=by
 unfold Fv
 have hlt:decide ((m.gs.length:Int) < (m.gs.length:Int))=false:=by simp
 simp only [Modl.F]
 simp -implicitDefEqProofs only [hlt,List.length_map,XP,seval]
 exact ⟨_,rfl,rfl,rfl⟩
theorem DB (hj:j < c.blocks.length) (hk:k < c.blocks[j].code.length) (hs:c.ok):evP ⟨A0,T,A5⟩ (.code Px [(1,.ptr 0 0 0),(3,.int .i64 n),(5,.int .i64 (i:Int)),(6,.ptr 1 0 0),(7,.int .i64 (j:Int)),(8,.int .i64 (k:Int))] ⟨[.row 1 [m.F] 2,.row 1 [c.F] 5],0,[]⟩)=some (.ok .normal [(1,.ptr 0 0 0),(3,.int .i64 (N9 n c.blocks[j].code[k].args.length)),(5,.int .i64 (i:Int)),(6,.ptr 1 0 0),(7,.int .i64 (j:Int)),(8,.int .i64 ((k + 1:Nat):Int))] ⟨[.row 1 [m.F] 2,.row 1 [c.F] 5],0,[]⟩):=by
 unfold Px N9
 have hb:=hs.2.1 _ (List.getElem_mem hj)
 have hlt:decide ((k:Int) < (c.blocks[j].code.length:Int))=true:=by simp [hk]
 have hw:=B3 (i:=k) (by have:=hb.2; simp only [bigN] at this; omega)
 have hi:=D2 (F:=Blk.F) hj
 have hi2:=D2 (F:=Ins.F) hk
 simp only [Blk.F,Ins.F,Modl.F,Cod.F] at hi hi2 ⊢
 simp -implicitDefEqProofs only [hlt,hi,hi2,hw,List.length_map,XP,seval]
theorem DC (hj:j < c.blocks.length):∃ fr',evP ⟨A0,T,A5⟩ (.code Px [(1,.ptr 0 0 0),(3,.int .i64 n),(5,.int .i64 (i:Int)),(6,.ptr 1 0 0),(7,.int .i64 (j:Int)),(8,.int .i64 (c.blocks[j].code.length:Int))] ⟨[.row 1 [m.F] 2,.row 1 [c.F] 5],0,[]⟩)=some (.ok (.exit 6) fr' ⟨[.row 1 [m.F] 2,.row 1 [c.F] 5],0,[]⟩)∧(lookP fr' 1=.ptr 0 0 0∧lookP fr' 3=.int .i64 n∧lookP fr' 5=.int .i64 (i:Int)∧lookP fr' 6=.ptr 1 0 0∧lookP fr' 7=.int .i64 (j:Int)):=by
 unfold Px
 have hlt:decide ((c.blocks[j].code.length:Int) < (c.blocks[j].code.length:Int))=false:=by simp
 have hi:=D2 (F:=Blk.F) hj
 simp only [Blk.F,Modl.F,Cod.F] at hi ⊢
 simp -implicitDefEqProofs only [hlt,hi,List.length_map,XP,seval]
 exact ⟨_,rfl,rfl,rfl,rfl,rfl,rfl⟩
theorem DD (hj:j < c.blocks.length) (hs:c.ok):evP ⟨A0,T,A5⟩ (.code Py [(1,.ptr 0 0 0),(3,.int .i64 n),(5,.int .i64 (i:Int)),(6,.ptr 1 0 0),(7,.int .i64 (j:Int))] ⟨[.row 1 [m.F] 2,.row 1 [c.F] 5],0,[]⟩)=some (.ok .normal [(1,.ptr 0 0 0),(3,.int .i64 (CX n c.blocks[j])),(5,.int .i64 (i:Int)),(6,.ptr 1 0 0),(7,.int .i64 ((j + 1:Nat):Int))] ⟨[.row 1 [m.F] 2,.row 1 [c.F] 5],0,[]⟩):=by
 have hlt:decide ((j:Int) < (c.blocks.length:Int))=true:=by simp [hj]
 have hw:=B3 (i:=j) (by have:=hs.2.2; simp only [bigN] at this; omega)
 have hi:=D2 (F:=Blk.F) hj
 obtain ⟨fr',h1,h2,h3,h4,h5,h6⟩:=Em (P:=⟨A0,T,A5⟩) (c:=Px) (f:=fun a (x:Ins)=>N9 a x.args.length) (l:=c.blocks[j].code) (S:=fun k n=>[(1,.ptr 0 0 0),(3,.int .i64 n),(5,.int .i64 (i:Int)),(6,.ptr 1 0 0),(7,.int .i64 (j:Int)),(8,.int .i64 (k:Int))]) (K:=fun _=>⟨[.row 1 [m.F] 2,.row 1 [c.F] 5],0,[]⟩) (x:=6) (Q:=fun n fr'=>lookP fr' 1=.ptr 0 0 0∧lookP fr' 3=.int .i64 n∧lookP fr' 5=.int .i64 (i:Int)∧lookP fr' 6=.ptr 1 0 0∧lookP fr' 7=.int .i64 (j:Int)) (fun k a h=>DB hj h hs) (fun a=>DC hj) (N9 n c.blocks[j].code.length)
 have h1:evP ⟨A0,T,A5⟩ (.code (.loop Px) [(1,.ptr 0 0 0),(3,.int .i64 (N9 n c.blocks[j].code.length)),(5,.int .i64 (i:Int)),(6,.ptr 1 0 0),(7,.int .i64 (j:Int)),(8,.int .i64 0)] ⟨[.row 1 [m.F] 2,.row 1 [c.F] 5],0,[]⟩)=_:=h1
 have hn:CX n c.blocks[j]=c.blocks[j].code.foldl (fun a x=>N9 a x.args.length) (N9 n c.blocks[j].code.length):=rfl
 rw [← hn] at h3
 unfold Py
 unfold N9 at h1
 simp only [Blk.F,Modl.F,Cod.F] at hi h1 ⊢
 simp -implicitDefEqProofs only [hlt,hi,h1,h2,h3,h4,h5,h6,hw,List.length_map,XP,seval]
theorem DF:∃ fr',evP ⟨A0,T,A5⟩ (.code Py [(1,.ptr 0 0 0),(3,.int .i64 n),(5,.int .i64 (i:Int)),(6,.ptr 1 0 0),(7,.int .i64 (c.blocks.length:Int))] ⟨[.row 1 [m.F] 2,.row 1 [c.F] 5],0,[]⟩)=some (.ok (.exit 4) fr' ⟨[.row 1 [m.F] 2,.row 1 [c.F] 5],0,[]⟩)∧(lookP fr' 1=.ptr 0 0 0∧lookP fr' 3=.int .i64 n∧lookP fr' 5=.int .i64 (i:Int)):=by
 unfold Py
 have hlt:decide ((c.blocks.length:Int) < (c.blocks.length:Int))=false:=by simp
 simp only [Modl.F,Cod.F]
 simp -implicitDefEqProofs only [hlt,List.length_map,XP,seval]
 exact ⟨_,rfl,rfl,rfl,rfl⟩
theorem b6c (h:i < m.fs.length) (hs:m.ok):(3000 < zF n m.fs[i]->evP ⟨A0,T,A5⟩ (.code Ij [(1,.ptr 0 0 0),(3,.int .i64 n),(5,.int .i64 (i:Int))] ⟨[.row 1 [m.F] 2],0,[]⟩)=some (.ok .ret [(2,.bool true)] ⟨[],0,[]⟩))∧(¬ 3000 < zF n m.fs[i]->evP ⟨A0,T,A5⟩ (.code Ij [(1,.ptr 0 0 0),(3,.int .i64 n),(5,.int .i64 (i:Int))] ⟨[.row 1 [m.F] 2],0,[]⟩)=some (.ok .normal [(1,.ptr 0 0 0),(3,.int .i64 (zF n m.fs[i])),(5,.int .i64 ((i + 1:Nat):Int))] ⟨[.row 1 [m.F] 2],0,[]⟩)):=by
 have hc:=(hs.1 _ (List.getElem_mem h)).1
 have hlt:decide ((i:Int) < (m.fs.length:Int))=true:=by simp [h]
 have hw:=B3 (i:=i) (by have:=hs.2.1; simp only [bigN] at this; omega)
 have hi:=D2 (F:=Cod.F) h
 generalize m.fs[i]=c at hc hi
 obtain ⟨fr',h1,h2,h3,h4⟩:=Em (P:=⟨A0,T,A5⟩) (c:=Py) (f:=CX) (l:=c.blocks) (S:=fun j n=>[(1,.ptr 0 0 0),(3,.int .i64 n),(5,.int .i64 (i:Int)),(6,.ptr 1 0 0),(7,.int .i64 (j:Int))]) (K:=fun _=>⟨[.row 1 [m.F] 2,.row 1 [c.F] 5],0,[]⟩) (x:=4) (Q:=fun n fr'=>lookP fr' 1=.ptr 0 0 0∧lookP fr' 3=.int .i64 n∧lookP fr' 5=.int .i64 (i:Int)) (fun k a h=>DD h hc) (fun a=>DF) (N9 (N9 n c.regs.length) c.blocks.length)
 have h1:evP ⟨A0,T,A5⟩ (.code (.loop Py) [(1,.ptr 0 0 0),(3,.int .i64 (N9 (N9 n c.regs.length) c.blocks.length)),(5,.int .i64 (i:Int)),(6,.ptr 1 0 0),(7,.int .i64 0)] ⟨[.row 1 [m.F] 2,.row 1 [c.F] 5],0,[]⟩)=_:=h1
 have hn:zF n c=c.blocks.foldl CX (N9 (N9 n c.regs.length) c.blocks.length):=rfl
 rw [← hn] at h3
 unfold Ij
 unfold N9 at h1
 simp only [Modl.F,Cod.F] at hi h1 ⊢
 constructor
 . intro hq
   simp -implicitDefEqProofs only [hlt,hi,h1,h2,h3,h4,eq_true hq,List.length_map,XP,seval]
 . intro hq
   simp -implicitDefEqProofs only [hlt,hi,h1,h2,h3,h4,hw,eq_false hq,List.length_map,XP,seval]
theorem DG:∃ fr',evP ⟨A0,T,A5⟩ (.code Ij [(1,.ptr 0 0 0),(3,.int .i64 n),(5,.int .i64 (m.fs.length:Int))] ⟨[.row 1 [m.F] 2],0,[]⟩)=some (.ok (.exit 2) fr' ⟨[.row 1 [m.F] 2],0,[]⟩)∧True:=by
 unfold Ij
 have hlt:decide ((m.fs.length:Int) < (m.fs.length:Int))=false:=by simp
 simp only [Modl.F]
 simp -implicitDefEqProofs only [hlt,List.length_map,XP,seval]
 exact ⟨_,rfl⟩
set_option maxHeartbeats 4000000 in
theorem Mz  {m:Modl} (hk:m.ok):AM.Comes ⟨A0,T,A5⟩ 39 [m.F] [.bool (Bg m)]:=by
 refine ⟨[.bool (Bg m)],⟨[],0,[]⟩,?_,E2 rfl List.nodup_nil rfl rfl rfl⟩
 rw [A9 (c:=ID) (nt:=96) (rs:=[.tmp 2]) rfl (by simp)]; unfold ID
 unfold K0
 have hgl:m.gs.length≤bigN:=by have:=hk.2.2; simp only [bigN] at this ⊢; omega
 have l1:=Qh (P:=⟨A0,T,A5⟩) (c:=Fv) (p:=fun g:Glo=>!decide (1024 < g.size)) (l:=m.gs) (S:=fun i=>[(1,.ptr 0 0 0),(3,.int .i64 0),(4,.int .i64 (i:Int))]) (K:=⟨[.row 1 [m.F] 2],0,[]⟩) (x:=0) (Q:=fun fr'=>lookP fr' 1=.ptr 0 0 0∧lookP fr' 3=.int .i64 0) (R:=fun fr' K'=>fr'=[(2,.bool true)]∧K'=⟨[],0,[]⟩)
  (fun i h hp=>CY h hgl hp) (fun i h hp=>⟨_,_,CZ h hp,rfl,rfl⟩) DA
 have l2:=dO (P:=⟨A0,T,A5⟩) (c:=Ij) (f:=IJ) (l:=m.fs) (S:=fun i n=>[(1,.ptr 0 0 0),(3,.int .i64 n),(5,.int .i64 (i:Int))]) (K:=fun _=>⟨[.row 1 [m.F] 2],0,[]⟩) (x:=2) (Q:=fun n fr'=>True) (R:=fun r fr' K'=>fr'=[(2,.bool true)]∧K'=⟨[],0,[]⟩)
  (fun i a a' h hp=>by
    unfold IJ at hp
    split at hp
    . cases hp
    . rename_i hq
      cases hp; exact (b6c h hk).2 hq) (fun i a r h hp=>by
    unfold IJ at hp
    split at hp
    . rename_i hq
      exact ⟨_,_,(b6c h hk).1 hq,rfl,rfl⟩
    . cases hp) (fun a=>DG) 0
 have q20:decide ((20:Int) < (m.gs.length:Int))=decide (20 < m.gs.length):=decide_eq_decide.2 (by omega)
 have q12:decide ((12:Int) < (m.fs.length:Int))=decide (12 < m.fs.length):=decide_eq_decide.2 (by omega)
 unfold Bg
 simp only [Modl.F] at l1 l2 ⊢
 by_cases h20:20 < m.gs.length
 . simp -implicitDefEqProofs only [q20,q12,eq_true h20,List.length_map,XP,seval]
 by_cases h12:12 < m.fs.length
 . simp -implicitDefEqProofs only [q20,q12,eq_false h20,eq_true h12,List.length_map,XP,seval]
 rcases l1 with ⟨q,fr',h1,h2,h3⟩ | ⟨q,fr',K',h1,rfl,rfl⟩
 . have h1:evP ⟨A0,T,A5⟩ (.code (.loop Fv) [(1,.ptr 0 0 0),(3,.int .i64 0),(4,.int .i64 0)] _)=_:=h1
   rcases l2 with ⟨a',q2,fr2,h4,_⟩ | ⟨r,q2,fr2,K2,h4,rfl,rfl⟩
   . have h4:evP ⟨A0,T,A5⟩ (.code (.loop Ij) [(1,.ptr 0 0 0),(3,.int .i64 0),(5,.int .i64 0)] _)=_:=h4
     simp -implicitDefEqProofs only [q20,q12,eq_false h20,eq_false h12,h1,h2,h3,h4,q,q2,Sum.isRight_inl,List.length_map,XP,seval]
   . have h4:evP ⟨A0,T,A5⟩ (.code (.loop Ij) [(1,.ptr 0 0 0),(3,.int .i64 0),(5,.int .i64 0)] _)=_:=h4
     simp -implicitDefEqProofs only [q20,q12,eq_false h20,eq_false h12,h1,h2,h3,h4,q,q2,Sum.isRight_inr,List.length_map,XP,seval]
 . have h1:evP ⟨A0,T,A5⟩ (.code (.loop Fv) [(1,.ptr 0 0 0),(3,.int .i64 0),(4,.int .i64 0)] _)=_:=h1
   simp -implicitDefEqProofs only [q20,q12,eq_false h20,eq_false h12,h1,q,List.length_map,XP,seval]
def o6:=Cc (fun p:(Modl)=>[p.F]) (fun p=>[.bool (Bg p)]) (fun p=>p.ok)
theorem dP (hlaw06_Big:T 39=some o6) {m:Modl} {K:PK} (hk:m.ok):evP ⟨A0,T,A5⟩ (.call 39 [m.F] K)=some (.val (openTs K.os.length [.bool (Bg m)]).1 ⟨K.os ++ (openTs K.os.length [.bool (Bg m)]).2,K.ext,K.tch⟩):=E1 hlaw06_Big (by simp -implicitDefEqProofs only [VV,XP,seval]) (E5 (a:=fun p:(Modl)=>[p.F]) (r:=fun p=>[.bool (Bg p)]) (fun x y e=>by simp only [VJ] at e; simp only [e]) (m) hk) (by simp -implicitDefEqProofs only [VN,XP,seval])
theorem Xb  (hP:PEok ⟨A0,T,A5⟩):TC A0 39 o6:=G4 hP fun p h=>Mz  h
end
end Go.Proofs.AmEnv
set_option maxRecDepth 100000
namespace Go.Proofs.AmEnv
open Go Go.AM
variable {T:Nat->Option (List AV->Option (List AV))}
section
variable {m:Modl} {c:Cod} {i j k:Nat} {n:Int}
theorem xK (hi:i < m.fs.length) (hj:j < m.fs[i].blocks.length) (hs:m.fs[i].ok):evP ⟨A0,T,A5⟩ (.code Pv [(1,.ptr 0 0 0),(3,.int .i64 n),(4,.int .i64 (i:Int)),(5,.int .i64 (j:Int))] ⟨[.row 1 [m.F] 2],0,[]⟩)=some (.ok .normal [(1,.ptr 0 0 0),(3,.int .i64 (N9 n m.fs[i].blocks[j].code.length)),(4,.int .i64 (i:Int)),(5,.int .i64 ((j + 1:Nat):Int))] ⟨[.row 1 [m.F] 2],0,[]⟩):=by
 unfold Pv N9
 have hlt:decide ((j:Int) < (m.fs[i].blocks.length:Int))=true:=by simp [hj]
 have hw:=B3 (i:=j) (by have:=hs.2.2; simp only [bigN] at this; omega)
 have h1:=D2 (F:=Cod.F) hi
 have h2:=D2 (F:=Blk.F) hj
 simp only [Blk.F,Modl.F,Cod.F] at h1 h2 ⊢
 simp -implicitDefEqProofs only [hlt,h1,h2,hw,List.length_map,XP,seval]
theorem xL (hi:i < m.fs.length):∃ fr',evP ⟨A0,T,A5⟩ (.code Pv [(1,.ptr 0 0 0),(3,.int .i64 n),(4,.int .i64 (i:Int)),(5,.int .i64 (m.fs[i].blocks.length:Int))] ⟨[.row 1 [m.F] 2],0,[]⟩)=some (.ok (.exit 2) fr' ⟨[.row 1 [m.F] 2],0,[]⟩)∧(lookP fr' 1=.ptr 0 0 0∧lookP fr' 3=.int .i64 n∧lookP fr' 4=.int .i64 (i:Int)):=by
 unfold Pv
 have hlt:decide ((m.fs[i].blocks.length:Int) < (m.fs[i].blocks.length:Int))=false:=by simp
 have h1:=D2 (F:=Cod.F) hi
 simp only [Modl.F,Cod.F] at h1 ⊢
 simp -implicitDefEqProofs only [hlt,h1,List.length_map,XP,seval]
 exact ⟨_,rfl,rfl,rfl,rfl⟩
theorem xM (hi:i < m.fs.length) (hs:m.ok):evP ⟨A0,T,A5⟩ (.code Pw [(1,.ptr 0 0 0),(3,.int .i64 n),(4,.int .i64 (i:Int))] ⟨[.row 1 [m.F] 2],0,[]⟩)=some (.ok .normal [(1,.ptr 0 0 0),(3,.int .i64 (nJ n m.fs[i])),(4,.int .i64 ((i + 1:Nat):Int))] ⟨[.row 1 [m.F] 2],0,[]⟩):=by
 have hc:=(hs.1 _ (List.getElem_mem hi)).1
 have hlt:decide ((i:Int) < (m.fs.length:Int))=true:=by simp [hi]
 have hw:=B3 (i:=i) (by have:=hs.2.1; simp only [bigN] at this; omega)
 have hg:=D2 (F:=Cod.F) hi
 obtain ⟨fr',h1,h2,h3,h4⟩:=Em (P:=⟨A0,T,A5⟩) (c:=Pv) (f:=fun a (b:Blk)=>N9 a b.code.length) (l:=m.fs[i].blocks) (S:=fun j n=>[(1,.ptr 0 0 0),(3,.int .i64 n),(4,.int .i64 (i:Int)),(5,.int .i64 (j:Int))]) (K:=fun _=>⟨[.row 1 [m.F] 2],0,[]⟩) (x:=2) (Q:=fun n fr'=>lookP fr' 1=.ptr 0 0 0∧lookP fr' 3=.int .i64 n∧lookP fr' 4=.int .i64 (i:Int)) (fun k a h=>xK hi h hc) (fun a=>xL hi) (N9 (N9 n m.fs[i].regs.length) m.fs[i].blocks.length)
 have h1:evP ⟨A0,T,A5⟩ (.code (.loop Pv) [(1,.ptr 0 0 0),(3,.int .i64 (N9 (N9 n m.fs[i].regs.length) m.fs[i].blocks.length)),(4,.int .i64 (i:Int)),(5,.int .i64 0)] ⟨[.row 1 [m.F] 2],0,[]⟩)=_:=h1
 have hn:nJ n m.fs[i]=m.fs[i].blocks.foldl (fun a (b:Blk)=>N9 a b.code.length) (N9 (N9 n m.fs[i].regs.length) m.fs[i].blocks.length):=rfl
 rw [← hn] at h3
 unfold Pw
 unfold N9 at h1
 simp only [Modl.F,Cod.F] at hg h1 ⊢
 simp -implicitDefEqProofs only [hlt,hg,h1,h2,h3,h4,hw,List.length_map,XP,seval]
theorem xN:∃ fr',evP ⟨A0,T,A5⟩ (.code Pw [(1,.ptr 0 0 0),(3,.int .i64 n),(4,.int .i64 (m.fs.length:Int))] ⟨[.row 1 [m.F] 2],0,[]⟩)=some (.ok (.exit 0) fr' ⟨[.row 1 [m.F] 2],0,[]⟩)∧(lookP fr' 1=.ptr 0 0 0∧lookP fr' 3=.int .i64 n):=by
 unfold Pw
 have hlt:decide ((m.fs.length:Int) < (m.fs.length:Int))=false:=by simp
 simp only [Modl.F]
 simp -implicitDefEqProofs only [hlt,List.length_map,XP,seval]
 exact ⟨_,rfl,rfl,rfl⟩
set_option maxHeartbeats 4000000 in
theorem Na (hlaw06_Big:T 39=some o6) (hir_Check:T 40=some Af) {m:Modl} (hk:m.ok):AM.Comes ⟨A0,T,A5⟩ 14 [m.F] [.bool (o5 m)]:=by
 refine ⟨[.bool (o5 m)],⟨[],0,[]⟩,?_,E2 rfl List.nodup_nil rfl rfl rfl⟩
 rw [A9 (c:=HZ) (nt:=71) (rs:=[.tmp 2]) rfl (by simp)]; unfold HZ
 unfold K0
 have tb:=fun K=>dP (K:=K) hlaw06_Big hk
 have tc:=fun K=>jV (K:=K) hir_Check hk
 obtain ⟨fr',h1,h2,h3⟩:=Em (P:=⟨A0,T,A5⟩) (c:=Pw) (f:=nJ) (l:=m.fs) (S:=fun i n=>[(1,.ptr 0 0 0),(3,.int .i64 n),(4,.int .i64 (i:Int))]) (K:=fun _=>⟨[.row 1 [m.F] 2],0,[]⟩) (x:=0) (Q:=fun n fr'=>lookP fr' 1=.ptr 0 0 0∧lookP fr' 3=.int .i64 n) (fun k a h=>xM h hk) (fun a=>xN) 0
 have h1:evP ⟨A0,T,A5⟩ (.code (.loop Pw) [(1,.ptr 0 0 0),(3,.int .i64 0),(4,.int .i64 0)] ⟨[.row 1 [m.F] 2],0,[]⟩)=_:=h1
 have q12:decide ((12:Int) < (m.fs.length:Int))=decide (12 < m.fs.length):=decide_eq_decide.2 (by omega)
 unfold o5
 simp only [Modl.F] at tb tc h1 ⊢
 by_cases h5:1000 < m.fs.foldl nJ 0
 . simp -implicitDefEqProofs only [h1,h2,h3,q12,eq_true h5,List.length_map,XP,seval]
 by_cases h12:12 < m.fs.length
 . simp -implicitDefEqProofs only [h1,h2,h3,q12,eq_false h5,eq_true h12,List.length_map,XP,seval]
 cases hb:Bg m with
 | true=>simp -implicitDefEqProofs only [h1,h2,h3,q12,eq_false h5,eq_false h12,tb,hb,List.length_map,XP,seval]
 | false=>simp -implicitDefEqProofs only [h1,h2,h3,q12,eq_false h5,eq_false h12,tb,hb,tc,List.length_map,XP,seval]
def Bh:=Cc (fun p:(Modl)=>[p.F]) (fun p=>[.bool (o5 p)]) (fun p=>p.ok)
theorem dQ (hlaw15_Big:T 14=some Bh) {m:Modl} {K:PK} (hk:m.ok):evP ⟨A0,T,A5⟩ (.call 14 [m.F] K)=some (.val (openTs K.os.length [.bool (o5 m)]).1 ⟨K.os ++ (openTs K.os.length [.bool (o5 m)]).2,K.ext,K.tch⟩):=E1 hlaw15_Big (by simp -implicitDefEqProofs only [VV,XP,seval]) (E5 (a:=fun p:(Modl)=>[p.F]) (r:=fun p=>[.bool (o5 p)]) (fun x y e=>by simp only [VJ] at e; simp only [e]) (m) hk) (by simp -implicitDefEqProofs only [VN,XP,seval])
theorem Xc (hlaw06_Big:T 39=some o6) (hir_Check:T 40=some Af) (hP:PEok ⟨A0,T,A5⟩):TC A0 14 Bh:=G4 hP fun p h=>Na hlaw06_Big hir_Check h
end
end Go.Proofs.AmEnv
set_option maxRecDepth 100000
namespace Go.Proofs.AmEnv
open Go Go.AM
theorem En {i:Nat} (h:i < 9223372036854775807):IntKind.i64.wrap ((i:Int) - 1)=(i:Int) - 1:=by
 rw [IntKind.wrap_i64]; omega
section
variable {T:Nat->Option (List AV->Option (List AV))} {c:RC} {b:Nat} {K:PK}
theorem DH {l:List Blk} {k m:Nat} {fr fr1:PF} {K1:PK} {f:Bool} (h1:lookP fr 1=.ptr b 0 0) (h3:lookP fr 3=.int .i64 (k:Int)) (hk:k < l.length) (hb:rowOf K.os 6 b=some (1,[.fsl (l.map Blk.F) f],1)) (hs:l.length * 56≤bigN)
 (hr:evP ⟨A0,T,A5⟩ (.round c [.int .i64 (k:Int),Blk.F l[k]] ⟨K.os,K.os.length,[]⟩)=some (.ok .normal fr1 K1)) :
 ∃ fr',evP ⟨A0,T,A5⟩ (.iter c (m+1+1+1+1+1+1+1+1+1) Gr none fr K)=some (.itr .normal none fr' ⟨K1.os,K.ext,K1.tch ++ K.tch⟩)∧lookP fr' 1=.ptr b 0 0∧lookP fr' 3=.int .i64 ((k:Int) - 1):=by
 unfold Gr
 have hg:=D2 (F:=Blk.F) hk
 have hge:decide ((0:Int)≤(k:Int))=true:=by simp
 have hw:=En (i:=k) (by simp only [bigN] at hs; omega)
 simp only [Blk.F] at hg hr
 simp -implicitDefEqProofs only [Li,Vf,Fb,Fc,Fd,Fe,Vh,Lh,Ao,Ap,Fi,Ff,Fg,Fh,Lj,Vi,Ll,Vl,Vk,Aq,Vj,h1,h3,hb,hg,hge,hw,hr,wentOn,La,XP,seval]
 exact ⟨_,rfl,by simp -implicitDefEqProofs only [h1,XP,seval],by simp -implicitDefEqProofs only [h3,XP,seval]⟩
theorem DI {m:Nat} {fr:PF} (h3:lookP fr 3=.int .i64 (-1)):∃ fr',evP ⟨A0,T,A5⟩ (.iter c (m+1+1+1+1+1+1+1+1+1) Gr none fr K)=some (.itr (.exit 0) none fr' K):=by
 unfold Gr
 have hge:decide ((0:Int)≤(-1:Int))=false:=rfl
 simp -implicitDefEqProofs only [Li,Vf,Fb,Fc,Fd,Fe,Vh,Lh,Ao,Ap,Fi,Ff,Fg,Fh,Lj,Vi,Ll,Vl,Vk,Aq,Vj,h3,hge,XP,seval]
 exact ⟨_,rfl⟩
theorem vP {l:List Blk} {f:Bool} {Inv:Nat->PK->Prop} (hs:l.length * 56≤bigN) (hb:∀ i K,i≤l.length->Inv i K->rowOf K.os 6 b=some (1,[.fsl (l.map Blk.F) f],1))
 (hr:∀ i (hi:i < l.length) K,Inv (i + 1) K->∃ fr1 K1,evP ⟨A0,T,A5⟩ (.round c [.int .i64 (i:Int),Blk.F l[i]] ⟨K.os,K.os.length,[]⟩)=some (.ok .normal fr1 K1)∧Inv i ⟨K1.os,K.ext,K1.tch ++ K.tch⟩) :
 ∀ (n m:Nat) (fr:PF) (K:PK),n≤l.length->n + 30≤m->Inv n K->lookP fr 1=.ptr b 0 0->lookP fr 3=.int .i64 ((n:Int) - 1)->∃ fr' K',evP ⟨A0,T,A5⟩ (.iter c m (.loop Gr) none fr K)=some (.itr (.exit 0) none fr' K')∧Inv 0 K'
 | 0,m,fr,K,_,hm,hI,h1,h3=>by
  obtain ⟨q,rfl⟩:∃ q,m=q+1+1+1+1+1+1+1+1+1+1:=⟨m - 10,by omega⟩
  obtain ⟨fr',h⟩:=DI (c:=c) (K:=K) (T:=T) (m:=q) h3
  exact ⟨fr',K,by rw [Yb,h]; rfl,hI⟩
 | n + 1,m,fr,K,hn,hm,hI,h1,h3=>by
  obtain ⟨q,rfl⟩:∃ q,m=q+1+1+1+1+1+1+1+1+1+1:=⟨m - 10,by omega⟩
  obtain ⟨fr1,K1,h4,h5⟩:=hr n hn K hI
  obtain ⟨fr2,h6,h7,h8⟩:=DH (c:=c) (m:=q) h1 (by rw [h3]; congr 1; omega) hn (hb _ K (by omega) hI) hs h4
  obtain ⟨fr',K',h9,h10⟩:=vP hs hb hr n (q+1+1+1+1+1+1+1+1+1) fr2 _ (by omega) (by omega) h5 h7 h8
  exact ⟨fr',K',by rw [Yb,h6]; exact h9,h10⟩
set_option maxHeartbeats 1000000 in
theorem DJ {l:List Blk} {f:Bool} {Inv:Nat->PK->Prop} {g:Operand} {ps:List Tmp} {ca cb:PC} {fr:PF} (hs:l.length * 56≤bigN) (hl:l.length≤60000) (hg:opvP A0 g fr=.fn (.func 168) [] [.ptr b 0 0]) (hb:∀ i K,i≤l.length->Inv i K->rowOf K.os 6 b=some (1,[.fsl (l.map Blk.F) f],1))
 (hr:∀ i (hi:i < l.length) K,Inv (i + 1) K->∃ fr1 K1,evP ⟨A0,T,A5⟩ (.round ⟨ps,ca,cb,fr⟩ [.int .i64 (i:Int),Blk.F l[i]] ⟨K.os,K.os.length,[]⟩)=some (.ok .normal fr1 K1)∧Inv i ⟨K1.os,K.ext,K1.tch ++ K.tch⟩) (hI:Inv l.length ⟨K.os,K.os.length,[]⟩) :
 ∃ K',evP ⟨A0,T,A5⟩ (.code (.rfn g ps ca cb) fr K)=some (.ok .normal fr ⟨K'.os,K.ext,K'.tch ++ K.tch⟩)∧Inv 0 K':=by
 obtain ⟨fr',K',h9,h10⟩:=vP (c:=⟨ps,ca,cb,fr⟩) hs hb hr l.length (itMax - 2) [(3,.int .i64 ((l.length:Int) - 1)),(6,.int .i64 ((l.length:Int) - 1)),(5,.int .i64 (l.length:Int)),(4,.fsl (l.map Blk.F) f),(0,.any),(1,.ptr b 0 0)] _ (Nat.le_refl _) (by simp only [itMax]; omega) hI (by simp -implicitDefEqProofs only [XP,seval]) (by simp -implicitDefEqProofs only [XP,seval])
 refine ⟨K',?_,h10⟩
 rw [wK (x:=AR) (nt:=19) (rs:=[]) (i:=false) hg rfl (by simp)]
 have hb0:=hb _ _ (Nat.le_refl _) hI
 have hw:=En (i:=l.length) (by simp only [bigN] at hs; omega)
 rw [show itMax=65534 + 1 + 1 from rfl]
 have h9:evP ⟨A0,T,A5⟩ (.iter ⟨ps,ca,cb,fr⟩ 65534 (.loop Gr) none [(3,.int .i64 ((l.length:Int) - 1)),(6,.int .i64 ((l.length:Int) - 1)),(5,.int .i64 (l.length:Int)),(4,.fsl (l.map Blk.F) f),(0,.any),(1,.ptr b 0 0)] ⟨K.os,K.os.length,[]⟩)=_:=h9
 have hb0:rowOf K.os 6 b=some (1,[.fsl (l.map Blk.F) f],1):=hb0
 simp -implicitDefEqProofs only [Li,Vf,Fb,Fc,Fd,Fe,Vh,Lh,Ao,Ap,Fi,Ff,Fg,Fh,Lj,Vi,Ll,Vl,Vk,Aq,Vj,hb0,hw,h9,List.length_map,pV,kR,XP,seval]
theorem DK {l:List Ins} {k m:Nat} {fr fr1:PF} {K1:PK} {f:Bool} (h1:lookP fr 1=.ptr b 0 0) (h3:lookP fr 3=.int .i64 (k:Int)) (hk:k < l.length) (hb:rowOf K.os 6 b=some (1,[.fsl (l.map Ins.F) f],1)) (hs:l.length * 88≤bigN)
 (hr:evP ⟨A0,T,A5⟩ (.round c [.int .i64 (k:Int),Ins.F l[k]] ⟨K.os,K.os.length,[]⟩)=some (.ok .normal fr1 K1)) :
 ∃ fr',evP ⟨A0,T,A5⟩ (.iter c (m+1+1+1+1+1+1+1+1+1) Gs none fr K)=some (.itr .normal none fr' ⟨K1.os,K.ext,K1.tch ++ K.tch⟩)∧lookP fr' 1=.ptr b 0 0∧lookP fr' 3=.int .i64 ((k:Int) - 1):=by
 unfold Gs
 have hg:=D2 (F:=Ins.F) hk
 have hge:decide ((0:Int)≤(k:Int))=true:=by simp
 have hw:=En (i:=k) (by simp only [bigN] at hs; omega)
 simp only [Ins.F] at hg hr
 simp -implicitDefEqProofs only [Li,Vf,Fb,Fc,Fd,Fe,Vh,Lh,Ao,Ap,Fi,Ff,Fg,Fh,Lj,Vi,Ll,Vl,Vk,Aq,Vj,h1,h3,hb,hg,hge,hw,hr,wentOn,La,XP,seval]
 exact ⟨_,rfl,by simp -implicitDefEqProofs only [h1,XP,seval],by simp -implicitDefEqProofs only [h3,XP,seval]⟩
theorem DL {m:Nat} {fr:PF} (h3:lookP fr 3=.int .i64 (-1)):∃ fr',evP ⟨A0,T,A5⟩ (.iter c (m+1+1+1+1+1+1+1+1+1) Gs none fr K)=some (.itr (.exit 0) none fr' K):=by
 unfold Gs
 have hge:decide ((0:Int)≤(-1:Int))=false:=rfl
 simp -implicitDefEqProofs only [Li,Vf,Fb,Fc,Fd,Fe,Vh,Lh,Ao,Ap,Fi,Ff,Fg,Fh,Lj,Vi,Ll,Vl,Vk,Aq,Vj,h3,hge,XP,seval]
 exact ⟨_,rfl⟩
theorem vQ {l:List Ins} {f:Bool} {Inv:Nat->PK->Prop} (hs:l.length * 88≤bigN) (hb:∀ i K,i≤l.length->Inv i K->rowOf K.os 6 b=some (1,[.fsl (l.map Ins.F) f],1))
 (hr:∀ i (hi:i < l.length) K,Inv (i + 1) K->∃ fr1 K1,evP ⟨A0,T,A5⟩ (.round c [.int .i64 (i:Int),Ins.F l[i]] ⟨K.os,K.os.length,[]⟩)=some (.ok .normal fr1 K1)∧Inv i ⟨K1.os,K.ext,K1.tch ++ K.tch⟩) :
 ∀ (n m:Nat) (fr:PF) (K:PK),n≤l.length->n + 30≤m->Inv n K->lookP fr 1=.ptr b 0 0->lookP fr 3=.int .i64 ((n:Int) - 1)->∃ fr' K',evP ⟨A0,T,A5⟩ (.iter c m (.loop Gs) none fr K)=some (.itr (.exit 0) none fr' K')∧Inv 0 K'
 | 0,m,fr,K,_,hm,hI,h1,h3=>by
  obtain ⟨q,rfl⟩:∃ q,m=q+1+1+1+1+1+1+1+1+1+1:=⟨m - 10,by omega⟩
  obtain ⟨fr',h⟩:=DL (c:=c) (K:=K) (T:=T) (m:=q) h3
  exact ⟨fr',K,by rw [Yb,h]; rfl,hI⟩
 | n + 1,m,fr,K,hn,hm,hI,h1,h3=>by
  obtain ⟨q,rfl⟩:∃ q,m=q+1+1+1+1+1+1+1+1+1+1:=⟨m - 10,by omega⟩
  obtain ⟨fr1,K1,h4,h5⟩:=hr n hn K hI
  obtain ⟨fr2,h6,h7,h8⟩:=DK (c:=c) (m:=q) h1 (by rw [h3]; congr 1; omega) hn (hb _ K (by omega) hI) hs h4
  obtain ⟨fr',K',h9,h10⟩:=vQ hs hb hr n (q+1+1+1+1+1+1+1+1+1) fr2 _ (by omega) (by omega) h5 h7 h8
  exact ⟨fr',K',by rw [Yb,h6]; exact h9,h10⟩
set_option maxHeartbeats 1000000 in
theorem nK {l:List Ins} {f:Bool} {Inv:Nat->PK->Prop} {g:Operand} {ps:List Tmp} {ca cb:PC} {fr:PF} (hs:l.length * 88≤bigN) (hl:l.length≤60000) (hg:opvP A0 g fr=.fn (.func 188) [] [.ptr b 0 0]) (hb:∀ i K,i≤l.length->Inv i K->rowOf K.os 6 b=some (1,[.fsl (l.map Ins.F) f],1))
 (hr:∀ i (hi:i < l.length) K,Inv (i + 1) K->∃ fr1 K1,evP ⟨A0,T,A5⟩ (.round ⟨ps,ca,cb,fr⟩ [.int .i64 (i:Int),Ins.F l[i]] ⟨K.os,K.os.length,[]⟩)=some (.ok .normal fr1 K1)∧Inv i ⟨K1.os,K.ext,K1.tch ++ K.tch⟩) (hI:Inv l.length ⟨K.os,K.os.length,[]⟩) :
 ∃ K',evP ⟨A0,T,A5⟩ (.code (.rfn g ps ca cb) fr K)=some (.ok .normal fr ⟨K'.os,K.ext,K'.tch ++ K.tch⟩)∧Inv 0 K':=by
 obtain ⟨fr',K',h9,h10⟩:=vQ (c:=⟨ps,ca,cb,fr⟩) hs hb hr l.length (itMax - 2) [(3,.int .i64 ((l.length:Int) - 1)),(6,.int .i64 ((l.length:Int) - 1)),(5,.int .i64 (l.length:Int)),(4,.fsl (l.map Ins.F) f),(0,.any),(1,.ptr b 0 0)] _ (Nat.le_refl _) (by simp only [itMax]; omega) hI (by simp -implicitDefEqProofs only [XP,seval]) (by simp -implicitDefEqProofs only [XP,seval])
 refine ⟨K',?_,h10⟩
 rw [wK (x:=BC) (nt:=19) (rs:=[]) (i:=false) hg rfl (by simp)]
 have hb0:=hb _ _ (Nat.le_refl _) hI
 have hw:=En (i:=l.length) (by simp only [bigN] at hs; omega)
 rw [show itMax=65534 + 1 + 1 from rfl]
 have h9:evP ⟨A0,T,A5⟩ (.iter ⟨ps,ca,cb,fr⟩ 65534 (.loop Gs) none [(3,.int .i64 ((l.length:Int) - 1)),(6,.int .i64 ((l.length:Int) - 1)),(5,.int .i64 (l.length:Int)),(4,.fsl (l.map Ins.F) f),(0,.any),(1,.ptr b 0 0)] ⟨K.os,K.os.length,[]⟩)=_:=h9
 have hb0:rowOf K.os 6 b=some (1,[.fsl (l.map Ins.F) f],1):=hb0
 simp -implicitDefEqProofs only [Li,Vf,Fb,Fc,Fd,Fe,Vh,Lh,Ao,Ap,Fi,Ff,Fg,Fh,Lj,Vi,Ll,Vl,Vk,Aq,Vj,hb0,hw,h9,List.length_map,pV,kR,XP,seval]
end
end Go.Proofs.AmEnv
set_option maxRecDepth 100000
namespace Go.Proofs.AmEnv
open Go Go.AM
variable {T:Nat->Option (List AV->Option (List AV))}
theorem Eo {l:List Bool} {i:Nat} (h:i < l.length):(bools l)[i]?=some (.bool l[i]):=by simp [bools,h]
section
variable {l:List Bool}
theorem aL:AM.Comes ⟨A0,T,A5⟩ 169 [.nilsl] [ownd 0 1 (bools [])]:=by
 refine ⟨[.nilsl],⟨[],0,[]⟩,?_,E9 (.inl ⟨rfl,rfl,rfl⟩)⟩
 rw [A9 (c:=aA) (nt:=8) (rs:=[.tmp 2]) rfl (by simp)]
 unfold aA K0
 simp -implicitDefEqProofs only [fU (t:=54) rfl,XP,seval]
theorem aM:AM.Comes ⟨A0,T,A5⟩ 169 [.fsl [] false] [ownd 0 1 (bools [])]:=by
 refine ⟨[.msl 0 0 0 1],⟨[.row 0 [] 1],0,[]⟩,?_,E9 (.inr ⟨rfl,rfl⟩)⟩
 rw [A9 (c:=aA) (nt:=8) (rs:=[.tmp 2]) rfl (by simp)]
 unfold aA K0
 simp -implicitDefEqProofs only [fV (t:=54) rfl,nA,XP,seval]
theorem aN:∀ l:List Bool,I9 1 (bools l)=true
 | []=>rfl
 | x :: l=>aN l
theorem Xd {x:Bool} {l:List Bool} (hs:(x :: l).length * 1≤bigN):AM.Comes ⟨A0,T,A5⟩ 169 [fslN (bools (x :: l))] [ownd 0 1 (bools (x :: l))]:=by
 refine ⟨[.msl 0 0 (bools (x :: l)).length 1],⟨[.row 0 (bools (x :: l)) 1],0,[]⟩,?_,E9 (.inr ⟨rfl,rfl⟩)⟩
 rw [A9 (c:=aA) (nt:=8) (rs:=[.tmp 2]) rfl (by simp)]
 unfold aA K0
 have h1:∀ K:PK,W7 A0 .eql 54 (fslN (bools (x :: l))) .nilsl K=.val (.bool false) K:=fun K=>aF (t:=54) rfl
 have h2:=aN (x :: l)
 have h3:(bools (x :: l)).isEmpty=false:=rfl
 have h4:(bools (x :: l)).length * 1≤140737488355328:=by simpa [bigN] using hs
 generalize bools (x :: l)=es at h1 h2 h3 h4
 simp -implicitDefEqProofs only [h1,h2,h3,h4,XP,seval]
def C0:=Cc (fun l:List Bool=>[fslN (bools l)]) (fun l=>[ownd 0 1 (bools l)]) (fun l=>l.length * 1≤bigN)
theorem o7 {l:List Bool} (h:l.length * 1≤bigN):C0 [fslN (bools l)]=some [ownd 0 1 (bools l)]:=E5 (a:=fun l:List Bool=>[fslN (bools l)]) (fun x y e=>by injection e with e _; rw [bools_iff.1 (fslN_inj e)]) l h
theorem dR {P:PE} (hP:PEok P) (he:P=⟨A0,T,A5⟩):TC P.E 169 C0:=by
 subst he
 refine pQ hP (fun a args rs hg a' ha=>?_) (by unfold C0 Cc; rw [dif_neg]; rintro ⟨x,_,h⟩; cases h)
 obtain ⟨l,h1,h2,rfl⟩:=Yc hg
 injection h2 with h2 h3
 subst h2 h3
 cases l with
 | nil =>
  rcases List.mem_cons.1 ha with rfl | ha
  . exact aL
  . obtain rfl:=List.mem_singleton.1 ha; exact aM
 | cons x l =>
  obtain rfl:=List.mem_singleton.1 (show a'∈[fslN (bools (x :: l))] from ha)
  exact Xd h1
end
section
variable {l m:List Bool} {f g:Bool} {i:Nat}
theorem DM (hl:i < l.length) (hm:i < m.length) (he:l[i]=m[i]) (hs:l.length≤140737488355328) :
 evP ⟨A0,T,A5⟩ (.code De [(0,.fsl (bools l) f),(1,.fsl (bools m) g),(5,.int .i64 i)] ⟨[],0,[]⟩)=some (.ok .normal [(0,.fsl (bools l) f),(1,.fsl (bools m) g),(5,.int .i64 ((i + 1:Nat):Int))] ⟨[],0,[]⟩):=by
 unfold De
 have hlt:decide ((i:Int) < ((bools l).length:Int))=true:=by simp [hl]
 have h1:=Eo hl
 have h2:=Eo hm
 have hw:=B3 (i:=i) (by omega)
 simp -implicitDefEqProofs only [hlt,h1,h2,hw,he,u_not,Ny,beq_self_eq_true,XP,seval]
theorem DN (hl:i < l.length) (hm:i < m.length) (he:¬ l[i]=m[i]) :
 ∃ fr',evP ⟨A0,T,A5⟩ (.code De [(0,.fsl (bools l) f),(1,.fsl (bools m) g),(5,.int .i64 i)] ⟨[],0,[]⟩)=some (.ok .ret fr' ⟨[],0,[]⟩)∧lookP fr' 4=.bool false:=by
 unfold De
 have hlt:decide ((i:Int) < ((bools l).length:Int))=true:=by simp [hl]
 have h1:=Eo hl
 have h2:=Eo hm
 have hd:(l[i] == m[i])=false:=by simp [he]
 simp -implicitDefEqProofs only [hlt,h1,h2,hd,u_not,Ny,beq_self_eq_true,XP,seval]
 exact ⟨_,rfl,rfl⟩
theorem DO (hm:l.length=m.length):∃ fr',evP ⟨A0,T,A5⟩ (.code De [(0,.fsl (bools l) f),(1,.fsl (bools m) g),(5,.int .i64 l.length)] ⟨[],0,[]⟩)=some (.ok (.exit 0) fr' ⟨[],0,[]⟩):=by
 unfold De
 have hlt:decide ((l.length:Int) < ((bools l).length:Int))=false:=by simp
 simp -implicitDefEqProofs only [hlt,XP,seval]
 exact ⟨_,rfl⟩
theorem sbo_l (hs:l.length≤140737488355328) (hm:l.length=m.length):∀ (n i:Nat),l.length=i + n ->
 (l.drop i=m.drop i∧∃ fr',evP ⟨A0,T,A5⟩ (.code (.loop De) [(0,.fsl (bools l) f),(1,.fsl (bools m) g),(5,.int .i64 i)] ⟨[],0,[]⟩)=some (.ok (.exit 0) fr' ⟨[],0,[]⟩)) ∨
 (l.drop i ≠ m.drop i∧∃ fr',evP ⟨A0,T,A5⟩ (.code (.loop De) [(0,.fsl (bools l) f),(1,.fsl (bools m) g),(5,.int .i64 i)] ⟨[],0,[]⟩)=some (.ok .ret fr' ⟨[],0,[]⟩)∧lookP fr' 4=.bool false)
 | 0,i,e=>by
  obtain rfl:i=l.length:=by omega
  obtain ⟨fr',h⟩:=DO (T:=T) (f:=f) (g:=g) hm
  exact .inl ⟨by rw [List.drop_length,hm,List.drop_length],fr',C4 h⟩
 | n + 1,i,e=>by
  have hl:i < l.length:=by omega
  have hl':i < m.length:=by omega
  rw [List.drop_eq_getElem_cons hl,List.drop_eq_getElem_cons hl']
  by_cases he:l[i]=m[i]
  . rw [C2 (DM hl hl' he hs)]
    rcases sbo_l hs hm n (i + 1) (by omega) with ⟨h1,h2⟩ | ⟨h1,h2⟩
    . exact .inl ⟨by rw [he,h1],h2⟩
    . exact .inr ⟨fun h=>h1 (List.cons.inj h).2,h2⟩
  . obtain ⟨fr',h1,h2⟩:=DN (T:=T) (f:=f) (g:=g) hl hl' he
    exact .inr ⟨fun h=>he (List.cons.inj h).1,fr',Ee h1,h2⟩
end
theorem Nb  {l:List Bool} {m:List Bool} (hk:l.length≤140737488355328):AM.Comes ⟨A0,T,A5⟩ 61 [fslN (bools l),fslN (bools m)] [.bool (decide (l=m))]:=by
 refine ⟨[.bool (decide (l=m))],⟨[],0,[]⟩,?_,E2 rfl List.nodup_nil rfl rfl rfl⟩
 rw [A9 (c:=IG) (nt:=27) (rs:=[.tmp 4]) rfl (by simp)]
 unfold IG K0 fslN
 by_cases hm:l.length=m.length
 . have hn:(!decide (((bools l).length:Int)=((bools m).length:Int)))=false:=by simp [hm]
   rcases sbo_l (T:=T) (f:=(bools l).isEmpty) (g:=(bools m).isEmpty) hk hm l.length 0 (by omega) with ⟨h1,fr',h2⟩ | ⟨h1,fr',h2,h3⟩
   . have h1:decide (l=m)=true:=by simpa using h1
     have h2:evP ⟨A0,T,A5⟩ (.code (.loop De) [(0,.fsl (bools l) (bools l).isEmpty),(1,.fsl (bools m) (bools m).isEmpty),(5,.int .i64 0)] ⟨[],0,[]⟩)=_:=h2
     simp -implicitDefEqProofs only [hn,h1,h2,XP,seval]
   . have h1:decide (l=m)=false:=by simpa using h1
     have h2:evP ⟨A0,T,A5⟩ (.code (.loop De) [(0,.fsl (bools l) (bools l).isEmpty),(1,.fsl (bools m) (bools m).isEmpty),(5,.int .i64 0)] ⟨[],0,[]⟩)=_:=h2
     simp -implicitDefEqProofs only [hn,h1,h2,h3,XP,seval]
 . have hn:(!decide (((bools l).length:Int)=((bools m).length:Int)))=true:=by simp [hm]; omega
   have h1:decide (l=m)=false:=by simp; intro h; exact hm (by rw [h])
   simp -implicitDefEqProofs only [hn,h1,XP,seval]
def S8:=Cc (fun p:(List Bool) × (List Bool)=>[fslN (bools p.1),fslN (bools p.2)]) (fun p=>[.bool (decide (p.1=p.2))]) (fun p=>p.1.length≤140737488355328)
theorem Xe  (hP:PEok ⟨A0,T,A5⟩):TC A0 61 S8:=G4 hP fun p h=>Nb  h
end Go.Proofs.AmEnv
set_option maxRecDepth 100000
namespace Go.Proofs.AmEnv
open Go Go.AM
variable {T:Nat->Option (List AV->Option (List AV))}
def uSt (m:List Bool) (i:Nat) (s:List Bool × Bool):List Bool × Bool:=if m.getD i false=true∧s.1.getD i false=false then (s.1.set i true,true) else s
def Ga (m:List Bool):Nat->Nat->List Bool × Bool->List Bool × Bool
 | 0,_,s=>s
 | n + 1,i,s=>Ga m n (i + 1) (uSt m i s)
def unionD (a m:List Bool):List Bool × Bool:=Ga m m.length 0 (a,false)
theorem Xf (m:List Bool) (i:Nat) (s:List Bool × Bool):(uSt m i s).1.length=s.1.length:=by unfold uSt; split <;> simp
theorem Ug (m:List Bool):∀ (n i:Nat) (s:List Bool × Bool),(Ga m n i s).1.length=s.1.length
 | 0,_,_=>rfl
 | n + 1,i,s=>by rw [Ga,Ug,Xf]
theorem unionD_len (a m:List Bool):(unionD a m).1.length=a.length:=Ug m _ _ _
theorem C9 {l:List Bool} {i:Nat} (h:i < l.length):(bools l)[i]?=some (.bool (l.getD i false)):=by simp [bools,h]
section
variable {put:List AV->List PO} {id j:Nat} {m:List Bool} {fr:PF} {ext i:Nat} {tch:List Nat}
theorem KX (L:Lens put id 1) (hm:∀ x,rowOf (put x) 6 j=some (0,bools m,1)) {a:List Bool} {g:Bool} (ha:a.length=m.length) (h0:lookP fr 0=.msl id 0 m.length 1) (h4:lookP fr 4=.bool g) (h7:lookP fr 7=.msl j 0 m.length 1) (h8:lookP fr 8=.int .i64 (m.length:Int)) (h9:lookP fr 9=.int .i64 (i:Int)) (hi:i < m.length) (hs:m.length≤bigN) :
 ∃ fr' tch',evP ⟨A0,T,A5⟩ (.code Kj fr ⟨put (bools a),ext,tch⟩)=some (.ok .normal fr' ⟨put (bools (uSt m i (a,g)).1),ext,tch'⟩)∧lookP fr' 0=.msl id 0 m.length 1∧lookP fr' 4=.bool (uSt m i (a,g)).2∧lookP fr' 7=.msl j 0 m.length 1∧lookP fr' 8=.int .i64 (m.length:Int)∧lookP fr' 9=.int .i64 ((i + 1:Nat):Int):=by
 unfold Kj uSt
 have hlt:decide ((i:Int) < (m.length:Int))=true:=by simp [hi]
 have hw:=B3 (i:=i) (by simp only [bigN] at hs; omega)
 have h1:=C9 hi
 have h2:=C9 (l:=a) (i:=i) (by omega)
 have hia:i < a.length:=by omega
 have hst:(bools a).set i (.bool true)=bools (a.set i true):=by unfold bools; rw [List.map_set]
 cases e1:m.getD i false with
 | false =>
  rw [if_neg (fun h=>by cases h.1)]
  rw [e1] at h1
  simp -implicitDefEqProofs only [h0,h4,h7,h8,h9,hlt,hw,h1,h2,hm,L.row,u_not,hi,hia,XP,seval]
  exact ⟨_,_,rfl,by simp -implicitDefEqProofs only [h0,XP,seval],by simp -implicitDefEqProofs only [h4,XP,seval],by simp -implicitDefEqProofs only [h7,XP,seval],by simp -implicitDefEqProofs only [h8,XP,seval],by simp -implicitDefEqProofs only [XP,seval]⟩
 | true =>
  rw [e1] at h1
  cases e2:a.getD i false with
  | true =>
   rw [if_neg (fun h=>by cases h.2)]
   rw [e2] at h2
   simp -implicitDefEqProofs only [h0,h4,h7,h8,h9,hlt,hw,h1,h2,hm,L.row,u_not,hi,hia,XP,seval]
   exact ⟨_,_,rfl,by simp -implicitDefEqProofs only [h0,XP,seval],by simp -implicitDefEqProofs only [h4,XP,seval],by simp -implicitDefEqProofs only [h7,XP,seval],by simp -implicitDefEqProofs only [h8,XP,seval],by simp -implicitDefEqProofs only [XP,seval]⟩
  | false =>
   rw [if_pos ⟨rfl,rfl⟩]
   rw [e2] at h2
   simp -implicitDefEqProofs only [h0,h4,h7,h8,h9,hlt,hw,h1,h2,hm,L.row,L.set,L.raw,u_not,hi,hia,hst,XP,seval]
   exact ⟨_,_,rfl,by simp -implicitDefEqProofs only [h0,XP,seval],by simp -implicitDefEqProofs only [XP,seval],by simp -implicitDefEqProofs only [h7,XP,seval],by simp -implicitDefEqProofs only [h8,XP,seval],by simp -implicitDefEqProofs only [XP,seval]⟩
theorem KY {K:PK} (h8:lookP fr 8=.int .i64 (m.length:Int)) (h9:lookP fr 9=.int .i64 (m.length:Int)):∃ fr',evP ⟨A0,T,A5⟩ (.code Kj fr K)=some (.ok (.exit 0) fr' K)∧lookP fr' 4=lookP fr 4:=by
 unfold Kj
 have hlt:decide ((m.length:Int) < (m.length:Int))=false:=by simp
 simp -implicitDefEqProofs only [h8,h9,hlt,XP,seval]
 exact ⟨_,rfl,by simp -implicitDefEqProofs only [XP,seval]⟩
theorem DQ (L:Lens put id 1) (hm:∀ x,rowOf (put x) 6 j=some (0,bools m,1)) (hs:m.length≤bigN):∀ (n i:Nat) (a:List Bool) (g:Bool) (fr:PF) (tch:List Nat),m.length=i + n->a.length=m.length->lookP fr 0=.msl id 0 m.length 1->lookP fr 4=.bool g->lookP fr 7=.msl j 0 m.length 1->lookP fr 8=.int .i64 (m.length:Int)->lookP fr 9=.int .i64 (i:Int) ->
 ∃ fr' tch',evP ⟨A0,T,A5⟩ (.code (.loop Kj) fr ⟨put (bools a),ext,tch⟩)=some (.ok (.exit 0) fr' ⟨put (bools (Ga m n i (a,g)).1),ext,tch'⟩)∧lookP fr' 4=.bool (Ga m n i (a,g)).2
 | 0,i,a,g,fr,tch,e,ha,h0,h4,h7,h8,h9=>by
  obtain rfl:i=m.length:=by omega
  obtain ⟨fr',h,hq⟩:=KY (T:=T) (K:=⟨put (bools a),ext,tch⟩) h8 h9
  exact ⟨fr',tch,C4 h,hq.trans h4⟩
 | n + 1,i,a,g,fr,tch,e,ha,h0,h4,h7,h8,h9=>by
  obtain ⟨fr1,tch1,h,k0,k4,k7,k8,k9⟩:=KX (T:=T) (ext:=ext) (tch:=tch) L hm ha h0 h4 h7 h8 h9 (by omega) hs
  obtain ⟨fr',tch',h',hq⟩:=DQ L hm hs n (i + 1) (uSt m i (a,g)).1 (uSt m i (a,g)).2 fr1 tch1 (by omega) ((Xf m i (a,g)).trans ha) k0 k4 k7 k8 k9
  exact ⟨fr',tch',(C2 h).trans h',hq⟩
theorem Qm (hN:T 100=none) (L:Lens put id 1) (hm:∀ x,rowOf (put x) 6 j=some (0,bools m,1)) (hs:m.length≤bigN) {a:List Bool} (ha:a.length=m.length) :
 ∃ tch',evP ⟨A0,T,A5⟩ (.call 100 [.msl id 0 m.length 1,.msl j 0 m.length 1] ⟨put (bools a),ext,tch⟩)=some (.val [.bool (unionD a m).2] ⟨put (bools (unionD a m).1),ext,tch'⟩):=by
 obtain ⟨fr',tch',h6,h7⟩:=DQ (T:=T) (ext:=(put (bools a)).length) L hm hs m.length 0 a false [(9,.int .i64 0),(8,.int .i64 (m.length:Int)),(7,.msl j 0 m.length 1),(4,.bool false),(0,.msl id 0 m.length 1),(1,.msl j 0 m.length 1)] [] (by omega) ha (by simp -implicitDefEqProofs only [XP,Nat.reduceAdd,Nat.reduceSub,Nat.reduceLT,Nat.reduceLeDiff,Nat.reduceEqDiff,Nat.reduceMul,↓reduceIte]) (by simp -implicitDefEqProofs only [XP,Nat.reduceAdd,Nat.reduceSub,Nat.reduceLT,Nat.reduceLeDiff,Nat.reduceEqDiff,Nat.reduceMul,↓reduceIte]) (by simp -implicitDefEqProofs only [XP,Nat.reduceAdd,Nat.reduceSub,Nat.reduceLT,Nat.reduceLeDiff,Nat.reduceEqDiff,Nat.reduceMul,↓reduceIte]) (by simp -implicitDefEqProofs only [XP,Nat.reduceAdd,Nat.reduceSub,Nat.reduceLT,Nat.reduceLeDiff,Nat.reduceEqDiff,Nat.reduceMul,↓reduceIte]) (by simp -implicitDefEqProofs only [XP,Nat.reduceAdd,Nat.reduceSub,Nat.reduceLT,Nat.reduceLeDiff,Nat.reduceEqDiff,Nat.reduceMul,↓reduceIte]; rfl)
 refine ⟨tch' ++ tch,?_⟩
 rw [w5 hN rfl,A9 (c:=qZ) (nt:=27) (rs:=[.tmp 4]) rfl (by simp)]
 unfold qZ
 simp -implicitDefEqProofs only [h6,h7,XP,Nat.reduceAdd,Nat.reduceSub,Nat.reduceLT,Nat.reduceLeDiff,Nat.reduceEqDiff,Nat.reduceMul,↓reduceIte]
 rfl
end
end Go.Proofs.AmEnv
set_option maxRecDepth 100000
namespace Go.Proofs.AmEnv
open Go Go.AM
variable {T:Nat->Option (List AV->Option (List AV))}
section
variable {c:Cod} {i n:Nat}
abbrev tab (A:List (List Bool)):List AV:=A.map fun r=>ownd 0 1 (bools r)
abbrev noneL (n:Nat):List Bool:=List.replicate n false
theorem Oa (l c:Operand) (fr:PF) (K:PK):prim A0 (.makeSlice 54 l c) fr K=Un A0 Gt (opvP A0 l fr) (opvP A0 c fr) K:=rfl
theorem rZ {k k':IntKind} {n:Nat} {K:PK} (h:n * 1≤140737488355328):Un A0 Gt (.int k (n:Int)) (.int k' (n:Int)) K=.val (.msl K.os.length 0 n 1) ⟨K.os ++ [.row 0 (bools (noneL n)) 1],K.ext,K.tch⟩:=by
 have e:bools (noneL n)=List.replicate n (AV.bool false):=by simp [bools,noneL]
 rw [e]
 show (match some ty4,some n,some n with | some te,some n,some m=>(if n≤m∧m * te.bytes≤140737488355328∧0 < te.size then OpS.val (.msl K.os.length 0 n te.size) (AM.newRow 0 (List.replicate n te.zero) te.size K) else .bad) | _,_,_=>.bad)=_
 exact if_pos ⟨Nat.le_refl _,h,by decide⟩
theorem Ob (a b d e:Nat):Gb (.msl a b d e)=false:=rfl
theorem Oc:Gb .nilsl=false:=rfl
theorem Xg (n:Nat):(bools (noneL n)).length=n:=by simp [bools,noneL]
theorem DS (hi:0 < c.blocks.length) (hr:c.regs.length * 8≤bigN):evP ⟨A0,T,A5⟩ (.code Mh [(1,.ptr 0 0 0),(2,.ptr 1 0 0),(3,.ptr 2 0 0),(11,.int .i64 (c.blocks.length:Int)),(12,.int .i64 0)] ⟨[.row 1 [c.F] 5,.row 1 [.nilsl] 1,.row 1 [.nilsl] 1],0,[]⟩)=some (.ok .normal [(1,.ptr 0 0 0),(2,.ptr 1 0 0),(3,.ptr 2 0 0),(11,.int .i64 (c.blocks.length:Int)),(12,.int .i64 1)] ⟨[.row 1 [c.F] 5,.row 1 [.msl 3 0 1 1] 1,.row 1 [.msl 4 0 1 1] 1,.row 0 (tab [noneL c.regs.length]) 1,.row 0 (tab [noneL c.regs.length]) 1],0,[]⟩):=by
 unfold Mh
 have hlt:decide ((0:Int) < (c.blocks.length:Int))=true:=by simp; omega
 have hw:IntKind.i64.wrap (0 + 1)=1:=by decide
 have hm:c.regs.length * 1≤140737488355328:=by simp only [bigN] at hr; omega
 unfold Cod.F
 simp -implicitDefEqProofs only [hlt,hw,List.length_map,hm,Oa,rZ,Ob,Oc,Xg,List.length_replicate,XP,seval]
 rfl
theorem DT {A:List (List Bool)} (hA:A.length=i) (hi:i < c.blocks.length) (hr:c.regs.length * 8≤bigN) (hb:c.blocks.length * 56≤bigN):evP ⟨A0,T,A5⟩ (.code Mh [(1,.ptr 0 0 0),(2,.ptr 1 0 0),(3,.ptr 2 0 0),(11,.int .i64 (c.blocks.length:Int)),(12,.int .i64 ((i:Nat):Int))] ⟨[.row 1 [c.F] 5,.row 1 [.msl 3 0 i 1] 1,.row 1 [.msl 4 0 i 1] 1,.row 0 (tab A) 1,.row 0 (tab A) 1],0,[]⟩)=some (.ok .normal [(1,.ptr 0 0 0),(2,.ptr 1 0 0),(3,.ptr 2 0 0),(11,.int .i64 (c.blocks.length:Int)),(12,.int .i64 ((i + 1:Nat):Int))] ⟨[.row 1 [c.F] 5,.row 1 [.msl 3 0 (i + 1) 1] 1,.row 1 [.msl 4 0 (i + 1) 1] 1,.row 0 (tab (A ++ [noneL c.regs.length])) 1,.row 0 (tab (A ++ [noneL c.regs.length])) 1],0,[]⟩):=by
 unfold Mh
 have hlt:decide ((i:Int) < (c.blocks.length:Int))=true:=by simp; omega
 have hw:=B3 (i:=i) (by simp only [bigN] at hb; omega)
 have hm:c.regs.length * 1≤140737488355328:=by simp only [bigN] at hr; omega
 have hz:(i + 1) * 24≤140737488355328:=by simp only [bigN] at hb; omega
 have ht:(tab A).take i=tab A:=List.take_of_length_le (by simp [hA])
 unfold Cod.F
 simp -implicitDefEqProofs only [hlt,hw,List.length_map,hm,Oa,rZ,Ob,Oc,Xg,List.length_replicate,hA,ht,hz,XP,seval]
 simp
end
end Go.Proofs.AmEnv
set_option maxRecDepth 100000
namespace Go.Proofs.AmEnv
open Go Go.AM
variable {T:Nat->Option (List AV->Option (List AV))}
theorem J1:List.range 3=[0,1,2]:=rfl
theorem J2:List.range 4=[0,1,2,3]:=rfl
theorem J3:List.range 5=[0,1,2,3,4]:=rfl
theorem J4:List.range 6=[0,1,2,3,4,5]:=rfl
theorem J5:List.range 7=[0,1,2,3,4,5,6]:=rfl
theorem J6:List.range 8=[0,1,2,3,4,5,6,7]:=rfl
theorem J7:List.range 9=[0,1,2,3,4,5,6,7,8]:=rfl
theorem D5:List.range 10=[0,1,2,3,4,5,6,7,8,9]:=rfl
theorem D6:List.range 11=[0,1,2,3,4,5,6,7,8,9,10]:=rfl
theorem D7:List.range 12=[0,1,2,3,4,5,6,7,8,9,10,11]:=rfl
theorem D8:List.range 13=[0,1,2,3,4,5,6,7,8,9,10,11,12]:=rfl
theorem D9:List.range 14=[0,1,2,3,4,5,6,7,8,9,10,11,12,13]:=rfl
theorem E0:List.range 15=[0,1,2,3,4,5,6,7,8,9,10,11,12,13,14]:=rfl
def tosD (e:Endd):List Int:=if e.kind=1 then [e.to] else if e.kind=2 then [e.to,e.els] else []
theorem Qn  {e:Endd}:AM.Comes ⟨A0,T,A5⟩ 99 [e.F] [ownd 0 1 (ints (tosD e))]:=by
 by_cases e1:e.kind=1
 . rw [show tosD e=[e.to] by simp [tosD,e1]]
   refine ⟨[.msl 0 0 1 1],⟨[.row 0 [.int .i64 e.to] 1],0,[]⟩,?_,E9 (.inr ⟨rfl,rfl⟩)⟩
   rw [A9 (c:=uF) (nt:=17) (rs:=[.tmp 2]) rfl (by simp)]; unfold uF; unfold K0 Endd.F
   simp -implicitDefEqProofs only [eq_true e1,XP,seval]
 by_cases e2:e.kind=2
 . rw [show tosD e=[e.to,e.els] by simp [tosD,e2]]
   refine ⟨[.msl 0 0 2 1],⟨[.row 0 [.int .i64 e.to,.int .i64 e.els] 1],0,[]⟩,?_,E9 (.inr ⟨rfl,rfl⟩)⟩
   rw [A9 (c:=uF) (nt:=17) (rs:=[.tmp 2]) rfl (by simp)]; unfold uF; unfold K0 Endd.F
   simp -implicitDefEqProofs only [eq_false e1,eq_true e2,XP,seval]
 . rw [show tosD e=[] by simp [tosD,e1,e2]]
   refine ⟨[.nilsl],⟨[],0,[]⟩,?_,E9 (.inl ⟨rfl,rfl,rfl⟩)⟩
   rw [A9 (c:=uF) (nt:=17) (rs:=[.tmp 2]) rfl (by simp)]; unfold uF; unfold K0 Endd.F
   simp -implicitDefEqProofs only [eq_false e1,eq_false e2,XP,seval]
def Q8:=Cc (fun p:(Endd)=>[p.F]) (fun p=>[ownd 0 1 (ints (tosD p))]) (fun p=>True)
theorem jW (hlive_tos:T 99=some Q8) {e:Endd} {K:PK}:evP ⟨A0,T,A5⟩ (.call 99 [e.F] K)=some (.val (openTs K.os.length [ownd 0 1 (ints (tosD e))]).1 ⟨K.os ++ (openTs K.os.length [ownd 0 1 (ints (tosD e))]).2,K.ext,K.tch⟩):=E1 hlive_tos (by simp -implicitDefEqProofs only [VV,XP,seval]) (E5 (a:=fun p:(Endd)=>[p.F]) (r:=fun p=>[ownd 0 1 (ints (tosD p))]) (fun x y e=>by simp only [VJ] at e; simp only [e]) (e) trivial) (by simp -implicitDefEqProofs only [VN,XP,seval])
theorem aO  (hP:PEok ⟨A0,T,A5⟩):TC A0 99 Q8:=G4 hP fun p h=>Qn
section
variable {c:Cod} {b:Blk} {A B:List (List Bool)} {i j at_ t n:Nat} {g:Bool} {L:List Int} {tch:List Nat}
theorem G0 {A:List (List Bool)} {i:Nat} (h:i < A.length):(tab A)[i]?=some (ownd 0 1 (bools (A.getD i []))):=by simp [tab,h]
theorem V8 {A:List (List Bool)} {i:Nat} {x:List Bool}:(tab A).set i (ownd 0 1 (bools x))=tab (A.set i x):=by simp [tab,List.map_set]
theorem Bi {k sz o:Nat} {es:List AV} {c:AV}:putCl (ownd k sz es) o c=c:=rfl
def Qo (c:Cod) (g:Bool) (A B:List (List Bool)) (b:Blk) (L:List Int) (at_ t:Nat) (x:List AV):List PO:=[.row 1 [c.F] 5,.row 1 [.msl 4 0 c.blocks.length 1] 1,.row 1 [.msl 5 0 c.blocks.length 1] 1,.row 1 [.bool g] 1,.row 0 (tab A) 1,.row 0 ((tab B).set at_ (ownd 0 1 x)) 1,.row 1 [fslN (c.blocks.map Blk.F)] 1,.row 1 [b.F] 5,.row 0 (ints L) 1,.sub 5 at_ 0,.sub 4 t 0]
theorem sC (hb:at_ < B.length):Lens (Qo c g A B b L at_ t) 9 1:=by
 have hb':at_ < (tab B).length:=by simp [tab,hb]
 refine ⟨fun es=>?_,fun es es'=>?_,fun es=>?_⟩
 . unfold Qo
   simp -implicitDefEqProofs only [Nw hb',XP,seval]
 . unfold Qo
   simp -implicitDefEqProofs only [Nw hb',List.set_set,Bi,XP,seval]
 . rfl
set_option maxHeartbeats 1000000 in
theorem xO (hN:T 100=none) (hj:j < L.length) (hL:L[j]=(t:Int)) (ht:t < A.length) (hA:A.length=c.blocks.length) (hB:B.length=c.blocks.length) (hat:at_ < B.length) (hlA:(A.getD t []).length=n) (hlB:(B.getD at_ []).length=n) (hs:n≤bigN) (hsL:L.length≤2) :
 ∃ tch',evP ⟨A0,T,A5⟩ (.code Ua [(2,.ptr 1 0 0),(3,.ptr 2 0 0),(4,.ptr 3 0 0),(5,.int .i64 (at_:Int)),(6,.ptr 7 0 0),(37,.msl 8 0 L.length 1),(38,.int .i64 (L.length:Int)),(39,.int .i64 (j:Int))] ⟨[.row 1 [c.F] 5,.row 1 [.msl 4 0 c.blocks.length 1] 1,.row 1 [.msl 5 0 c.blocks.length 1] 1,.row 1 [.bool g] 1,.row 0 (tab A) 1,.row 0 (tab B) 1,.row 1 [fslN (c.blocks.map Blk.F)] 1,.row 1 [b.F] 5,.row 0 (ints L) 1],7,tch⟩)=some (.ok .normal [(2,.ptr 1 0 0),(3,.ptr 2 0 0),(4,.ptr 3 0 0),(5,.int .i64 (at_:Int)),(6,.ptr 7 0 0),(37,.msl 8 0 L.length 1),(38,.int .i64 (L.length:Int)),(39,.int .i64 ((j + 1:Nat):Int))] ⟨[.row 1 [c.F] 5,.row 1 [.msl 4 0 c.blocks.length 1] 1,.row 1 [.msl 5 0 c.blocks.length 1] 1,.row 1 [.bool g] 1,.row 0 (tab A) 1,.row 0 (tab (B.set at_ (unionD (B.getD at_ []) (A.getD t [])).1)) 1,.row 1 [fslN (c.blocks.map Blk.F)] 1,.row 1 [b.F] 5,.row 0 (ints L) 1],7,tch'⟩):=by
 unfold Ua
 have hlt:decide ((j:Int) < (L.length:Int))=true:=by simp [hj]
 have hw:=B3 (i:=j) (by omega)
 have h1:=M4 hj
 rw [hL] at h1
 have h2:=G0 ht
 have h3:=G0 hat
 have e3:(tab B).set at_ (ownd 0 1 (bools (B.getD at_ [])))=tab B:=aG h3
 have htb:t < c.blocks.length:=by omega
 have hab:at_ < c.blocks.length:=by omega
 obtain ⟨tch',hu⟩:=Qm (T:=T) (ext:=7) (tch:=tch) (m:=A.getD t []) (a:=B.getD at_ []) (j:=10) hN (sC (c:=c) (g:=g) (A:=A) (B:=B) (b:=b) (L:=L) (at_:=at_) (t:=t) hat) (fun x=>by unfold Qo; simp -implicitDefEqProofs only [h2,XP,seval]) (by omega) (by omega)
 unfold Qo at hu
 rw [e3,V8,hlA] at hu
 simp only [Cod.F,Blk.F] at hu ⊢
 simp -implicitDefEqProofs only [hlt,hw,h1,h2,h3,hj,htb,hab,hlA,hlB,hu,List.length_map,J1,J2,J3,J4,J5,J6,J7,D5,D6,D7,D8,D9,E0,XP,seval]
 exact ⟨_,rfl⟩
end
end Go.Proofs.AmEnv
set_option maxRecDepth 100000
namespace Go.Proofs.AmEnv
open Go Go.AM
variable {T:Nat->Option (List AV->Option (List AV))}
def Gy (w:List Bool) (r:Int):List Bool:=w.set r.toNat true
def R5 (w:List Bool) (x:Ins):List Bool:=(readsD x).foldl Gy (if 0≤writesD x then w.set (writesD x).toNat false else w)
theorem jX (rs:List Int):∀ w:List Bool,(rs.foldl Gy w).length=w.length:=by
 induction rs with
 | nil=>intro w; rfl
 | cons r rs ih=>intro w; rw [List.foldl_cons,ih]; simp [Gy]
theorem j8 (w:List Bool) (x:Ins):(R5 w x).length=w.length:=by
 unfold R5; rw [jX]; split <;> simp
section
variable {put:List AV->List PO} {id bx rid n j r:Nat} {rs:List Int} {fr:PF} {ext:Nat} {tch:List Nat} {w:List Bool}
theorem KZ (L:Lens put id 1) (hro:∀ x,rootOf (put x) 6 id=id) (hbx:∀ x,rowOf (put x) 6 bx=some (1,[.msl id 0 n 1],1)) (hrd:∀ x,rowOf (put x) 6 rid=some (0,ints rs,1)) (hw:w.length=n) (h7:lookP fr 7=.ptr bx 0 0) (h47:lookP fr 47=.msl rid 0 rs.length 1) (h48:lookP fr 48=.int .i64 (rs.length:Int)) (h49:lookP fr 49=.int .i64 (j:Int)) (hj:j < rs.length) (hr:rs[j]=(r:Int)) (hrn:r < n) (hs:rs.length≤bigN) :
 ∃ fr',evP ⟨A0,T,A5⟩ (.code m8 fr ⟨put (bools w),ext,tch⟩)=some (.ok .normal fr' ⟨put (bools (w.set r true)),ext,id :: tch⟩)∧lookP fr' 7=.ptr bx 0 0∧lookP fr' 47=.msl rid 0 rs.length 1∧lookP fr' 48=.int .i64 (rs.length:Int)∧lookP fr' 49=.int .i64 ((j + 1:Nat):Int):=by
 unfold m8
 have hlt:decide ((j:Int) < (rs.length:Int))=true:=by simp [hj]
 have hws:=B3 (i:=j) (by simp only [bigN] at hs; omega)
 have h1:=M4 hj
 rw [hr] at h1
 have h2:=C9 (l:=w) (i:=r) (by omega)
 have hst:(bools w).set r (.bool true)=bools (w.set r true):=by unfold bools; rw [List.map_set]
 simp -implicitDefEqProofs only [h7,h47,h48,h49,hlt,hws,h1,h2,hrn,hj,hbx,hrd,hro,L.row,L.set,L.raw,hst,XP,seval]
 exact ⟨_,rfl,by simp -implicitDefEqProofs only [h7,XP,seval],by simp -implicitDefEqProofs only [h47,XP,seval],by simp -implicitDefEqProofs only [h48,XP,seval],by simp -implicitDefEqProofs only [XP,seval]⟩
theorem LB {K:PK} (h48:lookP fr 48=.int .i64 (rs.length:Int)) (h49:lookP fr 49=.int .i64 (rs.length:Int)):∃ fr',evP ⟨A0,T,A5⟩ (.code m8 fr K)=some (.ok (.exit 2) fr' K):=by
 unfold m8
 have hlt:decide ((rs.length:Int) < (rs.length:Int))=false:=by simp
 simp -implicitDefEqProofs only [h48,h49,hlt,XP,seval]
 exact ⟨_,rfl⟩
theorem DU (L:Lens put id 1) (hro:∀ x,rootOf (put x) 6 id=id) (hbx:∀ x,rowOf (put x) 6 bx=some (1,[.msl id 0 n 1],1)) (hrd:∀ x,rowOf (put x) 6 rid=some (0,ints rs,1)) (hs:rs.length≤bigN) (hrs:∀ r∈rs,0≤r∧r < (n:Int)):∀ (k j:Nat) (w:List Bool) (fr:PF) (tch:List Nat),rs.length=j + k->w.length=n->lookP fr 7=.ptr bx 0 0->lookP fr 47=.msl rid 0 rs.length 1->lookP fr 48=.int .i64 (rs.length:Int)->lookP fr 49=.int .i64 (j:Int) ->
 ∃ fr' tch',evP ⟨A0,T,A5⟩ (.code (.loop m8) fr ⟨put (bools w),ext,tch⟩)=some (.ok (.exit 2) fr' ⟨put (bools ((rs.drop j).foldl Gy w)),ext,tch'⟩)∧∀ y∈tch',y∈tch∨y=id
 | 0,j,w,fr,tch,e,hw,h7,h47,h48,h49=>by
  obtain rfl:j=rs.length:=by omega
  obtain ⟨fr',h⟩:=LB (T:=T) (K:=⟨put (bools w),ext,tch⟩) h48 h49
  exact ⟨fr',tch,by rw [List.drop_length]; exact C4 h,fun y hy=>.inl hy⟩
 | k + 1,j,w,fr,tch,e,hw,h7,h47,h48,h49=>by
  have hj:j < rs.length:=by omega
  obtain ⟨h0,h1⟩:=hrs _ (List.getElem_mem hj)
  obtain ⟨r,hr⟩:=Int.eq_ofNat_of_zero_le h0
  obtain ⟨fr1,h,k7,k47,k48,k49⟩:=KZ (T:=T) (ext:=ext) (tch:=tch) L hro hbx hrd hw h7 h47 h48 h49 hj hr (by omega) hs
  obtain ⟨fr',tch',h',ht⟩:=DU L hro hbx hrd hs hrs k (j + 1) (w.set r true) fr1 (id :: tch) (by omega) (by simpa using hw) k7 k47 k48 k49
  refine ⟨fr',tch',?_,fun y hy=>?_⟩
  . rw [List.drop_eq_getElem_cons hj,List.foldl_cons,show Gy w rs[j]=w.set r true by rw [hr]; rfl]
    exact (C2 h).trans h'
  . rcases ht y hy with h | h
    . rcases List.mem_cons.1 h with h | h
      . exact .inr h
      . exact .inl h
    . exact .inr h
theorem xP (L:Lens put id 1) (hro:∀ x,rootOf (put x) 6 id=id) (hbx:∀ x,rowOf (put x) 6 bx=some (1,[.msl id 0 n 1],1)) (hrd:∀ x,rowOf (put x) 6 rid=some (0,ints rs,1)) (hs:rs.length≤bigN) (hrs:∀ r∈rs,0≤r∧r < (n:Int)) (hw:w.length=n) :
 ∃ (FR:PF->List Nat->PF) (TC:PF->List Nat->List Nat),∀ (fr:PF) (tch:List Nat),lookP fr 7=.ptr bx 0 0->lookP fr 47=.msl rid 0 rs.length 1->lookP fr 48=.int .i64 (rs.length:Int)->lookP fr 49=.int .i64 0 ->
 evP ⟨A0,T,A5⟩ (.code (.loop m8) fr ⟨put (bools w),ext,tch⟩)=some (.ok (.exit 2) (FR fr tch) ⟨put (bools (rs.foldl Gy w)),ext,TC fr tch⟩)∧∀ y∈TC fr tch,y∈tch∨y=id:=by
 have key:∀ x:PF × List Nat,∃ y:PF × List Nat,lookP x.1 7=.ptr bx 0 0->lookP x.1 47=.msl rid 0 rs.length 1->lookP x.1 48=.int .i64 (rs.length:Int)->lookP x.1 49=.int .i64 0 ->
  evP ⟨A0,T,A5⟩ (.code (.loop m8) x.1 ⟨put (bools w),ext,x.2⟩)=some (.ok (.exit 2) y.1 ⟨put (bools (rs.foldl Gy w)),ext,y.2⟩)∧∀ z∈y.2,z∈x.2∨z=id:=fun x=>by
  by_cases h:lookP x.1 7=.ptr bx 0 0∧lookP x.1 47=.msl rid 0 rs.length 1∧lookP x.1 48=.int .i64 (rs.length:Int)∧lookP x.1 49=.int .i64 0
  . obtain ⟨fr',tch',h1,h2⟩:=DU (T:=T) (ext:=ext) L hro hbx hrd hs hrs rs.length 0 w x.1 x.2 (by omega) hw h.1 h.2.1 h.2.2.1 h.2.2.2
    exact ⟨(fr',tch'),fun _ _ _ _=>⟨h1,h2⟩⟩
  . exact ⟨([],[]),fun a b c d=>absurd ⟨a,b,c,d⟩ h⟩
 exact ⟨fun fr tch=>(key (fr,tch)).choose.1,fun fr tch=>(key (fr,tch)).choose.2,fun fr tch=>(key (fr,tch)).choose_spec⟩
end
end Go.Proofs.AmEnv
set_option maxRecDepth 100000
namespace Go.Proofs.AmEnv
open Go Go.AM
variable {T:Nat->Option (List AV->Option (List AV))}
theorem LC (hN:T 102=none) {x:Ins} {v:AV} {K:PK}:evP ⟨A0,T,A5⟩ (.call 102 [x.F,v] K)=some (.val [] ⟨K.os ++ [.row 1 [x.F] 8],K.ext,K.tch⟩):=by
 rw [w5 hN rfl,A9 (c:=rA) (nt:=4) (rs:=[]) rfl (by simp)]
 unfold rA
 simp only [Ins.F]
 simp -implicitDefEqProofs only [XP,seval]
theorem Kq (x:Ins):(readsD x).length≤x.args.length + 2:=by
 unfold readsD
 repeat (split; · simp)
 simp
section
variable {c:Cod} {b:Blk} {A B:List (List Bool)} {at_ n k:Nat} {g:Bool} {tch:List Nat} {w:List Bool} {x:Ins} {fr:PF}
def X2 (c:Cod) (g:Bool) (A B:List (List Bool)) (b:Blk) (at_ n:Nat) (ps:List PO) (w:List AV):List PO:=[.row 1 [c.F] 5,.row 1 [.msl 4 0 c.blocks.length 1] 1,.row 1 [.msl 5 0 c.blocks.length 1] 1,.row 1 [.bool g] 1,.row 0 (tab A) 1,.row 0 (tab B) 1,.row 1 [fslN (c.blocks.map Blk.F)] 1,.row 1 [b.F] 5,.sub 5 at_ 0,.row 1 [b.F] 5,.row 1 [.fn (.func 102) [] []] 1,.row 0 w 1,.row 1 [.msl 11 0 n 1] 1,.row 1 [fslN (b.code.map Ins.F)] 1] ++ ps
theorem xQ {ps:List PO}:Lens (X2 c g A B b at_ n ps) 11 1:=⟨fun es=>rfl,fun es es'=>rfl,fun es=>rfl⟩
set_option maxHeartbeats 2000000 in
theorem LD (hS:T 102=none) (hW:T 108=some B0) (hR:T 170=some B7) (hk:x.ok) (hw:w.length=n) (hs:n≤bigN) (hwr:writesD x < n) (hrd:∀ r∈readsD x,0≤r∧r < (n:Int)) (h5:lookP fr 5=.ptr 10 0 0) (h7:lookP fr 7=.ptr 12 0 0) :
 ∃ fr1 tch',evP ⟨A0,T,A5⟩ (.round ⟨[33,34],R7,R6,fr⟩ [.int .i64 (k:Int),x.F] ⟨X2 c g A B b at_ n [] (bools w),14,[]⟩)=some (.ok .normal fr1 ⟨X2 c g A B b at_ n [] (bools (R5 w x)),14,tch'⟩)∧∀ y∈tch',9≤y:=by
 rw [Oh rfl]
 unfold R7 R6
 have t1:=fun K=>LC (T:=T) (x:=x) (v:=.msl 11 0 n 1) (K:=K) hS
 have t2:=fun K=>Y3 (K:=K) (x:=x) hW
 have t3:=fun K=>El (K:=K) (x:=x) hR hk
 have hrl:(readsD x).length≤bigN:=by
  have:=Kq x
  have h2:x.args.length * 8≤bigN:=hk
  simp only [bigN] at h2 ⊢
  omega
 have go:∀ w':List Bool,w'.length=n->∃ (FR:PF->List Nat->PF) (TC:PF->List Nat->List Nat),∀ (fr:PF) (tch:List Nat),lookP fr 7=.ptr 12 0 0->lookP fr 47=.msl 16 0 (readsD x).length 1->lookP fr 48=.int .i64 ((readsD x).length:Int)->lookP fr 49=.int .i64 0 ->
  evP ⟨A0,T,A5⟩ (.code (.loop m8) fr ⟨X2 c g A B b at_ n [.row 1 [x.F] 8,.row 1 [x.F] 8,.row 0 (ints (readsD x)) 1] (bools w'),14,tch⟩)=some (.ok (.exit 2) (FR fr tch) ⟨X2 c g A B b at_ n [.row 1 [x.F] 8,.row 1 [x.F] 8,.row 0 (ints (readsD x)) 1] (bools ((readsD x).foldl Gy w')),14,TC fr tch⟩)∧∀ y∈TC fr tch,y∈tch∨y=11:=fun w' hw'=>xP xQ (fun _=>rfl) (fun _=>rfl) (fun _=>rfl) hrl hrd hw'
 by_cases h0:0≤writesD x
 . obtain ⟨d,hd⟩:=Int.eq_ofNat_of_zero_le h0
   have hdn:d < n:=by omega
   obtain ⟨FR,TC,hl⟩:=go (w.set d false) (by simpa using hw)
   have es:R5 w x=(readsD x).foldl Gy (w.set d false):=by unfold R5; rw [if_pos h0,hd]; rfl
   have hg:=C9 (l:=w) (i:=d) (by omega)
   have hst:(bools w).set d (.bool false)=bools (w.set d false):=by unfold bools; rw [List.map_set]
   have hl1:=fun fr tch a b c d=>(hl fr tch a b c d).1
   have hl2:=fun fr tch a b c d=>(hl fr tch a b c d).2
   rw [es]
   unfold X2 at hl1 ⊢
   have hdec:decide (0≤(d:Int))=true:=by simp
   simp only [hd] at t2
   simp only [Cod.F,Blk.F,Ins.F,List.cons_append,List.nil_append] at t1 t2 t3 hl1 ⊢
   simp -implicitDefEqProofs only [U2,Y7,Hk,h5,h7,t1,t2,t3,hdec,hdn,hg,hst,hl1,J1,J2,J3,J4,J5,J6,J7,D5,D6,D7,D8,D9,E0,List.length_map,XP,seval]
   refine ⟨_,_,rfl,fun y hy=>?_⟩
   have hy:=(List.mem_filter.1 hy).1
   rcases hl2 _ _ (by simp -implicitDefEqProofs only [h7,XP,seval]) (by simp -implicitDefEqProofs only [XP,seval]) (by simp -implicitDefEqProofs only [XP,seval]) (by simp -implicitDefEqProofs only [XP,seval]) y hy with h | h
   . simp only [List.mem_cons,List.not_mem_nil,or_false] at h; omega
   . omega
 . obtain ⟨FR,TC,hl⟩:=go w hw
   have es:R5 w x=(readsD x).foldl Gy w:=by unfold R5; rw [if_neg h0]
   have hl1:=fun fr tch a b c d=>(hl fr tch a b c d).1
   have hl2:=fun fr tch a b c d=>(hl fr tch a b c d).2
   rw [es]
   unfold X2 at hl1 ⊢
   have hdec:decide (0≤writesD x)=false:=by simp [h0]
   simp only [Cod.F,Blk.F,Ins.F,List.cons_append,List.nil_append] at t1 t2 t3 hl1 ⊢
   simp -implicitDefEqProofs only [U2,Y7,Hk,h5,h7,t1,t2,t3,hdec,hl1,J1,J2,J3,J4,J5,J6,J7,D5,D6,D7,D8,D9,E0,List.length_map,XP,seval]
   refine ⟨_,_,rfl,fun y hy=>?_⟩
   have hy:=(List.mem_filter.1 hy).1
   rcases hl2 _ _ (by simp -implicitDefEqProofs only [h7,XP,seval]) (by simp -implicitDefEqProofs only [XP,seval]) (by simp -implicitDefEqProofs only [XP,seval]) (by simp -implicitDefEqProofs only [XP,seval]) y hy with h | h
   . simp only [List.mem_cons,List.not_mem_nil,or_false] at h; omega
   . omega
end
end Go.Proofs.AmEnv
set_option maxRecDepth 100000
namespace Go.Proofs.AmEnv
open Go Go.AM
variable {T:Nat->Option (List AV->Option (List AV))}
def sD (l:List Ins):Nat->List Bool->List Bool
 | 0,w=>w
 | k + 1,w=>sD l k (match l[k]? with | some x=>R5 w x | none=>w)
def endW (b:Blk) (w:List Bool):List Bool:=if b.e.kind ≠ 1∧0≤b.e.a then w.set b.e.a.toNat true else w
def walkD (b:Blk) (w:List Bool):List Bool:=sD b.code b.code.length (endW b w)
theorem fY (l:List Ins):∀ (k:Nat) (w:List Bool),(sD l k w).length=w.length
 | 0,w=>rfl
 | k + 1,w=>by
  rw [sD,fY]
  cases l[k]? with
  | none=>rfl
  | some x=>exact j8 w x
theorem Ag (b:Blk) (w:List Bool):(endW b w).length=w.length:=by unfold endW; split <;> simp
theorem Uh (b:Blk) (w:List Bool):(walkD b w).length=w.length:=(fY _ _ _).trans (Ag b w)
structure WOk (n:Nat) (b:Blk):Prop where
 sz:b.code.length * 88≤bigN
 ln:b.code.length≤60000
 ok:∀ x∈b.code,x.ok
 wr:∀ x∈b.code,writesD x < n
 rd:∀ x∈b.code,∀ r∈readsD x,0≤r∧r < (n:Int)
 ea:b.e.kind ≠ 1->b.e.a < n
theorem Qp (hN:T 125=none) {l:List Ins} {K:PK}:evP ⟨A0,T,A5⟩ (.call 125 [fslN (l.map Ins.F)] K)=some (.val [.fn (.func 188) [] [.ptr K.os.length 0 0]] ⟨K.os ++ [.row 1 [fslN (l.map Ins.F)] 1],K.ext,K.tch⟩):=by
 rw [w5 hN rfl,A9 (c:=rF) (nt:=4) (rs:=[.tmp 2]) rfl (by simp)]
 unfold rF
 simp -implicitDefEqProofs only [XP,seval]
section
variable {c:Cod} {b:Blk} {A B:List (List Bool)} {at_ n k ex:Nat} {g:Bool} {w:List Bool} {x:Ins} {fr:PF}
theorem LE (hS:T 102=none) (hW:T 108=some B0) (hR:T 170=some B7) (hb:WOk n b) (hs:n≤bigN) {w0:List Bool} (hw0:w0.length=n) :
 ∃ TC:PF->List Nat->List Nat,∀ (fr:PF) (tch:List Nat),lookP fr 5=.ptr 10 0 0->lookP fr 7=.ptr 12 0 0->lookP fr 32=.fn (.func 188) [] [.ptr 13 0 0] ->
   evP ⟨A0,T,A5⟩ (.code (.rfn (.tmp 32) [33,34] R7 R6) fr ⟨X2 c g A B b at_ n [] (bools w0),ex,tch⟩)=some (.ok .normal fr ⟨X2 c g A B b at_ n [] (bools (sD b.code b.code.length w0)),ex,TC fr tch ++ tch⟩)∧∀ y∈TC fr tch,9≤y:=by
 have key:∀ x:PF × List Nat,∃ y:List Nat,lookP x.1 5=.ptr 10 0 0->lookP x.1 7=.ptr 12 0 0->lookP x.1 32=.fn (.func 188) [] [.ptr 13 0 0] ->
  evP ⟨A0,T,A5⟩ (.code (.rfn (.tmp 32) [33,34] R7 R6) x.1 ⟨X2 c g A B b at_ n [] (bools w0),ex,x.2⟩)=some (.ok .normal x.1 ⟨X2 c g A B b at_ n [] (bools (sD b.code b.code.length w0)),ex,y ++ x.2⟩)∧∀ z∈y,9≤z:=fun x=>by
  by_cases h:lookP x.1 5=.ptr 10 0 0∧lookP x.1 7=.ptr 12 0 0∧lookP x.1 32=.fn (.func 188) [] [.ptr 13 0 0]
  . obtain ⟨K',h1,w',tch',rfl,h3,h4,h5⟩:=nK (T:=T) (l:=b.code) (f:=(b.code.map Ins.F).isEmpty) (fr:=x.1) (g:=.tmp 32) (ps:=[33,34]) (ca:=R7) (cb:=R6) (b:=13) (K:=⟨X2 c g A B b at_ n [] (bools w0),ex,x.2⟩)
     (Inv:=fun i K=>∃ w tch,K=⟨X2 c g A B b at_ n [] (bools w),14,tch⟩∧w.length=n∧sD b.code i w=sD b.code b.code.length w0∧∀ y∈tch,9≤y) hb.sz hb.ln h.2.2
     (fun i K _ hI=>by obtain ⟨w,tch,rfl,_⟩:=hI; rfl)
     (fun i hi K hI=>by
       obtain ⟨w,tch,rfl,h3,h4,h5⟩:=hI
       have hm:=List.getElem_mem hi
       obtain ⟨fr1,tch',h6,h7⟩:=LD (T:=T) (c:=c) (b:=b) (A:=A) (B:=B) (at_:=at_) (n:=n) (k:=i) (g:=g) (w:=w) (x:=b.code[i]) (fr:=x.1) hS hW hR (hb.ok _ hm) h3 hs (hb.wr _ hm) (hb.rd _ hm) h.1 h.2.1
       refine ⟨fr1,_,h6,R5 w b.code[i],tch' ++ tch,rfl,(j8 _ _).trans h3,?_,fun y hy=>?_⟩
       . rw [sD,List.getElem?_eq_getElem hi] at h4; exact h4
       . rcases List.mem_append.1 hy with hy | hy
         . exact h7 y hy
         . exact h5 y hy)
     ⟨w0,[],rfl,hw0,rfl,fun y hy=>by cases hy⟩
    exact ⟨tch',fun _ _ _=>⟨by rw [h1,← h4]; rfl,h5⟩⟩
  . exact ⟨[],fun a b c=>absurd ⟨a,b,c⟩ h⟩
 exact ⟨fun fr tch=>(key (fr,tch)).choose,fun fr tch=>(key (fr,tch)).choose_spec⟩
end
end Go.Proofs.AmEnv
set_option maxRecDepth 100000
namespace Go.Proofs.AmEnv
open Go Go.AM
variable {T:Nat->Option (List AV->Option (List AV))}
section
variable {c:Cod} {b:Blk} {A B:List (List Bool)} {at_ n k:Nat} {g:Bool} {w:List Bool} {tch:List Nat}
set_option maxHeartbeats 2000000 in
theorem dS (hN:T 101=none) (hNB:T 125=none) (hC:T 169=some C0) (hS:T 102=none) (hW:T 108=some B0) (hR:T 170=some B7) (hb:WOk n b) (hs:n≤bigN) (hB:at_ < B.length) (hl:(B.getD at_ []).length=n) :
 ∃ tch',evP ⟨A0,T,A5⟩ (.call 101 [b.F,.msl 8 0 n 1,.fn (.func 102) [] []] ⟨[.row 1 [c.F] 5,.row 1 [.msl 4 0 c.blocks.length 1] 1,.row 1 [.msl 5 0 c.blocks.length 1] 1,.row 1 [.bool g] 1,.row 0 (tab A) 1,.row 0 (tab B) 1,.row 1 [fslN (c.blocks.map Blk.F)] 1,.row 1 [b.F] 5,.sub 5 at_ 0],7,tch⟩)=some (.val [.msl 11 0 n 1] ⟨X2 c g A B b at_ n [] (bools (walkD b (B.getD at_ []))),7,tch' ++ tch⟩)∧∀ y∈tch',9≤y:=by
 have h3:=G0 hB
 have hv:∀ os,rowOf os 6 8=some (0,bools (B.getD at_ []),1)->viewAs os [.msl 8 0 n 1]=some [fslN (bools (B.getD at_ []))]:=fun os h=>by
  have e:X4 os (.msl 8 0 n 1)=some (fslN (bools (B.getD at_ []))):=by
   show (match rowOf os 6 8 with | some (k,es,z)=>(if k=0∧1=z∧0 + n≤es.length then (match frzL ((es.drop 0).take n) with | some es=>some (fslN es) | none=>none) else none) | none=>none)=_
   rw [h]
   dsimp only
   rw [if_pos ⟨rfl,rfl,by rw [List.length_map]; omega⟩,List.drop_zero,List.take_of_length_le (by rw [List.length_map]; omega),frzL_bools]
  show Aj (X4 os (.msl 8 0 n 1)) (some [])=_
  rw [e]; rfl
 have tc:=fun K (h:viewAs K.os [.msl 8 0 n 1]=some [fslN (bools (B.getD at_ []))])=>E1 (E:=A0) (F:=A5) (K:=K) hC h (o7 (by rw [hl]; omega)) (by simp -implicitDefEqProofs only [noFL_bools,XP,seval])
 have tb:=fun K=>Qp (K:=K) (l:=b.code) hNB
 obtain ⟨TC,hw⟩:=LE (T:=T) (ex:=9) (c:=c) (b:=b) (A:=A) (B:=B) (at_:=at_) (n:=n) (g:=g) (w0:=endW b (B.getD at_ [])) hS hW hR hb hs ((Ag _ _).trans hl)
 rw [w5 hN rfl,A9 (c:=Zy) (nt:=58) (rs:=[.tmp 6]) rfl (by simp)]
 unfold Zy walkD
 have hw1:=fun fr tch a b c=>(hw fr tch a b c).1
 have hw2:=fun fr tch a b c=>(hw fr tch a b c).2
 by_cases e1:b.e.kind=1
 . rw [show endW b (B.getD at_ [])=B.getD at_ [] by unfold endW; rw [if_neg (fun h=>h.1 e1)]] at hw1 ⊢
   unfold X2 at hw1 ⊢
   simp only [Cod.F,Blk.F,List.cons_append,List.nil_append] at hw1 ⊢
   simp -implicitDefEqProofs only [h3,tb,tc,hv,eq_true e1,hw1,hl,List.length_map,J1,J2,J3,J4,J5,J6,J7,D5,D6,D7,D8,D9,E0,XP,seval]
   exact ⟨_,rfl,fun y hy=>by
    rcases List.mem_append.1 hy with h | h
    . exact hw2 _ _ (by simp -implicitDefEqProofs only [XP,seval]) (by simp -implicitDefEqProofs only [XP,seval]) (by simp -implicitDefEqProofs only [XP,seval]) y h
    . simp only [List.mem_cons,List.not_mem_nil,or_false] at h; omega⟩
 by_cases e2:0≤b.e.a
 . obtain ⟨d,hd⟩:=Int.eq_ofNat_of_zero_le e2
   have hdn:d < n:=by have:=hb.ea e1; omega
   have hg:=C9 (l:=B.getD at_ []) (i:=d) (by omega)
   have hst:(bools (B.getD at_ [])).set d (.bool true)=bools ((B.getD at_ []).set d true):=by unfold bools; rw [List.map_set]
   rw [show endW b (B.getD at_ [])=(B.getD at_ []).set d true by unfold endW; rw [if_pos ⟨e1,e2⟩,hd]; rfl] at hw1 ⊢
   have hdec:decide (0≤(d:Int))=true:=by simp
   unfold X2 at hw1 ⊢
   simp only [Cod.F,Blk.F,List.cons_append,List.nil_append,hd] at hw1 ⊢
   simp -implicitDefEqProofs only [h3,tb,tc,hv,eq_false e1,hdec,hdn,hg,hst,hw1,hl,List.length_map,J1,J2,J3,J4,J5,J6,J7,D5,D6,D7,D8,D9,E0,XP,seval]
   exact ⟨_,rfl,fun y hy=>by
    rcases List.mem_append.1 hy with h | h
    . exact hw2 _ _ (by simp -implicitDefEqProofs only [XP,seval]) (by simp -implicitDefEqProofs only [XP,seval]) (by simp -implicitDefEqProofs only [XP,seval]) y h
    . simp only [List.mem_cons,List.not_mem_nil,or_false] at h; omega⟩
 . rw [show endW b (B.getD at_ [])=B.getD at_ [] by unfold endW; rw [if_neg (fun h=>e2 h.2)]] at hw1 ⊢
   have hdec:decide (0≤b.e.a)=false:=by simp [e2]
   unfold X2 at hw1 ⊢
   simp only [Cod.F,Blk.F,List.cons_append,List.nil_append] at hw1 ⊢
   simp -implicitDefEqProofs only [h3,tb,tc,hv,eq_false e1,hdec,hw1,hl,List.length_map,J1,J2,J3,J4,J5,J6,J7,D5,D6,D7,D8,D9,E0,XP,seval]
   exact ⟨_,rfl,fun y hy=>by
    rcases List.mem_append.1 hy with h | h
    . exact hw2 _ _ (by simp -implicitDefEqProofs only [XP,seval]) (by simp -implicitDefEqProofs only [XP,seval]) (by simp -implicitDefEqProofs only [XP,seval]) y h
    . simp only [List.mem_cons,List.not_mem_nil,or_false] at h; omega⟩
end
end Go.Proofs.AmEnv
set_option maxRecDepth 100000
namespace Go.Proofs.AmEnv
open Go Go.AM
variable {T:Nat->Option (List AV->Option (List AV))}
section
variable {c:Cod} {b:Blk} {A B:List (List Bool)} {i j at_ t n:Nat} {g:Bool} {L:List Int} {tch:List Nat} {fr:PF}
def joinB (A:List (List Bool)) (at_:Nat) (B:List (List Bool)) (t:Int):List (List Bool):=B.set at_ (unionD (B.getD at_ []) (A.getD t.toNat [])).1
theorem xR:∃ fr',evP ⟨A0,T,A5⟩ (.code Ua [(2,.ptr 1 0 0),(3,.ptr 2 0 0),(4,.ptr 3 0 0),(5,.int .i64 (at_:Int)),(6,.ptr 7 0 0),(37,.msl 8 0 L.length 1),(38,.int .i64 (L.length:Int)),(39,.int .i64 (L.length:Int))] ⟨[.row 1 [c.F] 5,.row 1 [.msl 4 0 c.blocks.length 1] 1,.row 1 [.msl 5 0 c.blocks.length 1] 1,.row 1 [.bool g] 1,.row 0 (tab A) 1,.row 0 (tab B) 1,.row 1 [fslN (c.blocks.map Blk.F)] 1,.row 1 [b.F] 5,.row 0 (ints L) 1],7,tch⟩)=some (.ok (.exit 6) fr' ⟨[.row 1 [c.F] 5,.row 1 [.msl 4 0 c.blocks.length 1] 1,.row 1 [.msl 5 0 c.blocks.length 1] 1,.row 1 [.bool g] 1,.row 0 (tab A) 1,.row 0 (tab B) 1,.row 1 [fslN (c.blocks.map Blk.F)] 1,.row 1 [b.F] 5,.row 0 (ints L) 1],7,tch⟩)∧(lookP fr' 2=.ptr 1 0 0∧lookP fr' 3=.ptr 2 0 0∧lookP fr' 4=.ptr 3 0 0∧lookP fr' 5=.int .i64 (at_:Int)∧lookP fr' 6=.ptr 7 0 0):=by
 unfold Ua
 have hlt:decide ((L.length:Int) < (L.length:Int))=false:=by simp
 simp -implicitDefEqProofs only [hlt,XP,seval]
 exact ⟨_,rfl,rfl,rfl,rfl,rfl,rfl⟩
def A6 (N n:Nat) (A:List (List Bool)):Prop:=A.length=N∧∀ r∈A,r.length=n
theorem A6.get {N n:Nat} {A:List (List Bool)} (h:A6 N n A) {i:Nat} (hi:i < N):(A.getD i []).length=n:=by
 rw [List.getD_eq_getElem?_getD,List.getElem?_eq_getElem (by rw [h.1]; exact hi)]
 exact h.2 _ (List.getElem_mem _)
theorem A6.set {N n:Nat} {A:List (List Bool)} (h:A6 N n A) {i:Nat} {r:List Bool} (hr:r.length=n):A6 N n (A.set i r):=⟨by rw [List.length_set]; exact h.1,fun q hq=>by
 rcases List.mem_or_eq_of_mem_set hq with h2 | h2
 . exact h.2 q h2
 . rw [h2]; exact hr⟩
theorem A6.join {N n:Nat} {A B:List (List Bool)} (h:A6 N n B) {at_:Nat} (hat:at_ < N) {t:Int}:A6 N n (joinB A at_ B t):=h.set ((unionD_len _ _).trans (h.get hat))
theorem nL (hN:T 100=none) (hA:A6 c.blocks.length n A) (hs:n≤bigN) (hat:at_ < c.blocks.length) (hL:∀ t∈L,0≤t∧t < (c.blocks.length:Int)) (hsL:L.length≤2):∀ (k j:Nat) (B:List (List Bool)) (tch:List Nat),L.length=j + k->A6 c.blocks.length n B ->
 ∃ fr' tch',evP ⟨A0,T,A5⟩ (.code (.loop Ua) [(2,.ptr 1 0 0),(3,.ptr 2 0 0),(4,.ptr 3 0 0),(5,.int .i64 (at_:Int)),(6,.ptr 7 0 0),(37,.msl 8 0 L.length 1),(38,.int .i64 (L.length:Int)),(39,.int .i64 (j:Int))] ⟨[.row 1 [c.F] 5,.row 1 [.msl 4 0 c.blocks.length 1] 1,.row 1 [.msl 5 0 c.blocks.length 1] 1,.row 1 [.bool g] 1,.row 0 (tab A) 1,.row 0 (tab B) 1,.row 1 [fslN (c.blocks.map Blk.F)] 1,.row 1 [b.F] 5,.row 0 (ints L) 1],7,tch⟩)=some (.ok (.exit 6) fr' ⟨[.row 1 [c.F] 5,.row 1 [.msl 4 0 c.blocks.length 1] 1,.row 1 [.msl 5 0 c.blocks.length 1] 1,.row 1 [.bool g] 1,.row 0 (tab A) 1,.row 0 (tab ((L.drop j).foldl (joinB A at_) B)) 1,.row 1 [fslN (c.blocks.map Blk.F)] 1,.row 1 [b.F] 5,.row 0 (ints L) 1],7,tch'⟩)∧(lookP fr' 2=.ptr 1 0 0∧lookP fr' 3=.ptr 2 0 0∧lookP fr' 4=.ptr 3 0 0∧lookP fr' 5=.int .i64 (at_:Int)∧lookP fr' 6=.ptr 7 0 0)
 | 0,j,B,tch,e,hB=>by
  obtain rfl:j=L.length:=by omega
  obtain ⟨fr',h,hq⟩:=xR (T:=T) (c:=c) (b:=b) (A:=A) (B:=B) (at_:=at_) (g:=g) (L:=L) (tch:=tch)
  exact ⟨fr',tch,by rw [List.drop_length]; exact C4 h,hq⟩
 | k + 1,j,B,tch,e,hB=>by
  have hj:j < L.length:=by omega
  obtain ⟨h0,h1⟩:=hL _ (List.getElem_mem hj)
  obtain ⟨t,ht⟩:=Int.eq_ofNat_of_zero_le h0
  have htb:t < c.blocks.length:=by omega
  obtain ⟨tch1,h⟩:=xO (T:=T) (c:=c) (b:=b) (A:=A) (B:=B) (at_:=at_) (t:=t) (n:=n) (g:=g) (L:=L) (tch:=tch) hN hj ht (by rw [hA.1]; exact htb) hA.1 hB.1 (by rw [hB.1]; exact hat) (hA.get htb) (hB.get hat) hs hsL
  obtain ⟨fr',tch',h',hq⟩:=nL hN hA hs hat hL hsL k (j + 1) (joinB A at_ B L[j]) tch1 (by omega) (hB.join hat)
  refine ⟨fr',tch',?_,hq⟩
  rw [List.drop_eq_getElem_cons hj,List.foldl_cons]
  have e1:joinB A at_ B L[j]=B.set at_ (unionD (B.getD at_ []) (A.getD t [])).1:=by rw [ht]; rfl
  rw [← e1] at h
  exact (C2 h).trans h'
end
end Go.Proofs.AmEnv
