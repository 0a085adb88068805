/- What this program's functions do, at any data. Conditions: none. -/
import Derived.Test.YtekhlbomopiemaaGenB
set_option linter.unusedVariables false
set_option linter.unusedSimpArgs false
set_option linter.unusedSectionVars false
set_option linter.defProp false
set_option maxRecDepth 100000
set_option maxHeartbeats 4000000
open Option renaming some→zs,none→zn
open Bool renaming true→zt,false→zf
noncomputable section
namespace Go.Proofs.AmEnv
open Go Go.AM
def J2(T:Nat->Option (List AV->Option (List AV)))(f:Nat)(g:List AV->Option (List AV))(k:Nat):Option (List AV->Option (List AV)):=bif Nat.beq k f then zs g else T k
theorem C3{E:Env}{T:Nat->Option (List AV->Option (List AV))}{F:Nat->Option PFn}{f:Nat}{g:List AV->Option (List AV)}(hP:PEok ⟨E,T,F⟩)(h:TC E f g):PEok ⟨E,J2 T f g,F⟩:=by
 refine⟨hP.gl,hP.ti,fun k q e=>?_,hP.fn⟩;have e:(bif Nat.beq k f then zs g else T k)=zs q:=e;cases hb:Nat.beq k f with
 |true=>rw[hb]at e;cases e;rw[Nat.eq_of_beq_eq_true hb];exact h
 |false=>rw[hb]at e;exact hP.T k q e
def T0(k:Nat):Option (List AV->Option (List AV)):=zn
section
variable (hP:PEok ⟨A0,T0,A2⟩)
include hP
omit hP in
def T1:=J2 T0 50 Q8
theorem P1:PEok ⟨A0,T1,A2⟩:=C3 hP (C7 hP fun l h=>Uf h)
omit hP in
def T2:=J2 T1 12 L3
theorem P2:PEok ⟨A0,T2,A2⟩:=C3 (P1 hP) (C7 (P1 hP) fun p h=>Ug (by simp only[bigN]at h|-;omega))
omit hP in
def T3:=J2 T2 70 l9
theorem P3:PEok ⟨A0,T3,A2⟩:=C3 (P2 hP) (C7 (P2 hP) fun x h=>Qn rfl h)
omit hP in
def T4:=J2 T3 61 Y7
theorem P4:PEok ⟨A0,T4,A2⟩:=C3 (P3 hP) (C7 (P3 hP) fun l h=>Nt rfl h.1 h.2)
omit hP in
def T5:=J2 T4 51 Ay
theorem P5:PEok ⟨A0,T5,A2⟩:=C3 (P4 hP) (C7 (P4 hP) fun l h=>Nu rfl h.1 h.2)
omit hP in
def T6:=J2 T5 37 w9
theorem P6:PEok ⟨A0,T6,A2⟩:=C3 (P5 hP) (C7 (P5 hP) fun x h=>Uk rfl rfl h)
omit hP in
def T7:=J2 T6 49 Q8
theorem P7:PEok ⟨A0,T7,A2⟩:=C3 (P6 hP) (xG (P6 hP) rfl)
omit hP in
def T8:=J2 T7 34 H7
theorem P8:PEok ⟨A0,T8,A2⟩:=C3 (P7 hP) (mS (P7 hP) rfl)
omit hP in
def T9:=J2 T8 64 U2
theorem P9:PEok ⟨A0,T9,A2⟩:=C3 (P8 hP) (jO rfl rfl)
omit hP in
def T10:=J2 T9 27 O9
theorem P10:PEok ⟨A0,T10,A2⟩:=C3 (P9 hP) (cU (P9 hP))
omit hP in
def T11:=J2 T10 60 D6
theorem P11:PEok ⟨A0,T11,A2⟩:=C3 (P10 hP) (gW (P10 hP))
omit hP in
def T12:=J2 T11 68 Fo
theorem P12:PEok ⟨A0,T12,A2⟩:=C3 (P11 hP) (mG (P11 hP))
omit hP in
def T13:=J2 T12 53 G1
theorem P13:PEok ⟨A0,T13,A2⟩:=C3 (P12 hP) (cV (P12 hP))
omit hP in
def T14:=J2 T13 45 D2
theorem P14:PEok ⟨A0,T14,A2⟩:=C3 (P13 hP) (Fp rfl (P13 hP))
omit hP in
def T15:=J2 T14 43 L9
theorem P15:PEok ⟨A0,T15,A2⟩:=C3 (P14 hP) (Um (P14 hP))
omit hP in
def T16:=J2 T15 32 F4
theorem P16:PEok ⟨A0,T16,A2⟩:=C3 (P15 hP) (cW (P15 hP))
omit hP in
def T17:=J2 T16 36 I1
theorem P17:PEok ⟨A0,T17,A2⟩:=C3 (P16 hP) (gX rfl (P16 hP))
omit hP in
def T18:=J2 T17 76 Fq
theorem P18:PEok ⟨A0,T18,A2⟩:=C3 (P17 hP) (mH (P17 hP))
omit hP in
def T19:=J2 T18 65 w8
theorem P19:PEok ⟨A0,T19,A2⟩:=C3 (P18 hP) (gY rfl (P18 hP))
omit hP in
def T20:=J2 T19 26 M7
theorem P20:PEok ⟨A0,T20,A2⟩:=C3 (P19 hP) (cX rfl rfl (P19 hP))
omit hP in
def T21:=J2 T20 57 Fr
theorem P21:PEok ⟨A0,T21,A2⟩:=C3 (P20 hP) (mI rfl (P20 hP))
omit hP in
def T22:=J2 T21 66 E5
theorem P22:PEok ⟨A0,T22,A2⟩:=C3 (P21 hP) (Fs rfl (P21 hP))
omit hP in
def T23:=J2 T22 58 J6
theorem P23:PEok ⟨A0,T23,A2⟩:=C3 (P22 hP) (Ft rfl rfl rfl rfl rfl rfl (P22 hP))
omit hP in
def T24:=J2 T23 59 M0
theorem P24:PEok ⟨A0,T24,A2⟩:=C3 (P23 hP) (Ht rfl rfl rfl rfl (P23 hP))
omit hP in
def T25:=J2 T24 46 D1
theorem P25:PEok ⟨A0,T25,A2⟩:=C3 (P24 hP) (Hu rfl rfl rfl (P24 hP))
omit hP in
def T26:=J2 T25 47 I6
theorem P26:PEok ⟨A0,T26,A2⟩:=C3 (P25 hP) (Md rfl (P25 hP))
omit hP in
def T27:=J2 T26 28 H3
theorem P27:PEok ⟨A0,T27,A2⟩:=C3 (P26 hP) (Ju rfl rfl rfl rfl rfl (P26 hP))
omit hP in
def T28:=J2 T27 10 L4
theorem P28:PEok ⟨A0,T28,A2⟩:=C3 (P27 hP) (hH rfl rfl rfl (P27 hP))
omit hP in
def T29:=J2 T28 13 z7
theorem P29:PEok ⟨A0,T29,A2⟩:=C3 (P28 hP) (dB (P28 hP))
omit hP in
def T30:=J2 T29 4 S7
theorem P30:PEok ⟨A0,T30,A2⟩:=C3 (P29 hP) (dC rfl rfl (P29 hP))
omit hP in
def T31:=J2 T30 18 U3
theorem P31:PEok ⟨A0,T31,A2⟩:=C3 (P30 hP) (iP (P30 hP))
omit hP in
def T32:=J2 T31 7 S9
theorem P32:PEok ⟨A0,T32,A2⟩:=C3 (P31 hP) (dP rfl rfl rfl rfl rfl rfl rfl rfl rfl (P31 hP))
omit hP in
def T33:=J2 T32 5 M1
theorem P33:PEok ⟨A0,T33,A2⟩:=C3 (P32 hP) (Uz hP)
omit hP in
def T34:=J2 T33 77 Va
theorem P34:PEok ⟨A0,T34,A2⟩:=C3 (P33 hP) (xR (P33 hP))
omit hP in
def T35:=J2 T34 71 Cb
theorem P35:PEok ⟨A0,T35,A2⟩:=C3 (P34 hP) (iC (P34 hP))
omit hP in
def T36:=J2 T35 72 Me
theorem P36:PEok ⟨A0,T36,A2⟩:=C3 (P35 hP) (tG rfl (P35 hP))
omit hP in
def T37:=J2 T36 78 Vd
theorem P37:PEok ⟨A0,T37,A2⟩:=C3 (P36 hP) (xS (P36 hP))
omit hP in
def T38:=J2 T37 73 Cc
theorem P38:PEok ⟨A0,T38,A2⟩:=C3 (P37 hP) (iE (P37 hP))
omit hP in
def T39:=J2 T38 74 Mf
theorem P39:PEok ⟨A0,T39,A2⟩:=C3 (P38 hP) (tI rfl (P38 hP))
omit hP in
def T40:=J2 T39 62 Vf
theorem P40:PEok ⟨A0,T40,A2⟩:=C3 (P39 hP) (xT rfl rfl (P39 hP))
omit hP in
def T41:=J2 T40 63 Vh
theorem P41:PEok ⟨A0,T41,A2⟩:=C3 (P40 hP) (xU rfl rfl (P40 hP))
omit hP in
def T42:=J2 T41 52 Y8
theorem P42:PEok ⟨A0,T42,A2⟩:=C3 (P41 hP) (iH rfl rfl (P41 hP))
omit hP in
def T43:=J2 T42 9 n7
theorem P43:PEok ⟨A0,T43,A2⟩:=C3 (P42 hP) (tR rfl rfl rfl rfl rfl rfl rfl rfl rfl rfl rfl (P42 hP))
omit hP in
def T44:=J2 T43 11 g0
theorem P44:PEok ⟨A0,T44,A2⟩:=C3 (P43 hP) (mQ rfl (P43 hP))
omit hP in
def T45:=J2 T44 6 Py
theorem P45:PEok ⟨A0,T45,A2⟩:=C3 (P44 hP) (CP (P44 hP))
omit hP in
def T46:=J2 T45 22 g9
theorem P46:PEok ⟨A0,T46,A2⟩:=C3 (P45 hP) (Vw (P45 hP))
omit hP in
def T47:=J2 T46 23 Ac
theorem P47:PEok ⟨A0,T47,A2⟩:=C3 (P46 hP) (dU rfl (P46 hP))
omit hP in
def T48:=J2 T47 8 O3
theorem P48:PEok ⟨A0,T48,A2⟩:=C3 (P47 hP) (Yj rfl rfl (P47 hP))
end
theorem zQ{f:Nat}{T:Nat->Option (List AV->Option (List AV))}(hP:PEok ⟨A0,T,A2⟩){a x b y:AV}(H:AM.Comes ⟨A0,T,A2⟩ f [a,b] [.bool zt])(hz:∀Z h,Fz Z h x a)(G:∀Z h,Fz Z h y b):∃h',callω A0 f [x,y] Heap.empty=.ok (.bool zt) h':=by
 obtain ⟨A,D,I,ow1,e,_,l,_⟩:=Gi hP H (Z:=fun _=>False) (h:=Heap.empty) (xs:=[x,y]) rfl (fun i u v C B=>by
  rcases i with _|_|i
  . cases C;cases B;exact hz _ _
  . cases C;cases B;exact G _ _
  . simp at C) (fun id h=>h.elim)
 have l:VL I ow1 D (openTs 0 [AV.bool zt]).2 A [.bool zt]:=l
 match A,l.1 with
 |[v],_=>
  have B:=l.2 0 v (.bool zt) rfl rfl
  have:v=.bool zt:=by
   cases B with
   |fz h=>cases h;rfl
  subst this;exact⟨D,e⟩
theorem LiveFree_ok(hP:PEok ⟨A0,T0,A2⟩){m:Modl}(A:m.ok){B C D G st:Int}{inp:List Int}{x y:AV}(hz:∀Z h,Fz Z h x m.F)(H:∀Z h,Fz Z h y (xF B C D G st inp)):∃h',callω A0 3 [x,y] Heap.empty=.ok (.bool zt) h':=zQ (P48 hP) (Fy (T:=T48) rfl rfl rfl rfl rfl rfl rfl rfl rfl A) hz H
end Go.Proofs.AmEnv
