/- The tree machine: code as trees, memory by kept numbers, and that it says what the machine does. Conditions: none. -/
import Derived.Test.YtionlfkdpjgpjaaPmA
set_option linter.unusedVariables false
set_option linter.unusedSimpArgs false
set_option linter.unusedSectionVars false
set_option linter.defProp false
namespace Go.AM
section
variable {E:Env} {R:AV->AV->Prop} {Z Z':Nat->Prop} {ow ow' ow1 ow2:Nat->Option (List Nat)} {h h':Heap} {K K':PK} {os os' os1 os2:List PO} {x y xc yc v:AV} {L M:List Nat}
theorem kQ {f:IntKind->Int->Int->Option AV} (hx:VR Z ow h os xc x) (hy:VR Z ow h os yc y) (e:V6 x y f=some v):V6 xc yc f=some v:=by
 obtain ⟨k,n,rfl,e1⟩:=B1 e
 obtain ⟨k',m,rfl,_⟩:=B1 e1
 rw [hx.isI,hy.isI]; exact e
def m6 (v:AV):Bool:=match v with | .int _ _=>true | .bool _=>true | .str _=>true | _=>false
theorem Ow (e:m6 v=true):VR Z ow h os v v:=by
 cases v <;> first | exact .i _ _ | exact .b _ | exact .fz (.str _) | cases e
theorem V2 {k:IntKind} {n:Int} (e:Ct k n=some v):m6 v=true:=by rw [Ct,Hc] at e; cases e; rfl
theorem R0 {b:Bool} (e:D6 b=some v):m6 v=true:=by cases b <;> cases e <;> rfl
theorem kR {z:AV} (hx:VR Z ow h os xc x) (e:Lj z x=true):xc=x:=by
 cases z with
 | int j _=>cases x <;> first | exact hx.isI | cases e
 | bool _=>cases x <;> first | exact hx.isB | cases e
 | str _=>cases x <;> first | exact hx.isS | cases e
 | _=>cases e
theorem Ox:∀ (z xs ys:List AV),VL Z ow h os xs ys->y5 z ys=true->xs=ys
 | [],xs,ys,hl,e=>by
  cases ys with
  | nil=>exact List.eq_nil_of_length_eq_zero hl.1
  | cons=>cases e
 | z :: zs,xs,ys,hl,e=>by
  cases ys with
  | nil=>cases e
  | cons y ys =>
   cases xs with
   | nil=>have:=hl.1; simp at this
   | cons x xs =>
    have e:(bif Lj z y then y5 zs ys else false)=true:=e
    cases h1:Lj z y with
    | false=>rw [h1] at e; cases e
    | true =>
     rw [h1] at e
     rw [kR hl.inv.1 h1,Ox zs xs ys hl.inv.2 e]
theorem Rr {k:EqK} {b:Bool} (hx:VR Z ow h os xc x) (hm:Ie x=true) (e:V5 k x=some b):V5 k xc=some b:=by
 cases k with
 | slc =>
  cases x with
  | nilsl=>rw [hx.isN]; exact e
  | msl=>cases hm
  | fsl es f =>
   cases hx with
   | fz z =>
    cases z with
    | emp em=>cases e
    | fsl h1 h2 h3 =>
     rename_i es0 f0
     cases es with
     | nil =>
      have:es0=[]:=List.eq_nil_of_length_eq_zero h1
      subst this
      rw [h3]
      cases f with
      | true=>cases e
      | false=>exact e
     | cons =>
      cases es0 with
      | nil=>simp at h1
      | cons=>exact e
    | view =>
     have:b=false:=by
      cases es with
      | nil=>cases f <;> cases e; rfl
      | cons=>cases e; rfl
     subst this; rfl
  | _=>cases e
 | ptr =>
  cases x with
  | nilptr=>cases hx with | fz z=>cases z; exact e
  | ptr=>cases hx with
   | fz z=>cases z
   | ptr=>exact e
  | fptr=>cases hx with | fz z=>cases z <;> exact e
  | _=>cases e
 | map =>
  cases x with
  | nilmap=>cases hx with | fz z=>cases z; exact e
  | map=>cases hx with
   | fz z=>cases z
   | map=>exact e
  | _=>cases e
 | ifc =>
  cases x with
  | niliface=>cases hx with | fz z=>cases z; exact e
  | iface=>cases hx with
   | fz z=>cases z
   | iface=>exact e
  | _=>cases e
 | _=>cases e
theorem fQ {k:EqK} {b:Bool} (hx:VR Z ow h os xc x) (hy:VR Z ow h os yc y) (hmx:Ie x=true) (hmy:Ie y=true) (e:Ak k x y=some b):Ak k xc yc=some b:=by
 unfold Ak at e ⊢
 cases hny:V5 k y with
 | none=>rw [hny] at e; cases e
 | some c =>
  rw [hny] at e
  rw [Rr hy hmy hny]
  cases hnx:V5 k x with
  | none=>rw [hnx] at e; cases c <;> cases e
  | some d=>rw [hnx] at e; rw [Rr hx hmx hnx]; exact e
def tV (v:AV):Bool:=match v with | .agg _=>true | .int _ _=>true | .bool _=>true | .str _=>true | _=>false
theorem oL {k:EqK} {z:AV} (hz:tV z=false):gN k z yc=Ak k z yc:=by cases z <;> first | rfl | cases hz
theorem kS (hx:VR Z ow h os xc x) (hu:x ≠ .und) (hz:tV x=false):tV xc=false:=by
 cases hx with
 | und=>exact absurd rfl hu
 | mnil em=>rcases em with rfl | rfl <;> rfl
 | agg=>cases hz
 | fz f =>
  cases f with
  | emp em=>cases em <;> rfl
  | agg=>cases hz
  | int=>cases hz
  | bool=>cases hz
  | str=>cases hz
  | _=>rfl
 | _=>rfl
theorem dD {k:EqK} {b:Bool} (hx:VR Z ow h os xc x) (hy:VR Z ow h os yc y) (hmx:Ie x=true) (hmy:Ie y=true) (e:gN k x y=some b):gN k xc yc=some b:=by
 cases x with
 | agg a =>
  obtain ⟨c,rfl,e1⟩:=Y2 e
  obtain ⟨ac,rfl,ha⟩:=hx.agI
  obtain ⟨cc,rfl,hc⟩:=hy.agI
  have e1:gI k a c=some b:=e1
  show gI k ac cc=some b
  cases k with
  | flat z =>
   have e1:A9 (y5 z a && y5 z c) (CL a c)=some b:=e1
   obtain ⟨h1,_⟩:=A7 e1
   rw [Bool.and_eq_true] at h1
   rw [Ox z ac a ha h1.1,Ox z cc c hc h1.2]; exact e1
  | _=>cases e1
 | bool a=>obtain ⟨c,rfl,_⟩:=g8 e; rw [hx.isB,hy.isB]; exact e
 | int j a=>obtain ⟨_,c,rfl,_⟩:=B1 e; rw [hx.isI,hy.isI]; exact e
 | str a=>obtain ⟨c,rfl,_⟩:=H3 e; rw [hx.isS,hy.isS]; exact e
 | und=>unfold gN Ak at e; cases h1:V5 k y with
  | none=>simp only [h1] at e; cases e
  | some c=>simp only [h1] at e; cases c <;> (cases k <;> cases e)
 | _ =>
  have e0:=fQ hx hy hmx hmy e
  rw [oL (kS hx (by intro e; cases e) rfl)]
  exact e0
theorem aQ {op:BinOp} {k:EqK} (hx:VR Z ow h os xc x) (hy:VR Z ow h os yc y) (hmx:Ie x=true) (hmy:Ie y=true) (e:K3 op k x y=some v):K3 op k xc yc=some v∧m6 v=true:=by
 have i2:∀ f:IntKind->Int->Int->Option AV,(∀ k a b v,f k a b=some v->m6 v=true)->V6 x y f=some v->V6 xc yc f=some v∧m6 v=true:=fun f hf e=>by
  refine ⟨kQ hx hy e,?_⟩
  obtain ⟨k,n,rfl,e1⟩:=B1 e
  obtain ⟨k',m,rfl,e2⟩:=B1 e1
  cases hk:kindEq k k' with
  | false=>rw [hk] at e2; cases e2
  | true=>rw [hk] at e2; exact hf _ _ _ _ e2
 have mw:∀ {k n v},L9 k n=some v->m6 v=true:=fun e=>V2 e
 have hob:∀ {o:Option Bool} {f:Bool->Bool},A4 o (fun b=>D6 (f b))=some v->m6 v=true:=fun {o f} e=>by
  obtain ⟨b,_,h2⟩:=A1 e; exact R0 h2
 cases op with
 | add =>
  have e:sB x y=some v:=e
  show sB xc yc=some v∧_
  cases x with
  | str a =>
   obtain ⟨c,rfl,e1⟩:=H3 e
   rw [hx.isS,hy.isS]
   refine ⟨e,?_⟩
   cases hb:Nat.ble (Nat.add (V3 a) (V3 c)) 4611686018427387904 with
   | false=>rw [hb] at e1; cases e1
   | true=>rw [hb] at e1; cases e1; rfl
  | int k n =>
   rw [hx.isI]
   have:=i2 (fun k a b=>L9 k (a + b)) (fun _ _ _ _ e=>mw e) e
   rw [hx.isI] at this; exact this
  | _=>cases e
 | sub=>exact i2 _ (fun _ _ _ _ e=>mw e) e
 | mul=>exact i2 _ (fun _ _ _ _ e=>mw e) e
 | quo=>exact i2 (fun k a b=>bif intEq b 0 then none else L9 k (a.tdiv b)) (fun k a b v e=>by
  cases hb:intEq b 0 with
  | true=>rw [hb] at e; cases e
  | false=>rw [hb] at e; exact mw e) e
 | rem=>exact i2 (fun k a b=>bif intEq b 0 then none else Ct k (a.tmod b)) (fun k a b v e=>by
  cases hb:intEq b 0 with
  | true=>rw [hb] at e; cases e
  | false=>rw [hb] at e; exact V2 e) e
 | and=>exact i2 _ (fun _ _ _ _ e=>V2 e) e
 | or=>exact i2 _ (fun _ _ _ _ e=>V2 e) e
 | xor=>exact i2 _ (fun _ _ _ _ e=>V2 e) e
 | shl =>
  obtain ⟨k,n,rfl,e1⟩:=B1 (show uS x y=some v from e)
  obtain ⟨k',m,rfl,e2⟩:=B1 e1
  rw [hx.isI,hy.isI]
  refine ⟨e,?_⟩
  cases m with
  | ofNat m=>exact mw e2
  | negSucc m=>cases e2
 | shr =>
  obtain ⟨k,n,rfl,e1⟩:=B1 (show uT x y=some v from e)
  obtain ⟨k',m,rfl,e2⟩:=B1 e1
  rw [hx.isI,hy.isI]
  refine ⟨e,?_⟩
  cases m with
  | ofNat m=>exact V2 e2
  | negSucc m=>cases e2
 | eql =>
  have e:A4 (gN k x y) D6=some v:=e
  obtain ⟨b,h1,h2⟩:=A1 e
  refine ⟨?_,R0 h2⟩
  show A4 (gN k xc yc) D6=some v
  rw [dD hx hy hmx hmy h1]; exact h2
 | neq =>
  have e:A4 (gN k x y) (fun b=>D6 (!b))=some v:=e
  obtain ⟨b,h1,h2⟩:=A1 e
  refine ⟨?_,R0 h2⟩
  show A4 (gN k xc yc) (fun b=>D6 (!b))=some v
  rw [dD hx hy hmx hmy h1]; exact h2
 | lss=>exact i2 _ (fun _ _ _ _ e=>R0 e) e
 | leq=>exact i2 _ (fun _ _ _ _ e=>R0 e) e
 | gtr=>exact i2 _ (fun _ _ _ _ e=>R0 e) e
 | geq=>exact i2 _ (fun _ _ _ _ e=>R0 e) e
 | _=>cases e
theorem fR {op:UnOp} (hx:VR Z ow h os xc x) (e:Ir op x=some v):Ir op xc=some v∧m6 v=true:=by
 cases op with
 | neg=>obtain ⟨k,n,rfl,e1⟩:=B1 (show x.onInt none (fun k n=>L9 k (0 - n))=some v from e); rw [hx.isI]; exact ⟨e,V2 e1⟩
 | not=>obtain ⟨b,rfl,e1⟩:=g8 (show x.onBool none (fun b=>D6 (!b))=some v from e); rw [hx.isB]; exact ⟨e,R0 e1⟩
 | _=>cases e
theorem Um {d:TD} (hx:VR Z ow h os xc x) (e:M0 d x=some v):M0 d xc=some v∧m6 v=true:=by
 cases d with
 | int k=>obtain ⟨j,n,rfl,e1⟩:=B1 (show x.onInt none (fun _ n=>L9 k n)=some v from e); rw [hx.isI]; exact ⟨e,V2 e1⟩
 | string=>obtain ⟨s,rfl,e1⟩:=H3 (show x.onStr none (fun s=>some (.str s))=some v from e); rw [hx.isS]; cases e1; exact ⟨rfl,rfl⟩
 | _=>cases e
theorem X9 {n:Nat} (hx:VR Z ow h os xc x) (e:asNat x=some n):asNat xc=some n:=by
 obtain ⟨k,m,rfl,_⟩:=B1 e; rw [hx.isI]; exact e
theorem Un (hx:VR Z ow h os xc x) (e:S3 x=some v):∃ vc,S3 xc=some vc∧VR Z ow h os vc v:=by
 cases x with
 | fptr u o =>
  cases e
  cases hx with
  | fz z=>cases z with
   | fptr o f=>exact ⟨_,rfl,.fz (.fptr o f)⟩
   | pview a b c d=>exact ⟨_,rfl,.fz (.pview a b c d)⟩
 | ptr id i o =>
  cases e
  cases hx with
  | fz z=>cases z
  | ptr a b=>exact ⟨_,rfl,.ptr a b⟩
 | map id =>
  cases e
  cases hx with
  | fz z=>cases z
  | map a b=>exact ⟨_,rfl,.map a b⟩
 | fn f a b =>
  cases hx with
  | fz z=>cases z
  | fn h1 h2 h3 h4 =>
   cases f with
   | func n=>cases e; exact ⟨_,rfl,.fn h1 h2 h3 h4⟩
   | _=>cases e
 | _=>cases e
theorem Jl {d:Nat} (hx:VR Z ow h os xc x) (e:B4 x d=some v):∃ vc,B4 xc d=some vc∧VR Z ow h os vc v:=by
 have pf:∀ (u:AV) (o:Nat),B4 (.fptr u o) d=some (.fptr u (o + d)):=fun u o=>B6 (Nat.add o d) (fun o=>some (AV.fptr u o))
 have pp:∀ (id i o:Nat),B4 (.ptr id i o) d=some (.ptr id i (o + d)):=fun id i o=>B6 (Nat.add o d) (fun o=>some (AV.ptr id i o))
 cases x with
 | fptr u o =>
  rw [pf] at e; cases e
  cases hx with
  | fz z=>cases z with
   | fptr o f=>exact ⟨_,pf _ _,.fz (.fptr _ f)⟩
   | pview a b c f=>exact ⟨_,pp _ _ _,.fz (.pview a b c f)⟩
 | ptr id i o =>
  rw [pp] at e; cases e
  cases hx with
  | fz z=>cases z
  | ptr a b=>exact ⟨_,pp _ _ _,.ptr a b⟩
 | _=>cases e
theorem VL.part {xs ys:List AV} {t:TI} {off:Nat} (hl:VL Z ow h os xs ys) (e:partOf t ys off=some v):∃ vc,partOf t xs off=some vc∧VR Z ow h os vc v:=by
 obtain ⟨w0,h1,h2⟩:=Gm (R:=fun _ a b=>VR Z ow h os a b) hl.1 hl.2 e
 refine ⟨w0,h1,?_⟩
 rcases h2 with ⟨us,vs,rfl,rfl,h3,_,_,_,h4⟩ | ⟨_,_,_,h5⟩
 . exact .agg h3 h4
 . exact h5
theorem Qf {d:TD} {i:Nat} (hx:VR Z ow h os xc x) (e:M2 E d i x=some v):∃ vc,M2 E d i xc=some vc∧VR Z ow h os vc v:=by
 cases d with
 | slice el =>
  have e:onTI E el none (fun te=>Vk te i x)=some v:=e
  show ∃ vc,onTI E el none (fun te=>Vk te i xc)=some vc∧_
  unfold onTI at e ⊢
  cases ht:E.ti el with
  | none=>rw [ht] at e; cases e
  | some te =>
   rw [ht] at e
   simp only at e ⊢
   have e:Vk te i x=some v:=e
   show ∃ vc,Vk te i xc=some vc∧_
   have hm:∀ id off n sz,Vk te i (.msl id off n sz)=if i < n∧sz=te.size then some (AV.ptr id (off + i) 0) else none:=fun id off n sz=>by
    show A9 (Nat.blt i n && Nat.beq sz te.size) (J1 (Nat.add off i) fun o=>some (AV.ptr id o 0))=_
    rw [B6]
    by_cases hc:i < n∧sz=te.size
    . rw [if_pos hc,hc.2,Nat.beq_refl]
      have:Nat.blt i n=true:=Nat.ble_eq_true_of_le hc.1
      rw [this]; rfl
    . rw [if_neg hc]
      cases hg:(Nat.blt i n && Nat.beq sz te.size) with
      | false=>rfl
      | true =>
       rw [Bool.and_eq_true] at hg
       exact absurd ⟨Nat.le_of_ble_eq_true hg.1,Nat.eq_of_beq_eq_true hg.2⟩ hc
   have hf:∀ es f,Vk te i (.fsl es f)=match es[i]? with | some u=>if u.cells.length=te.size then some (.fptr u 0) else none | none=>none:=fun es f=>by
    show A4 (Aj es i) (fun v=>A9 (Nat.beq (lenL v.cells) te.size) (some (AV.fptr v 0)))=_
    rw [L7]
    cases es[i]? with
    | none=>rfl
    | some u =>
     show A9 (Nat.beq (lenL u.cells) te.size) (some (AV.fptr u 0))=if u.cells.length=te.size then some (AV.fptr u 0) else none
     rw [A5]
     by_cases hc:u.cells.length=te.size
     . rw [if_pos hc,hc,Nat.beq_refl]; rfl
     . rw [if_neg hc]
       cases hb:Nat.beq u.cells.length te.size with
       | false=>rfl
       | true=>exact absurd (Nat.eq_of_beq_eq_true hb) hc
   cases x with
   | fsl es f =>
    rw [hf] at e
    cases hu:es[i]? with
    | none=>rw [hu] at e; cases e
    | some u =>
     rw [hu] at e
     simp only at e
     split at e
     . rename_i hsz
       cases e
       cases hx with
       | fz z =>
        cases z with
        | emp em=>simp at hu
        | fsl h1 h2 h3 =>
         rename_i es0 f0
         have hl:i < es0.length:=by rw [h1]; exact (List.getElem?_eq_some_iff.1 hu).1
         have hz:=h2 i _ u (List.getElem?_eq_getElem hl) hu
         refine ⟨.fptr es0[i] 0,?_,.fz (.fptr 0 hz)⟩
         rw [hf,List.getElem?_eq_getElem hl]
         simp only
         rw [if_pos (hz.shape.1.trans hsz)]
        | view h1 h2 h3 h4 h5 h6 =>
         rename_i id off n sz row
         have hi:i < n:=by rw [← h4]; exact (List.getElem?_eq_some_iff.1 hu).1
         have hl:off + i < row.length:=by omega
         have hz:=h5 i _ u (List.getElem?_eq_getElem hl) hu
         have hs:=h6 i _ hi (List.getElem?_eq_getElem hl)
         refine ⟨.ptr id (off + i) 0,?_,.fz (.pview h1 h2 (List.getElem?_eq_getElem hl) hz)⟩
         rw [hm,if_pos ⟨hi,by rw [← hs,hz.shape.1,hsz]⟩]
     . cases e
   | msl id off n sz =>
    rw [hm] at e
    split at e
    . rename_i hc
      cases e
      cases hx with
      | fz z=>cases z
      | mnil _ _ _=>omega
      | msl a b=>exact ⟨_,by rw [hm,if_pos hc],.ptr a b⟩
    . cases e
   | _=>cases e
 | array len el =>
  have e:onTI E el none (fun te=>A9 (Nat.blt i len && Nat.blt 0 te.size) (B4 x (Nat.mul i te.size)))=some v:=e
  show ∃ vc,onTI E el none (fun te=>A9 (Nat.blt i len && Nat.blt 0 te.size) (B4 xc (Nat.mul i te.size)))=some vc∧_
  unfold onTI at e ⊢
  cases ht:E.ti el with
  | none=>rw [ht] at e; cases e
  | some te =>
   rw [ht] at e
   simp only at e ⊢
   obtain ⟨h1,h2⟩:=A7 e
   obtain ⟨vc,h3,h4⟩:=Jl hx h2
   exact ⟨vc,by rw [h1]; exact h3,h4⟩
 | _=>cases e
theorem fS {d:TD} {i:Nat} (hx:VR Z ow h os xc x) (e:Am E d i x=some v):∃ vc,Am E d i xc=some vc∧VR Z ow h os vc v:=by
 cases d with
 | string =>
  obtain ⟨s,rfl,e1⟩:=H3 (show x.onStr none (fun s=>A4 (sC s i) fun b=>some (.int .u8 (Int.ofNat b.toNat)))=some v from e)
  rw [hx.isS]
  obtain ⟨b,_,h2⟩:=A1 e1
  cases h2
  exact ⟨_,e,.i _ _⟩
 | array len el =>
  have e:onTI E el none (fun te=>A9 (Nat.blt i len) (x.onAgg none fun cs=>partOf te cs (Nat.mul i te.size)))=some v:=e
  show ∃ vc,onTI E el none (fun te=>A9 (Nat.blt i len) (xc.onAgg none fun cs=>partOf te cs (Nat.mul i te.size)))=some vc∧_
  unfold onTI at e ⊢
  cases ht:E.ti el with
  | none=>rw [ht] at e; cases e
  | some te =>
   rw [ht] at e
   simp only at e ⊢
   obtain ⟨h1,h2⟩:=A7 e
   obtain ⟨cs,rfl,h3⟩:=Y2 h2
   obtain ⟨xs,rfl,hl⟩:=hx.agI
   obtain ⟨vc,h4,h5⟩:=hl.part h3
   exact ⟨vc,by rw [h1]; exact h4,h5⟩
 | _=>cases e
end
end Go.AM
namespace Go.AM
section
variable {E:Env} {R:AV->AV->Prop} {Z Z':Nat->Prop} {ow ow' ow1 ow2:Nat->Option (List Nat)} {h h':Heap} {K K':PK} {os os' os1 os2:List PO} {x y xc yc v:AV} {L M:List Nat}
def VO (Z:Nat->Prop) (ow:Nat->Option (List Nat)) (h:Heap) (os:List PO) (a b:Option AV):Prop:=(a=none∧b=none)∨∃ x y,a=some x∧b=some y∧VR Z ow h os x y
theorem Uo (hg:rV E) {nt:Nat} {frc:Tr} {fr:PF} (a:FrR Z ow h os nt frc fr) (o:Option Operand):VO Z ow h os (Hg E o frc) (Uf E o fr):=by
 cases o with
 | none=>exact .inl ⟨rfl,rfl⟩
 | some o=>exact .inr ⟨_,_,rfl,rfl,Ed hg a o⟩
theorem H6 {a b:Option AV} {d n:Nat} (hv:VO Z ow h os a b) (e:D8 b d=some n):D8 a d=some n:=by
 rcases hv with ⟨rfl,rfl⟩ | ⟨x,y,rfl,rfl,hv⟩
 . exact e
 . exact X9 hv e
theorem VO.isS {a b:Option AV} (hv:VO Z ow h os a b):a.isSome=b.isSome∧a.isNone=b.isNone:=by
 rcases hv with ⟨rfl,rfl⟩ | ⟨x,y,rfl,rfl,hv⟩ <;> exact ⟨rfl,rfl⟩
theorem j7 {a b:Nat}:Nat.ble a b=true ↔ a≤b:=⟨Nat.le_of_ble_eq_true,Nat.ble_eq_true_of_le⟩
def rW (mx:Option AV) (f:Bool) (m r n:Nat):Bool:=match mx with | some _=>Nat.beq m r | none=>f && Nat.beq r n
theorem Xp {sz:Nat} {es:List AV} {f:Bool} {lo hi mx:Option AV} (e:k7 sz es f lo hi mx=some v):∃ l r m,D8 lo 0=some l∧D8 hi es.length=some r∧D8 mx es.length=some m∧l≤r∧r≤m∧m≤es.length∧N0 sz es=true∧v=.fsl ((es.drop l).take (r - l)) (rW mx f m r es.length):=by
 unfold k7 at e
 obtain ⟨l,h1,e⟩:=A1 e
 obtain ⟨r,h2,e⟩:=A1 e
 obtain ⟨m,h3,e⟩:=A1 e
 obtain ⟨h4,e⟩:=A7 e
 rw [A5] at h2 h3 h4 e
 simp only [Bool.and_eq_true,j7] at h4
 rw [G6,G5] at e
 cases e
 exact ⟨l,r,m,h1,h2,h3,h4.1.1.1,h4.1.1.2,h4.1.2,h4.2,rfl⟩
theorem fT {sz:Nat} {es:List AV} {f:Bool} {lo hi mx:Option AV} {l r m:Nat} (h1:D8 lo 0=some l) (h2:D8 hi es.length=some r) (h3:D8 mx es.length=some m) (h4:l≤r) (h5:r≤m) (h6:m≤es.length) (h7:N0 sz es=true):k7 sz es f lo hi mx=some (.fsl ((es.drop l).take (r - l)) (rW mx f m r es.length)):=by
 unfold k7
 rw [h1]
 show A4 (D8 hi (lenL es)) _=_
 rw [A5,h2]
 show A4 (D8 mx es.length) _=_
 rw [h3]
 show A9 (Nat.ble l r && Nat.ble r m && Nat.ble m es.length && N0 sz es) _=_
 rw [j7.2 h4,j7.2 h5,j7.2 h6,h7,G6,G5]; rfl
theorem Xq {ts id off n sz:Nat} {lo hi mx:Option AV} (e:He ts id off n sz lo hi mx=some v):∃ l r m,D8 lo 0=some l∧D8 hi n=some r∧D8 mx n=some m∧l≤r∧r≤m∧m≤n∧sz=ts∧v=.msl id (off + l) (r - l) sz:=by
 unfold He at e
 obtain ⟨l,h1,e⟩:=A1 e
 obtain ⟨r,h2,e⟩:=A1 e
 obtain ⟨m,h3,e⟩:=A1 e
 obtain ⟨h4,e⟩:=A7 e
 simp only [Bool.and_eq_true,j7] at h4
 rw [B6,B6] at e
 cases e
 exact ⟨l,r,m,h1,h2,h3,h4.1.1.1,h4.1.1.2,h4.1.2,Nat.eq_of_beq_eq_true h4.2,rfl⟩
theorem Rs {ts id off n:Nat} {lo hi mx:Option AV} {l r m:Nat} (h1:D8 lo 0=some l) (h2:D8 hi n=some r) (h3:D8 mx n=some m) (h4:l≤r) (h5:r≤m) (h6:m≤n):He ts id off n ts lo hi mx=some (.msl id (off + l) (r - l) ts):=by
 unfold He
 rw [h1]
 show A4 (D8 hi n) _=_
 rw [h2]
 show A4 (D8 mx n) _=_
 rw [h3]
 show A9 (Nat.ble l r && Nat.ble r m && Nat.ble m n && Nat.beq ts ts) _=_
 rw [j7.2 h4,j7.2 h5,j7.2 h6,Nat.beq_refl,B6,B6]; rfl
theorem aR {d:TD} {lo hi mx lo' hi' mx':Option AV} (hlo:VO Z ow h os lo' lo) (hhi:VO Z ow h os hi' hi) (hmx:VO Z ow h os mx' mx) (hx:VR Z ow h os xc x) (e:Of E d lo hi mx x=some v):∃ vc,sliceA E d lo' hi' mx' xc=some vc∧VR Z ow h os vc v:=by
 have str:∀ {s:List UInt8} {v:AV},Al s lo hi mx=some v->Al s lo' hi' mx'=some v∧∃ s',v=.str s':=fun {s v} e=>by
  unfold Al at e ⊢
  obtain ⟨l,h1,e⟩:=A1 e
  obtain ⟨r,h2,e⟩:=A1 e
  obtain ⟨h3,e⟩:=A7 e
  rw [H6 hlo h1]
  show A4 (D8 hi' (V3 s)) _=_∧_
  rw [H6 hhi h2]
  show A9 (Nat.ble l r && Nat.ble r (V3 s) && mx'.isNone) _=_∧_
  rw [hmx.isS.2,h3]
  cases e; exact ⟨rfl,_,rfl⟩
 have msl:∀ {id off n sz},0 < n->x=.msl id off n sz->sliceA E d lo hi mx x=some v->∃ vc,sliceA E d lo' hi' mx' xc=some vc∧VR Z ow h os vc v:=fun {id off n sz} hn0 hxe e=>by
  subst hxe
  cases d with
  | string=>cases e
  | slice el =>
   have e:onTI E el none (fun te=>Hf te.size lo hi mx (.msl id off n sz))=some v:=e
   show ∃ vc,onTI E el none (fun te=>Hf te.size lo' hi' mx' xc)=some vc∧_
   unfold onTI at e ⊢
   cases ht:E.ti el with
   | none=>rw [ht] at e; cases e
   | some te =>
    rw [ht] at e
    simp only at e ⊢
    have e:He te.size id off n sz lo hi mx=some v:=e
    obtain ⟨l,r,m,h1,h2,h3,h4,h5,h6,rfl,rfl⟩:=Xq e
    cases hx with
    | fz z=>cases z
    | mnil em hn hi0=>exact absurd hn0 (Nat.lt_irrefl 0)
    | msl a b =>
     refine ⟨_,Rs (H6 hlo h1) (H6 hhi h2) (H6 hmx h3) h4 h5 h6,?_⟩
     exact .msl a b
  | _=>cases e
 cases x with
 | nilsl=>cases e
 | msl id off n sz =>
  cases n with
  | zero=>cases e
  | succ n=>exact msl (Nat.succ_pos n) rfl e
 | fsl es f =>
  have e:(if es.isEmpty || mx.isSome then none else (sliceA E d lo hi mx (.fsl es f)).map fun y=>match y with | .fsl l _=>.fsl l l.isEmpty | y=>y)=some v:=e
  split at e
  . cases e
  . rename_i hne
    cases hq:sliceA E d lo hi mx (.fsl es f) with
    | none=>rw [hq] at e; cases e
    | some w =>
     rw [hq] at e
     cases d with
     | string=>cases hq
     | slice el =>
      have hq:onTI E el none (fun te=>Hf te.size lo hi mx (.fsl es f))=some w:=hq
      show ∃ vc,onTI E el none (fun te=>Hf te.size lo' hi' mx' xc)=some vc∧_
      unfold onTI at hq ⊢
      cases ht:E.ti el with
      | none=>rw [ht] at hq; cases hq
      | some te =>
       rw [ht] at hq
       simp only at hq ⊢
       have hq:k7 te.size es f lo hi mx=some w:=hq
       obtain ⟨l,r,m,h1,h2,h3,h4,h5,h6,h7,rfl⟩:=Xp hq
       cases e
       obtain ⟨u,us,rfl⟩:∃ u us,es=u :: us:=by cases es with
        | nil=>exact absurd rfl hne
        | cons u us=>exact ⟨u,us,rfl⟩
       have hmn:mx'=none:=by
        cases hm:mx' with
        | none=>rfl
        | some q =>
         have h8:=hmx.isS.1
         rw [hm] at h8
         exact absurd (by rw [Bool.or_eq_true]; exact .inr (by rw [← h8]; rfl)) hne
       have hu:u.cells.length=te.size:=by
        have h7:Nat.beq (lenL u.cells) te.size=true:=h7
        rw [A5] at h7; exact Nat.eq_of_beq_eq_true h7
       cases hx with
       | fz z =>
        cases z with
        | fsl g1 g2 g3 =>
         rename_i es0 f0
         obtain ⟨u0,us0,rfl⟩:∃ u us,es0=u :: us:=by cases es0 with
          | nil=>simp at g1
          | cons u us=>exact ⟨u,us,rfl⟩
         have hu0:=(g2 0 u0 u rfl rfl).shape.1
         refine ⟨_,fT (sz:=te.size) (es:=u0 :: us0) (f:=f0) (H6 hlo h1) (H6 hhi (by rw [g1]; exact h2)) (H6 hmx (by rw [g1]; exact h3)) h4 h5 (by rw [g1]; exact h6) (by show Nat.beq (lenL u0.cells) te.size=true; rw [A5,hu0,hu,Nat.beq_refl]),?_⟩
         refine .fz (.fsl (by simp at g1 ⊢; omega) (fun i x y hx hy=>?_) (by rw [hmn,g3]; rfl))
         rw [E3] at hx hy
         split at hx
         . rename_i hi; rw [if_pos hi] at hy; exact g2 _ x y hx hy
         . cases hx
        | view g1 g2 g3 g4 g5 g6 =>
         rename_i id off n sz row
         have hl0:off < row.length:=by simp at g4; omega
         have hz0:=g5 0 _ u (List.getElem?_eq_getElem hl0) rfl
         have hsz:sz=te.size:=by rw [← g6 0 _ (by simp at g4; omega) (List.getElem?_eq_getElem hl0),hz0.shape.1,hu]
         subst hsz
         rw [g4] at h2 h3 h6
         refine ⟨_,Rs (id:=id) (off:=off) (H6 hlo h1) (H6 hhi h2) (H6 hmx h3) h4 h5 h6,?_⟩
         refine .fz (.view (row:=row) g1 g2 (by omega) (by simp at g4 ⊢; omega) (fun i x y hx hy=>?_) (fun i x hi hx=>g6 (l + i) x (by omega) (by rw [← Nat.add_assoc]; exact hx)))
         rw [E3] at hy
         split at hy
         . exact g5 (l + i) x y (by rw [← Nat.add_assoc]; exact hx) hy
         . cases hy
     | _=>cases hq
 | str s =>
  cases d with
  | string =>
   rw [hx.isS]
   obtain ⟨h1,s',rfl⟩:=str (show Al s lo hi mx=some v from e)
   exact ⟨_,h1,.fz (.str s')⟩
  | slice el =>
   have e:onTI E el none (fun te=>Hf te.size lo hi mx (.str s))=some v:=e
   unfold onTI at e
   cases ht:E.ti el with
   | none=>rw [ht] at e; cases e
   | some te=>rw [ht] at e; cases e
  | _=>cases e
 | _ =>
  cases d with
  | slice el =>
   have e:onTI E el none (fun te=>none)=some v:=e
   unfold onTI at e
   cases ht:E.ti el with
   | none=>rw [ht] at e; cases e
   | some te=>rw [ht] at e; cases e
  | _=>cases e
theorem AK (s:H1 Z ow h K.os) {id:Nat} {es:List (AV × AV)} (hm:K.os[id]?=some (.mapo es)) (hx:VR Z ow h K.os xc (.map id)):∃ c ces,xc=.map c∧MapR Z ow h id es c ces:=by
 obtain ⟨c0,ces,g⟩:=s.map id es hm
 cases hx with
 | fz z=>cases z
 | map a b =>
  have h1:=a [id] (by unfold loP; rw [hm])
  have:=s.inj _ _ _ h1 g.o
  subst this
  exact ⟨_,ces,rfl,g⟩
theorem kT {α:Type} {h:Heap} {id:Nat} {es:List (AV × AV)} {d:α} {f:List (AV × AV)->α} (hg:h.get id=some (.mapo es)):h.onMapo id d f=f es:=by
 unfold Heap.onMapo; rw [hg]
theorem kU (s:H1 Z ow h K.os) {d:TD} {n:Nat} (hx:VR Z ow h K.os xc x) (e:tT d x K=some n):Yl d xc h=some n:=by
 cases d with
 | string=>obtain ⟨s',rfl,e1⟩:=H3 (show x.onStr none (fun s=>some (V3 s))=some n from e); rw [hx.isS]; exact e
 | slice el =>
  have e:Vi x=some n:=e
  show Vi xc=some n
  cases x with
  | nilsl=>rw [hx.isN]; exact e
  | fsl es f =>
   have e:some (lenL es)=some n:=e
   rw [A5] at e; cases e
   cases hx with
   | fz z =>
    cases z with
    | emp em=>cases em <;> rfl
    | fsl h1 _ _=>show some (lenL _)=_; rw [A5,h1]
    | view _ _ _ h4 _ _=>show some _=some _; rw [h4]
  | msl id off m sz =>
   cases e
   cases hx with
   | fz z=>cases z
   | mnil em _ _=>rcases em with rfl | rfl <;> rfl
   | msl=>rfl
  | _=>cases e
 | map a b =>
  show gO xc h=some n
  cases x with
  | nilmap=>cases hx with | fz z=>cases z; exact e
  | map id =>
   have e:(match K.os[id]? with | some (.mapo es)=>some (dZ es) | _=>none)=some n:=e
   cases hm:K.os[id]? with
   | none=>rw [hm] at e; cases e
   | some q =>
    rw [hm] at e
    cases q with
    | mapo es =>
     obtain ⟨c,ces,rfl,g⟩:=AK s hm hx
     show h.onMapo c none (fun es=>some (dZ es))=some n
     rw [kT g.get,Kn,g.len,← Kn]; exact e
    | _=>cases e
  | _=>cases e
 | _=>cases e
theorem Xr:∀ (l lc:List AV) (x xc v:AV),VL Z ow h os lc l->VR Z ow h os xc x->Hd l x=some v->∃ vc,Hd lc xc=some vc∧VR Z ow h os vc v
 | [],lc,x,xc,v,hl,hx,e=>by
  have:lc=[]:=List.eq_nil_of_length_eq_zero hl.1
  subst this
  cases e; exact ⟨xc,rfl,hx⟩
 | y :: l,[],x,xc,v,hl,hx,e=>by have:=hl.1; simp at this
 | y :: l,yc :: lc,x,xc,v,hl,hx,e=>by
  have e:(x.onInt none fun k a=>y.onInt none fun _ b=>Hd l (.int k (bif intLe b a then a else b)))=some v:=e
  obtain ⟨k,a,rfl,e1⟩:=B1 e
  obtain ⟨_,b,rfl,e2⟩:=B1 e1
  rw [hx.isI,hl.inv.1.isI]
  exact Xr l lc _ _ v hl.inv.2 (.i _ _) e2
theorem Xs:∀ (l lc:List AV) (x xc v:AV),VL Z ow h os lc l->VR Z ow h os xc x->Jn l x=some v->∃ vc,Jn lc xc=some vc∧VR Z ow h os vc v
 | [],lc,x,xc,v,hl,hx,e=>by
  have:lc=[]:=List.eq_nil_of_length_eq_zero hl.1
  subst this
  cases e; exact ⟨xc,rfl,hx⟩
 | y :: l,[],x,xc,v,hl,hx,e=>by have:=hl.1; simp at this
 | y :: l,yc :: lc,x,xc,v,hl,hx,e=>by
  have e:(x.onInt none fun k a=>y.onInt none fun _ b=>Jn l (.int k (bif intLe a b then a else b)))=some v:=e
  obtain ⟨k,a,rfl,e1⟩:=B1 e
  obtain ⟨_,b,rfl,e2⟩:=B1 e1
  rw [hx.isI,hl.inv.1.isI]
  exact Xs l lc _ _ v hl.inv.2 (.i _ _) e2
def VQ (Z:Nat->Prop) (ow:Nat->Option (List Nat)) (h:Heap) (os:List PO) (ps qs:List (Nat × AV)):Prop:=ps.length=qs.length∧∀ (i:Nat) p q,ps[i]?=some p->qs[i]?=some q->p.1=q.1∧VR Z ow h os p.2 q.2
theorem Gu (hg:rV E) {nt:Nat} {frc:Tr} {fr:PF} (a:FrR Z ow h os nt frc fr):∀ l:List (Nat × Operand),VQ Z ow h os (opvps E l frc) (Ue E l fr)
 | []=>⟨rfl,fun i p q hp=>by cases i <;> cases hp⟩
 | o :: l=>⟨congrArg Nat.succ (Gu hg a l).1,fun i p q hp hq=>by
  cases i with
  | zero=>cases hp; cases hq; exact ⟨rfl,Ed hg a o.2⟩
  | succ i=>exact (Gu hg a l).2 i p q hp hq⟩
theorem VQ.inv {p q:Nat × AV} {ps qs:List (Nat × AV)} (v:VQ Z ow h os (p :: ps) (q :: qs)):(p.1=q.1∧VR Z ow h os p.2 q.2)∧VQ Z ow h os ps qs:=⟨v.2 0 p q rfl rfl,by have:=v.1; simpa using this,fun i p q hp hq=>v.2 (i + 1) p q hp hq⟩
theorem aS {xs ys us vs:List AV} {off:Nat} (a:VL Z ow h os xs ys) (b:VL Z ow h os us vs):VL Z ow h os (J9 xs off us) (J9 ys off vs):=by
 rw [N2,N2]
 unfold lsplice
 have t:VL Z ow h os (xs.take off) (ys.take off):=⟨by simp [a.1],fun i x y hx hy=>by
  rw [List.getElem?_take] at hx hy
  split at hx
  . rename_i hi; rw [if_pos hi] at hy; exact a.2 i x y hx hy
  . cases hx⟩
 have d:VL Z ow h os (xs.drop (off + us.length)) (ys.drop (off + vs.length)):=⟨by simp [a.1,b.1],fun i x y hx hy=>by
  rw [List.getElem?_drop] at hx hy
  rw [b.1] at hx
  exact a.2 _ x y hx hy⟩
 exact t.app (b.app d)
theorem oM {v vc:AV} (hv:VR Z ow h os vc v) (ho:C6 v.cells=true):C6 vc.cells=true∧vc.cells.length=v.cells.length∧VL Z ow h os vc.cells v.cells:=by
 rw [E7] at ho
 have hne:v ≠ .und:=fun e=>by subst e; exact absurd (ho .und (List.mem_cons_self ..)) (by decide)
 have hl:=hv.cells hne
 refine ⟨(E7 _).2 fun c hc=>?_,hl.1,hl⟩
 obtain ⟨i,hi⟩:=List.getElem?_of_mem hc
 have hlt:i < v.cells.length:=by rw [← hl.1]; exact (List.getElem?_eq_some_iff.1 hi).1
 have hok:=ho _ (List.getElem_mem hlt)
 refine (hl.2 i c _ hi (List.getElem?_eq_getElem hlt)).okc ?_
 revert hok
 cases v.cells[i] <;> intro hok <;> first | rfl | cases hok
theorem Ig (place:Nat->Option (Nat × Nat)):∀ (ps qs:List (Nat × AV)) (xs ys zs:List AV),VQ Z ow h os ps qs->VL Z ow h os xs ys->N9 place qs ys=some zs->∃ ws,N9 place ps xs=some ws∧VL Z ow h os ws zs
 | [],[],xs,ys,zs,_,hl,e=>by cases e; exact ⟨xs,rfl,hl⟩
 | [],q :: qs,xs,ys,zs,hv,hl,e=>by have:=hv.1; simp at this
 | p :: ps,[],xs,ys,zs,hv,hl,e=>by have:=hv.1; simp at this
 | p :: ps,q :: qs,xs,ys,zs,hv,hl,e=>by
  have e:A4 (place q.1) (fun w=>A9 (Nat.beq (lenL q.2.cells) w.2 && Nat.ble (Nat.add w.1 w.2) (lenL ys) && C6 q.2.cells) (N9 place qs (J9 ys w.1 q.2.cells)))=some zs:=e
  obtain ⟨w,h1,e⟩:=A1 e
  obtain ⟨h2,e⟩:=A7 e
  rw [Bool.and_eq_true,Bool.and_eq_true] at h2
  obtain ⟨⟨h3,h4⟩,h5⟩:=h2
  obtain ⟨⟨h6,h7⟩,h8⟩:=hv.inv
  obtain ⟨g1,g2,g3⟩:=oM h7 h5
  obtain ⟨ws,h9,h10⟩:=Ig place ps qs _ _ zs h8 (aS (off:=w.1) hl g3) e
  refine ⟨ws,?_,h10⟩
  show A4 (place p.1) (fun w=>A9 (Nat.beq (lenL p.2.cells) w.2 && Nat.ble (Nat.add w.1 w.2) (lenL xs) && C6 p.2.cells) (N9 place ps (J9 xs w.1 p.2.cells)))=some ws
  rw [h6,h1]
  show A9 (Nat.beq (lenL p.2.cells) w.2 && Nat.ble (Nat.add w.1 w.2) (lenL xs) && C6 p.2.cells) _=_
  rw [A5,g2,← A5,h3,A5,hl.1,← A5,h4,g1]
  exact h9
theorem aT (hT:uJ E) {t:Nat} {ti:TI} (ht:E.ti t=some ti) {ps qs:List (Nat × AV)} (hv:VQ Z ow h os ps qs) (e:P0 E ti qs=some v):∃ vc,P0 E ti ps=some vc∧VR Z ow h os vc v:=by
 have hz:VL Z ow h os ti.zero.cells ti.zero.cells:=⟨rfl,fun i x y hx hy=>.fz (((hT t ti ht).1 Z h).cell hx hy).1⟩
 unfold P0 at e ⊢
 cases hd:ti.desc with
 | struct fields f =>
  rw [hd] at e
  simp only at e ⊢
  cases hq:N9 (fun i=>A4 (Pj fields i) fun f=>onTI E f.1 none fun g=>some (f.2,g.size)) qs ti.zero.cells with
  | none=>rw [hq] at e; cases e
  | some zs =>
   rw [hq] at e; cases e
   obtain ⟨ws,h1,h2⟩:=Ig _ ps qs _ _ zs hv hz hq
   rw [h1]; exact ⟨_,rfl,.agL h2⟩
 | array len el =>
  rw [hd] at e
  simp only at e ⊢
  unfold onTI at e ⊢
  cases ht:E.ti el with
  | none=>rw [ht] at e; cases e
  | some te =>
   rw [ht] at e
   simp only at e ⊢
   cases hq:N9 (fun i=>some (Nat.mul i te.size,te.size)) qs ti.zero.cells with
   | none=>rw [hq] at e; cases e
   | some zs =>
    rw [hq] at e; cases e
    obtain ⟨ws,h1,h2⟩:=Ig _ ps qs _ _ zs hv hz hq
    rw [h1]; exact ⟨_,rfl,.agL h2⟩
 | _=>rw [hd] at e; cases e
end
end Go.AM
namespace Go.AM
section
variable {E:Env} {R:AV->AV->Prop} {Z Z':Nat->Prop} {ow ow' ow1 ow2:Nat->Option (List Nat)} {h h':Heap} {K K':PK} {os os' os1 os2:List PO} {x y xc yc v k:AV} {L M:List Nat}
def rX (Z:Nat->Prop) (h:Heap) (xs ys:List (AV × AV)):Prop:=xs.length=ys.length∧∀ (i:Nat) p q,xs[i]?=some p->ys[i]?=some q->p.1=q.1∧Fz Z h p.2 q.2
theorem rX.nil:rX Z h [] []:=⟨rfl,fun i p q hp=>by cases i <;> cases hp⟩
theorem rX.cons {p q:AV × AV} {xs ys:List (AV × AV)} (a:p.1=q.1∧Fz Z h p.2 q.2) (l:rX Z h xs ys):rX Z h (p :: xs) (q :: ys):=⟨congrArg Nat.succ l.1,fun i u w hu hw=>by
 cases i with
 | zero=>cases hu; cases hw; exact a
 | succ i=>exact l.2 i u w hu hw⟩
theorem rX.inv {p q:AV × AV} {xs ys:List (AV × AV)} (v:rX Z h (p :: xs) (q :: ys)):(p.1=q.1∧Fz Z h p.2 q.2)∧rX Z h xs ys:=⟨v.2 0 p q rfl rfl,by have:=v.1; simpa using this,fun i p q hp hq=>v.2 (i + 1) p q hp hq⟩
theorem oN {v e:AV} (ha:isAg v=isAg e) (hl:v.cells.length=e.cells.length) (hok:∀ c∈v.cells,isAg c=false):e.withCells 0 v.cells=v:=by
 cases hv:isAg v with
 | true =>
  rw [hv] at ha
  cases v with
  | agg vs =>
   cases e with
   | agg es =>
    show AV.agg (J9 es 0 vs)=.agg vs
    rw [N2]
    unfold lsplice
    have hl:vs.length=es.length:=hl
    rw [List.take_zero,Nat.zero_add,hl,List.drop_length]; simp
   | _=>cases ha
  | _=>cases hv
 | false =>
  rw [hv] at ha
  rw [B9 hv]
  cases e <;> first | rfl | cases ha
theorem H1.congr (s:H1 Z ow h os) (hn:h'.next=h.next) (hg:∀ d,h'.get d=h.get d):H1 Z ow h' os:=by
 have hz:∀ d,Z d->Z d∧h'.get d=h.get d:=fun d hd=>⟨hd,hg d⟩
 have key:PT (VR Z ow h os) Z ow h' os:=by
  refine ⟨fun r es sz hr=>?_,fun r k es sz hr hk=>?_,fun r es hr=>?_,s.inj,fun a M ha=>?_,fun a ha=>by rw [hn]; exact s.zb a ha,s.sb⟩
  . obtain ⟨x,hx⟩:=s.row r es sz hr
    exact ⟨x,hx.reloc (Nat.le_of_eq hn.symm) hz (fun _ _=>.rfl) (fun d _ _=>hg d)⟩
  . obtain ⟨c,ces,g⟩:=s.raw r k es sz hr hk
    exact ⟨c,ces,g.o,by rw [hn]; exact g.lt,(hg c).trans g.get,g.sh,g.vr,g.okp,g.no⟩
  . obtain ⟨c,ces,g⟩:=s.map r es hr
    exact ⟨c,ces,g.o,by rw [hn]; exact g.lt,(hg c).trans g.get,g.len,fun i x y hx hy=>⟨(g.kv i x y hx hy).1,(g.kv i x y hx hy).2.mono hz⟩,g.no⟩
  . obtain ⟨h1,h2⟩:=s.live a M ha
    exact ⟨by rw [hn]; exact h1,h2⟩
 exact H1.to key hz (.refl _ _)
end
end Go.AM
namespace Go.AM
section
variable {E:Env} {R:AV->AV->Prop} {Z Z':Nat->Prop} {ow ow' ow1 ow2:Nat->Option (List Nat)} {h h':Heap} {K K':PK} {os os' os1 os2:List PO} {x y xc yc v k:AV} {L M:List Nat}
theorem Xt (v:AV):Oe v=isAg v:=by cases v <;> rfl
theorem aU {t:TI} {c i off sz:Nat} {es:List AV} (hg:h.get c=some (.row es sz)) (e:u6 t (.ptr c i off) v h=some h'):∃ old,es[i]?=some old∧v.cells.length=t.size∧C6 v.cells=true∧h'=h.set c (.row (es.set i (old.withCells off v.cells)) sz):=by
 have e:h.onRow c none (Ll t c i off v.cells h)=some h':=e
 rw [Gl hg] at e
 obtain ⟨old,h1,e⟩:=A1 e
 obtain ⟨h2,e⟩:=A7 e
 rw [L7] at h1
 rw [Bool.and_eq_true,Bool.and_eq_true,Bool.and_eq_true] at h2
 simp only [f8] at e
 cases e
 refine ⟨old,h1,?_,h2.2,rfl⟩
 have:=Nat.eq_of_beq_eq_true h2.1.1.1
 rw [A5] at this; exact this
theorem fU {t:TI} {p x:AV} (hs:storeP t p x K=some K'):x ≠ .und:=fun e=>by
 subst e
 unfold storeP at hs
 cases p with
 | ptr n i off =>
  simp only at hs
  cases hr:rowOf K.os 6 n with
  | none=>rw [hr] at hs; cases hs
  | some t' =>
   obtain ⟨k,es,sz⟩:=t'
   rw [hr] at hs
   simp only at hs
   cases hi:es[i]? with
   | none=>rw [hi] at hs; cases hs
   | some u =>
    rw [hi] at hs
    simp only at hs
    split at hs
    . cases hraw:rawAt K.os n with
      | true =>
       rw [hraw] at hs
       simp only at hs
       split at hs
       . rename_i hok; exact absurd hok (by decide)
       . cases hs
      | false =>
       rw [hraw] at hs
       simp only at hs
       have e1:(AV.und.cells.all clo && ((u.cells.drop off).take t.size).all clo)=false:=rfl
       rw [e1] at hs
       simp only [Bool.false_eq_true,if_false] at hs
       cases hq:setRow (killP K.os (rootOf K.os 6 n) (chainOf K.os 6 n)) 6 n (es.set i (u.withCells off (List.replicate t.size .und))) with
       | none=>rw [hq] at hs; cases hs
       | some os0 =>
        rw [hq] at hs
        simp only at hs
        have e2:sealC K.ext (rootOf K.os 6 n) n i off os0 AV.und.cells=none:=rfl
        rw [e2] at hs; cases hs
    . cases hs
 | _=>cases hs
theorem Rt {te:TI} {n c:Nat}:∀ (qs ps:List (Nat × AV)) (K K':PK) (ow:Nat->Option (List Nat)) (h:Heap) (ces:List AV),H1 Z ow h K.os->VQ Z ow h K.os ps qs->(∀ i,VR Z ow h K.os (.ptr c i 0) (.ptr n i 0))->h.get c=some (.row ces te.size)->(∀ e∈ces,isAg e=isAg te.zero∧e.cells.length=te.size)->placeP te n qs K=some K' ->
 ∃ ces' h' ow',placeL te.size ps ces=some ces'∧H1 Z ow' h' K'.os∧Keep' ow K.os ow' K'.os∧Stp K.ext Z ow h K Z ow' h' K'∧h'.get c=some (.row ces' te.size)∧(∀ d,d ≠ c->h'.get d=h.get d)∧h'.next=h.next
 | [],ps,K,K',ow,h,ces,s,hv,hp,hg,hsh,e=>by
  have:ps=[]:=List.eq_nil_of_length_eq_zero hv.1
  subst this
  cases e
  exact ⟨ces,h,ow,rfl,s,.refl _ _,.refl _ _ _ _ _,hg,fun _ _=>rfl,rfl⟩
 | q :: qs,[],K,K',ow,h,ces,s,hv,hp,hg,hsh,e=>by have:=hv.1; simp at this
 | q :: qs,p :: ps,K,K',ow,h,ces,s,hv,hp,hg,hsh,e=>by
  obtain ⟨⟨hi,hvr⟩,hvs⟩:=hv.inv
  obtain ⟨i,qv⟩:=q
  obtain ⟨i',pv⟩:=p
  have hi:i'=i:=hi
  subst hi
  unfold placeP at e
  split at e
  . rename_i hag
    rw [Xt,Xt] at hag
    cases hs:storeP te (.ptr n i' 0) qv K with
    | none=>rw [hs] at e; cases e
    | some K1 =>
     rw [hs] at e
     simp only at e
     obtain ⟨h1,ow1,g1,g2,g3,g4⟩:=Rq s (hp i') hvr hs
     obtain ⟨old,o1,o2,o3,rfl⟩:=aU hg g1
     have hne:qv ≠ .und:=fU hs
     have hsv:=hvr.shape hne
     have hol:=hsh old (List.mem_of_getElem? o1)
     have hokc:=(E7 _).1 o3
     have hwa:old.withCells 0 pv.cells=pv:=oN (by rw [hsv.2,hag,hol.1]) (by rw [o2,hol.2]) fun c hc=>y0 (hokc c hc)
     rw [hwa] at g1 g2 g4
     have hlt:i' < ces.length:=(List.getElem?_eq_some_iff.1 o1).1
     have hz1:∀ d,Z d->Z d∧(h.set c (.row (ces.set i' pv) te.size)).get d=h.get d:=fun d hd=>(g4 0).zz d hd
     obtain ⟨ces',h2,ow2,a1,a2,a3,a4,a5,a6,a7⟩:=Rt qs ps K1 K' ow1 (h.set c (.row (ces.set i' pv) te.size)) (ces.set i' pv) g2 ⟨hvs.1,fun j p q hp hq=>⟨(hvs.2 j p q hp hq).1,(hvs.2 j p q hp hq).2.keep hz1 g3⟩⟩ (fun j=>(hp j).keep hz1 g3) (Heap.get_set_eq _ _ hg) (fun e he=>by
      rcases List.mem_or_eq_of_mem_set he with h | h
      . exact hsh e h
      . subst h; exact ⟨by rw [hsv.2,hag],o2⟩) e
     refine ⟨ces',h2,ow2,?_,a2,g3.trans a3,(g4 K.ext).trans s (by rw [(g4 0).ex]; rw [(g4 0).ex] at a4; exact a4),a5,fun d hd=>(a6 d hd).trans (Heap.get_set_ne _ _ fun e=>hd e.symm),a7⟩
     show A9 (Nat.blt i' (lenL ces) && Nat.beq (lenL pv.cells) te.size && C6 pv.cells) (placeL te.size ps (setL ces i' pv))=some ces'
     rw [A5,A5,o2,Nat.beq_refl,o3,f8]
     have:Nat.blt i' ces.length=true:=Nat.ble_eq_true_of_le hlt
     rw [this]; exact a1
  . cases e
theorem oO {t n:Nat} {ps:Array (Nat × Operand)} {ti te:TI} {fr:Tr} {es:List AV} (ht:E.ti t=some ti) (hte:elemOfT E ti.desc=some te) (h1:n * te.size≤65536) (h2:0 < te.size) (hp:placeL te.size (opvps E ps.toList fr) (List.replicate n te.zero)=some es):I2 E t n ps fr h=.ok (.msl h.next 0 n te.size) (h.push (.row es te.size)):=by
 unfold I2 onTI
 rw [ht]
 simp only
 rw [hte]
 show (bif Nat.ble (Nat.mul n te.size) 65536 && Nat.blt 0 te.size then (match placeL te.size (opvps E ps.toList fr) (repL n te.zero) with | none=>Res.bad | some es=>.ok (.msl h.next 0 n te.size) (h.push (.row es te.size))) else .bad)=_
 have e1:Nat.ble (Nat.mul n te.size) 65536=true:=Nat.ble_eq_true_of_le h1
 have e2:Nat.blt 0 te.size=true:=Nat.ble_eq_true_of_le h2
 rw [e1,e2,U1,hp]; rfl
theorem Oy {sz:Nat}:∀ (qs ps:List (Nat × AV)) (ys xs zs:List AV),VQ Z ow h os ps qs->xs.length=ys.length->(∀ (i:Nat) x y,xs[i]?=some x->ys[i]?=some y->VR Z ow h os x y∧y.cells.length=sz∧∀ b∈y.cells,Cl b=true)->placeR sz qs ys=some zs->∃ ws,placeL sz ps xs=some ws∧ws.length=zs.length∧zs.length=ys.length∧∀ (i:Nat) x y,ws[i]?=some x->zs[i]?=some y->VR Z ow h os x y∧y.cells.length=sz∧∀ b∈y.cells,Cl b=true
 | [],ps,ys,xs,zs,hv,hl,hr,e=>by
  have:ps=[]:=List.eq_nil_of_length_eq_zero hv.1
  subst this
  cases e; exact ⟨xs,rfl,hl,rfl,hr⟩
 | q :: qs,[],ys,xs,zs,hv,hl,hr,e=>by have:=hv.1; simp at this
 | q :: qs,p :: ps,ys,xs,zs,hv,hl,hr,e=>by
  obtain ⟨⟨hi,hvr⟩,hvs⟩:=hv.inv
  obtain ⟨i,qv⟩:=q
  obtain ⟨i',pv⟩:=p
  have hi:i'=i:=hi
  subst hi
  unfold placeR at e
  split at e
  . rename_i hc
    obtain ⟨h1,h2,h3⟩:=hc
    rw [List.all_eq_true] at h3
    have hne:qv ≠ .und:=fun e=>by subst e; exact absurd (h3 .und (List.mem_cons_self ..)) (by decide)
    have hvl:=hvr.cells hne
    have hok:C6 pv.cells=true:=(E7 _).2 fun c hc=>by
     obtain ⟨j,hj⟩:=List.getElem?_of_mem hc
     have hjl:j < qv.cells.length:=by rw [← hvl.1]; exact (List.getElem?_eq_some_iff.1 hj).1
     exact (hvl.2 j c _ hj (List.getElem?_eq_getElem hjl)).okc (h3 _ (List.getElem_mem hjl))
    obtain ⟨ws,a1,a2,a3,a4⟩:=Oy qs ps (ys.set i' qv) (xs.set i' pv) zs hvs (by simp [hl]) (fun j x y hx hy=>by
     rw [List.getElem?_set] at hx hy
     by_cases ej:i'=j
     . subst ej
       rw [if_pos rfl,if_pos (by omega)] at hx
       rw [if_pos rfl,if_pos h1] at hy
       cases hx; cases hy; exact ⟨hvr,h2,h3⟩
     . rw [if_neg ej] at hx hy; exact hr j x y hx hy) e
    refine ⟨ws,?_,a2,by simpa using a3,a4⟩
    show A9 (Nat.blt i' (lenL xs) && Nat.beq (lenL pv.cells) sz && C6 pv.cells) (placeL sz ps (setL xs i' pv))=some ws
    rw [A5,A5,hvl.1,h2,Nat.beq_refl,hok,f8]
    have:Nat.blt i' xs.length=true:=Nat.ble_eq_true_of_le (by omega)
    rw [this]; exact a1
  . cases e
theorem aV (hT:uJ E) (s:H1 Z ow h K.os) (hx:K.ext≤K.os.length) {n e:Nat} {te:TI} (hte:E.ti e=some te) {ps qs:List (Nat × AV)} (hv:VQ Z ow h K.os ps qs) (e:s4 te n qs K=some (v,K')) :
 n * te.size≤65536∧0 < te.size∧∃ es ow',placeL te.size ps (List.replicate n te.zero)=some es∧H1 Z ow' (h.push (.row es te.size)) K'.os∧Keep' ow K.os ow' K'.os∧VR Z ow' (h.push (.row es te.size)) K'.os (.msl h.next 0 n te.size) v∧∀ b,Stp b Z ow h K Z ow' (h.push (.row es te.size)) K':=by
 have hz:=hT _ _ hte
 have hgl:∀ ob d,d < h.next->(h.push ob).get d=h.get d:=fun ob d hd=>Heap.get_push_ne h _ (by omega)
 unfold s4 at e
 split at e
 . rename_i hc
   refine ⟨hc.1,hc.2,?_⟩
   have hrep:∀ {i:Nat} {x:AV},(List.replicate n te.zero)[i]?=some x->x=te.zero:=fun {i x} h=>(List.mem_replicate.1 (List.mem_of_getElem? h)).2
   cases hp:placeP te K.os.length qs (newRow 0 (List.replicate n te.zero) te.size K) with
   | some K1 =>
    rw [hp] at e
    cases e
    obtain ⟨z1,z2,z3,z4⟩:=Xm (n:=n) s hx hz.1 hz.2
    have hzz:∀ d,Z d->Z d∧(h.push (.row (List.replicate n te.zero) te.size)).get d=h.get d:=fun d hd=>⟨hd,hgl _ d (s.zb d hd)⟩
    have hpt:∀ i,VR Z (R7 ow h.next [K.os.length]) (h.push (.row (List.replicate n te.zero) te.size)) (newRow 0 (List.replicate n te.zero) te.size K).os (.ptr h.next i 0) (.ptr K.os.length i 0):=fun i=>.ptr (fun L hL=>by
     have hL:loP (K.os ++ [PO.row 0 (List.replicate n te.zero) te.size]) 6 K.os.length=some L:=hL
     rw [If _ (.inl ⟨_,_,_,rfl⟩)] at hL; cases hL
     exact N8 _ _ _) (by show _ < (K.os ++ [PO.row 0 (List.replicate n te.zero) te.size]).length; simp)
    obtain ⟨es,h2,ow2,a1,a2,a3,a4,a5,a6,a7⟩:=Rt qs ps _ _ _ _ (List.replicate n te.zero) z1 ⟨hv.1,fun i p q hp hq=>⟨(hv.2 i p q hp hq).1,(hv.2 i p q hp hq).2.keep hzz z2⟩⟩ hpt (Heap.get_push_eq h _) (fun e he=>by rw [(List.mem_replicate.1 he).2]; exact ⟨rfl,hz.2⟩) hp
    have hge:∀ d,(h.push (.row es te.size)).get d=h2.get d:=fun d=>by
     by_cases hd:d=h.next
     . subst hd; rw [a5]; exact Heap.get_push_eq h _
     . rw [a6 d hd]
       exact (Heap.get_push_ne h _ hd).trans (Heap.get_push_ne h _ hd).symm
    have hn2:(h.push (.row es te.size)).next=h2.next:=a7.symm
    have st:=(z4 K.ext).trans s a4
    have hkk:=z2.trans a3
    refine ⟨es,ow2,a1,a2.congr hn2 hge,hkk,(z3.keep (Z':=Z) (h':=h2) (fun d hd=>a4.zz d hd) a3).keep (fun d hd=>⟨hd,hge d⟩) (.refl _ _),fun b=>⟨Nat.le_succ _,fun d hd=>⟨hd,hgl _ d (s.zb d hd)⟩,fun _ hd=>.inl hd,fun d hd _=>hgl _ d hd,st.uo,⟨[],rfl,fun d hd=>by cases hd⟩,st.mv,st.tm,st.ex,st.xk,st.rd⟩⟩
   | none =>
    rw [hp] at e
    simp only at e
    cases hr:placeR te.size qs (List.replicate n te.zero) with
    | none=>rw [hr] at e; cases e
    | some zs =>
     rw [hr] at e
     cases e
     have hzc:∀ b∈te.zero.cells,Cl b=true:=fun b hb=>by
      obtain ⟨i,hi⟩:=List.getElem?_of_mem hb
      exact Uj ((hz.1 Z h).cell hi hi).2
     obtain ⟨ws,a1,a2,a3,a4⟩:=Oy qs ps (List.replicate n te.zero) (List.replicate n te.zero) zs hv rfl (fun i x y hx hy=>by rw [hrep hx,hrep hy]; exact ⟨.fz (hz.1 Z h),hz.2,hzc⟩) hr
     have hne:∀ y:AV,(∀ b∈y.cells,Cl b=true)->y ≠ .und:=fun y hy e=>by subst e; exact absurd (hy .und (List.mem_cons_self ..)) (by decide)
     have he:(∃ k es z',PO.row 2 zs te.size=.row k es z')∨∃ es,PO.row 2 zs te.size=.mapo es:=.inl ⟨_,_,_,rfl⟩
     have key:=PT.lay (ob:=.row ws te.size) s (e:=.row 2 zs te.size) (s9 _ he) (fun es z e=>by cases e) (fun k es z e hk=>by
      cases e
      refine ⟨h.next,ws,N8 _ _ _,Nat.lt_succ_self _,Kv h _,⟨a2,fun i x y hx hy=>?_⟩,fun i x y hx hy o a b ha hb=>?_,fun i y hy b hb=>?_,Gt s⟩
      . obtain ⟨b1,b2,b3⟩:=a4 i x y hx hy
        have:=b1.shape (hne y b3)
        exact ⟨this.1.trans b2,b2,this.2⟩
      . obtain ⟨b1,b2,b3⟩:=a4 i x y hx hy
        exact (b1.cells (hne y b3)).2 o a b ha hb
      . have hl:i < ws.length:=by rw [a2]; exact (List.getElem?_eq_some_iff.1 hy).1
        exact .inl ((a4 i _ y (List.getElem?_eq_getElem hl) hy).2.2 b hb)) (fun es e=>by cases e)
     refine ⟨ws,_,a1,H1.to key.1 (fun d hd=>⟨hd,hgl _ d (s.zb d hd)⟩) key.2,key.2,.msl (fun L hL=>?_) (by show _ < (K.os ++ [PO.row 2 zs te.size]).length; simp),fun b=>Stp.lay s hx⟩
     have hL:loP (K.os ++ [PO.row 2 zs te.size]) 6 K.os.length=some L:=hL
     rw [If _ he] at hL; cases hL
     exact N8 _ _ _
 . cases e
end
end Go.AM
namespace Go.AM
section
variable {E:Env} {R:AV->AV->Prop} {Z Z':Nat->Prop} {ow ow' ow1 ow2:Nat->Option (List Nat)} {h h':Heap} {K K':PK} {os os' os1 os2:List PO} {x y xc yc v k:AV} {L M:List Nat}
theorem Kw {o:Option (AV × PK)} (e:Gd o=.val v K'):o=some (v,K'):=by
 cases o with
 | none=>cases e
 | some p=>cases e; rfl
theorem O8 {o:Option AV} (e:Bs o K=.val v K'):o=some v∧K'=K:=by
 cases o with
 | none=>cases e
 | some p=>cases e; exact ⟨rfl,rfl⟩
theorem I7 {t:Nat} {f:TI->OpS} (e:V1 E t f=.val v K'):∃ ti,E.ti t=some ti∧f ti=.val v K':=by
 unfold V1 at e
 cases h:E.ti t with
 | none=>rw [h] at e; cases e
 | some ti=>rw [h] at e; exact ⟨ti,rfl,e⟩
structure Did' (Z:Nat->Prop) (ow:Nat->Option (List Nat)) (h:Heap) (K:PK) (r:Res) (v:AV) (K':PK) (ow':Nat->Option (List Nat)) (vc:AV) (h':Heap):Prop where
 r:r=.ok vc h'
 st:H1 Z ow' h' K'.os
 kp:Keep' ow K.os ow' K'.os
 vr:VR Z ow' h' K'.os vc v
 sp:∀ b,Stp b Z ow h K Z ow' h' K'
theorem Did'.same (s:H1 Z ow h K.os) {r:Res} {vc:AV} (hr:r=.ok vc h) (hv:VR Z ow h K.os vc v):Did' Z ow h K r v K ow vc h:=⟨hr,s,.refl _ _,hv,fun b=>.refl _ _ _ _ _⟩
theorem K8 {α:Type} {t:Nat} {ti:TI} (ht:E.ti t=some ti) (d:α) (f:TI->α):onTI E t d f=f ti:=by unfold onTI; rw [ht]
theorem aW (hT:uJ E) (s:H1 Z ow h K.os) (hx:K.ext≤K.os.length) {b:Builtin} {ts:List TypeId} {args argc:List AV} (hl:VL Z ow h K.os argc args) (e:I6 E b ts args K=some (v,K')):∃ ow' vc h',Did' Z ow h K (lift2 (E0 E b ts argc h)) v K' ow' vc h':=by
 have hres:∀ {vc:AV},E0 E b ts argc h=some (vc,h)->VR Z ow h K.os vc v->K'=K->∃ ow' vc h',Did' Z ow h K (lift2 (E0 E b ts argc h)) v K' ow' vc h':=fun {vc} e1 e2 e3=>by
  subst e3; rw [e1]; exact ⟨ow,vc,h,.same s rfl e2⟩
 unfold I6 at e
 split at e
 . -- len
   rename_i t _ x _
   cases ht:E.ti t with
   | none=>rw [ht] at e; cases e
   | some ti =>
    rw [ht] at e
    simp only at e
    cases hn:tT ti.desc x K with
    | none=>rw [hn] at e; cases e
    | some n =>
     rw [hn] at e
     cases e
     obtain ⟨xc,lc,rfl⟩:∃ xc lc,argc=xc :: lc:=by
      cases argc with
      | nil=>have:=hl.1; simp at this
      | cons a l=>exact ⟨a,l,rfl⟩
     refine hres (vc:=.int .i64 (Int.ofNat n)) ?_ (.i _ _) rfl
     show onTI E t none (fun ti=>A4 (Yl ti.desc xc h) fun n=>J1 n fun n=>some (AV.int .i64 (Int.ofNat n),h))=_
     rw [K8 ht,kU s hl.inv.1 hn]
     exact B6 n (fun n=>some (AV.int .i64 (Int.ofNat n),h))
 . -- append
   rename_i t tx tr sl x _
   cases ht:E.ti t with
   | none=>rw [ht] at e; cases e
   | some ti =>
    cases htx:E.ti tx with
    | none=>rw [ht,htx] at e; cases e
    | some tix =>
     rw [ht,htx] at e
     simp only at e
     cases hte:elemOfT E ti.desc with
     | none=>rw [hte] at e; cases e
     | some te =>
      rw [hte] at e
      simp only at e
      split at e
      . rename_i hsz
        obtain ⟨sc,xc,lc,rfl⟩:∃ sc xc lc,argc=sc :: xc :: lc:=by
         cases argc with
         | nil=>have:=hl.1; simp at this
         | cons a l=>cases l with
          | nil=>have:=hl.1; simp at this
          | cons b l=>exact ⟨a,b,l,rfl⟩
        have hvs:=hl.inv.1
        have hvx:=hl.inv.2.inv.1
        have hb:E0 E .append (t :: tx :: tr) (sc :: xc :: lc) h=(match tix.desc with
         | .int _=>A4 (asNat xc) fun n=>A9 (Nat.ble (Nat.mul n te.bytes) 140737488355328) (F4 te sc (repL n te.zero) h)
         | _=>A4 (elems xc h) fun xs=>A9 (G7 te.size xs) (F4 te sc xs h)):=by
         show onTI E t none (fun ti=>A4 (elemOfT E ti.desc) fun te=>A9 (Nat.blt 0 te.size) (onTI E tx none fun tix=>match tix.desc with
          | .int _=>A4 (asNat xc) fun n=>A9 (Nat.ble (Nat.mul n te.bytes) 140737488355328) (F4 te sc (repL n te.zero) h)
          | _=>A4 (elems xc h) fun xs=>A9 (G7 te.size xs) (F4 te sc xs h)))=_
         rw [K8 ht,hte]
         show A9 (Nat.blt 0 te.size) _=_
         have:Nat.blt 0 te.size=true:=Nat.ble_eq_true_of_le hsz
         rw [this]
         show onTI E tx none _=_
         rw [K8 htx]
        have hz:(∀ Z h,Fz Z h te.zero te.zero)∧te.zero.cells.length=te.size:=by
         unfold elemOfT at hte
         cases hd:ti.desc with
         | slice el=>rw [hd] at hte; exact hT _ _ hte
         | _=>rw [hd] at hte; cases hte
        have app:∀ {x:AV} {xcs xs:List AV},True:=fun {_ _ _}=>trivial
        have hplain:(∀ k,tix.desc ≠ .int k)->j6 te sl x K=some (v,K')->∃ ow' vc h',Did' Z ow h K (lift2 (E0 E .append (t :: tx :: tr) (sc :: xc :: lc) h)) v K' ow' vc h':=fun hni e=>by
         unfold j6 at e
         cases htb:takeB te sl K.os with
         | none=>rw [htb] at e; cases e
         | some q =>
          obtain ⟨base,os1,tc⟩:=q
          rw [htb] at e
          simp only at e
          cases hte':takeE te x K.ext tc os1 with
          | none=>rw [hte'] at e; cases e
          | some q =>
           obtain ⟨xs,os2⟩:=q
           rw [hte'] at e
           simp only at e
           split at e
           . rename_i hw
             obtain ⟨ow1,tb⟩:=Xo s hvs htb
             obtain ⟨ow2,xcs,g1,g2,tk⟩:=kP tb.pt (hvx.keep (fun _ hz=>⟨hz,rfl⟩) tb.keep) hte'
             obtain ⟨vc,h',owf,a1,a2,a3,a4,a5⟩:=dC s hx tb tk hw e
             refine ⟨owf,vc,h',?_,a2,a3,a4,a5⟩
             have:E0 E .append (t :: tx :: tr) (sc :: xc :: lc) h=some (vc,h'):=by
              rw [hb]
              have e2:(A4 (elems xc h) fun xs=>A9 (G7 te.size xs) (F4 te sc xs h))=some (vc,h'):=by
               rw [g1]
               show A9 (G7 te.size xcs) (F4 te sc xcs h)=_
               rw [g2]; exact a1
              cases hd:tix.desc with
              | int k=>exact absurd hd (hni k)
              | _=>exact e2
             rw [this]; rfl
           . cases e
        split at e
        . rename_i kk hd
          cases hn:asNat x with
          | none=>rw [hn] at e; cases e
          | some n =>
           rw [hn] at e
           simp only at e
           split at e
           . rename_i hbnd
             unfold cW at e
             cases htb:takeB te sl K.os with
             | none=>rw [htb] at e; cases e
             | some q =>
              obtain ⟨base,os1,tc⟩:=q
              rw [htb] at e
              simp only at e
              split at e
              . rename_i hw
                obtain ⟨ow1,tb⟩:=Xo s hvs htb
                have hrep:∀ {i:Nat} {x:AV},(List.replicate n te.zero)[i]?=some x->x=te.zero:=fun {i x} h=>(List.mem_replicate.1 (List.mem_of_getElem? h)).2
                have tk:TkE (VR Z ow h K.os) Z ow1 h os1 K.ext tc te (List.replicate n te.zero) (List.replicate n te.zero) os1 ow1:=.closed tb.pt rfl fun i a b ha hb=>by rw [hrep ha,hrep hb]; exact ⟨hz.1 Z h,hz.2⟩
                have hw':(!(List.replicate n te.zero).isEmpty || wholeP sl K.os)=true:=by
                 cases n with
                 | zero=>simpa using hw
                 | succ n=>rfl
                obtain ⟨vc,h',owf,a1,a2,a3,a4,a5⟩:=dC s hx tb tk hw' e
                refine ⟨owf,vc,h',?_,a2,a3,a4,a5⟩
                have:E0 E .append (t :: tx :: tr) (sc :: xc :: lc) h=some (vc,h'):=by
                 rw [hb,hd]
                 show A4 (asNat xc) (fun n=>A9 (Nat.ble (Nat.mul n te.bytes) 140737488355328) (F4 te sc (repL n te.zero) h))=_
                 rw [X9 hvx hn]
                 show A9 (Nat.ble (Nat.mul n te.bytes) 140737488355328) (F4 te sc (repL n te.zero) h)=_
                 have:Nat.ble (Nat.mul n te.bytes) 140737488355328=true:=Nat.ble_eq_true_of_le hbnd
                 rw [this,U1]; exact a1
                rw [this]; rfl
              . cases e
           . cases e
        . rename_i hni
          exact hplain (fun k hk=>hni k hk) e
      . cases e
 . -- max
   rename_i _ x l
   obtain ⟨xc,lc,rfl⟩:∃ xc lc,argc=xc :: lc:=by
    cases argc with
    | nil=>have:=hl.1; simp at this
    | cons a l=>exact ⟨a,l,rfl⟩
   cases hm:Hd l x with
   | none=>rw [hm] at e; cases e
   | some w =>
    rw [hm] at e; cases e
    obtain ⟨vc,h1,h2⟩:=Xr l lc x xc v hl.inv.2 hl.inv.1 hm
    exact hres (vc:=vc) (show (Hd lc xc).map (·,h)=_ by rw [h1]; rfl) h2 rfl
 . rename_i _ x l
   obtain ⟨xc,lc,rfl⟩:∃ xc lc,argc=xc :: lc:=by
    cases argc with
    | nil=>have:=hl.1; simp at this
    | cons a l=>exact ⟨a,l,rfl⟩
   cases hm:Jn l x with
   | none=>rw [hm] at e; cases e
   | some w =>
    rw [hm] at e; cases e
    obtain ⟨vc,h1,h2⟩:=Xs l lc x xc v hl.inv.2 hl.inv.1 hm
    exact hres (vc:=vc) (show (Jn lc xc).map (·,h)=_ by rw [h1]; rfl) h2 rfl
 . cases e
end
end Go.AM
namespace Go.AM
section
variable {E:Env} {R:AV->AV->Prop} {Z Z':Nat->Prop} {ow ow' ow1 ow2:Nat->Option (List Nat)} {h h':Heap} {K K':PK} {os os' os1 os2:List PO} {x y xc yc v k:AV} {L M:List Nat} {nt:Nat} {frc:Tr} {fr:PF}
theorem Oz (hg:rV E) (hT:uJ E) (s:H1 Z ow h K.os) (hx:K.ext≤K.os.length) (a:FrR Z ow h K.os nt frc fr) {op:Op} (e:prim E op fr K=.val v K') (call:C9):∃ ow' vc h',Did' Z ow h K (evOp E call op frc h) v K' ow' vc h':=by
 have V:=Ed hg a
 cases op with
 | move x=>cases e; exact ⟨ow,_,h,.same s rfl (V x)⟩
 | assign x=>cases e; exact ⟨ow,_,h,.same s rfl (V x)⟩
 | pick c p q =>
  have e:Ge (opvP E c fr) (opvP E p fr) (opvP E q fr) K=.val v K':=e
  have Vc:=V c
  cases hc:opvP E c fr with
  | bool b =>
   rw [hc] at e Vc
   have hcc:=Vc.isB
   cases b with
   | true=>cases e; exact ⟨ow,_,h,.same s (show (opv E c frc).onBool Res.bad (fun t=>match t with | true=>.ok (opv E p frc) h | false=>.ok (opv E q frc) h)=_ by rw [hcc]; rfl) (V p)⟩
   | false=>cases e; exact ⟨ow,_,h,.same s (show (opv E c frc).onBool Res.bad (fun t=>match t with | true=>.ok (opv E p frc) h | false=>.ok (opv E q frc) h)=_ by rw [hcc]; rfl) (V q)⟩
  | _=>rw [hc] at e; cases e
 | alloc t =>
  obtain ⟨ti,ht,e⟩:=I7 e
  cases e
  have hz:=hT t ti ht
  obtain ⟨b1,b2,b3,b4⟩:=dB s hx (.fz (hz.1 Z h)) hz.2 (fun b hb=>by
   obtain ⟨i,hi⟩:=List.getElem?_of_mem hb
   exact Uj ((hz.1 Z h).cell hi hi).2)
  exact ⟨_,_,_,show onTI E t Res.bad (fun ti=>Ym ti.size ti.zero h)=_ by rw [K8 ht]; rfl,b1,b2,b3,b4⟩
 | box t x =>
  obtain ⟨ti,ht,e⟩:=I7 e
  have e:(if (opvP E x fr).cells.length=ti.size∧(opvP E x fr).cells.all Cl=true then OpS.val (.ptr K.os.length 0 0) (newRow 1 [opvP E x fr] ti.size K) else .bad)=.val v K':=e
  split at e
  . rename_i hc
    cases e
    have hok:=List.all_eq_true.1 hc.2
    obtain ⟨b1,b2,b3,b4⟩:=dB s hx (V x) hc.1 hok
    have hne:opvP E x fr ≠ .und:=fun e=>by
     have:=hok .und (by rw [e]; exact List.mem_cons_self ..)
     cases this
    have hvl:=(V x).cells hne
    have hokc:C6 (opv E x frc).cells=true:=(E7 _).2 fun c hc'=>by
     obtain ⟨j,hj⟩:=List.getElem?_of_mem hc'
     have hjl:j < (opvP E x fr).cells.length:=by rw [← hvl.1]; exact (List.getElem?_eq_some_iff.1 hj).1
     exact (hvl.2 j c _ hj (List.getElem?_eq_getElem hjl)).okc (hok _ (List.getElem_mem hjl))
    refine ⟨_,_,_,?_,b1,b2,b3,b4⟩
    show onTI E t Res.bad (fun ti=>bif Nat.beq (lenL (opv E x frc).cells) ti.size && C6 (opv E x frc).cells then Ym ti.size (opv E x frc) h else .bad)=_
    rw [K8 ht,A5,hvl.1,hc.1,Nat.beq_refl,hokc]; rfl
  . cases e
 | build t ps =>
  obtain ⟨ti,ht,e⟩:=I7 e
  obtain ⟨e',rfl⟩:=O8 e
  have e:=e'
  obtain ⟨vc,h1,h2⟩:=aT hT ht (Gu hg a ps.toList) e
  exact ⟨ow,vc,h,.same s (show onTI E t Res.bad (fun ti=>lift (P0 E ti (opvps E ps.toList frc)) h)=_ by rw [K8 ht,h1]; rfl) h2⟩
 | buildSlice t n ps =>
  obtain ⟨ti,ht,e⟩:=I7 e
  cases hte:elemOfT E ti.desc with
  | none=>simp only [hte] at e; cases e
  | some te =>
   simp only [hte] at e
   have e:=Kw e
   obtain ⟨el,hel⟩:∃ el,E.ti el=some te:=by
    unfold elemOfT at hte
    cases hd:ti.desc with
    | slice el=>rw [hd] at hte; exact ⟨el,hte⟩
    | _=>rw [hd] at hte; cases hte
   obtain ⟨g1,g2,es,ow',g3,b1,b2,b3,b4⟩:=aV (e:=el) hT s hx hel (Gu hg a ps.toList) e
   exact ⟨ow',_,_,oO ht hte g1 g2 g3,b1,b2,b3,b4⟩
 | insert t m k x=>cases e
 | load t p =>
  obtain ⟨ti,ht,e⟩:=I7 e
  obtain ⟨vc,h1,h2,h3,h4,h5,h6,ps,h7,h8⟩:=Xl s (V p) (Kw e)
  refine ⟨ow,vc,h,show onTI E t Res.bad (fun ti=>lift (y6 ti (opv E p frc) h) h)=_ by rw [K8 ht,h1]; rfl,h2,h3,h4,fun b=>⟨Nat.le_refl _,fun _ hz=>⟨hz,rfl⟩,fun _ hz=>.inl hz,fun _ _ _=>rfl,fun d M ho _ e=>(by rw [ho] at e; cases e),⟨[],rfl,fun d hd=>(by cases hd)⟩,fun d r t ho _=>.inl ⟨t,ho⟩,fun r hr _=>(by rw [h6]; exact hr),h5,fun j _ c _=>.rfl,fun j hj hr=>?_⟩⟩
  unfold isRt at hr ⊢
  rw [h7,List.getElem?_append_left (by omega)] at hr; exact hr
 | store t p x =>
  obtain ⟨ti,ht,e⟩:=I7 e
  have e:=Kw e
  cases hs:storeP ti (opvP E p fr) (opvP E x fr) K with
  | none=>rw [hs] at e; cases e
  | some K1 =>
   rw [hs] at e; cases e
   obtain ⟨h',ow',g1,g2,g3,g4⟩:=Rq s (V p) (V x) hs
   exact ⟨ow',.und,h',show onTI E t Res.bad (fun ti=>liftH (u6 ti (opv E p frc) (opv E x frc) h))=_ by rw [K8 ht,g1]; rfl,g2,g3,.und,g4⟩
 | nilCheck x =>
  obtain ⟨e',rfl⟩:=O8 e
  have e:=e'
  obtain ⟨vc,h1,h2⟩:=Un (V x) e
  exact ⟨ow,vc,h,.same s (show lift (S3 (opv E x frc)) h=_ by rw [h1]; rfl) h2⟩
 | binOp op t x y u =>
  have e:(if Ie (opvP E x fr)=true∧Ie (opvP E y fr)=true then Bs (K3 op (J2 E t) (opvP E x fr) (opvP E y fr)) K else .bad)=.val v K':=e
  split at e
  . rename_i hc
    obtain ⟨e',rfl⟩:=O8 e
    have e:=e'
    obtain ⟨h1,h2⟩:=aQ (V x) (V y) hc.1 hc.2 e
    have h3:gQ E op t (opv E x frc) (opv E y frc)=none:=by
     have h4:Dj E t (opv E x frc) (opv E y frc)=none∨(op ≠ .eql∧op ≠ .neq):=by
      by_cases ho:op=.eql∨op=.neq
      . left
        have hne:∀ i k o i' k' o',opv E x frc=.ptr i k o->opv E y frc ≠ .ptr i' k' o':=fun i k o i' k' o' hx hy=>by
         rw [hx,hy] at h1
         rcases ho with rfl | rfl
         . have h1:A4 (Ak (J2 E t) (.ptr i k o) (.ptr i' k' o')) D6=some v:=h1
           cases hk:J2 E t <;> rw [hk] at h1 <;> cases h1
         . have h1:A4 (Ak (J2 E t) (.ptr i k o) (.ptr i' k' o')) (fun b=>D6 (!b))=some v:=h1
           cases hk:J2 E t <;> rw [hk] at h1 <;> cases h1
        unfold Dj
        cases hxv:opv E x frc with
        | ptr i k o =>
         cases hyv:opv E y frc with
         | ptr i' k' o'=>exact absurd hyv (hne _ _ _ _ _ _ hxv)
         | _=>rfl
        | _=>rfl
      . exact .inr ⟨fun e=>ho (.inl e),fun e=>ho (.inr e)⟩
     rcases h4 with h4 | ⟨h4,h5⟩
     . unfold gQ
       rw [h4]
       cases op <;> rfl
     . cases op <;> first | rfl | exact absurd rfl h4 | exact absurd rfl h5
    refine ⟨ow,v,h,.same s ?_ (Ow h2)⟩
    show lift (EC (gQ E op t (opv E x frc) (opv E y frc)) (K3 op (J2 E t) (opv E x frc) (opv E y frc))) h=_
    rw [h3,h1]; rfl
  . cases e
 | unOp op t x =>
  obtain ⟨e',rfl⟩:=O8 e
  have e:=e'
  obtain ⟨h1,h2⟩:=fR (V x) e
  exact ⟨ow,v,h,.same s (show lift (Ir op (opv E x frc)) h=_ by rw [h1]; rfl) (Ow h2)⟩
 | convert t d x =>
  obtain ⟨ti,ht,e⟩:=I7 e
  obtain ⟨td,htd,e⟩:=I7 e
  obtain ⟨e',rfl⟩:=O8 e
  have e:=e'
  obtain ⟨h1,h2⟩:=Um (V x) e
  exact ⟨ow,v,h,.same s (show onTI E t Res.bad (fun _=>onTI E d .bad fun td=>lift (M0 td.desc (opv E x frc)) h)=_ by rw [K8 ht,K8 htd,h1]; rfl) (Ow h2)⟩
 | makeInterface t x =>
  obtain ⟨ti,ht,e⟩:=I7 e
  cases hp:M1 ti.desc with
  | false=>rw [hp] at e; cases e
  | true =>
   rw [hp] at e; cases e
   exact ⟨ow,_,h,.same s (show onTI E t Res.bad (fun ti=>bif M1 ti.desc then .ok (.iface t (opv E x frc)) h else .bad)=_ by rw [K8 ht,hp]; rfl) (.iface (V x))⟩
 | makeFunc f fs cs =>
  cases e
  have v1:=Gk hg a fs.toList
  have v2:=Gk hg a cs.toList
  exact ⟨ow,_,h,.same s rfl (.fn v1.1 v1.2 v2.1 v2.2)⟩
 | makeMap t r =>
  cases r with
  | some r=>cases e
  | none =>
   cases e
   obtain ⟨b1,b2,b3,b4⟩:=fP s hx
   exact ⟨_,_,_,rfl,b1,b2,b3,b4⟩
 | makeSlice t l c =>
  obtain ⟨ti,ht,e⟩:=I7 e
  unfold cY at e
  cases hte:elemOfT E ti.desc with
  | none=>rw [hte] at e; cases e
  | some te =>
   cases hl:asNat (opvP E l fr) with
   | none=>rw [hte,hl] at e; cases e
   | some n =>
    cases hc:asNat (opvP E c fr) with
    | none=>rw [hte,hl,hc] at e; cases e
    | some m =>
     rw [hte,hl,hc] at e
     simp only at e
     split at e
     . rename_i hcond
       cases e
       have hz:(∀ Z h,Fz Z h te.zero te.zero)∧te.zero.cells.length=te.size:=by
        unfold elemOfT at hte
        cases hd:ti.desc with
        | slice el=>rw [hd] at hte; exact hT _ _ hte
        | _=>rw [hd] at hte; cases hte
       obtain ⟨b1,b2,b3,b4⟩:=Xm (n:=n) s hx hz.1 hz.2
       refine ⟨_,_,_,?_,b1,b2,b3,b4⟩
       show J8 E t l c frc h=_
       unfold J8
       rw [K8 ht]
       simp only [hte,X9 (V l) hl,X9 (V c) hc]
       have e1:Nat.ble n m=true:=Nat.ble_eq_true_of_le hcond.1
       have e2:Nat.ble (Nat.mul m te.bytes) 140737488355328=true:=Nat.ble_eq_true_of_le hcond.2.1
       have e3:Nat.blt 0 te.size=true:=Nat.ble_eq_true_of_le hcond.2.2
       rw [e1,e2,e3,U1]; rfl
     . cases e
 | slice t x lo hi mx =>
  obtain ⟨ti,ht,e⟩:=I7 e
  cases hb:(hi.isNone && mx.isSome) with
  | true=>rw [hb] at e; cases e
  | false =>
   rw [hb] at e
   obtain ⟨e',rfl⟩:=O8 e
   have e:=e'
   obtain ⟨vc,h1,h2⟩:=aR (Uo hg a lo) (Uo hg a hi) (Uo hg a mx) (V x) e
   exact ⟨ow,vc,h,.same s (show onTI E t Res.bad (fun ti=>bif hi.isNone && mx.isSome then .bad else lift (sliceA E ti.desc (Hg E lo frc) (Hg E hi frc) (Hg E mx frc) (opv E x frc)) h)=_ by rw [K8 ht,hb,h1]; rfl) h2⟩
 | fieldAddr t x f =>
  obtain ⟨ti,ht,e⟩:=I7 e
  obtain ⟨e',rfl⟩:=O8 e
  have e:=e'
  unfold I8 at e
  cases hf:fieldAt E ti f with
  | none=>rw [hf] at e; cases e
  | some p =>
   rw [hf] at e
   simp only at e
   split at e
   . rename_i hsz
     obtain ⟨vc,h1,h2⟩:=Jl (V x) e
     refine ⟨ow,vc,h,.same s ?_ h2⟩
     show onTI E t Res.bad (fun ti=>lift (A4 (fieldAt E ti f) fun p=>A9 (Nat.blt 0 p.1.size) (B4 (opv E x frc) p.2)) h)=_
     rw [K8 ht,hf]
     show lift (A9 (Nat.blt 0 p.1.size) (B4 (opv E x frc) p.2)) h=_
     have:Nat.blt 0 p.1.size=true:=Nat.ble_eq_true_of_le hsz
     rw [this,h1]; rfl
   . cases e
 | field t x f =>
  obtain ⟨ti,ht,e⟩:=I7 e
  obtain ⟨e',rfl⟩:=O8 e
  have e:=e'
  unfold AI at e
  cases hf:fieldAt E ti f with
  | none=>rw [hf] at e; cases e
  | some p =>
   rw [hf] at e
   have Vx:=V x
   cases hxv:opvP E x fr with
   | agg cs =>
    rw [hxv] at Vx
    simp only [hxv] at e
    obtain ⟨xs,hxs,hl⟩:=Vx.agI
    obtain ⟨vc,h1,h2⟩:=hl.part e
    refine ⟨ow,vc,h,.same s ?_ h2⟩
    show onTI E t Res.bad (fun ti=>lift (A4 (fieldAt E ti f) fun p=>(opv E x frc).onAgg none fun cs=>partOf p.1 cs p.2) h)=_
    rw [K8 ht,hf,hxs]
    show lift (partOf p.1 xs p.2) h=_
    rw [h1]; rfl
   | _=>simp only [hxv] at e; cases e
 | indexAddr t x i =>
  obtain ⟨ti,ht,e⟩:=I7 e
  obtain ⟨e',rfl⟩:=O8 e
  have e:=e'
  unfold Gf at e
  cases hn:asNat (opvP E i fr) with
  | none=>rw [hn] at e; cases e
  | some n =>
   rw [hn] at e
   obtain ⟨vc,h1,h2⟩:=Qf (V x) e
   refine ⟨ow,vc,h,.same s ?_ h2⟩
   show onTI E t Res.bad (fun ti=>lift (A4 (asNat (opv E i frc)) fun i=>M2 E ti.desc i (opv E x frc)) h)=_
   rw [K8 ht,X9 (V i) hn]
   show lift (M2 E ti.desc n (opv E x frc)) h=_
   rw [h1]; rfl
 | index t x i =>
  obtain ⟨ti,ht,e⟩:=I7 e
  obtain ⟨e',rfl⟩:=O8 e
  have e:=e'
  unfold AJ at e
  cases hn:asNat (opvP E i fr) with
  | none=>rw [hn] at e; cases e
  | some n =>
   rw [hn] at e
   obtain ⟨vc,h1,h2⟩:=fS (V x) e
   refine ⟨ow,vc,h,.same s ?_ h2⟩
   show onTI E t Res.bad (fun ti=>lift (A4 (asNat (opv E i frc)) fun i=>Am E ti.desc i (opv E x frc)) h)=_
   rw [K8 ht,X9 (V i) hn]
   show lift (Am E ti.desc n (opv E x frc)) h=_
   rw [h1]; rfl
 | lookup t m k ok=>obtain ⟨ti,ht,e⟩:=I7 e; cases e
 | mapUpdate t m k x=>cases e
 | typeAssert x t0 t ok =>
  obtain ⟨ti,ht,e⟩:=I7 e
  cases hb:(M1 ti.desc && !ok) with
  | false=>rw [hb] at e; cases e
  | true =>
   rw [hb] at e
   obtain ⟨e',rfl⟩:=O8 e
   have e:=e'
   have Vx:=V x
   cases hxv:opvP E x fr with
   | iface u w =>
    rw [hxv] at e Vx
    have e:(bif Nat.beq u t then some w else none)=some v:=e
    cases hut:Nat.beq u t with
    | false=>rw [hut] at e; cases e
    | true =>
     rw [hut] at e; cases e
     generalize hq:opv E x frc=q at Vx
     cases Vx with
     | fz z=>cases z
     | iface vw =>
      refine ⟨ow,_,h,.same s ?_ vw⟩
      show onTI E t Res.bad (fun ti=>bif M1 ti.desc && !ok then lift (Sl t (opv E x frc)) h else .bad)=_
      rw [K8 ht,hb,hq]
      show lift (bif Nat.beq u t then some _ else none) h=_
      rw [hut]; rfl
   | _=>rw [hxv] at e; cases e
 | extract x i =>
  have e:(match opvP E x fr with | .tup vs=>Bs vs[i]? K | _=>.bad)=.val v K':=e
  have Vx:=V x
  cases hxv:opvP E x fr with
  | tup vs =>
   rw [hxv] at e Vx
   obtain ⟨e',rfl⟩:=O8 e
   have e:=e'
   generalize hq:opv E x frc=q at Vx
   cases Vx with
   | fz z=>cases z
   | tup h1 h2 =>
    rename_i xs
    have hl:i < xs.length:=by rw [h1]; exact (List.getElem?_eq_some_iff.1 e).1
    refine ⟨ow,xs[i],h,.same s ?_ (h2 i _ v (List.getElem?_eq_getElem hl) e)⟩
    show (opv E x frc).onTup Res.bad (fun vs=>lift (Aj vs i) h)=_
    rw [hq]
    show lift (Aj xs i) h=_
    rw [L7,List.getElem?_eq_getElem hl]; rfl
  | _=>rw [hxv] at e; cases e
 | call c =>
  obtain ⟨callee,args,ts⟩:=c
  cases callee with
  | builtin b=>exact aW hT s hx (Gk hg a args.toList) (Kw e)
  | value g =>
   have e:Gg (opvP E g fr) (Ad E args.toList fr)=.val v K':=e
   unfold Gg at e
   cases hgv:opvP E g fr with
   | fn f fs cs=>rw [hgv] at e; cases f <;> cases e
   | _=>rw [hgv] at e; cases e
  | invoke=>cases e
 | panic x =>
  have e:(match opvP E x fr with | .iface t v=>OpS.pan (.iface t v) | _=>.bad)=.val v K':=e
  split at e <;> cases e
 | _=>cases e
theorem Ih (hg:rV E) (a:FrR Z ow h K.os nt frc fr) {op:Op} {f:Nat} {args:List AV} (e:prim E op fr K=.call f args):∃ argc,VL Z ow h K.os argc args∧∀ call:C9,evOp E call op frc h=call f argc h:=by
 have V:=Ed hg a
 have noT:∀ {t:Nat} {g:TI->OpS},(∀ ti,g ti ≠ .call f args)->V1 E t g ≠ .call f args:=fun {t g} hn e=>by
  unfold V1 at e
  cases ht:E.ti t with
  | none=>rw [ht] at e; cases e
  | some ti=>rw [ht] at e; exact hn ti e
 have noV:∀ {o:Option AV},Bs o K ≠ .call f args:=fun {o} e=>by cases o <;> cases e
 have noO:∀ {o:Option (AV × PK)},Gd o ≠ .call f args:=fun {o} e=>by cases o <;> cases e
 cases op with
 | call c =>
  obtain ⟨callee,ar,ts⟩:=c
  cases callee with
  | builtin b=>exact absurd e noO
  | invoke=>cases e
  | value g =>
   have e:Gg (opvP E g fr) (Ad E ar.toList fr)=.call f args:=e
   unfold Gg at e
   have Vg:=V g
   cases hgv:opvP E g fr with
   | fn f' fs cs =>
    rw [hgv] at e Vg
    cases f' with
    | func n =>
     cases e
     generalize hq:opv E g frc=q at Vg
     cases Vg with
     | fz z=>cases z
     | fn h1 h2 h3 h4 =>
      rename_i fs' cs'
      refine ⟨fs' ++ (opvs E ar.toList frc ++ cs'),VL.app ⟨h1,h2⟩ (VL.app (Gk hg a ar.toList) ⟨h3,h4⟩),fun call=>?_⟩
      show R1 call (opv E g frc) (opvs E ar.toList frc) h=_
      rw [hq]
      show call f (appL fs' (appL (opvs E ar.toList frc) cs')) h=_
      rw [H7,H7]
    | _=>cases e
   | _=>rw [hgv] at e; cases e
 | move | assign | makeFunc=>cases e
 | pick c p q =>
  have e:Ge (opvP E c fr) (opvP E p fr) (opvP E q fr) K=.call f args:=e
  unfold Ge at e
  split at e <;> cases e
 | alloc t=>exact absurd e (noT fun ti e=>by cases e)
 | box t x=>exact absurd e (noT fun ti e=>by unfold kJ at e; split at e <;> cases e)
 | build t ps=>exact absurd e (noT fun ti=>noV)
 | buildSlice t n ps=>exact absurd e (noT fun ti e=>by split at e <;> first | exact noO e | cases e)
 | insert=>cases e
 | load=>exact absurd e (noT fun ti=>noO)
 | store=>exact absurd e (noT fun ti=>noO)
 | nilCheck=>exact absurd e noV
 | binOp op t x y u =>
  have e:Q3 E op t (opvP E x fr) (opvP E y fr) K=.call f args:=e
  unfold Q3 at e
  split at e
  . exact absurd e noV
  . cases e
 | unOp=>exact absurd e noV
 | convert=>exact absurd e (noT fun ti=>noT fun td=>noV)
 | makeInterface t x=>exact absurd e (noT fun ti e=>by cases hp:M1 ti.desc <;> rw [hp] at e <;> cases e)
 | makeMap t r=>cases r <;> cases e
 | makeSlice=>exact absurd e (noT fun ti e=>by unfold cY at e; split at e <;> first | cases e | (split at e <;> cases e))
 | slice t x lo hi mx=>exact absurd e (noT fun ti e=>by
  cases hb:(hi.isNone && mx.isSome) with
  | true=>rw [hb] at e; cases e
  | false=>rw [hb] at e; exact noV e)
 | fieldAddr=>exact absurd e (noT fun ti=>noV)
 | field=>exact absurd e (noT fun ti=>noV)
 | indexAddr=>exact absurd e (noT fun ti=>noV)
 | index=>exact absurd e (noT fun ti=>noV)
 | lookup=>exact absurd e (noT fun ti=>noV)
 | mapUpdate=>cases e
 | typeAssert x t0 t ok=>exact absurd e (noT fun ti e=>by
  cases hb:(M1 ti.desc && !ok) with
  | false=>rw [hb] at e; cases e
  | true=>rw [hb] at e; exact noV e)
 | extract x i =>
  have e:(match opvP E x fr with | .tup vs=>Bs vs[i]? K | _=>.bad)=.call f args:=e
  split at e
  . exact absurd e noV
  . cases e
 | panic x =>
  have e:(match opvP E x fr with | .iface t v=>OpS.pan (.iface t v) | _=>.bad)=.call f args:=e
  split at e <;> cases e
 | _=>cases e
theorem kV (hg:rV E) (a:FrR Z ow h K.os nt frc fr) {op:Op} (e:prim E op fr K=.pan v):∃ vc,VR Z ow h K.os vc v∧∀ call:C9,evOp E call op frc h=.pan vc h:=by
 have V:=Ed hg a
 have noT:∀ {t:Nat} {g:TI->OpS},(∀ ti,g ti ≠ .pan v)->V1 E t g ≠ .pan v:=fun {t g} hn e=>by
  unfold V1 at e
  cases ht:E.ti t with
  | none=>rw [ht] at e; cases e
  | some ti=>rw [ht] at e; exact hn ti e
 have noV:∀ {o:Option AV},Bs o K ≠ .pan v:=fun {o} e=>by cases o <;> cases e
 have noO:∀ {o:Option (AV × PK)},Gd o ≠ .pan v:=fun {o} e=>by cases o <;> cases e
 cases op with
 | panic x =>
  have e:(match opvP E x fr with | .iface t v=>OpS.pan (.iface t v) | _=>.bad)=.pan v:=e
  have Vx:=V x
  cases hxv:opvP E x fr with
  | iface t w =>
   rw [hxv] at e Vx
   cases e
   generalize hq:opv E x frc=q at Vx
   cases Vx with
   | fz z=>cases z
   | iface vw=>exact ⟨_,.iface vw,fun call=>by show eD (opv E x frc) h=_; rw [hq]; rfl⟩
  | _=>rw [hxv] at e; cases e
 | call c =>
  obtain ⟨callee,ar,ts⟩:=c
  cases callee with
  | builtin b=>exact absurd e noO
  | invoke=>cases e
  | value g =>
   have e:Gg (opvP E g fr) (Ad E ar.toList fr)=.pan v:=e
   unfold Gg at e
   split at e
   . split at e <;> cases e
   . cases e
 | move | assign | makeFunc=>cases e
 | pick c p q =>
  have e:Ge (opvP E c fr) (opvP E p fr) (opvP E q fr) K=.pan v:=e
  unfold Ge at e
  split at e <;> cases e
 | alloc t=>exact absurd e (noT fun ti e=>by cases e)
 | box t x=>exact absurd e (noT fun ti e=>by unfold kJ at e; split at e <;> cases e)
 | build t ps=>exact absurd e (noT fun ti=>noV)
 | buildSlice t n ps=>exact absurd e (noT fun ti e=>by split at e <;> first | exact noO e | cases e)
 | insert=>cases e
 | load=>exact absurd e (noT fun ti=>noO)
 | store=>exact absurd e (noT fun ti=>noO)
 | nilCheck=>exact absurd e noV
 | binOp op t x y u =>
  have e:Q3 E op t (opvP E x fr) (opvP E y fr) K=.pan v:=e
  unfold Q3 at e
  split at e
  . exact absurd e noV
  . cases e
 | unOp=>exact absurd e noV
 | convert=>exact absurd e (noT fun ti=>noT fun td=>noV)
 | makeInterface t x=>exact absurd e (noT fun ti e=>by cases hp:M1 ti.desc <;> rw [hp] at e <;> cases e)
 | makeMap t r=>cases r <;> cases e
 | makeSlice=>exact absurd e (noT fun ti e=>by unfold cY at e; split at e <;> first | cases e | (split at e <;> cases e))
 | slice t x lo hi mx=>exact absurd e (noT fun ti e=>by
  cases hb:(hi.isNone && mx.isSome) with
  | true=>rw [hb] at e; cases e
  | false=>rw [hb] at e; exact noV e)
 | fieldAddr=>exact absurd e (noT fun ti=>noV)
 | field=>exact absurd e (noT fun ti=>noV)
 | indexAddr=>exact absurd e (noT fun ti=>noV)
 | index=>exact absurd e (noT fun ti=>noV)
 | lookup=>exact absurd e (noT fun ti=>noV)
 | mapUpdate=>cases e
 | typeAssert x t0 t ok=>exact absurd e (noT fun ti e=>by
  cases hb:(M1 ti.desc && !ok) with
  | false=>rw [hb] at e; cases e
  | true=>rw [hb] at e; exact noV e)
 | extract x i =>
  have e:(match opvP E x fr with | .tup vs=>Bs vs[i]? K | _=>.bad)=.pan v:=e
  split at e
  . exact absurd e noV
  . cases e
 | _=>cases e
end
end Go.AM
namespace Go.AM
section
variable {E:Env} {R:AV->AV->Prop} {Z Z':Nat->Prop} {ow ow' ow1 ow2:Nat->Option (List Nat)} {h h':Heap} {K K':PK} {os os' os1 os2:List PO} {x y xc yc v k:AV} {L M:List Nat} {nt:Nat} {frc:Tr} {fr:PF} {σ:Nat->Option Nat}
theorem j8 (σ:Nat->Option Nat):∀ l:List AV,renL σ l=l.map (G2 σ)
 | []=>rfl
 | v :: l=>by rw [renL,j8 σ l]; rfl
theorem Xu {c:AV} (h:clo c=true):G2 σ c=c:=by cases c <;> first | rfl | cases h
theorem oP (f:Fz Z h x y):G2 σ y=y:=by
 cases f with
 | agg h1 h2 h3 =>
  rename_i xs ys
  show AV.agg (renL σ ys)=.agg ys
  rw [j8]
  have:ys.map (G2 σ)=ys:=by
   conv=>rhs; rw [← List.map_id ys]
   refine List.map_congr_left fun c hc=>?_
   exact Xu (List.all_eq_true.1 h3 c hc)
  rw [this]
 | _=>rfl
theorem dE (v:AV):isAg (G2 σ v)=isAg v:=by
 cases v with
 | msl id off n sz=>unfold G2; cases σ id <;> rfl
 | ptr id i o=>unfold G2; cases σ id <;> rfl
 | map id=>unfold G2; cases σ id <;> rfl
 | _=>rfl
theorem y1 (v:AV):(G2 σ v).cells=v.cells.map (G2 σ)∧isAg (G2 σ v)=isAg v:=by
 refine ⟨?_,dE v⟩
 cases hv:isAg v with
 | false=>rw [B9 hv,B9 ((dE v).trans hv)]; rfl
 | true =>
  cases v with
  | agg cs=>show renL σ cs=_; rw [j8]; rfl
  | _=>cases hv
theorem kW {c:AV} (h:Cl c=true∨c=.und):Cl (G2 σ c)=true∨G2 σ c=.und:=by
 rcases h with h | rfl
 . cases c with
   | msl id off n sz=>unfold G2; cases σ id <;> first | exact .inl rfl | exact .inr rfl
   | ptr id i o=>unfold G2; cases σ id <;> first | exact .inl rfl | exact .inr rfl
   | map id=>unfold G2; cases σ id <;> first | exact .inl rfl | exact .inr rfl
   | agg=>cases h
   | tup=>cases h
   | any=>exact .inr rfl
   | und=>exact .inr rfl
   | _=>exact .inl rfl
 . exact .inr rfl
def Ren (σ:Nat->Option Nat) (ow:Nat->Option (List Nat)) (os:List PO) (ow':Nat->Option (List Nat)) (os':List PO):Prop:=∀ id j,σ id=some j->id < os.length->j < os'.length∧∀ L',loP os' 6 j=some L'->∃ L,loP os 6 id=some L∧∀ c,ow c=some L ↔ ow' c=some L'
theorem VR.ren (v:VR Z ow h os x y) (hZ:∀ id,Z id->Z' id∧h'.get id=h.get id) (hr:Ren σ ow os ow' os'):VR Z' ow' h' os' x (G2 σ y):=by
 have pw:∀ {xs ys:List AV},xs.length=ys.length->(∀ (i:Nat) x y,xs[i]?=some x->ys[i]?=some y->VR Z' ow' h' os' x (G2 σ y))->xs.length=(renL σ ys).length∧∀ (i:Nat) x y,xs[i]?=some x->(renL σ ys)[i]?=some y->VR Z' ow' h' os' x y:=fun {xs ys} h1 h2=>by
  rw [j8]
  refine ⟨by simpa using h1,fun i x y hx hy=>?_⟩
  rw [List.getElem?_map] at hy
  cases hq:ys[i]? with
  | none=>rw [hq] at hy; cases hy
  | some q=>rw [hq] at hy; cases hy; exact h2 i x q hx hq
 induction v with
 | fz f=>rw [oP f]; exact .fz (f.mono hZ)
 | und=>exact .und
 | any=>exact .und
 | @msl id c off n sz h1 h2 =>
  unfold G2
  cases hs:σ id with
  | none=>exact .und
  | some j =>
   obtain ⟨a,b⟩:=hr id j hs h2
   exact .msl (fun L' hL'=>by
    obtain ⟨L,h3,h4⟩:=b L' hL'
    exact (h4 c).1 (h1 L h3)) a
 | @mnil x id sz e h1 h2 =>
  unfold G2
  cases hs:σ id with
  | none=>exact .und
  | some j =>
   obtain ⟨a,b⟩:=hr id j hs h2
   exact .mnil e (fun L' hL' c hc=>by
    obtain ⟨L,h3,h4⟩:=b L' hL'
    exact h1 L h3 c ((h4 c).2 hc)) a
 | @ptr id c i off h1 h2 =>
  unfold G2
  cases hs:σ id with
  | none=>exact .und
  | some j =>
   obtain ⟨a,b⟩:=hr id j hs h2
   exact .ptr (fun L' hL'=>by
    obtain ⟨L,h3,h4⟩:=b L' hL'
    exact (h4 c).1 (h1 L h3)) a
 | @map id c h1 h2 =>
  unfold G2
  cases hs:σ id with
  | none=>exact .und
  | some j =>
   obtain ⟨a,b⟩:=hr id j hs h2
   exact .map (fun L' hL'=>by
    obtain ⟨L,h3,h4⟩:=b L' hL'
    exact (h4 c).1 (h1 L h3)) a
 | agg h1 _ ih=>obtain ⟨a,b⟩:=pw h1 ih; exact .agg a b
 | tup h1 _ ih=>obtain ⟨a,b⟩:=pw h1 ih; exact .tup a b
 | fn h1 _ h3 _ ih1 ih2=>obtain ⟨a,b⟩:=pw h1 ih1; obtain ⟨c,d⟩:=pw h3 ih2; exact .fn a b c d
 | iface _ ih=>exact .iface ih
theorem VL.ren {xs ys:List AV} (v:VL Z ow h os xs ys) (hZ:∀ id,Z id->Z' id∧h'.get id=h.get id) (hr:Ren σ ow os ow' os'):VL Z' ow' h' os' xs (renL σ ys):=by
 rw [j8]
 refine ⟨by simpa using v.1,fun i x y hx hy=>?_⟩
 rw [List.getElem?_map] at hy
 cases hq:ys[i]? with
 | none=>rw [hq] at hy; cases hy
 | some q=>rw [hq] at hy; cases hy; exact (v.2 i x q hx hq).ren hZ hr
theorem RawR.ren {r j c sz:Nat} {es ces:List AV} (g:RawR (VR Z ow h os) ow h r es sz c ces) (hZ:∀ id,Z id->Z' id∧h'.get id=h.get id) (hr:Ren σ ow os ow' os') (ho:ow' c=some [j]) (hn:h.next≤h'.next) (hg:h'.get c=h.get c) (hno:∀ a t,ow' a=some (j :: t)->t=[]):RawR (VR Z' ow' h' os') ow' h' j (renL σ es) sz c ces:=by
 refine ⟨ho,Nat.lt_of_lt_of_le g.lt hn,hg.trans g.get,?_,fun i x y hx hy o a b ha hb=>?_,fun i y hy b hb=>?_,hno⟩
 . rw [j8]
   refine ⟨by simpa using g.sh.1,fun i x y hx hy=>?_⟩
   rw [List.getElem?_map] at hy
   cases hq:es[i]? with
   | none=>rw [hq] at hy; cases hy
   | some q =>
    rw [hq] at hy; cases hy
    have:=g.sh.2 i x q hx hq
    rw [(y1 q).1,(y1 q).2,List.length_map]; exact this
 . rw [j8,List.getElem?_map] at hy
   cases hq:es[i]? with
   | none=>rw [hq] at hy; cases hy
   | some q =>
    rw [hq] at hy; cases hy
    rw [(y1 q).1,List.getElem?_map] at hb
    cases hw:q.cells[o]? with
    | none=>rw [hw] at hb; cases hb
    | some w=>rw [hw] at hb; cases hb; exact (g.vr i x q hx hq o a w ha hw).ren hZ hr
 . rw [j8,List.getElem?_map] at hy
   cases hq:es[i]? with
   | none=>rw [hq] at hy; cases hy
   | some q =>
    rw [hq] at hy; cases hy
    rw [(y1 q).1] at hb
    obtain ⟨w,hw,rfl⟩:=List.mem_map.1 hb
    exact kW (g.okp i q hq w hw)
theorem posOf_some:∀ (l:List Nat) (id j:Nat),posOf l id=some j->l[j]?=some id
 | [],_,_,e=>by cases e
 | a :: l,id,j,e=>by
  unfold posOf at e
  split at e
  . rename_i h; cases e; rw [h]; rfl
  . cases hp:posOf l id with
    | none=>rw [hp] at e; cases e
    | some m=>rw [hp] at e; cases e; exact posOf_some l id m hp
theorem G1:∀ (l:List Nat) (id j:Nat),l.Nodup->l[j]?=some id->posOf l id=some j
 | [],_,_,_,e=>by simp at e
 | a :: l,id,0,_,e=>by cases e; unfold posOf; rw [if_pos rfl]
 | a :: l,id,j + 1,hn,e=>by
  have hn:=List.nodup_cons.1 hn
  have hne:a ≠ id:=fun e'=>hn.1 (by rw [e']; exact List.mem_of_getElem? (i:=j) (by simpa using e))
  unfold posOf
  rw [if_neg hne,G1 l id j hn.2 (by simpa using e)]; rfl
theorem j9 (s:Nat->List Nat):∀ (n:Nat) (todo acc:List Nat),acc.Nodup->(R6 s n todo acc).Nodup∧∃ m,R6 s n todo acc=acc ++ m
 | 0,_,acc,h=>⟨h,[],by simp [R6]⟩
 | n + 1,[],acc,h=>⟨h,[],by simp [R6]⟩
 | n + 1,id :: todo,acc,h=>by
  unfold R6
  split
  . exact j9 s n todo acc h
  . rename_i hm
    have h1:(acc ++ [id]).Nodup:=List.nodup_append.2 ⟨h,by simp,fun a ha b hb e=>hm (by rw [List.mem_singleton] at hb; rw [← hb,← e]; exact ha)⟩
    obtain ⟨a,m,b⟩:=j9 s n (todo ++ s id) (acc ++ [id]) h1
    exact ⟨a,[id] ++ m,by rw [b]; simp⟩
def rown (σ:Nat->Option Nat) (ow:Nat->Option (List Nat)):Nat->Option (List Nat):=fun d=>match ow d with
 | some (r :: t)=>(match σ r with | some j=>some (j :: t) | none=>none)
 | _=>none
theorem C7 {d:Nat} {M:List Nat}:rown σ ow d=some M ↔ ∃ r j t,ow d=some (r :: t)∧σ r=some j∧M=j :: t:=by
 unfold rown
 cases e:ow d with
 | none=>exact ⟨fun h=>(by cases h),fun ⟨_,_,_,h,_⟩=>(by cases h)⟩
 | some N =>
  cases N with
  | nil=>exact ⟨fun h=>(by cases h),fun ⟨_,_,_,h,_⟩=>(by cases h)⟩
  | cons r t =>
   simp only
   cases hs:σ r with
   | none=>exact ⟨fun h=>(by cases h),fun ⟨_,_,_,h1,h2,_⟩=>(by cases h1; rw [hs] at h2; cases h2)⟩
   | some j=>exact ⟨fun h=>(by cases h; exact ⟨r,j,t,rfl,hs,rfl⟩),fun ⟨_,_,_,h1,h2,h3⟩=>(by cases h1; rw [hs] at h2; cases h2; rw [h3])⟩
theorem entryAt_eq (os:List PO) (id:Nat):(os[id]?=some (entryAt os id))∨(os[id]?=none∧entryAt os id=.dead):=by
 unfold entryAt
 cases os[id]? with
 | none=>exact .inr ⟨rfl,rfl⟩
 | some e=>exact .inl rfl
theorem Pa (s:H1 Z ow h os) {ids:List Nat} (hn:ids.Nodup) {f:PO->PO} (hf:∀ e,f e=e∨((∃ p i o,e=.sub p i o)∧f e=.dead)) (hos:os'=ids.map fun id=>f (renPO (posOf ids) (entryAt os id))) :
 H1 Z (rown (posOf ids) ow) h os'∧Ren (posOf ids) ow os (rown (posOf ids) ow) os':=by
 have hget:∀ (j:Nat) e,os'[j]?=some e->∃ id,ids[j]?=some id∧e=f (renPO (posOf ids) (entryAt os id)):=fun j e hj=>by
  rw [hos,List.getElem?_map] at hj
  cases hq:ids[j]? with
  | none=>rw [hq] at hj; cases hj
  | some id=>rw [hq] at hj; cases hj; exact ⟨id,rfl,rfl⟩
 have hrw:∀ (j:Nat) k es sz,os'[j]?=some (.row k es sz)->∃ id es0,ids[j]?=some id∧os[id]?=some (.row k es0 sz)∧((k=0∧es=es0)∨(k ≠ 0∧es=renL (posOf ids) es0)):=fun j k es sz hj=>by
  obtain ⟨id,h1,h2⟩:=hget j _ hj
  have h3:renPO (posOf ids) (entryAt os id)=.row k es sz:=by
   rcases hf (renPO (posOf ids) (entryAt os id)) with h | ⟨_,h⟩
   . rw [← h,← h2]
   . rw [h] at h2; cases h2
  rcases entryAt_eq os id with h4 | ⟨_,h4⟩
  . cases he:entryAt os id with
    | row k' es' sz' =>
     rw [he] at h3 h4
     cases k' with
     | zero=>cases h3; exact ⟨id,_,h1,h4,.inl ⟨rfl,rfl⟩⟩
     | succ k'=>cases h3; exact ⟨id,_,h1,h4,.inr ⟨by omega,rfl⟩⟩
    | mapo=>rw [he] at h3; cases h3
    | sub p i o=>rw [he] at h3; unfold renPO at h3; simp only at h3; split at h3 <;> cases h3
    | dead=>rw [he] at h3; cases h3
  . rw [h4] at h3; cases h3
 have hmp:∀ (j:Nat) es,os'[j]?=some (.mapo es)->∃ id,ids[j]?=some id∧os[id]?=some (.mapo es):=fun j es hj=>by
  obtain ⟨id,h1,h2⟩:=hget j _ hj
  have h3:renPO (posOf ids) (entryAt os id)=.mapo es:=by
   rcases hf (renPO (posOf ids) (entryAt os id)) with h | ⟨_,h⟩
   . rw [← h,← h2]
   . rw [h] at h2; cases h2
  rcases entryAt_eq os id with h4 | ⟨_,h4⟩
  . cases he:entryAt os id with
    | row k' es' sz'=>rw [he] at h3; cases k' <;> cases h3
    | mapo=>rw [he] at h3 h4; cases h3; exact ⟨id,h1,h4⟩
    | sub p i o=>rw [he] at h3; unfold renPO at h3; simp only at h3; split at h3 <;> cases h3
    | dead=>rw [he] at h3; cases h3
  . rw [h4] at h3; cases h3
 have hsb:∀ (j:Nat) p i o,os'[j]?=some (.sub p i o)->∃ id p0,ids[j]?=some id∧os[id]?=some (.sub p0 i o)∧posOf ids p0=some p:=fun j p i o hj=>by
  obtain ⟨id,h1,h2⟩:=hget j _ hj
  have h3:renPO (posOf ids) (entryAt os id)=.sub p i o:=by
   rcases hf (renPO (posOf ids) (entryAt os id)) with h | ⟨_,h⟩
   . rw [← h,← h2]
   . rw [h] at h2; cases h2
  rcases entryAt_eq os id with h4 | ⟨_,h4⟩
  . cases he:entryAt os id with
    | row k' es' sz'=>rw [he] at h3; cases k' <;> cases h3
    | mapo=>rw [he] at h3; cases h3
    | sub p0 i0 o0 =>
     rw [he] at h3 h4
     unfold renPO at h3
     simp only at h3
     split at h3
     . rename_i q hq; cases h3; exact ⟨id,p0,h1,h4,hq⟩
     . cases h3
    | dead=>rw [he] at h3; cases h3
  . rw [h4] at h3; cases h3
 have hlen:os'.length=ids.length:=by rw [hos]; simp
 have ho:∀ d (j id:Nat) t,ids[j]?=some id->(rown (posOf ids) ow d=some (j :: t) ↔ ow d=some (id :: t)):=fun d j id t hj=>by
  rw [C7]
  constructor
  . rintro ⟨r,j',t',h1,h2,h3⟩
    cases h3
    have:=posOf_some ids r _ h2
    rw [hj] at this; cases this; exact h1
  . exact fun h1=>⟨id,j,t,h1,G1 ids id j hn hj,rfl⟩
 have hlo:∀ (n j:Nat) (L':List Nat),loP os' n j=some L'->∃ id r q t,ids[j]?=some id∧loP os n id=some (r :: t)∧posOf ids r=some q∧L'=q :: t:=fun n=>by
  induction n with
  | zero=>exact fun j L' e=>by cases e
  | succ n ih =>
   intro j L' e
   unfold loP at e
   cases hj:os'[j]? with
   | none=>rw [hj] at e; cases e
   | some en =>
    rw [hj] at e
    cases en with
    | row k es sz =>
     cases e
     obtain ⟨id,es0,h1,h2,_⟩:=hrw j k es sz hj
     exact ⟨id,id,j,[],h1,by unfold loP; rw [h2],G1 ids id j hn h1,rfl⟩
    | mapo es =>
     cases e
     obtain ⟨id,h1,h2⟩:=hmp j es hj
     exact ⟨id,id,j,[],h1,by unfold loP; rw [h2],G1 ids id j hn h1,rfl⟩
    | dead=>cases e
    | sub p i o =>
     simp only at e
     cases hp:loP os' n p with
     | none=>rw [hp] at e; cases e
     | some Lp =>
      rw [hp] at e; cases e
      obtain ⟨id,p0,h1,h2,h3⟩:=hsb j p i o hj
      obtain ⟨id',r,q,t,h4,h5,h6,rfl⟩:=ih p Lp hp
      have:id'=p0:=by
       have:=posOf_some ids p0 p h3
       rw [h4] at this; cases this; rfl
      subst this
      exact ⟨id,r,q,t ++ [i,o],h1,by unfold loP; rw [h2]; simp only; rw [h5]; rfl,h6,by simp⟩
 have hR:Ren (posOf ids) ow os (rown (posOf ids) ow) os':=fun id j hj _=>by
  have hj':=posOf_some ids id j hj
  refine ⟨by rw [hlen]; exact (List.getElem?_eq_some_iff.1 hj').1,fun L' hL'=>?_⟩
  obtain ⟨id',r,q,t,h1,h2,h3,rfl⟩:=hlo 6 j L' hL'
  rw [hj'] at h1; cases h1
  exact ⟨r :: t,h2,fun c=>(ho c q r t (posOf_some ids r q h3)).symm⟩
 refine ⟨⟨fun j es sz hj=>?_,fun j k es sz hj hk=>?_,fun j es hj=>?_,fun a b M ha hb=>?_,fun a M ha=>?_,s.zb,fun j p i o hj=>?_⟩,hR⟩
 . obtain ⟨id,es0,h1,h2,h3⟩:=hrw j 0 es sz hj
   rcases h3 with ⟨_,rfl⟩ | ⟨h3,_⟩
   . obtain ⟨x,hx⟩:=s.row id es sz h2
     exact ⟨x,hx.reloc (Nat.le_refl _) (fun _ hz=>⟨hz,rfl⟩) (fun d t=>ho d j id t h1) (fun _ _ _=>rfl)⟩
   . exact absurd rfl h3
 . obtain ⟨id,es0,h1,h2,h3⟩:=hrw j k es sz hj
   rcases h3 with ⟨h3,_⟩ | ⟨_,rfl⟩
   . exact absurd h3 hk
   . obtain ⟨c,ces,g⟩:=s.raw id k es0 sz h2 hk
     exact ⟨c,ces,g.ren (fun _ hz=>⟨hz,rfl⟩) hR ((ho c j id [] h1).2 g.o) (Nat.le_refl _) rfl (fun a t ha=>g.no a t ((ho a j id t h1).1 ha))⟩
 . obtain ⟨id,h1,h2⟩:=hmp j es hj
   obtain ⟨c,ces,g⟩:=s.map id es h2
   exact ⟨c,ces,(ho c j id [] h1).2 g.o,g.lt,g.get,g.len,g.kv,fun a t ha=>g.no a t ((ho a j id t h1).1 ha)⟩
 . obtain ⟨r,j,t,h1,h2,rfl⟩:=C7.1 ha
   obtain ⟨r',j',t',h3,h4,h5⟩:=C7.1 hb
   cases h5
   have e1:=posOf_some ids r j h2
   have e2:=posOf_some ids r' _ h4
   rw [e1] at e2; cases e2
   exact s.inj _ _ _ h1 h3
 . obtain ⟨r,j,t,h1,h2,rfl⟩:=C7.1 ha
   obtain ⟨h3,h4,r',t',h5,h6⟩:=s.live a _ h1
   cases h5
   refine ⟨h3,h4,j,t,rfl,?_⟩
   have hj:=posOf_some ids r j h2
   unfold isRt at h6 ⊢
   rw [hos,List.getElem?_map,hj]
   show (match some (f (renPO (posOf ids) (entryAt os r))) with | some (.row _ _ _)=>true | some (.mapo _)=>true | _=>false)=true
   unfold entryAt
   cases he:os[r]? with
   | none=>rw [he] at h6; cases h6
   | some e =>
    rw [he] at h6
    cases e with
    | row k es sz =>
     have:f (renPO (posOf ids) (.row k es sz))=renPO (posOf ids) (.row k es sz):=by
      rcases hf (renPO (posOf ids) (.row k es sz)) with h | ⟨⟨p,i,o,h⟩,_⟩
      . exact h
      . cases k <;> cases h
     simp only [this]
     cases k <;> rfl
    | mapo es =>
     have:f (renPO (posOf ids) (.mapo es))=renPO (posOf ids) (.mapo es):=by
      rcases hf (renPO (posOf ids) (.mapo es)) with h | ⟨⟨p,i,o,h⟩,_⟩
      . exact h
      . cases h
     simp only [this]; rfl
    | sub=>cases h6
    | dead=>cases h6
 . obtain ⟨id,p0,h1,h2,h3⟩:=hsb j p i o hj
   rw [hlen]; exact (List.getElem?_eq_some_iff.1 (posOf_some ids p0 p h3)).1
theorem kX {keep:List Nat}:(markIds keep fr K).Nodup∧∀ j,j < K.ext->(markIds keep fr K)[j]?=some j:=by
 obtain ⟨h1,m,h2⟩:=j9 (Og K.os) 64 ((List.range K.ext).flatMap (Og K.os) ++ refsL (keep.map (lookP fr))) (List.range K.ext) List.nodup_range
 refine ⟨h1,fun j hj=>?_⟩
 unfold markIds
 rw [h2,List.getElem?_append_left (by simpa using hj),List.getElem?_range hj]
theorem look_keep (σ:Nat->Option Nat) (fr:PF):∀ (keep:List Nat) (i:Nat),lookP (keep.map fun i=>(i,G2 σ (lookP fr i))) i=G2 σ (lookP fr i)∨lookP (keep.map fun i=>(i,G2 σ (lookP fr i))) i=.und
 | [],i=>.inr rfl
 | k :: keep,i=>by
  show (if k=i then G2 σ (lookP fr k) else lookP (keep.map fun i=>(i,G2 σ (lookP fr i))) i)=_∨(if k=i then G2 σ (lookP fr k) else lookP (keep.map fun i=>(i,G2 σ (lookP fr i))) i)=_
  by_cases e:k=i
  . rw [if_pos e,e]; exact .inl rfl
  . rw [if_neg e]; exact look_keep σ fr keep i
theorem kY {ids:List Nat} {j:Nat} (hj:ids[j]?=some j) {ext:Nat} {tch:List Nat}:isRt (tU ids K ext tch).os j=true->isRt K.os j=true:=by
 intro hr
 unfold isRt at hr ⊢
 have:(tU ids K ext tch).os[j]?=some (renPO (posOf ids) (entryAt K.os j)):=by
  show (ids.map fun id=>renPO (posOf ids) (entryAt K.os id))[j]?=_
  rw [List.getElem?_map,hj]; rfl
 rw [this] at hr
 unfold entryAt at hr
 cases he:K.os[j]? with
 | none=>rw [he] at hr; cases hr
 | some e =>
  rw [he] at hr
  cases e with
  | row=>rfl
  | mapo=>rfl
  | dead=>cases hr
  | sub p i o =>
   unfold renPO at hr
   simp only at hr
   cases hq:posOf ids p <;> rw [hq] at hr <;> cases hr
theorem dF (s:H1 Z ow h K.os) (a:FrR Z ow h K.os nt frc fr) (keep:List Nat):∃ ow',H1 Z ow' h (Q8 keep fr K).2.os∧FrR Z ow' h (Q8 keep fr K).2.os nt frc (Q8 keep fr K).1∧Stp K.ext Z ow h K Z ow' h (Q8 keep fr K).2∧K.ext≤(Q8 keep fr K).2.os.length∧∀ id,id < K.ext->id < K.os.length->∀ L',loP (Q8 keep fr K).2.os 6 id=some L'->∃ L,loP K.os 6 id=some L∧∀ c,ow c=some L ↔ ow' c=some L':=by
 obtain ⟨hn,hx⟩:=kX (fr:=fr) (K:=K) (keep:=keep)
 obtain ⟨h1,h2⟩:=Pa s hn (f:=id) (fun e=>.inl rfl) (os':=(Q8 keep fr K).2.os) rfl
 have hp:∀ j,j < K.ext->posOf (markIds keep fr K) j=some j:=fun j hj=>G1 _ _ _ hn (hx j hj)
 have hlen:(Q8 keep fr K).2.os.length=(markIds keep fr K).length:=by show ((markIds keep fr K).map _).length=_; simp
 refine ⟨_,h1,⟨fun i=>?_,a.has⟩,⟨Nat.le_refl _,fun _ hz=>⟨hz,rfl⟩,fun _ hz=>.inl hz,fun _ _ _=>rfl,fun d M hd _ e=>?_,⟨[],rfl,fun d hd=>by cases hd⟩,fun d r t ho hr=>?_,fun r hr hl=>?_,rfl,fun j hj c hr=>?_,fun j hj hr=>kY (hx j hj) hr⟩,?_,fun id hi hl=>(h2 id id (hp id hi) hl).2⟩
 . rcases look_keep (posOf (markIds keep fr K)) fr keep i with e | e
   . show VR _ _ _ _ _ (lookP (keep.map fun i=>(i,G2 (posOf (markIds keep fr K)) (lookP fr i))) i)
     rw [e]; exact (a.v i).ren (fun _ hz=>⟨hz,rfl⟩) h2
   . show VR _ _ _ _ _ (lookP (keep.map fun i=>(i,G2 (posOf (markIds keep fr K)) (lookP fr i))) i)
     rw [e]; exact .und
 . obtain ⟨r,j,t,h3,_⟩:=C7.1 hd
   rw [e] at h3; cases h3
 . exact .inl ⟨t,C7.2 ⟨r,r,t,ho,hp r hr,rfl⟩⟩
 . exact List.mem_filter.2 ⟨hr,by simpa using hl⟩
 . rw [C7]
   constructor
   . exact fun h3=>⟨j,j,[],h3,hp j hj,rfl⟩
   . rintro ⟨r,j',t,h3,h4,h5⟩
     cases h5
     have:=posOf_some _ _ _ h4
     rw [hx _ hj] at this; cases this; exact h3
 . rw [hlen]
   cases hK:K.ext with
   | zero=>exact Nat.zero_le _
   | succ n =>
    have:=(List.getElem?_eq_some_iff.1 (hx n (by omega))).1
    omega
end
end Go.AM
namespace Go.AM
section
variable {E:Env} {R:AV->AV->Prop} {Z Z' Z1:Nat->Prop} {ow ow' ow1 ow2:Nat->Option (List Nat)} {h h' h1:Heap} {K K' K1:PK} {os os' os1 os2:List PO} {x y xc yc v k:AV} {L M:List Nat} {nt:Nat} {frc:Tr} {fr:PF} {σ:Nat->Option Nat}
theorem Ii (os:List PO) (ids:List Nat):∀ (l:List PO) (n j:Nat),(killU os ids n l)[j]?=(l[j]?).map fun e=>match e with | .sub p i o=>if ids.contains (n + j) || (chainOf os 6 p).any (fun q=>ids.contains q) then .dead else .sub p i o | e=>e
 | [],n,j=>by simp [killU]
 | e :: l,n,0=>rfl
 | e :: l,n,j + 1=>by
  show (killU os ids (n + 1) l)[j]?=(l[j]?).map _
  rw [Ii os ids l (n + 1) j,show n + 1 + j=n + (j + 1) by omega]
theorem Ru (os:List PO) (ids:List Nat):∀ (l:List PO) (n:Nat),(killU os ids n l).length=l.length
 | [],_=>rfl
 | e :: l,n=>congrArg Nat.succ (Ru os ids l (n + 1))
theorem kZ (os:List PO) (ids:List Nat):Wk os (killU os ids 0 os):=by
 refine ⟨Ru _ _ _ _,fun j=>?_⟩
 rw [Ii]
 cases he:os[j]? with
 | none=>exact .inl rfl
 | some e =>
  cases e with
  | sub p i o =>
   simp only [Option.map_some]
   split
   . exact .inr ⟨p,i,o,rfl,rfl⟩
   . exact .inl rfl
  | _=>exact .inl rfl
theorem Rv {ids:List Nat} {j p i o:Nat} (e:(killU os ids 0 os)[j]?=some (.sub p i o)):(∀ q∈chainOf os 6 p,¬ q∈ids)∧¬ j∈ids:=by
 rw [Ii] at e
 cases he:os[j]? with
 | none=>rw [he] at e; cases e
 | some a =>
  rw [he] at e
  cases a with
  | sub p' i' o' =>
   simp only [Option.map_some] at e
   split at e
   . cases e
   . rename_i hn
     cases e
     rw [Nat.zero_add] at hn
     refine ⟨fun q hq hm=>hn ?_,fun hm=>hn ?_⟩
     . rw [Bool.or_eq_true]; exact .inr (List.any_eq_true.2 ⟨q,hq,by simpa using hm⟩)
     . rw [Bool.or_eq_true]; exact .inl (by simpa using hm)
  | _=>cases e
theorem Pb:∀ (n id:Nat),rootOf os n id∈chainOf os n id
 | 0,id=>List.mem_singleton.2 rfl
 | n + 1,id=>by
  unfold rootOf chainOf
  cases os[id]? with
  | none=>exact List.mem_cons_self ..
  | some e =>
   cases e with
   | sub p i o=>exact List.mem_cons_of_mem _ (Pb n p)
   | _=>exact List.mem_cons_self ..
theorem tW {n m id:Nat} (hm:n≤m) (e:loP os n id=some L):loP os m id=some L:=by
 induction hm with
 | refl=>exact e
 | step _ ih=>exact Gp _ _ _ ih
def DF (ρ:Nat->Option Nat) (os os':List PO) (id:Nat) (e:PO):Prop :=
 (∃ k es sz k' es' sz',os[id]?=some (.row k es sz)∧e=.row k' es' sz'∧os'[id]?=some (renPO ρ e))∨(∃ k es sz,os[id]?=some (.row k es sz)∧e=.dead∧os'[id]?=some .dead)∨(∃ es es',os[id]?=some (.mapo es)∧e=.mapo es'∧os'[id]?=some (.mapo es'))∨(isRt os id=false∧e=.dead∧os'[id]?=os[id]?)
theorem R8 {ρ:Nat->Option Nat}:∀ (ids:List Nat) (l os os':List PO),putBack ρ ids l os=some os'->ids.Nodup->os'.length=os.length∧(∀ r,¬ r∈ids->os'[r]?=os[r]?)∧∀ (j id:Nat),ids[j]?=some id->∃ e,l[j]?=some e∧DF ρ os os' id e
 | [],l,os,os',e,_=>by cases e; exact ⟨rfl,fun _ _=>rfl,fun j id h=>by simp at h⟩
 | id :: ids,[],os,os',e,_=>by cases e
 | id :: ids,a :: l,os,os',e,hn=>by
  have hn:=List.nodup_cons.1 hn
  have step:∀ {e0:PO},id < os.length->putBack ρ ids l (os.set id e0)=some os'->os'.length=os.length∧(∀ r,¬ r∈id :: ids->os'[r]?=os[r]?)∧os'[id]?=some e0∧∀ (j id':Nat),ids[j]?=some id'->∃ e,l[j]?=some e∧DF ρ os os' id' e:=fun {e0} hl hp=>by
   obtain ⟨h1,h2,h3⟩:=R8 ids l _ os' hp hn.2
   refine ⟨by simpa using h1,fun r hr=>?_,?_,fun j id' hj=>?_⟩
   . rw [h2 r fun h=>hr (List.mem_cons_of_mem _ h),List.getElem?_set,if_neg fun h=>hr (by rw [h]; exact List.mem_cons_self ..)]
   . rw [h2 id hn.1,List.getElem?_set,if_pos rfl,if_pos hl]
   . obtain ⟨e,h4,h5⟩:=h3 j id' hj
     have hne:id ≠ id':=fun h=>hn.1 (by rw [h]; exact List.mem_of_getElem? hj)
     have e1:(os.set id e0)[id']?=os[id']?:=by rw [List.getElem?_set,if_neg hne]
     refine ⟨e,h4,?_⟩
     unfold DF isRt at h5 ⊢
     rw [e1] at h5; exact h5
  unfold putBack at e
  cases he:os[id]? with
  | none =>
   rw [he] at e
   simp only at e
   cases a with
   | dead =>
    obtain ⟨h1,h2,h3⟩:=R8 ids l os os' e hn.2
    refine ⟨h1,fun r hr=>h2 r fun h=>hr (List.mem_cons_of_mem _ h),fun j id' hj=>?_⟩
    cases j with
    | zero=>cases hj; exact ⟨.dead,rfl,.inr (.inr (.inr ⟨by unfold isRt; rw [he],rfl,h2 _ hn.1⟩))⟩
    | succ j=>exact h3 j id' hj
   | _=>cases e
  | some b =>
   have hl:id < os.length:=(List.getElem?_eq_some_iff.1 he).1
   rw [he] at e
   cases b with
   | row k es sz =>
    simp only at e
    cases a with
    | row k' es' sz' =>
     obtain ⟨h1,h2,h3,h4⟩:=step hl e
     refine ⟨h1,h2,fun j id' hj=>?_⟩
     cases j with
     | zero=>cases hj; exact ⟨_,rfl,.inl ⟨_,_,_,_,_,_,he,rfl,h3⟩⟩
     | succ j=>exact h4 j id' hj
    | dead =>
     obtain ⟨h1,h2,h3,h4⟩:=step hl e
     refine ⟨h1,h2,fun j id' hj=>?_⟩
     cases j with
     | zero=>cases hj; exact ⟨_,rfl,.inr (.inl ⟨_,_,_,he,rfl,h3⟩)⟩
     | succ j=>exact h4 j id' hj
    | _=>cases e
   | mapo es =>
    simp only at e
    cases a with
    | mapo es' =>
     obtain ⟨h1,h2,h3,h4⟩:=step hl e
     refine ⟨h1,h2,fun j id' hj=>?_⟩
     cases j with
     | zero=>cases hj; exact ⟨_,rfl,.inr (.inr (.inl ⟨_,_,he,rfl,h3⟩))⟩
     | succ j=>exact h4 j id' hj
    | _=>cases e
   | sub p i o =>
    simp only at e
    cases a with
    | dead =>
     obtain ⟨h1,h2,h3⟩:=R8 ids l os os' e hn.2
     refine ⟨h1,fun r hr=>h2 r fun h=>hr (List.mem_cons_of_mem _ h),fun j id' hj=>?_⟩
     cases j with
     | zero=>cases hj; exact ⟨.dead,rfl,.inr (.inr (.inr ⟨by unfold isRt; rw [he],rfl,h2 _ hn.1⟩))⟩
     | succ j=>exact h3 j id' hj
    | _=>cases e
   | dead =>
    simp only at e
    cases a with
    | dead =>
     obtain ⟨h1,h2,h3⟩:=R8 ids l os os' e hn.2
     refine ⟨h1,fun r hr=>h2 r fun h=>hr (List.mem_cons_of_mem _ h),fun j id' hj=>?_⟩
     cases j with
     | zero=>cases hj; exact ⟨.dead,rfl,.inr (.inr (.inr ⟨by unfold isRt; rw [he],rfl,h2 _ hn.1⟩))⟩
     | succ j=>exact h3 j id' hj
    | _=>cases e
theorem Xv (s:H1 Z ow h K.os) (hx:K.ext≤K.os.length) {ids:List Nat} (hn:ids.Nodup) (s1:H1 Z1 ow1 h1 K1.os) (st:Stp ids.length Z (rown (posOf ids) ow) h (focusK ids K) Z1 ow1 h1 K1) (hm:mergeK ids K K1=some K') :
 ∃ ow',H1 Z1 ow' h1 K'.os∧Keep' ow K.os ow' K'.os∧(∀ b,Stp b Z ow h K Z1 ow' h1 K')∧Ren (backN ids K.os.length) ow1 K1.os ow' K'.os:=by
 unfold mergeK at hm
 split at hm
 rotate_left
 . cases hm
 rename_i hall
 have hidl:∀ i∈ids,i < K.os.length:=fun i hi=>by simpa using List.all_eq_true.1 hall i hi
 cases hp:putBack (backN ids K.os.length) ids K1.os (killU K.os ids 0 K.os) with
 | none=>rw [hp] at hm; cases hm
 | some osb =>
  rw [hp] at hm
  cases hm
  have w:=kZ K.os ids
  obtain ⟨p1,p2,p3⟩:=R8 ids K1.os _ osb hp hn
  have hbl:osb.length=K.os.length:=p1.trans w.1
  have hext:(focusK ids K).ext=ids.length:=rfl
  have hf0:∀ (j id:Nat),ids[j]?=some id->isRt (focusK ids K).os j=isRt K.os id:=fun j id hj=>by
   unfold isRt
   have:(focusK ids K).os[j]?=some (cutPO (renPO (posOf ids) (entryAt K.os id))):=by
    show (ids.map fun id=>cutPO (renPO (posOf ids) (entryAt K.os id)))[j]?=_
    rw [List.getElem?_map,hj]; rfl
   rw [this]
   unfold entryAt
   cases he:K.os[id]? with
   | none=>rfl
   | some e =>
    cases e with
    | row k es sz=>cases k <;> rfl
    | mapo=>rfl
    | dead=>rfl
    | sub p i o =>
     show (match some (cutPO (match posOf ids p with | some q=>PO.sub q i o | none=>.dead)) with | some (.row _ _ _)=>true | some (.mapo _)=>true | _=>false)=false
     cases posOf ids p <;> rfl
  have hkind:∀ (j id:Nat),ids[j]?=some id->isRt K1.os j=true->isRt K.os id=true∧id < K.os.length:=fun j id hj hr=>by
   have hjl:j < ids.length:=(List.getElem?_eq_some_iff.1 hj).1
   have:=st.rd j hjl hr
   rw [hf0 j id hj] at this
   exact ⟨this,isRt_lt this⟩
  have hb1:∀ (j id:Nat),ids[j]?=some id->backN ids K.os.length j=some id:=fun j id hj=>by unfold backN; rw [hj]
  have hb2:∀ j,ids.length≤j->backN ids K.os.length j=some (K.os.length + (j - ids.length)):=fun j hj=>by
   unfold backN
   rw [List.getElem?_eq_none hj]
  have hbk:∀ j r,backN ids K.os.length j=some r->ids[j]?=some r∨(ids.length≤j∧r=K.os.length + (j - ids.length)):=fun j r hr=>by
   unfold backN at hr
   cases hq:ids[j]? with
   | some id=>rw [hq] at hr; cases hr; exact .inl rfl
   | none=>rw [hq] at hr; cases hr; exact .inr ⟨by simpa using hq,rfl⟩
  let ow':Nat->Option (List Nat):=fun d=>match rown (backN ids K.os.length) ow1 d with
   | some M=>some M
   | none=>if d < h.next∧(rown (posOf ids) ow d).isNone=true then ow d else none
  have hoi:∀ d r t,ow' d=some (r :: t) ↔ (∃ j,ow1 d=some (j :: t)∧backN ids K.os.length j=some r)∨(rown (posOf ids) ow d=none∧d < h.next∧ow d=some (r :: t)):=fun d r t=>by
   show (match rown (backN ids K.os.length) ow1 d with
    | some M=>some M
    | none=>if d < h.next∧(rown (posOf ids) ow d).isNone=true then ow d else none)=some (r :: t) ↔ _
   cases hq:rown (backN ids K.os.length) ow1 d with
   | some M =>
    simp only
    obtain ⟨r',j,t',a1,a2,a3⟩:=C7.1 hq
    constructor
    . intro e; cases e; cases a3; exact .inl ⟨r',a1,a2⟩
    . rintro (⟨j',b1,b2⟩ | ⟨b1,b2,b3⟩)
      . rw [a1] at b1; cases b1
        rw [a2] at b2; cases b2
        rw [a3]
      . exact absurd b1 (st.uo d _ a1 b2)
   | none =>
    simp only
    constructor
    . intro e
      split at e
      . rename_i hc
        refine .inr ⟨?_,hc.1,e⟩
        cases h2:rown (posOf ids) ow d with
        | none=>rfl
        | some M=>rw [h2] at hc; cases hc.2
      . cases e
    . rintro (⟨j',b1,b2⟩ | ⟨b1,b2,b3⟩)
      . rw [C7.2 ⟨j',r,t,b1,b2,rfl⟩] at hq; cases hq
      . rw [if_pos ⟨b2,by rw [b1]; rfl⟩]; exact b3
  have hoc:∀ d M,ow' d=some M->∃ r t,M=r :: t:=fun d M hd=>by
   have hd:(match rown (backN ids K.os.length) ow1 d with
    | some M=>some M
    | none=>if d < h.next∧(rown (posOf ids) ow d).isNone=true then ow d else none)=some M:=hd
   cases hq:rown (backN ids K.os.length) ow1 d with
   | some N =>
    rw [hq] at hd; cases hd
    obtain ⟨_,j,t,_,_,a3⟩:=C7.1 hq
    exact ⟨j,t,a3⟩
   | none =>
    rw [hq] at hd
    simp only at hd
    split at hd
    . obtain ⟨_,_,r,t,a,_⟩:=s.live d M hd; exact ⟨r,t,a⟩
    . cases hd
  have hhead:∀ d r t,ow d=some (r :: t)->r < K.os.length:=fun d r t hd=>by
   obtain ⟨_,_,r',t',a,b⟩:=s.live d _ hd
   cases a; exact isRt_lt b
  have hnone:∀ d r t,ow d=some (r :: t)->¬ r∈ids->rown (posOf ids) ow d=none:=fun d r t hd hr=>by
   cases hq:rown (posOf ids) ow d with
   | none=>rfl
   | some M =>
    obtain ⟨r',j,t',a1,a2,_⟩:=C7.1 hq
    rw [hd] at a1; cases a1
    exact absurd (List.mem_of_getElem? (posOf_some ids r j a2)) hr
  have hB:∀ d r t,¬ r∈ids->r < K.os.length->(ow' d=some (r :: t) ↔ ow d=some (r :: t)):=fun d r t hr hl=>by
   rw [hoi]
   constructor
   . rintro (⟨j,b1,b2⟩ | ⟨_,_,b3⟩)
     . rcases hbk j r b2 with c | ⟨_,c⟩
       . exact absurd (List.mem_of_getElem? c) hr
       . omega
     . exact b3
   . exact fun hd=>.inr ⟨hnone d r t hd hr,(s.live d _ hd).1,hd⟩
  have hC:∀ d (j r:Nat) t,ids[j]?=some r->r < K.os.length->(ow' d=some (r :: t) ↔ ow1 d=some (j :: t)):=fun d j r t hj hl=>by
   rw [hoi]
   constructor
   . rintro (⟨j',b1,b2⟩ | ⟨b1,_,b3⟩)
     . rcases hbk j' r b2 with c | ⟨_,c⟩
       . have:=G1 ids r j' hn c
         rw [G1 ids r j hn hj] at this; cases this; exact b1
       . omega
     . rw [C7.2 ⟨r,j,t,b3,G1 ids r j hn hj,rfl⟩] at b1; cases b1
   . exact fun hd=>.inl ⟨j,hd,hb1 j r hj⟩
  have hD:∀ d j t,ids.length≤j->(ow' d=some ((K.os.length + (j - ids.length)) :: t) ↔ ow1 d=some (j :: t)):=fun d j t hj=>by
   rw [hoi]
   constructor
   . rintro (⟨j',b1,b2⟩ | ⟨_,_,b3⟩)
     . rcases hbk j' _ b2 with c | ⟨c,c'⟩
       . have hr:=(s1.live d _ b1)
         obtain ⟨_,_,r',t',e1,e2⟩:=hr
         cases e1
         have:=(hkind j' _ c e2).2
         omega
       . have:j'=j:=by omega
         rw [← this]; exact b1
     . have:=hhead d _ t b3; omega
   . exact fun hd=>.inl ⟨j,hd,hb2 j hj⟩
  have hz:∀ d,Z d->Z1 d∧h1.get d=h.get d:=st.zz
  have hgo:∀ d r t,ow d=some (r :: t)->¬ r∈ids->h1.get d=h.get d:=fun d r t hd hr=>st.un d (s.live d _ hd).1 (hnone d r t hd hr)
  have hget:∀ {r:Nat} {e:PO},(osb ++ (K1.os.drop ids.length).map (renPO (backN ids K.os.length)))[r]?=some e->(¬ r∈ids∧r < K.os.length∧(killU K.os ids 0 K.os)[r]?=some e)∨(∃ j e1,ids[j]?=some r∧r < K.os.length∧K1.os[j]?=some e1∧DF (backN ids K.os.length) (killU K.os ids 0 K.os) osb r e1∧osb[r]?=some e)∨∃ j e1,ids.length≤j∧r=K.os.length + (j - ids.length)∧K1.os[j]?=some e1∧e=renPO (backN ids K.os.length) e1:=fun {r e} hr=>by
   rw [List.getElem?_append] at hr
   split at hr
   . rename_i hl
     by_cases hm:r∈ids
     . obtain ⟨j,hj⟩:=List.getElem?_of_mem hm
       obtain ⟨e1,q1,q2⟩:=p3 j r hj
       exact .inr (.inl ⟨j,e1,hj,by omega,q1,q2,hr⟩)
     . exact .inl ⟨hm,by omega,by rw [← p2 r hm]; exact hr⟩
   . rename_i hl
     rw [List.getElem?_map,List.getElem?_drop] at hr
     cases hq:K1.os[ids.length + (r - osb.length)]? with
     | none=>rw [hq] at hr; cases hr
     | some e1 =>
      rw [hq] at hr; cases hr
      exact .inr (.inr ⟨_,e1,by omega,by omega,hq,rfl⟩)
  have hrenrow:∀ {e1:PO} {k es sz},renPO (backN ids K.os.length) e1=.row k es sz->∃ es0,e1=.row k es0 sz∧((k=0∧es=es0)∨(k ≠ 0∧es=renL (backN ids K.os.length) es0)):=fun {e1 k es sz} he=>by
   cases e1 with
   | row k' es' sz' =>
    cases k' with
    | zero=>cases he; exact ⟨_,rfl,.inl ⟨rfl,rfl⟩⟩
    | succ k'=>cases he; exact ⟨_,rfl,.inr ⟨by omega,rfl⟩⟩
   | mapo=>cases he
   | dead=>cases he
   | sub p i o=>unfold renPO at he; simp only at he; cases hq:backN ids K.os.length p <;> rw [hq] at he <;> cases he
  have hloc:∀ {r:Nat} {e:PO},(osb ++ (K1.os.drop ids.length).map (renPO (backN ids K.os.length)))[r]?=some e->(¬ r∈ids∧r < K.os.length∧(killU K.os ids 0 K.os)[r]?=some e)∨(∃ j e1,K1.os[j]?=some e1∧e=renPO (backN ids K.os.length) e1∧(∀ d t,ow' d=some (r :: t) ↔ ow1 d=some (j :: t))∧backN ids K.os.length j=some r∧((ids[j]?=some r∧isRt K.os r=true)∨ids.length≤j))∨e=.dead:=fun {r e} hr=>by
   rcases hget hr with a | ⟨j,e1,b1,b2,b3,b4,b5⟩ | ⟨j,e1,c1,c2,c3,c4⟩
   . exact .inl a
   . rcases b4 with ⟨k,es,sz,k',es',sz',d1,d2,d3⟩ | ⟨k,es,sz,d1,d2,d3⟩ | ⟨es,es',d1,d2,d3⟩ | ⟨d1,d2,d3⟩
     . rw [d3] at b5; cases b5
       exact .inr (.inl ⟨j,e1,b3,rfl,fun d t=>hC d j r t b1 b2,hb1 j r b1,.inl ⟨b1,by rw [← w.rt]; unfold isRt; rw [d1]⟩⟩)
     . rw [d3] at b5; cases b5; exact .inr (.inr rfl)
     . rw [d3] at b5; cases b5
       exact .inr (.inl ⟨j,e1,b3,by rw [d2]; rfl,fun d t=>hC d j r t b1 b2,hb1 j r b1,.inl ⟨b1,by rw [← w.rt]; unfold isRt; rw [d1]⟩⟩)
     . rw [d3] at b5
       unfold isRt at d1
       rw [b5] at d1
       cases e with
       | row=>cases d1
       | mapo=>cases d1
       | dead=>exact .inr (.inr rfl)
       | sub p i o =>
        have:=(Rv (by rw [← b5]:(killU K.os ids 0 K.os)[r]?=some (.sub p i o))).2
        exact absurd (List.mem_of_getElem? b1) this
   . subst c2
     exact .inr (.inl ⟨j,e1,c3,c4,fun d t=>hD d j t c1,hb2 j c1,.inr c1⟩)
  have hlolt:∀ (n id:Nat) (L:List Nat),n≤6->id < K.os.length->loP (osb ++ (K1.os.drop ids.length).map (renPO (backN ids K.os.length))) n id=some L->loP K.os n id=some L∧(∀ r t,L=r :: t->t ≠ []->¬ r∈ids):=fun n=>by
   induction n with
   | zero=>exact fun id L _ _ e=>by cases e
   | succ n ih =>
    intro id L h6n hl e
    unfold loP at e
    cases hj:(osb ++ (K1.os.drop ids.length).map (renPO (backN ids K.os.length)))[id]? with
    | none=>rw [hj] at e; cases e
    | some en =>
     rw [hj] at e
     have hosb:osb[id]?=some en:=by rw [List.getElem?_append_left (by omega)] at hj; exact hj
     cases en with
     | row k es sz =>
      cases e
      refine ⟨?_,fun r t e ht=>by cases e; exact absurd rfl ht⟩
      unfold loP
      by_cases hm:id∈ids
      . obtain ⟨j,hj'⟩:=List.getElem?_of_mem hm
        obtain ⟨e1,q1,q2⟩:=p3 j id hj'
        rcases q2 with ⟨k',es',sz',_,_,_,d1,_⟩ | ⟨k',es',sz',d1,_⟩ | ⟨es',_,d1,_⟩ | ⟨d1,d2,d3⟩
        . rw [w.row.1 d1]
        . rw [w.row.1 d1]
        . rw [w.map.1 d1]
        . rw [d3] at hosb; unfold isRt at d1; rw [hosb] at d1; cases d1
      . rw [p2 id hm] at hosb
        rw [w.row.1 hosb]
     | mapo es =>
      cases e
      refine ⟨?_,fun r t e ht=>by cases e; exact absurd rfl ht⟩
      unfold loP
      by_cases hm:id∈ids
      . obtain ⟨j,hj'⟩:=List.getElem?_of_mem hm
        obtain ⟨e1,q1,q2⟩:=p3 j id hj'
        rcases q2 with ⟨k',es',sz',_,_,_,d1,_⟩ | ⟨k',es',sz',d1,_⟩ | ⟨es',_,d1,_⟩ | ⟨d1,d2,d3⟩
        . rw [w.row.1 d1]
        . rw [w.row.1 d1]
        . rw [w.map.1 d1]
        . rw [d3] at hosb; unfold isRt at d1; rw [hosb] at d1; cases d1
      . rw [p2 id hm] at hosb
        rw [w.map.1 hosb]
     | dead=>cases e
     | sub p i o =>
      simp only at e
      cases hp:loP (osb ++ (K1.os.drop ids.length).map (renPO (backN ids K.os.length))) n p with
      | none=>rw [hp] at e; cases e
      | some Lp =>
       rw [hp] at e; cases e
       have hkill:(killU K.os ids 0 K.os)[id]?=some (.sub p i o):=by
        by_cases hm:id∈ids
        . obtain ⟨j,hj'⟩:=List.getElem?_of_mem hm
          obtain ⟨e1,q1,q2⟩:=p3 j id hj'
          rcases q2 with ⟨k',es',sz',k2,es2,sz2,d1,d2,d3⟩ | ⟨k',es',sz',d1,_,d3⟩ | ⟨es',_,d1,_,d3⟩ | ⟨d1,d2,d3⟩
          . rw [d3,d2] at hosb; cases k2 <;> cases hosb
          . rw [d3] at hosb; cases hosb
          . rw [d3] at hosb; cases hosb
          . rw [d3] at hosb; exact hosb
        . rw [p2 id hm] at hosb; exact hosb
       have horig:K.os[id]?=some (.sub p i o):=by
        rcases w.2 id with e1 | ⟨_,_,_,_,e2⟩
        . rw [← e1]; exact hkill
        . rw [e2] at hkill; cases hkill
       obtain ⟨g1,g2⟩:=ih p Lp (by omega) (s.sb id p i o horig) hp
       refine ⟨by unfold loP; rw [horig]; simp only; rw [g1]; rfl,fun r t e ht=>?_⟩
       obtain ⟨t1,g3,_⟩:=G0 n p Lp g1
       have hch:=Rv hkill
       have:r=rootOf K.os n p:=by rw [g3] at e; exact (List.cons.inj e).1.symm
       have h6:rootOf K.os 6 p=rootOf K.os n p:=by
        obtain ⟨t6,g4,_⟩:=G0 6 p Lp (tW (by omega) g1)
        rw [g3] at g4
        exact (List.cons.inj g4).1.symm
       rw [this,← h6]; exact hch.1 _ (Pb 6 p)
  have hkeep:Keep' ow K.os ow' (osb ++ (K1.os.drop ids.length).map (renPO (backN ids K.os.length))):=by
   refine ⟨by simp; omega,fun id hl L' hL'=>?_⟩
   obtain ⟨g1,g2⟩:=hlolt 6 id L' (Nat.le_refl _) hl hL'
   refine ⟨L',g1,fun c=>?_⟩
   obtain ⟨t,g3,g4,_⟩:=G0 6 id L' g1
   have hrl:=isRt_lt g4
   by_cases hm:rootOf K.os 6 id∈ids
   . -- a root that the call came to
     have ht:t=[]:=Classical.byContradiction fun ht=>g2 _ t g3 ht hm
     subst ht
     have hid:rootOf K.os 6 id=id:=by
      obtain ⟨t',g5,_,g6⟩:=G0 6 id L' g1
      rw [g3] at g5; exact g6 (List.cons.inj g5).2.symm
     rw [hid] at hm g3
     obtain ⟨j,hj⟩:=List.getElem?_of_mem hm
     have hrt':isRt (osb ++ (K1.os.drop ids.length).map (renPO (backN ids K.os.length))) id=true:=by
      rw [g3] at hL'
      obtain ⟨t',g5,g6,g7⟩:=G0 6 id _ hL'
      rw [g7 (List.cons.inj g5).2.symm] at g6; exact g6
     have hjl:j < ids.length:=(List.getElem?_eq_some_iff.1 hj).1
     have hrt1:isRt K1.os j=true:=by
      unfold isRt at hrt'
      cases hq:(osb ++ (K1.os.drop ids.length).map (renPO (backN ids K.os.length)))[id]? with
      | none=>rw [hq] at hrt'; cases hrt'
      | some e =>
       rw [hq] at hrt'
       obtain ⟨e1,q1,q2⟩:=p3 j id hj
       have hosb:osb[id]?=some e:=by rw [List.getElem?_append_left (by omega)] at hq; exact hq
       unfold isRt
       rw [q1]
       rcases q2 with ⟨k',es',sz',k2,es2,sz2,d1,d2,d3⟩ | ⟨k',es',sz',d1,_,d3⟩ | ⟨es',_,d1,d2,d3⟩ | ⟨d1,d2,d3⟩
       . rw [d2]
       . rw [d3] at hosb; cases hosb; cases hrt'
       . rw [d2]
       . rw [d3] at hosb; unfold isRt at d1; rw [hosb] at d1; rw [hrt'] at d1; cases d1
     have hxk:=st.xk j hjl c hrt1
     rw [g3,hC c j id [] hj (by omega),← hxk,C7]
     constructor
     . exact fun hd=>⟨id,j,[],hd,G1 ids id j hn hj,rfl⟩
     . rintro ⟨r,j',t',a1,a2,a3⟩
       cases a3
       have:=posOf_some ids r _ a2
       rw [hj] at this; cases this; exact a1
   . rw [g3]; exact (hB c _ t hm hrl).symm
  have hren:Ren (backN ids K.os.length) ow1 K1.os ow' (osb ++ (K1.os.drop ids.length).map (renPO (backN ids K.os.length))):=by
   have hlen:(osb ++ (K1.os.drop ids.length).map (renPO (backN ids K.os.length))).length=K.os.length + (K1.os.length - ids.length):=by simp; omega
   have key : ∀ (n j r:Nat) (L':List Nat),backN ids K.os.length j=some r->loP (osb ++ (K1.os.drop ids.length).map (renPO (backN ids K.os.length))) n r=some L'->∃ L,loP K1.os n j=some L∧∀ c,ow1 c=some L ↔ ow' c=some L':=fun n=>by
    have main:∀ (n j r:Nat) (L':List Nat),backN ids K.os.length j=some r->loP (osb ++ (K1.os.drop ids.length).map (renPO (backN ids K.os.length))) n r=some L'->∃ j0 r0 t,loP K1.os n j=some (j0 :: t)∧L'=r0 :: t∧∀ c t,ow1 c=some (j0 :: t) ↔ ow' c=some (r0 :: t):=fun n=>by
     induction n with
     | zero=>exact fun j r L' _ e=>by cases e
     | succ n ih =>
      intro j r L' hb e
      unfold loP at e
      cases hj:(osb ++ (K1.os.drop ids.length).map (renPO (backN ids K.os.length)))[r]? with
      | none=>rw [hj] at e; cases e
      | some en =>
       rw [hj] at e
       rcases hloc hj with ⟨a1,a2,_⟩ | ⟨j',e1,b1,b2,b3,b4,b5⟩ | rfl
       . rcases hbk j r hb with c | ⟨_,c⟩
         . exact absurd (List.mem_of_getElem? c) a1
         . omega
       . have hjj:j'=j:=by
          rcases hbk j r hb with c | ⟨c,c'⟩
          . rcases hbk j' r b4 with d | ⟨_,d⟩
            . have:=G1 ids r j hn c
              rw [G1 ids r j' hn d] at this; cases this; rfl
            . have:=hidl r (List.mem_of_getElem? c); omega
          . rcases hbk j' r b4 with d | ⟨_,d⟩
            . have:=hidl r (List.mem_of_getElem? d); omega
            . omega
         subst hjj
         unfold loP
         rw [b1]
         cases e1 with
         | row k es sz =>
          have:∃ es',en=.row k es' sz:=by rw [b2]; cases k <;> exact ⟨_,rfl⟩
          obtain ⟨es',rfl⟩:=this
          cases e
          exact ⟨j',r,[],rfl,rfl,fun c t=>(b3 c t).symm⟩
         | mapo es=>rw [b2] at e; cases e; exact ⟨j',r,[],rfl,rfl,fun c t=>(b3 c t).symm⟩
         | dead=>rw [b2] at e; cases e
         | sub p i o =>
          rw [b2] at e
          rw [show renPO (backN ids K.os.length) (.sub p i o)=(match backN ids K.os.length p with | some q=>PO.sub q i o | none=>.dead) from rfl] at e
          simp only at e ⊢
          cases hq:backN ids K.os.length p with
          | none=>rw [hq] at e; cases e
          | some p' =>
           rw [hq] at e
           simp only at e
           cases hL:loP (osb ++ (K1.os.drop ids.length).map (renPO (backN ids K.os.length))) n p' with
           | none=>rw [hL] at e; cases e
           | some Lp =>
            rw [hL] at e; cases e
            obtain ⟨j0,r0,t,g1,rfl,g3⟩:=ih p p' Lp hq hL
            exact ⟨j0,r0,t ++ [i,o],by rw [g1]; simp,by simp,g3⟩
       . cases e
    intro j r L' hb e
    obtain ⟨j0,r0,t,g1,rfl,g3⟩:=main n j r L' hb e
    exact ⟨_,g1,fun c=>g3 c t⟩
   intro j r hj hjl
   refine ⟨?_,fun L' hL'=>key 6 j r L' hj hL'⟩
   rw [hlen]
   rcases hbk j r hj with c | ⟨_,c⟩
   . have:=hidl r (List.mem_of_getElem? c); omega
   . omega
  have hzk:∀ d,Z d->Z1 d∧h1.get d=h.get d:=hz
  refine ⟨ow',⟨fun r es sz hr=>?_,fun r k es sz hr hk=>?_,fun r es hr=>?_,fun a b M ha hb=>?_,fun a M ha=>?_,s1.zb,fun j p i o hj=>?_⟩,hkeep,fun b=>⟨st.nx,hz,st.zn,fun d hd ho=>?_,fun d M hd hl=>?_,?_,fun d r t ho hr=>?_,fun r hr hl=>?_,rfl,fun j hj c hr=>?_,fun j hj hr=>?_⟩,hren⟩
  . rcases hloc hr with ⟨a1,a2,a3⟩ | ⟨j,e1,b1,b2,b3,_,_⟩ | h
    . obtain ⟨x,hx⟩:=s.row r es sz (w.row.1 a3)
      exact ⟨x,hx.reloc st.nx hz (fun d t=>hB d r t a1 a2) (fun d t hd=>hgo d r t hd a1)⟩
    . obtain ⟨es0,rfl,h3⟩:=hrenrow b2.symm
      rcases h3 with ⟨_,rfl⟩ | ⟨h3,_⟩
      . obtain ⟨x,hx⟩:=s1.row j _ sz b1
        exact ⟨x,hx.reloc (Nat.le_refl _) (fun _ hz=>⟨hz,rfl⟩) (fun d t=>b3 d t) (fun _ _ _=>rfl)⟩
      . exact absurd rfl h3
    . cases h
  . rcases hloc hr with ⟨a1,a2,a3⟩ | ⟨j,e1,b1,b2,b3,_,_⟩ | h
    . obtain ⟨c,ces,g⟩:=s.raw r k es sz (w.row.1 a3) hk
      refine ⟨c,ces,(hB c r [] a1 a2).2 g.o,Nat.lt_of_lt_of_le g.lt st.nx,(hgo c r [] g.o a1).trans g.get,g.sh,fun i x y hx hy o a b ha hb=>(g.vr i x y hx hy o a b ha hb).keep hz hkeep,g.okp,fun a t ha=>g.no a t ((hB a r t a1 a2).1 ha)⟩
    . obtain ⟨es0,rfl,h3⟩:=hrenrow b2.symm
      rcases h3 with ⟨h3,_⟩ | ⟨_,rfl⟩
      . exact absurd h3 hk
      . obtain ⟨c,ces,g⟩:=s1.raw j k es0 sz b1 hk
        exact ⟨c,ces,g.ren (fun _ hz=>⟨hz,rfl⟩) hren ((b3 c []).2 g.o) (Nat.le_refl _) rfl (fun a t ha=>g.no a t ((b3 a t).1 ha))⟩
    . cases h
  . rcases hloc hr with ⟨a1,a2,a3⟩ | ⟨j,e1,b1,b2,b3,_,_⟩ | h
    . obtain ⟨c,ces,g⟩:=s.map r es (w.map.1 a3)
      exact ⟨c,ces,(hB c r [] a1 a2).2 g.o,Nat.lt_of_lt_of_le g.lt st.nx,(hgo c r [] g.o a1).trans g.get,g.len,fun i x y hx hy=>⟨(g.kv i x y hx hy).1,(g.kv i x y hx hy).2.mono hz⟩,fun a t ha=>g.no a t ((hB a r t a1 a2).1 ha)⟩
    . have:e1=.mapo es:=by
       cases e1 with
       | mapo=>cases b2; rfl
       | row k _ _=>cases k <;> cases b2
       | dead=>cases b2
       | sub p i o=>unfold renPO at b2; simp only at b2; cases hq:backN ids K.os.length p <;> rw [hq] at b2 <;> cases b2
      subst this
      obtain ⟨c,ces,g⟩:=s1.map j es b1
      exact ⟨c,ces,(b3 c []).2 g.o,g.lt,g.get,g.len,g.kv,fun a t ha=>g.no a t ((b3 a t).1 ha)⟩
    . cases h
  . obtain ⟨r,t,rfl⟩:=hoc a M ha
    rcases (hoi a r t).1 ha with ⟨j,a1,a2⟩ | ⟨a1,a2,a3⟩
    . rcases (hoi b r t).1 hb with ⟨j',b1,b2⟩ | ⟨b1,b2,b3⟩
      . have hjj:j'=j:=by
         rcases hbk j r a2 with c | ⟨c,c'⟩
         . rcases hbk j' r b2 with d | ⟨_,d⟩
           . have:=G1 ids r j hn c
             rw [G1 ids r j' hn d] at this; cases this; rfl
           . have:=hidl r (List.mem_of_getElem? c); omega
         . rcases hbk j' r b2 with d | ⟨_,d⟩
           . have:=hidl r (List.mem_of_getElem? d); omega
           . omega
        subst hjj
        exact s1.inj _ _ _ a1 b1
      . rcases hbk j r a2 with c | ⟨_,c⟩
        . rw [C7.2 ⟨r,j,t,b3,G1 ids r j hn c,rfl⟩] at b1; cases b1
        . have:=hhead b r t b3; omega
    . rcases (hoi b r t).1 hb with ⟨j',b1,b2⟩ | ⟨b1,b2,b3⟩
      . rcases hbk j' r b2 with c | ⟨_,c⟩
        . rw [C7.2 ⟨r,j',t,a3,G1 ids r j' hn c,rfl⟩] at a1; cases a1
        . have:=hhead a r t a3; omega
      . exact s.inj _ _ _ a3 b3
  . obtain ⟨r,t,rfl⟩:=hoc a M ha
    rcases (hoi a r t).1 ha with ⟨j,a1,a2⟩ | ⟨a1,a2,a3⟩
    . obtain ⟨c1,c2,r',t',c3,c4⟩:=s1.live a _ a1
      cases c3
      refine ⟨c1,c2,r,t,rfl,?_⟩
      rcases hbk j r a2 with c | ⟨c,rfl⟩
      . obtain ⟨e1,q1,q2⟩:=p3 j r c
        have hrl:=hidl r (List.mem_of_getElem? c)
        unfold isRt at c4 ⊢
        rw [List.getElem?_append_left (by omega)]
        rw [q1] at c4
        rcases q2 with ⟨k',es',sz',k2,es2,sz2,d1,d2,d3⟩ | ⟨k',es',sz',d1,d2,d3⟩ | ⟨es',_,d1,d2,d3⟩ | ⟨d1,d2,d3⟩
        . rw [d3,d2]; cases k2 <;> rfl
        . rw [d2] at c4; cases c4
        . rw [d3]
        . rw [d2] at c4; cases c4
      . unfold isRt at c4 ⊢
        rw [List.getElem?_append_right (by omega),List.getElem?_map,List.getElem?_drop,show ids.length + (K.os.length + (j - ids.length) - osb.length)=j by omega]
        cases hq:K1.os[j]? with
        | none=>rw [hq] at c4; cases c4
        | some e =>
         rw [hq] at c4
         cases e with
         | row k es sz=>cases k <;> rfl
         | mapo=>rfl
         | sub=>cases c4
         | dead=>cases c4
    . obtain ⟨c1,c2,r',t',c3,c4⟩:=s.live a _ a3
      cases c3
      have hrl:=isRt_lt c4
      have hnr:¬ r∈ids:=fun hm=>by
       obtain ⟨j,hj⟩:=List.getElem?_of_mem hm
       rw [C7.2 ⟨r,j,t,a3,G1 ids r j hn hj,rfl⟩] at a1; cases a1
      refine ⟨Nat.lt_of_lt_of_le c1 st.nx,fun hz1=>?_,r,t,rfl,?_⟩
      . rcases st.zn a hz1 with h | h
        . exact c2 h
        . omega
      . have:=w.rt r
        unfold isRt at this c4 ⊢
        rw [List.getElem?_append_left (by omega),p2 r hnr,this]; exact c4
  . rcases hloc hj with ⟨a1,a2,a3⟩ | ⟨j',e1,b1,b2,_,_,_⟩ | h
    . have horig:K.os[j]?=some (.sub p i o):=by
       rcases w.2 j with e1 | ⟨_,_,_,_,e2⟩
       . rw [← e1]; exact a3
       . rw [e2] at a3; cases a3
      have:=s.sb j p i o horig
      simp; omega
    . cases e1 with
      | sub p0 i0 o0 =>
       unfold renPO at b2
       simp only at b2
       cases hq:backN ids K.os.length p0 with
       | none=>rw [hq] at b2; cases b2
       | some p' =>
        rw [hq] at b2; cases b2
        have hpl:=s1.sb j' p0 i o b1
        simp
        rcases hbk p0 p hq with c | ⟨_,c⟩
        . have:=hidl p (List.mem_of_getElem? c); omega
        . omega
      | row k _ _=>cases k <;> cases b2
      | mapo=>cases b2
      | dead=>cases b2
    . cases h
  . exact st.un d hd (by
     cases hq:rown (posOf ids) ow d with
     | none=>rfl
     | some M =>
      obtain ⟨_,_,_,a1,_⟩:=C7.1 hq
      rw [ho] at a1; cases a1)
  . obtain ⟨r,t,rfl⟩:=hoc d M hd
    intro e
    rcases (hoi d r t).1 hd with ⟨j,a1,a2⟩ | ⟨_,_,a3⟩
    . have:=st.uo d _ a1 hl
      exact this (by
       cases hq:rown (posOf ids) ow d with
       | none=>rfl
       | some M =>
        obtain ⟨_,_,_,a1,_⟩:=C7.1 hq
        rw [e] at a1; cases a1)
    . rw [e] at a3; cases a3
  . obtain ⟨l,l1,l2⟩:=st.th
    refine ⟨l,l1,fun d hd=>?_⟩
    rcases l2 d hd with h | ⟨j,t,h3,h4⟩
    . exact .inl h
    . obtain ⟨r,j',t',a1,a2,a3⟩:=C7.1 h3
      cases a3
      have hj:=posOf_some ids r j a2
      have hjl:j < ids.length:=(List.getElem?_eq_some_iff.1 hj).1
      refine .inr ⟨r,t,a1,fun _=>List.mem_append_left _ (List.mem_map.2 ⟨j,List.mem_filter.2 ⟨h4 hjl,by simpa using hjl⟩,?_⟩)⟩
      rw [List.getD_eq_getElem?_getD,hj]; rfl
  . by_cases hm:r∈ids
    . obtain ⟨j,hj⟩:=List.getElem?_of_mem hm
      have hjl:j < ids.length:=(List.getElem?_eq_some_iff.1 hj).1
      have h3:=C7.2 ⟨r,j,t,ho,G1 ids r j hn hj,rfl⟩
      rcases st.mv d j t h3 hjl with ⟨t',h4⟩ | h4
      . exact .inl ⟨t',(hC d j r t' hj (hidl r hm)).2 h4⟩
      . exact .inr (List.mem_append_left _ (List.mem_map.2 ⟨j,List.mem_filter.2 ⟨h4,by simpa using hjl⟩,by rw [List.getD_eq_getElem?_getD,hj]; rfl⟩))
    . exact .inl ⟨t,(hB d r t hm (hhead d r t ho)).2 ho⟩
  . exact List.mem_append_right _ hr
  . have hl:j < K.os.length:=by omega
    have hrl:loP (osb ++ (K1.os.drop ids.length).map (renPO (backN ids K.os.length))) 6 j=some [j]:=by
     unfold isRt at hr
     unfold loP
     have hr:(match (osb ++ (K1.os.drop ids.length).map (renPO (backN ids K.os.length)))[j]? with | some (.row _ _ _)=>true | some (.mapo _)=>true | _=>false)=true:=hr
     cases hq:(osb ++ (K1.os.drop ids.length).map (renPO (backN ids K.os.length)))[j]? with
     | none=>rw [hq] at hr; cases hr
     | some e=>rw [hq] at hr; cases e <;> first | rfl | cases hr
    obtain ⟨L,g1,g2⟩:=hkeep.2 j hl [j] hrl
    obtain ⟨g3,_⟩:=hlolt 6 j [j] (Nat.le_refl _) hl hrl
    rw [g1] at g3; cases g3
    exact g2 c
  . have hl:j < K.os.length:=by omega
    have hr:(match (osb ++ (K1.os.drop ids.length).map (renPO (backN ids K.os.length)))[j]? with | some (.row _ _ _)=>true | some (.mapo _)=>true | _=>false)=true:=hr
    cases hq:(osb ++ (K1.os.drop ids.length).map (renPO (backN ids K.os.length)))[j]? with
    | none=>rw [hq] at hr; cases hr
    | some e =>
     rcases hloc hq with ⟨a1,a2,a3⟩ | ⟨j',e1,b1,b2,b3,b4,b5⟩ | rfl
     . rw [← w.rt]; unfold isRt; rw [a3]; rw [hq] at hr; exact hr
     . rcases b5 with ⟨_,h⟩ | h
       . exact h
       . rcases hbk j' j b4 with c | ⟨_,c⟩
         . have:=(List.getElem?_eq_some_iff.1 c).1; omega
         . omega
     . rw [hq] at hr; cases hr
end
end Go.AM
namespace Go.AM
section
variable {E:Env} {R:AV->AV->Prop} {Z Z' Z1:Nat->Prop} {ow ow' ow1:Nat->Option (List Nat)} {h h' h1:Heap} {K K':PK} {os os' ps:List PO} {x y xc yc v k:AV} {L M:List Nat}
theorem Eh {a:Option AV} {l:Option (List AV)} {r:List AV} (e:D2 a l=some r):∃ v t,a=some v∧l=some t∧r=v :: t:=by
 unfold D2 at e
 cases a with
 | none=>cases e
 | some v=>cases l with
  | none=>cases e
  | some t=>cases e; exact ⟨v,t,rfl,rfl,rfl⟩
theorem y2:∀ (l l':List AV),frzL l=some l'->l'.length=l.length∧∀ (i:Nat) y y',l[i]?=some y->l'[i]?=some y'->frzC y=some y'
 | [],l',e=>by cases e; exact ⟨rfl,fun i y y' hy=>by simp at hy⟩
 | v :: l,l',e=>by
  unfold frzL at e
  obtain ⟨a,t,h1,h2,rfl⟩:=Eh e
  obtain ⟨h3,h4⟩:=y2 l t h2
  refine ⟨by simp [h3],fun i y y' hy hy'=>?_⟩
  cases i with
  | zero=>cases hy; cases hy'; exact h1
  | succ i=>exact h4 i y y' hy hy'
theorem Xw:∀ (l l':List AV),viewL os l=some l'->l'.length=l.length∧∀ (i:Nat) y y',l[i]?=some y->l'[i]?=some y'->z7 os y=some y'
 | [],l',e=>by cases e; exact ⟨rfl,fun i y y' hy=>by simp at hy⟩
 | v :: l,l',e=>by
  unfold viewL at e
  obtain ⟨a,t,h1,h2,rfl⟩:=Eh e
  obtain ⟨h3,h4⟩:=Xw l t h2
  refine ⟨by simp [h3],fun i y y' hy hy'=>?_⟩
  cases i with
  | zero=>cases hy; cases hy'; exact h1
  | succ i=>exact h4 i y y' hy hy'
theorem Rw:∀ (l l':List AV),viewAs os l=some l'->l'.length=l.length∧∀ (i:Nat) y y',l[i]?=some y->l'[i]?=some y'->viewA os y=some y'
 | [],l',e=>by cases e; exact ⟨rfl,fun i y y' hy=>by simp at hy⟩
 | v :: l,l',e=>by
  unfold viewAs at e
  obtain ⟨a,t,h1,h2,rfl⟩:=Eh e
  obtain ⟨h3,h4⟩:=Rw l t h2
  refine ⟨by simp [h3],fun i y y' hy hy'=>?_⟩
  cases i with
  | zero=>cases hy; cases hy'; exact h1
  | succ i=>exact h4 i y y' hy hy'
theorem Gv {c c':AV} (e:frzC c=some c') (hc:isAg c=false):clo c'=true:=by
 cases c <;> unfold frzC at e <;> first | (cases e; done) | (cases e; rfl) | skip
 . cases hc
 . rename_i cs
   cases cs with
   | nil=>cases e
   | cons a es =>
    cases a <;> try (cases e; done)
    rename_i i j z
    cases j with
    | succ=>cases e
    | zero =>
     simp only at e
     cases hf:frzL es with
     | none=>rw [hf] at e; cases e
     | some es' =>
      rw [hf] at e
      simp only at e
      split at e
      . split at e
        . cases e; rfl
        . cases e
      . cases e; rfl
 . rename_i es f
   cases hf:frzL es with
   | none=>rw [hf] at e; cases e
   | some es'=>rw [hf] at e; cases e; rfl
 . rename_i v o
   cases hf:frzC v with
   | none=>rw [hf] at e; cases e
   | some es'=>rw [hf] at e; cases e; rfl
theorem Fz.frz (f:Fz Z h x y):∀ y',frzC y=some y'->Fz Z h x y':=by
 have fsl:∀ {x:AV} {es es':List AV},(∀ es'':List AV,frzL es=some es''->Fz Z h x (fslN es''))->∀ {f:Bool} y',frzC (.fsl es f)=some y'->Fz Z h x y':=fun {x es es'} H f y' e=>by
  unfold frzC at e
  cases hf:frzL es with
  | none=>rw [hf] at e; cases e
  | some es''=>rw [hf] at e; cases e; exact H _ hf
 induction f with
 | int=>intro y' e; cases e; exact .int _ _
 | bool=>intro y' e; cases e; exact .bool _
 | str=>intro y' e; cases e; exact .str _
 | nilsl=>intro y' e; cases e; exact .emp .nil
 | nilptr=>intro y' e; cases e; exact .nilptr
 | nilmap=>intro y' e; cases e; exact .nilmap
 | nilfn=>intro y' e; cases e; exact .nilfn
 | niliface=>intro y' e; cases e; exact .niliface
 | agg h1 h2 h3 ih =>
  rename_i xs ys
  intro y' e
  unfold frzC at e
  cases hf:frzL ys with
  | none=>rw [hf] at e; cases e
  | some ys' =>
   rw [hf] at e; cases e
   obtain ⟨g1,g2⟩:=y2 _ _ hf
   refine .agg (h1.trans g1.symm) (fun i a b ha hb=>?_) (List.all_eq_true.2 fun b hb=>?_)
   . obtain ⟨c,hc⟩:∃ c,ys[i]?=some c:=⟨_,List.getElem?_eq_getElem (by have:=(List.getElem?_eq_some_iff.1 hb).1; omega)⟩
     exact ih i a c ha hc b (g2 i c b hc hb)
   . obtain ⟨i,hi⟩:=List.getElem?_of_mem hb
     obtain ⟨c,hc⟩:∃ c,ys[i]?=some c:=⟨_,List.getElem?_eq_getElem (by have:=(List.getElem?_eq_some_iff.1 hi).1; omega)⟩
     refine Gv (g2 i c b hc hi) ?_
     have:=List.all_eq_true.1 h3 c (List.mem_of_getElem? hc)
     cases c <;> first | rfl | cases this
 | emp e=>intro y' e'; cases e'; exact .emp e
 | fsl h1 h2 h3 ih =>
  rename_i es es' f f'
  refine fsl (es':=es') fun es'' hf=>?_
  obtain ⟨g1,g2⟩:=y2 _ _ hf
  unfold fslN
  refine .fsl (h1.trans g1.symm) (fun i a b ha hb=>?_) h3
  obtain ⟨c,hc⟩:∃ c,es'[i]?=some c:=⟨_,List.getElem?_eq_getElem (by have:=(List.getElem?_eq_some_iff.1 hb).1; omega)⟩
  exact ih i a c ha hc b (g2 i c b hc hb)
 | view h1 h2 h3 h4 h5 h6 ih =>
  rename_i es' f'
  refine fsl (es':=es') fun es'' hf=>?_
  obtain ⟨g1,g2⟩:=y2 _ _ hf
  refine .view h1 h2 h3 (g1.trans h4) (fun i a b ha hb=>?_) h6
  obtain ⟨c,hc⟩:∃ c,es'[i]?=some c:=⟨_,List.getElem?_eq_getElem (by have:=(List.getElem?_eq_some_iff.1 hb).1; omega)⟩
  exact ih i a c ha hc b (g2 i c b hc hb)
 | fptr o _ ih =>
  rename_i v v' _
  intro y' e
  unfold frzC at e
  cases hf:frzC v' with
  | none=>rw [hf] at e; cases e
  | some w=>rw [hf] at e; cases e; exact .fptr o (ih w hf)
 | pview h1 h2 h3 _ ih =>
  rename_i v v' row _
  intro y' e
  unfold frzC at e
  cases hf:frzC v' with
  | none=>rw [hf] at e; cases e
  | some w=>rw [hf] at e; cases e; exact .pview h1 h2 h3 (ih w hf)
theorem Fz.elem {a b b':AV} (hs:a.cells.length=b.cells.length∧isAg a=isAg b) (H:∀ (o:Nat) u w,a.cells[o]?=some u->b.cells[o]?=some w->∀ w',frzC w=some w'->Fz Z h u w'∧AM.clo w'=true) (e:frzC b=some b'):Fz Z h a b':=by
 cases hb:isAg b with
 | false =>
  have ha:=hs.2.trans hb
  exact (H 0 a b (by rw [B9 ha]; rfl) (by rw [B9 hb]; rfl) b' e).1
 | true =>
  have ha:=hs.2.trans hb
  cases b <;> first | (cases hb; done) | skip
  cases a <;> first | (cases ha; done) | skip
  rename_i ys xs
  unfold frzC at e
  cases hf:frzL ys with
  | none=>rw [hf] at e; cases e
  | some ys' =>
   rw [hf] at e; cases e
   obtain ⟨g1,g2⟩:=y2 _ _ hf
   have hl:xs.length=ys.length:=hs.1
   refine .agg (hl.trans g1.symm) (fun i u w hu hw=>?_) (List.all_eq_true.2 fun w hw=>?_)
   . obtain ⟨c,hc⟩:∃ c,ys[i]?=some c:=⟨_,List.getElem?_eq_getElem (by have:=(List.getElem?_eq_some_iff.1 hw).1; omega)⟩
     exact (H i u c hu hc w (g2 i c w hc hw)).1
   . obtain ⟨i,hi⟩:=List.getElem?_of_mem hw
     obtain ⟨c,hc⟩:∃ c,ys[i]?=some c:=⟨_,List.getElem?_eq_getElem (by have:=(List.getElem?_eq_some_iff.1 hi).1; omega)⟩
     obtain ⟨u,hu⟩:∃ u,xs[i]?=some u:=⟨_,List.getElem?_eq_getElem (by have:=(List.getElem?_eq_some_iff.1 hc).1; omega)⟩
     exact (H i u c hu hc w (g2 i c w hc hi)).2
def Zv (Z:Nat->Prop) (ow:Nat->Option (List Nat)) (id:Nat):Prop:=Z id∨ow id ≠ none
theorem Fz.zv (f:Fz Z h x y):Fz (Zv Z ow) h x y:=f.mono fun _ hz=>⟨.inl hz,rfl⟩
theorem CR.frz (c:CR Z ow h L x y):∀ y',frzC y=some y'->Fz (Zv Z ow) h x y'∧clo y'=true:=by
 induction c with
 | val f e n=>exact fun y' hy=>⟨(f.frz y' hy).zv,Gv hy (by rename_i y; cases y <;> first | rfl | cases e)⟩
 | und=>intro y' e; cases e
 | nil e n =>
  intro y' hy
  cases hy
  refine ⟨.emp ?_,rfl⟩
  rcases e with rfl | rfl
  . exact .nil
  . exact .nil
 | own h1 h2 h3 h4 h5 h6 _ ih =>
  rename_i L k id sz ces es _
  intro y' e
  have hag:isAg (ownd k sz es)=false:=rfl
  refine ⟨?_,Gv e hag⟩
  unfold ownd frzC at e
  simp only at e
  cases hf:frzL es with
  | none=>rw [hf] at e; cases e
  | some es' =>
   rw [hf] at e
   simp only at e
   obtain ⟨g1,g2⟩:=y2 _ _ hf
   have hel:∀ (i:Nat) a b,ces[i]?=some a->es'[i]?=some b->Fz (Zv Z ow) h a b:=fun i a b ha hb=>by
    obtain ⟨c,hc⟩:∃ c,es[i]?=some c:=⟨_,List.getElem?_eq_getElem (by have:=(List.getElem?_eq_some_iff.1 hb).1; omega)⟩
    obtain ⟨q1,q2,q3⟩:=h6 i a c ha hc
    exact .elem ⟨q1.trans q2.symm,q3⟩ (fun o u w hu hw w' hw'=>ih i a c ha hc o u w hu hw w' hw') (g2 i c b hc hb)
   have hz:Zv Z ow id:=.inr (by rw [h1]; intro e; cases e)
   split at e
   . split at e
     . rename_i v
       cases e
       have hl:ces.length=1:=by simp at g1; omega
       obtain ⟨a,ha⟩:∃ a,ces[0]?=some a:=⟨_,List.getElem?_eq_getElem (by omega)⟩
       exact .pview hz h3 ha (hel 0 a v ha rfl)
     . cases e
   . rename_i hk
     cases e
     have:refK k id es.length sz=.msl id 0 es.length sz:=by
      unfold refK
      split
      . exact absurd rfl (hk · )
      . rfl
     rw [this]
     refine .view hz h3 (by omega) g1 (fun i a b ha hb=>hel i a b (by simpa using ha) hb) (fun i a hi ha=>?_)
     rw [Nat.zero_add] at ha
     obtain ⟨c,hc⟩:∃ c,es[i]?=some c:=⟨_,List.getElem?_eq_getElem hi⟩
     exact (h6 i a c ha hc).1
end
end Go.AM
namespace Go.AM
section
variable {E:Env} {R:AV->AV->Prop} {Z Z' Z1:Nat->Prop} {ow ow' ow1:Nat->Option (List Nat)} {h h' h1:Heap} {K K':PK} {os os' ps:List PO} {x y xc yc v k:AV} {L M:List Nat}
theorem VR.view (s:H1 Z ow h os) (a:VR Z ow h os x y) {w:AV} (e:z7 os y=some w):Fz (Zv Z ow) h x w∧clo w=true∧(M8 y=[]->Fz Z h x w):=by
 have el:∀ {id:Nat} {es:List AV} {sz:Nat},rowOf os 6 id=some (0,es,sz)->∀ {c:Nat},(∀ L,loP os 6 id=some L->ow c=some L)->∃ ces,h.get c=some (.row ces sz)∧Us sz ces es∧(ow c ≠ none)∧∀ (i:Nat) a b b',ces[i]?=some a->es[i]?=some b->frzC b=some b'->Fz (Zv Z ow) h a b':=fun {id es sz} hr {c} hc=>by
  obtain ⟨L,hL,h1⟩:=s.get 6 id 0 es sz hr
  have ho:=hc L hL
  have fin:∀ {x':AV},CR Z ow h L x' (ownd 0 sz es)->∃ ces,h.get c=some (.row ces sz)∧Us sz ces es∧(ow c ≠ none)∧∀ (i:Nat) a b b',ces[i]?=some a->es[i]?=some b->frzC b=some b'->Fz (Zv Z ow) h a b':=fun {x'} hx=>by
   rcases hx.inv with ⟨_,_,_,n⟩ | ⟨id',ces,_,g2,_,g4,g5,_,g7⟩
   . exact absurd (by rw [List.append_nil]; exact ho) (n c [])
   . obtain rfl:=s.inj c id' L ho g2
     refine ⟨ces,g4,g5,(by rw [ho]; intro e; cases e),fun i a b b' ha hb hf=>?_⟩
     obtain ⟨q1,q2,q3⟩:=g5.2 i a b ha hb
     exact .elem ⟨q1.trans q2.symm,q3⟩ (fun o u w hu hw w' hw'=>(g7 i a b ha hb o u w hu hw).frz w' hw') hf
  rcases h1 with ⟨_,rfl,c',ces',g⟩ | ⟨_,x',hx⟩
  . obtain rfl:=s.inj c c' _ ho g.o
    refine ⟨ces',g.get,g.sh,(by rw [ho]; intro e; cases e),fun i a b b' ha hb hf=>?_⟩
    obtain ⟨q1,q2,q3⟩:=g.sh.2 i a b ha hb
    refine .elem ⟨q1.trans q2.symm,q3⟩ (fun o u w hu hw w' hw'=>?_) hf
    have v:=g.vr i a b ha hb o u w hu hw
    have hok:=g.okp i b hb w (List.mem_of_getElem? hw)
    have hz:Fz Z h u w:=by
     cases v with
     | fz f=>exact f
     | und=>cases hw'
     | any=>cases hw'
     | msl=>cases hw'
     | mnil=>cases hw'
     | ptr=>cases hw'
     | map=>cases hw'
     | agg=>rcases hok with hok | hok <;> cases hok
     | tup=>rcases hok with hok | hok <;> cases hok
     | fn=>cases hw'
     | iface=>cases hw'
    refine ⟨(hz.frz w' hw').zv,Gv hw' ?_⟩
    cases w <;> first | rfl | (rcases hok with hok | hok <;> cases hok)
  . exact fin hx
 have plain:isAg y=false->frzC y=some w->(∀ cs,y ≠ .tup cs)->Fz (Zv Z ow) h x w∧clo w=true∧(M8 y=[]->Fz Z h x w):=fun hy hf ht=>by
  have hz:Fz Z h x y:=by
   cases a with
   | fz f=>exact f
   | und=>cases hf
   | any=>cases hf
   | msl=>cases hf
   | mnil=>cases hf
   | ptr=>cases hf
   | map=>cases hf
   | agg=>cases hy
   | tup=>exact absurd rfl (ht _)
   | fn=>cases hf
   | iface=>cases hf
  exact ⟨(hz.frz w hf).zv,Gv hf hy,fun _=>hz.frz w hf⟩
 unfold z7 at e
 split at e
 . rename_i id off n sz
   cases hr:rowOf os 6 id with
   | none=>rw [hr] at e; cases e
   | some q =>
    obtain ⟨k,es,z⟩:=q
    rw [hr] at e
    simp only at e
    split at e
    . rename_i hc
      obtain ⟨rfl,rfl,hn⟩:=hc
      cases hf:frzL ((es.drop off).take n) with
      | none=>rw [hf] at e; cases e
      | some es' =>
       rw [hf] at e; cases e
       refine ⟨?_,rfl,fun h0=>by cases h0⟩
       obtain ⟨g1,g2⟩:=y2 _ _ hf
       have hlen:((es.drop off).take n).length=n:=by simp; omega
       cases a with
       | fz f=>cases f
       | msl h1 h2 =>
        rename_i c
        obtain ⟨ces,q1,q2,q3,q4⟩:=el hr h1
        refine .view (.inr q3) q1 (by have:=q2.1; omega) (g1.trans hlen) (fun i u w hu hw=>?_) (fun i u hi hu=>?_)
        . have hi:i < n:=by have:=(List.getElem?_eq_some_iff.1 hw).1; omega
          obtain ⟨b,hb⟩:∃ b,((es.drop off).take n)[i]?=some b:=⟨_,List.getElem?_eq_getElem (by omega)⟩
          have hb':es[off + i]?=some b:=by rw [E3,if_pos hi] at hb; exact hb
          exact q4 (off + i) u b w hu hb' (g2 i b w hb hw)
        . obtain ⟨b,hb⟩:∃ b,es[off + i]?=some b:=⟨_,List.getElem?_eq_getElem (by omega)⟩
          exact (q2.2 (off + i) u b hu hb).1
       | mnil h1 h2 h3 =>
        have:es'=[]:=List.eq_nil_of_length_eq_zero (by simpa using g1)
        subst this
        refine .emp ?_
        rcases h1 with rfl | rfl
        . exact .nil
        . exact .nil
    . cases e
 . rename_i id i off
   cases hr:rowOf os 6 id with
   | none=>rw [hr] at e; cases e
   | some q =>
    obtain ⟨k,es,z⟩:=q
    rw [hr] at e
    simp only at e
    split at e
    . rename_i hk; subst hk
      cases hi:es[i]? with
      | none=>rw [hi] at e; cases e
      | some v =>
       rw [hi] at e
       simp only at e
       cases hf:frzC v with
       | none=>rw [hf] at e; cases e
       | some v' =>
        rw [hf] at e; cases e
        refine ⟨?_,rfl,fun h0=>by cases h0⟩
        cases a with
        | fz f=>cases f
        | ptr h1 h2 =>
         obtain ⟨ces,q1,q2,q3,q4⟩:=el hr h1
         obtain ⟨u,hu⟩:∃ u,ces[i]?=some u:=⟨_,List.getElem?_eq_getElem (by have:=(List.getElem?_eq_some_iff.1 hi).1; have:=q2.1; omega)⟩
         exact .pview (.inr q3) q1 hu (q4 i u v v' hu hi hf)
    . cases e
 . cases e
 . cases e
 . rename_i h1 h2 h3 h4
   refine plain ?_ e (fun cs he=>h3 cs he)
   cases y <;> first | rfl | exact absurd rfl (h4 _)
theorem VR.viewA (s:H1 Z ow h os) (a:VR Z ow h os x y) {w:AV} (e:viewA os y=some w):Fz (Zv Z ow) h x w∧(M8 y=[]->Fz Z h x w):=by
 cases hy:isAg y with
 | false =>
  have e':z7 os y=some w:=by cases y <;> first | exact e | cases hy
  exact ⟨(a.view s e').1,(a.view s e').2.2⟩
 | true =>
  cases y <;> first | (cases hy; done) | skip
  rename_i ys
  unfold AM.viewA at e
  simp only at e
  cases hf:viewL os ys with
  | none=>rw [hf] at e; cases e
  | some ys' =>
   rw [hf] at e; cases e
   obtain ⟨g1,g2⟩:=Xw _ _ hf
   obtain ⟨xs,rfl,l⟩:=a.agI
   have key:∀ (i:Nat) u w,xs[i]?=some u->ys'[i]?=some w->∃ c,ys[i]?=some c∧VR Z ow h os u c∧z7 os c=some w:=fun i u w hu hw=>by
    obtain ⟨c,hc⟩:∃ c,ys[i]?=some c:=⟨_,List.getElem?_eq_getElem (by have:=(List.getElem?_eq_some_iff.1 hw).1; omega)⟩
    exact ⟨c,hc,l.2 i u c hu hc,g2 i c w hc hw⟩
   have hcl:ys'.all clo=true:=List.all_eq_true.2 fun w hw=>by
    obtain ⟨i,hi⟩:=List.getElem?_of_mem hw
    obtain ⟨u,hu⟩:∃ u,xs[i]?=some u:=⟨_,List.getElem?_eq_getElem (by have:=(List.getElem?_eq_some_iff.1 hi).1; have:=l.1; omega)⟩
    obtain ⟨c,_,hv,he⟩:=key i u w hu hi
    exact (hv.view s he).2.1
   refine ⟨.agg (l.1.trans g1.symm) (fun i u w hu hw=>?_) hcl,fun h0=>.agg (l.1.trans g1.symm) (fun i u w hu hw=>?_) hcl⟩
   . obtain ⟨c,_,hv,he⟩:=key i u w hu hw
     exact (hv.view s he).1
   . obtain ⟨c,hc,hv,he⟩:=key i u w hu hw
     refine (hv.view s he).2.2 ?_
     have:∀ (ys:List AV) (i:Nat),refsL ys=[]->ys[i]?=some c->M8 c=[]:=fun ys=>by
      induction ys with
      | nil=>intro i _ hc; simp at hc
      | cons a l ih =>
       intro i h0 hc
       have h0:M8 a ++ refsL l=[]:=h0
       obtain ⟨h1,h2⟩:=List.append_eq_nil_iff.1 h0
       cases i with
       | zero=>cases hc; exact h1
       | succ i=>exact ih i h2 hc
     exact this ys i h0 hc
def TC (E:Env) (f:Nat) (g:List AV->Option (List AV)):Prop:=∀ args rs,g args=some rs->∀ (Z:Nat->Prop) (h:Heap) (xs:List AV),xs.length=args.length->(∀ (i:Nat) x y,xs[i]?=some x->args[i]?=some y->Fz Z h x y)->(∀ id,Z id->id < h.next) ->
 ∃ (vcs:List AV) (h1:Heap) (Z1:Nat->Prop) (ow1:Nat->Option (List Nat)),callω E f xs h=.ok (oneOrTup vcs) h1∧H1 Z1 ow1 h1 (openTs 0 rs).2∧VL Z1 ow1 h1 (openTs 0 rs).2 vcs (openTs 0 rs).1 ∧
   h.next≤h1.next∧(∀ id,Z id->Z1 id∧h1.get id=h.get id)∧(∀ id,Z1 id->Z id∨h.next≤id)∧(∀ id,id < h.next->h1.get id=h.get id)∧(∀ id L,ow1 id=some L->h.next≤id)∧∃ l,h1.tch=l ++ h.tch∧∀ id∈l,h.next≤id
theorem Ei:∀ (n:Nat) (l:List AV) (e:PO),e∈(openT n l).2->∃ es sz,e=.row 0 es sz∧∃ k,ownd k sz es∈l
 | n,[],e,h=>by cases h
 | n,c :: r,e,h=>by
  unfold openT at h
  cases ho:ownOf c with
  | none =>
   rw [ho] at h
   obtain ⟨es,sz,h1,k,h2⟩:=Ei n r e h
   exact ⟨es,sz,h1,k,List.mem_cons_of_mem _ h2⟩
  | some q =>
   obtain ⟨k,es,sz⟩:=q
   rw [ho] at h
   rcases List.mem_cons.1 h with rfl | h
   . exact ⟨es,sz,rfl,k,by rw [← Z5 ho]; exact List.mem_cons_self ..⟩
   . obtain ⟨es,sz,h1,k,h2⟩:=Ei (n + 1) r e h
     exact ⟨es,sz,h1,k,List.mem_cons_of_mem _ h2⟩
theorem Bv:∀ (n:Nat) (l:List AV) (e:PO),e∈(openTs n l).2->∃ es sz,e=.row 0 es sz∧∃ k,∃ v∈l,ownd k sz es∈v.cells
 | n,[],e,h=>by cases h
 | n,v :: r,e,h=>by
  unfold openTs at h
  rcases List.mem_append.1 h with h | h
  . obtain ⟨es,sz,h1,k,h2⟩:=Ei n v.cells e h
    exact ⟨es,sz,h1,k,v,List.mem_cons_self ..,h2⟩
  . obtain ⟨es,sz,h1,k,u,hu,h2⟩:=Bv _ r e h
    exact ⟨es,sz,h1,k,u,List.mem_cons_of_mem _ hu,h2⟩
theorem Gw:∀ (l:List AV) (n m:Nat),(openT n l).2=(openT m l).2
 | [],n,m=>rfl
 | c :: r,n,m=>by
  unfold openT
  cases ownOf c with
  | none=>exact Gw r n m
  | some q=>exact congrArg (List.cons (PO.row 0 q.2.1 q.2.2)) (Gw r (n + 1) (m + 1))
theorem Rx:∀ (l:List AV) (n m:Nat),(openTs n l).2=(openTs m l).2
 | [],n,m=>rfl
 | v :: r,n,m=>by
  unfold openTs
  rw [Gw v.cells n m]
  exact congrArg (List.append _) (Rx r _ _)
theorem Pc (b:Nat):∀ (l:List AV) (n:Nat),(l.all fun c=>(ownOf c).isSome || clo c)=true->(openT (b + n) l).1=renL (fun id=>some (b + id)) (openT n l).1
 | [],n,_=>rfl
 | c :: r,n,hk=>by
  obtain ⟨h1,h2⟩:((ownOf c).isSome || clo c)=true∧(r.all fun c=>(ownOf c).isSome || clo c)=true:=by simpa using hk
  unfold openT
  cases ho:ownOf c with
  | none =>
   rw [ho] at h1
   have hc:clo c=true:=by simpa using h1
   show c :: (openT (b + n) r).1=G2 _ c :: renL _ (openT n r).1
   rw [Xu hc,Pc b r n h2]
  | some q =>
   obtain ⟨k,es,sz⟩:=q
   show _ :: (openT (b + n + 1) r).1=G2 _ _ :: renL _ (openT (n + 1) r).1
   rw [show b + n + 1=b + (n + 1) by omega,Pc b r (n + 1) h2]
   congr 1
   split <;> rfl
theorem Ry (b:Nat):∀ (l:List AV) (n:Nat),okRs l=true->(openTs (b + n) l).1=renL (fun id=>some (b + id)) (openTs n l).1
 | [],n,_=>rfl
 | v :: r,n,hk=>by
  obtain ⟨h1,h2⟩:(v.cells.all fun c=>(ownOf c).isSome || clo c)=true∧okRs r=true:=by unfold okRs at hk ⊢; simpa using hk
  unfold openTs
  show _ :: _=G2 _ _ :: renL _ _
  rw [Gw v.cells (b + n) n,show b + n + (openT n v.cells).2.length=b + (n + (openT n v.cells).2.length) by omega,Ry b r _ h2,Pc b v.cells n h1]
  congr 1
  unfold L8
  split
  . rfl
  . cases (openT n v.cells).1 <;> rfl
end
end Go.AM
namespace Go.AM
section
variable {E:Env} {R:AV->AV->Prop} {Z Z' Z1:Nat->Prop} {ow ow' ow1:Nat->Option (List Nat)} {h h' h1:Heap} {K K':PK} {os os' ps:List PO} {x y xc yc v k:AV} {L M:List Nat}
theorem Co {v:AV} (e:noF v=true):∀ c∈v.cells,noF c=true:=by
 have hl:∀ (l:List AV),noFL l=true->∀ c∈l,noF c=true:=fun l=>by
  induction l with
  | nil=>intro _ c hc; cases hc
  | cons a l ih =>
   intro hk c hc
   have hk:(noF a && noFL l)=true:=hk
   obtain ⟨h1,h2⟩:=Bool.and_eq_true_iff.1 hk
   rcases List.mem_cons.1 hc with rfl | hc
   . exact h1
   . exact ih h2 c hc
 intro c hc
 cases v with
 | agg cs=>exact hl cs e c hc
 | _=>rw [B9 rfl] at hc; cases List.mem_singleton.1 hc; exact e
theorem Xx {l:List AV} (e:noFL l=true):∀ c∈l,noF c=true:=fun c hc=>Co (v:=.agg l) e c hc
theorem Fz.noF (f:Fz Z h x y) (hc:AM.clo y=true) (e:AM.noF y=true) (Z':Nat->Prop) (h':Heap):Fz Z' h' x y:=by
 cases f with
 | int=>exact .int _ _
 | bool=>exact .bool _
 | str=>exact .str _
 | nilsl=>exact .nilsl
 | nilptr=>exact .nilptr
 | nilmap=>exact .nilmap
 | nilfn=>exact .nilfn
 | niliface=>exact .niliface
 | agg=>cases hc
 | _=>cases e
theorem CR.noF (c:CR Z ow h L x y) (e:AM.noF y=true) (Z':Nat->Prop):CR Z' ow h L x y:=by
 induction c with
 | val f hc n=>exact .val (f.noF hc e Z' h) hc n
 | und=>exact .und
 | nil e' n=>exact .nil e' n
 | own h1 h2 h3 h4 h5 h6 h7 ih =>
  refine .own h1 h2 h3 h4 h5 h6 fun i a b ha hb o u w hu hw=>ih i a b ha hb o u w hu hw ?_
  have e:noFL _=true:=e
  exact Co (Xx e b (List.mem_of_getElem? hb)) w (List.mem_of_getElem? hw)
def AL (c:AV):Prop:=(clo c=true∧noF c=true)∨(∃ a b d e,c=.msl a b d e)∨∃ a b d,c=.ptr a b d
theorem VR.noF (a:VR Z ow h os x y) (e:AL y) (Z':Nat->Prop):VR Z' ow h os x y:=by
 rcases e with ⟨h1,h2⟩ | ⟨i,j,k,l,rfl⟩ | ⟨i,j,k,rfl⟩
 . exact .fz ((a.fzc h1).noF h1 h2 Z' h)
 . cases a with
   | fz f=>cases f
   | msl h1 h2=>exact .msl h1 h2
   | mnil h1 h2 h3=>exact .mnil h1 h2 h3
 . cases a with
   | fz f=>cases f
   | ptr h1 h2=>exact .ptr h1 h2
theorem Ij:∀ (l:List AV) (n:Nat),(l.all fun c=>(ownOf c).isSome || clo c)=true->(∀ c∈l,noF c=true)->∀ c∈(openT n l).1,AL c
 | [],n,_,_,c,hc=>by cases hc
 | a :: r,n,hk,hf,c,hc=>by
  obtain ⟨h1,h2⟩:((ownOf a).isSome || clo a)=true∧(r.all fun c=>(ownOf c).isSome || clo c)=true:=by simpa using hk
  unfold openT at hc
  cases ho:ownOf a with
  | none =>
   rw [ho] at hc h1
   rcases List.mem_cons.1 hc with rfl | hc
   . exact .inl ⟨by simpa using h1,hf _ (List.mem_cons_self ..)⟩
   . exact Ij r n h2 (fun c hc=>hf c (List.mem_cons_of_mem _ hc)) c hc
  | some q =>
   obtain ⟨k,es,sz⟩:=q
   rw [ho] at hc
   rcases List.mem_cons.1 hc with rfl | hc
   . split
     . exact .inr (.inr ⟨_,_,_,rfl⟩)
     . exact .inr (.inl ⟨_,_,_,_,rfl⟩)
   . exact Ij r (n + 1) h2 (fun c hc=>hf c (List.mem_cons_of_mem _ hc)) c hc
theorem Ik:∀ (l:List AV) (n:Nat),(openT n l).1.length=l.length
 | [],n=>rfl
 | a :: r,n=>by
  unfold openT
  cases ownOf a with
  | none=>exact congrArg (· + 1) (Ik r n)
  | some q=>exact congrArg (· + 1) (Ik r (n + 1))
theorem VR.open_noF {n:Nat} {v:AV} (a:VR Z ow h os x (L8 v (openT n v.cells).1)) (hk:(v.cells.all fun c=>(ownOf c).isSome || clo c)=true) (hf:AM.noF v=true) (Z':Nat->Prop):VR Z' ow h os x (L8 v (openT n v.cells).1):=by
 have hn:=Ij v.cells n hk (Co hf)
 cases hv:isAg v with
 | true =>
  cases v <;> first | (cases hv; done) | skip
  obtain ⟨xs,rfl,l⟩:=a.agI
  exact .agg l.1 fun i u w hu hw=>(l.2 i u w hu hw).noF (hn w (List.mem_of_getElem? hw)) Z'
 | false =>
  have hl:(openT n v.cells).1.length=1:=by rw [Ik,B9 hv]; rfl
  have:L8 v (openT n v.cells).1∈(openT n v.cells).1:=by
   obtain ⟨c,hc⟩:=List.length_eq_one_iff.1 hl
   rw [hc]
   have:L8 v [c]=c:=by cases v <;> first | rfl | cases hv
   rw [this]; exact List.mem_singleton.2 rfl
  exact a.noF (hn _ this) Z'
theorem VL.open_noF:∀ (rs:List AV) (n:Nat) (xs:List AV),VL Z ow h os xs (openTs n rs).1->okRs rs=true->noFL rs=true->∀ Z':Nat->Prop,VL Z' ow h os xs (openTs n rs).1
 | [],n,xs,a,_,_,Z'=>by
  cases xs with
  | nil=>exact .nil
  | cons u xs=>cases a.1
 | v :: r,n,xs,a,hk,hf,Z'=>by
  obtain ⟨h1,h2⟩:(v.cells.all fun c=>(ownOf c).isSome || clo c)=true∧okRs r=true:=by unfold okRs at hk ⊢; simpa using hk
  obtain ⟨h3,h4⟩:noF v=true∧noFL r=true:=Bool.and_eq_true_iff.1 (show (noF v && noFL r)=true from hf)
  unfold openTs at a ⊢
  cases xs with
  | nil=>cases a.1
  | cons u xs =>
   obtain ⟨b1,b2⟩:=a.inv
   exact .cons (b1.open_noF h1 h3 Z') (VL.open_noF r _ xs b2 h2 h4 Z')
theorem PT.noF {ps:List PO} (s:H1 Z ow h ps) (hp:∀ e∈ps,∃ es sz,e=.row 0 es sz∧noFL es=true) (hZ:∀ a,Z' a->a < h.next∧ow a=none):H1 Z' ow h ps where
 row r es sz hr:=by
  obtain ⟨x,hx⟩:=s.row r es sz hr
  obtain ⟨es',sz',h1,h2⟩:=hp _ (List.mem_of_getElem? hr)
  cases h1
  exact ⟨x,hx.noF h2 Z'⟩
 raw r k es sz hr hk:=by
  obtain ⟨es',sz',h1,h2⟩:=hp _ (List.mem_of_getElem? hr)
  cases h1; exact absurd rfl hk
 map r es hr:=by
  obtain ⟨es',sz',h1,h2⟩:=hp _ (List.mem_of_getElem? hr)
  cases h1
 inj:=s.inj
 live a L ho:=by
  obtain ⟨h1,h2,h3⟩:=s.live a L ho
  exact ⟨h1,fun hz=>(by rw [(hZ a hz).2] at ho; cases ho),h3⟩
 zb a hz:=(hZ a hz).1
 sb:=s.sb
def t8 (n:Nat) (ow ow1:Nat->Option (List Nat)):Nat->Option (List Nat):=fun d=>match ow d with
 | some L=>some L
 | none=>match ow1 d with
  | some (r :: t)=>some ((n + r) :: t)
  | _=>none
theorem fV (s:H1 Z ow h os) (s1:H1 Z1 ow1 h1 ps) (hp:∀ e∈ps,∃ es sz,e=.row 0 es sz) (hn:h.next≤h1.next) (hz:∀ id,Z id->Z1 id∧h1.get id=h.get id) (hzn:∀ id,Z1 id->Z id∨h.next≤id) (un:∀ id,id < h.next->h1.get id=h.get id) (hnew:∀ id L,ow1 id=some L->h.next≤id) :
 H1 Z1 (t8 os.length ow ow1) h1 (os ++ ps)∧Keep' ow os (t8 os.length ow ow1) (os ++ ps)∧Ren (fun id=>some (os.length + id)) ow1 ps (t8 os.length ow ow1) (os ++ ps)∧∀ d r t,r < os.length->(t8 os.length ow ow1 d=some (r :: t) ↔ ow d=some (r :: t)):=by
 have hold:∀ d,h.next≤d->ow d=none:=fun d hd=>by
  cases e:ow d with
  | none=>rfl
  | some L=>exact absurd (s.live d L e).1 (by omega)
 have hA:∀ d r t,r < os.length->(t8 os.length ow ow1 d=some (r :: t) ↔ ow d=some (r :: t)):=fun d r t hr=>by
  unfold t8
  cases e:ow d with
  | some L=>exact .rfl
  | none =>
   simp only
   constructor
   . intro h0
     cases e1:ow1 d with
     | none=>rw [e1] at h0; cases h0
     | some M =>
      rw [e1] at h0
      cases M with
      | nil=>cases h0
      | cons r' t'=>cases h0; omega
   . intro h0; cases h0
 have hB:∀ d r t,t8 os.length ow ow1 d=some ((os.length + r) :: t) ↔ ow1 d=some (r :: t):=fun d r t=>by
  unfold t8
  constructor
  . intro h0
    cases e:ow d with
    | some L =>
     rw [e] at h0; cases h0
     obtain ⟨_,_,r',t',h3,h4⟩:=s.live d _ e
     cases h3
     have:=isRt_lt h4; omega
    | none =>
     rw [e] at h0
     simp only at h0
     cases e1:ow1 d with
     | none=>rw [e1] at h0; cases h0
     | some M =>
      rw [e1] at h0
      cases M with
      | nil=>cases h0
      | cons r' t' =>
       simp only [Option.some.injEq,List.cons.injEq] at h0
       obtain ⟨h5,rfl⟩:=h0
       obtain rfl:r'=r:=by omega
       rfl
  . intro h0
    rw [hold d (hnew d _ h0)]
    simp only [h0]
 have hC:∀ d L,t8 os.length ow ow1 d=some L->(∃ r t,L=r :: t∧r < os.length∧ow d=some L)∨∃ r t,L=(os.length + r) :: t∧ow1 d=some (r :: t):=fun d L h0=>by
  unfold t8 at h0
  cases e:ow d with
  | some L' =>
   rw [e] at h0; cases h0
   obtain ⟨_,_,r',t',h3,h4⟩:=s.live d _ e
   exact .inl ⟨r',t',h3,isRt_lt h4,rfl⟩
  | none =>
   rw [e] at h0
   simp only at h0
   cases e1:ow1 d with
   | none=>rw [e1] at h0; cases h0
   | some M =>
    rw [e1] at h0
    cases M with
    | nil=>cases h0
    | cons r' t'=>cases h0; exact .inr ⟨r',t',rfl,rfl⟩
 have hkeep:Keep' ow os (t8 os.length ow ow1) (os ++ ps):=Gj s.sb fun id hid L hL c=>by
  obtain ⟨t,rfl,hr,_⟩:=G0 6 id L hL
  exact (hA c _ t (isRt_lt hr)).symm
 have hgo:∀ d L,ow d=some L->h1.get d=h.get d:=fun d L ho=>un d (s.live d L ho).1
 have hps:∀ (r:Nat) e,ps[r]?=some e->isRt (os ++ ps) (os.length + r)=true:=fun r e hr=>by
  unfold isRt
  rw [List.getElem?_append_right (by omega),Nat.add_sub_cancel_left,hr]
  obtain ⟨es,sz,rfl⟩:=hp e (List.mem_of_getElem? hr)
  rfl
 have hspl:∀ {r:Nat} {e:PO},(os ++ ps)[r]?=some e->(r < os.length∧os[r]?=some e)∨∃ q,r=os.length + q∧ps[q]?=some e:=fun {r e} hr=>by
  rw [List.getElem?_append] at hr
  split at hr
  . exact .inl ⟨by assumption,hr⟩
  . exact .inr ⟨r - os.length,by omega,hr⟩
 refine ⟨⟨fun r es sz hr=>?_,fun r k es sz hr hk=>?_,fun r es hr=>?_,fun a b M ha hb=>?_,fun a M ha=>?_,s1.zb,fun j p i o hj=>?_⟩,hkeep,fun id j hj hid=>?_,hA⟩
 . rcases hspl hr with ⟨hl,hr⟩ | ⟨q,rfl,hq⟩
   . obtain ⟨x,hx⟩:=s.row r es sz hr
     exact ⟨x,hx.reloc hn hz (fun d t=>hA d r t hl) (fun d t hd=>hgo d _ hd)⟩
   . obtain ⟨x,hx⟩:=s1.row q es sz hq
     exact ⟨x,hx.reloc (Nat.le_refl _) (fun d hd=>⟨hd,rfl⟩) (fun d t=>hB d q t) (fun d t hd=>rfl)⟩
 . rcases hspl hr with ⟨hl,hr⟩ | ⟨q,rfl,hq⟩
   . obtain ⟨c,ces,g⟩:=s.raw r k es sz hr hk
     exact ⟨c,ces,(hA c r [] hl).2 g.o,Nat.lt_of_lt_of_le g.lt hn,(hgo c _ g.o).trans g.get,g.sh,fun i a b ha hb o u w hu hw=>(g.vr i a b ha hb o u w hu hw).keep hz hkeep,g.okp,fun a t ha=>g.no a t ((hA a r t hl).1 ha)⟩
   . obtain ⟨es',sz',h3⟩:=hp _ (List.mem_of_getElem? hq)
     cases h3; exact absurd rfl hk
 . rcases hspl hr with ⟨hl,hr⟩ | ⟨q,rfl,hq⟩
   . obtain ⟨c,ces,g⟩:=s.map r es hr
     exact ⟨c,ces,(hA c r [] hl).2 g.o,Nat.lt_of_lt_of_le g.lt hn,(hgo c _ g.o).trans g.get,g.len,fun i a b ha hb=>⟨(g.kv i a b ha hb).1,(g.kv i a b ha hb).2.mono hz⟩,fun a t ha=>g.no a t ((hA a r t hl).1 ha)⟩
   . obtain ⟨es',sz',h3⟩:=hp _ (List.mem_of_getElem? hq)
     cases h3
 . rcases hC a M ha with ⟨r,t,rfl,h3,h4⟩ | ⟨r,t,rfl,h4⟩
   . exact s.inj a b _ h4 ((hA b r t h3).1 hb)
   . exact s1.inj a b _ h4 ((hB b r t).1 hb)
 . rcases hC a M ha with ⟨r,t,rfl,h3,h4⟩ | ⟨r,t,rfl,h4⟩
   . obtain ⟨q1,q2,r',t',q3,q4⟩:=s.live a _ h4
     cases q3
     refine ⟨Nat.lt_of_lt_of_le q1 hn,fun hz1=>?_,r,t,rfl,Ok q4⟩
     rcases hzn a hz1 with h | h
     . exact q2 h
     . omega
   . obtain ⟨q1,q2,r',t',q3,q4⟩:=s1.live a _ h4
     cases q3
     obtain ⟨e,he⟩:∃ e,ps[r]?=some e:=⟨_,List.getElem?_eq_getElem (isRt_lt q4)⟩
     exact ⟨q1,q2,_,t,rfl,hps r e he⟩
 . rcases hspl hj with ⟨hl,hj⟩ | ⟨q,rfl,hq⟩
   . have:=s.sb j p i o hj; simp; omega
   . obtain ⟨es',sz',h3⟩:=hp _ (List.mem_of_getElem? hq)
     cases h3
 . cases hj
   obtain ⟨e,he⟩:∃ e,ps[id]?=some e:=⟨_,List.getElem?_eq_getElem hid⟩
   refine ⟨by simp; omega,fun L' hL'=>?_⟩
   have h3:(os ++ ps)[os.length + id]?=some e:=by rw [List.getElem?_append_right (by omega),Nat.add_sub_cancel_left,he]
   obtain ⟨es,sz,rfl⟩:=hp e (List.mem_of_getElem? he)
   have h4:loP (os ++ ps) 6 (os.length + id)=some [os.length + id]:=by unfold loP; rw [h3]
   rw [h4] at hL'
   cases hL'
   exact ⟨[id],by unfold loP; rw [he],fun c=>(hB c id []).symm⟩
theorem lA {f:Nat} {g:List AV->Option (List AV)} (tc:TC E f g) (s:H1 Z ow h K.os) (hx:K.ext≤K.os.length) {args argc vs:List AV} (l:VL Z ow h K.os argc args) (e:tcall g args K=some (vs,K')) :
 ∃ Z' ow' h' vcs,callω E f argc h=.ok (oneOrTup vcs) h'∧H1 Z' ow' h' K'.os∧Keep' ow K.os ow' K'.os∧(∀ b,Stp b Z ow h K Z' ow' h' K')∧VL Z' ow' h' K'.os vcs vs:=by
 unfold tcall at e
 cases ha:viewAs K.os args with
 | none=>rw [ha] at e; cases e
 | some as1 =>
  rw [ha] at e
  simp only at e
  cases hg:g as1 with
  | none=>rw [hg] at e; cases e
  | some rs =>
   rw [hg] at e
   simp only at e
   split at e
   . rename_i hc
     obtain ⟨hok,hc⟩:=Bool.and_eq_true_iff.1 hc
     cases e
     obtain ⟨g1,g2⟩:=Rw _ _ ha
     have hrow:∀ e∈(openTs 0 rs).2,∃ es sz,e=.row 0 es sz:=fun e he=>let ⟨es,sz,h1,_⟩:=Bv 0 rs e he; ⟨es,sz,h1⟩
     have key:∃ (Z':Nat->Prop) (h1:Heap) (ow1:Nat->Option (List Nat)) (vcs:List AV),callω E f argc h=.ok (oneOrTup vcs) h1∧H1 Z' ow1 h1 (openTs 0 rs).2∧VL Z' ow1 h1 (openTs 0 rs).2 vcs (openTs 0 rs).1 ∧
      h.next≤h1.next∧(∀ id,Z id->Z' id∧h1.get id=h.get id)∧(∀ id,Z' id->Z id∨h.next≤id)∧(∀ id,id < h.next->h1.get id=h.get id)∧(∀ id L,ow1 id=some L->h.next≤id)∧∃ l,h1.tch=l ++ h.tch∧∀ id∈l,h.next≤id:=by
      have hfz:∀ (i:Nat) x y,argc[i]?=some x->as1[i]?=some y->∃ c,args[i]?=some c∧Fz (Zv Z ow) h x y∧(M8 c=[]->Fz Z h x y):=fun i x y hx hy=>by
       obtain ⟨c,hc⟩:∃ c,args[i]?=some c:=⟨_,List.getElem?_eq_getElem (by have:=(List.getElem?_eq_some_iff.1 hy).1; omega)⟩
       exact ⟨c,hc,(l.2 i x c hx hc).viewA s (g2 i c y hc hy)⟩
      by_cases hr:refsL args=[]
      . have hm:∀ (args:List AV) (i:Nat) c,refsL args=[]->args[i]?=some c->M8 c=[]:=fun ys=>by
         induction ys with
         | nil=>intro i c _ hc; simp at hc
         | cons a l ih =>
          intro i c h0 hc
          have h0:M8 a ++ refsL l=[]:=h0
          obtain ⟨h1,h2⟩:=List.append_eq_nil_iff.1 h0
          cases i with
          | zero=>cases hc; exact h1
          | succ i=>exact ih i c h2 hc
        obtain ⟨vcs,h1,Z1,ow1,q1,q2,q3,q4,q5,q6,q7,q8,q9⟩:=tc as1 rs hg Z h argc (l.1.trans g1.symm) (fun i x y hx hy=>by
         obtain ⟨c,hc,_,h4⟩:=hfz i x y hx hy
         exact h4 (hm args i c hr hc)) s.zb
        exact ⟨Z1,h1,ow1,vcs,q1,q2,q3,q4,q5,q6,q7,q8,q9⟩
      . have hnf:noFL rs=true:=by
         rcases Bool.or_eq_true_iff.1 hc with h | h
         . exact absurd (List.isEmpty_iff.1 h) hr
         . exact h
        have hzb:∀ id,Zv Z ow id->id < h.next:=fun id hz=>by
         rcases hz with hz | hz
         . exact s.zb id hz
         . cases e:ow id with
           | none=>exact absurd e hz
           | some L=>exact (s.live id L e).1
        obtain ⟨vcs,h1,Z1,ow1,q1,q2,q3,q4,q5,q6,q7,q8,q9⟩:=tc as1 rs hg (Zv Z ow) h argc (l.1.trans g1.symm) (fun i x y hx hy=>by
         obtain ⟨c,hc,h4,_⟩:=hfz i x y hx hy
         exact h4) hzb
        refine ⟨Z,h1,ow1,vcs,q1,q2.noF (fun e he=>?_) (fun a hz=>⟨Nat.lt_of_lt_of_le (s.zb a hz) q4,?_⟩),q3.open_noF rs 0 vcs hok hnf Z,q4,fun id hz=>⟨hz,q7 id (s.zb id hz)⟩,fun id hz=>.inl hz,q7,q8,q9⟩
        . obtain ⟨es,sz,h3,k,v,hv,h4⟩:=Bv 0 rs e he
          exact ⟨es,sz,h3,Co (Xx hnf v hv) _ h4⟩
        . cases e:ow1 a with
          | none=>rfl
          | some L=>have:=q8 a L e; have:=s.zb a hz; omega
     obtain ⟨Z',h1,ow1,vcs,q1,q2,q3,q4,q5,q6,q7,q8,l0,q9,q10⟩:=key
     obtain ⟨r1,r2,r3,r4⟩:=fV s q2 hrow q4 q5 q6 q7 q8
     rw [Rx rs K.os.length 0]
     refine ⟨Z',_,h1,vcs,q1,r1,r2,fun b=>⟨q4,q5,q6,fun id hl _=>q7 id hl,fun id L ho hl e=>?_,⟨l0,q9,fun id hi=>.inl (q10 id hi)⟩,fun id r t ho hr=>.inl ⟨t,?_⟩,fun r hr _=>hr,rfl,fun j hj c hr=>?_,fun j hj hr=>?_⟩,?_⟩
     . unfold t8 at ho
       rw [e] at ho
       simp only at ho
       cases e1:ow1 id with
       | none=>rw [e1] at ho; cases ho
       | some M=>have:=q8 id M e1; omega
     . unfold t8; rw [ho]
     . exact (r4 c j [] (by omega)).symm
     . unfold isRt at hr ⊢
       rw [List.getElem?_append_left (by omega)] at hr
       exact hr
     . have:=Ry K.os.length rs 0 hok
       rw [Nat.add_zero] at this
       rw [this]
       exact q3.ren (fun id hz=>⟨hz,rfl⟩) r3
   . cases e
end
end Go.AM
namespace Go.AM
section
variable {E:Env} {P:PE} {R:AV->AV->Prop} {Z Z' Z1:Nat->Prop} {ow ow' ow1:Nat->Option (List Nat)} {h h' h1:Heap} {K K' K1:PK} {os os' ps:List PO} {x y xc yc v k:AV} {L M:List Nat} {nt:Nat} {frc:Tr} {fr:PF}
def Xy (nt:Nat) (l:List XOp):Bool:=l.all fun o=>match o.dst with | none=>true | some t=>decide (t < nt)
def Z7 (nt:Nat):PC->Bool
 | .skip=>true
 | .reg _ l=>Xy nt l
 | .seq a b=>Z7 nt a && Z7 nt b
 | .cond _ a b=>Z7 nt a && Z7 nt b
 | .block _ c=>Z7 nt c
 | .loop c=>Z7 nt c
 | .scope c=>Z7 nt c
 | .exit _=>true
 | .ret=>true
 | .pre _ c=>Z7 nt c
 | .post _ c=>Z7 nt c
structure FnOk (E:Env) (f:Nat) (p:PFn):Prop where
 gc:E.gc f=false
 told:E.told f=false
 dlf:E.dlf f=none
 srt:∀ args h,srtA E f args h=none
 fn:E.fn f=some ⟨p.code.er,p.nt,p.rs,.plain⟩
 nt:p.nt < 1048576
 ok:Z7 p.nt p.code=true
structure PEok (P:PE):Prop where
 gl:rV P.E
 ti:uJ P.E
 T:∀ f g,P.T f=some g->TC P.E f g
 fn:∀ f p,P.fn f=some p->FnOk P.E f p
def Bw (b:Nat) (ow:Nat->Option (List Nat)) (os:List PO) (ow':Nat->Option (List Nat)) (os':List PO):Prop:=∀ id,id < b->∀ L',loP os' 6 id=some L'->∃ L,loP os 6 id=some L∧∀ c,ow c=some L ↔ ow' c=some L'
theorem Bw.refl (b:Nat) (ow:Nat->Option (List Nat)) (os:List PO):Bw b ow os ow os:=fun id _ L' hl=>⟨L',hl,fun _=>.rfl⟩
theorem Bw.trans {b:Nat} {ow2:Nat->Option (List Nat)} {os2:List PO} (a:Bw b ow os ow' os') (c:Bw b ow' os' ow2 os2):Bw b ow os ow2 os2:=fun id hi L2 hl=>by
 obtain ⟨L1,h1,h2⟩:=c id hi L2 hl
 obtain ⟨L0,h3,h4⟩:=a id hi L1 h1
 exact ⟨L0,h3,fun d=>(h4 d).trans (h2 d)⟩
theorem Keep'.e {b:Nat} (a:Keep' ow os ow' os') (hb:b≤os.length):Bw b ow os ow' os':=fun id hi=>a.2 id (Nat.lt_of_lt_of_le hi hb)
def D5 (Z:Nat->Prop) (ow:Nat->Option (List Nat)) (h:Heap) (K:PK) (nt:Nat) (r:CRes) (p:PR):Prop:=match p with
 | .ok e fr' K'=>∃ Z' ow' h' frc',r=.ok e frc' h'∧H1 Z' ow' h' K'.os∧FrR Z' ow' h' K'.os nt frc' fr'∧Stp K.ext Z ow h K Z' ow' h' K'∧K'.ext≤K'.os.length∧Bw K.ext ow K.os ow' K'.os
 | .pan v K'=>∃ Z' ow' h' vc,r=.pan vc h'∧H1 Z' ow' h' K'.os∧VR Z' ow' h' K'.os vc v∧Stp K.ext Z ow h K Z' ow' h' K'∧K'.ext≤K'.os.length
 | .val _ _=>True
theorem D5.trans {r:CRes} {p:PR} (s:H1 Z ow h K.os) (st:Stp K.ext Z ow h K Z' ow' h' K') (hk:Bw K.ext ow K.os ow' K'.os) (c:D5 Z' ow' h' K' nt r p):D5 Z ow h K nt r p:=by
 cases p with
 | ok e fr' K2=>obtain ⟨Z2,ow2,h2,frc2,a1,a2,a3,a4,a5,a6⟩:=c; exact ⟨Z2,ow2,h2,frc2,a1,a2,a3,st.trans s a4,a5,hk.trans (by rw [st.ex] at a6; exact a6)⟩
 | pan v K2=>obtain ⟨Z2,ow2,h2,vc,a1,a2,a3,a4,a5⟩:=c; exact ⟨Z2,ow2,h2,vc,a1,a2,a3,st.trans s a4,a5⟩
 | val=>trivial
def oQ (Z:Nat->Prop) (ow:Nat->Option (List Nat)) (h:Heap) (K:PK) (r:Res) (p:PR):Prop:=match p with
 | .val vs K'=>∃ Z' ow' h' vcs,r=.ok (oneOrTup vcs) h'∧H1 Z' ow' h' K'.os∧Keep' ow K.os ow' K'.os∧(∀ b,Stp b Z ow h K Z' ow' h' K')∧VL Z' ow' h' K'.os vcs vs
 | .pan v K'=>∃ Z' ow' h' vc,r=.pan vc h'∧H1 Z' ow' h' K'.os∧(∀ b,Stp b Z ow h K Z' ow' h' K')∧VR Z' ow' h' K'.os vc v∧K'.ext≤K'.os.length
 | .ok _ _ _=>True
def dG (Z:Nat->Prop) (ow:Nat->Option (List Nat)) (h:Heap) (K:PK) (r:Res) (p:PR):Prop:=match p with
 | .val vs K'=>∃ Z' ow' h' vcs,r=.ok (oneOrTup vcs) h'∧H1 Z' ow' h' K'.os∧Stp K.ext Z ow h K Z' ow' h' K'∧VL Z' ow' h' K'.os vcs vs∧Bw K.ext ow K.os ow' K'.os∧K'.ext≤K'.os.length
 | .pan v K'=>∃ Z' ow' h' vc,r=.pan vc h'∧H1 Z' ow' h' K'.os∧Stp K.ext Z ow h K Z' ow' h' K'∧VR Z' ow' h' K'.os vc v∧K'.ext≤K'.os.length
 | .ok _ _ _=>True
theorem VL.one {xs ys:List AV} (l:VL Z ow h os xs ys):VR Z ow h os (oneOrTup xs) (oneOrTup ys):=by
 have hl:=l.1
 match xs,ys with
 | [],[]=>exact .tup rfl (fun i x y hx=>by simp at hx)
 | [x],[y]=>exact l.2 0 x y rfl rfl
 | x :: x' :: xs,y :: y' :: ys=>exact .tup l.1 l.2
 | [],_ :: _=>cases hl
 | _ :: _,[]=>cases hl
 | [_],_ :: _ :: _=>simp at hl
 | _ :: _ :: _,[_]=>simp at hl
theorem Gx (hx:K.ext≤K.os.length) (hk:Keep' ow K.os ow' K'.os) (he:K'.ext=K.ext):K'.ext≤K'.os.length:=by rw [he]; exact Nat.le_trans hx hk.1
theorem FrR.setd (a:FrR Z ow h os nt frc fr) {d:Option Tmp} (hd:(match d with | none=>true | some t=>decide (t < nt))=true) (v:VR Z ow h os x y):FrR Z ow h os nt (setDst d x frc) (setP d y fr):=by
 cases d with
 | none=>exact a
 | some t=>exact a.set (by simpa using hd) v
theorem vr_skipped:VR Z ow h os skipped skipped:=.tup rfl (fun i x y hx=>by simp at hx)
theorem aX {w b:Bool} (v:VR Z ow h os x y) (e:S4 w y=some b):S4 w x=some b:=by
 cases y with
 | bool c=>rw [v.isB]; exact e
 | tup cs =>
  cases cs with
  | nil=>cases v with
   | fz f=>cases f
   | tup hl _=>rw [List.eq_nil_of_length_eq_zero hl]; exact e
  | cons=>cases e
 | _=>cases e
theorem Rz {g:Option (Option Tmp × Bool)} {b:Bool} (a:FrR Z ow h os nt frc fr) (e:guardP g fr=some b):guardOk g frc=some b:=by
 cases g with
 | none=>exact e
 | some p =>
  obtain ⟨t,w⟩:=p
  cases t with
  | none=>exact e
  | some t=>exact aX (a.v t) e
theorem Pd:∀ (l:List AV) (i:Nat) (t:Tr) (j:Nat),(∀ j,j < i + l.length->t.has j=true)->(Tr.setAll l i t).get j=if i≤j then (match l[j - i]? with | some v=>v | none=>t.get j) else t.get j
 | [],i,t,j,_=>by
  show t.get j=_
  split <;> rfl
 | v :: l,i,t,j,hh=>by
  show (Tr.setAll l (i + 1) (t.set i v)).get j=_
  rw [Pd l (i + 1) (t.set i v) j (fun j hj=>by rw [Tr.has_set]; exact hh j (by simp; omega))]
  by_cases e:i=j
  . subst e
    rw [if_neg (by omega),if_pos (Nat.le_refl _),Nat.sub_self,Tr.get_set_eq,hh i (by simp),if_pos rfl]
    rfl
  . rw [Tr.get_set_ne _ _ _ _ e]
    by_cases h2:i + 1≤j
    . rw [if_pos h2,if_pos (by omega),show j - i=(j - (i + 1)) + 1 by omega]
      rfl
    . rw [if_neg h2,if_neg (by omega)]
theorem Pe:∀ (l:List AV) (i j:Nat),lookP (enterP i l) j=if i≤j then (match l[j - i]? with | some v=>v | none=>.und) else .und
 | [],i,j=>by show AV.und=_; split <;> rfl
 | v :: l,i,j=>by
  show (if i=j then v else lookP (enterP (i + 1) l) j)=_
  rw [Pe l (i + 1) j]
  by_cases e:i=j
  . subst e; rw [if_pos rfl,if_pos (Nat.le_refl _),Nat.sub_self]; rfl
  . rw [if_neg e]
    by_cases h2:i + 1≤j
    . rw [if_pos h2,if_pos (by omega),show j - i=(j - (i + 1)) + 1 by omega]; rfl
    . rw [if_neg h2,if_neg (by omega)]
theorem fW {args argc:List AV} (l:VL Z ow h os argc args) (hn:args.length≤nt) (hb:nt < 1048576):FrR Z ow h os nt (Tr.enter nt argc) (enterP 0 args):=by
 have hh:∀ j,j < 0 + argc.length->(Tr.mk 20 nt).has j=true:=fun j hj=>by rw [Tr.has_mk' 20 nt j hb]; have:=l.1; simp; omega
 refine ⟨fun i=>?_,fun i hi=>?_⟩
 . show VR Z ow h os ((Tr.setAll argc 0 (Tr.mk 20 nt)).get i) _
   rw [Pd argc 0 _ i hh,Pe args 0 i,if_pos (Nat.zero_le _),if_pos (Nat.zero_le _),Nat.sub_zero]
   cases hy:args[i]? with
   | none=>exact .und
   | some y =>
    obtain ⟨x,hx⟩:∃ x,argc[i]?=some x:=⟨_,List.getElem?_eq_getElem (by have:=(List.getElem?_eq_some_iff.1 hy).1; have:=l.1; omega)⟩
    rw [hx]; exact l.2 i x y hx hy
 . have:∀ (l:List AV) (i:Nat) (t:Tr) (j:Nat),(Tr.setAll l i t).has j=t.has j:=fun l=>by
    induction l with
    | nil=>intro i t j; rfl
    | cons v l ih=>intro i t j; show (Tr.setAll l (i + 1) (t.set i v)).has j=_; rw [ih,Tr.has_set]
   show (Tr.setAll argc 0 (Tr.mk 20 nt)).has i=true
   rw [this,Tr.has_mk' 20 nt i hb]; simpa using hi
theorem Stp.subs (s:H1 Z ow h K.os) (hx:K.ext≤K.os.length) {K':PK} (he:K'.ext=K.ext) (ht:K'.tch=K.tch) {ps:List PO} (ho:K'.os=K.os ++ ps) (hp:∀ e∈ps,∃ a b c,e=.sub a b c) (b:Nat):Stp b Z ow h K Z ow h K':=by
 refine ⟨Nat.le_refl _,fun id hz=>⟨hz,rfl⟩,fun id hz=>.inl hz,fun _ _ _=>rfl,fun id L ho _ e=>(by rw [ho] at e; cases e),⟨[],rfl,fun id hi=>(by cases hi)⟩,fun id r t ho _=>.inl ⟨t,ho⟩,fun r hr _=>by rw [ht]; exact hr,he,fun j _ c _=>.rfl,fun j hj hr=>?_⟩
 unfold isRt at hr ⊢
 rw [ho,List.getElem?_append_left (by omega)] at hr
 exact hr
theorem Up:∀ (rs:List ResultVar) {K:PK} {vs:List AV} {K':PK},H1 Z ow h K.os->K.ext≤K.os.length->FrR Z ow h K.os nt frc fr->resP E rs fr K=some (vs,K') ->
 ∃ vcs,F7 E rs frc h=some vcs∧H1 Z ow h K'.os∧Keep' ow K.os ow K'.os∧Stp K.ext Z ow h K Z ow h K'∧VL Z ow h K'.os vcs vs
 | [],K,vs,K',s,hx,a,e=>by cases e; exact ⟨[],rfl,s,.refl _ _,.refl _ _ _ _ _,.nil⟩
 | .tmp t :: l,K,vs,K',s,hx,a,e=>by
  unfold resP at e
  cases hr:resP E l fr K with
  | none=>rw [hr] at e; cases e
  | some q =>
   obtain ⟨us,K2⟩:=q
   rw [hr] at e; cases e
   obtain ⟨vcs,a1,a2,a3,a4,a5⟩:=Up l s hx a hr
   refine ⟨frc.get t :: vcs,?_,a2,a3,a4,.cons ((a.v t).keep (fun _ hz=>⟨hz,rfl⟩) a3) a5⟩
   show A4 (F7 E l frc h) _=_
   rw [a1]; rfl
 | .cell c t :: l,K,vs,K',s,hx,a,e=>by
  unfold resP at e
  cases ht:E.ti t with
  | none=>rw [ht] at e; cases e
  | some ti =>
   rw [ht] at e
   simp only at e
   cases hl:loadP ti (lookP fr c) K with
   | none=>rw [hl] at e; cases e
   | some q =>
    obtain ⟨v,K1⟩:=q
    rw [hl] at e
    simp only at e
    obtain ⟨vc,b1,b2,b3,b4,b5,b6,ps,b7,b8⟩:=Xl s (a.v c) hl
    cases hr:resP E l fr K1 with
    | none=>rw [hr] at e; cases e
    | some q =>
     obtain ⟨us,K2⟩:=q
     rw [hr] at e; cases e
     obtain ⟨vcs,a1,a2,a3,a4,a5⟩:=Up l b2 (Gx hx b3 b5) (a.keep (fun _ hz=>⟨hz,rfl⟩) b3) hr
     refine ⟨vc :: vcs,?_,a2,b3.trans a3,(Stp.subs s hx b5 b6 b7 b8 _).trans s a4,.cons (b4.keep (fun _ hz=>⟨hz,rfl⟩) a3) a5⟩
     show onTI E t none (fun ti=>A4 (y6 ti (frc.get c) h) fun v=>A4 (F7 E l frc h) fun vs=>some (v :: vs))=_
     rw [K8 ht,b1]
     show A4 (F7 E l frc h) _=_
     rw [a1]; rfl
end
end Go.AM
namespace Go.AM
section
variable {E:Env} {P:PE} {R:AV->AV->Prop} {Z Z' Z1:Nat->Prop} {ow ow' ow1:Nat->Option (List Nat)} {h h' h1:Heap} {K K' K1:PK} {os os' ps:List PO} {x y xc yc v k:AV} {L M:List Nat} {nt:Nat} {frc:Tr} {fr:PF}
theorem O4 {a:Option PR} {f:PR->Option PR} {r:PR} (e:(a >>= f)=some r):∃ q,a=some q∧f q=some r:=by
 cases a with
 | none=>cases e
 | some q=>exact ⟨q,rfl,e⟩
def Bx (l:List XOp):Bool:=l.all fun o=>!o.careful
def AN (P:PE):PJ->PR->Prop
 | .code c fr K,r=>∀ nt Z ow h frc,H1 Z ow h K.os->K.ext≤K.os.length->FrR Z ow h K.os nt frc fr->Z7 nt c=true->D5 Z ow h K nt (evω P.E c.er frc h) r
 | .ops l fr K,r=>∀ nt Z ow h frc,H1 Z ow h K.os->K.ext≤K.os.length->FrR Z ow h K.os nt frc fr->Xy nt l=true->D5 Z ow h K nt (F6 P.E (callω P.E) l frc h) r
 | .opsD l fr K,r=>∀ nt Z ow h frc d,H1 Z ow h K.os->K.ext≤K.os.length->FrR Z ow h K.os nt frc fr->Xy nt l=true->(d=[]∨Bx l=true)->D5 Z ow h K nt (evOpsD P.E (callω P.E) l frc h d) r
 | .call f args K,r=>∀ Z ow h argc,H1 Z ow h K.os->K.ext≤K.os.length->VL Z ow h K.os argc args->oQ Z ow h K (callω P.E f argc h) r
 | .body f args K,r=>∀ Z ow h argc,H1 Z ow h K.os->K.ext≤K.os.length->VL Z ow h K.os argc args->dG Z ow h K (callω P.E f argc h) r
theorem aY (call:C9) (o:XOp) (l:List XOp) (frc:Tr) (h:Heap):F6 E call (o :: l) frc h=onOB (guardOk o.gd frc) .bad (Q0 o.dst (F6 E call l) frc (evOp E call o.op frc h)) (F6 E call l (setDst o.dst skipped frc) h):=rfl
theorem Xz (call:C9) (o:XOp) (l:List XOp) (frc:Tr) (h:Heap) (d:List Nat):evOpsD E call (o :: l) frc h d=onOB (guardOk o.gd frc) .bad (L6 o.dst (evOpsD E call l) (virtD E call l o.late (setDst o.dst skipped frc) h d) frc (evOpD E call o frc h d)) (evOpsD E call l (setDst o.dst skipped frc) h d):=rfl
structure Did2 (Z:Nat->Prop) (ow:Nat->Option (List Nat)) (h:Heap) (K:PK) (r:Res) (v:AV) (K':PK) (Z':Nat->Prop) (ow':Nat->Option (List Nat)) (vc:AV) (h':Heap):Prop where
 r:r=.ok vc h'
 st:H1 Z' ow' h' K'.os
 kp:Keep' ow K.os ow' K'.os
 vr:VR Z' ow' h' K'.os vc v
 sp:∀ b,Stp b Z ow h K Z' ow' h' K'
theorem Did'.two {r:Res} {vc:AV} (a:Did' Z ow h K r v K' ow' vc h'):Did2 Z ow h K r v K' Z ow' vc h':=⟨a.r,a.st,a.kp,a.vr,a.sp⟩
theorem Ya {o:XOp} {l:List XOp} (e:Xy nt (o :: l)=true):(match o.dst with | none=>true | some t=>decide (t < nt))=true∧Xy nt l=true:=by
 exact Bool.and_eq_true_iff.1 e
theorem Il {o:XOp} {l:List XOp} (e:Bx (o :: l)=true):o.careful=false∧Bx l=true:=by
 unfold Bx at e ⊢
 simpa using e
theorem aZ (r:Option Nat):readOk r []=true:=by cases r <;> rfl
theorem lB {call:C9} {o:XOp} {d:List Nat} {l:List XOp} (hq:o.quiet=false) (hd:d=[]∨Bx (o :: l)=true):evOpD E call o frc h d=f7 d (evOp E call o.op frc h):=by
 unfold evOpD
 rw [hq]
 show (bif o.careful then _ else _)=_
 cases hc:o.careful with
 | false=>rfl
 | true =>
  rcases hd with rfl | hd
  . rw [aZ]; rfl
  . rw [(Il hd).1] at hc; cases hc
theorem Sa {call:C9} {o:XOp} {d:List Nat} {l:List XOp} (hq:o.quiet=true) (s:H1 Z ow h K.os) (hd:d=[]∨Bx (o :: l)=true) {r:AV} {Z':Nat->Prop} {ow':Nat->Option (List Nat)} {vc:AV} {h1:Heap}
 (a:Did2 Z ow { h with tch:=[] } { K with tch:=[] } (evOp E call o.op frc { h with tch:=[] }) v K1 Z' ow' vc h1) (ht:Gh K.os.length l K1=true) :
 ∃ h2 d2,evOpD E call o frc h d=.ok vc h2 d2∧Did2 Z ow h K (.ok vc h2) v { K1 with tch:=K1.tch ++ K.tch } Z' ow' vc h2∧(d2=[]∨Bx l=true):=by
 have e:evOpD E call o frc h d=.ok vc { h1 with tch:=Eq (L3 h.next h1.tch) h.tch } (Eq (L3 h.next h1.tch) d):=by
  unfold evOpD
  rw [hq]
  show Dk h.next h.tch d (evOp E call o.op frc { h with tch:=[] })=_
  rw [a.r]; rfl
 refine ⟨_,_,e,⟨rfl,a.st.congr rfl (fun _=>rfl),a.kp,a.vr.keep (fun _ hz=>⟨hz,rfl⟩) (.refl _ _),fun b=>?_⟩,?_⟩
 . obtain ⟨l0,f1,f2⟩:=(a.sp b).th
   have sb:=a.sp b
   refine ⟨sb.nx,sb.zz,sb.zn,sb.un,sb.uo,⟨L3 h.next h1.tch,by show Eq _ _=_; rw [Sh],fun id hi=>?_⟩,fun id r t ho hr=>?_,fun r hr _=>List.mem_append.2 (.inr hr),sb.ex,sb.xk,sb.rd⟩
   . have hi':=(Y4.1 hi).1
     rw [f1] at hi'
     have hi':id∈l0:=by simpa using hi'
     rcases f2 id hi' with h | ⟨r,t,h1,h2⟩
     . exact .inl h
     . exact .inr ⟨r,t,h1,fun hr=>List.mem_append.2 (.inl (h2 hr))⟩
   . rcases sb.mv id r t ho hr with h | h
     . exact .inl h
     . exact .inr (List.mem_append.2 (.inl h))
 . unfold Gh at ht
   rcases Bool.or_eq_true_iff.1 ht with ht | ht
   . rcases hd with rfl | hd
     . left
       obtain ⟨l0,f1,f2⟩:=(a.sp K.os.length).th
       have:L3 h.next h1.tch=[]:=Jj fun i hi=>by
        rw [f1] at hi
        have hi:i∈l0:=by simpa using hi
        rcases f2 i hi with h | ⟨r,t,q1,q2⟩
        . exact h
        . obtain ⟨_,_,r',t',q3,q4⟩:=s.live i _ q1
          cases q3
          have q5:=q2 (isRt_lt q4)
          have:=List.all_eq_true.1 ht r q5
          have:=isRt_lt q4
          simp at *; omega
       rw [this]; rfl
     . exact .inr (Il hd).2
   . exact .inr ht
theorem D5.next {r:CRes} {p:PR} (s:H1 Z ow h K.os) (hx:K.ext≤K.os.length) {r0:Res} {vc:AV} (a:Did2 Z ow h K r0 v K' Z' ow' vc h') (H:H1 Z' ow' h' K'.os->K'.ext≤K'.os.length->D5 Z' ow' h' K' nt r p):D5 Z ow h K nt r p :=
 (H a.st (Gx hx a.kp (a.sp 0).ex)).trans s (a.sp _) (a.kp.e hx)
theorem AO (hP:PEok P):∀ (j:PJ) (r:PR),evP P j=some r->AN P j r:=by
 refine evP.partial_correctness P (AN P) fun ev ih j r hr=>?_
 cases j with
 | code c fr K =>
  intro nt Z ow h frc s hx a hc
  cases c with
  | skip=>cases hr; exact ⟨Z,ow,h,frc,tM,s,a,.refl _ _ _ _ _,hx,.refl _ _ _⟩
  | exit i=>cases hr; exact ⟨Z,ow,h,frc,tN i,s,a,.refl _ _ _ _ _,hx,.refl _ _ _⟩
  | ret=>cases hr; exact ⟨Z,ow,h,frc,zW,s,a,.refl _ _ _ _ _,hx,.refl _ _ _⟩
  | reg d l =>
   cases d with
   | false=>show D5 _ _ _ _ _ (evω P.E (.reg false l) frc h) r; rw [zY]; exact ih (.ops l fr K) r hr nt Z ow h frc s hx a hc
   | true=>show D5 _ _ _ _ _ (evω P.E (.reg true l) frc h) r; rw [tO]; exact ih (.opsD l fr K) r hr nt Z ow h frc [] s hx a hc (.inl rfl)
  | seq c1 c2 =>
   obtain ⟨hc1,hc2⟩:=Bool.and_eq_true_iff.1 hc
   obtain ⟨q,h1,h2⟩:=O4 hr
   have k1:=ih _ _ h1 nt Z ow h frc s hx a hc1
   show D5 _ _ _ _ _ (evω P.E (.seq c1.er c2.er) frc h) r
   rw [zX]
   cases q with
   | val=>cases h2
   | pan v K'=>cases h2; obtain ⟨Z',ow',h',vc,e,b2,b3,b4,b5⟩:=k1; rw [e]; exact ⟨Z',ow',h',vc,rfl,b2,b3,b4,b5⟩
   | ok e fr' K' =>
    obtain ⟨Z',ow',h',frc',e1,b2,b3,b4,b5,b6⟩:=k1
    rw [e1]
    cases e with
    | normal=>exact (ih _ _ h2 nt Z' ow' h' frc' b2 b5 b3 hc2).trans s b4 b6
    | exit i=>cases h2; exact ⟨Z',ow',h',frc',rfl,b2,b3,b4,b5,b6⟩
    | ret=>cases h2; exact ⟨Z',ow',h',frc',rfl,b2,b3,b4,b5,b6⟩
  | cond x c1 c2 =>
   obtain ⟨hc1,hc2⟩:=Bool.and_eq_true_iff.1 hc
   show D5 _ _ _ _ _ (evω P.E (.cond x c1.er c2.er) frc h) r
   rw [tP]
   have hv:=Ed hP.gl a x
   change (match opvP P.E x fr with | .bool true=>ev (.code c1 fr K) | .bool false=>ev (.code c2 fr K) | _=>none)=some r at hr
   cases ho:opvP P.E x fr <;> rw [ho] at hr hv <;> first | (cases hr; done) | skip
   rename_i b
   rw [hv.isB]
   cases b with
   | true=>exact ih _ _ hr nt Z ow h frc s hx a hc1
   | false=>exact ih _ _ hr nt Z ow h frc s hx a hc2
  | block i c =>
   obtain ⟨q,h1,h2⟩:=O4 hr
   have k1:=ih _ _ h1 nt Z ow h frc s hx a hc
   show D5 _ _ _ _ _ (evω P.E (.block i c.er) frc h) r
   rw [oD]
   cases q with
   | val=>cases h2
   | pan v K'=>cases h2; obtain ⟨Z',ow',h',vc,e,b2,b3,b4,b5⟩:=k1; rw [e]; exact ⟨Z',ow',h',vc,rfl,b2,b3,b4,b5⟩
   | ok e fr' K' =>
    obtain ⟨Z',ow',h',frc',e1,b2,b3,b4,b5,b6⟩:=k1
    rw [e1]
    cases e with
    | normal=>cases h2; exact ⟨Z',ow',h',frc',rfl,b2,b3,b4,b5,b6⟩
    | exit j =>
     change (if j=i then pure (PR.ok .normal fr' K') else pure (PR.ok (.exit j) fr' K'))=some r at h2
     show D5 _ _ _ _ _ (bif Nat.beq j i then .ok .normal frc' h' else .ok (.exit j) frc' h') r
     by_cases e:j=i
     . rw [if_pos e] at h2; cases h2
       rw [e,Nat.beq_refl]
       exact ⟨Z',ow',h',frc',rfl,b2,b3,b4,b5,b6⟩
     . rw [if_neg e] at h2; cases h2
       rw [show Nat.beq j i=false from (by cases hb:Nat.beq j i with | false=>rfl | true=>exact absurd (Nat.eq_of_beq_eq_true hb) e)]
       exact ⟨Z',ow',h',frc',rfl,b2,b3,b4,b5,b6⟩
    | ret=>cases h2; exact ⟨Z',ow',h',frc',rfl,b2,b3,b4,b5,b6⟩
  | loop c =>
   obtain ⟨q,h1,h2⟩:=O4 hr
   have k1:=ih _ _ h1 nt Z ow h frc s hx a hc
   show D5 _ _ _ _ _ (evω P.E (.loop c.er) frc h) r
   rw [tQ]
   cases q with
   | val=>cases h2
   | pan v K'=>cases h2; obtain ⟨Z',ow',h',vc,e,b2,b3,b4,b5⟩:=k1; rw [e]; exact ⟨Z',ow',h',vc,rfl,b2,b3,b4,b5⟩
   | ok e fr' K' =>
    obtain ⟨Z',ow',h',frc',e1,b2,b3,b4,b5,b6⟩:=k1
    rw [e1]
    cases e with
    | normal=>exact (ih _ _ h2 nt Z' ow' h' frc' b2 b5 b3 hc).trans s b4 b6
    | exit i=>cases h2; exact ⟨Z',ow',h',frc',rfl,b2,b3,b4,b5,b6⟩
    | ret=>cases h2; exact ⟨Z',ow',h',frc',rfl,b2,b3,b4,b5,b6⟩
  | scope c=>show D5 _ _ _ _ _ (evω P.E (.scope c.er) frc h) r; rw [oE]; exact ih _ _ hr nt Z ow h frc s hx a hc
  | pre keep c =>
   obtain ⟨ow',b1,b2,b3,b4,b5⟩:=dF s a keep
   exact (ih _ _ hr nt Z ow' h frc b1 b4 b2 hc).trans s b3 (fun id hi=>b5 id hi (Nat.lt_of_lt_of_le hi hx))
  | post keep c =>
   obtain ⟨q,h1,h2⟩:=O4 hr
   have k1:=ih _ _ h1 nt Z ow h frc s hx a hc
   show D5 _ _ _ _ _ (evω P.E c.er frc h) r
   cases q with
   | val=>cases h2
   | pan v K'=>cases h2; exact k1
   | ok e fr' K' =>
    cases e with
    | normal =>
     cases h2
     obtain ⟨Z',ow',h',frc',e1,b2,b3,b4,b5,b6⟩:=k1
     obtain ⟨ow2,c1,c2,c3,c4,c5⟩:=dF b2 b3 keep
     exact ⟨Z',ow2,h',frc',e1,c1,c2,b4.trans s c3,c4,b6.trans (fun id hi=>c5 id (by rw [b4.ex]; exact hi) (Nat.lt_of_lt_of_le (by rw [b4.ex]; exact hi) b5))⟩
    | exit i=>cases h2; exact k1
    | ret=>cases h2; exact k1
 | ops l fr K =>
  intro nt Z ow h frc s hx a hd
  cases l with
  | nil=>cases hr; exact ⟨Z,ow,h,frc,rfl,s,a,.refl _ _ _ _ _,hx,.refl _ _ _⟩
  | cons o l =>
   obtain ⟨hd1,hd2⟩:=Ya hd
   rw [aY]
   dsimp only at hr
   cases hg:guardP o.gd fr with
   | none=>rw [hg] at hr; cases hr
   | some b =>
    rw [hg] at hr
    rw [Rz a hg]
    cases b with
    | false=>exact ih _ _ hr nt Z ow h _ s hx (a.setd hd1 vr_skipped) hd2
    | true =>
     dsimp only at hr
     show D5 _ _ _ _ _ (Q0 o.dst (F6 P.E (callω P.E) l) frc (evOp P.E (callω P.E) o.op frc h)) r
     cases hp:prim P.E o.op fr K with
     | bad=>rw [hp] at hr; cases hr
     | val v K' =>
      rw [hp] at hr
      obtain ⟨ow',vc,h',d⟩:=Oz hP.gl hP.ti s hx a hp (callω P.E)
      rw [d.r]
      refine D5.next s hx (v:=v) d.two fun s' hx'=>?_
      exact ih _ _ hr nt Z ow' h' _ s' hx' ((a.keep (d.sp 0).zz d.kp).setd hd1 d.vr) hd2
     | pan v =>
      rw [hp] at hr; cases hr
      obtain ⟨vc,hv,e⟩:=kV hP.gl a hp
      rw [e]
      exact ⟨Z,ow,h,vc,rfl,s,hv,.refl _ _ _ _ _,hx⟩
     | call f args =>
      rw [hp] at hr
      obtain ⟨argc,hl,e⟩:=Ih hP.gl a hp
      rw [e]
      obtain ⟨q,h1,h2⟩:=O4 hr
      have k1:=ih _ _ h1 Z ow h argc s hx hl
      cases q with
      | ok=>cases h2
      | pan v K' =>
       cases h2
       obtain ⟨Z',ow',h',vc,e,b2,b3,b4,b5⟩:=k1
       rw [e]
       exact ⟨Z',ow',h',vc,rfl,b2,b4,b3 _,b5⟩
      | val vs K' =>
       obtain ⟨Z',ow',h',vcs,e,b2,b3,b4,b5⟩:=k1
       rw [e]
       refine D5.next s hx (v:=oneOrTup vs) ⟨rfl,b2,b3,b5.one,b4⟩ fun s' hx'=>?_
       exact ih _ _ h2 nt Z' ow' h' _ s' hx' ((a.keep (b4 0).zz b3).setd hd1 b5.one) hd2
 | opsD l fr K =>
  intro nt Z ow h frc d s hx a hd hdd
  cases l with
  | nil=>cases hr; exact ⟨Z,ow,h,frc,rfl,s,a,.refl _ _ _ _ _,hx,.refl _ _ _⟩
  | cons o l =>
   obtain ⟨hd1,hd2⟩:=Ya hd
   have hdd2:d=[]∨Bx l=true:=hdd.imp id fun e=>(Il e).2
   rw [Xz]
   dsimp only at hr
   cases hg:guardP o.gd fr with
   | none=>rw [hg] at hr; cases hr
   | some b =>
    rw [hg] at hr
    rw [Rz a hg]
    cases b with
    | false=>exact ih _ _ hr nt Z ow h _ d s hx (a.setd hd1 vr_skipped) hd2 hdd2
    | true =>
     dsimp only at hr
     show D5 _ _ _ _ _ (L6 o.dst (evOpsD P.E (callω P.E) l) (virtD P.E (callω P.E) l o.late (setDst o.dst skipped frc) h d) frc (evOpD P.E (callω P.E) o frc h d)) r
     cases hq:o.quiet with
     | false =>
      rw [hq] at hr
      dsimp only at hr
      rw [lB hq hdd]
      cases hp:prim P.E o.op fr K with
      | bad=>rw [hp] at hr; cases hr
      | val v K' =>
       rw [hp] at hr
       obtain ⟨ow',vc,h',dd⟩:=Oz hP.gl hP.ti s hx a hp (callω P.E)
       rw [dd.r]
       refine D5.next s hx (v:=v) dd.two fun s' hx'=>?_
       exact ih _ _ hr nt Z ow' h' _ d s' hx' ((a.keep (dd.sp 0).zz dd.kp).setd hd1 dd.vr) hd2 hdd2
      | pan v=>rw [hp] at hr; cases hr
      | call f args =>
       rw [hp] at hr
       obtain ⟨argc,hl,e⟩:=Ih hP.gl a hp
       rw [e]
       obtain ⟨q,h1,h2⟩:=O4 hr
       have k1:=ih _ _ h1 Z ow h argc s hx hl
       cases q with
       | ok=>cases h2
       | pan v K'=>cases h2
       | val vs K' =>
        obtain ⟨Z',ow',h',vcs,e,b2,b3,b4,b5⟩:=k1
        rw [e]
        refine D5.next s hx (v:=oneOrTup vs) ⟨rfl,b2,b3,b5.one,b4⟩ fun s' hx'=>?_
        exact ih _ _ h2 nt Z' ow' h' _ d s' hx' ((a.keep (b4 0).zz b3).setd hd1 b5.one) hd2 hdd2
     | true =>
      rw [hq] at hr
      dsimp only at hr
      have s0:H1 Z ow { h with tch:=[] } ({ K with tch:=[] }:PK).os:=s.congr rfl (fun _=>rfl)
      have a0:FrR Z ow { h with tch:=[] } ({ K with tch:=[] }:PK).os nt frc fr:=a.keep (fun _ hz=>⟨hz,rfl⟩) (.refl _ _)
      have hx0:({ K with tch:=[] }:PK).ext≤({ K with tch:=[] }:PK).os.length:=hx
      cases hp:prim P.E o.op fr { K with tch:=[] } with
      | bad=>rw [hp] at hr; cases hr
      | pan v=>rw [hp] at hr; cases hr
      | val v K1 =>
       rw [hp] at hr
       dsimp only at hr
       obtain ⟨ow',vc,h',dd⟩:=Oz hP.gl hP.ti s0 hx0 a0 hp (callω P.E)
       split at hr
       . rename_i ht
         obtain ⟨h2,d2,e,dd2,hd3⟩:=Sa hq s hdd (r:=v) dd.two ht
         rw [e]
         refine D5.next s hx (v:=v) dd2 fun s' hx'=>?_
         exact ih _ _ hr nt Z ow' h2 _ d2 s' hx' ((a.keep (dd2.sp 0).zz dd2.kp).setd hd1 dd2.vr) hd2 hd3
       . cases hr
      | call f args =>
       rw [hp] at hr
       obtain ⟨argc,hl,e⟩:=Ih hP.gl a0 hp
       obtain ⟨q,h1,h2⟩:=O4 hr
       have k1:=ih _ _ h1 Z ow { h with tch:=[] } argc s0 hx0 hl
       cases q with
       | ok=>cases h2
       | pan v K'=>cases h2
       | val vs K1 =>
        dsimp only at h2
        obtain ⟨Z',ow',h',vcs,e1,b2,b3,b4,b5⟩:=k1
        split at h2
        . rename_i ht
          obtain ⟨h3,d2,e2,dd2,hd3⟩:=Sa hq s hdd (r:=oneOrTup vs) (v:=oneOrTup vs) ⟨(e (callω P.E)).trans e1,b2,b3,b5.one,b4⟩ ht
          rw [e2]
          refine D5.next s hx (v:=oneOrTup vs) dd2 fun s' hx'=>?_
          exact ih _ _ h2 nt Z' ow' h3 _ d2 s' hx' ((a.keep (dd2.sp 0).zz dd2.kp).setd hd1 dd2.vr) hd2 hd3
        . cases h2
 | call f args K =>
  intro Z ow h argc s hx hl
  dsimp only at hr
  cases hT:P.T f with
  | some g =>
   rw [hT] at hr
   dsimp only at hr
   cases ht:tcall g args K with
   | none=>rw [ht] at hr; cases hr
   | some q =>
    obtain ⟨vs,K'⟩:=q
    rw [ht] at hr; cases hr
    exact lA (hP.T f g hT) s hx hl ht
  | none =>
   rw [hT] at hr
   dsimp only at hr
   cases hin:inpOf (P.fn f) with
   | true =>
    rw [hin] at hr
    obtain ⟨q,h1,h2⟩:=O4 hr
    have k1:=ih _ _ h1 Z ow h argc s (Nat.le_refl _) hl
    have stp:∀ {Z':Nat->Prop} {ow':Nat->Option (List Nat)} {h':Heap} {K1:PK},Stp K.os.length Z ow h ⟨K.os,K.os.length,[]⟩ Z' ow' h' K1->∀ b,Stp b Z ow h K Z' ow' h' ⟨K1.os,K.ext,K1.tch ++ K.tch⟩:=fun {Z' ow' h' K1} sb b=>by
     obtain ⟨l0,f1,f2⟩:=sb.th
     refine ⟨sb.nx,sb.zz,sb.zn,sb.un,sb.uo,⟨l0,f1,fun id hi=>?_⟩,fun id r t ho hr=>?_,fun r hr _=>List.mem_append.2 (.inr hr),rfl,fun j hj=>sb.xk j (Nat.lt_of_lt_of_le hj hx),fun j hj=>sb.rd j (Nat.lt_of_lt_of_le hj hx)⟩
     . rcases f2 id hi with h | ⟨r,t,q1,q2⟩
       . exact .inl h
       . obtain ⟨_,_,r',t',q3,q4⟩:=s.live id _ q1
         cases q3
         exact .inr ⟨r,t,q1,fun _=>List.mem_append.2 (.inl (q2 (isRt_lt q4)))⟩
     . rcases sb.mv id r t ho (Nat.lt_of_lt_of_le hr hx) with h | h
       . exact .inl h
       . exact .inr (List.mem_append.2 (.inl h))
    have kp:∀ {ow':Nat->Option (List Nat)} {K1:PK},K1.ext=K.os.length->K1.ext≤K1.os.length->Bw K.os.length ow K.os ow' K1.os->Keep' ow K.os ow' K1.os:=fun {ow' K1} e1 e2 e3=>⟨by rw [← e1]; exact e2,e3⟩
    cases q with
    | ok=>cases h2
    | val vs K1 =>
     cases h2
     obtain ⟨Z',ow',h',vcs,e,b2,b3,b4,b5,b6⟩:=k1
     exact ⟨Z',ow',h',vcs,e,b2,kp (K1:=K1) b3.ex b6 b5,stp b3,b4⟩
    | pan v K1 =>
     cases h2
     obtain ⟨Z',ow',h',vc,e,b2,b3,b4,b5⟩:=k1
     exact ⟨Z',ow',h',vc,e,b2,stp b3,b4,Nat.le_trans hx (by have:=b3.ex; show K.os.length≤K1.os.length; have h0:K1.ext=K.os.length:=this; omega)⟩
   | false =>
    rw [hin] at hr
    obtain ⟨q,h1,h2⟩:=O4 hr
    have hn:(focusIds args K).Nodup:=(j9 (fun id=>Ug K.os[id]?) 64 (refsL args) [] List.nodup_nil).1
    obtain ⟨s1,hren⟩:=Pa s hn (f:=cutPO) (os':=(focusK (focusIds args K) K).os) (fun e=>by
     cases e with
     | sub p i o=>exact .inr ⟨⟨p,i,o,rfl⟩,rfl⟩
     | _=>exact .inl rfl) rfl
    have hx1:(focusK (focusIds args K) K).ext≤(focusK (focusIds args K) K).os.length:=by
     show (focusIds args K).length≤((focusIds args K).map _).length
     simp
    have k1:=ih _ _ h1 Z _ h argc s1 hx1 (hl.ren (fun _ hz=>⟨hz,rfl⟩) hren)
    cases q with
    | ok=>cases h2
    | val vs K1 =>
     dsimp only at h2
     obtain ⟨Z',ow',h',vcs,e,b2,b3,b4,_,_⟩:=k1
     cases hm:mergeK (focusIds args K) K K1 with
     | none=>rw [hm] at h2; cases h2
     | some K' =>
      rw [hm] at h2; cases h2
      obtain ⟨ow2,c1,c2,c3,c4⟩:=Xv s hx hn b2 b3 hm
      exact ⟨Z',ow2,h',vcs,e,c1,c2,c3,b4.ren (fun _ hz=>⟨hz,rfl⟩) c4⟩
    | pan v K1 =>
     dsimp only at h2
     obtain ⟨Z',ow',h',vc,e,b2,b3,b4,_⟩:=k1
     cases hm:mergeK (focusIds args K) K K1 with
     | none=>rw [hm] at h2; cases h2
     | some K' =>
      rw [hm] at h2; cases h2
      obtain ⟨ow2,c1,c2,c3,c4⟩:=Xv s hx hn b2 b3 hm
      exact ⟨Z',ow2,h',vc,e,c1,c3,b4.ren (fun _ hz=>⟨hz,rfl⟩) c4,Gx hx c2 (c3 0).ex⟩
 | body f args K =>
  intro Z ow h argc s hx hl
  dsimp only at hr
  cases hf:P.fn f with
  | none=>rw [hf] at hr; cases hr
  | some p =>
   rw [hf] at hr
   dsimp only at hr
   split at hr
   . rename_i hn
     have F:=hP.fn f p hf
     obtain ⟨q,h1,h2⟩:=O4 hr
     have k1:=ih _ _ h1 p.nt Z ow h _ s hx (fW hl hn F.nt) F.ok
     rw [oF F.gc F.told F.dlf F.srt F.fn (by rw [hl.1]; exact hn)]
     cases q with
     | val=>cases h2
     | pan v K' =>
      cases h2
      obtain ⟨Z',ow',h',vc,e,b2,b3,b4,b5⟩:=k1
      rw [e]
      exact ⟨Z',ow',h',vc,rfl,b2,b4,b3,b5⟩
     | ok e fr' K' =>
      obtain ⟨Z',ow',h',frc',e1,b2,b3,b4,b5,b6⟩:=k1
      rw [e1]
      have fin:(∀ q,resP P.E p.rs fr' K'=some q->r=.val q.1 q.2)->resP P.E p.rs fr' K' ≠ none->dG Z ow h K (It (F7 P.E p.rs frc' h') h') r:=fun hq hne=>by
       cases hv:resP P.E p.rs fr' K' with
       | none=>exact absurd hv hne
       | some q =>
        obtain ⟨vs,K2⟩:=q
        obtain rfl:=hq _ hv
        obtain ⟨vcs,c1,c2,c3,c4,c5⟩:=Up p.rs b2 b5 b3 hv
        rw [c1]
        exact ⟨Z',ow',h',vcs,rfl,c2,b4.trans s c4,c5,b6.trans (c3.e (by rw [← b4.ex]; exact b5)),Gx b5 c3 c4.ex⟩
      cases e with
      | exit i=>cases h2
      | normal =>
       dsimp only at h2
       cases hv:resP P.E p.rs fr' K' with
       | none=>rw [hv] at h2; cases h2
       | some q=>rw [hv] at h2; cases h2; exact fin (fun q' hq'=>by rw [hv] at hq'; cases hq'; rfl) (by rw [hv]; intro e; cases e)
      | ret =>
       dsimp only at h2
       cases hv:resP P.E p.rs fr' K' with
       | none=>rw [hv] at h2; cases h2
       | some q=>rw [hv] at h2; cases h2; exact fin (fun q' hq'=>by rw [hv] at hq'; cases hq'; rfl) (by rw [hv]; intro e; cases e)
   . cases hr
end
end Go.AM
namespace Go.AM
section
variable {E:Env} {P:PE} {R:AV->AV->Prop} {Z Z' Z1:Nat->Prop} {ow ow' ow1:Nat->Option (List Nat)} {h h' h1:Heap} {K K' K1:PK} {os os' ps:List PO} {x y xc yc v k:AV} {L M:List Nat}
noncomputable def Q4 (c r:AV) (os:List PO):AV × List PO:=match c with
 | .nilsl=>(match ownOf r with | some (0,[],sz)=>(.msl os.length 0 0 sz,os ++ [.row 0 [] sz]) | _=>(c,os))
 | _=>(c,os)
noncomputable def J0:List AV->List AV->List PO->List AV × List PO
 | [],_,os=>([],os)
 | c :: cs,[],os=>(c :: cs,os)
 | c :: cs,r :: rs,os=>((Q4 c r os).1 :: (J0 cs rs (Q4 c r os).2).1,(J0 cs rs (Q4 c r os).2).2)
noncomputable def S9 (v r:AV) (os:List PO):AV × List PO:=(L8 v (J0 v.cells r.cells os).1,(J0 v.cells r.cells os).2)
noncomputable def M9:List AV->List AV->List PO->List AV × List PO
 | [],_,os=>([],os)
 | c :: cs,[],os=>(c :: cs,os)
 | c :: cs,r :: rs,os=>((S9 c r os).1 :: (M9 cs rs (S9 c r os).2).1,(M9 cs rs (S9 c r os).2).2)
structure backOk (vs rs:List AV) (os:List PO):Prop where
 nd:(refsL (M9 vs rs os).1).Nodup
 vl:renL (posOf (refsL (M9 vs rs os).1)) (M9 vs rs os).1=(openTs 0 rs).1
 ol:(refsL (M9 vs rs os).1).map (fun id=>renPO (posOf (refsL (M9 vs rs os).1)) (entryAt (M9 vs rs os).2 id))=(openTs 0 rs).2
theorem fX (s:H1 Z ow h os) (sz:Nat):H1 Z ow h (os ++ [.row 0 [] sz])∧Keep' ow os ow (os ++ [.row 0 [] sz])∧VR Z ow h (os ++ [.row 0 [] sz]) .nilsl (.msl os.length 0 0 sz):=by
 have hno:∀ c t,ow c ≠ some (os.length :: t):=fun c t e=>by
  obtain ⟨_,_,r,t',h1,h2⟩:=s.live c _ e
  cases h1
  exact absurd (isRt_lt h2) (Nat.lt_irrefl _)
 have hk:Keep' ow os ow (os ++ [.row 0 [] sz]):=Gj s.sb fun _ _ _ _ _=>.rfl
 have hpt:PT (VR Z ow h os) Z ow h (os ++ [.row 0 [] sz]):=s.new (.row 0 [] sz) (Nat.le_refl _) (fun _ _=>rfl) (fun _ _ _=>rfl) (fun _ _ _=>.rfl) (fun a b t ha _=>absurd ha (hno a t)) (fun d t hd=>absurd hd (hno d t))
  (by unfold isRt; rw [List.getElem?_append_right (Nat.le_refl _),Nat.sub_self]; rfl)
  (fun es z e=>by cases e; exact ⟨.nilsl,.nil (.inl rfl) (fun c t=>hno c t)⟩) (fun k es z e hk=>by cases e; exact absurd rfl hk) (fun es e=>by cases e)
 refine ⟨H1.to hpt (fun _ hz=>⟨hz,rfl⟩) hk,hk,.mnil (.inl rfl) (fun L hL c hc=>?_) (by simp)⟩
 have:loP (os ++ [.row 0 [] sz]) 6 os.length=some [os.length]:=by
  unfold loP
  rw [List.getElem?_append_right (Nat.le_refl _),Nat.sub_self]; rfl
 rw [this] at hL; cases hL
 exact hno c [] hc
theorem fY (s:H1 Z ow h os) (a:VR Z ow h os x y) (r:AV):H1 Z ow h (Q4 y r os).2∧Keep' ow os ow (Q4 y r os).2∧VR Z ow h (Q4 y r os).2 x (Q4 y r os).1:=by
 have same:∀ q:AV × List PO,q=(y,os)->H1 Z ow h q.2∧Keep' ow os ow q.2∧VR Z ow h q.2 x q.1:=fun q e=>by subst e; exact ⟨s,.refl _ _,a⟩
 unfold Q4
 split
 . split
   . rename_i sz _
     rw [a.isN]
     exact fX s sz
   . exact ⟨s,.refl _ _,a⟩
 . exact ⟨s,.refl _ _,a⟩
theorem Ej:∀ (ys xs rs:List AV) (os:List PO),H1 Z ow h os->VL Z ow h os xs ys->H1 Z ow h (J0 ys rs os).2∧Keep' ow os ow (J0 ys rs os).2∧VL Z ow h (J0 ys rs os).2 xs (J0 ys rs os).1
 | [],xs,rs,os,s,l=>⟨s,.refl _ _,l⟩
 | c :: cs,xs,[],os,s,l=>⟨s,.refl _ _,l⟩
 | c :: cs,[],r :: rs,os,s,l=>by cases l.1
 | c :: cs,x :: xs,r :: rs,os,s,l=>by
  obtain ⟨l1,l2⟩:=l.inv
  obtain ⟨a1,a2,a3⟩:=fY s l1 r
  obtain ⟨b1,b2,b3⟩:=Ej cs xs rs (Q4 c r os).2 a1 (l2.keep (fun _ hz=>⟨hz,rfl⟩) a2)
  exact ⟨b1,a2.trans b2,.cons (a3.keep (fun _ hz=>⟨hz,rfl⟩) b2) b3⟩
theorem Jm:∀ (ys rs:List AV) (os:List PO),(J0 ys rs os).1.length=ys.length
 | [],rs,os=>rfl
 | c :: cs,[],os=>rfl
 | c :: cs,r :: rs,os=>congrArg (· + 1) (Jm cs rs _)
theorem fZ (s:H1 Z ow h os) (a:VR Z ow h os x y) (r:AV):H1 Z ow h (S9 y r os).2∧Keep' ow os ow (S9 y r os).2∧VR Z ow h (S9 y r os).2 x (S9 y r os).1:=by
 unfold S9
 cases hy:isAg y with
 | true =>
  cases y <;> first | (cases hy; done) | skip
  obtain ⟨xs,rfl,l⟩:=a.agI
  obtain ⟨b1,b2,b3⟩:=Ej _ xs r.cells os s l
  exact ⟨b1,b2,.agL b3⟩
 | false =>
  obtain ⟨b1,b2,b3⟩:=Ej y.cells [x] r.cells os s (by rw [B9 hy]; exact .cons a .nil)
  refine ⟨b1,b2,?_⟩
  have hl:=Jm y.cells r.cells os
  rw [B9 hy] at hl b3 ⊢
  obtain ⟨c,hc⟩:=List.length_eq_one_iff.1 hl
  have:L8 y (J0 [y] r.cells os).1=c:=by
   rw [hc]
   cases y <;> first | rfl | cases hy
  rw [this]
  rw [hc] at b3
  exact b3.inv.1
theorem Sb:∀ (ys xs rs:List AV) (os:List PO),H1 Z ow h os->VL Z ow h os xs ys->H1 Z ow h (M9 ys rs os).2∧Keep' ow os ow (M9 ys rs os).2∧VL Z ow h (M9 ys rs os).2 xs (M9 ys rs os).1
 | [],xs,rs,os,s,l=>⟨s,.refl _ _,l⟩
 | c :: cs,xs,[],os,s,l=>⟨s,.refl _ _,l⟩
 | c :: cs,[],r :: rs,os,s,l=>by cases l.1
 | c :: cs,x :: xs,r :: rs,os,s,l=>by
  obtain ⟨l1,l2⟩:=l.inv
  obtain ⟨a1,a2,a3⟩:=fZ s l1 r
  obtain ⟨b1,b2,b3⟩:=Sb cs xs rs (S9 c r os).2 a1 (l2.keep (fun _ hz=>⟨hz,rfl⟩) a2)
  exact ⟨b1,a2.trans b2,.cons (a3.keep (fun _ hz=>⟨hz,rfl⟩) b2) b3⟩
theorem oR (s:H1 Z ow h os) {vcs vs rs:List AV} (l:VL Z ow h os vcs vs) (b:backOk vs rs os):∃ ow',H1 Z ow' h (openTs 0 rs).2∧VL Z ow' h (openTs 0 rs).2 vcs (openTs 0 rs).1∧∀ id L,ow' id=some L->ow id ≠ none:=by
 obtain ⟨a1,a2,a3⟩:=Sb vs vcs rs os s l
 obtain ⟨c1,c2⟩:=Pa a1 b.nd (f:=id) (fun e=>.inl rfl) (os':=(openTs 0 rs).2) b.ol.symm
 refine ⟨_,c1,?_,fun d M hd e=>?_⟩
 . rw [← b.vl]; exact a3.ren (fun _ hz=>⟨hz,rfl⟩) c2
 . obtain ⟨r,j,t,h3,_⟩:=C7.1 hd
   rw [e] at h3; cases h3
def K0:PK:=⟨[],0,[]⟩
theorem AP (hb:∀ id,Z id->id < h.next):H1 Z (fun _=>none) h [] where
 row r es sz hr:=by simp at hr
 raw r k es sz hr:=by simp at hr
 map r es hr:=by simp at hr
 inj a b L ha:=by cases ha
 live a L ha:=by cases ha
 zb:=hb
 sb j p i o hj:=by simp at hj
def refine1 (y:AV):List AV:=match y with | .fsl [] true=>[.nilsl,.fsl [] false] | y=>[y]
theorem Fz.refine (f:Fz Z h x y):∃ y'∈refine1 y,Fz Z h x y':=by
 have same:∀ {y:AV},refine1 y=[y]->Fz Z h x y->∃ y'∈refine1 y,Fz Z h x y':=fun {y} e f=>⟨y,by rw [e]; exact List.mem_singleton.2 rfl,f⟩
 cases f with
 | emp e =>
  cases e with
  | nil=>exact ⟨.nilsl,.head _,.nilsl⟩
  | fsl=>exact ⟨.fsl [] false,.tail _ (.head _),.fsl rfl (fun i x y hx=>by simp at hx) rfl⟩
 | fsl h1 h2 h3 =>
  rename_i es es' f f'
  cases es' with
  | nil=>cases f' with
   | true=>exact ⟨.fsl [] false,.tail _ (.head _),.fsl h1 h2 h3⟩
   | false=>exact same rfl (.fsl h1 h2 h3)
  | cons=>exact same rfl (.fsl h1 h2 h3)
 | view h1 h2 h3 h4 h5 h6 =>
  rename_i id off n sz row es' f'
  cases es' with
  | nil=>cases f' with
   | true=>exact ⟨.fsl [] false,.tail _ (.head _),.view h1 h2 h3 h4 h5 h6⟩
   | false=>exact same rfl (.view h1 h2 h3 h4 h5 h6)
  | cons=>exact same rfl (.view h1 h2 h3 h4 h5 h6)
 | int k n=>exact same rfl (.int k n)
 | bool b=>exact same rfl (.bool b)
 | str b=>exact same rfl (.str b)
 | nilsl=>exact same rfl .nilsl
 | nilptr=>exact same rfl .nilptr
 | nilmap=>exact same rfl .nilmap
 | nilfn=>exact same rfl .nilfn
 | niliface=>exact same rfl .niliface
 | agg h1 h2 h3=>exact same rfl (.agg h1 h2 h3)
 | fptr o f=>exact same rfl (.fptr o f)
 | pview h1 h2 h3 f=>exact same rfl (.pview h1 h2 h3 f)
def Comes (P:PE) (f:Nat) (args rs:List AV):Prop:=∃ vs K1,evP P (.body f args K0)=some (.val vs K1)∧backOk vs rs K1.os
theorem By (hP:PEok P) {f:Nat} {args rs:List AV} (H:Comes P f args rs) {xs:List AV} (hl:xs.length=args.length) (hz:∀ (i:Nat) x y,xs[i]?=some x->args[i]?=some y->Fz Z h x y) (hb:∀ id,Z id->id < h.next) :
 ∃ (vcs:List AV) (h1:Heap) (Z1:Nat->Prop) (ow1:Nat->Option (List Nat)),callω P.E f xs h=.ok (oneOrTup vcs) h1∧H1 Z1 ow1 h1 (openTs 0 rs).2∧VL Z1 ow1 h1 (openTs 0 rs).2 vcs (openTs 0 rs).1 ∧
 h.next≤h1.next∧(∀ id,Z id->Z1 id∧h1.get id=h.get id)∧(∀ id,Z1 id->Z id∨h.next≤id)∧(∀ id,id < h.next->h1.get id=h.get id)∧(∀ id L,ow1 id=some L->h.next≤id)∧∃ l,h1.tch=l ++ h.tch∧∀ id∈l,h.next≤id:=by
 obtain ⟨vs,K1,e,bk⟩:=H
 obtain ⟨Z',ow',h',vcs,e1,b2,b3,b4,_,_⟩:=AO hP _ _ e Z (fun _=>none) h xs (AP hb) (Nat.le_refl _) ⟨hl,fun i x y hx hy=>.fz (hz i x y hx hy)⟩
 obtain ⟨ow2,c1,c2,c3⟩:=oR b2 b4 bk
 refine ⟨vcs,h',Z',ow2,e1,c1,c2,b3.nx,b3.zz,b3.zn,fun id hl=>b3.un id hl rfl,fun id L ho=>?_,?_⟩
 . by_cases hlt:id < h.next
   . cases e2:ow' id with
     | none=>exact absurd e2 (c3 id L ho)
     | some M=>exact absurd rfl (b3.uo id M e2 hlt)
   . omega
 . obtain ⟨l,q1,q2⟩:=b3.th
   refine ⟨l,q1,fun id hi=>?_⟩
   rcases q2 id hi with h | ⟨r,t,h1,_⟩
   . exact h
   . cases h1
theorem AQ (hP:PEok P) {f:Nat} {g:List AV->Option (List AV)} (H:∀ args rs,g args=some rs->Comes P f args rs):TC P.E f g :=
 fun args rs hg Z h xs hl hz hb=>By hP (H args rs hg) hl hz hb
theorem bA (hP:PEok P) {f:Nat} {g:List AV->Option (List AV)} (H:∀ a args rs,g (a :: args)=some rs->∀ a'∈refine1 a,Comes P f (a' :: args) rs) (H0:g []=none):TC P.E f g:=by
 intro args rs hg Z h xs hl hz hb
 cases args with
 | nil=>rw [H0] at hg; cases hg
 | cons a args =>
  cases xs with
  | nil=>cases hl
  | cons x xs =>
   obtain ⟨a',h1,h2⟩:=(hz 0 x a rfl rfl).refine
   refine By hP (H a args rs hg a' h1) hl (fun i u w hu hw=>?_) hb
   cases i with
   | zero=>cases hu; cases hw; exact h2
   | succ i=>exact hz (i + 1) u w hu hw
end
end Go.AM
namespace Go.AM
noncomputable section
variable {E:Env} {T:Nat->Option (List AV->Option (List AV))} {F:Nat->Option PFn} {fr:PF} {K K':PK} {v:AV} {vs:List AV}
def lC (P:PE) (b:PC) (r:Option PR):Option PR:=match r with
 | some (.ok .normal fr K)=>evP P (.code b fr K)
 | some (.val _ _)=>none
 | r=>r
theorem seqP_normal (P:PE) (b:PC):lC P b (some (.ok .normal fr K))=evP P (.code b fr K):=rfl
theorem seqP_exit (P:PE) (b:PC) (i:Nat):lC P b (some (.ok (.exit i) fr K))=some (.ok (.exit i) fr K):=rfl
theorem seqP_ret (P:PE) (b:PC):lC P b (some (.ok .ret fr K))=some (.ok .ret fr K):=rfl
theorem e_seq (P:PE) (a b:PC):evP P (.code (.seq a b) fr K)=lC P b (evP P (.code a fr K)):=by
 rw [evP]
 cases evP P (.code a fr K) with
 | none=>rfl
 | some r=>cases r with
  | ok e fr K=>cases e <;> rfl
  | val=>rfl
  | pan=>rfl
theorem e_skip (P:PE):evP P (.code .skip fr K)=some (.ok .normal fr K):=by rw [evP]
theorem e_exit (P:PE) (i:Nat):evP P (.code (.exit i) fr K)=some (.ok (.exit i) fr K):=by rw [evP]
theorem e_ret (P:PE):evP P (.code .ret fr K)=some (.ok .ret fr K):=by rw [evP]
theorem e_reg (P:PE) (l:List XOp):evP P (.code (.reg false l) fr K)=evP P (.ops l fr K):=by rw [evP]
theorem e_regD (P:PE) (l:List XOp):evP P (.code (.reg true l) fr K)=evP P (.opsD l fr K):=by rw [evP]
theorem e_pre (P:PE) (k:List Nat) (c:PC):evP P (.code (.pre k c) fr K)=evP P (.code c (Q8 k fr K).1 (Q8 k fr K).2):=by rw [evP]
def lD (P:PE) (a b:PC) (x:AV) (fr:PF) (K:PK):Option PR:=match x with | .bool true=>evP P (.code a fr K) | .bool false=>evP P (.code b fr K) | _=>none
theorem e_cond (P:PE) (c:Operand) (a b:PC):evP P (.code (.cond c a b) fr K)=lD P a b (opvP P.E c fr) fr K:=by rw [evP]; rfl
theorem condP_true (P:PE) (a b:PC):lD P a b (.bool true) fr K=evP P (.code a fr K):=rfl
theorem condP_false (P:PE) (a b:PC):lD P a b (.bool false) fr K=evP P (.code b fr K):=rfl
def oS (i:Nat) (r:Option PR):Option PR:=match r with
 | some (.ok (.exit j) fr K)=>if j=i then some (.ok .normal fr K) else some (.ok (.exit j) fr K)
 | some (.val _ _)=>none
 | r=>r
theorem blkP_normal (i:Nat):oS i (some (.ok .normal fr K))=some (.ok .normal fr K):=rfl
theorem blkP_exit (i j:Nat):oS i (some (.ok (.exit j) fr K))=if j=i then some (.ok .normal fr K) else some (.ok (.exit j) fr K):=rfl
theorem blkP_ret (i:Nat):oS i (some (.ok .ret fr K))=some (.ok .ret fr K):=rfl
theorem e_block (P:PE) (i:Nat) (c:PC):evP P (.code (.block i c) fr K)=oS i (evP P (.code c fr K)):=by
 rw [evP]
 cases evP P (.code c fr K) with
 | none=>rfl
 | some r=>cases r with
  | ok e fr K=>cases e <;> rfl
  | val=>rfl
  | pan=>rfl
def dH (k:List Nat) (r:Option PR):Option PR:=match r with
 | some (.ok .normal fr K)=>some (.ok .normal (Q8 k fr K).1 (Q8 k fr K).2)
 | some (.val _ _)=>none
 | r=>r
theorem postP_normal (k:List Nat):dH k (some (.ok .normal fr K))=some (.ok .normal (Q8 k fr K).1 (Q8 k fr K).2):=rfl
theorem postP_exit (k:List Nat) (i:Nat):dH k (some (.ok (.exit i) fr K))=some (.ok (.exit i) fr K):=rfl
theorem postP_ret (k:List Nat):dH k (some (.ok .ret fr K))=some (.ok .ret fr K):=rfl
theorem e_post (P:PE) (k:List Nat) (c:PC):evP P (.code (.post k c) fr K)=dH k (evP P (.code c fr K)):=by
 rw [evP]
 cases evP P (.code c fr K) with
 | none=>rfl
 | some r=>cases r with
  | ok e fr K=>cases e <;> rfl
  | val=>rfl
  | pan=>rfl
theorem bB (P:PE) (c:PC):evP P (.code (.loop c) fr K)=lC P (.loop c) (evP P (.code c fr K)):=by
 rw [evP]
 cases evP P (.code c fr K) with
 | none=>rfl
 | some r=>cases r with
  | ok e fr K=>cases e <;> rfl
  | val=>rfl
  | pan=>rfl
theorem E6 {P:PE} {c:PC} {fr':PF} {K':PK} (h:evP P (.code c fr K)=some (.ok .normal fr' K')):evP P (.code (.loop c) fr K)=evP P (.code (.loop c) fr' K'):=by rw [bB,h]; rfl
theorem D3 {P:PE} {c:PC} {i:Nat} {fr':PF} {K':PK} (h:evP P (.code c fr K)=some (.ok (.exit i) fr' K')):evP P (.code (.loop c) fr K)=some (.ok (.exit i) fr' K'):=by rw [bB,h]; rfl
theorem Z8 {P:PE} {c:PC} {fr':PF} {K':PK} (h:evP P (.code c fr K)=some (.ok .ret fr' K')):evP P (.code (.loop c) fr K)=some (.ok .ret fr' K'):=by rw [bB,h]; rfl
def dI (P:PE) (d:Option Tmp) (l:List XOp) (fr:PF) (r:Option PR):Option PR:=match r with
 | some (.val vs K)=>evP P (.ops l (setP d (oneOrTup vs) fr) K)
 | some (.pan v K)=>some (.pan v K)
 | _=>none
def AR (P:PE) (d:Option Tmp) (l:List XOp) (fr:PF) (K:PK) (o:OpS):Option PR:=match o with
 | .val v K=>evP P (.ops l (setP d v fr) K)
 | .call f args=>dI P d l fr (evP P (.call f args K))
 | .pan v=>some (.pan v K)
 | .bad=>none
theorem callK_val (P:PE) (d:Option Tmp) (l:List XOp):dI P d l fr (some (.val vs K))=evP P (.ops l (setP d (oneOrTup vs) fr) K):=rfl
theorem doP_val (P:PE) (d:Option Tmp) (l:List XOp):AR P d l fr K (.val v K')=evP P (.ops l (setP d v fr) K'):=rfl
theorem doP_call (P:PE) (d:Option Tmp) (l:List XOp) (f:Nat) (args:List AV):AR P d l fr K (.call f args)=dI P d l fr (evP P (.call f args K)):=rfl
theorem e_nil (P:PE):evP P (.ops [] fr K)=some (.ok .normal fr K):=by rw [evP]
theorem bC (P:PE) (o:XOp) (l:List XOp) {b:Bool} (hg:guardP o.gd fr=some b):evP P (.ops (o :: l) fr K)=bif b then AR P o.dst l fr K (prim P.E o.op fr K) else evP P (.ops l (setP o.dst skipped fr) K):=by
 rw [evP,hg]
 cases b with
 | false=>rfl
 | true =>
  dsimp only [cond_true]
  cases prim P.E o.op fr K with
  | call f args =>
   show _=dI P o.dst l fr (evP P (.call f args K))
   dsimp only
   cases evP P (.call f args K) with
   | none=>rfl
   | some r=>cases r <;> rfl
  | _=>rfl
theorem e_op (d:Option Tmp) (op:Op) (q:Bool) (s:List Bool) (c:Bool) (l:List XOp):evP ⟨E,T,F⟩ (.ops (⟨d,op,none,q,s,c⟩ :: l) fr K)=AR ⟨E,T,F⟩ d l fr K (prim E op fr K):=bC (fr:=fr) (K:=K) (b:=true) ⟨E,T,F⟩ ⟨d,op,none,q,s,c⟩ l rfl
theorem e_opS {d:Option Tmp} {op:Op} {t:Tmp} {w q:Bool} {s:List Bool} {c:Bool} {l:List XOp} (hg:S4 w (lookP fr t)=some false):evP ⟨E,T,F⟩ (.ops (⟨d,op,some (some t,w),q,s,c⟩ :: l) fr K)=evP ⟨E,T,F⟩ (.ops l (setP d skipped fr) K):=bC (fr:=fr) (K:=K) (b:=false) ⟨E,T,F⟩ ⟨d,op,some (some t,w),q,s,c⟩ l hg
theorem e_opY {d:Option Tmp} {op:Op} {t:Tmp} {w q:Bool} {s:List Bool} {c:Bool} {l:List XOp} (hg:S4 w (lookP fr t)=some true):evP ⟨E,T,F⟩ (.ops (⟨d,op,some (some t,w),q,s,c⟩ :: l) fr K)=AR ⟨E,T,F⟩ d l fr K (prim E op fr K):=bC (fr:=fr) (K:=K) (b:=true) ⟨E,T,F⟩ ⟨d,op,some (some t,w),q,s,c⟩ l hg
def y8 (P:PE) (d:Option Tmp) (l:List XOp) (fr:PF) (r:Option PR):Option PR:=match r with
 | some (.val vs K)=>evP P (.opsD l (setP d (oneOrTup vs) fr) K)
 | _=>none
def AS (P:PE) (d:Option Tmp) (l:List XOp) (fr:PF) (K:PK) (o:OpS):Option PR:=match o with
 | .val v K=>evP P (.opsD l (setP d v fr) K)
 | .call f args=>y8 P d l fr (evP P (.call f args K))
 | _=>none
def dJ (P:PE) (d:Option Tmp) (l:List XOp) (fr:PF) (K:PK) (r:Option PR):Option PR:=match r with
 | some (.val vs K1)=>if Gh K.os.length l K1=true then evP P (.opsD l (setP d (oneOrTup vs) fr) { K1 with tch:=K1.tch ++ K.tch }) else none
 | _=>none
def DG (P:PE) (d:Option Tmp) (l:List XOp) (fr:PF) (K:PK) (o:OpS):Option PR:=match o with
 | .val v K1=>if Gh K.os.length l K1=true then evP P (.opsD l (setP d v fr) { K1 with tch:=K1.tch ++ K.tch }) else none
 | .call f args=>dJ P d l fr K (evP P (.call f args { K with tch:=[] }))
 | _=>none
theorem callD_val (P:PE) (d:Option Tmp) (l:List XOp):y8 P d l fr (some (.val vs K))=evP P (.opsD l (setP d (oneOrTup vs) fr) K):=rfl
theorem doD_val (P:PE) (d:Option Tmp) (l:List XOp):AS P d l fr K (.val v K')=evP P (.opsD l (setP d v fr) K'):=rfl
theorem doD_call (P:PE) (d:Option Tmp) (l:List XOp) (f:Nat) (args:List AV):AS P d l fr K (.call f args)=y8 P d l fr (evP P (.call f args K)):=rfl
theorem callQ_val (P:PE) (d:Option Tmp) (l:List XOp) (ht:Gh K.os.length l K'=true):dJ P d l fr K (some (.val vs K'))=evP P (.opsD l (setP d (oneOrTup vs) fr) { K' with tch:=K'.tch ++ K.tch }):=if_pos ht
theorem doQ_call (P:PE) (d:Option Tmp) (l:List XOp) (f:Nat) (args:List AV):DG P d l fr K (.call f args)=dJ P d l fr K (evP P (.call f args { K with tch:=[] })):=rfl
theorem e_nilD (P:PE):evP P (.opsD [] fr K)=some (.ok .normal fr K):=by rw [evP]
theorem Gy (P:PE) (o:XOp) (l:List XOp) {b:Bool} (hg:guardP o.gd fr=some b):evP P (.opsD (o :: l) fr K)=bif b then (bif o.quiet then DG P o.dst l fr K (prim P.E o.op fr { K with tch:=[] }) else AS P o.dst l fr K (prim P.E o.op fr K)) else evP P (.opsD l (setP o.dst skipped fr) K):=by
 rw [evP,hg]
 cases b with
 | false=>rfl
 | true =>
  dsimp only [cond_true]
  cases o.quiet with
  | true =>
   dsimp only [cond_true,cond_false]
   cases prim P.E o.op fr { K with tch:=[] } with
   | call f args =>
    show _=dJ P o.dst l fr K (evP P (.call f args { K with tch:=[] }))
    dsimp only
    cases evP P (.call f args { K with tch:=[] }) with
    | none=>rfl
    | some r=>cases r <;> rfl
   | _=>rfl
  | false =>
   dsimp only [cond_true,cond_false]
   cases prim P.E o.op fr K with
   | call f args =>
    show _=y8 P o.dst l fr (evP P (.call f args K))
    dsimp only
    cases evP P (.call f args K) with
    | none=>rfl
    | some r=>cases r <;> rfl
   | _=>rfl
theorem d_op (d:Option Tmp) (op:Op) (s:List Bool) (c:Bool) (l:List XOp):evP ⟨E,T,F⟩ (.opsD (⟨d,op,none,false,s,c⟩ :: l) fr K)=AS ⟨E,T,F⟩ d l fr K (prim E op fr K):=Gy (fr:=fr) (K:=K) (b:=true) ⟨E,T,F⟩ ⟨d,op,none,false,s,c⟩ l rfl
theorem d_opQ (d:Option Tmp) (op:Op) (s:List Bool) (c:Bool) (l:List XOp):evP ⟨E,T,F⟩ (.opsD (⟨d,op,none,true,s,c⟩ :: l) fr K)=DG ⟨E,T,F⟩ d l fr K (prim E op fr ⟨K.os,K.ext,[]⟩):=Gy (fr:=fr) (K:=K) (b:=true) ⟨E,T,F⟩ ⟨d,op,none,true,s,c⟩ l rfl
theorem d_opS {d:Option Tmp} {op:Op} {t:Tmp} {w q:Bool} {s:List Bool} {c:Bool} {l:List XOp} (hg:S4 w (lookP fr t)=some false):evP ⟨E,T,F⟩ (.opsD (⟨d,op,some (some t,w),q,s,c⟩ :: l) fr K)=evP ⟨E,T,F⟩ (.opsD l (setP d skipped fr) K):=Gy (fr:=fr) (K:=K) (b:=false) ⟨E,T,F⟩ ⟨d,op,some (some t,w),q,s,c⟩ l hg
theorem d_opY {d:Option Tmp} {op:Op} {t:Tmp} {w:Bool} {s:List Bool} {c:Bool} {l:List XOp} (hg:S4 w (lookP fr t)=some true):evP ⟨E,T,F⟩ (.opsD (⟨d,op,some (some t,w),false,s,c⟩ :: l) fr K)=AS ⟨E,T,F⟩ d l fr K (prim E op fr K):=Gy (fr:=fr) (K:=K) (b:=true) ⟨E,T,F⟩ ⟨d,op,some (some t,w),false,s,c⟩ l hg
theorem d_opYQ {d:Option Tmp} {op:Op} {t:Tmp} {w:Bool} {s:List Bool} {c:Bool} {l:List XOp} (hg:S4 w (lookP fr t)=some true):evP ⟨E,T,F⟩ (.opsD (⟨d,op,some (some t,w),true,s,c⟩ :: l) fr K)=DG ⟨E,T,F⟩ d l fr K (prim E op fr ⟨K.os,K.ext,[]⟩):=Gy (fr:=fr) (K:=K) (b:=true) ⟨E,T,F⟩ ⟨d,op,some (some t,w),true,s,c⟩ l hg
def lE (E:Env) (rs:List ResultVar) (r:Option PR):Option PR:=match r with
 | some (.ok .normal fr K)=>(match resP E rs fr K with | some (vs,K)=>some (.val vs K) | none=>none)
 | some (.ok .ret fr K)=>(match resP E rs fr K with | some (vs,K)=>some (.val vs K) | none=>none)
 | some (.pan v K)=>some (.pan v K)
 | _=>none
theorem A8 {f:Nat} {args:List AV} {c:PC} {nt:Nat} {rs:List ResultVar} {b:Bool} (hf:F f=some ⟨c,nt,rs,b⟩) (hn:args.length≤nt):evP ⟨E,T,F⟩ (.body f args K)=lE E rs (evP ⟨E,T,F⟩ (.code c (enterP 0 args) K)):=by
 rw [evP]
 show (match F f with | some p=>_ | none=>_)=_
 rw [hf]
 dsimp only
 rw [if_pos hn]
 cases evP ⟨E,T,F⟩ (.code c (enterP 0 args) K) with
 | none=>rfl
 | some r=>cases r with
  | ok e fr K=>cases e <;> rfl
  | val=>rfl
  | pan=>rfl
theorem B8 {f:Nat} {args:List AV} {g:List AV->Option (List AV)} {as1 rs:List AV} (ht:T f=some g) (hv:viewAs K.os args=some as1) (hg:g as1=some rs) (hok:(okRs rs && ((refsL args).isEmpty || noFL rs))=true):evP ⟨E,T,F⟩ (.call f args K)=some (.val (openTs K.os.length rs).1 ⟨K.os ++ (openTs K.os.length rs).2,K.ext,K.tch⟩):=by
 rw [evP]
 show (match T f with | some g=>_ | none=>_)=_
 rw [ht]
 dsimp only
 unfold tcall
 rw [hv]
 dsimp only
 rw [hg]
 dsimp only
 rw [if_pos hok]
end
end Go.AM
namespace Go.AM
noncomputable section
variable {E:Env} {fr:PF} {K K':PK} {v w x y:AV} {vs:List AV}
theorem lk_hit (i:Nat) (r:PF):lookP ((i,v) :: r) i=v:=by show (if i=i then v else _)=v; rw [if_pos rfl]
theorem lk_cons (i j:Nat) (r:PF):lookP ((i,v) :: r) j=if i=j then v else lookP r j:=rfl
theorem st_some (t:Nat):setP (some t) v fr=(t,v) :: fr:=rfl
theorem st_none:setP none v fr=fr:=rfl
theorem ov_tmp (t:Nat):opvP E (.tmp t) fr=lookP fr t:=rfl
theorem ov_int (k:IntKind) (n:Int):opvP E (.const (.int k n)) fr=.int k n:=rfl
theorem ov_bool (b:Bool):opvP E (.const (.bool b)) fr=.bool b:=rfl
theorem ov_str (s:List UInt8):opvP E (.const (.string ⟨⟨s⟩⟩)) fr=.str s:=rfl
theorem ov_nsl:opvP E (.const (.slice none 0 0)) fr=.nilsl:=rfl
theorem ov_func (f:Nat):opvP E (.func f) fr=.fn (.func f) [] []:=rfl
theorem ol_nil:Ad E [] fr=[]:=rfl
theorem ol_cons (x:Operand) (l:List Operand):Ad E (x :: l) fr=opvP E x fr :: Ad E l fr:=rfl
theorem oq_nil:Ue E [] fr=[]:=rfl
theorem oq_cons (i:Nat) (x:Operand) (l:List (Nat × Operand)):Ue E ((i,x) :: l) fr=(i,opvP E x fr) :: Ue E l fr:=rfl
theorem oo_none:Uf E none fr=none:=rfl
theorem oo_some (x:Operand):Uf E (some x) fr=some (opvP E x fr):=rfl
theorem en_nil (i:Nat):enterP i []=[]:=rfl
theorem en_cons (i:Nat) (l:List AV):enterP i (v :: l)=(i,v) :: enterP (i + 1) l:=rfl
theorem one_1 (v:AV):oneOrTup [v]=v:=rfl
theorem one_0:oneOrTup []=.tup []:=rfl
theorem ofV_some (v:AV):Bs (some v) K=.val v K:=rfl
theorem ofO_some (v:AV) (K':PK):Gd (some (v,K'))=.val v K':=rfl
theorem pr_move (x:Operand):prim E (.move x) fr K=.val (opvP E x fr) K:=rfl
theorem pr_assign (x:Operand):prim E (.assign x) fr K=.val (opvP E x fr) K:=rfl
theorem pr_pick (c a b:Operand):prim E (.pick c a b) fr K=Ge (opvP E c fr) (opvP E a fr) (opvP E b fr) K:=rfl
theorem pick_true (a b:AV):Ge (.bool true) a b K=.val a K:=rfl
theorem pick_false (a b:AV):Ge (.bool false) a b K=.val b K:=rfl
theorem pr_alloc (t:Nat):prim E (.alloc t) fr K=V1 E t fun ti=>.val (.ptr K.os.length 0 0) (newRow 1 [ti.zero] ti.size K):=rfl
theorem pr_box (t:Nat) (x:Operand):prim E (.box t x) fr K=V1 E t fun ti=>kJ ti (opvP E x fr) K:=rfl
theorem pr_build (t:Nat) (ps:Array (Nat × Operand)):prim E (.build t ps) fr K=V1 E t fun ti=>Bs (P0 E ti (Ue E ps.toList fr)) K:=rfl
theorem pr_buildSl (t n:Nat) (ps:Array (Nat × Operand)):prim E (.buildSlice t n ps) fr K=V1 E t fun ti=>match elemOfT E ti.desc with | some te=>Gd (s4 te n (Ue E ps.toList fr) K) | none=>.bad:=rfl
theorem pr_load (t:Nat) (a:Operand):prim E (.load t a) fr K=V1 E t fun ti=>Gd (loadP ti (opvP E a fr) K):=rfl
theorem pr_store (t:Nat) (a x:Operand):prim E (.store t a x) fr K=V1 E t fun ti=>Gd ((storeP ti (opvP E a fr) (opvP E x fr) K).map fun K=>(.und,K)):=rfl
theorem pr_nil (x:Operand):prim E (.nilCheck x) fr K=Bs (S3 (opvP E x fr)) K:=rfl
theorem pr_bin (op:BinOp) (t u:Nat) (x y:Operand):prim E (.binOp op t x y u) fr K=Q3 E op t (opvP E x fr) (opvP E y fr) K:=rfl
theorem pr_un (op:UnOp) (t:Nat) (x:Operand):prim E (.unOp op t x) fr K=Bs (Ir op (opvP E x fr)) K:=rfl
theorem pr_conv (s d:Nat) (x:Operand):prim E (.convert s d x) fr K=V1 E s fun _=>V1 E d fun td=>Bs (M0 td.desc (opvP E x fr)) K:=rfl
theorem pr_fn (f:Fn) (a c:Array Operand):prim E (.makeFunc f a c) fr K=.val (.fn f (Ad E a.toList fr) (Ad E c.toList fr)) K:=rfl
theorem pr_slice (t:Nat) (x:Operand) (lo hi mx:Option Operand):prim E (.slice t x lo hi mx) fr K=V1 E t fun ti=>bif hi.isNone && mx.isSome then .bad else Bs (Of E ti.desc (Uf E lo fr) (Uf E hi fr) (Uf E mx fr) (opvP E x fr)) K:=rfl
theorem pr_fa (t:Nat) (x:Operand) (f:Nat):prim E (.fieldAddr t x f) fr K=V1 E t fun ti=>Bs (I8 E ti f (opvP E x fr)) K:=rfl
theorem pr_ia (t:Nat) (x i:Operand):prim E (.indexAddr t x i) fr K=V1 E t fun ti=>Bs (Gf E ti (opvP E x fr) (opvP E i fr)) K:=rfl
theorem pr_bui (b:Builtin) (args:Array Operand) (ts:Array TypeId):prim E (.call ⟨.builtin b,args,ts⟩) fr K=Gd (I6 E b ts.toList (Ad E args.toList fr) K):=rfl
theorem pr_call (f:Nat) (args:Array Operand) (ts:Array TypeId):prim E (.call ⟨.value (.func f),args,ts⟩) fr K=.call f (Ad E args.toList fr):=by
 show OpS.call f ([] ++ (Ad E args.toList fr ++ []))=_
 rw [List.nil_append,List.append_nil]
theorem pr_callv (t:Nat) (args:Array Operand) (ts:Array TypeId):prim E (.call ⟨.value (.tmp t),args,ts⟩) fr K=Gg (lookP fr t) (Ad E args.toList fr):=rfl
theorem callP_fn (f:Nat) (a c l:List AV):Gg (.fn (.func f) a c) l=.call f (a ++ (l ++ c)):=rfl
theorem bp (op:BinOp) (t:Nat) (hx:Ie x=true) (hy:Ie y=true):Q3 E op t x y K=Bs (K3 op (J2 E t) x y) K:=if_pos ⟨hx,hy⟩
theorem bp_add (t:Nat) (k:IntKind) (a b:Int):Q3 E .add t (.int k a) (.int k b) K=.val (.int k (k.wrap (a + b))) K:=by rw [bp _ _ rfl rfl,zZ]; rfl
theorem bp_sub (t:Nat) (k:IntKind) (a b:Int):Q3 E .sub t (.int k a) (.int k b) K=.val (.int k (k.wrap (a - b))) K:=by rw [bp _ _ rfl rfl,AA]; rfl
theorem bp_mul (t:Nat) (k:IntKind) (a b:Int):Q3 E .mul t (.int k a) (.int k b) K=.val (.int k (k.wrap (a * b))) K:=by rw [bp _ _ rfl rfl,AB]; rfl
theorem bp_eql (t:Nat) (k:IntKind) (a b:Int):Q3 E .eql t (.int k a) (.int k b) K=.val (.bool (decide (a=b))) K:=by rw [bp _ _ rfl rfl,AC]; rfl
theorem bp_neq (t:Nat) (k:IntKind) (a b:Int):Q3 E .neq t (.int k a) (.int k b) K=.val (.bool (!decide (a=b))) K:=by rw [bp _ _ rfl rfl,AD]; rfl
theorem bp_lss (t:Nat) (k:IntKind) (a b:Int):Q3 E .lss t (.int k a) (.int k b) K=.val (.bool (decide (a < b))) K:=by rw [bp _ _ rfl rfl,AE]; rfl
theorem bp_leq (t:Nat) (k:IntKind) (a b:Int):Q3 E .leq t (.int k a) (.int k b) K=.val (.bool (decide (a≤b))) K:=by rw [bp _ _ rfl rfl,AF]; rfl
theorem bp_gtr (t:Nat) (k:IntKind) (a b:Int):Q3 E .gtr t (.int k a) (.int k b) K=.val (.bool (decide (b < a))) K:=by rw [bp _ _ rfl rfl,AG]; rfl
theorem bp_geq (t:Nat) (k:IntKind) (a b:Int):Q3 E .geq t (.int k a) (.int k b) K=.val (.bool (decide (b≤a))) K:=by rw [bp _ _ rfl rfl,AH]; rfl
theorem bp_eqlS (t:Nat) (a b:List UInt8):Q3 E .eql t (.str a) (.str b) K=.val (.bool (decide (a=b))) K:=by rw [bp _ _ rfl rfl,tR]; rfl
theorem bp_neqS (t:Nat) (a b:List UInt8):Q3 E .neq t (.str a) (.str b) K=.val (.bool (!decide (a=b))) K:=by rw [bp _ _ rfl rfl,tS]; rfl
theorem wt_true (b:Bool):S4 true (.bool b)=some b:=rfl
theorem wt_false (b:Bool):S4 false (.bool b)=some (!b):=rfl
theorem wt_skip (w:Bool):S4 w skipped=some false:=rfl
theorem B3 {i:Nat} (h:i < 9223372036854775807):IntKind.i64.wrap ((i:Int) + 1)=((i + 1:Nat):Int):=by
 rw [IntKind.wrap_i64]; omega
def oT (x:AV) (K:PK):Option (AV × PK):=(Vi x).map fun n=>(.int .i64 (Int.ofNat n),K)
theorem ln_fsl (es:List AV) (f:Bool):Gd (oT (.fsl es f) K)=.val (.int .i64 (es.length:Int)) K:=by
 show Gd ((some (lenL es)).map _)=_; rw [A5]; rfl
theorem ln_msl (id off n sz:Nat):Gd (oT (.msl id off n sz) K)=.val (.int .i64 (n:Int)) K:=rfl
def Yb (te:TI) (x i:AV):Option AV:=match asNat i with | some n=>Vk te n x | none=>none
theorem ix_fsl {te:TI} {k:IntKind} {i:Nat} {es:List AV} {f:Bool} (h:es[i]?=some v) (hs:v.cells.length=te.size):Yb te (.fsl es f) (.int k (i:Int))=some (.fptr v 0):=by
 show A4 (Aj es i) (fun v=>A9 (Nat.beq (lenL v.cells) te.size) (some (AV.fptr v 0)))=_
 rw [L7,h]
 show A9 (Nat.beq (lenL v.cells) te.size) (some (AV.fptr v 0))=_
 rw [A5,hs,Nat.beq_refl]; rfl
theorem ix_msl {te:TI} {k:IntKind} {i id off n sz:Nat} (h:i < n) (hs:sz=te.size):Yb te (.msl id off n sz) (.int k (i:Int))=some (.ptr id (off + i) 0):=by
 show A9 (Nat.blt i n && Nat.beq sz te.size) (J1 (Nat.add off i) fun o=>some (AV.ptr id o 0))=_
 rw [B6,hs,Nat.beq_refl,show Nat.blt i n=true from Nat.ble_eq_true_of_le h]; rfl
theorem ld_f (t:TI) (v:AV) (off:Nat):Gd (loadP t (.fptr v off) K)=Bs (partOf t v.cells off) K:=by
 show Gd ((partOf t v.cells off).map (·,K))=_
 cases partOf t v.cells off <;> rfl
def DH (id i off:Nat) (K:PK) (w:Option AV):OpS:=match w with | some w=>.val (Od id i off w K).1 (Od id i off w K).2 | none=>.bad
def DI (t:TI) (id i off:Nat) (K:PK) (v:Option AV):OpS:=match v with | some v=>DH id i off K (partOf t v.cells off) | none=>.bad
def LD (t:TI) (id i off:Nat) (K:PK) (r:Option (Nat × List AV × Nat)):OpS:=match r with | some (_,es,_)=>DI t id i off K es[i]? | none=>.bad
theorem ld_p (t:TI) (id i off:Nat):Gd (loadP t (.ptr id i off) K)=LD t id i off K (rowOf K.os 6 id):=by
 show Gd (match rowOf K.os 6 id with | some (_,es,_)=>_ | none=>none)=_
 cases rowOf K.os 6 id with
 | none=>rfl
 | some q =>
  obtain ⟨k,es,z⟩:=q
  show Gd (match es[i]? with | some v=>_ | none=>none)=DI t id i off K es[i]?
  cases es[i]? with
  | none=>rfl
  | some v =>
   show Gd (match partOf t v.cells off with | some w=>_ | none=>none)=DH id i off K (partOf t v.cells off)
   cases partOf t v.cells off <;> rfl
theorem ldR_some (t:TI) (id i off k z:Nat) (es:List AV):LD t id i off K (some (k,es,z))=DI t id i off K es[i]?:=rfl
theorem ldE_some (t:TI) (id i off:Nat):DI t id i off K (some v)=DH id i off K (partOf t v.cells off):=rfl
end
end Go.AM
namespace Go.AM
noncomputable section
variable {E:Env} {fr:PF} {K K':PK} {v w x y:AV} {vs es:List AV} {te:TI} {os:List PO}
theorem tb_nil:takeB te .nilsl os=some ([],os,[]):=rfl
def HN (te:TI) (id off n sz:Nat) (os:List PO) (e:Option PO):Option (List AV × List PO × List Nat):=match e with
 | some (.row k es z)=>if k=0∧z=te.size∧sz=z∧off + n≤es.length then some ((es.drop off).take n,(killP os id []).set id .dead,[id]) else none
 | some (.sub p i o)=>takeB te (.msl id off n sz) os
 | _=>none
theorem tb_eq (id off n sz:Nat):takeB te (.msl id off n sz) os=HN te id off n sz os os[id]?:=by
 cases h:os[id]? with
 | none =>
  unfold takeB
  have:rowOf os 6 id=none:=by unfold rowOf; rw [h]
  simp only [this]; rfl
 | some e =>
  cases e with
  | row k es z =>
   unfold takeB
   have:rowOf os 6 id=some (k,es,z):=by unfold rowOf; rw [h]
   simp only [this,h]
   rfl
  | mapo m =>
   unfold takeB
   have:rowOf os 6 id=none:=by unfold rowOf; rw [h]
   simp only [this]; rfl
  | dead =>
   unfold takeB
   have:rowOf os 6 id=none:=by unfold rowOf; rw [h]
   simp only [this]; rfl
  | sub p i o=>rfl
theorem tbE_row {id n sz z:Nat} (h1:z=te.size) (h2:sz=z) (h3:n=es.length):HN te id 0 n sz os (some (.row 0 es z))=some (es,(killP os id []).set id .dead,[id]):=by
 unfold HN
 simp only
 rw [if_pos ⟨trivial,h1,h2,by omega⟩,h3,List.drop_zero,List.take_length]
def uK (te:TI) (id n sz ext:Nat) (tc:List Nat) (os:List PO) (e:Option PO) (d:Option (List AV × List PO)):Option (List AV × List PO):=match e with
 | some (.row 0 es z)=>if z=te.size∧sz=z∧n=es.length then (match flatT te with
  | true=>if Rm es=true then some (es,os) else none
  | false=>if ext≤id∧¬ id∈tc then some (es,(killP os id []).set id .dead) else none) else d
 | _=>d
def LU (te:TI) (id n sz ext:Nat) (tc:List Nat) (os:List PO):Option (List AV × List PO):=takeE te (.msl id 0 n sz) ext tc os
theorem te_eq (id n sz ext:Nat) (tc:List Nat):takeE te (.msl id 0 n sz) ext tc os=uK te id n sz ext tc os os[id]? (LU te id n sz ext tc os):=by
 unfold uK
 split
 . rename_i es z h
   split
   . rename_i hc
     obtain ⟨h1,h2,h3⟩:=hc
     have hr:rowOf os 6 id=some (0,es,z):=by unfold rowOf; rw [h]
     unfold takeE
     simp only [hr,h]
     rw [if_pos ⟨trivial,h1,h2,by omega⟩,h3,List.drop_zero,List.take_length]
     cases flatT te with
     | true=>rfl
     | false =>
      simp only
      by_cases hc:ext≤id∧¬ id∈tc
      . rw [if_pos hc,if_pos ⟨trivial,trivial,hc⟩]
      . rw [if_neg hc,if_neg fun h=>hc h.2.2]
   . rfl
 . rfl
theorem teE_flat {id n sz z ext:Nat} {tc:List Nat} {d:Option (List AV × List PO)} (hf:flatT te=true) (h1:z=te.size) (h2:sz=z) (h3:n=es.length) (he:Rm es=true):uK te id n sz ext tc os (some (.row 0 es z)) d=some (es,os):=by
 unfold uK
 simp only
 rw [if_pos ⟨h1,h2,h3⟩,hf]
 exact if_pos he
theorem teE_row {id n sz z ext:Nat} {tc:List Nat} {d:Option (List AV × List PO)} (hf:flatT te=false) (h1:z=te.size) (h2:sz=z) (h3:n=es.length) (hx:ext≤id) (hc:¬ id∈tc):uK te id n sz ext tc os (some (.row 0 es z)) d=some (es,(killP os id []).set id .dead):=by
 unfold uK
 simp only
 rw [if_pos ⟨h1,h2,h3⟩,hf]
 exact if_pos ⟨hx,hc⟩
theorem te_fsl {f:Bool} {ext:Nat} {tc:List Nat} (h:G7 te.size es=true):takeE te (.fsl es f) ext tc os=some (es,os):=if_pos h
def tX (te:TI) (s:AV) (K:PK) (base:List AV) (tc:List Nat) (r:Option (List AV × List PO)):Option (AV × PK):=match r with
 | some (xs,os2)=>if (!xs.isEmpty || wholeP s K.os)=true then joinP te base xs os2 tc K else none
 | none=>none
def HO (te:TI) (s x:AV) (K:PK) (r:Option (List AV × List PO × List Nat)):Option (AV × PK):=match r with
 | some (base,os1,tc)=>tX te s K base tc (takeE te x K.ext tc os1)
 | none=>none
theorem ap_eq (s x:AV):j6 te s x K=HO te s x K (takeB te s K.os):=by
 unfold j6 HO
 cases takeB te s K.os with
 | none=>rfl
 | some q =>
  obtain ⟨base,os1,tc⟩:=q
  show (match takeE te x K.ext tc os1 with | some (xs,os2)=>_ | none=>none)=tX te s K base tc (takeE te x K.ext tc os1)
  cases takeE te x K.ext tc os1 with
  | none=>rfl
  | some q=>rfl
theorem ap1_some {s x:AV} (base:List AV) (os1:List PO) (tc:List Nat):HO te s x K (some (base,os1,tc))=tX te s K base tc (takeE te x K.ext tc os1):=rfl
theorem ap2_some {s:AV} {base xs:List AV} {os2:List PO} {tc:List Nat} (h0:xs.isEmpty=false) (hz:(base.length + xs.length) * te.bytes≤140737488355328) :
 tX te s K base tc (some (xs,os2))=some (.msl os2.length 0 (base.length + xs.length) te.size,⟨os2 ++ [.row 0 (base ++ xs) te.size],K.ext,os2.length :: tc ++ K.tch⟩):=by
 unfold tX
 simp only [h0]
 rw [if_pos (by rfl)]
 exact if_pos hz
end
end Go.AM
namespace Go.AM
noncomputable section
variable {E:Env} {fr:PF} {K K':PK} {v w x y c:AV} {vs es cs:List AV} {te:TI} {os l:List PO} {ids:List Nat}
theorem cl_int (k:IntKind) (n:Int):clo (.int k n)=true:=rfl
theorem cl_bool (b:Bool):clo (.bool b)=true:=rfl
theorem cl_str (b:List UInt8):clo (.str b)=true:=rfl
theorem cl_own (k sz:Nat):clo (ownd k sz es)=false:=rfl
theorem cl_msl (a b d e:Nat):clo (.msl a b d e)=false:=rfl
theorem ag_int (k:IntKind) (n:Int):Oe (.int k n)=false:=rfl
theorem ag_agg:Oe (.agg cs)=true:=rfl
theorem cl_nsl:clo .nilsl=true:=rfl
theorem ce_int (k:IntKind) (n:Int):AV.cells (.int k n)=[.int k n]:=rfl
theorem ce_bool (b:Bool):AV.cells (.bool b)=[.bool b]:=rfl
theorem ce_str (b:List UInt8):AV.cells (.str b)=[.str b]:=rfl
theorem ce_agg:AV.cells (.agg cs)=cs:=rfl
theorem ce_nsl:AV.cells .nilsl=[.nilsl]:=rfl
theorem ce_msl (a b d e:Nat):AV.cells (.msl a b d e)=[.msl a b d e]:=rfl
theorem ce_own (k sz:Nat):AV.cells (ownd k sz es)=[ownd k sz es]:=rfl
theorem fl_nil:Rm []=true:=rfl
theorem fl_cons:Rm (v :: es)=(v.cells.all clo && Rm es):=rfl
def tY (c:Option AV):Option (Nat × List AV × Nat):=match c with | some c=>ownOf c | none=>none
def DJ (o:Nat) (v:Option AV):Option (Nat × List AV × Nat):=match v with | some v=>tY v.cells[o]? | none=>none
def DK (i o:Nat) (r:Option (Nat × List AV × Nat)):Option (Nat × List AV × Nat):=match r with | some (_,es,_)=>DJ o es[i]? | none=>none
def uL (os:List PO) (n:Nat) (e:Option PO):Option (Nat × List AV × Nat):=match e with | some (.row k es sz)=>some (k,es,sz) | some (.sub p i o)=>DK i o (rowOf os n p) | _=>none
theorem lF (os:List PO) (n id:Nat):rowOf os (n + 1) id=uL os n os[id]?:=by
 conv=>lhs; unfold rowOf
 cases os[id]? with
 | none=>rfl
 | some e=>cases e with
  | sub p i o =>
   show (match rowOf os n p with | some (_,es,_)=>_ | none=>none)=DK i o (rowOf os n p)
   cases rowOf os n p with
   | none=>rfl
   | some q =>
    obtain ⟨k,es,z⟩:=q
    show (match es[i]? with | some v=>_ | none=>none)=DJ o es[i]?
    cases es[i]? with
    | none=>rfl
    | some v =>
     show (match v.cells[o]? with | some c=>_ | none=>none)=tY v.cells[o]?
     cases v.cells[o]? <;> rfl
  | _=>rfl
theorem ro6 (os:List PO) (id:Nat):rowOf os 6 id=uL os 5 os[id]?:=lF os 5 id
theorem rwE_row (n k sz:Nat):uL os n (some (.row k es sz))=some (k,es,sz):=rfl
theorem rwE_sub (n p i o:Nat):uL os n (some (.sub p i o))=DK i o (rowOf os n p):=rfl
theorem rwS_some (i o k z:Nat):DK i o (some (k,es,z))=DJ o es[i]?:=rfl
theorem rwC_some (o:Nat):DJ o (some v)=tY v.cells[o]?:=rfl
theorem rwD_some:tY (some c)=ownOf c:=rfl
theorem ow_own (k sz:Nat):ownOf (ownd k sz es)=some (k,es,sz):=rfl
def HP (os:List PO) (n id:Nat) (e:Option PO):Nat:=match e with | some (.sub p _ _)=>rootOf os n p | _=>id
theorem rt_eq (os:List PO) (n id:Nat):rootOf os (n + 1) id=HP os n id os[id]?:=rfl
theorem rtE_row (n id k sz:Nat):HP os n id (some (.row k es sz))=id:=rfl
theorem rtE_sub (n id p i o:Nat):HP os n id (some (.sub p i o))=rootOf os n p:=rfl
def HQ (os:List PO) (n:Nat) (e:Option PO):List Nat:=match e with | some (.sub p _ _)=>chainOf os n p | _=>[]
theorem ch_eq (os:List PO) (n id:Nat):chainOf os (n + 1) id=id :: HQ os n os[id]?:=rfl
theorem chE_row (n k sz:Nat):HQ os n (some (.row k es sz))=[]:=rfl
theorem chE_sub (n p i o:Nat):HQ os n (some (.sub p i o))=chainOf os n p:=rfl
theorem kp_eq (r:Nat) (keep:List Nat):killP os r keep=Q2 os r keep 0 os:=rfl
theorem kg_nil (r j:Nat) (keep:List Nat):Q2 os r keep j []=[]:=rfl
theorem kg_row (r j k sz:Nat) (keep:List Nat):Q2 os r keep j (.row k es sz :: l)=.row k es sz :: Q2 os r keep (j + 1) l:=rfl
theorem kg_dead (r j:Nat) (keep:List Nat):Q2 os r keep j (.dead :: l)=.dead :: Q2 os r keep (j + 1) l:=rfl
theorem kg_sub (r j p i o:Nat) (keep:List Nat):Q2 os r keep j (.sub p i o :: l)=(if rootOf os 6 j=r∧¬ j∈keep then PO.dead else .sub p i o) :: Q2 os r keep (j + 1) l:=rfl
def tZ (ids:List Nat) (fr:PF):List Nat->PF
 | []=>[]
 | i :: l=>(i,G2 (posOf ids) (lookP fr i)) :: tZ ids fr l
def rY (ids:List Nat) (os:List PO):List Nat->List PO
 | []=>[]
 | i :: l=>renPO (posOf ids) (entryAt os i) :: rY ids os l
theorem lG (ids:List Nat) (fr:PF):∀ keep:List Nat,(keep.map fun i=>(i,G2 (posOf ids) (lookP fr i)))=tZ ids fr keep
 | []=>rfl
 | i :: l=>congrArg (List.cons _) (lG ids fr l)
theorem bD (ids:List Nat) (os:List PO):∀ l:List Nat,(l.map fun i=>renPO (posOf ids) (entryAt os i))=rY ids os l
 | []=>rfl
 | i :: l=>congrArg (List.cons _) (bD ids os l)
theorem mf_nil:tZ ids fr []=[]:=rfl
theorem mf_cons (i:Nat) (l:List Nat):tZ ids fr (i :: l)=(i,G2 (posOf ids) (lookP fr i)) :: tZ ids fr l:=rfl
theorem mo_nil:rY ids os []=[]:=rfl
theorem mo_cons (i:Nat) (l:List Nat):rY ids os (i :: l)=renPO (posOf ids) (entryAt os i) :: rY ids os l:=rfl
def LE (k:List Nat) (fr:PF) (ids:List Nat):PF:=tZ ids fr k
def LF (K:PK) (ids:List Nat):PK:=⟨rY ids K.os ids,K.ext,K.tch.filter (· < K.ext)⟩
theorem mp_1 (k:List Nat):(Q8 k fr K).1=LE k fr (markIds k fr K):=lG _ _ _
theorem mp_2 (k:List Nat):(Q8 k fr K).2=LF K (markIds k fr K):=by
 show PK.mk _ _ _=PK.mk _ _ _
 congr 1
 exact bD _ _ _
theorem mk1_eq (k:List Nat):LE k fr ids=tZ ids fr k:=rfl
theorem mk2_eq:LF K ids=⟨rY ids K.os ids,K.ext,K.tch.filter (· < K.ext)⟩:=rfl
def DL (e:Option PO):List Nat:=match e with | some (.sub p _ _)=>[p] | e=>Ug e
theorem sm_eq (id:Nat):Og os id=DL os[id]?:=rfl
theorem smE_row (sz:Nat):DL (some (.row 0 es sz))=[]:=rfl
theorem smE_row1 (sz:Nat):DL (some (.row 1 es sz))=refsL es:=rfl
theorem smE_sub (p i o:Nat):DL (some (.sub p i o))=[p]:=rfl
def uM (fr:PF):List Nat->List Nat
 | []=>[]
 | i :: l=>M8 (lookP fr i) ++ uM fr l
theorem lH (fr:PF):∀ keep:List Nat,refsL (keep.map (lookP fr))=uM fr keep
 | []=>rfl
 | i :: l=>congrArg (List.append _) (lH fr l)
theorem mi_eq (k:List Nat):markIds k fr K=R6 (Og K.os) 64 ((List.range K.ext).flatMap (Og K.os) ++ uM fr k) (List.range K.ext):=by
 unfold markIds; rw [lH]
theorem rs_nil:uM fr []=[]:=rfl
theorem rs_cons (i:Nat) (l:List Nat):uM fr (i :: l)=M8 (lookP fr i) ++ uM fr l:=rfl
theorem rg_0:List.range 0=[]:=rfl
theorem rg_1:List.range 1=[0]:=rfl
theorem rg_2:List.range 2=[0,1]:=rfl
theorem rp_nil (s:Nat->List Nat) (n:Nat) (acc:List Nat):R6 s n [] acc=acc:=by cases n <;> rfl
theorem rp_cons (s:Nat->List Nat) (n id:Nat) (t acc:List Nat):R6 s (n + 1) (id :: t) acc=if id∈acc then R6 s n t acc else R6 s n (t ++ s id) (acc ++ [id]):=rfl
theorem po_cons (j id:Nat) (r:List Nat):posOf (j :: r) id=if j=id then some 0 else (posOf r id).map (· + 1):=rfl
def LG (q:Option Nat) (off n sz:Nat):AV:=match q with | some j=>.msl j off n sz | none=>.und
def LH (q:Option Nat) (i o:Nat):AV:=match q with | some j=>.ptr j i o | none=>.und
variable {σ:Nat->Option Nat}
theorem rv_int (k:IntKind) (n:Int):G2 σ (.int k n)=.int k n:=rfl
theorem rv_bool (b:Bool):G2 σ (.bool b)=.bool b:=rfl
theorem rv_str (b:List UInt8):G2 σ (.str b)=.str b:=rfl
theorem rv_agg:G2 σ (.agg cs)=.agg (renL σ cs):=rfl
theorem rv_fsl (f:Bool):G2 σ (.fsl es f)=.fsl es f:=rfl
theorem rv_msl (id off n sz:Nat):G2 σ (.msl id off n sz)=LG (σ id) off n sz:=rfl
theorem rv_ptr (id i o:Nat):G2 σ (.ptr id i o)=LH (σ id) i o:=rfl
theorem rv_nsl:G2 σ .nilsl=.nilsl:=rfl
theorem rv_fn (f:Fn) (a b:List AV):G2 σ (.fn f a b)=.fn f (renL σ a) (renL σ b):=rfl
theorem rl_nil:renL σ []=[]:=rfl
theorem rl_cons (l:List AV):renL σ (v :: l)=G2 σ v :: renL σ l:=rfl
theorem rnM_some (j off n sz:Nat):LG (some j) off n sz=.msl j off n sz:=rfl
theorem rnP_some (j i o:Nat):LH (some j) i o=.ptr j i o:=rfl
def LI (e:Option PO):PO:=match e with | some e=>e | none=>.dead
theorem et_eq (id:Nat):entryAt os id=LI os[id]?:=rfl
theorem enE_some (e:PO):LI (some e)=e:=rfl
def LJ (q:Option Nat) (i o:Nat):PO:=match q with | some j=>.sub j i o | none=>.dead
theorem rp_row (sz:Nat):renPO σ (.row 0 es sz)=.row 0 es sz:=rfl
theorem rp_row1 (sz:Nat):renPO σ (.row 1 es sz)=.row 1 (renL σ es) sz:=rfl
theorem rp_sub (p i o:Nat):renPO σ (.sub p i o)=LJ (σ p) i o:=rfl
theorem rnS_some (j i o:Nat):LJ (some j) i o=.sub j i o:=rfl
theorem rf_int (k:IntKind) (n:Int):M8 (.int k n)=[]:=rfl
theorem rf_bool (b:Bool):M8 (.bool b)=[]:=rfl
theorem rf_str (b:List UInt8):M8 (.str b)=[]:=rfl
theorem rf_agg:M8 (.agg cs)=refsL cs:=rfl
theorem rf_fsl (f:Bool):M8 (.fsl es f)=[]:=rfl
theorem rf_msl (id off n sz:Nat):M8 (.msl id off n sz)=[id]:=rfl
theorem rf_ptr (id i o:Nat):M8 (.ptr id i o)=[id]:=rfl
theorem rf_nsl:M8 .nilsl=[]:=rfl
theorem rf_fn (f:Fn) (a b:List AV):M8 (.fn f a b)=refsL a ++ refsL b:=rfl
theorem rfl_nil:refsL []=[]:=rfl
theorem rfl_cons (l:List AV):refsL (v :: l)=M8 v ++ refsL l:=rfl
theorem bk_nil (rs:List AV):M9 [] rs os=([],os):=rfl
theorem bk_cons (rs:List AV) (r:AV):M9 (v :: vs) (r :: rs) os=((S9 v r os).1 :: (M9 vs rs (S9 v r os).2).1,(M9 vs rs (S9 v r os).2).2):=rfl
theorem bv_eq (r:AV):S9 v r os=(L8 v (J0 v.cells r.cells os).1,(J0 v.cells r.cells os).2):=rfl
theorem bs_nil (rs:List AV):J0 [] rs os=([],os):=rfl
theorem bs_cons (rs:List AV) (r:AV):J0 (v :: vs) (r :: rs) os=((Q4 v r os).1 :: (J0 vs rs (Q4 v r os).2).1,(J0 vs rs (Q4 v r os).2).2):=rfl
theorem bc_msl (a b d e:Nat) (r:AV):Q4 (.msl a b d e) r os=(.msl a b d e,os):=rfl
theorem bc_int (k:IntKind) (n:Int) (r:AV):Q4 (.int k n) r os=(.int k n,os):=rfl
theorem bc_str (b:List UInt8) (r:AV):Q4 (.str b) r os=(.str b,os):=rfl
theorem lv_agg (a:List AV):L8 (.agg a) cs=.agg cs:=rfl
theorem lv_msl (a b d e:Nat):L8 (.msl a b d e) cs=cs.headD .und:=rfl
theorem lv_int (k:IntKind) (n:Int):L8 (.int k n) cs=cs.headD .und:=rfl
theorem lv_bool (b:Bool):L8 (.bool b) cs=cs.headD .und:=rfl
theorem lv_str (b:List UInt8):L8 (.str b) cs=cs.headD .und:=rfl
theorem lv_own (k sz:Nat):L8 (ownd k sz es) cs=cs.headD .und:=rfl
theorem lv_nsl:L8 .nilsl cs=cs.headD .und:=rfl
theorem hd_cons:(v :: es).headD w=v:=rfl
theorem os_nil (n:Nat):openTs n []=([],[]):=rfl
theorem os_cons (n:Nat):openTs n (v :: vs)=(L8 v (openT n v.cells).1 :: (openTs (n + (openT n v.cells).2.length) vs).1,(openT n v.cells).2 ++ (openTs (n + (openT n v.cells).2.length) vs).2):=rfl
theorem ot_nil (n:Nat):openT n []=([],[]):=rfl
theorem ot_own (n sz:Nat):openT n (ownd 0 sz es :: cs)=(.msl n 0 es.length sz :: (openT (n + 1) cs).1,.row 0 es sz :: (openT (n + 1) cs).2):=rfl
theorem ot_int (m:Nat) (k:IntKind) (n:Int):openT m (.int k n :: cs)=(.int k n :: (openT m cs).1,(openT m cs).2):=rfl
theorem ot_bool (m:Nat) (b:Bool):openT m (.bool b :: cs)=(.bool b :: (openT m cs).1,(openT m cs).2):=rfl
theorem ot_str (m:Nat) (b:List UInt8):openT m (.str b :: cs)=(.str b :: (openT m cs).1,(openT m cs).2):=rfl
theorem B7 {os' ps:List PO} {vs vs' us rs:List AV} (h1:M9 vs rs os=(vs',os')) (h2:(refsL vs').Nodup) (h3:openTs 0 rs=(us,ps)) (h4:renL (posOf (refsL vs')) vs'=us) (h5:rY (refsL vs') os' (refsL vs')=ps):backOk vs rs os:=by
 refine ⟨?_,?_,?_⟩
 . rw [h1]; exact h2
 . rw [h1,h3]; exact h4
 . rw [h1,h3]
   rw [← h5,← bD]
theorem va_nil:viewAs os []=some []:=rfl
theorem va_cons:viewAs os (v :: vs)=D2 (viewA os v) (viewAs os vs):=rfl
theorem co_some (t:List AV):D2 (some v) (some t)=some (v :: t):=rfl
theorem vv_int (k:IntKind) (n:Int):viewA os (.int k n)=some (.int k n):=rfl
theorem vv_bool (b:Bool):viewA os (.bool b)=some (.bool b):=rfl
theorem wv_int (k:IntKind) (n:Int):z7 os (.int k n)=some (.int k n):=rfl
theorem wv_str (b:List UInt8):z7 os (.str b)=some (.str b):=rfl
def HR (l:Option (List AV)):Option AV:=match l with | some cs=>some (.agg cs) | none=>none
theorem agO_some:HR (some cs)=some (.agg cs):=rfl
theorem vv_agg:viewA os (.agg cs)=HR (viewL os cs):=rfl
theorem vl_nil:viewL os []=some []:=rfl
theorem vl_cons:viewL os (v :: vs)=D2 (z7 os v) (viewL os vs):=rfl
def Uq (l:Option (List AV)):Option AV:=match l with | some es=>some (fslN es) | none=>none
theorem fsO_some:Uq (some es)=some (fslN es):=rfl
def DM (off n sz:Nat) (r:Option (Nat × List AV × Nat)):Option AV:=match r with
 | some (k,es,z)=>if k=0∧sz=z∧off + n≤es.length then Uq (frzL ((es.drop off).take n)) else none
 | none=>none
theorem vv_msl (id off n sz:Nat):viewA os (.msl id off n sz)=DM off n sz (rowOf os 6 id):=by
 show (match rowOf os 6 id with | some (k,es,z)=>_ | none=>none)=_
 cases rowOf os 6 id <;> rfl
theorem wv_msl (id off n sz:Nat):z7 os (.msl id off n sz)=DM off n sz (rowOf os 6 id):=vv_msl id off n sz
theorem vmE_some {n sz z:Nat} (h1:sz=z) (h2:n=es.length):DM 0 n sz (some (0,es,z))=Uq (frzL es):=by
 unfold DM
 simp only
 rw [if_pos ⟨trivial,h1,by omega⟩,h2,List.drop_zero,List.take_length]
theorem fz_nil:frzL []=some []:=rfl
theorem fz_cons:frzL (v :: vs)=D2 (frzC v) (frzL vs):=rfl
theorem fz_int (k:IntKind) (n:Int):frzC (.int k n)=some (.int k n):=rfl
theorem fz_str (b:List UInt8):frzC (.str b)=some (.str b):=rfl
theorem fz_agg:frzC (.agg cs)=HR (frzL cs):=rfl
theorem fz_own (sz:Nat):frzC (ownd 0 sz es)=Uq (frzL es):=rfl
theorem nf_int (k:IntKind) (n:Int):noF (.int k n)=true:=rfl
theorem nf_bool (b:Bool):noF (.bool b)=true:=rfl
theorem nf_str (b:List UInt8):noF (.str b)=true:=rfl
theorem nf_agg:noF (.agg cs)=noFL cs:=rfl
theorem nf_own (sz:Nat):noF (ownd 0 sz es)=noFL es:=rfl
theorem nfl_nil:noFL []=true:=rfl
theorem nfl_cons:noFL (v :: es)=(noF v && noFL es):=rfl
theorem or_nil:okRs []=true:=rfl
theorem or_cons:okRs (v :: vs)=(v.cells.all (fun c=>(ownOf c).isSome || clo c) && okRs vs):=rfl
theorem on_int (k:IntKind) (n:Int):ownOf (.int k n)=none:=rfl
theorem on_bool (b:Bool):ownOf (.bool b)=none:=rfl
theorem on_str (b:List UInt8):ownOf (.str b)=none:=rfl
end
end Go.AM
