/- The tree machine: code as trees, memory by kept numbers, and that it says what the machine does. Conditions: none. -/
import Derived.Test.YtdjkjmdggoejcaaPmA
set_option linter.unusedVariables false
set_option linter.unusedSimpArgs false
set_option linter.unusedSectionVars false
set_option linter.defProp false
set_option maxHeartbeats 4000000
open List renaming length→lz
open Option renaming some→zsq,none→znq
open Bool renaming true→zt,false→zf
open List renaming getElem?_eq_getElem→zqa,mem_of_getElem?→zqb,getElem?_eq_some_iff→zqc,replicate→zqd,getElem?_of_mem→zqe,all_eq_true→zqf,getElem?_map→zqg,eq_nil_of_length_eq_zero→zqh,mem_cons_self→zqi,mem_cons→zqj,mem_append→zqk,append_nil→zql,mem_map→zqm,getElem_mem→zqn,mem_replicate→zqo,mem_cons_of_mem→zqp,getElem?_append_left→zqq,mem_filter→zqr,mem_singleton→zqs,append_eq_nil_iff→zqt,getElem?_take→zqu,nodup_cons→zqv,getElem?_append_right→zqw,getElem?_drop→zqx,mem_append_left→zqy,getD_eq_getElem?_getD→zqz,length_eq_one_iff→zka
open Bool renaming and_eq_true_iff→zkb,and_eq_true→zkc,or_eq_true_iff→zkd
open Nat renaming le_refl→zke,lt_of_lt_of_le→zkf,ble_eq_true_of_le→zkg,beq_refl→zkh,le_trans→zki,eq_of_beq_eq_true→zkj
namespace Go.AM
section
variable {E:Env}{R:AV->AV->Prop}{Z Z':Nat->Prop}{ow ow' ow1 ow2:Nat->Option (List Nat)}{h h':Vg}{K K':PK}{os os' os1 os2:List PO}{x y xc yc v:AV}{L M:List Nat}
theorem vI{f:IntKind->Int->Int->Option AV}(B:VR Z ow h os xc x)(C:VR Z ow h os yc y)(e:u4 x y f=zsq v):u4 xc yc f=zsq v:=by
 obtain⟨k,n,rfl,e1⟩:=B6 e;obtain⟨k',m,rfl,_⟩:=B6 e1;rw[B.isI,C.isI];exact e
def Bg(v:AV):Bool:=match v with | .int _ _=>zt | .bool _=>zt | .str _=>zt|_=>zf
theorem Vt(e:Bg v=zt):VR Z ow h os v v:=by
 cases v<;>first|exact .i _ _|exact .b _|exact .fz (.str _)|cases e
theorem ik{k:IntKind}{n:Int}(e:Im k n=zsq v):Bg v=zt:=by rw[Im,Ns]at e;cases e;rfl
theorem Y6{b:Bool}(e:F8 b=zsq v):Bg v=zt:=by cases b<;>cases e<;>rfl
theorem vJ{z:AV}(B:VR Z ow h os xc x)(e:Xu z x=zt):xc=x:=by
 cases z with
 |int j _=>cases x<;>first|exact B.isI|cases e
 |bool _=>cases x<;>first|exact B.isB|cases e
 |str _=>cases x<;>first|exact B.isS|cases e
 |_=>cases e
theorem gQ:∀(z xs ys:List AV),VL Z ow h os xs ys->Dk z ys=zt->xs=ys
 |[],xs,ys,hl,e=>by
  cases ys with
  |nil=>exact zqh hl.1
  |cons=>cases e
 |z :: zs,xs,ys,hl,e=>by
  cases ys with
  |nil=>cases e
  |cons y ys=>
   cases xs with
   |nil=>have:=hl.1;simp at this
   |cons x xs=>
    have e:(bif Xu z y then Dk zs ys else zf)=zt:=e;cases h1:Xu z y with
    |false=>grind
    |true=>
     rw[h1]at e;rw[vJ hl.inv.1 h1,gQ zs xs ys hl.inv.2 e]
theorem Zu{k:EqK}{b:Bool}(B:VR Z ow h os xc x)(C:Ot x=zt)(e:s4 k x=zsq b):s4 k xc=zsq b:=by
 cases k with
 |slc=>
  cases x with
  |x0a=>rw[B.isN];exact e
  |msl=>cases C
  |fsl es f=>
   cases B with
   |fz z=>
    cases z with
    |emp em=>cases e
    |fsl h1 h2 D=>
     rename_i es0 f0;cases es with
     |nil=>
      have:es0=[]:=zqh h1
      subst this;rw[D];cases f with
      |true=>cases e
      |false=>exact e
     |cons=>
      cases es0 with
      |nil=>simp at h1
      |cons=>exact e
    |view=>
     have:b=zf:=by
      cases es with
      |nil=>cases f<;>cases e;rfl
      |cons=>cases e;rfl
     subst this;rfl
  |_=>cases e
 |ptr=>
  cases x with
  |x0c=>cases B with|fz z=>cases z;exact e
  | ptr=>cases B with
   |fz z=>cases z
   |ptr=>exact e
  |fptr=>cases B with|fz z=>cases z<;>exact e
  |_=>cases e
 |map=>
  cases x with
  |x0d=>cases B with|fz z=>cases z;exact e
  | map=>cases B with
   |fz z=>cases z
   |map=>exact e
  |_=>cases e
 |ifc=>
  cases x with
  |x0b=>cases B with|fz z=>cases z;exact e
  | iface=>cases B with
   |fz z=>cases z
   |iface=>exact e
  |_=>cases e
 |_=>cases e
theorem pX{k:EqK}{b:Bool}(hx:VR Z ow h os xc x)(G:VR Z ow h os yc y)(hmx:Ot x=zt)(C:Ot y=zt)(e:Ei k x y=zsq b):Ei k xc yc=zsq b:=by
 unfold Ei at e|-;cases B:s4 k y with
 |none=>rw[B]at e;cases e
 |some c=>
  rw[B]at e;rw[Zu G C B];cases D:s4 k x with
  |none=>rw[D]at e;cases c<;>cases e
  |some d=>grind[Zu]
def GF(v:AV):Bool:=match v with | .agg _=>zt | .int _ _=>zt | .bool _=>zt | .str _=>zt|_=>zf
theorem yW{k:EqK}{z:AV}(hz:GF z=zf):rG k z yc=Ei k z yc:=by cases z<;>first|rfl|cases hz
theorem vK(C:VR Z ow h os xc x)(hu:x≠.und)(hz:GF x=zf):GF xc=zf:=by
 cases C with
 |und=>grind
 |mnil B=>rcases B with rfl|rfl<;>rfl
 |agg=>cases hz
 |fz f=>
  cases f with
  |emp B=>cases B<;>rfl
  |agg=>cases hz
  |int=>cases hz
  |bool=>cases hz
  |str=>cases hz
  |_=>rfl
 |_=>rfl
theorem nJ{k:EqK}{b:Bool}(B:VR Z ow h os xc x)(C:VR Z ow h os yc y)(D:Ot x=zt)(G:Ot y=zt)(e:rG k x y=zsq b):rG k xc yc=zsq b:=by
 cases x with
 |agg a=>
  obtain⟨c,rfl,e1⟩:=x4 e;obtain⟨I,rfl,ha⟩:=B.agI;obtain⟨J,rfl,hc⟩:=C.agI;have e1:rB k a c=zsq b:=e1;show rB k I J=zsq b
  cases k with
  |flat z=>
   have e1:B5 (Dk z a&&Dk z c) (NS a c)=zsq b:=e1;obtain⟨h1,_⟩:=A6 e1;rw[zkc]at h1;grind[gQ]
  |_=>cases e1
 |bool a=>obtain⟨c,rfl,_⟩:=Aj e;rw[B.isB,C.isB];exact e
 |int j a=>obtain⟨_,c,rfl,_⟩:=B6 e;rw[B.isI,C.isI];exact e
 |str a=>obtain⟨c,rfl,_⟩:=K8 e;rw[B.isS,C.isS];exact e
 | und=>unfold rG Ei at e;cases h1:s4 k y with
  |none=>simp only[h1]at e;cases e
  |some c=>simp only[h1]at e;cases c<;>(cases k<;>cases e)
 |_=>
  have H:=pX B C D G e;rw[yW (vK B (by grind) rfl)];exact H
theorem kY{op:BinOp}{k:EqK}(C:VR Z ow h os xc x)(G:VR Z ow h os yc y)(hmx:Ot x=zt)(hmy:Ot y=zt)(e:Q7 op k x y=zsq v):Q7 op k xc yc=zsq v/\Bg v=zt:=by
 have B:∀f:IntKind->Int->Int->Option AV,(∀k a b v,f k a b=zsq v->Bg v=zt)->u4 x y f=zsq v->u4 xc yc f=zsq v/\Bg v=zt:=fun f hf e=>by
  refine⟨vI C G e,?_⟩;obtain⟨k,n,rfl,e1⟩:=B6 e;obtain⟨k',m,rfl,e2⟩:=B6 e1;grind
 have H:∀{k n v},R3 k n=zsq v->Bg v=zt:=fun e=>ik e
 have hob:∀{o:Option Bool}{f:Bool->Bool},A5 o (fun b=>F8 (f b))=zsq v->Bg v=zt:=fun{o f} e=>by
  obtain⟨b,_,D⟩:=A1 e;exact Y6 D
 cases op with
 |add=>
  have e:DB x y=zsq v:=e;show DB xc yc=zsq v/\_
  cases x with
  |str a=>
   obtain⟨c,rfl,e1⟩:=K8 e;rw[C.isS,G.isS];refine⟨e,?_⟩;cases hb:Nat.ble (Nat.add (r8 a) (r8 c)) 4611686018427387904 with
   |false=>grind
   |true=>rw[hb]at e1;cases e1;rfl
  |int k n=>
   rw[C.isI]
   have:=B (fun k a b=>R3 k (a+b)) (fun _ _ _ _ e=>H e) e
   rw[C.isI]at this;exact this
  |_=>cases e
 |sub=>exact B _ (fun _ _ _ _ e=>H e) e
 |mul=>exact B _ (fun _ _ _ _ e=>H e) e
 |quo=>exact B (fun k a b=>bif mj b 0 then znq else R3 k (a.tdiv b)) (by grind) e
 |rem=>exact B (fun k a b=>bif mj b 0 then znq else Im k (a.tmod b)) (by grind[Go.AM.ik]) e
 |and=>exact B _ (fun _ _ _ _ e=>ik e) e
 |or=>exact B _ (fun _ _ _ _ e=>ik e) e
 |xor=>exact B _ (fun _ _ _ _ e=>ik e) e
 |shl=>
  obtain⟨k,n,rfl,e1⟩:=B6 (show HJ x y=zsq v from e);obtain⟨k',m,rfl,e2⟩:=B6 e1;rw[C.isI,G.isI];refine⟨e,?_⟩;cases m with
  |ofNat m=>exact H e2
  |negSucc m=>cases e2
 |shr=>
  obtain⟨k,n,rfl,e1⟩:=B6 (show HK x y=zsq v from e);obtain⟨k',m,rfl,e2⟩:=B6 e1;rw[C.isI,G.isI];refine⟨e,?_⟩;cases m with
  |ofNat m=>exact ik e2
  |negSucc m=>cases e2
 |eql=>
  have e:A5 (rG k x y) F8=zsq v:=e;obtain⟨b,h1,D⟩:=A1 e;refine⟨?_,Y6 D⟩;show A5 (rG k xc yc) F8=zsq v
  grind[nJ]
 |neq=>
  have e:A5 (rG k x y) (fun b=>F8 (!b))=zsq v:=e;obtain⟨b,h1,D⟩:=A1 e;refine⟨?_,Y6 D⟩;show A5 (rG k xc yc) (fun b=>F8 (!b))=zsq v
  grind[nJ]
 |lss=>exact B _ (fun _ _ _ _ e=>Y6 e) e
 |leq=>exact B _ (fun _ _ _ _ e=>Y6 e) e
 |gtr=>exact B _ (fun _ _ _ _ e=>Y6 e) e
 |geq=>exact B _ (fun _ _ _ _ e=>Y6 e) e
 |_=>cases e
theorem pY{op:UnOp}(B:VR Z ow h os xc x)(e:Pq op x=zsq v):Pq op xc=zsq v/\Bg v=zt:=by
 cases op with
 |neg=>obtain⟨k,n,rfl,e1⟩:=B6 (show x.onInt znq (fun k n=>R3 k (0-n))=zsq v from e);rw[B.isI];exact⟨e,ik e1⟩
 |not=>obtain⟨b,rfl,e1⟩:=Aj (show x.onBool znq (fun b=>F8 (!b))=zsq v from e);rw[B.isB];grind[Y6]
 |_=>cases e
theorem cT{d:TD}(B:VR Z ow h os xc x)(e:R4 d x=zsq v):R4 d xc=zsq v/\Bg v=zt:=by
 cases d with
 |int k=>obtain⟨j,n,rfl,e1⟩:=B6 (show x.onInt znq (fun _ n=>R3 k n)=zsq v from e);rw[B.isI];exact⟨e,ik e1⟩
 |string=>obtain⟨s,rfl,e1⟩:=K8 (show x.onStr znq (fun s=>zsq (.str s))=zsq v from e);rw[B.isS];cases e1;exact⟨rfl,rfl⟩
 |_=>cases e
theorem w5{n:Nat}(B:VR Z ow h os xc x)(e:ew x=zsq n):ew xc=zsq n:=by
 obtain⟨k,m,rfl,_⟩:=B6 e;rw[B.isI];exact e
theorem cU(B:VR Z ow h os xc x)(e:Bk x=zsq v):∃vc,Bk xc=zsq vc/\VR Z ow h os vc v:=by
 cases x with
 |fptr u o=>
  cases e;cases B with
  | fz z=>cases z with
   |fptr o f=>exact⟨_,rfl,.fz (.fptr o f)⟩
   |pview a b c d=>exact⟨_,rfl,.fz (.pview a b c d)⟩
 |ptr id i o=>
  cases e;cases B with
  |fz z=>cases z
  |ptr a b=>exact⟨_,rfl,.ptr a b⟩
 |map id=>
  cases e;cases B with
  |fz z=>cases z
  |map a b=>exact⟨_,rfl,.map a b⟩
 |fn f a b=>
  cases B with
  |fz z=>cases z
  |fn h1 C D G=>
   cases f with
   |func n=>cases e;exact⟨_,rfl,.fn h1 C D G⟩
   |_=>cases e
 |_=>cases e
theorem Qi{d:Nat}(C:VR Z ow h os xc x)(e:C0 x d=zsq v):∃vc,C0 xc d=zsq vc/\VR Z ow h os vc v:=by
 have D:∀(u:AV)(o:Nat),C0 (.fptr u o) d=zsq (.fptr u (o+d)):=fun u o=>C1 (Nat.add o d) (fun o=>zsq (AV.fptr u o))
 have B:∀(id i o:Nat),C0 (.ptr id i o) d=zsq (.ptr id i (o+d)):=fun id i o=>C1 (Nat.add o d) (fun o=>zsq (AV.ptr id i o))
 cases x with
 |fptr u o=>
  rw[D]at e;cases e;cases C with
  | fz z=>cases z with
   |fptr o f=>exact⟨_,D _ _,.fz (.fptr _ f)⟩
   |pview a b c f=>exact⟨_,B _ _ _,.fz (.pview a b c f)⟩
 |ptr id i o=>
  rw[B]at e;cases e;cases C with
  |fz z=>cases z
  |ptr a b=>exact⟨_,B _ _ _,.ptr a b⟩
 |_=>cases e
theorem VL.part{xs ys:List AV}{t:TI}{off:Nat}(hl:VL Z ow h os xs ys)(e:ct t ys off=zsq v):∃vc,ct t xs off=zsq vc/\VR Z ow h os vc v:=by
 obtain⟨w0,h1,B⟩:=Nd (R:=fun _ a b=>VR Z ow h os a b) hl.1 hl.2 e;refine⟨w0,h1,?_⟩;rcases B with⟨us,vs,rfl,rfl,C,_,_,_,D⟩|⟨_,_,_,G⟩
 . exact .agg C D
 . exact G
theorem Xj{d:TD}{i:Nat}(G:VR Z ow h os xc x)(e:R5 E d i x=zsq v):∃vc,R5 E d i xc=zsq vc/\VR Z ow h os vc v:=by
 cases d with
 |slice B=>
  have e:onTI E B znq (fun te=>dX te i x)=zsq v:=e;show ∃vc,onTI E B znq (fun te=>dX te i xc)=zsq vc/\_
  unfold onTI at e|-;cases J:E.ti B with
  |none=>simp_all
  |some te=>
   rw[J]at e;simp only at e|-;have e:dX te i x=zsq v:=e;show ∃vc,dX te i xc=zsq vc/\_
   have H:∀id off n sz,dX te i (.msl id off n sz)=if i<n/\sz=te.size then zsq (AV.ptr id (off+i) 0)else znq:=fun id off n sz=>by
    show B5 (Nat.blt i n&&Nat.beq sz te.size) (M6 (Nat.add off i) fun o=>zsq (AV.ptr id o 0))=_
    rw[C1];by_cases hc:i<n/\sz=te.size
    . rw[if_pos hc,hc.2,zkh]
      have:Nat.blt i n=zt:=zkg hc.1
      rw[this];rfl
    . rw [if_neg hc]
      cases hg:(Nat.blt i n&&Nat.beq sz te.size)with
      |false=>rfl
      |true=>
       simp_all
   have hf:∀es f,dX te i (.fsl es f)=match es[i]? with|some u=>if lz u.cells=te.size then zsq (.fptr u 0)else znq|none=>znq:=fun es f=>by
    show A5 (Eh es i) (fun v=>B5 (Nat.beq (dw v.cells) te.size) (zsq (AV.fptr v 0)))=_
    rw[R1];cases es[i]? with
    |none=>rfl
    |some u=>
     show B5 (Nat.beq (dw u.cells) te.size) (zsq (AV.fptr u 0))=if lz u.cells=te.size then zsq (AV.fptr u 0)else znq
     rw[A4];by_cases hc:lz u.cells=te.size
     . rw[if_pos hc,hc,zkh];rfl
     . rw[if_neg hc]
       cases hb:Nat.beq (lz u.cells) te.size with
       |false=>rfl
       |true=>simp_all
   cases x with
   |fsl es f=>
    rw[hf]at e;cases D:es[i]? with
    |none=>grind
    |some u=>
     rw[D]at e;simp only at e;split at e
     . rename_i hsz
       cases e;cases G with
       |fz z=>
        cases z with
        |emp em=>simp at D
        |fsl h1 C I=>
         rename_i es0 f0;have hl:i<lz es0:=by grind
         have hz:=C i _ u (zqa hl) D;refine⟨.fptr es0[i] 0,?_,.fz (.fptr 0 hz)⟩;rw[hf,zqa hl];simp only;rw[if_pos (hz.shape.1.trans hsz)]
        |view h1 C I N U V=>
         rename_i id off n sz row;have hi:i<n:=by grind
         have hl:off+i<lz row:=by omega
         have hz:=U i _ u (zqa hl) D;have Q:=V i _ hi (zqa hl);refine⟨.ptr id (off+i) 0,?_,.fz (.pview h1 C (zqa hl) hz)⟩;rw[H,if_pos ⟨hi,by rw[<-Q,hz.shape.1,hsz]⟩]
     . cases e
   |msl id off n sz=>
    rw[H]at e;split at e
    . rename_i hc
      cases e;cases G with
      |fz z=>cases z
      |mnil _ _ _=>omega
      |msl a b=>exact⟨_,by rw[H,if_pos hc],.ptr a b⟩
    . cases e
   |_=>cases e
 |array len B=>
  have e:onTI E B znq (fun te=>B5 (Nat.blt i len&&Nat.blt 0 te.size) (C0 x (Nat.mul i te.size)))=zsq v:=e;show ∃vc,onTI E B znq (fun te=>B5 (Nat.blt i len&&Nat.blt 0 te.size) (C0 xc (Nat.mul i te.size)))=zsq vc/\_
  unfold onTI at e|-;cases J:E.ti B with
  |none=>simp_all
  |some te=>
   rw[J]at e;simp only at e|-;obtain⟨h1,C⟩:=A6 e;obtain⟨vc,I,N⟩:=Qi G C;exact⟨vc,by rw[h1];exact I,N⟩
 |_=>cases e
theorem pZ{d:TD}{i:Nat}(D:VR Z ow h os xc x)(e:El E d i x=zsq v):∃vc,El E d i xc=zsq vc/\VR Z ow h os vc v:=by
 cases d with
 |string=>
  obtain⟨s,rfl,e1⟩:=K8 (show x.onStr znq (fun s=>A5 (DC s i) fun b=>zsq (.int .u8 (Int.ofNat b.toNat)))=zsq v from e);rw[D.isS];obtain⟨b,_,B⟩:=A1 e1;cases B;exact⟨_,e,.i _ _⟩
 |array len C=>
  have e:onTI E C znq (fun te=>B5 (Nat.blt i len) (x.onAgg znq fun cs=>ct te cs (Nat.mul i te.size)))=zsq v:=e;show ∃vc,onTI E C znq (fun te=>B5 (Nat.blt i len) (xc.onAgg znq fun cs=>ct te cs (Nat.mul i te.size)))=zsq vc/\_
  unfold onTI at e|-;cases J:E.ti C with
  |none=>simp_all
  |some te=>
   rw[J]at e;simp only at e|-;obtain⟨h1,B⟩:=A6 e;obtain⟨cs,rfl,G⟩:=x4 B;obtain⟨xs,rfl,hl⟩:=D.agI;obtain⟨vc,H,I⟩:=hl.part G;exact⟨vc,by rw[h1];exact H,I⟩
 |_=>cases e
end
section
variable {E:Env}{R:AV->AV->Prop}{Z Z':Nat->Prop}{ow ow' ow1 ow2:Nat->Option (List Nat)}{h h':Vg}{K K':PK}{os os' os1 os2:List PO}{x y xc yc v:AV}{L M:List Nat}
def VO(Z:Nat->Prop)(ow:Nat->Option (List Nat))(h:Vg)(os:List PO)(a b:Option AV):Prop:=(a=znq/\b=znq)\/∃x y,a=zsq x/\b=zsq y/\VR Z ow h os x y
theorem cV(hg:wO E){nt:Nat}{frc:Tr}{fr:PF}(a:FrR Z ow h os nt frc fr)(o:Option Operand):VO Z ow h os (Nx E o frc) (yQ E o fr):=by
 cases o with
 |none=>exact .inl ⟨rfl,rfl⟩
 |some o=>exact .inr ⟨_,_,rfl,rfl,z6 hg a o⟩
theorem G7{a b:Option AV}{d n:Nat}(B:VO Z ow h os a b)(e:E7 b d=zsq n):E7 a d=zsq n:=by
 rcases B with⟨rfl,rfl⟩|⟨x,y,rfl,rfl,B⟩
 . exact e
 . exact w5 B e
theorem VO.isS{a b:Option AV}(B:VO Z ow h os a b):a.isSome=b.isSome/\a.isNone=b.isNone:=by
 rcases B with⟨rfl,rfl⟩|⟨x,y,rfl,rfl,B⟩<;>exact⟨rfl,rfl⟩
theorem Aq{a b:Nat}:Nat.ble a b=zt↔a<=b:=(by simp_all)
def CM(mx:Option AV)(f:Bool)(m r n:Nat):Bool:=match mx with|some _=>Nat.beq m r|none=>f&&Nat.beq r n
theorem gR{sz:Nat}{es:List AV}{f:Bool}{lo hi mx:Option AV}(e:Nu sz es f lo hi mx=zsq v):∃l r m,E7 lo 0=zsq l/\E7 hi (lz es)=zsq r/\E7 mx (lz es)=zsq m/\l<=r/\r<=m/\m<=lz es/\i6 sz es=zt/\v=.fsl ((es.drop l).take (r-l)) (CM mx f m r (lz es)):=by
 unfold Nu at e;obtain⟨l,h1,e⟩:=A1 e;obtain⟨r,C,e⟩:=A1 e;obtain⟨m,D,e⟩:=A1 e;obtain⟨B,e⟩:=A6 e;rw[A4]at C D B e;simp only[zkc,Aq]at B;rw[I6,I5]at e;cases e;exact⟨l,r,m,h1,C,D,B.1.1.1,B.1.1.2,B.1.2,B.2,rfl⟩
theorem qA{sz:Nat}{es:List AV}{f:Bool}{lo hi mx:Option AV}{l r m:Nat}(h1:E7 lo 0=zsq l)(B:E7 hi (lz es)=zsq r)(C:E7 mx (lz es)=zsq m)(D:l<=r)(G:r<=m)(H:m<=lz es)(I:i6 sz es=zt):Nu sz es f lo hi mx=zsq (.fsl ((es.drop l).take (r-l)) (CM mx f m r (lz es))):=by
 unfold Nu;rw[h1];show A5 (E7 hi (dw es)) _=_
 rw[A4,B];show A5 (E7 mx (lz es)) _=_
 rw[C];show B5 (Nat.ble l r&&Nat.ble r m&&Nat.ble m (lz es)&&i6 sz es) _=_
 rw[Aq.2 D,Aq.2 G,Aq.2 H,I,I6,I5];rfl
theorem gS{ts id off n sz:Nat}{lo hi mx:Option AV}(e:Nv ts id off n sz lo hi mx=zsq v):∃l r m,E7 lo 0=zsq l/\E7 hi n=zsq r/\E7 mx n=zsq m/\l<=r/\r<=m/\m<=n/\sz=ts/\v=.msl id (off+l) (r-l) sz:=by
 unfold Nv at e;obtain⟨l,h1,e⟩:=A1 e;obtain⟨r,h2,e⟩:=A1 e;obtain⟨m,h3,e⟩:=A1 e;obtain⟨B,e⟩:=A6 e;simp only[zkc,Aq]at B;rw[C1,C1]at e;simp_all
theorem Zw{ts id off n:Nat}{lo hi mx:Option AV}{l r m:Nat}(h1:E7 lo 0=zsq l)(B:E7 hi n=zsq r)(C:E7 mx n=zsq m)(D:l<=r)(G:r<=m)(H:m<=n):Nv ts id off n ts lo hi mx=zsq (.msl id (off+l) (r-l) ts):=by
 unfold Nv;rw[h1];show A5 (E7 hi n) _=_
 rw[B];show A5 (E7 mx n) _=_
 rw[C];show B5 (Nat.ble l r&&Nat.ble r m&&Nat.ble m n&&Nat.beq ts ts) _=_
 rw[Aq.2 D,Aq.2 G,Aq.2 H,zkh,C1,C1];rfl
theorem kZ{d:TD}{lo hi mx D C B:Option AV}(J:VO Z ow h os D lo)(N:VO Z ow h os C hi)(H:VO Z ow h os B mx)(X:VR Z ow h os xc x)(e:vA E d lo hi mx x=zsq v):∃vc,jd E d D C B xc=zsq vc/\VR Z ow h os vc v:=by
 have str:∀{s:List UInt8}{v:AV},Ej s lo hi mx=zsq v->Ej s D C B=zsq v/\∃s',v=.str s':=fun{s v} e=>by
  unfold Ej at e|-;obtain⟨l,h1,e⟩:=A1 e;obtain⟨r,U,e⟩:=A1 e;obtain⟨V,e⟩:=A6 e;rw[G7 J h1];show A5 (E7 C (r8 s)) _=_/\_
  rw[G7 N U];show B5 (Nat.ble l r&&Nat.ble r (r8 s)&&B.isNone) _=_/\_
  rw[H.isS.2,V];cases e;exact⟨rfl,_,rfl⟩
 have msl:∀{id off n sz},x=.msl id off n sz->jd E d lo hi mx x=zsq v->∃vc,jd E d D C B xc=zsq vc/\VR Z ow h os vc v:=fun{id off n sz} aa e=>by
  subst aa;cases d with
  |string=>cases e
  |slice I=>
   have e:onTI E I znq (fun te=>Nw te.size lo hi mx (.msl id off n sz))=zsq v:=e;show ∃vc,onTI E I znq (fun te=>Nw te.size D C B xc)=zsq vc/\_
   unfold onTI at e|-;cases Q:E.ti I with
   |none=>rw[Q]at e;cases e
   |some te=>
    rw[Q]at e;simp only at e|-;have e:Nv te.size id off n sz lo hi mx=zsq v:=e;obtain⟨l,r,m,h1,U,V,h4,h5,h6,rfl,rfl⟩:=gS e;cases X with
    |fz z=>cases z
    |mnil em hn ae=>
     have q1:=G7 J h1;have q2:=G7 N U;have q3:=G7 H V;obtain rfl:m=0:=by omega
     obtain rfl:r=0:=by omega
     obtain rfl:l=0:=by omega
     rcases em with rfl|rfl
     all_goals
      refine⟨.x0a,?_,.mnil (.inl rfl) hn ae⟩;show aS D C B=zsq .x0a
      unfold aS;rw[q1];show A5 (E7 C 0) _=_
      rw[q2];show A5 (E7 B 0) _=_
      rw[q3];rfl
    |msl a b=>
     refine⟨_,Zw (G7 J h1) (G7 N U) (G7 H V) h4 h5 h6,?_⟩;exact .msl a b
  |_=>cases e
 cases x with
 |x0a=>cases e
 |msl id off n sz=>
  exact msl rfl e
 |fsl es f=>
  have e:(if es.isEmpty||mx.isSome then znq else(jd E d lo hi mx (.fsl es f)).map fun y=>match y with | .fsl l _=>.fsl l l.isEmpty|y=>y)=zsq v:=e;split at e
  . cases e
  . rename_i hne
    cases G:jd E d lo hi mx (.fsl es f)with
    |none=>rw[G]at e;cases e
    |some w=>
     rw[G]at e;cases d with
     |string=>cases G
     |slice I=>
      have G:onTI E I znq (fun te=>Nw te.size lo hi mx (.fsl es f))=zsq w:=G;show ∃vc,onTI E I znq (fun te=>Nw te.size D C B xc)=zsq vc/\_
      unfold onTI at G|-;cases Q:E.ti I with
      |none=>rw[Q]at G;cases G
      |some te=>
       rw [Q]at G;simp only at G|-;have G:Nu te.size es f lo hi mx=zsq w:=G;obtain⟨l,r,m,h1,U,V,h4,h5,h6,h7,rfl⟩:=gR G;cases e;obtain⟨u,us,rfl⟩:∃u us,es=u::us:=by cases es with
        |_=>grind
       have ab:B=znq:=by
        cases hm:B with
        |none=>rfl
        |some q=>
         have h8:=H.isS.1;grind
       have hu:lz u.cells=te.size:=by
        have h7:Nat.beq (dw u.cells) te.size=zt:=h7;grind[A4,zkj]
       cases X with
       |fz z=>
        cases z with
        |fsl g1 g2 g3=>
         rename_i es0 f0;obtain⟨u0,ad,rfl⟩:∃u us,es0=u::us:=by cases es0 with
          |nil=>simp at g1
          |cons u us=>grind
         have hu0:=(g2 0 u0 u rfl rfl).shape.1;refine⟨_,qA (sz:=te.size) (es:=u0::ad) (f:=f0) (G7 J h1) (G7 N (by grind)) (G7 H (by grind)) h4 h5 (by grind) (by show Nat.beq (dw u0.cells) te.size=zt;simp_all[A4]),?_⟩;refine .fz (.fsl (by grind) (fun i x y X hy=>?_) (by rw[ab,g3];rfl));grind
        |view g1 g2 g3 g4 g5 g6=>
         rename_i id off n sz row;have Y:off<lz row:=by grind
         have ac:=g5 0 _ u (zqa Y) rfl;have hsz:sz=te.size:=by rw[<-g6 0 _ (by grind) (zqa Y),ac.shape.1,hu]
         subst hsz;rw[g4]at U V h6;refine⟨_,Zw (id:=id) (off:=off) (G7 J h1) (G7 N U) (G7 H V) h4 h5 h6,?_⟩;refine .fz (.view (row:=row) g1 g2 (by omega) (by grind) (fun i x y X hy=>?_) (fun i x hi X=>g6 (l+i) x (by omega) (by grind)));grind
     |_=>cases G
 |str s=>
  cases d with
  |string=>
   rw[X.isS];obtain⟨h1,s',rfl⟩:=str (show Ej s lo hi mx=zsq v from e);exact⟨_,h1,.fz (.str s')⟩
  |slice I=>
   have e:onTI E I znq (fun te=>Nw te.size lo hi mx (.str s))=zsq v:=e;unfold onTI at e;cases Q:E.ti I with
   |none=>simp_all
   |some te=>rw[Q]at e;cases e
  |_=>cases e
 |_=>
  cases d with
  |slice I=>
   have e:onTI E I znq (fun te=>znq)=zsq v:=e;unfold onTI at e;cases Q:E.ti I with
   |_=>simp_all
  |_=>cases e
theorem MP(s:G6 Z ow h K.os){id:Nat}{es:List (AV×AV)}(B:K.os[id]?=zsq (.mapo es))(C:VR Z ow h K.os xc (.map id)):∃c ces,xc=.map c/\e0y Z ow h id es c ces:=by
 obtain⟨c0,ces,g⟩:=s.map id es B;cases C with
 |fz z=>cases z
 |map a b=>
  have h1:=a [id] (by grind[loP])
  have:=s.inj _ _ _ h1 g.o
  grind
theorem vL{α:Type}{h:Vg}{id:Nat}{es:List (AV×AV)}{d:α}{f:List (AV×AV)->α}(hg:h.get id=zsq (.mapo es)):h.onMapo id d f=f es:=by
 grind[Vg.onMapo]
theorem vM(s:G6 Z ow h K.os){d:TD}{n:Nat}(B:VR Z ow h K.os xc x)(e:FZ d x K=zsq n):iW d xc h=zsq n:=by
 cases d with
 |string=>obtain⟨s',rfl,e1⟩:=K8 (show x.onStr znq (fun s=>zsq (r8 s))=zsq n from e);rw[B.isS];exact e
 |slice el=>
  have e:dT x=zsq n:=e;show dT xc=zsq n
  cases x with
  |x0a=>rw[B.isN];exact e
  |fsl es f=>
   have e:zsq (dw es)=zsq n:=e;rw[A4]at e;cases e;cases B with
   |fz z=>
    cases z with
    |emp C=>cases C<;>rfl
    |fsl h1 _ _=>show zsq (dw _)=_;rw[A4,h1]
    |view _ _ _ G _ _=>show zsq _=zsq _;rw[G]
  |msl id off m sz=>
   cases e;cases B with
   |fz z=>cases z
   |mnil C _ _=>rcases C with rfl|rfl<;>rfl
   |msl=>rfl
  |_=>cases e
 |map a b=>
  show rH xc h=zsq n
  cases x with
  |x0d=>cases B with|fz z=>cases z;exact e
  |map id=>
   have e:(match K.os[id]? with|some (.mapo es)=>zsq (oO es)|_=>znq)=zsq n:=e;cases D:K.os[id]? with
   |none=>grind
   |some q=>
    rw[D]at e;cases q with
    |mapo es=>
     obtain⟨c,ces,rfl,g⟩:=MP s D B;show h.onMapo c znq (fun es=>zsq (oO es))=zsq n
     rw[vL g.get,Rn,g.len,<-Rn];exact e
    |_=>cases e
  |_=>cases e
 |_=>cases e
theorem gT:∀(l B:List AV)(x xc v:AV),VL Z ow h os B l->VR Z ow h os xc x->Nt l x=zsq v->∃vc,Nt B xc=zsq vc/\VR Z ow h os vc v
 |[],B,x,xc,v,hl,hx,e=>by
  have:B=[]:=zqh hl.1
  subst this;cases e;exact⟨xc,rfl,hx⟩
 |y::l,[],x,xc,v,hl,hx,e=>by have:=hl.1;simp at this
 |y::l,yc::B,x,xc,v,hl,hx,e=>by
  have e:(x.onInt znq fun k a=>y.onInt znq fun _ b=>Nt l (.int k (bif il b a then a else b)))=zsq v:=e;obtain⟨k,a,rfl,e1⟩:=B6 e;obtain⟨_,b,rfl,e2⟩:=B6 e1;rw[hx.isI,hl.inv.1.isI];exact gT l B _ _ v hl.inv.2 (.i _ _) e2
theorem gU:∀(l B:List AV)(x xc v:AV),VL Z ow h os B l->VR Z ow h os xc x->Qm l x=zsq v->∃vc,Qm B xc=zsq vc/\VR Z ow h os vc v
 |[],B,x,xc,v,hl,hx,e=>by
  have:B=[]:=zqh hl.1
  subst this;cases e;exact⟨xc,rfl,hx⟩
 |y::l,[],x,xc,v,hl,hx,e=>by have:=hl.1;simp at this
 |y::l,yc::B,x,xc,v,hl,hx,e=>by
  have e:(x.onInt znq fun k a=>y.onInt znq fun _ b=>Qm l (.int k (bif il a b then a else b)))=zsq v:=e;obtain⟨k,a,rfl,e1⟩:=B6 e;obtain⟨_,b,rfl,e2⟩:=B6 e1;rw[hx.isI,hl.inv.1.isI];exact gU l B _ _ v hl.inv.2 (.i _ _) e2
def VQ(Z:Nat->Prop)(ow:Nat->Option (List Nat))(h:Vg)(os:List PO)(ps qs:List (Nat×AV)):Prop:=lz ps=lz qs/\∀(i:Nat) p q,ps[i]?=zsq p->qs[i]?=zsq q->p.1=q.1/\VR Z ow h os p.2 q.2
theorem Nj(hg:wO E){nt:Nat}{frc:Tr}{fr:PF}(a:FrR Z ow h os nt frc fr):∀l:List (Nat×Operand),VQ Z ow h os (iz E l frc) (cP E l fr)
 |[]=>⟨rfl,fun i p q B=>by cases i<;>cases B⟩
 |o::l=>⟨congrArg Nat.succ (Nj hg a l).1,fun i p q B C=>by
  cases i with
  |zero=>cases B;cases C;exact⟨rfl,z6 hg a o.2⟩
  |succ i=>exact(Nj hg a l).2 i p q B C⟩
theorem VQ.inv{p q:Nat×AV}{ps qs:List (Nat×AV)}(v:VQ Z ow h os (p::ps) (q::qs)):(p.1=q.1/\VR Z ow h os p.2 q.2)/\VQ Z ow h os ps qs:=⟨v.2 0 p q rfl rfl,by have:=v.1;grind,fun i p q B C=>v.2 (i+1) p q B C⟩
theorem lA{xs ys us vs:List AV}{off:Nat}(a:VL Z ow h os xs ys)(b:VL Z ow h os us vs):VL Z ow h os (O5 xs off us) (O5 ys off vs):=by
 rw[U3,U3];grind[eh,VL]
theorem yX{v vc:AV}(G:VR Z ow h os vc v)(ho:E4 v.cells=zt):E4 vc.cells=zt/\lz vc.cells=lz v.cells/\VL Z ow h os vc.cells v.cells:=by
 rw[G9]at ho;have D:v≠.und:=fun e=>by subst e;exact absurd (ho .und (zqi ..)) (by decide)
 have hl:=G.cells D;refine⟨(G9 _).2 fun c hc=>?_,hl.1,hl⟩;obtain⟨i,hi⟩:=zqe hc;have C:i<lz v.cells:=by rw[<-hl.1];grind
 have B:=ho _ (zqn C);refine(hl.2 i c _ hi (zqa C)).okc ?_
 revert B
 cases v.cells[i]<;>intro B<;>first|rfl|cases B
theorem Ox(place:Nat->Option (Nat×Nat)):∀(ps qs:List (Nat×AV))(xs ys zs:List AV),VQ Z ow h os ps qs->VL Z ow h os xs ys->U9 place qs ys=zsq zs->∃ws,U9 place ps xs=zsq ws/\VL Z ow h os ws zs
 |[],[],xs,ys,zs,_,hl,e=>by cases e;exact⟨xs,rfl,hl⟩
 |[],q::qs,xs,ys,zs,hv,hl,e=>by have:=hv.1;simp at this
 |p::ps,[],xs,ys,zs,hv,hl,e=>by have:=hv.1;simp at this
 |p::ps,q::qs,xs,ys,zs,hv,hl,e=>by
  have e:A5 (place q.1) (fun w=>B5 (Nat.beq (dw q.2.cells) w.2&&Nat.ble (Nat.add w.1 w.2) (dw ys)&&E4 q.2.cells) (U9 place qs (O5 ys w.1 q.2.cells)))=zsq zs:=e;obtain⟨w,h1,e⟩:=A1 e;obtain⟨C,e⟩:=A6 e;rw[zkc,zkc]at C;obtain⟨⟨D,G⟩,H⟩:=C;obtain⟨⟨I,J⟩,N⟩:=hv.inv;obtain⟨Q,U,V⟩:=yX J H;obtain⟨ws,X,B⟩:=Ox place ps qs _ _ zs N (lA (off:=w.1) hl V) e;refine⟨ws,?_,B⟩;show A5 (place p.1) (fun w=>B5 (Nat.beq (dw p.2.cells) w.2&&Nat.ble (Nat.add w.1 w.2) (dw xs)&&E4 p.2.cells) (U9 place ps (O5 xs w.1 p.2.cells)))=zsq ws
  rw[I,h1];show B5 (Nat.beq (dw p.2.cells) w.2&&Nat.ble (Nat.add w.1 w.2) (dw xs)&&E4 p.2.cells) _=_
  rw[A4,U,<-A4,D,A4,hl.1,<-A4,G,Q];exact X
theorem lB(I:GE E){t:Nat}{ti:TI}(C:E.ti t=zsq ti){ps qs:List (Nat×AV)}(G:VQ Z ow h os ps qs)(e:X3 E ti qs=zsq v):∃vc,X3 E ti ps=zsq vc/\VR Z ow h os vc v:=by
 have hz:VL Z ow h os ti.zero.cells ti.zero.cells:=⟨rfl,fun i x y J N=>.fz (((I t ti C).1 Z h).cell J N).1⟩
 unfold X3 at e|-;cases H:ti.desc with
 |struct fields f=>
  rw[H]at e;simp only at e|-;cases B:U9 (fun i=>A5 (Wj fields i) fun f=>onTI E f.1 znq fun g=>zsq (f.2,g.size)) qs ti.zero.cells with
  |none=>grind
  |some zs=>
   rw[B]at e;cases e;obtain⟨ws,h1,D⟩:=Ox _ ps qs _ _ zs G hz B;rw[h1];exact⟨_,rfl,.agL D⟩
 |array len Q=>
  rw[H]at e;simp only at e|-;unfold onTI at e|-;cases C:E.ti Q with
  |none=>simp_all
  |some te=>
   rw[C]at e;simp only at e|-;cases B:U9 (fun i=>zsq (Nat.mul i te.size,te.size)) qs ti.zero.cells with
   |none=>grind
   |some zs=>
    rw[B]at e;cases e;obtain⟨ws,h1,D⟩:=Ox _ ps qs _ _ zs G hz B;rw[h1];exact⟨_,rfl,.agL D⟩
 |_=>grind
end
section
variable {E:Env}{R:AV->AV->Prop}{Z Z':Nat->Prop}{ow ow' ow1 ow2:Nat->Option (List Nat)}{h h':Vg}{K K':PK}{os os' os1 os2:List PO}{x y xc yc v k:AV}{L M:List Nat}
theorem yg{v e:AV}(ha:fh v=fh e)(hl:lz v.cells=lz e.cells)(hok:∀c∈v.cells,fh c=zf):e.x0f 0 v.cells=v:=by
 cases B:fh v with
 |true=>
  rw[B]at ha;cases v with
  |agg vs=>
   cases e with
   |agg es=>
    show AV.agg (O5 es 0 vs)=.agg vs
    rw[U3];unfold eh;have hl:lz vs=lz es:=hl;grind
   |_=>cases ha
  |_=>cases B
 |false=>
  rw[B]at ha;rw[D7 B];cases e<;>first|rfl|cases ha
theorem G6.congr(s:G6 Z ow h os)(hn:h'.next=h.next)(hg:∀d,h'.get d=h.get d):G6 Z ow h' os:=by
 have hz:∀d,Z d->Z d/\h'.get d=h.get d:=fun d H=>⟨H,hg d⟩
 have D:PT (VR Z ow h os) Z ow h' os:=by
  refine⟨fun r es sz B=>?_,fun r k es sz B I=>?_,fun r es B=>?_,s.inj,fun a M ha=>?_,fun a ha=>by rw[hn];exact s.zb a ha,s.sb⟩
  . obtain⟨x,C⟩:=s.row r es sz B
    exact⟨x,C.reloc (Nat.le_of_eq hn.symm) hz (fun _ _=>.rfl) (fun d _ _=>hg d)⟩
  . obtain⟨c,ces,g⟩:=s.raw r k es sz B I
    exact⟨c,ces,g.o,by rw[hn];exact g.lt,(hg c).trans g.get,g.sh,g.vr,g.okp,g.no⟩
  . obtain⟨c,ces,g⟩:=s.map r es B
    exact⟨c,ces,g.o,by rw[hn];exact g.lt,(hg c).trans g.get,g.len,fun i x y C G=>⟨(g.kv i x y C G).1,(g.kv i x y C G).2.mono hz⟩,g.no⟩
  . obtain⟨h1,h2⟩:=s.live a M ha
    grind
 exact G6.to D hz (.refl _ _)
end
section
variable {E:Env}{R:AV->AV->Prop}{Z Z':Nat->Prop}{ow ow' ow1 ow2:Nat->Option (List Nat)}{h h':Vg}{K K':PK}{os os' os1 os2:List PO}{x y xc yc v k:AV}{L M:List Nat}
theorem gV(v:AV):My v=fh v:=by cases v<;>rfl
theorem lC{t:TI}{c i off sz:Nat}{es:List AV}(hg:h.get c=zsq (.row es sz))(e:Cp t (.ptr c i off) v h=zsq h'):∃old,es[i]?=zsq old/\lz v.cells=t.size/\E4 v.cells=zt/\h'=h.set c (.row (es.set i (old.x0f off v.cells)) sz):=by
 have e:h.onRow c znq (So t c i off v.cells h)=zsq h':=e;rw[Hl hg]at e;obtain⟨old,h1,e⟩:=A1 e;obtain⟨B,e⟩:=A6 e;rw[R1]at h1;rw[zkc,zkc,zkc]at B;simp only[Ai]at e;cases e;refine⟨old,h1,?_,B.2,rfl⟩;grind[zkj,A4]
theorem qB{t:TI}{p x:AV}(B:iv t p x K=zsq K'):x≠.und:=fun e=>by
 subst e;unfold iv at B;cases p with
 |ptr n i off=>
  simp only at B;cases H:cd K.os 6 n with
  |none=>grind
  |some t'=>
   obtain⟨k,es,sz⟩:=t';rw[H]at B;simp only at B;cases hi:es[i]? with
   |none=>grind
   |some u=>
    rw[hi]at B;simp only at B;split at B
    . cases C:ez K.os n with
      |true=>
       rw[C]at B;simp only at B;split at B
       . rename_i D;exact absurd D (by decide)
       . cases B
      |false=>
       rw[C]at B;simp only at B;have e1:(AV.und.cells.all clo&&((u.cells.drop off).take t.size).all clo)=zf:=rfl;rw[e1]at B;simp only[Bool.false_eq_true,if_false]at B;cases I:dg (jg K.os n) 6 n (es.set i (u.x0f off (zqd t.size .und)))with
       |none=>grind
       |some G=>
        rw[I]at B;simp only at B;have e2:fv K.ext (cg K.os 6 n) n i off G AV.und.cells=znq:=rfl;grind
    . cases B
 |_=>cases B
theorem Zx{te:TI}{n c:Nat}:∀(qs ps:List (Nat×AV))(K K':PK)(ow:Nat->Option (List Nat))(h:Vg)(ces:List AV),G6 Z ow h K.os->VQ Z ow h K.os ps qs->(∀i,VR Z ow h K.os (.ptr c i 0) (.ptr n i 0))->h.get c=zsq (.row ces te.size)->(∀e∈ces,fh e=fh te.zero/\lz e.cells=te.size)->jo te n qs K=zsq K' ->
 ∃B h' ow',gi te.size ps ces=zsq B/\G6 Z ow' h' K'.os/\df ow K.os ow' K'.os/\Stp K.ext Z ow h K Z ow' h' K'/\h'.get c=zsq (.row B te.size)/\(∀d,d≠c->h'.get d=h.get d)/\h'.next=h.next
 |[],ps,K,K',ow,h,ces,s,hv,C,hg,hsh,e=>by
  have:ps=[]:=zqh hv.1
  subst this;cases e;exact⟨ces,h,ow,rfl,s,.refl _ _,.refl _ _ _ _ _,hg,fun _ _=>rfl,rfl⟩
 |q::qs,[],K,K',ow,h,ces,s,hv,C,hg,hsh,e=>by have:=hv.1;simp at this
 |q :: qs,p::ps,K,K',ow,h,ces,s,hv,C,hg,hsh,e=>by
  obtain⟨⟨hi,I⟩,D⟩:=hv.inv;obtain⟨i,qv⟩:=q;obtain⟨i',pv⟩:=p;have hi:i'=i:=hi;subst hi;unfold jo at e;split at e
  . rename_i G
    rw[gV,gV]at G;cases J:iv te (.ptr n i' 0) qv K with
    |none=>rw[J]at e;cases e
    |some K1=>
     rw[J]at e;simp only at e;obtain⟨h1,ow1,g1,g2,X,Y⟩:=Zt s (C i') I J;obtain⟨old,o1,o2,o3,rfl⟩:=lC hg g1;have N:qv≠.und:=qB J;have Q:=I.shape N;have hol:=hsh old (zqb o1);have hokc:=(G9 _).1 o3;have U:old.x0f 0 pv.cells=pv:=(by grind[Go.AM.yg,Go.AM.jw])
     rw[U]at g1 g2 Y;have V:i'<lz ces:=(zqc.1 o1).1;have H:∀d,Z d->Z d/\(h.set c (.row (ces.set i' pv) te.size)).get d=h.get d:=fun d hd=>(Y 0).zz d hd
     obtain ⟨B,h2,ow2,a1,a2,a3,a4,a5,a6,a7⟩:=Zx qs ps K1 K' ow1 (h.set c (.row (ces.set i' pv) te.size)) (ces.set i' pv) g2 ⟨D.1,fun j p q C hq=>⟨(D.2 j p q C hq).1,(D.2 j p q C hq).2.keep H X⟩⟩ (fun j=>(C j).keep H X) (Vg.get_set_eq _ _ hg) (fun e he=>by
      rcases List.mem_or_eq_of_mem_set he with h|h
      . exact hsh e h
      . subst h;exact⟨by rw[Q.2,G],o2⟩) e
     refine⟨B,h2,ow2,?_,a2,X.trans a3,(Y K.ext).trans s (by grind),a5,(by grind[Go.AM.Vg.get_set_ne]),a7⟩;show B5 (Nat.blt i' (dw ces)&&Nat.beq (dw pv.cells) te.size&&E4 pv.cells) (gi te.size ps (we ces i' pv))=zsq B
     rw[A4,A4,o2,zkh,o3,Ai]
     have:Nat.blt i' (lz ces)=zt:=zkg V
     rw[this];exact a1
  . cases e
theorem yY{t n:Nat}{ps:Array (Nat×Operand)}{ti te:TI}{fr:Tr}{es:List AV}(C:E.ti t=zsq ti)(B:cu E ti.desc=zsq te)(h1:n*te.size<=65536)(h2:0<te.size)(hp:gi te.size (iz E ps.toList fr) (zqd n te.zero)=zsq es):L9 E t n ps fr h=.ok (.msl h.next 0 n te.size) (h.push (.row es te.size)):=by
 unfold L9 onTI;rw[C];simp only;rw[B];show(bif Nat.ble (Nat.mul n te.size) 65536&&Nat.blt 0 te.size then(match gi te.size (iz E ps.toList fr) (oi n te.zero)with|none=>Res.bad|some es=>.ok (.msl h.next 0 n te.size) (h.push (.row es te.size)))else .bad)=_
 have e1:Nat.ble (Nat.mul n te.size) 65536=zt:=zkg h1;grind[Nat.blt,zkg,m7]
theorem Vu{sz:Nat}:∀(qs ps:List (Nat×AV))(ys xs zs:List AV),VQ Z ow h os ps qs->lz xs=lz ys->(∀(i:Nat) x y,xs[i]?=zsq x->ys[i]?=zsq y->VR Z ow h os x y/\lz y.cells=sz/\∀b∈y.cells,Gi b=zt)->nu sz qs ys=zsq zs->∃ws,gi sz ps xs=zsq ws/\lz ws=lz zs/\lz zs=lz ys/\∀(i:Nat) x y,ws[i]?=zsq x->zs[i]?=zsq y->VR Z ow h os x y/\lz y.cells=sz/\∀b∈y.cells,Gi b=zt
 |[],ps,ys,xs,zs,hv,hl,hr,e=>by
  have:ps=[]:=zqh hv.1
  subst this;cases e;exact⟨xs,rfl,hl,rfl,hr⟩
 |q::qs,[],ys,xs,zs,hv,hl,hr,e=>by have:=hv.1;simp at this
 |q :: qs,p::ps,ys,xs,zs,hv,hl,hr,e=>by
  obtain⟨⟨hi,H⟩,I⟩:=hv.inv;obtain⟨i,J⟩:=q;obtain⟨i',pv⟩:=p;have hi:i'=i:=hi;subst hi;unfold nu at e;split at e
  . rename_i hc
    obtain⟨h1,Q,N⟩:=hc;rw[zqf]at N;have D:J≠.und:=fun e=>by subst e;exact absurd (N .und (zqi ..)) (by decide)
    have B:=H.cells D;have G:E4 pv.cells=zt:=(G9 _).2 fun c hc=>by
     obtain⟨j,U⟩:=zqe hc;have C:j<lz J.cells:=by rw[<-B.1];grind
     exact(B.2 j c _ U (zqa C)).okc (N _ (zqn C))
    obtain⟨ws,V,X,a3,Y⟩:=Vu qs ps (ys.set i' J) (xs.set i' pv) zs I (by simp[hl]) (by grind) e;refine⟨ws,?_,X,by grind,Y⟩;show B5 (Nat.blt i' (dw xs)&&Nat.beq (dw pv.cells) sz&&E4 pv.cells) (gi sz ps (we xs i' pv))=zsq ws
    rw[A4,A4,B.1,Q,zkh,G,Ai]
    have:Nat.blt i' (lz xs)=zt:=zkg (by omega)
    rw[this];exact V
  . cases e
theorem lD(hT:GE E)(s:G6 Z ow h K.os)(D:K.ext<=lz K.os){n e:Nat}{te:TI}(X:E.ti e=zsq te){ps qs:List (Nat×AV)}(V:VQ Z ow h K.os ps qs)(e:Bz te n qs K=zsq (v,K')):
 n*te.size<=65536/\0<te.size/\∃es ow',gi te.size ps (zqd n te.zero)=zsq es/\G6 Z ow' (h.push (.row es te.size)) K'.os/\df ow K.os ow' K'.os/\VR Z ow' (h.push (.row es te.size)) K'.os (.msl h.next 0 n te.size) v/\∀b,Stp b Z ow h K Z ow' (h.push (.row es te.size)) K':=by
 have hz:=hT _ _ X;have C:∀ob d,d<h.next->(h.push ob).get d=h.get d:=fun ob d B=>Vg.get_push_ne h _ (by omega)
 unfold Bz at e;split at e
 . rename_i hc
   refine⟨hc.1,hc.2,?_⟩;have hrep:∀{i:Nat}{x:AV},(zqd n te.zero)[i]?=zsq x->x=te.zero:=fun{i x} h=>(zqo.1 (zqb h)).2
   cases J:jo te (lz K.os) qs (newRow 0 (zqd n te.zero) te.size K)with
   |some K1=>
    rw[J]at e;cases e;obtain⟨z1,z2,z3,z4⟩:=gN (n:=n) s D hz.1 hz.2;have aa:∀d,Z d->Z d/\(h.push (.row (zqd n te.zero) te.size)).get d=h.get d:=fun d B=>⟨B,C _ d (s.zb d B)⟩
    have ab:∀i,VR Z (f7 ow h.next [lz K.os]) (h.push (.row (zqd n te.zero) te.size)) (newRow 0 (zqd n te.zero) te.size K).os (.ptr h.next i 0) (.ptr (lz K.os) i 0):=fun i=>.ptr (fun L H=>by
     have H:loP (K.os++[PO.row 0 (zqd n te.zero) te.size]) 6 (lz K.os)=zsq L:=H;rw[Ow _ (.inl ⟨_,_,_,rfl⟩)]at H;cases H;exact U8 _ _ _) (by show _<lz (K.os++[PO.row 0 (zqd n te.zero) te.size]);simp)
    obtain⟨es,h2,ow2,a1,a2,a3,U,a5,a6,a7⟩:=Zx qs ps _ _ _ _ (zqd n te.zero) z1 ⟨V.1,fun i p q J hq=>⟨(V.2 i p q J hq).1,(V.2 i p q J hq).2.keep aa z2⟩⟩ ab (Vg.get_push_eq h _) (fun e Y=>by rw[(zqo.1 Y).2];exact⟨rfl,hz.2⟩) J;have N:∀d,(h.push (.row es te.size)).get d=h2.get d:=(by grind[Go.AM.Vg.get_push_eq,Go.AM.Vg.get_push_ne])
    have ac:(h.push (.row es te.size)).next=h2.next:=a7.symm;have st:=(z4 K.ext).trans s U;have ad:=z2.trans a3;refine⟨es,ow2,a1,a2.congr ac N,ad,(z3.keep (Z':=Z) (h':=h2) (fun d B=>U.zz d B) a3).keep (fun d B=>⟨B,N d⟩) (.refl _ _),fun b=>⟨Nat.le_succ _,fun d B=>⟨B,C _ d (s.zb d B)⟩,fun _ B=>.inl B,fun d B _=>C _ d B,st.uo,⟨[],rfl,fun d B=>by cases B⟩,st.mv,st.tm,st.ex,st.xk,st.rd⟩⟩
   |none=>
    rw[J]at e;simp only at e;cases hr:nu te.size qs (zqd n te.zero)with
    |none=>grind
    |some zs=>
     rw [hr]at e;cases e;have ae:∀b∈te.zero.cells,Gi b=zt:=fun b hb=>by
      obtain⟨i,hi⟩:=zqe hb;exact pq ((hz.1 Z h).cell hi hi).2
     obtain⟨ws,a1,a2,a3,U⟩:=Vu qs ps (zqd n te.zero) (zqd n te.zero) zs V rfl (fun i x y D G=>by rw[hrep D,hrep G];exact⟨.fz (hz.1 Z h),hz.2,ae⟩) hr;have Q:∀y:AV,(∀b∈y.cells,Gi b=zt)->y≠.und:=fun y G e=>by subst e;exact absurd (G .und (zqi ..)) (by decide)
     have Y:(∃k es z',PO.row 2 zs te.size=.row k es z')\/∃es,PO.row 2 zs te.size=.mapo es:=.inl ⟨_,_,_,rfl⟩;have I:=PT.lay (ob:=.row ws te.size) s (e:=.row 2 zs te.size) (Cb _ Y) (fun es z e=>by cases e) (fun k es z e hk=>by
      cases e;refine⟨h.next,ws,U8 _ _ _,Nat.lt_succ_self _,Rz h _,⟨a2,fun i x y D G=>?_⟩,fun i x y D G o a b ha hb=>?_,fun i y G b hb=>?_,Ni s⟩
      . obtain⟨b1,b2,b3⟩:=U i x y D G
        have:=b1.shape (Q y b3)
        grind
      . obtain⟨b1,b2,b3⟩:=U i x y D G
        exact(b1.cells (Q y b3)).2 o a b ha hb
      grind) (fun es e=>by cases e)
     refine⟨ws,_,a1,G6.to I.1 (fun d B=>⟨B,C _ d (s.zb d B)⟩) I.2,I.2,.msl (fun L H=>?_) (by show _<lz (K.os++[PO.row 2 zs te.size]);simp),fun b=>Stp.lay s D⟩;have H:loP (K.os++[PO.row 2 zs te.size]) 6 (lz K.os)=zsq L:=H;grind[Ow,U8]
 . cases e
end
section
variable {E:Env}{R:AV->AV->Prop}{Z Z':Nat->Prop}{ow ow' ow1 ow2:Nat->Option (List Nat)}{h h':Vg}{K K':PK}{os os' os1 os2:List PO}{x y xc yc v k:AV}{L M:List Nat}
def ClR(Z:Nat->Prop)(h:Vg)(sz:Nat)(a b:AV):Prop:=(lz a.cells=sz/\lz b.cells=sz/\fh a=fh b)/\∀(o:Nat) u w,a.cells[o]?=zsq u->b.cells[o]?=zsq w->Fz Z h u w/\clo w=zt
theorem Cc{es:List AV}(hf:Jm es=zt){i:Nat}{b:AV}(hb:es[i]?=zsq b){o:Nat}{w:AV}(B:b.cells[o]?=zsq w):clo w=zt:=
 zqf.1 (zqf.1 hf b (zqb hb)) w (zqb B)
theorem vN{u w:AV}(c:CR Z ow h L u w)(B:clo w=zt):Fz Z h u w/\qM ow L:=by
 cases c with
 |val f _ n=>grind
 |_=>cases B
theorem lE{te:TI}{xs:List AV}{ext:Nat}(p:G6 Z ow h os)(D:VR Z ow h os xc x)(I:kj te x ext [] os=zsq (xs,os2))(hf:Jm xs=zt):
 ∃xcs,elems xc h=zsq xcs/\G1 te.size xcs=zt/\lz xcs=lz xs/\∀(i:Nat) a b,xcs[i]?=zsq a->xs[i]?=zsq b->ClR Z h te.size a b:=by
 obtain⟨ow2,xcs,h1,J,t⟩:=gP p D I;refine⟨xcs,h1,J,t.ln,fun i a b ha hb=>?_⟩;rcases t.alt with⟨_,hz⟩|⟨q,c0,_,_,N,hc,_⟩
 . obtain⟨f,hl⟩:=hz i a b ha hb
   have C:b≠.und:=fun e=>by subst e;have:=Cc hf hb (o:=0) (w:=.und) rfl;cases this
   have D:VR Z ow h os a b:=.fz f;refine⟨⟨(D.shape C).1.trans hl,hl,(D.shape C).2⟩,fun o u w H G=>?_⟩;have B:=Cc hf hb G;exact⟨((D.cells C).2 o u w H G).fzc B,B⟩
 . refine⟨N.2 i a b ha hb,fun o u w H G=>?_⟩
   have B:=Cc hf hb G;exact⟨(vN (hc i a b ha hb o u w H G) B).1,B⟩
theorem Stp.more{b r:Nat}(s:Stp b Z ow h K Z' ow' h' K'):Stp b Z ow h K Z' ow' h' {K' with tch:=r::K'.tch}:=by
 obtain⟨l,e,f⟩:=s.th;refine⟨s.nx,s.zz,s.zn,s.un,s.uo,⟨l,e,fun id hi=>?_⟩,fun id r t ho B=>?_,fun r B hl=>zqp _ (s.tm r B hl),s.ex,s.xk,s.rd⟩
 . grind
 . rcases s.mv id r t ho B with h|h
   . exact .inl h
   grind
theorem yZ{te:TI}{dc:AV}{id off n:Nat}{q:List AV×List PO}(s:G6 Z ow h K.os)(H:VR Z ow h K.os dc (.msl id off n te.size))(hx:VR Z ow h K.os xc x)(hq:kj te x K.ext [] K.os=zsq q)(e:vB te.size id off n q.1 K=zsq (v,K')):
 ∃xcs,elems xc h=zsq xcs/\G1 te.size xcs=zt/\∃h',dU te dc xcs h=zsq (v,h')/\G6 Z ow h' K'.os/\df ow K.os ow K'.os/\(∀b,Stp b Z ow h K Z ow h' K')/\VR Z ow h' K'.os v v:=by
 obtain⟨xs,os2⟩:=q;unfold vB at e;split at e
 . rename_i es z D
   split at e
   . rename_i hc
     obtain ⟨rfl,hle,ab,ak⟩:=hc;obtain⟨xcs,g1,g2,g3,g4⟩:=lE s hx hq ak;refine⟨xcs,g1,g2,?_⟩;have Q:loP K.os 6 id=zsq [id]:=by
      show(match K.os[id]? with|some (.row _ _ _)=>zsq [id]|some (.mapo _)=>zsq [id]|some (.sub p i o)=>(loP K.os 5 p).map (· ++ [i,o])|_=>znq)=_
      rw[D]
     have hr:cd K.os 6 id=zsq (0,es,te.size):=by
      show(match K.os[id]? with|some (.row k es sz)=>zsq (k,es,sz)|some (.sub p i o)=>_|_=>znq)=_
      rw[D]
     have U:ez K.os id=zf:=by unfold ez;rw[D];rfl
     obtain⟨x0,ac⟩:=s.row id es te.size D;generalize hy:AV.msl id off n te.size=y at H;cases H with
     |fz f=>cases f<;>cases hy
     |mnil e1 h1 _=>
      cases hy;rcases ac.inv with⟨_,rfl,_,_⟩|⟨c0,_,_,h4,_⟩
      . simp only[List.take_nil,Nat.zero_min,List.take_zero,List.drop_nil,zql]at e
        cases e;have ae:K.os.set id (.row 0 [] te.size)=K.os:=by
         apply List.ext_getElem?;intro j;rw[List.getElem?_set];split
         . rename_i hj;subst hj;exact D.symm
         . rfl
        refine⟨h,?_,?_,?_,fun b=>?_,.i _ _⟩
        . rcases e1 with rfl|rfl<;>rfl
        . show G6 Z ow h (K.os.set id (.row 0 [] te.size));rw[ae];exact s
        . grind[df]
        . have:=(Stp.refl b Z ow h K).more (r:=id)
          grind
      grind
     |@msl id' c off' n' sz' h2 h3=>
      cases hy;have B:=h2 _ Q;rcases ac.inv with⟨_,_,_,h4⟩|⟨c0,ces,_,h4,h5,h6,h7,h8,h9⟩
      . exact absurd (by grind) (h4 c [])
      . have:c=c0:=s.inj _ _ _ B h4
        subst this;cases e;generalize hk:min n (lz xs)=kk;have hlc:=h7.1;have hkn:kk<=n:=by omega
        have hkx:kk<=lz xs:=by omega
        have hsp:∀{l a:List AV},off+n<=lz l->kk<=lz a->∀i,(l.take off++(a.take kk++l.drop (off+kk)))[i]?=if off<=i/\i<off+kk then a[i-off]? else l[i]?:=fun{l a} hl ha i=>by
         have af:lz (a.take kk)=kk:=by grind
         have:=d9 (l:=l) (us:=a.take kk) (p:=off) (j:=i) (by omega)
         unfold eh at this;rw[af]at this;rw[this];split
         . rw[zqu,if_pos (by omega)]
         . rfl
        have hold:∀(i:Nat) a b,ces[i]?=zsq a->es[i]?=zsq b->ClR Z h te.size a b:=fun i a b ha hb=>⟨h7.2 i a b ha hb,fun o u w N I=>by
         have V:=Cc ab hb I;exact⟨(vN (h9 i a b ha hb o u w N I) V).1,V⟩⟩
        have ag:ek K.os id=zt:=by
         obtain⟨_,_,r,t,e,h⟩:=s.live _ _ B;cases e;exact h
        have ah:∀i o,i<lz es->o<te.size->qM ow ([id]++[i,o]):=fun i o hi ho=>by
         have ha:=zqa (show i<lz ces by omega);have hb:=zqa hi;have hsh:=h7.2 i _ _ ha hb;have N:=zqa (show o<lz (ces[i]).cells by omega);have I:=zqa (show o<lz (es[i]).cells by omega);exact(vN (h9 i _ _ ha hb o _ _ N I) (Cc ab hb I)).2
        generalize hce:ces.take off++(xcs.take kk++ces.drop (off+kk))=C;generalize hee:es.take off++(xs.take kk++es.drop (off+kk))=es';have hcel:lz C=lz ces:=by grind
        have X:lz es'=lz es:=by grind
        have G:∀(i:Nat) a b,C[i]?=zsq a->es'[i]?=zsq b->ClR Z h te.size a b:=(by grind)
        have ai:dU te (.msl c off n te.size) xcs h=zsq (.int .i64 (Int.ofNat kk),h.set c (.row C te.size)):=by
         show h.onRow c znq (Lf te c off n xcs h)=_
         rw [Hl h6];unfold Lf;rw[C1];have aj:(bif Nat.ble n (dw xcs)then n else dw xcs)=kk:=by
          grind[A4,Nat.le_of_ble_eq_true,zkg]
         rw[aj,A4,zkg (show Nat.add off n<=lz ces by show off+n<=_;omega),zkh];show zsq (AV.int .i64 (Int.ofNat kk),h.set c (.row (ma (kh ces off) (ma (kh xcs kk) (ls ces (Nat.add off kk)))) te.size))=_
         grind[M0,I6,I5]
        have J:∀ob d,Z d->Z d/\(h.set c ob).get d=h.get d:=fun ob d H=>⟨H,Vg.get_set_ne _ _ fun e=>by subst e;exact(s.live _ _ B).2.1 H⟩
        have d:Dl Z ow h Z ow (h.set c (.row C te.size)) [id]:=⟨zke _,J _,fun _ _ _=>.rfl,fun d M H hM=>Vg.get_set_ne _ _ fun e=>by subst e;rw[B]at H;cases H;exact hM (.refl _)⟩
        have Y:dg K.os 6 id es'=zsq (K.os.set id (.row 0 es' te.size)):=by
         show(match K.os[id]? with|some (.row k _ sz)=>zsq (K.os.set id (.row k es' sz))|some (.sub p i o)=>_|_=>znq)=_
         rw[D]
        have aa:df ow K.os ow (K.os.set id (.row 0 es' te.size)):=⟨by simp,fun j _ L' hl=>⟨L',by grind[Ap],fun _=>.rfl⟩⟩
        refine⟨_,ai,G6.to (s.set d s.inj s.live s.zb (fun _ _ _ _ _ _ hi=>hi) 6 id 0 es te.size es' _ [id] [] (by simp) hr Q U Y fun x1 ad=>?_) (J _) aa,aa,fun b=>Stp.store s (r:=id) (t:=[]) (c:=c) B ag (by grind) (fun d q t ho _=>.inl ⟨t,ho⟩) (fun j _ c _=>.rfl) (by grind[Go.AM.ij]),.i _ _⟩;rcases ad.inv with⟨_,_,_,n4⟩|⟨c1,ces1,rfl,n4,_⟩
        . exact absurd (by grind) (n4 c [])
        . have:c=c1:=s.inj _ _ _ B n4
          subst this;rw[<-X];refine .own B h5 (Vg.get_set_eq _ _ h6) (by omega) (by grind) (fun i a b ha hb=>(G i a b ha hb).1) fun i a b ha hb o u w N I=>?_
          obtain⟨q1,q2⟩:=(G i a b ha hb).2 o u w N I;refine .val (q1.mono (J _)) q2 (ah i o ?_ ?_)
          . grind
          . rw[<-(G i a b ha hb).1.2.1];grind
     |_=>cases hy
   . cases e
 . cases e
end
section
variable {E:Env}{R:AV->AV->Prop}{Z Z':Nat->Prop}{ow ow' ow1 ow2:Nat->Option (List Nat)}{h h':Vg}{K K':PK}{os os' os1 os2:List PO}{x y xc yc v k:AV}{L M:List Nat}
theorem Sb{o:Option (AV×PK)}(e:Kx o=.val v K'):o=zsq (v,K'):=by
 cases o with
 |none=>cases e
 |some p=>cases e;rfl
theorem X1{o:Option AV}(e:Km o K=.val v K'):o=zsq v/\K'=K:=by
 cases o with
 |none=>cases e
 |some p=>cases e;grind
theorem M5{t:Nat}{f:TI->OpS}(e:c9 E t f=.val v K'):∃ti,E.ti t=zsq ti/\f ti=.val v K':=by
 unfold c9 at e;grind
structure wu(Z:Nat->Prop)(ow:Nat->Option (List Nat))(h:Vg)(K:PK)(r:Res)(v:AV)(K':PK)(ow':Nat->Option (List Nat))(vc:AV)(h':Vg):Prop where
 r:r=.ok vc h'
 st:G6 Z ow' h' K'.os
 kp:df ow K.os ow' K'.os
 vr:VR Z ow' h' K'.os vc v
 sp:∀b,Stp b Z ow h K Z ow' h' K'
theorem wu.same(s:G6 Z ow h K.os){r:Res}{vc:AV}(B:r=.ok vc h)(C:VR Z ow h K.os vc v):wu Z ow h K r v K ow vc h:=⟨B,s,.refl _ _,C,fun b=>.refl _ _ _ _ _⟩
theorem N8{α:Type}{t:Nat}{ti:TI}(B:E.ti t=zsq ti)(d:α)(f:TI->α):onTI E t d f=f ti:=by unfold onTI;rw[B]
theorem lF(hT:GE E)(s:G6 Z ow h K.os)(hx:K.ext<=lz K.os){b:Builtin}{ts:List TypeId}{args B:List AV}(hl:VL Z ow h K.os B args)(e:G5 E b ts args K=zsq (v,K')):∃ow' vc h',wu Z ow h K (lift2 (F5 E b ts B h)) v K' ow' vc h':=by
 have J:∀{vc:AV},F5 E b ts B h=zsq (vc,h)->VR Z ow h K.os vc v->K'=K->∃ow' vc h',wu Z ow h K (lift2 (F5 E b ts B h)) v K' ow' vc h':=fun{vc} e1 e2 e3=>by
  subst e3;rw[e1];exact⟨ow,vc,h,.same s rfl e2⟩
 unfold G5 at e;split at e
 . -- len
   rename_i t _ x _;cases H:E.ti t with
   |none=>rw[H]at e;cases e
   |some ti=>
    rw[H]at e;simp only at e;cases hn:FZ ti.desc x K with
    |none=>rw[hn]at e;cases e
    |some n=>
     rw [hn]at e;cases e;obtain⟨xc,D,rfl⟩:∃xc D,B=xc::D:=by
      cases B with
      |nil=>have:=hl.1;simp at this
      |cons a l=>exact⟨a,l,rfl⟩
     refine J (vc:=.int .i64 (Int.ofNat n)) ?_ (.i _ _) rfl;show onTI E t znq (fun ti=>A5 (iW ti.desc xc h) fun n=>M6 n fun n=>zsq (AV.int .i64 (Int.ofNat n),h))=_
     rw[N8 H,vM s hl.inv.1 hn];exact C1 n (fun n=>zsq (AV.int .i64 (Int.ofNat n),h))
 . -- append
   rename_i t tx tr sl x _;cases H:E.ti t with
   |none=>rw[H]at e;cases e
   |some ti=>
    cases V:E.ti tx with
    |none=>rw[H,V]at e;cases e
    |some I=>
     rw[H,V]at e;simp only at e;cases C:cu E ti.desc with
     |none=>rw[C]at e;cases e
     |some te=>
      rw[C]at e;simp only at e;split at e
      . rename_i hsz
        obtain ⟨sc,xc,D,rfl⟩:∃sc xc D,B=sc::xc::D:=by
         cases B with
         |nil=>have:=hl.1;simp at this
         | cons a l=>cases l with
          |nil=>have:=hl.1;simp at this
          |cons b l=>exact⟨a,b,l,rfl⟩
        have ab:=hl.inv.1;have ac:=hl.inv.2.inv.1;have hb:F5 E .append (t::tx::tr) (sc::xc::D) h=(match I.desc with
         |.int _=>A5 (ew xc) fun n=>B5 (Nat.ble (Nat.mul n te.bytes) 140737488355328) (I1 te sc (oi n te.zero) h)
         |_=>A5 (elems xc h) fun xs=>B5 (G1 te.size xs) (I1 te sc xs h)):=by
         show onTI E t znq (fun ti=>A5 (cu E ti.desc) fun te=>B5 (Nat.blt 0 te.size) (onTI E tx znq fun I=>match I.desc with
          |.int _=>A5 (ew xc) fun n=>B5 (Nat.ble (Nat.mul n te.bytes) 140737488355328) (I1 te sc (oi n te.zero) h)
          |_=>A5 (elems xc h) fun xs=>B5 (G1 te.size xs) (I1 te sc xs h)))=_
         rw[N8 H,C];show B5 (Nat.blt 0 te.size) _=_
         have:Nat.blt 0 te.size=zt:=zkg hsz
         rw[this];show onTI E tx znq _=_
         rw[N8 V]
        have hz:(∀Z h,Fz Z h te.zero te.zero)/\lz te.zero.cells=te.size:=by
         unfold cu at C;cases Y:ti.desc with
         |slice el=>rw[Y]at C;exact hT _ _ C
         |_=>rw[Y]at C;cases C
        have app:∀{x:AV}{xcs xs:List AV},True:=fun{_ _ _}=>trivial
        have Q:(∀k,I.desc≠.int k)->c8 te sl x K=zsq (v,K')->∃ow' vc h',wu Z ow h K (lift2 (F5 E .append (t::tx::tr) (sc::xc::D) h)) v K' ow' vc h':=fun U e=>by
         unfold c8 at e;cases G:jh te sl K.os with
         |none=>rw[G]at e;cases e
         |some q=>
          obtain⟨base,os1,tc⟩:=q;rw[G]at e;simp only at e;cases N:kj te x K.ext tc os1 with
          |none=>rw[N]at e;cases e
          |some q=>
           obtain⟨xs,os2⟩:=q;rw[N]at e;simp only at e;split at e
           . rename_i hw
             obtain⟨ow1,tb⟩:=Vs s ab G;obtain⟨ow2,xcs,g1,g2,tk⟩:=gP tb.pt (ac.keep (fun _ hz=>⟨hz,rfl⟩) tb.keep) N;obtain⟨vc,h',owf,a1,a2,a3,a4,a5⟩:=nI s hx tb tk hw e;refine⟨owf,vc,h',?_,a2,a3,a4,a5⟩
             have:F5 E .append (t::tx::tr) (sc::xc::D) h=zsq (vc,h'):=by
              rw [hb];have e2:(A5 (elems xc h) fun xs=>B5 (G1 te.size xs) (I1 te sc xs h))=zsq (vc,h'):=by
               rw[g1];show B5 (G1 te.size xcs) (I1 te sc xcs h)=_
               rw[g2];exact a1
              cases Y:I.desc with
              |int k=>exact absurd Y (U k)
              |_=>exact e2
             rw[this];rfl
           . cases e
        split at e
        . rename_i kk Y
          cases hn:ew x with
          |none=>rw[hn]at e;cases e
          |some n=>
           rw[hn]at e;simp only at e;split at e
           . rename_i aa
             unfold nD at e;cases G:jh te sl K.os with
             |none=>rw[G]at e;cases e
             |some q=>
              obtain⟨base,os1,tc⟩:=q;rw[G]at e;simp only at e;split at e
              . rename_i hw
                obtain⟨ow1,tb⟩:=Vs s ab G;have hrep:∀{i:Nat}{x:AV},(zqd n te.zero)[i]?=zsq x->x=te.zero:=fun{i x} h=>(zqo.1 (zqb h)).2
                have tk:TkE (VR Z ow h K.os) Z ow1 h os1 K.ext tc te (zqd n te.zero) (zqd n te.zero) os1 ow1:=.closed tb.pt rfl fun i a b ha hb=>by rw[hrep ha,hrep hb];exact⟨hz.1 Z h,hz.2⟩
                have ad:(!(zqd n te.zero).isEmpty||jm sl K.os)=zt:=by
                 cases n with
                 |zero=>simpa using hw
                 |succ n=>rfl
                obtain⟨vc,h',owf,a1,a2,a3,a4,a5⟩:=nI s hx tb tk ad e;refine⟨owf,vc,h',?_,a2,a3,a4,a5⟩
                have:F5 E .append (t::tx::tr) (sc::xc::D) h=zsq (vc,h'):=by
                 rw[hb,Y];show A5 (ew xc) (fun n=>B5 (Nat.ble (Nat.mul n te.bytes) 140737488355328) (I1 te sc (oi n te.zero) h))=_
                 rw[w5 ac hn];show B5 (Nat.ble (Nat.mul n te.bytes) 140737488355328) (I1 te sc (oi n te.zero) h)=_
                 have:Nat.ble (Nat.mul n te.bytes) 140737488355328=zt:=zkg aa
                 rw[this,m7];exact a1
                rw[this];rfl
              . cases e
           . cases e
        . rename_i U
          exact Q (fun k hk=>U k hk) e
      . cases e
 . -- copy
   rename_i t tr id off n z x xr;cases H:E.ti t with
   |none=>rw[H]at e;cases e
   |some ti=>
    rw[H]at e;dsimp only at e;cases C:cu E ti.desc with
    |none=>rw[C]at e;cases e
    |some te=>
     rw[C]at e;dsimp only at e;split at e
     . rename_i hz
       subst hz;split at e
       . rename_i q hq
         obtain ⟨dc,xc,D,rfl⟩:∃sc xc D,B=sc::xc::D:=by
          cases B with
          |nil=>have:=hl.1;simp at this
          | cons a l=>cases l with
           |nil=>have:=hl.1;simp at this
           |cons b l=>exact⟨a,b,l,rfl⟩
         obtain⟨xcs,g1,g2,h',a1,a2,a3,a4,a5⟩:=yZ s hl.inv.1 hl.inv.2.inv.1 hq e;refine⟨ow,v,h',?_,a2,a3,a5,a4⟩
         have:F5 E .copy (t::tr) (dc::xc::D) h=zsq (v,h'):=by
          show onTI E t znq (fun ti=>A5 (cu E ti.desc) fun te=>A5 (elems xc h) fun xs=>B5 (G1 te.size xs) (dU te dc xs h))=_
          rw[N8 H,C];show A5 (elems xc h) _=_
          rw[g1];show B5 (G1 te.size xcs) _=_
          rw[g2];exact a1
         rw[this];rfl
       . cases e
     . cases e
 . -- max
   rename_i _ x l;obtain⟨xc,D,rfl⟩:∃xc D,B=xc::D:=by
    cases B with
    |nil=>have:=hl.1;simp at this
    |cons a l=>exact⟨a,l,rfl⟩
   cases X:Nt l x with
   |none=>rw[X]at e;cases e
   |some w=>
    rw[X]at e;cases e;obtain⟨vc,h1,h2⟩:=gT l D x xc v hl.inv.2 hl.inv.1 X;exact J (vc:=vc) (show(Nt D xc).map (·,h)=_ by rw[h1];rfl) h2 rfl
 . rename_i _ x l
   obtain ⟨xc,D,rfl⟩:∃xc D,B=xc::D:=by
    cases B with
    |nil=>have:=hl.1;simp at this
    |cons a l=>exact⟨a,l,rfl⟩
   cases X:Qm l x with
   |none=>rw[X]at e;cases e
   |some w=>
    rw[X]at e;cases e;obtain⟨vc,h1,h2⟩:=gU l D x xc v hl.inv.2 hl.inv.1 X;exact J (vc:=vc) (show(Qm D xc).map (·,h)=_ by rw[h1];rfl) h2 rfl
 . cases e
end
section
variable {E:Env}{R:AV->AV->Prop}{Z Z':Nat->Prop}{ow ow' ow1 ow2:Nat->Option (List Nat)}{h h':Vg}{K K':PK}{os os' os1 os2:List PO}{x y xc yc v k:AV}{L M:List Nat}{nt:Nat}{frc:Tr}{fr:PF}
theorem Cd(hg:wO E)(hT:GE E)(s:G6 Z ow h K.os)(hx:K.ext<=lz K.os)(a:FrR Z ow h K.os nt frc fr){op:Op}(e:gx E op fr K=.val v K')(call:E3):∃ow' vc h',wu Z ow h K (fg E call op frc h) v K' ow' vc h':=by
 have V:=z6 hg a;cases op with
 |move x=>cases e;exact⟨ow,_,h,.same s rfl (V x)⟩
 |assign x=>cases e;exact⟨ow,_,h,.same s rfl (V x)⟩
 |pick c p q=>
  have e:Mz (dj E c fr) (dj E p fr) (dj E q fr) K=.val v K':=e;have Vc:=V c;cases hc:dj E c fr with
  |bool b=>
   rw[hc]at e Vc;have ae:=Vc.isB;cases b with
   |true=>cases e;exact⟨ow,_,h,.same s (show(opv E c frc).onBool Res.bad (fun t=>match t with|true=>.ok (opv E p frc) h|false=>.ok (opv E q frc) h)=_ by rw[ae];rfl) (V p)⟩
   |false=>cases e;exact⟨ow,_,h,.same s (show(opv E c frc).onBool Res.bad (fun t=>match t with|true=>.ok (opv E p frc) h|false=>.ok (opv E q frc) h)=_ by rw[ae];rfl) (V q)⟩
  |_=>rw[hc]at e;cases e
 |alloc t=>
  obtain ⟨ti,C,e⟩:=M5 e;cases e;have hz:=hT t ti C;obtain⟨N,Q,U,X⟩:=nH s hx (.fz (hz.1 Z h)) hz.2 (fun b hb=>by
   obtain⟨i,hi⟩:=zqe hb;exact pq ((hz.1 Z h).cell hi hi).2)
  exact⟨_,_,_,show onTI E t Res.bad (fun ti=>iX ti.size ti.zero h)=_ by rw[N8 C];rfl,N,Q,U,X⟩
 |box t x=>
  obtain⟨ti,C,e⟩:=M5 e;have e:(if(dj E x fr).cells.length=ti.size/\(dj E x fr).cells.all Gi=zt then OpS.val (.ptr (lz K.os) 0 0) (newRow 1 [dj E x fr] ti.size K)else .bad)=.val v K':=e;split at e
  . rename_i hc
    cases e;have aa:=zqf.1 hc.2;obtain⟨N,Q,U,X⟩:=nH s hx (V x) hc.1 aa;have ab:dj E x fr≠.und:=fun e=>by
     have:=aa .und (by rw[e];exact zqi ..)
     cases this
    have ac:=(V x).cells ab;have af:E4 (opv E x frc).cells=zt:=(G9 _).2 fun c ai=>by
     obtain⟨j,hj⟩:=zqe ai;have ag:j<lz (dj E x fr).cells:=by rw[<-ac.1];exact(zqc.1 hj).1
     exact(ac.2 j c _ hj (zqa ag)).okc (aa _ (zqn ag))
    refine⟨_,_,_,?_,N,Q,U,X⟩;show onTI E t Res.bad (fun ti=>bif Nat.beq (dw (opv E x frc).cells) ti.size&&E4 (opv E x frc).cells then iX ti.size (opv E x frc) h else .bad)=_
    rw[N8 C,A4,ac.1,hc.1,zkh,af];rfl
  . cases e
 |build t ps=>
  obtain⟨ti,C,e⟩:=M5 e;obtain⟨D,rfl⟩:=X1 e;have e:=D;obtain⟨vc,h1,G⟩:=lB hT C (Nj hg a ps.toList) e;exact⟨ow,vc,h,.same s (show onTI E t Res.bad (fun ti=>lift (X3 E ti (iz E ps.toList frc)) h)=_ by rw[N8 C,h1];rfl) G⟩
 |buildSlice t n ps=>
  obtain⟨ti,C,e⟩:=M5 e;cases B:cu E ti.desc with
  |none=>simp only[B]at e;cases e
  |some te=>
   simp only[B]at e;have e:=Sb e;obtain⟨el,aj⟩:∃el,E.ti el=zsq te:=by
    unfold cu at B;cases hd:ti.desc with
    |slice el=>rw[hd]at B;exact⟨el,B⟩
    |_=>rw[hd]at B;cases B
   obtain⟨g1,g2,es,ow',g3,N,Q,U,X⟩:=lD (e:=el) hT s hx aj (Nj hg a ps.toList) e;exact⟨ow',_,_,yY C B g1 g2 g3,N,Q,U,X⟩
 |insert t m k x=>cases e
 |load t p=>
  obtain⟨ti,C,e⟩:=M5 e;obtain⟨vc,h1,G,h3,h4,h5,h6,ps,h7,h8⟩:=gL s (V p) (Sb e);refine⟨ow,vc,h,show onTI E t Res.bad (fun ti=>lift (Ek ti (opv E p frc) h) h)=_ by rw[N8 C,h1];rfl,G,h3,h4,fun b=>⟨zke _,fun _ hz=>⟨hz,rfl⟩,fun _ hz=>.inl hz,fun _ _ _=>rfl,fun d M ho _ e=>(by rw[ho]at e;cases e),⟨[],rfl,fun d hd=>(by cases hd)⟩,fun d r t ho _=>.inl ⟨t,ho⟩,fun r hr _=>(by rw[h6];exact hr),h5,fun j _ c _=>.rfl,fun j hj hr=>?_⟩⟩;unfold ek at hr|-;rw[h7,zqq (by omega)]at hr;exact hr
 |store t p x=>
  obtain⟨ti,C,e⟩:=M5 e;have e:=Sb e;cases hs:iv ti (dj E p fr) (dj E x fr) K with
  |none=>rw[hs]at e;cases e
  |some K1=>
   rw[hs]at e;cases e;obtain⟨h',ow',g1,g2,g3,g4⟩:=Zt s (V p) (V x) hs;exact⟨ow',.und,h',show onTI E t Res.bad (fun ti=>liftH (Cp ti (opv E p frc) (opv E x frc) h))=_ by rw[N8 C,g1];rfl,g2,g3,.und,g4⟩
 |nilCheck x=>
  obtain⟨D,rfl⟩:=X1 e;have e:=D;obtain⟨vc,h1,G⟩:=cU (V x) e;exact⟨ow,vc,h,.same s (show lift (Bk (opv E x frc)) h=_ by rw[h1];rfl) G⟩
 |binOp op t x y u=>
  have e:(if Ot (dj E x fr)=zt/\Ot (dj E y fr)=zt then Km (Q7 op (N1 E t) (dj E x fr) (dj E y fr)) K else .bad)=.val v K':=e;split at e
  . rename_i hc
    obtain ⟨D,rfl⟩:=X1 e;have e:=D;obtain⟨h1,G⟩:=kY (V x) (V y) hc.1 hc.2 e;have h3:rJ E op t (opv E x frc) (opv E y frc)=znq:=by
     have h4:Jr E t (opv E x frc) (opv E y frc)=znq\/(op≠.eql/\op≠.neq):=by
      by_cases ho:op=.eql\/op=.neq
      . left
        have ab:∀i k o i' k' o',opv E x frc=.ptr i k o->opv E y frc≠.ptr i' k' o':=fun i k o i' k' o' hx hy=>by
         rw[hx,hy]at h1;rcases ho with rfl|rfl
         . have h1:A5 (Ei (N1 E t) (.ptr i k o) (.ptr i' k' o')) F8=zsq v:=h1
           cases hk:N1 E t<;>rw[hk]at h1<;>cases h1
         . have h1:A5 (Ei (N1 E t) (.ptr i k o) (.ptr i' k' o')) (fun b=>F8 (!b))=zsq v:=h1
           cases hk:N1 E t<;>rw[hk]at h1<;>cases h1
        unfold Jr;cases H:opv E x frc with
        |ptr i k o=>
         cases am:opv E y frc with
         |ptr i' k' o'=>exact absurd am (ab _ _ _ _ _ _ H)
         |_=>rfl
        |_=>rfl
      . exact .inr ⟨fun e=>ho (.inl e),fun e=>ho (.inr e)⟩
     rcases h4 with h4|⟨h4,h5⟩
     . unfold rJ
       rw[h4];cases op<;>rfl
     . cases op<;>first|rfl|exact absurd rfl h4|exact absurd rfl h5
    refine⟨ow,v,h,.same s ?_ (Vt G)⟩;show lift (QL (rJ E op t (opv E x frc) (opv E y frc)) (Q7 op (N1 E t) (opv E x frc) (opv E y frc))) h=_
    rw[h3,h1];rfl
  . cases e
 |unOp op t x=>
  obtain⟨D,rfl⟩:=X1 e;have e:=D;obtain⟨h1,G⟩:=pY (V x) e;exact⟨ow,v,h,.same s (show lift (Pq op (opv E x frc)) h=_ by rw[h1];rfl) (Vt G)⟩
 |convert t d x=>
  obtain⟨ti,C,e⟩:=M5 e;obtain⟨td,ak,e⟩:=M5 e;obtain⟨D,rfl⟩:=X1 e;have e:=D;obtain⟨h1,G⟩:=cT (V x) e;exact⟨ow,v,h,.same s (show onTI E t Res.bad (fun _=>onTI E d .bad fun td=>lift (R4 td.desc (opv E x frc)) h)=_ by rw[N8 C,N8 ak,h1];rfl) (Vt G)⟩
 |makeInterface t x=>
  obtain⟨ti,C,e⟩:=M5 e;cases hp:V0 ti.desc with
  |false=>rw[hp]at e;cases e
  |true=>
   rw[hp]at e;cases e;exact⟨ow,_,h,.same s (show onTI E t Res.bad (fun ti=>bif V0 ti.desc then .ok (.iface t (opv E x frc)) h else .bad)=_ by rw[N8 C,hp];rfl) (.iface (V x))⟩
 |makeFunc f fs cs=>
  cases e;have v1:=Hk hg a fs.toList;have v2:=Hk hg a cs.toList;exact⟨ow,_,h,.same s rfl (.fn v1.1 v1.2 v2.1 v2.2)⟩
 |makeMap t r=>
  cases r with
  |some r=>cases e
  |none=>
   cases e;obtain⟨N,Q,U,X⟩:=pW s hx;exact⟨_,_,_,rfl,N,Q,U,X⟩
 |makeSlice t l c=>
  obtain⟨ti,C,e⟩:=M5 e;unfold Zp at e;cases B:cu E ti.desc with
  |none=>rw[B]at e;cases e
  |some te=>
   cases hl:ew (dj E l fr)with
   |none=>rw[B,hl]at e;cases e
   |some n=>
    cases hc:ew (dj E c fr)with
    |none=>rw[B,hl,hc]at e;cases e
    |some m=>
     rw[B,hl,hc]at e;simp only at e;split at e
     . rename_i I
       cases e;have hz:(∀Z h,Fz Z h te.zero te.zero)/\lz te.zero.cells=te.size:=by
        unfold cu at B;cases hd:ti.desc with
        |slice el=>rw[hd]at B;exact hT _ _ B
        |_=>rw[hd]at B;cases B
       obtain⟨N,Q,U,X⟩:=gN (n:=n) s hx hz.1 hz.2;refine⟨_,_,_,?_,N,Q,U,X⟩;show O0 E t l c frc h=_
       unfold O0;rw[N8 C];simp only[B,w5 (V l) hl,w5 (V c) hc];have e1:Nat.ble n m=zt:=zkg I.1;have e2:Nat.ble (Nat.mul m te.bytes) 140737488355328=zt:=zkg I.2.1;have e3:Nat.blt 0 te.size=zt:=zkg I.2.2;rw[e1,e2,e3,m7];rfl
     . cases e
 |slice t x lo hi mx=>
  obtain⟨ti,C,e⟩:=M5 e;cases hb:(hi.isNone&&mx.isSome)with
  |true=>rw[hb]at e;cases e
  |false=>
   rw[hb]at e;obtain⟨D,rfl⟩:=X1 e;have e:=D;obtain⟨vc,h1,G⟩:=kZ (cV hg a lo) (cV hg a hi) (cV hg a mx) (V x) e;exact⟨ow,vc,h,.same s (show onTI E t Res.bad (fun ti=>bif hi.isNone&&mx.isSome then .bad else lift (jd E ti.desc (Nx E lo frc) (Nx E hi frc) (Nx E mx frc) (opv E x frc)) h)=_ by rw[N8 C,hb,h1];rfl) G⟩
 |fieldAddr t x f=>
  obtain⟨ti,C,e⟩:=M5 e;obtain⟨D,rfl⟩:=X1 e;have e:=D;unfold L3 at e;cases hf:fieldAt E ti f with
  |none=>rw[hf]at e;cases e
  |some p=>
   rw[hf]at e;simp only at e;split at e
   . rename_i hsz
     obtain⟨vc,h1,G⟩:=Qi (V x) e;refine⟨ow,vc,h,.same s ?_ G⟩;show onTI E t Res.bad (fun ti=>lift (A5 (fieldAt E ti f) fun p=>B5 (Nat.blt 0 p.1.size) (C0 (opv E x frc) p.2)) h)=_
     rw[N8 C,hf];show lift (B5 (Nat.blt 0 p.1.size) (C0 (opv E x frc) p.2)) h=_
     have:Nat.blt 0 p.1.size=zt:=zkg hsz
     rw[this,h1];rfl
   . cases e
 |field t x f=>
  obtain⟨ti,C,e⟩:=M5 e;obtain⟨D,rfl⟩:=X1 e;have e:=D;unfold MN at e;cases hf:fieldAt E ti f with
  |none=>rw[hf]at e;cases e
  |some p=>
   rw[hf]at e;have J:=V x;cases H:dj E x fr with
   |agg cs=>
    rw[H]at J;simp only[H]at e;obtain⟨xs,al,hl⟩:=J.agI;obtain⟨vc,h1,G⟩:=hl.part e;refine⟨ow,vc,h,.same s ?_ G⟩;show onTI E t Res.bad (fun ti=>lift (A5 (fieldAt E ti f) fun p=>(opv E x frc).onAgg znq fun cs=>ct p.1 cs p.2) h)=_
    rw[N8 C,hf,al];show lift (ct p.1 xs p.2) h=_
    rw[h1];rfl
   |_=>simp only[H]at e;cases e
 |indexAddr t x i=>
  obtain⟨ti,C,e⟩:=M5 e;obtain⟨D,rfl⟩:=X1 e;have e:=D;unfold Gj at e;cases hn:ew (dj E i fr)with
  |none=>rw[hn]at e;cases e
  |some n=>
   rw[hn]at e;obtain⟨vc,h1,G⟩:=Xj (V x) e;refine⟨ow,vc,h,.same s ?_ G⟩;show onTI E t Res.bad (fun ti=>lift (A5 (ew (opv E i frc)) fun i=>R5 E ti.desc i (opv E x frc)) h)=_
   rw[N8 C,w5 (V i) hn];show lift (R5 E ti.desc n (opv E x frc)) h=_
   rw[h1];rfl
 |index t x i=>
  obtain⟨ti,C,e⟩:=M5 e;obtain⟨D,rfl⟩:=X1 e;have e:=D;unfold MO at e;cases hn:ew (dj E i fr)with
  |none=>rw[hn]at e;cases e
  |some n=>
   rw[hn]at e;obtain⟨vc,h1,G⟩:=pZ (V x) e;refine⟨ow,vc,h,.same s ?_ G⟩;show onTI E t Res.bad (fun ti=>lift (A5 (ew (opv E i frc)) fun i=>El E ti.desc i (opv E x frc)) h)=_
   rw[N8 C,w5 (V i) hn];show lift (El E ti.desc n (opv E x frc)) h=_
   rw[h1];rfl
 |lookup t m k ok=>obtain⟨ti,C,e⟩:=M5 e;cases e
 |mapUpdate t m k x=>cases e
 |typeAssert x t0 t ok=>
  obtain⟨ti,C,e⟩:=M5 e;cases hb:(V0 ti.desc && !ok)with
  |false=>rw[hb]at e;cases e
  |true=>
   rw[hb]at e;obtain⟨D,rfl⟩:=X1 e;have e:=D;have J:=V x;cases H:dj E x fr with
   |iface u w=>
    rw[H]at e J;have e:(bif Nat.beq u t then zsq w else znq)=zsq v:=e;cases ad:Nat.beq u t with
    |false=>rw[ad]at e;cases e
    |true=>
     rw[ad]at e;cases e;generalize hq:opv E x frc=q at J;cases J with
     |fz z=>cases z
     |iface vw=>
      refine⟨ow,_,h,.same s ?_ vw⟩;show onTI E t Res.bad (fun ti=>bif V0 ti.desc && !ok then lift (aW t (opv E x frc)) h else .bad)=_
      rw[N8 C,hb,hq];show lift (bif Nat.beq u t then zsq _ else znq) h=_
      rw[ad];rfl
   |_=>rw[H]at e;cases e
 |extract x i=>
  have e:(match dj E x fr with | .tup vs=>Km vs[i]? K|_=>.bad)=.val v K':=e;have J:=V x;cases H:dj E x fr with
  |tup vs=>
   rw[H]at e J;obtain⟨D,rfl⟩:=X1 e;have e:=D;generalize hq:opv E x frc=q at J;cases J with
   |fz z=>cases z
   |tup h1 G=>
    rename_i xs;have hl:i<lz xs:=by rw[h1];exact(zqc.1 e).1
    refine⟨ow,xs[i],h,.same s ?_ (G i _ v (zqa hl) e)⟩;show(opv E x frc).onTup Res.bad (fun vs=>lift (Eh vs i) h)=_
    rw[hq];show lift (Eh xs i) h=_
    rw[R1,zqa hl];rfl
  |_=>rw[H]at e;cases e
 |call c=>
  obtain⟨Y,args,ts⟩:=c;cases Y with
  |builtin b=>exact lF hT s hx (Hk hg a args.toList) (Sb e)
  |value g=>
   have e:Na (dj E g fr) (mh E args.toList fr)=.val v K':=e;unfold Na at e;cases ah:dj E g fr with
   |fn f fs cs=>rw[ah]at e;cases f<;>cases e
   |_=>rw[ah]at e;cases e
  |invoke=>cases e
 |panic x=>
  have e:(match dj E x fr with | .iface t v=>OpS.pan (.iface t v)|_=>.bad)=.val v K':=e;split at e<;>cases e
 |_=>cases e
theorem Ho(hg:wO E)(a:FrR Z ow h K.os nt frc fr){op:Op}{f:Nat}{args:List AV}(e:gx E op fr K=.call f args):∃H,VL Z ow h K.os H args/\∀call:E3,fg E call op frc h=call f H h:=by
 have V:=z6 hg a;have B:∀{t:Nat}{g:TI->OpS},(∀ti,g ti≠.call f args)->c9 E t g≠.call f args:=fun{t g} hn e=>by
  unfold c9 at e;cases X:E.ti t with
  |none=>rw[X]at e;cases e
  |some ti=>rw[X]at e;exact hn ti e
 have C:∀{o:Option AV},Km o K≠.call f args:=fun{o} e=>by cases o<;>cases e
 have D:∀{o:Option (AV×PK)},Kx o≠.call f args:=fun{o} e=>by cases o<;>cases e
 cases op with
 |call c=>
  obtain⟨G,N,ts⟩:=c;cases G with
  |builtin b=>exact absurd e D
  |invoke=>cases e
  |value g=>
   have e:Na (dj E g fr) (mh E N.toList fr)=.call f args:=e;unfold Na at e;have U:=V g;cases Q:dj E g fr with
   |fn f' fs cs=>
    rw[Q]at e U;cases f' with
    |func n=>
     cases e;generalize hq:opv E g frc=q at U;cases U with
     |fz z=>cases z
     |fn h1 Y h3 h4=>
      rename_i I J;refine⟨I++(fk E N.toList frc++J),VL.app ⟨h1,Y⟩ (VL.app (Hk hg a N.toList) ⟨h3,h4⟩),fun call=>?_⟩;show Y9 call (opv E g frc) (fk E N.toList frc) h=_
      rw[hq];show call f (ma I (ma (fk E N.toList frc) J)) h=_
      rw[M0,M0]
    |_=>cases e
   |_=>rw[Q]at e;cases e
 |move|assign|makeFunc=>cases e
 |pick c p q=>
  have e:Mz (dj E c fr) (dj E p fr) (dj E q fr) K=.call f args:=e;unfold Mz at e;split at e<;>cases e
 |alloc t=>exact absurd e (B fun ti e=>by cases e)
 |box t x=>exact absurd e (B fun ti e=>by unfold vC at e;split at e<;>cases e)
 |build t ps=>exact absurd e (B fun ti=>C)
 |buildSlice t n ps=>exact absurd e (B fun ti e=>by split at e<;>first|exact D e|cases e)
 |insert=>cases e
 |load=>exact absurd e (B fun ti=>D)
 |store=>exact absurd e (B fun ti=>D)
 |nilCheck=>exact absurd e C
 |binOp op t x y u=>
  have e:f9 E op t (dj E x fr) (dj E y fr) K=.call f args:=e;unfold f9 at e;split at e
  . exact absurd e C
  . cases e
 |unOp=>exact absurd e C
 |convert=>exact absurd e (B fun ti=>B fun td=>C)
 |makeInterface t x=>exact absurd e (B fun ti e=>by cases hp:V0 ti.desc<;>rw[hp]at e<;>cases e)
 |makeMap t r=>cases r<;>cases e
 |makeSlice=>exact absurd e (B fun ti e=>by unfold Zp at e;split at e<;>first|cases e|(split at e<;>cases e))
 |slice t x lo hi mx=>exact absurd e (B fun ti e=>by
  cases hb:(hi.isNone&&mx.isSome)with
  |true=>rw[hb]at e;cases e
  |false=>rw[hb]at e;exact C e)
 |fieldAddr=>exact absurd e (B fun ti=>C)
 |field=>exact absurd e (B fun ti=>C)
 |indexAddr=>exact absurd e (B fun ti=>C)
 |index=>exact absurd e (B fun ti=>C)
 |lookup=>exact absurd e (B fun ti=>C)
 |mapUpdate=>cases e
 |typeAssert x t0 t ok=>exact absurd e (B fun ti e=>by
  cases hb:(V0 ti.desc && !ok)with
  |false=>rw[hb]at e;cases e
  |true=>rw[hb]at e;exact C e)
 |extract x i=>
  have e:(match dj E x fr with | .tup vs=>Km vs[i]? K|_=>.bad)=.call f args:=e;split at e
  . exact absurd e C
  . cases e
 |panic x=>
  have e:(match dj E x fr with | .iface t v=>OpS.pan (.iface t v)|_=>.bad)=.call f args:=e;split at e<;>cases e
 |_=>cases e
theorem gW(hg:wO E)(a:FrR Z ow h K.os nt frc fr){op:Op}(e:gx E op fr K=.pan v):∃vc,VR Z ow h K.os vc v/\∀call:E3,fg E call op frc h=.pan vc h:=by
 have V:=z6 hg a;have B:∀{t:Nat}{g:TI->OpS},(∀ti,g ti≠.pan v)->c9 E t g≠.pan v:=fun{t g} hn e=>by
  unfold c9 at e;cases J:E.ti t with
  |none=>rw[J]at e;cases e
  |some ti=>rw[J]at e;exact hn ti e
 have C:∀{o:Option AV},Km o K≠.pan v:=fun{o} e=>by cases o<;>cases e
 have D:∀{o:Option (AV×PK)},Kx o≠.pan v:=fun{o} e=>by cases o<;>cases e
 cases op with
 |panic x=>
  have e:(match dj E x fr with | .iface t v=>OpS.pan (.iface t v)|_=>.bad)=.pan v:=e;have I:=V x;cases H:dj E x fr with
  |iface t w=>
   rw[H]at e I;cases e;generalize hq:opv E x frc=q at I;cases I with
   |fz z=>cases z
   |iface Q=>exact⟨_,.iface Q,fun call=>by show oS (opv E x frc) h=_;rw[hq];rfl⟩
  |_=>rw[H]at e;cases e
 |call c=>
  obtain⟨G,N,ts⟩:=c;cases G with
  |builtin b=>exact absurd e D
  |invoke=>cases e
  |value g=>
   have e:Na (dj E g fr) (mh E N.toList fr)=.pan v:=e;unfold Na at e;split at e
   . split at e<;>cases e
   . cases e
 |move|assign|makeFunc=>cases e
 |pick c p q=>
  have e:Mz (dj E c fr) (dj E p fr) (dj E q fr) K=.pan v:=e;unfold Mz at e;split at e<;>cases e
 |alloc t=>exact absurd e (B fun ti e=>by cases e)
 |box t x=>exact absurd e (B fun ti e=>by unfold vC at e;split at e<;>cases e)
 |build t ps=>exact absurd e (B fun ti=>C)
 |buildSlice t n ps=>exact absurd e (B fun ti e=>by split at e<;>first|exact D e|cases e)
 |insert=>cases e
 |load=>exact absurd e (B fun ti=>D)
 |store=>exact absurd e (B fun ti=>D)
 |nilCheck=>exact absurd e C
 |binOp op t x y u=>
  have e:f9 E op t (dj E x fr) (dj E y fr) K=.pan v:=e;unfold f9 at e;split at e
  . exact absurd e C
  . cases e
 |unOp=>exact absurd e C
 |convert=>exact absurd e (B fun ti=>B fun td=>C)
 |makeInterface t x=>exact absurd e (B fun ti e=>by cases U:V0 ti.desc<;>rw[U]at e<;>cases e)
 |makeMap t r=>cases r<;>cases e
 |makeSlice=>exact absurd e (B fun ti e=>by unfold Zp at e;split at e<;>first|cases e|(split at e<;>cases e))
 |slice t x lo hi mx=>exact absurd e (B fun ti e=>by
  cases hb:(hi.isNone&&mx.isSome)with
  |true=>rw[hb]at e;cases e
  |false=>rw[hb]at e;exact C e)
 |fieldAddr=>exact absurd e (B fun ti=>C)
 |field=>exact absurd e (B fun ti=>C)
 |indexAddr=>exact absurd e (B fun ti=>C)
 |index=>exact absurd e (B fun ti=>C)
 |lookup=>exact absurd e (B fun ti=>C)
 |mapUpdate=>cases e
 |typeAssert x t0 t ok=>exact absurd e (B fun ti e=>by
  cases hb:(V0 ti.desc && !ok)with
  |false=>rw[hb]at e;cases e
  |true=>rw[hb]at e;exact C e)
 |extract x i=>
  have e:(match dj E x fr with | .tup vs=>Km vs[i]? K|_=>.bad)=.pan v:=e;split at e
  . exact absurd e C
  . cases e
 |_=>cases e
end
section
variable {E:Env}{R:AV->AV->Prop}{Z Z':Nat->Prop}{ow ow' ow1 ow2:Nat->Option (List Nat)}{h h':Vg}{K K':PK}{os os' os1 os2:List PO}{x y xc yc v k:AV}{L M:List Nat}{nt:Nat}{frc:Tr}{fr:PF}{σ:Nat->Option Nat}
theorem jr(σ:Nat->Option Nat):∀l:List AV,renL σ l=l.map (J7 σ)
 |[]=>rfl
 |v::l=>by rw[renL,jr σ l];rfl
theorem gX{c:AV}(h:clo c=zt):J7 σ c=c:=by cases c<;>first|rfl|cases h
theorem zA(f:Fz Z h x y):J7 σ y=y:=by
 cases f with
 |agg h1 h2 h3=>
  rename_i xs ys;show AV.agg (renL σ ys)=.agg ys
  rw[jr]
  have:ys.map (J7 σ)=ys:=by
   conv=>rhs;rw[<-List.map_id ys]
   grind[List.map_congr_left,gX]
  rw[this]
 |_=>rfl
theorem nK(v:AV):fh (J7 σ v)=fh v:=by
 cases v with
 |msl id off n sz=>unfold J7;cases σ id<;>rfl
 |ptr id i o=>unfold J7;cases σ id<;>rfl
 |map id=>unfold J7;cases σ id<;>rfl
 |_=>rfl
theorem Kq(v:AV):(J7 σ v).cells=v.cells.map (J7 σ)/\fh (J7 σ v)=fh v:=by
 refine⟨?_,nK v⟩;cases B:fh v with
 |false=>grind[D7,nK]
 |true=>
  cases v with
  |agg cs=>show renL σ cs=_;rw[jr];rfl
  |_=>cases B
theorem vO{c:AV}(h:Gi c=zt\/c=.und):Gi (J7 σ c)=zt\/J7 σ c=.und:=by
 rcases h with h|rfl
 . cases c with
   |msl id off n sz=>unfold J7;cases σ id<;>first|exact .inl rfl|grind
   |ptr id i o=>unfold J7;cases σ id<;>first|exact .inl rfl|grind
   |map id=>unfold J7;cases σ id<;>first|exact .inl rfl|grind
   |agg=>cases h
   |tup=>cases h
   |any=>exact .inr rfl
   |und=>exact .inr rfl
   |_=>exact .inl rfl
 . exact .inr rfl
def Ren(σ:Nat->Option Nat)(ow:Nat->Option (List Nat))(os:List PO)(ow':Nat->Option (List Nat))(os':List PO):Prop:=∀id j,σ id=zsq j->id<lz os->j<lz os'/\∀B,loP os' 6 j=zsq B->∃L,loP os 6 id=zsq L/\∀c,ow c=zsq L↔ow' c=zsq B
theorem VR.ren(v:VR Z ow h os x y)(hZ:∀id,Z id->Z' id/\h'.get id=h.get id)(G:Ren σ ow os ow' os'):VR Z' ow' h' os' x (J7 σ y):=by
 have H:∀{xs ys:List AV},lz xs=lz ys->(∀(i:Nat) x y,xs[i]?=zsq x->ys[i]?=zsq y->VR Z' ow' h' os' x (J7 σ y))->lz xs=lz (renL σ ys)/\∀(i:Nat) x y,xs[i]?=zsq x->(renL σ ys)[i]?=zsq y->VR Z' ow' h' os' x y:=(by grind[Go.AM.jr])
 induction v with
 |fz f=>rw[zA f];exact .fz (f.mono hZ)
 |und=>exact .und
 |any=>exact .und
 |@msl id c off n sz h1 B=>
  unfold J7;cases C:σ id with
  |none=>exact .und
  |some j=>
   obtain⟨a,b⟩:=G id j C B;exact .msl (by grind) a
 |@mnil x id sz e h1 B=>
  unfold J7;cases C:σ id with
  |none=>exact .und
  |some j=>
   obtain⟨a,b⟩:=G id j C B;exact .mnil e (by grind) a
 |@ptr id c i off h1 B=>
  unfold J7;cases C:σ id with
  |none=>exact .und
  |some j=>
   obtain⟨a,b⟩:=G id j C B;exact .ptr (by grind) a
 |@map id c h1 B=>
  unfold J7;cases C:σ id with
  |none=>exact .und
  |some j=>
   obtain⟨a,b⟩:=G id j C B;exact .map (by grind) a
 |agg h1 _ D=>obtain⟨a,b⟩:=H h1 D;exact .agg a b
 |tup h1 _ D=>obtain⟨a,b⟩:=H h1 D;exact .tup a b
 |fn h1 _ N _ I J=>obtain⟨a,b⟩:=H h1 I;obtain⟨c,d⟩:=H N J;exact .fn a b c d
 |iface _ D=>exact .iface D
theorem VL.ren{xs ys:List AV}(v:VL Z ow h os xs ys)(hZ:∀id,Z id->Z' id/\h'.get id=h.get id)(D:Ren σ ow os ow' os'):VL Z' ow' h' os' xs (renL σ ys):=by
 rw[jr];refine⟨by simpa using v.1,fun i x y G B=>?_⟩;rw[zqg]at B;cases C:ys[i]? with
 |none=>grind
 |some q=>rw[C]at B;cases B;exact(v.2 i x q G C).ren hZ D
theorem sy.ren{r j c sz:Nat}{es ces:List AV}(g:sy (VR Z ow h os) ow h r es sz c ces)(hZ:∀id,Z id->Z' id/\h'.get id=h.get id)(I:Ren σ ow os ow' os')(ho:ow' c=zsq [j])(hn:h.next<=h'.next)(hg:h'.get c=h.get c)(G:∀a t,ow' a=zsq (j::t)->t=[]):sy (VR Z' ow' h' os') ow' h' j (renL σ es) sz c ces:=by
 refine⟨ho,zkf g.lt hn,hg.trans g.get,?_,fun i x y H B o a b ha hb=>?_,fun i y B b hb=>?_,G⟩
 . rw [jr]
   refine⟨by simpa using g.sh.1,fun i x y H B=>?_⟩;rw[zqg]at B;cases C:es[i]? with
   |none=>grind
   |some q=>
    rw[C]at B;cases B
    have:=g.sh.2 i x q H C
    grind[Kq]
 . rw [jr,zqg]at B
   cases C:es[i]? with
   |none=>grind
   |some q=>
    rw[C]at B;cases B;rw[(Kq q).1,zqg]at hb;cases D:q.cells[o]? with
    |none=>grind
    |some w=>rw[D]at hb;cases hb;exact(g.vr i x q H C o a w ha D).ren hZ I
 . rw [jr,zqg]at B
   cases C:es[i]? with
   |none=>grind
   |some q=>
    rw[C]at B;cases B;rw[(Kq q).1]at hb;obtain⟨w,D,rfl⟩:=zqm.1 hb;exact vO (g.okp i q C w D)
theorem ef:∀(l:List Nat)(id j:Nat),dk l id=zsq j->l[j]?=zsq id
 |[],_,_,e=>by cases e
 |a :: l,id,j,e=>by
  unfold dk at e;split at e
  . grind
  . cases B:dk l id with
    |none=>grind
    |some m=>rw[B]at e;cases e;exact ef l id m B
theorem I9:∀(l:List Nat)(id j:Nat),l.Nodup->l[j]?=zsq id->dk l id=zsq j
 |[],_,_,_,e=>by simp at e
 |a::l,id,0,_,e=>by cases e;unfold dk;grind
 |a::l,id,j+1,hn,e=>by
  have hn:=zqv.1 hn;have B:a≠id:=(by grind)
  unfold dk;rw[if_neg B,I9 l id j hn.2 (by grind)];rfl
theorem Ar(s:Nat->List Nat):∀(n:Nat)(C B:List Nat),B.Nodup->(d8 s n C B).Nodup/\∃m,d8 s n C B=B++m
 |0,_,B,h=>⟨h,[],by simp[d8]⟩
 |n+1,[],B,h=>⟨h,[],by simp[d8]⟩
 |n + 1,id::C,B,h=>by
  unfold d8;split
  . exact Ar s n C B h
  . rename_i hm
    have h1:(B++[id]).Nodup:=(by grind)
    obtain⟨a,m,b⟩:=Ar s n (C++s id) (B++[id]) h1;grind
def nj(σ:Nat->Option Nat)(ow:Nat->Option (List Nat)):Nat->Option (List Nat):=fun d=>match ow d with
 |some (r::t)=>(match σ r with|some j=>zsq (j::t)|none=>znq)
 |_=>znq
theorem E5{d:Nat}{M:List Nat}:nj σ ow d=zsq M↔∃r j t,ow d=zsq (r::t)/\σ r=zsq j/\M=j::t:=by
 unfold nj;grind
theorem lx(os:List PO)(id:Nat):(os[id]?=zsq (dr os id))\/(os[id]?=znq/\dr os id=.dead):=by
 unfold dr;grind
theorem Vv(s:G6 Z ow h os){ids:List Nat}(hn:ids.Nodup){f:PO->PO}(hf:∀e,f e=e\/((∃p i o,e=.sub p i o)/\f e=.dead))(aa:os'=ids.map fun id=>f (dp (dk ids) (dr os id))):
 G6 Z (nj (dk ids) ow) h os'/\Ren (dk ids) ow os (nj (dk ids) ow) os':=by
 have H:∀(j:Nat) e,os'[j]?=zsq e->∃id,ids[j]?=zsq id/\e=f (dp (dk ids) (dr os id)):=(by grind)
 have J:∀(j:Nat) k es sz,os'[j]?=zsq (.row k es sz)->∃id es0,ids[j]?=zsq id/\os[id]?=zsq (.row k es0 sz)/\((k=0/\es=es0)\/(k≠0/\es=renL (dk ids) es0)):=fun j k es sz C=>by
  obtain ⟨id,h1,D⟩:=H j _ C;have B:dp (dk ids) (dr os id)=.row k es sz:=by
   grind
  rcases lx os id with G|⟨_,G⟩
  . cases I:dr os id with
    |row k' es' Y=>
     rw[I]at B G;cases k' with
     |_=>cases B;grind
    |sub p i o=>grind[dp]
    |_=>rw[I]at B;cases B
  . rw[G]at B;cases B
 have Q:∀(j:Nat) es,os'[j]?=zsq (.mapo es)->∃id,ids[j]?=zsq id/\os[id]?=zsq (.mapo es):=fun j es C=>by
  obtain ⟨id,h1,D⟩:=H j _ C;have B:dp (dk ids) (dr os id)=.mapo es:=by
   grind
  rcases lx os id with G|⟨_,G⟩
  . cases I:dr os id with
    |row k' es' Y=>rw[I]at B;cases k'<;>cases B
    |mapo=>rw[I]at B G;cases B;grind
    |sub p i o=>grind[dp]
    |dead=>rw[I]at B;cases B
  . rw[G]at B;cases B
 have U:∀(j:Nat) p i o,os'[j]?=zsq (.sub p i o)->∃id p0,ids[j]?=zsq id/\os[id]?=zsq (.sub p0 i o)/\dk ids p0=zsq p:=fun j p i o C=>by
  obtain ⟨id,h1,D⟩:=H j _ C;have B:dp (dk ids) (dr os id)=.sub p i o:=by
   grind
  rcases lx os id with G|⟨_,G⟩
  . cases I:dr os id with
    |row k' es' Y=>rw[I]at B;cases k'<;>cases B
    |sub p0 i0 o0=>
     grind[dp]
    |_=>rw[I]at B;cases B
  . rw[G]at B;cases B
 have V:lz os'=lz ids:=by grind
 have ho:∀d (j id:Nat) t,ids[j]?=zsq id->(nj (dk ids) ow d=zsq (j::t)↔ow d=zsq (id::t)):=fun d j id t C=>by
  rw[E5]
  constructor
  . rintro⟨r,j',t',h1,D,B⟩
    cases B
    have:=ef ids r _ D
    grind
  . exact fun h1=>⟨id,j,t,h1,I9 ids id j hn C,rfl⟩
 have ac:∀(n j:Nat)(N:List Nat),loP os' n j=zsq N->∃id r q t,ids[j]?=zsq id/\loP os n id=zsq (r::t)/\dk ids r=zsq q/\N=q::t:=fun n=>by
  induction n with
  |zero=>exact fun j N e=>by cases e
  |succ n ih=>
   intro j N e;unfold loP at e;cases C:os'[j]? with
   |none=>grind
   |some en=>
    rw[C]at e;cases en with
    |row k es sz=>
     cases e;obtain⟨id,es0,h1,D,_⟩:=J j k es sz C;exact⟨id,id,j,[],h1,by grind[loP],I9 ids id j hn h1,rfl⟩
    |mapo es=>
     cases e;obtain⟨id,h1,D⟩:=Q j es C;exact⟨id,id,j,[],h1,by grind[loP],I9 ids id j hn h1,rfl⟩
    |dead=>cases e
    |sub p i o=>
     simp only at e;cases hp:loP os' n p with
     |none=>grind
     |some Lp=>
      rw[hp]at e;cases e;obtain⟨id,p0,h1,D,B⟩:=U j p i o C;obtain⟨id',r,q,t,G,h5,X,rfl⟩:=ih p Lp hp
      have:id'=p0:=by
       have:=ef ids p0 p B
       grind
      subst this;exact⟨id,r,q,t++[i,o],h1,by grind[loP],X,by simp⟩
 have hR:Ren (dk ids) ow os (nj (dk ids) ow) os':=fun id j C _=>by
  have hj':=ef ids id j C;refine⟨by grind,fun N ab=>?_⟩;obtain⟨id',r,q,t,h1,D,B,rfl⟩:=ac 6 j N ab;grind[ef]
 refine⟨⟨fun j es sz C=>?_,fun j k es sz C hk=>?_,fun j es C=>?_,fun a b M ha hb=>?_,fun a M ha=>?_,s.zb,fun j p i o C=>?_⟩,hR⟩
 . obtain ⟨id,es0,h1,D,B⟩:=J j 0 es sz C
   rcases B with⟨_,rfl⟩|⟨B,_⟩
   . obtain⟨x,hx⟩:=s.row id es sz D
     exact⟨x,hx.reloc (zke _) (fun _ hz=>⟨hz,rfl⟩) (fun d t=>ho d j id t h1) (fun _ _ _=>rfl)⟩
   grind
 . obtain ⟨id,es0,h1,D,B⟩:=J j k es sz C
   rcases B with⟨B,_⟩|⟨_,rfl⟩
   . grind
   . obtain⟨c,ces,g⟩:=s.raw id k es0 sz D hk
     exact⟨c,ces,g.ren (fun _ hz=>⟨hz,rfl⟩) hR ((ho c j id [] h1).2 g.o) (zke _) rfl (fun a t ha=>g.no a t ((ho a j id t h1).1 ha))⟩
 . obtain⟨id,h1,D⟩:=Q j es C
   obtain⟨c,ces,g⟩:=s.map id es D;exact⟨c,ces,(ho c j id [] h1).2 g.o,g.lt,g.get,g.len,g.kv,fun a t ha=>g.no a t ((ho a j id t h1).1 ha)⟩
 . obtain⟨r,j,t,h1,D,rfl⟩:=E5.1 ha
   obtain⟨r',j',t',B,G,h5⟩:=E5.1 hb;cases h5;have e1:=ef ids r j D;have e2:=ef ids r' _ G;rw[e1]at e2;cases e2;exact s.inj _ _ _ h1 B
 . obtain ⟨r,j,t,h1,D,rfl⟩:=E5.1 ha
   obtain⟨B,G,r',t',h5,X⟩:=s.live a _ h1;cases h5;refine⟨B,G,j,t,rfl,?_⟩;have C:=ef ids r j D;unfold ek at X|-;rw[aa,zqg,C];show(match zsq (f (dp (dk ids) (dr os r)))with|some (.row _ _ _)=>zt|some (.mapo _)=>zt|_=>zf)=zt
   unfold dr;cases I:os[r]? with
   |none=>grind
   |some e=>
    rw[I]at X;cases e with
    |row k es sz=>
     have:f (dp (dk ids) (.row k es sz))=dp (dk ids) (.row k es sz):=by
      grind[dp]
     simp only[this];cases k<;>rfl
    |mapo es=>
     grind[dp]
    |_=>cases X
 . obtain⟨id,p0,h1,D,B⟩:=U j p i o C
   rw[V];exact(zqc.1 (ef ids p0 p B)).1
theorem vP{keep:List Nat}:(fu keep fr K).Nodup/\∀j,j<K.ext->(fu keep fr K)[j]?=zsq j:=by
 grind[fu,Ar]
theorem oz(σ:Nat->Option Nat)(fr:PF):∀(keep:List Nat)(i:Nat),FR (keep.map fun i=>(i,J7 σ (FR fr i))) i=J7 σ (FR fr i)\/FR (keep.map fun i=>(i,J7 σ (FR fr i))) i=.und
 |[],i=>.inr rfl
 |k::keep,i=>by
  show(if k=i then J7 σ (FR fr k)else FR (keep.map fun i=>(i,J7 σ (FR fr i))) i)=_\/(if k=i then J7 σ (FR fr k)else FR (keep.map fun i=>(i,J7 σ (FR fr i))) i)=_
  by_cases e:k=i
  . grind
  . rw[if_neg e];exact oz σ fr keep i
theorem vQ{ids:List Nat}{j:Nat}(hj:ids[j]?=zsq j){ext:Nat}{tch:List Nat}:ek (GA ids K ext tch).os j=zt->ek K.os j=zt:=by
 intro B;unfold ek at B|-
 have:(GA ids K ext tch).os[j]?=zsq (dp (dk ids) (dr K.os j)):=by
  show(ids.map fun id=>dp (dk ids) (dr K.os id))[j]?=_
  grind
 rw[this]at B;unfold dr at B;cases C:K.os[j]? with
 |none=>rw[C]at B;cases B
 |some e=>
  rw[C]at B;cases e with
  |dead=>cases B
  |sub p i o=>
   grind[dp]
  |_=>rfl
theorem Nk(s:G6 Z ow h K.os)(a:FrR Z ow h K.os nt frc fr)(keep:List Nat):∃ow',G6 Z ow' h (M4 keep fr K).2.os/\FrR Z ow' h (M4 keep fr K).2.os nt frc (M4 keep fr K).1/\Stp K.ext Z ow h K Z ow' h (M4 keep fr K).2/\K.ext<=(M4 keep fr K).2.os.length/\∀id,id<K.ext->id<lz K.os->∀D,loP (M4 keep fr K).2.os 6 id=zsq D->∃L,loP K.os 6 id=zsq L/\∀c,ow c=zsq L↔ow' c=zsq D:=by
 obtain⟨hn,I⟩:=vP (fr:=fr) (K:=K) (keep:=keep);obtain⟨h1,J⟩:=Vv s hn (f:=id) (fun e=>.inl rfl) (os':=(M4 keep fr K).2.os) rfl;have H:∀j,j<K.ext->dk (fu keep fr K) j=zsq j:=fun j C=>I9 _ _ _ hn (I j C)
 have hlen:(M4 keep fr K).2.os.length=lz (fu keep fr K):=by show((fu keep fr K).map _).length=_;simp
 refine⟨_,h1,⟨fun i=>?_,a.has⟩,⟨zke _,fun _ hz=>⟨hz,rfl⟩,fun _ hz=>.inl hz,fun _ _ _=>rfl,fun d M G _ e=>?_,⟨[],rfl,fun d G=>by cases G⟩,fun d r t ho B=>?_,fun r B hl=>?_,rfl,fun j C c B=>?_,fun j C B=>vQ (I j C) B⟩,?_,fun id hi hl=>(J id id (H id hi) hl).2⟩
 . rcases oz (dk (fu keep fr K)) fr keep i with e|e
   . show VR _ _ _ _ _ (FR (keep.map fun i=>(i,J7 (dk (fu keep fr K)) (FR fr i))) i)
     rw[e];exact(a.v i).ren (fun _ hz=>⟨hz,rfl⟩) J
   . show VR _ _ _ _ _ (FR (keep.map fun i=>(i,J7 (dk (fu keep fr K)) (FR fr i))) i)
     rw[e];exact .und
 . grind[E5]
 . exact .inl ⟨t,E5.2 ⟨r,r,t,ho,H r B,rfl⟩⟩
 . exact zqr.2 ⟨B,by grind⟩
 . rw[E5]
   constructor
   . grind
   grind[ef]
 grind
end
section
variable {E:Env}{R:AV->AV->Prop}{Z Z' Z1:Nat->Prop}{ow ow' ow1 ow2:Nat->Option (List Nat)}{h h' h1:Vg}{K K' K1:PK}{os os' os1 os2:List PO}{x y xc yc v k:AV}{L M:List Nat}{nt:Nat}{frc:Tr}{fr:PF}{σ:Nat->Option Nat}
theorem Oy(os:List PO)(ids:List Nat):∀(l:List PO)(n j:Nat),(kn os ids n l)[j]?=(l[j]?).map fun e=>match e with | .sub p i o=>if ids.contains (n+j)||(ei os 6 p).any (fun q=>ids.contains q)then .dead else .sub p i o|e=>e
 |[],n,j=>by simp[kn]
 |e::l,n,0=>rfl
 |e::l,n,j+1=>by
  show(kn os ids (n+1) l)[j]?=(l[j]?).map _
  rw[Oy os ids l (n+1) j,show n+1+j=n+(j+1) by omega]
theorem Zy(os:List PO)(ids:List Nat):∀(l:List PO)(n:Nat),lz (kn os ids n l)=lz l
 |[],_=>rfl
 |e::l,n=>congrArg Nat.succ (Zy os ids l (n+1))
theorem vR(os:List PO)(ids:List Nat):Wk os (kn os ids 0 os):=by
 refine⟨Zy _ _ _ _,fun j=>?_⟩;rw[Oy];grind
theorem Zz{ids:List Nat}{j p i o:Nat}(e:(kn os ids 0 os)[j]?=zsq (.sub p i o)):(∀q∈ei os 6 p,¬q∈ids)/\¬j∈ids:=by
 rw[Oy]at e;grind
theorem Vw:∀(n id:Nat),cg os n id∈ei os n id
 |0,id=>zqs.2 rfl
 |n+1,id=>by
  unfold cg ei;cases os[id]? with
  |none=>grind
  |some e=>
   cases e with
   |sub p i o=>exact zqp _ (Vw n p)
   |_=>grind
theorem GG{n m id:Nat}(B:n<=m)(e:loP os n id=zsq L):loP os m id=zsq L:=by
 induction B with
 |refl=>exact e
 |step _ C=>exact Nf _ _ _ C
def PH(ρ:Nat->Option Nat)(os os':List PO)(id:Nat)(e:PO):Prop:=
 (∃k es sz k' es' B,os[id]?=zsq (.row k es sz)/\e=.row k' es' B/\os'[id]?=zsq (dp ρ e))\/(∃k es sz,os[id]?=zsq (.row k es sz)/\e=.dead/\os'[id]?=zsq .dead)\/(∃es es',os[id]?=zsq (.mapo es)/\e=.mapo es'/\os'[id]?=zsq (.mapo es'))\/(ek os id=zf/\e=.dead/\os'[id]?=os[id]?)
theorem f8{ρ:Nat->Option Nat}:∀(ids:List Nat)(l os os':List PO),im ρ ids l os=zsq os'->ids.Nodup->lz os'=lz os/\(∀r,¬r∈ids->os'[r]?=os[r]?)/\∀(j id:Nat),ids[j]?=zsq id->∃e,l[j]?=zsq e/\PH ρ os os' id e
 |[],l,os,os',e,_=>by cases e;grind
 |id::ids,[],os,os',e,_=>by cases e
 |id :: ids,a::l,os,os',e,hn=>by
  have hn:=zqv.1 hn;have step:∀{H:PO},id<lz os->im ρ ids l (os.set id H)=zsq os'->lz os'=lz os/\(∀r,¬r∈id::ids->os'[r]?=os[r]?)/\os'[id]?=zsq H/\∀(j id':Nat),ids[j]?=zsq id'->∃e,l[j]?=zsq e/\PH ρ os os' id' e:=fun{H} hl J=>by
   obtain⟨h1,C,D⟩:=f8 ids l _ os' J hn.2;refine⟨by grind,fun r hr=>?_,?_,fun j id' B=>?_⟩
   . grind
   . grind
   . obtain⟨e,I,h5⟩:=D j id' B
     grind[PH,ek]
  unfold im at e;cases G:os[id]? with
  |none=>
   rw[G]at e;simp only at e;cases a with
   |dead=>
    obtain⟨h1,C,D⟩:=f8 ids l os os' e hn.2;refine⟨h1,(by grind),fun j id' B=>?_⟩;cases j with
    |zero=>cases B;exact⟨.dead,rfl,.inr (.inr (.inr ⟨by grind[ek],rfl,C _ hn.1⟩))⟩
    |succ j=>grind
   |_=>cases e
  |some b=>
   have hl:id<lz os:=(zqc.1 G).1;rw[G]at e;cases b with
   |row k es sz=>
    simp only at e;cases a with
    |row k' es' sz'=>
     obtain⟨h1,C,D,I⟩:=step hl e;refine⟨h1,C,fun j id' B=>?_⟩;cases j with
     |zero=>cases B;exact⟨_,rfl,.inl ⟨_,_,_,_,_,_,G,rfl,D⟩⟩
     |succ j=>grind
    |dead=>
     obtain⟨h1,C,D,I⟩:=step hl e;refine⟨h1,C,fun j id' B=>?_⟩;cases j with
     |zero=>cases B;exact⟨_,rfl,.inr (.inl ⟨_,_,_,G,rfl,D⟩)⟩
     |succ j=>grind
    |_=>cases e
   |mapo es=>
    simp only at e;cases a with
    |mapo es'=>
     obtain⟨h1,C,D,I⟩:=step hl e;refine⟨h1,C,fun j id' B=>?_⟩;cases j with
     |zero=>cases B;exact⟨_,rfl,.inr (.inr (.inl ⟨_,_,G,rfl,D⟩))⟩
     |succ j=>grind
    |_=>cases e
   |sub p i o=>
    simp only at e;cases a with
    |dead=>
     obtain⟨h1,C,D⟩:=f8 ids l os os' e hn.2;refine⟨h1,(by grind),fun j id' B=>?_⟩;cases j with
     |zero=>cases B;exact⟨.dead,rfl,.inr (.inr (.inr ⟨by grind[ek],rfl,C _ hn.1⟩))⟩
     |succ j=>grind
    |_=>cases e
   |dead=>
    simp only at e;cases a with
    |dead=>
     obtain⟨h1,C,D⟩:=f8 ids l os os' e hn.2;refine⟨h1,(by grind),fun j id' B=>?_⟩;cases j with
     |zero=>cases B;exact⟨.dead,rfl,.inr (.inr (.inr ⟨by grind[ek],rfl,C _ hn.1⟩))⟩
     |succ j=>grind
    |_=>cases e
theorem gY(s:G6 Z ow h K.os)(hx:K.ext<=lz K.os){ids:List Nat}(hn:ids.Nodup)(s1:G6 Z1 ow1 h1 K1.os)(st:Stp (lz ids) Z (nj (dk ids) ow) h (ke ids K) Z1 ow1 h1 K1)(V:jp ids K K1=zsq K'):
 ∃ow',G6 Z1 ow' h1 K'.os/\df ow K.os ow' K'.os/\(∀b,Stp b Z ow h K Z1 ow' h1 K')/\Ren (dt ids (lz K.os)) ow1 K1.os ow' K'.os:=by
 unfold jp at V;split at V
 rotate_left
 . cases V
 rename_i ax;have ae:∀i∈ids,i<lz K.os:=fun i hi=>by simpa using zqf.1 ax i hi
 cases hp:im (dt ids (lz K.os)) ids K1.os (kn K.os ids 0 K.os)with
 |none=>rw[hp]at V;cases V
 |some B=>
  rw [hp]at V;cases V;have w:=vR K.os ids;obtain⟨p1,p2,p3⟩:=f8 ids K1.os _ B hp hn;have hbl:lz B=lz K.os:=p1.trans w.1;have hext:(ke ids K).ext=lz ids:=rfl;have a9:∀(j id:Nat),ids[j]?=zsq id->ek (ke ids K).os j=ek K.os id:=fun j id G=>by
   unfold ek
   have:(ke ids K).os[j]?=zsq (rb (dp (dk ids) (dr K.os id))):=by
    show(ids.map fun id=>rb (dp (dk ids) (dr K.os id)))[j]?=_
    rw[zqg,G];rfl
   rw[this];unfold dr;cases he:K.os[id]? with
   |none=>rfl
   |some e=>
    cases e with
    |row k es sz=>cases k<;>rfl
    |sub p i o=>
     show(match zsq (rb (match dk ids p with|some q=>PO.sub q i o|none=>.dead))with|some (.row _ _ _)=>zt|some (.mapo _)=>zt|_=>zf)=zf
     cases dk ids p<;>rfl
    |_=>rfl
  have hkind:∀(j id:Nat),ids[j]?=zsq id->ek K1.os j=zt->ek K.os id=zt/\id<lz K.os:=fun j id G D=>by
   have ac:j<lz ids:=(zqc.1 G).1
   have:=st.rd j ac D
   rw[a9 j id G]at this;exact⟨this,fj this⟩
  have ay:∀(j id:Nat),ids[j]?=zsq id->dt ids (lz K.os) j=zsq id:=fun j id G=>by unfold dt;rw[G]
  have hb2:∀j,lz ids<=j->dt ids (lz K.os) j=zsq (lz K.os+(j-lz ids)):=fun j G=>by
   unfold dt;rw[List.getElem?_eq_none G]
  have aa:∀j r,dt ids (lz K.os) j=zsq r->ids[j]?=zsq r\/(lz ids<=j/\r=lz K.os+(j-lz ids)):=fun j r D=>by
   unfold dt at D;cases I:ids[j]? with
   |some id=>rw[I]at D;cases D;exact .inl rfl
   |none=>rw[I]at D;cases D;exact .inr ⟨by simpa using I,rfl⟩
  let ow':Nat->Option (List Nat):=fun d=>match nj (dt ids (lz K.os)) ow1 d with
   |some M=>zsq M
   |none=>if d<h.next/\(nj (dk ids) ow d).isNone=zt then ow d else znq
  have af:∀d r t,ow' d=zsq (r::t)↔(∃j,ow1 d=zsq (j::t)/\dt ids (lz K.os) j=zsq r)\/(nj (dk ids) ow d=znq/\d<h.next/\ow d=zsq (r::t)):=fun d r t=>by
   show (match nj (dt ids (lz K.os)) ow1 d with
    |some M=>zsq M
    |none=>if d<h.next/\(nj (dk ids) ow d).isNone=zt then ow d else znq)=zsq (r::t)↔_
   cases I:nj (dt ids (lz K.os)) ow1 d with
   |some M=>
    simp only;obtain⟨r',j,t',H,X,U⟩:=E5.1 I
    constructor
    . intro e;cases e;cases U;exact .inl ⟨r',H,X⟩
    . rintro (⟨Y,J,C⟩|⟨J,C,b3⟩)
      . rw[H]at J;cases J
        rw[X]at C;cases C;rw[U]
      . exact absurd J (st.uo d _ H C)
   |none=>
    simp only
    constructor
    . intro e
      split at e
      . rename_i hc
        refine .inr ⟨?_,hc.1,e⟩;cases h2:nj (dk ids) ow d with
        |none=>rfl
        |some M=>rw[h2]at hc;cases hc.2
      . cases e
    . rintro(⟨Y,J,C⟩|⟨J,C,b3⟩)
      . rw[E5.2 ⟨Y,r,t,J,C,rfl⟩]at I;cases I
      . rw[if_pos ⟨C,by rw[J];rfl⟩];exact b3
  have ar:∀d M,ow' d=zsq M->∃r t,M=r::t:=fun d M Q=>by
   have Q:(match nj (dt ids (lz K.os)) ow1 d with
    |some M=>zsq M
    |none=>if d<h.next/\(nj (dk ids) ow d).isNone=zt then ow d else znq)=zsq M:=Q
   cases I:nj (dt ids (lz K.os)) ow1 d with
   |some N=>
    rw[I]at Q;cases Q;obtain⟨_,j,t,_,_,U⟩:=E5.1 I;exact⟨j,t,U⟩
   |none=>
    rw[I]at Q;simp only at Q;split at Q
    . obtain⟨_,_,r,t,a,_⟩:=s.live d M Q;exact⟨r,t,a⟩
    . cases Q
  have ah:∀d r t,ow d=zsq (r::t)->r<lz K.os:=fun d r t Q=>by
   obtain⟨_,_,r',t',a,b⟩:=s.live d _ Q;cases a;exact fj b
  have al:∀d r t,ow d=zsq (r::t)->¬r∈ids->nj (dk ids) ow d=znq:=fun d r t Q D=>by
   cases I:nj (dk ids) ow d with
   |none=>rfl
   |some M=>
    obtain⟨r',j,t',H,X,_⟩:=E5.1 I;rw[Q]at H;cases H;exact absurd (zqb (ef ids r j X)) D
  have hB:∀d r t,¬r∈ids->r<lz K.os->(ow' d=zsq (r::t)↔ow d=zsq (r::t)):=fun d r t D hl=>by
   rw[af]
   constructor
   . grind
   . exact fun Q=>.inr ⟨al d r t Q D,(s.live d _ Q).1,Q⟩
  have hC:∀d (j r:Nat) t,ids[j]?=zsq r->r<lz K.os->(ow' d=zsq (r::t)↔ow1 d=zsq (j::t)):=fun d j r t G hl=>by
   rw[af]
   constructor
   . rintro (⟨Y,J,C⟩|⟨J,_,b3⟩)
     . rcases aa Y r C with c|⟨_,c⟩
       . have:=I9 ids r Y hn c
         rw[I9 ids r j hn G]at this;grind
       . omega
     . rw[E5.2 ⟨r,j,t,b3,I9 ids r j hn G,rfl⟩]at J;cases J
   grind
  have hD:∀d j t,lz ids<=j->(ow' d=zsq ((lz K.os+(j-lz ids))::t)↔ow1 d=zsq (j::t)):=fun d j t G=>by
   rw[af];grind
  have hz:∀d,Z d->Z1 d/\h1.get d=h.get d:=st.zz;have au:∀d r t,ow d=zsq (r::t)->¬r∈ids->h1.get d=h.get d:=fun d r t Q D=>st.un d (s.live d _ Q).1 (al d r t Q D)
  have az:∀{r:Nat}{e:PO},(B++(K1.os.drop (lz ids)).map (dp (dt ids (lz K.os))))[r]?=zsq e->(¬r∈ids/\r<lz K.os/\(kn K.os ids 0 K.os)[r]?=zsq e)\/(∃j e1,ids[j]?=zsq r/\r<lz K.os/\K1.os[j]?=zsq e1/\PH (dt ids (lz K.os)) (kn K.os ids 0 K.os) B r e1/\B[r]?=zsq e)\/∃j e1,lz ids<=j/\r=lz K.os+(j-lz ids)/\K1.os[j]?=zsq e1/\e=dp (dt ids (lz K.os)) e1:=fun{r e} D=>by
   rw[List.getElem?_append]at D;split at D
   . rename_i hl
     by_cases V:r∈ids
     . obtain⟨j,G⟩:=zqe V
       obtain⟨e1,q1,q2⟩:=p3 j r G;exact .inr (.inl ⟨j,e1,G,by omega,q1,q2,D⟩)
     grind
   grind
  have ag:∀{e1:PO}{k es sz},dp (dt ids (lz K.os)) e1=.row k es sz->∃es0,e1=.row k es0 sz/\((k=0/\es=es0)\/(k≠0/\es=renL (dt ids (lz K.os)) es0)):=fun{e1 k es sz} he=>by
   cases e1 with
   |row k' es' ak=>
    cases k' with
    |_=>cases he;grind
   |sub p i o=>unfold dp at he;simp only at he;cases I:dt ids (lz K.os) p<;>rw[I]at he<;>cases he
   |_=>cases he
  have ad:∀{r:Nat}{e:PO},(B++(K1.os.drop (lz ids)).map (dp (dt ids (lz K.os))))[r]?=zsq e->(¬r∈ids/\r<lz K.os/\(kn K.os ids 0 K.os)[r]?=zsq e)\/(∃j e1,K1.os[j]?=zsq e1/\e=dp (dt ids (lz K.os)) e1/\(∀d t,ow' d=zsq (r::t)↔ow1 d=zsq (j::t))/\dt ids (lz K.os) j=zsq r/\((ids[j]?=zsq r/\ek K.os r=zt)\/lz ids<=j))\/e=.dead:=fun{r e} D=>by
   rcases az D with a|⟨j,e1,J,C,b3,b4,b5⟩|⟨j,e1,c1,c2,c3,c4⟩
   . exact .inl a
   . rcases b4 with⟨k,es,sz,k',es',ak,d1,d2,d3⟩|⟨k,es,sz,d1,d2,d3⟩|⟨es,es',d1,d2,d3⟩|⟨d1,d2,d3⟩
     . rw[d3]at b5;cases b5
       exact .inr (.inl ⟨j,e1,b3,rfl,fun d t=>hC d j r t J C,ay j r J,(by grind[Go.AM.ek])⟩)
     . grind
     . rw[d3]at b5;cases b5
       exact .inr (.inl ⟨j,e1,b3,by rw[d2];rfl,fun d t=>hC d j r t J C,ay j r J,(by grind[Go.AM.ek])⟩)
     . rw [d3]at b5
       unfold ek at d1;rw[b5]at d1;cases e with
       |dead=>grind
       |sub p i o=>
        grind[Zz]
       |_=>cases d1
   grind
  have am:∀(n id:Nat)(L:List Nat),n<=6->id<lz K.os->loP (B++(K1.os.drop (lz ids)).map (dp (dt ids (lz K.os)))) n id=zsq L->loP K.os n id=zsq L/\(∀r t,L=r::t->t≠[]->¬r∈ids):=fun n=>by
   induction n with
   |zero=>exact fun id L _ _ e=>by cases e
   |succ n ih=>
    intro id L h6n hl e;unfold loP at e;cases G:(B++(K1.os.drop (lz ids)).map (dp (dt ids (lz K.os))))[id]? with
    |none=>grind
    |some en=>
     rw[G]at e;have ab:B[id]?=zsq en:=by grind
     cases en with
     |row k es sz=>
      cases e;refine⟨?_,(by grind)⟩;unfold loP;by_cases V:id∈ids
      . grind[ek]
      . rw[p2 id V]at ab
        rw[w.row.1 ab]
     |mapo es=>
      cases e;refine⟨?_,(by grind)⟩;unfold loP;by_cases V:id∈ids
      . grind[ek]
      . rw[p2 id V]at ab
        rw[w.map.1 ab]
     |dead=>cases e
     |sub p i o=>
      simp only at e;cases hp:loP (B++(K1.os.drop (lz ids)).map (dp (dt ids (lz K.os)))) n p with
      |none=>rw[hp]at e;cases e
      |some Lp=>
       rw [hp]at e;cases e;have av:(kn K.os ids 0 K.os)[id]?=zsq (.sub p i o):=by
        by_cases V:id∈ids
        . obtain⟨j,bd⟩:=zqe V
          obtain⟨e1,q1,q2⟩:=p3 j id bd;rcases q2 with⟨k',es',ak,k2,a4,a5,d1,d2,d3⟩|⟨k',es',ak,d1,_,d3⟩|⟨es',_,d1,_,d3⟩|⟨d1,d2,d3⟩
          . rw[d3,d2]at ab;cases k2<;>cases ab
          . grind
          . grind
          grind
        grind
       have ai:K.os[id]?=zsq (.sub p i o):=by
        rcases w.2 id with e1|⟨_,_,_,_,e2⟩
        . grind
        grind
       obtain⟨g1,g2⟩:=ih p Lp (by omega) (s.sb id p i o ai) hp;refine⟨by grind[loP],fun r t e ht=>?_⟩;obtain⟨t1,g3,_⟩:=I8 n p Lp g1;have ba:=Zz av
       have:r=cg K.os n p:=by grind
       have h6:cg K.os 6 p=cg K.os n p:=by
        obtain⟨t6,g4,_⟩:=I8 6 p Lp (GG (by omega) g1);grind
       rw[this,<-h6];exact ba.1 _ (Vw 6 p)
  have aj:df ow K.os ow' (B++(K1.os.drop (lz ids)).map (dp (dt ids (lz K.os)))):=by
   refine⟨by simp;omega,fun id hl L' a6=>?_⟩;obtain⟨g1,g2⟩:=am 6 id L' (zke _) hl a6;refine⟨L',g1,fun c=>?_⟩;obtain⟨t,g3,g4,_⟩:=I8 6 id L' g1;have an:=fj g4;by_cases V:cg K.os 6 id∈ids
   . -- a root that the call came to
     have ht:t=[]:=Classical.byContradiction fun ht=>g2 _ t g3 ht V
     subst ht;have hid:cg K.os 6 id=id:=by
      grind
     rw [hid]at V g3;obtain⟨j,G⟩:=zqe V;have ao:ek (B++(K1.os.drop (lz ids)).map (dp (dt ids (lz K.os)))) id=zt:=by
      grind[I8]
     have ac:j<lz ids:=(zqc.1 G).1;have a0:ek K1.os j=zt:=by
      unfold ek at ao;cases I:(B++(K1.os.drop (lz ids)).map (dp (dt ids (lz K.os))))[id]? with
      |none=>grind
      |some e=>
       rw[I]at ao;obtain⟨e1,q1,q2⟩:=p3 j id G;have ab:B[id]?=zsq e:=by grind
       unfold ek;rw[q1];rcases q2 with⟨k',es',ak,k2,a4,a5,d1,d2,d3⟩|⟨k',es',ak,d1,_,d3⟩|⟨es',_,d1,d2,d3⟩|⟨d1,d2,d3⟩
       . rw[d2]
       . grind
       . rw[d2]
       grind[ek]
     have bb:=st.xk j ac c a0;rw[g3,hC c j id [] G (by omega),<-bb,E5]
     constructor
     . exact fun Q=>⟨id,j,[],Q,I9 ids id j hn G,rfl⟩
     grind[ef]
   grind
  have aq:Ren (dt ids (lz K.os)) ow1 K1.os ow' (B++(K1.os.drop (lz ids)).map (dp (dt ids (lz K.os)))):=by
   have hlen:(B++(K1.os.drop (lz ids)).map (dp (dt ids (lz K.os)))).length=lz K.os+(lz K1.os-lz ids):=by simp;omega
   have key : ∀(n j r:Nat)(L':List Nat),dt ids (lz K.os) j=zsq r->loP (B++(K1.os.drop (lz ids)).map (dp (dt ids (lz K.os)))) n r=zsq L'->∃L,loP K1.os n j=zsq L/\∀c,ow1 c=zsq L↔ow' c=zsq L':=fun n=>by
    have main:∀(n j r:Nat)(L':List Nat),dt ids (lz K.os) j=zsq r->loP (B++(K1.os.drop (lz ids)).map (dp (dt ids (lz K.os)))) n r=zsq L'->∃j0 r0 t,loP K1.os n j=zsq (j0::t)/\L'=r0::t/\∀c t,ow1 c=zsq (j0::t)↔ow' c=zsq (r0::t):=fun n=>by
     induction n with
     |zero=>exact fun j r L' _ e=>by cases e
     |succ n ih=>
      intro j r L' hb e;unfold loP at e;cases G:(B++(K1.os.drop (lz ids)).map (dp (dt ids (lz K.os))))[r]? with
      |none=>grind
      |some en=>
       rw[G]at e;rcases ad G with⟨H,X,_⟩|⟨Y,e1,J,C,b3,b4,b5⟩|rfl
       . grind
       . have aw:Y=j:=by
          rcases aa j r hb with c|⟨c,c'⟩
          . rcases aa Y r b4 with d|⟨_,d⟩
            . have:=I9 ids r j hn c
              rw[I9 ids r Y hn d]at this;grind
            grind
          grind
         subst aw;unfold loP;rw[J];cases e1 with
         |row k es sz=>
          have:∃es',en=.row k es' sz:=by rw[C];cases k<;>exact⟨_,rfl⟩
          grind
         |mapo es=>rw[C]at e;cases e;grind
         |dead=>rw[C]at e;cases e
         |sub p i o=>
          rw[C]at e;rw[show dp (dt ids (lz K.os)) (.sub p i o)=(match dt ids (lz K.os) p with|some q=>PO.sub q i o|none=>.dead)from rfl]at e;simp only at e|-;cases I:dt ids (lz K.os) p with
          |none=>grind
          |some p'=>
           rw[I]at e;simp only at e;cases hL:loP (B++(K1.os.drop (lz ids)).map (dp (dt ids (lz K.os)))) n p' with
           |none=>grind
           |some Lp=>
            grind
       . cases e
    grind
   intro j r G ac;grind
  have hzk:∀d,Z d->Z1 d/\h1.get d=h.get d:=hz;refine⟨ow',⟨fun r es sz D=>?_,fun r k es sz D hk=>?_,fun r es D=>?_,fun a b M ha hb=>?_,fun a M ha=>?_,s1.zb,fun j p i o G=>?_⟩,aj,fun b=>⟨st.nx,hz,st.zn,fun d Q ho=>?_,fun d M Q hl=>?_,?_,fun d r t ho D=>?_,fun r D hl=>?_,rfl,fun j G c D=>?_,fun j G D=>?_⟩,aq⟩
  . rcases ad D with⟨H,X,U⟩|⟨j,e1,J,C,b3,_,_⟩|h
    . obtain⟨x,hx⟩:=s.row r es sz (w.row.1 U)
      exact⟨x,hx.reloc st.nx hz (fun d t=>hB d r t H X) (fun d t Q=>au d r t Q H)⟩
    . obtain ⟨es0,rfl,h3⟩:=ag C.symm
      rcases h3 with⟨_,rfl⟩|⟨h3,_⟩
      . obtain⟨x,hx⟩:=s1.row j _ sz J
        exact⟨x,hx.reloc (zke _) (fun _ hz=>⟨hz,rfl⟩) (fun d t=>b3 d t) (fun _ _ _=>rfl)⟩
      grind
    . cases h
  . rcases ad D with⟨H,X,U⟩|⟨j,e1,J,C,b3,_,_⟩|h
    . obtain⟨c,ces,g⟩:=s.raw r k es sz (w.row.1 U) hk
      refine⟨c,ces,(hB c r [] H X).2 g.o,zkf g.lt st.nx,(au c r [] g.o H).trans g.get,g.sh,fun i x y hx hy o a b ha hb=>(g.vr i x y hx hy o a b ha hb).keep hz aj,g.okp,fun a t ha=>g.no a t ((hB a r t H X).1 ha)⟩
    . obtain ⟨es0,rfl,h3⟩:=ag C.symm
      rcases h3 with⟨h3,_⟩|⟨_,rfl⟩
      . grind
      . obtain⟨c,ces,g⟩:=s1.raw j k es0 sz J hk
        exact⟨c,ces,g.ren (fun _ hz=>⟨hz,rfl⟩) aq ((b3 c []).2 g.o) (zke _) rfl (fun a t ha=>g.no a t ((b3 a t).1 ha))⟩
    . cases h
  . rcases ad D with⟨H,X,U⟩|⟨j,e1,J,C,b3,_,_⟩|h
    . obtain⟨c,ces,g⟩:=s.map r es (w.map.1 U)
      exact⟨c,ces,(hB c r [] H X).2 g.o,zkf g.lt st.nx,(au c r [] g.o H).trans g.get,g.len,fun i x y hx hy=>⟨(g.kv i x y hx hy).1,(g.kv i x y hx hy).2.mono hz⟩,fun a t ha=>g.no a t ((hB a r t H X).1 ha)⟩
    . have:e1=.mapo es:=by
       cases e1 with
       |mapo=>cases C;rfl
       |row k _ _=>cases k<;>cases C
       |dead=>cases C
       |sub p i o=>unfold dp at C;simp only at C;cases I:dt ids (lz K.os) p<;>rw[I]at C<;>cases C
      subst this;obtain⟨c,ces,g⟩:=s1.map j es J;exact⟨c,ces,(b3 c []).2 g.o,g.lt,g.get,g.len,g.kv,fun a t ha=>g.no a t ((b3 a t).1 ha)⟩
    . cases h
  . obtain ⟨r,t,rfl⟩:=ar a M ha
    rcases(af a r t).1 ha with⟨j,H,X⟩|⟨H,X,U⟩
    . rcases (af b r t).1 hb with⟨Y,J,C⟩|⟨J,C,b3⟩
      . have aw:Y=j:=by
         rcases aa j r X with c|⟨c,c'⟩
         . rcases aa Y r C with d|⟨_,d⟩
           . have:=I9 ids r j hn c
             rw[I9 ids r Y hn d]at this;cases this;rfl
           . have:=ae r (zqb c);omega
         . rcases aa Y r C with d|⟨_,d⟩
           . have:=ae r (zqb d);omega
           . omega
        subst aw;exact s1.inj _ _ _ H J
      . rcases aa j r X with c|⟨_,c⟩
        . rw[E5.2 ⟨r,j,t,b3,I9 ids r j hn c,rfl⟩]at J;cases J
        . have:=ah b r t b3;omega
    . rcases (af b r t).1 hb with⟨Y,J,C⟩|⟨J,C,b3⟩
      . rcases aa Y r C with c|⟨_,c⟩
        . rw[E5.2 ⟨r,Y,t,U,I9 ids r Y hn c,rfl⟩]at H;cases H
        . have:=ah a r t U;omega
      . exact s.inj _ _ _ U b3
  . obtain ⟨r,t,rfl⟩:=ar a M ha
    rcases(af a r t).1 ha with⟨j,H,X⟩|⟨H,X,U⟩
    . obtain ⟨c1,c2,r',t',c3,c4⟩:=s1.live a _ H
      cases c3;refine⟨c1,c2,r,t,rfl,?_⟩;rcases aa j r X with c|⟨c,rfl⟩
      . obtain⟨e1,q1,q2⟩:=p3 j r c
        have an:=ae r (zqb c);unfold ek at c4|-;rw[zqq (by omega)];rw[q1]at c4;rcases q2 with⟨k',es',ak,k2,a4,a5,d1,d2,d3⟩|⟨k',es',ak,d1,d2,d3⟩|⟨es',_,d1,d2,d3⟩|⟨d1,d2,d3⟩
        . rw[d3,d2];cases k2<;>rfl
        . rw[d2]at c4;cases c4
        . rw[d3]
        . rw[d2]at c4;cases c4
      . unfold ek at c4|-
        rw[zqw (by omega),zqg,zqx,show lz ids+(lz K.os+(j-lz ids)-lz B)=j by omega];cases I:K1.os[j]? with
        |none=>rw[I]at c4;cases c4
        |some e=>
         rw[I]at c4;cases e with
         |row k es sz=>cases k<;>rfl
         |mapo=>rfl
         |_=>cases c4
    . obtain ⟨c1,c2,r',t',c3,c4⟩:=s.live a _ U
      cases c3;have an:=fj c4;have bc:¬r∈ids:=fun V=>by
       obtain⟨j,G⟩:=zqe V;rw[E5.2 ⟨r,j,t,U,I9 ids r j hn G,rfl⟩]at H;cases H
      refine⟨zkf c1 st.nx,fun a7=>?_,r,t,rfl,?_⟩
      . rcases st.zn a a7 with h|h
        . exact c2 h
        . omega
      . have:=w.rt r
        unfold ek at this c4|-;rw[zqq (by omega),p2 r bc,this];exact c4
  . rcases ad G with⟨H,X,U⟩|⟨Y,e1,J,C,_,_,_⟩|h
    . have ai:K.os[j]?=zsq (.sub p i o):=by
       rcases w.2 j with e1|⟨_,_,_,_,e2⟩
       . rw[<-e1];exact U
       . rw[e2]at U;cases U
      have:=s.sb j p i o ai
      simp;omega
    . cases e1 with
      |sub p0 i0 o0=>
       unfold dp at C;simp only at C;cases I:dt ids (lz K.os) p0 with
       |none=>rw[I]at C;cases C
       |some p'=>
        rw[I]at C;cases C;have hpl:=s1.sb Y p0 i o J;simp;rcases aa p0 p I with c|⟨_,c⟩
        . have:=ae p (zqb c);omega
        . omega
      |row k _ _=>cases k<;>cases C
      |_=>cases C
    . cases h
  . exact st.un d Q (by
     cases I:nj (dk ids) ow d with
     |none=>rfl
     |some M=>
      obtain⟨_,_,_,H,_⟩:=E5.1 I;rw[ho]at H;cases H)
  . obtain⟨r,t,rfl⟩:=ar d M Q
    intro e;rcases(af d r t).1 Q with⟨j,H,X⟩|⟨_,_,U⟩
    . have:=st.uo d _ H hl
      exact this (by
       cases I:nj (dk ids) ow d with
       |none=>rfl
       |some M=>
        obtain⟨_,_,_,H,_⟩:=E5.1 I;rw[e]at H;cases H)
    . rw[e]at U;cases U
  . obtain ⟨l,l1,l2⟩:=st.th
    refine⟨l,l1,fun d Q=>?_⟩;rcases l2 d Q with h|⟨j,t,h3,h4⟩
    . exact .inl h
    . obtain⟨r,Y,t',H,X,U⟩:=E5.1 h3
      cases U;have G:=ef ids r j X;have ac:j<lz ids:=(zqc.1 G).1;refine .inr ⟨r,t,H,fun _=>zqy _ (zqm.2 ⟨j,zqr.2 ⟨h4 ac,by simpa using ac⟩,?_⟩)⟩;rw[zqz,G];rfl
  . by_cases V:r∈ids
    . obtain⟨j,G⟩:=zqe V
      have ac:j<lz ids:=(zqc.1 G).1;have h3:=E5.2 ⟨r,j,t,ho,I9 ids r j hn G,rfl⟩;rcases st.mv d j t h3 ac with⟨t',h4⟩|h4
      . exact .inl ⟨t',(hC d j r t' G (ae r V)).2 h4⟩
      . exact .inr (zqy _ (zqm.2 ⟨j,zqr.2 ⟨h4,by simpa using ac⟩,by rw[zqz,G];rfl⟩))
    . exact .inl ⟨t,(hB d r t V (ah d r t ho)).2 ho⟩
  . exact List.mem_append_right _ D
  . have hl:j<lz K.os:=by omega
    have an:loP (B++(K1.os.drop (lz ids)).map (dp (dt ids (lz K.os)))) 6 j=zsq [j]:=by
     unfold ek at D;unfold loP;have D:(match(B++(K1.os.drop (lz ids)).map (dp (dt ids (lz K.os))))[j]? with|some (.row _ _ _)=>zt|some (.mapo _)=>zt|_=>zf)=zt:=D;cases I:(B++(K1.os.drop (lz ids)).map (dp (dt ids (lz K.os))))[j]? with
     |none=>rw[I]at D;cases D
     |some e=>rw[I]at D;cases e<;>first|rfl|cases D
    obtain⟨L,g1,g2⟩:=aj.2 j hl [j] an;obtain⟨g3,_⟩:=am 6 j [j] (zke _) hl an;rw[g1]at g3;cases g3;exact g2 c
  . have hl:j<lz K.os:=by omega
    have D:(match(B++(K1.os.drop (lz ids)).map (dp (dt ids (lz K.os))))[j]? with|some (.row _ _ _)=>zt|some (.mapo _)=>zt|_=>zf)=zt:=D;cases I:(B++(K1.os.drop (lz ids)).map (dp (dt ids (lz K.os))))[j]? with
    |none=>rw[I]at D;cases D
    |some e=>
     rcases ad I with⟨H,X,U⟩|⟨Y,e1,J,C,b3,b4,b5⟩|rfl
     . rw[<-w.rt];unfold ek;rw[U];rw[I]at D;exact D
     . rcases b5 with⟨_,h⟩|h
       . exact h
       . rcases aa Y j b4 with c|⟨_,c⟩
         . have:=(zqc.1 c).1;omega
         . omega
     . rw[I]at D;cases D
end
section
variable {E:Env}{R:AV->AV->Prop}{Z Z' Z1:Nat->Prop}{ow ow' ow1:Nat->Option (List Nat)}{h h' h1:Vg}{K K':PK}{os os' ps:List PO}{x y xc yc v k:AV}{L M:List Nat}
theorem z7{a:Option AV}{l:Option (List AV)}{r:List AV}(e:gu a l=zsq r):∃v t,a=zsq v/\l=zsq t/\r=v::t:=by
 unfold gu at e;grind
theorem Dj:∀(l B:List AV),frzL l=zsq B->lz B=lz l/\∀(i:Nat) y C,l[i]?=zsq y->B[i]?=zsq C->ji y=zsq C
 |[],B,e=>by cases e;grind
 |v::l,B,e=>by
  unfold frzL at e;obtain⟨a,t,h1,D,rfl⟩:=z7 e;obtain⟨h3,h4⟩:=Dj l t D;grind
theorem gZ:∀(l B:List AV),og os l=zsq B->lz B=lz l/\∀(i:Nat) y C,l[i]?=zsq y->B[i]?=zsq C->gh os y=zsq C
 |[],B,e=>by cases e;grind
 |v::l,B,e=>by
  unfold og at e;obtain⟨a,t,h1,D,rfl⟩:=z7 e;obtain⟨h3,h4⟩:=gZ l t D;grind
theorem Oz:∀(l B:List AV),gb os l=zsq B->lz B=lz l/\∀(i:Nat) y C,l[i]?=zsq y->B[i]?=zsq C->viewA os y=zsq C
 |[],B,e=>by cases e;grind
 |v::l,B,e=>by
  unfold gb at e;obtain⟨a,t,h1,D,rfl⟩:=z7 e;obtain⟨h3,h4⟩:=Oz l t D;grind
theorem Nl{c B:AV}(e:ji c=zsq B)(hc:fh c=zf):clo B=zt:=by
 cases c<;>unfold ji at e<;>first|(cases e;done)|(cases e;rfl)|skip
 . cases hc
 . rename_i cs
   cases cs with
   |nil=>cases e
   |cons a es=>
    cases a<;>try (cases e;done)
    rename_i i j z;cases j with
    |succ=>cases e
    |zero=>
     simp only at e;cases hf:frzL es with
     |none=>grind
     |some es'=>
      rw[hf]at e;simp only at e;split at e
      . split at e
        . cases e;rfl
        . cases e
      . cases e;rfl
 . rename_i es f
   cases hf:frzL es with
   |none=>grind
   |some es'=>rw[hf]at e;cases e;rfl
 . rename_i v o
   cases hf:ji v with
   |none=>grind
   |some es'=>rw[hf]at e;cases e;rfl
theorem Fz.frz(f:Fz Z h x y):∀B,ji y=zsq B->Fz Z h x B:=by
 have fsl:∀{x:AV}{es es':List AV},(∀C:List AV,frzL es=zsq C->Fz Z h x (Vx C))->∀{f:Bool} B,ji (.fsl es f)=zsq B->Fz Z h x B:=(by grind[Go.AM.ji])
 induction f with
 |int=>intro B e;cases e;exact .int _ _
 |bool=>intro B e;cases e;exact .bool _
 |str=>intro B e;cases e;exact .str _
 |x0a=>intro B e;cases e;exact .emp .nil
 |x0c=>intro B e;cases e;exact .x0c
 |x0d=>intro B e;cases e;exact .x0d
 |x0e=>intro B e;cases e;exact .x0e
 |x0b=>intro B e;cases e;exact .x0b
 |agg h1 I D G=>
  rename_i xs ys;intro B e;unfold ji at e;cases hf:frzL ys with
  |none=>grind
  |some ys'=>
   rw[hf]at e;cases e;obtain⟨H,J⟩:=Dj _ _ hf;refine .agg (h1.trans H.symm) (fun i a b ha hb=>?_) (zqf.2 fun b hb=>?_)
   . grind
   . obtain⟨i,hi⟩:=zqe hb
     obtain⟨c,hc⟩:∃c,ys[i]?=zsq c:=(by grind)
     refine Nl (J i c b hc hi) ?_
     have:=zqf.1 D c (zqb hc)
     cases c<;>first|rfl|cases this
 |emp e=>intro B N;cases N;exact .emp e
 |fsl h1 I D G=>
  rename_i es es' f f';refine fsl (es':=es') fun C hf=>?_
  obtain⟨H,J⟩:=Dj _ _ hf;unfold Vx;refine .fsl (h1.trans H.symm) (fun i a b ha hb=>?_) D;grind
 |view h1 I D Q h5 U G=>
  rename_i es' f';refine fsl (es':=es') fun C hf=>?_
  obtain⟨H,J⟩:=Dj _ _ hf;refine .view h1 I D (H.trans Q) (fun i a b ha hb=>?_) U;grind
 |fptr o _ G=>
  rename_i v v' _;intro B e;unfold ji at e;cases hf:ji v' with
  |none=>grind
  |some w=>rw[hf]at e;cases e;exact .fptr o (G w hf)
 |pview h1 I D _ G=>
  rename_i v v' row _;intro B e;unfold ji at e;cases hf:ji v' with
  |none=>grind
  |some w=>rw[hf]at e;cases e;exact .pview h1 I D (G w hf)
theorem Fz.elem{a b B:AV}(C:lz a.cells=lz b.cells/\fh a=fh b)(H:∀(o:Nat) u w,a.cells[o]?=zsq u->b.cells[o]?=zsq w->∀w',ji w=zsq w'->Fz Z h u w'/\AM.clo w'=zt)(e:ji b=zsq B):Fz Z h a B:=by
 cases hb:fh b with
 |false=>
  have ha:=C.2.trans hb;exact(H 0 a b (by rw[D7 ha];rfl) (by rw[D7 hb];rfl) B e).1
 |true=>
  have ha:=C.2.trans hb;cases b<;>first|(cases hb;done)|skip
  cases a<;>first|(cases ha;done)|skip
  rename_i ys xs;unfold ji at e;cases hf:frzL ys with
  |none=>grind
  |some ys'=>
   rw[hf]at e;cases e;obtain⟨J,I⟩:=Dj _ _ hf;have hl:lz xs=lz ys:=C.1;refine .agg (hl.trans J.symm) (fun i u w D G=>?_) (zqf.2 fun w G=>?_)
   . obtain⟨c,hc⟩:∃c,ys[i]?=zsq c:=(by grind)
     exact(H i u c D hc w (I i c w hc G)).1
   . obtain⟨i,hi⟩:=zqe G
     obtain⟨c,hc⟩:∃c,ys[i]?=zsq c:=(by grind)
     obtain⟨u,D⟩:∃u,xs[i]?=zsq u:=(by grind)
     exact(H i u c D hc w (I i c w hc hi)).2
def Zv(Z:Nat->Prop)(ow:Nat->Option (List Nat))(id:Nat):Prop:=Z id\/ow id≠znq
theorem Fz.zv(f:Fz Z h x y):Fz (Zv Z ow) h x y:=f.mono fun _ hz=>⟨.inl hz,rfl⟩
theorem CR.frz(c:CR Z ow h L x y):∀B,ji y=zsq B->Fz (Zv Z ow) h x B/\clo B=zt:=by
 induction c with
 |val f e n=>exact fun B C=>⟨(f.frz B C).zv,Nl C (by rename_i y;cases y<;>first|rfl|cases e)⟩
 |und=>intro B e;cases e
 |nil e n=>
  intro B C;cases C;refine⟨.emp ?_,rfl⟩;rcases e with rfl|rfl
  . exact .nil
  . exact .nil
 |own h1 h2 I h4 h5 h6 _ ih=>
  rename_i L k id sz ces es _;intro B e;have G:fh (di k sz es)=zf:=rfl;refine⟨?_,Nl e G⟩;unfold di ji at e;simp only at e;cases hf:frzL es with
  |none=>grind
  |some es'=>
   rw [hf]at e;simp only at e;obtain⟨Q,U⟩:=Dj _ _ hf;have H:∀(i:Nat) a b,ces[i]?=zsq a->es'[i]?=zsq b->Fz (Zv Z ow) h a b:=fun i a b ha hb=>by
    obtain⟨c,hc⟩:∃c,es[i]?=zsq c:=(by grind)
    obtain⟨V,X,Y⟩:=h6 i a c ha hc;exact .elem ⟨V.trans X.symm,Y⟩ (fun o u w J N w' D=>ih i a c ha hc o u w J N w' D) (U i c b hc hb)
   have hz:Zv Z ow id:=.inr (by grind);split at e
   . split at e
     . rename_i v
       cases e;have hl:lz ces=1:=by grind
       obtain⟨a,ha⟩:∃a,ces[0]?=zsq a:=⟨_,zqa (by omega)⟩
       exact .pview hz I ha (H 0 a v ha rfl)
     . cases e
   . rename_i hk
     cases e
     have:yf k id (lz es) sz=.msl id 0 (lz es) sz:=by
      unfold yf;grind
     rw[this];refine .view hz I (by omega) Q (by grind) (fun i a hi ha=>?_);grind
end
section
variable {E:Env}{R:AV->AV->Prop}{Z Z' Z1:Nat->Prop}{ow ow' ow1:Nat->Option (List Nat)}{h h' h1:Vg}{K K':PK}{os os' ps:List PO}{x y xc yc v k:AV}{L M:List Nat}{r0 sz0 c0:Nat}{es0 ces0:List AV}
theorem VR.view(s:G6 Z ow h os)(a:VR Z ow h os x y){w:AV}(e:gh os y=zsq w):Fz (Zv Z ow) h x w/\clo w=zt/\(O4 y=[]->Fz Z h x w):=by
 have el:∀{id:Nat}{es:List AV}{sz:Nat},cd os 6 id=zsq (0,es,sz)->∀{c:Nat},(∀L,loP os 6 id=zsq L->ow c=zsq L)->∃ces,h.get c=zsq (.row ces sz)/\dE sz ces es/\(ow c≠znq)/\∀(i:Nat) a b H,ces[i]?=zsq a->es[i]?=zsq b->ji b=zsq H->Fz (Zv Z ow) h a H:=fun{id es sz} I {c} hc=>by
  obtain ⟨L,hL,h1⟩:=s.get 6 id 0 es sz I;have ho:=hc L hL;have fin:∀{X:AV},CR Z ow h L X (di 0 sz es)->∃ces,h.get c=zsq (.row ces sz)/\dE sz ces es/\(ow c≠znq)/\∀(i:Nat) a b H,ces[i]?=zsq a->es[i]?=zsq b->ji b=zsq H->Fz (Zv Z ow) h a H:=fun{X} hx=>by
   rcases hx.inv with⟨_,_,_,n⟩|⟨id',ces,_,g2,_,g4,g5,_,g7⟩
   . exact absurd (by rw[zql];exact ho) (n c [])
   . obtain rfl:=s.inj c id' L ho g2
     refine⟨ces,g4,g5,(by grind),fun i a b H ha hb hf=>?_⟩;obtain⟨J,G,N⟩:=g5.2 i a b ha hb;exact .elem ⟨J.trans G.symm,N⟩ (fun o u w D Q w' C=>(g7 i a b ha hb o u w D Q).frz w' C) hf
  rcases h1 with⟨_,rfl,c',V,g⟩|⟨_,X,hx⟩
  . obtain rfl:=s.inj c c' _ ho g.o
    refine ⟨V,g.get,g.sh,(by grind),fun i a b H ha hb hf=>?_⟩;obtain⟨J,G,N⟩:=g.sh.2 i a b ha hb;refine .elem ⟨J.trans G.symm,N⟩ (fun o u w D Q w' C=>?_) hf;have v:=g.vr i a b ha hb o u w D Q;have B:=g.okp i b hb w (zqb Q);have hz:Fz Z h u w:=by
     cases v with
     |fz f=>exact f
     |agg=>rcases B with B|B<;>cases B
     |tup=>rcases B with B|B<;>cases B
     |_=>cases C
    refine⟨(hz.frz w' C).zv,Nl C ?_⟩;cases w<;>first|rfl|(rcases B with B|B<;>cases B)
  grind
 have plain:fh y=zf->ji y=zsq w->(∀cs,y≠.tup cs)->Fz (Zv Z ow) h x w/\clo w=zt/\(O4 y=[]->Fz Z h x w):=fun hy hf ht=>by
  have hz:Fz Z h x y:=by
   cases a with
   |fz f=>exact f
   |agg=>cases hy
   |tup=>grind
   |_=>cases hf
  exact⟨(hz.frz w hf).zv,Nl hf hy,fun _=>hz.frz w hf⟩
 unfold gh at e;split at e
 . rename_i id off n sz
   cases I:cd os 6 id with
   |none=>grind
   |some q=>
    obtain⟨k,es,z⟩:=q;rw[I]at e;simp only at e;split at e
    . rename_i hc
      obtain⟨rfl,rfl,hn⟩:=hc;cases hf:frzL ((es.drop off).take n)with
      |none=>grind
      |some es'=>
       rw[hf]at e;cases e;refine⟨?_,rfl,fun h0=>by cases h0⟩;obtain⟨g1,g2⟩:=Dj _ _ hf;have U:lz ((es.drop off).take n)=n:=by simp;omega
       cases a with
       |fz f=>cases f
       |msl h1 Y=>
        rename_i c;obtain⟨ces,J,G,N,q4⟩:=el I h1;refine .view (.inr N) J (by have:=G.1;omega) (g1.trans U) (fun i u w D Q=>?_) (fun i u hi D=>?_)
        . grind
        . obtain⟨b,hb⟩:∃b,es[off+i]?=zsq b:=(by grind)
          exact(G.2 (off+i) u b D hb).1
       |mnil h1 Y h3=>
        have:es'=[]:=(by grind)
        subst this;refine .emp ?_;rcases h1 with rfl|rfl
        . exact .nil
        . exact .nil
    . cases e
 . rename_i id i off
   cases I:cd os 6 id with
   |none=>grind
   |some q=>
    obtain⟨k,es,z⟩:=q;rw[I]at e;simp only at e;split at e
    . rename_i hk;subst hk
      cases hi:es[i]? with
      |none=>grind
      |some v=>
       rw[hi]at e;simp only at e;cases hf:ji v with
       |none=>grind
       |some v'=>
        rw[hf]at e;cases e;refine⟨?_,rfl,fun h0=>by cases h0⟩;cases a with
        |fz f=>cases f
        |ptr h1 Y=>
         obtain⟨ces,J,G,N,q4⟩:=el I h1;obtain⟨u,D⟩:∃u,ces[i]?=zsq u:=⟨_,zqa (by have:=(zqc.1 hi).1;have:=G.1;omega)⟩
         exact .pview (.inr N) J D (q4 i u v v' D hi hf)
    . cases e
 . cases e
 . cases e
 . rename_i h1 Y h3 h4
   refine plain ?_ e (fun cs he=>h3 cs he);cases y<;>first|rfl|grind
theorem VR.viewA(s:G6 Z ow h os)(a:VR Z ow h os x y){w:AV}(e:viewA os y=zsq w):Fz (Zv Z ow) h x w/\(O4 y=[]->Fz Z h x w):=by
 cases U:fh y with
 |false=>
  have N:gh os y=zsq w:=by cases y<;>first|exact e|cases U
  exact⟨(a.view s N).1,(a.view s N).2.2⟩
 |true=>
  cases y<;>first|(cases U;done)|skip
  rename_i ys;unfold AM.viewA at e;simp only at e;cases hf:og os ys with
  |none=>grind
  |some J=>
   rw [hf]at e;cases e;obtain⟨Q,V⟩:=gZ _ _ hf;obtain⟨xs,rfl,l⟩:=a.agI;have D:∀(i:Nat) u w,xs[i]?=zsq u->J[i]?=zsq w->∃c,ys[i]?=zsq c/\VR Z ow h os u c/\gh os c=zsq w:=fun i u w B C=>by
    obtain⟨c,hc⟩:∃c,ys[i]?=zsq c:=(by grind)
    exact⟨c,hc,l.2 i u c B hc,V i c w hc C⟩
   have G:J.all clo=zt:=zqf.2 fun w C=>by
    obtain⟨i,hi⟩:=zqe C;obtain⟨u,B⟩:∃u,xs[i]?=zsq u:=⟨_,zqa (by have:=(zqc.1 hi).1;have:=l.1;omega)⟩
    obtain⟨c,_,H,I⟩:=D i u w B hi;exact(H.view s I).2.1
   refine⟨.agg (l.1.trans Q.symm) (fun i u w B C=>?_) G,fun h0=>.agg (l.1.trans Q.symm) (fun i u w B C=>?_) G⟩
   . obtain⟨c,_,H,I⟩:=D i u w B C
     exact(H.view s I).1
   . obtain ⟨c,hc,H,I⟩:=D i u w B C
     refine(H.view s I).2.2 ?_
     have:∀(ys:List AV)(i:Nat),refsL ys=[]->ys[i]?=zsq c->O4 c=[]:=fun ys=>by
      induction ys with
      |nil=>grind
      |cons a l ih=>
       grind[refsL,zqt]
     exact this ys i h0 hc
theorem VR.elemR(g:sy (VR Z ow h os) ow h r0 es0 sz0 c0 ces0){i:Nat}{a b:AV}(ha:ces0[i]?=zsq a)(hb:es0[i]?=zsq b):VR Z ow h os a b:=by
 obtain⟨G,H,B⟩:=g.sh.2 i a b ha hb;have v:=g.vr i a b ha hb;cases b with
 | agg ys=>cases a with
  |agg xs=>exact .agg (G.trans H.symm) fun o u w C D=>v o u w C D
  |_=>cases B
 | _=>cases a with
  |agg xs=>cases B
  |_=>exact v 0 _ _ rfl rfl
theorem VR.viewW(s:G6 Z ow h os)(a:VR Z ow h os x y){w:AV}(e:viewW os y=zsq w):Fz (Zv Z ow) h x w/\clo w=zt/\(O4 y=[]->Fz Z h x w):=by
 unfold AM.viewW at e;cases J:gh os y with
 |some w'=>rw[J]at e;cases e;exact a.view s J
 |none=>
  rw[J]at e;cases y with
  |msl id off n sz=>
   dsimp only at e;cases B:ez os id with
   |false=>rw[B]at e;cases e
   |true=>
    rw[B]at e;dsimp only at e;split at e
    . rename_i k es z G
      split at e
      . rename_i hc
        obtain⟨rfl,hn⟩:=hc;cases hf:gb os ((es.drop off).take n)with
        |none=>rw[hf]at e;cases e
        |some es'=>
         rw[hf]at e;cases e;refine⟨?_,rfl,fun h0=>by cases h0⟩;obtain⟨V,X⟩:=Oz _ _ hf;have C:lz ((es.drop off).take n)=n:=by simp;omega
         obtain⟨L,Q,h1⟩:=s.get 6 id k es sz (by unfold cd;rw[G]);rcases h1 with⟨_,rfl,U,ces,g⟩|⟨hh,_⟩
         . cases a with
           |fz f=>cases f
           |mnil em I _=>exact absurd g.o (I _ Q U)
           |msl Y h3=>
            rename_i c;obtain rfl:=s.inj c U _ (Y _ Q) g.o;refine .view (.inr (by rw[g.o];intro e;cases e)) g.get (by have:=g.sh.1;omega) (V.trans C) (fun i u w D N=>?_) (fun i u hi D=>?_)
            . obtain ⟨b,hb⟩:∃b,((es.drop off).take n)[i]?=zsq b:=⟨_,zqa (by have:=(zqc.1 N).1;omega)⟩
              have H:es[off+i]?=zsq b:=by
               rw[zqu]at hb;split at hb
               . rw[zqx]at hb;exact hb
               . cases hb
              exact((VR.elemR g D H).viewA s (X i b w hb N)).1
            . exact(g.sh.2 (off+i) u _ D (zqa (by have:=(zqc.1 D).1;have:=g.sh.1;omega))).1
         . rw[B]at hh;cases hh
      . cases e
    . cases e
  |_=>cases e
theorem aA:∀(l B:List AV),ou os l=zsq B->lz B=lz l/\∀(i:Nat) y C,l[i]?=zsq y->B[i]?=zsq C->viewW os y=zsq C
 |[],B,e=>by cases e;exact⟨rfl,fun i y C G=>by simp at G⟩
 |v::l,B,e=>by
  unfold ou at e;obtain⟨a,t,h1,H,rfl⟩:=z7 e;obtain⟨I,J⟩:=aA l t H;refine⟨by simp[I],fun i y C G D=>?_⟩;cases i with
  |zero=>cases G;cases D;exact h1
  |succ i=>exact J i y C G D
theorem VR.viewWA(s:G6 Z ow h os)(a:VR Z ow h os x y){w:AV}(e:viewWA os y=zsq w):Fz (Zv Z ow) h x w/\(O4 y=[]->Fz Z h x w):=by
 cases U:fh y with
 |false=>
  have N:AM.viewW os y=zsq w:=by cases y<;>first|exact e|cases U
  exact⟨(a.viewW s N).1,(a.viewW s N).2.2⟩
 |true=>
  cases y<;>first|(cases U;done)|skip
  rename_i ys;unfold AM.viewWA at e;simp only at e;cases hf:ou os ys with
  |none=>rw[hf]at e;cases e
  |some J=>
   rw [hf]at e;cases e;obtain⟨Q,V⟩:=aA _ _ hf;obtain⟨xs,rfl,l⟩:=a.agI;have D:∀(i:Nat) u w,xs[i]?=zsq u->J[i]?=zsq w->∃c,ys[i]?=zsq c/\VR Z ow h os u c/\AM.viewW os c=zsq w:=fun i u w C B=>by
    obtain⟨c,hc⟩:∃c,ys[i]?=zsq c:=⟨_,zqa (by have:=(zqc.1 B).1;omega)⟩
    exact⟨c,hc,l.2 i u c C hc,V i c w hc B⟩
   have G:J.all clo=zt:=zqf.2 fun w B=>by
    obtain⟨i,hi⟩:=zqe B;obtain⟨u,C⟩:∃u,xs[i]?=zsq u:=⟨_,zqa (by have:=(zqc.1 hi).1;have:=l.1;omega)⟩
    obtain⟨c,_,H,I⟩:=D i u w C hi;exact(H.viewW s I).2.1
   refine⟨.agg (l.1.trans Q.symm) (fun i u w C B=>?_) G,fun h0=>.agg (l.1.trans Q.symm) (fun i u w C B=>?_) G⟩
   . obtain⟨c,_,H,I⟩:=D i u w C B
     exact(H.viewW s I).1
   . obtain ⟨c,hc,H,I⟩:=D i u w C B
     refine(H.viewW s I).2.2 ?_
     have:∀(ys:List AV)(i:Nat),refsL ys=[]->ys[i]?=zsq c->O4 c=[]:=fun ys=>by
      induction ys with
      |nil=>intro i _ hc;simp at hc
      |cons a l Y=>
       intro i h0 hc;have h0:O4 a++refsL l=[]:=h0;obtain⟨h1,X⟩:=zqt.1 h0;cases i with
       |zero=>cases hc;exact h1
       |succ i=>exact Y i X hc
     exact this ys i h0 hc
theorem Vy:∀(l B:List AV),Ry os l=zsq B->lz B=lz l/\∀(i:Nat) y C,l[i]?=zsq y->B[i]?=zsq C->viewWA os y=zsq C
 |[],B,e=>by cases e;exact⟨rfl,fun i y C G=>by simp at G⟩
 |v::l,B,e=>by
  unfold Ry at e;obtain⟨a,t,h1,H,rfl⟩:=z7 e;obtain⟨I,J⟩:=Vy l t H;refine⟨by simp[I],fun i y C G D=>?_⟩;cases i with
  |zero=>cases G;cases D;exact h1
  |succ i=>exact J i y C G D
theorem vS(s:G6 Z ow h os){l G xs:List AV}(v:VL Z ow h os xs l)(e:rg os l=zsq G):lz G=lz l/\∀(i:Nat) x y B,xs[i]?=zsq x->l[i]?=zsq y->G[i]?=zsq B->Fz (Zv Z ow) h x B/\(O4 y=[]->Fz Z h x B):=by
 unfold rg at e;cases N:gb os l with
 |some as1=>
  rw[N]at e;cases e;obtain⟨I,J⟩:=Oz _ _ N;exact⟨I,fun i x y B H D C=>(v.2 i x y H D).viewA s (J i y B D C)⟩
 |none=>
  rw[N]at e;obtain⟨I,J⟩:=Vy _ _ e;exact⟨I,fun i x y B H D C=>(v.2 i x y H D).viewWA s (J i y B D C)⟩
def TC(E:Env)(f:Nat)(g:List AV->Option (List AV)):Prop:=∀args rs,g args=zsq rs->∀(Z:Nat->Prop)(h:Vg)(xs:List AV),lz xs=lz args->(∀(i:Nat) x y,xs[i]?=zsq x->args[i]?=zsq y->Fz Z h x y)->(∀id,Z id->id<h.next) ->
 ∃ (B:List AV) (h1:Vg) (Z1:Nat->Prop) (ow1:Nat->Option (List Nat)),du E f xs h=.ok (cj B) h1/\G6 Z1 ow1 h1 (W2 0 rs).2/\VL Z1 ow1 h1 (W2 0 rs).2 B (W2 0 rs).1/\
   h.next<=h1.next/\(∀id,Z id->Z1 id/\h1.get id=h.get id)/\(∀id,Z1 id->Z id\/h.next<=id)/\(∀id,id<h.next->h1.get id=h.get id)/\(∀id L,ow1 id=zsq L->h.next<=id)/\∃l,h1.tch=l++h.tch/\∀id∈l,h.next<=id
theorem Kr:∀(n:Nat)(l:List AV)(e:PO),e∈(ed n l).2->∃es sz,e=.row 0 es sz/\∃k,di k sz es∈l
 |n,[],e,h=>by cases h
 |n,c::r,e,h=>by
  unfold ed at h;cases ho:fe c with
  |none=>
   rw[ho]at h;obtain⟨es,sz,h1,k,B⟩:=Kr n r e h;grind
  |some q=>
   obtain⟨k,es,sz⟩:=q;rw[ho]at h;rcases zqj.1 h with rfl|h
   . exact⟨es,sz,rfl,k,by grind[y9]⟩
   . obtain⟨es,sz,h1,k,B⟩:=Kr (n+1) r e h
     grind
theorem Gq:∀(n:Nat)(l:List AV)(e:PO),e∈(W2 n l).2->∃es sz,e=.row 0 es sz/\∃k,∃v∈l,di k sz es∈v.cells
 |n,[],e,h=>by cases h
 |n,v::r,e,h=>by
  unfold W2 at h;rcases zqk.1 h with h|h
  . grind[Kr]
  . obtain⟨es,sz,h1,k,u,hu,h2⟩:=Gq _ r e h
    grind
theorem Nm:∀(l:List AV)(n m:Nat),(ed n l).2=(ed m l).2
 |[],n,m=>rfl
 |c::r,n,m=>by
  unfold ed;cases fe c with
  |none=>exact Nm r n m
  |some q=>exact congrArg (List.cons (PO.row 0 q.2.1 q.2.2)) (Nm r (n+1) (m+1))
theorem aB:∀(l:List AV)(n m:Nat),(W2 n l).2=(W2 m l).2
 |[],n,m=>rfl
 |v::r,n,m=>by
  unfold W2;rw[Nm v.cells n m];exact congrArg (List.append _) (aB r _ _)
theorem Vz(b:Nat):∀(l:List AV)(n:Nat),(l.all fun c=>(fe c).isSome||clo c)=zt->(ed (b+n) l).1=renL (fun id=>zsq (b+id)) (ed n l).1
 |[],n,_=>rfl
 |c::r,n,hk=>by
  obtain⟨h1,B⟩:((fe c).isSome||clo c)=zt/\(r.all fun c=>(fe c).isSome||clo c)=zt:=by grind
  unfold ed;cases ho:fe c with
  |none=>
   rw[ho]at h1;have hc:clo c=zt:=by grind
   show c::(ed (b+n) r).1=J7 _ c::renL _ (ed n r).1
   rw[gX hc,Vz b r n B]
  |some q=>
   obtain⟨k,es,sz⟩:=q;show _::(ed (b+n+1) r).1=J7 _ _::renL _ (ed (n+1) r).1
   rw[show b+n+1=b+(n+1) by omega,Vz b r (n+1) B]
   congr 1
   split<;>rfl
theorem aC(b:Nat):∀(l:List AV)(n:Nat),re l=zt->(W2 (b+n) l).1=renL (fun id=>zsq (b+id)) (W2 n l).1
 |[],n,_=>rfl
 |v::r,n,hk=>by
  obtain⟨h1,B⟩:(v.cells.all fun c=>(fe c).isSome||clo c)=zt/\re r=zt:=by grind[re]
  unfold W2;show _::_=J7 _ _::renL _ _
  rw[Nm v.cells (b+n) n,show b+n+lz (ed n v.cells).2=b+(n+lz (ed n v.cells).2) by omega,aC b r _ B,Vz b v.cells n h1]
  congr 1
  unfold N7;split
  . rfl
  . cases (ed n v.cells).1<;>rfl
end
section
variable {E:Env}{R:AV->AV->Prop}{Z Z' Z1:Nat->Prop}{ow ow' ow1:Nat->Option (List Nat)}{h h' h1:Vg}{K K':PK}{os os' ps:List PO}{x y xc yc v k:AV}{L M:List Nat}
theorem Hp{v:AV}(e:noF v=zt):∀c∈v.cells,noF c=zt:=by
 have hl:∀(l:List AV),noFL l=zt->∀c∈l,noF c=zt:=fun l=>by
  induction l with
  |nil=>grind
  |cons a l ih=>
   intro B c hc;have B:(noF a&&noFL l)=zt:=B;grind
 intro c hc;cases v with
 |agg cs=>exact hl cs e c hc
 |_=>rw[D7 rfl]at hc;grind
theorem iA{l:List AV}(e:noFL l=zt):∀c∈l,noF c=zt:=fun c hc=>Hp (v:=.agg l) e c hc
theorem Fz.noF(f:Fz Z h x y)(hc:AM.clo y=zt)(e:AM.noF y=zt)(Z':Nat->Prop)(h':Vg):Fz Z' h' x y:=by
 cases f with
 |int=>exact .int _ _
 |bool=>exact .bool _
 |str=>exact .str _
 |x0a=>exact .x0a
 |x0c=>exact .x0c
 |x0d=>exact .x0d
 |x0e=>exact .x0e
 |x0b=>exact .x0b
 |agg=>cases hc
 |_=>cases e
theorem CR.noF(c:CR Z ow h L x y)(e:AM.noF y=zt)(Z':Nat->Prop):CR Z' ow h L x y:=by
 induction c with
 |val f hc n=>exact .val (f.noF hc e Z' h) hc n
 |und=>exact .und
 |nil D n=>exact .nil D n
 |own h1 G H I J N h7 Q=>
  refine .own h1 G H I J N fun i a b ha hb o u w C B=>Q i a b ha hb o u w C B ?_
  have e:noFL _=zt:=e;exact Hp (iA e b (zqb hb)) w (zqb B)
def MQ(c:AV):Prop:=(clo c=zt/\noF c=zt)\/(∃a b d e,c=.msl a b d e)\/∃a b d,c=.ptr a b d
theorem VR.noF(a:VR Z ow h os x y)(e:MQ y)(Z':Nat->Prop):VR Z' ow h os x y:=by
 rcases e with⟨h1,B⟩|⟨i,j,k,l,rfl⟩|⟨i,j,k,rfl⟩
 . exact .fz ((a.fzc h1).noF h1 B Z' h)
 . cases a with
   |fz f=>cases f
   |msl h1 B=>exact .msl h1 B
   |mnil h1 B C=>exact .mnil h1 B C
 . cases a with
   |fz f=>cases f
   |ptr h1 B=>exact .ptr h1 B
theorem Pa:∀(l:List AV)(n:Nat),(l.all fun c=>(fe c).isSome||clo c)=zt->(∀c∈l,noF c=zt)->∀c∈(ed n l).1,MQ c
 |[],n,_,_,c,hc=>by cases hc
 |a :: r,n,hk,hf,c,hc=>by
  obtain⟨h1,B⟩:((fe a).isSome||clo a)=zt/\(r.all fun c=>(fe c).isSome||clo c)=zt:=by grind
  unfold ed at hc;cases ho:fe a with
  |none=>
   rw[ho]at hc h1;rcases zqj.1 hc with rfl|hc
   . exact .inl (by grind)
   . exact Pa r n B (by grind) c hc
  |some q=>
   obtain⟨k,es,sz⟩:=q;rw[ho]at hc;rcases zqj.1 hc with rfl|hc
   . split
     . exact .inr (.inr ⟨_,_,_,rfl⟩)
     . exact .inr (.inl ⟨_,_,_,_,rfl⟩)
   . exact Pa r (n+1) B (by grind) c hc
theorem Pb:∀(l:List AV)(n:Nat),lz (ed n l).1=lz l
 |[],n=>rfl
 |a::r,n=>by
  unfold ed;cases fe a with
  |none=>exact congrArg (· + 1) (Pb r n)
  |some q=>exact congrArg (· + 1) (Pb r (n+1))
theorem VR.open_noF{n:Nat}{v:AV}(a:VR Z ow h os x (N7 v (ed n v.cells).1))(D:(v.cells.all fun c=>(fe c).isSome||clo c)=zt)(hf:AM.noF v=zt)(Z':Nat->Prop):VR Z' ow h os x (N7 v (ed n v.cells).1):=by
 have hn:=Pa v.cells n D (Hp hf);cases B:fh v with
 |true=>
  cases v<;>first|(cases B;done)|skip
  obtain⟨xs,rfl,l⟩:=a.agI;exact .agg l.1 fun i u w G C=>(l.2 i u w G C).noF (hn w (zqb C)) Z'
 |false=>
  have hl:lz (ed n v.cells).1=1:=by rw[Pb,D7 B];rfl
  have:N7 v (ed n v.cells).1∈(ed n v.cells).1:=by
   obtain⟨c,hc⟩:=zka.1 hl;rw[hc]
   have:N7 v [c]=c:=by cases v<;>first|rfl|cases B
   grind
  exact a.noF (hn _ this) Z'
theorem VL.open_noF:∀(rs:List AV)(n:Nat)(xs:List AV),VL Z ow h os xs (W2 n rs).1->re rs=zt->noFL rs=zt->∀Z':Nat->Prop,VL Z' ow h os xs (W2 n rs).1
 |[],n,xs,a,_,_,Z'=>by
  cases xs with
  |nil=>exact .nil
  |cons u xs=>cases a.1
 |v::r,n,xs,a,hk,hf,Z'=>by
  obtain⟨h1,B⟩:(v.cells.all fun c=>(fe c).isSome||clo c)=zt/\re r=zt:=by grind[re]
  obtain⟨C,D⟩:noF v=zt/\noFL r=zt:=zkb.1 (show(noF v&&noFL r)=zt from hf);unfold W2 at a|-;cases xs with
  |nil=>cases a.1
  |cons u xs=>
   obtain⟨G,H⟩:=a.inv;exact .cons (G.open_noF h1 C Z') (VL.open_noF r _ xs H B D Z')
theorem PT.noF{ps:List PO}(s:G6 Z ow h ps)(D:∀e∈ps,∃es sz,e=.row 0 es sz/\noFL es=zt)(hZ:∀a,Z' a->a<h.next/\ow a=znq):G6 Z' ow h ps where
 row r es sz hr:=by
  obtain⟨x,G⟩:=s.row r es sz hr;obtain⟨es',B,h1,C⟩:=D _ (zqb hr);cases h1;exact⟨x,G.noF C Z'⟩
 raw r k es sz hr hk:=by
  obtain⟨es',B,h1,C⟩:=D _ (zqb hr);grind
 map r es hr:=by
  obtain⟨es',B,h1,C⟩:=D _ (zqb hr);cases h1
 inj:=s.inj
 live a L ho:=by
  obtain⟨h1,C,h3⟩:=s.live a L ho;grind
 zb a hz:=(hZ a hz).1
 sb:=s.sb
def Ds(n:Nat)(ow ow1:Nat->Option (List Nat)):Nat->Option (List Nat):=fun d=>match ow d with
 |some L=>zsq L
 | none=>match ow1 d with
  |some (r::t)=>zsq ((n+r)::t)
  |_=>znq
theorem qC(s:G6 Z ow h os)(s1:G6 Z1 ow1 h1 ps)(U:∀e∈ps,∃es sz,e=.row 0 es sz)(hn:h.next<=h1.next)(hz:∀id,Z id->Z1 id/\h1.get id=h.get id)(hzn:∀id,Z1 id->Z id\/h.next<=id)(un:∀id,id<h.next->h1.get id=h.get id)(hnew:∀id L,ow1 id=zsq L->h.next<=id):
 G6 Z1 (Ds (lz os) ow ow1) h1 (os++ps)/\df ow os (Ds (lz os) ow ow1) (os++ps)/\Ren (fun id=>zsq (lz os+id)) ow1 ps (Ds (lz os) ow ow1) (os++ps)/\∀d r t,r<lz os->(Ds (lz os) ow ow1 d=zsq (r::t)↔ow d=zsq (r::t)):=by
 have hold:∀d,h.next<=d->ow d=znq:=fun d V=>by
  cases e:ow d with
  |none=>rfl
  |some L=>exact absurd (s.live d L e).1 (by omega)
 have I:∀d r t,r<lz os->(Ds (lz os) ow ow1 d=zsq (r::t)↔ow d=zsq (r::t)):=fun d r t B=>by
  unfold Ds;cases e:ow d with
  |some L=>exact .rfl
  |none=>
   simp only
   constructor
   . intro h0
     cases e1:ow1 d with
     |none=>rw[e1]at h0;cases h0
     |some M=>
      rw[e1]at h0;cases M with
      |nil=>cases h0
      |cons N t'=>cases h0;omega
   . intro h0;cases h0
 have hB:∀d r t,Ds (lz os) ow ow1 d=zsq ((lz os+r)::t)↔ow1 d=zsq (r::t):=fun d r t=>by
  unfold Ds
  constructor
  . intro h0
    cases e:ow d with
    |some L=>
     rw[e]at h0;cases h0;obtain⟨_,_,N,t',D,H⟩:=s.live d _ e;cases D
     have:=fj H;omega
    |none=>
     rw[e]at h0;simp only at h0;cases e1:ow1 d with
     |none=>rw[e1]at h0;cases h0
     |some M=>
      rw[e1]at h0;cases M with
      |nil=>cases h0
      |cons N t'=>
       simp only[Option.some.injEq,List.cons.injEq]at h0;obtain⟨h5,rfl⟩:=h0;obtain rfl:N=r:=by omega
       rfl
  grind
 have hC:∀d L,Ds (lz os) ow ow1 d=zsq L->(∃r t,L=r::t/\r<lz os/\ow d=zsq L)\/∃r t,L=(lz os+r)::t/\ow1 d=zsq (r::t):=fun d L h0=>by
  unfold Ds at h0;cases e:ow d with
  |some L'=>
   rw[e]at h0;cases h0;obtain⟨_,_,N,t',D,H⟩:=s.live d _ e;exact .inl ⟨N,t',D,fj H,rfl⟩
  |none=>
   grind
 have G:df ow os (Ds (lz os) ow ow1) (os++ps):=Nc s.sb fun id hid L hL c=>by
  obtain⟨t,rfl,B,_⟩:=I8 6 id L hL;grind[fj]
 have J:∀d L,ow d=zsq L->h1.get d=h.get d:=fun d L ho=>un d (s.live d L ho).1
 have hps:∀(r:Nat) e,ps[r]?=zsq e->ek (os++ps) (lz os+r)=zt:=fun r e B=>by
  unfold ek;rw[zqw (by omega),Nat.add_sub_cancel_left,B];obtain⟨es,sz,rfl⟩:=U e (zqb B);rfl
 have C:∀{r:Nat}{e:PO},(os++ps)[r]?=zsq e->(r<lz os/\os[r]?=zsq e)\/∃q,r=lz os+q/\ps[q]?=zsq e:=(by grind)
 refine⟨⟨fun r es sz B=>?_,fun r k es sz B hk=>?_,fun r es B=>?_,fun a b M ha hb=>?_,fun a M ha=>?_,s1.zb,fun j p i o X=>?_⟩,G,fun id j X hid=>?_,I⟩
 . rcases C B with⟨hl,B⟩|⟨q,rfl,Q⟩
   . obtain⟨x,hx⟩:=s.row r es sz B
     exact⟨x,hx.reloc hn hz (fun d t=>I d r t hl) (fun d t V=>J d _ V)⟩
   . obtain⟨x,hx⟩:=s1.row q es sz Q
     exact⟨x,hx.reloc (zke _) (fun d V=>⟨V,rfl⟩) (fun d t=>hB d q t) (fun d t V=>rfl)⟩
 . rcases C B with⟨hl,B⟩|⟨q,rfl,Q⟩
   . obtain⟨c,ces,g⟩:=s.raw r k es sz B hk
     exact⟨c,ces,(I c r [] hl).2 g.o,zkf g.lt hn,(J c _ g.o).trans g.get,g.sh,fun i a b ha hb o u w hu hw=>(g.vr i a b ha hb o u w hu hw).keep hz G,g.okp,fun a t ha=>g.no a t ((I a r t hl).1 ha)⟩
   . obtain⟨es',Y,D⟩:=U _ (zqb Q)
     grind
 . rcases C B with⟨hl,B⟩|⟨q,rfl,Q⟩
   . obtain⟨c,ces,g⟩:=s.map r es B
     exact⟨c,ces,(I c r [] hl).2 g.o,zkf g.lt hn,(J c _ g.o).trans g.get,g.len,fun i a b ha hb=>⟨(g.kv i a b ha hb).1,(g.kv i a b ha hb).2.mono hz⟩,fun a t ha=>g.no a t ((I a r t hl).1 ha)⟩
   . obtain⟨es',Y,D⟩:=U _ (zqb Q)
     cases D
 . rcases hC a M ha with⟨r,t,rfl,D,H⟩|⟨r,t,rfl,H⟩
   . exact s.inj a b _ H ((I b r t D).1 hb)
   . exact s1.inj a b _ H ((hB b r t).1 hb)
 . rcases hC a M ha with⟨r,t,rfl,D,H⟩|⟨r,t,rfl,H⟩
   . obtain⟨q1,q2,N,t',q3,q4⟩:=s.live a _ H
     cases q3;refine⟨zkf q1 hn,fun hz1=>?_,r,t,rfl,Vj q4⟩;grind
   . obtain⟨q1,q2,N,t',q3,q4⟩:=s1.live a _ H
     cases q3;obtain⟨e,he⟩:∃e,ps[r]?=zsq e:=⟨_,zqa (fj q4)⟩
     grind
 . rcases C X with⟨hl,X⟩|⟨q,rfl,Q⟩
   . have:=s.sb j p i o X;simp;omega
   . obtain⟨es',Y,D⟩:=U _ (zqb Q)
     cases D
 . cases X
   obtain⟨e,he⟩:∃e,ps[id]?=zsq e:=⟨_,zqa hid⟩
   refine⟨by simp;omega,fun L' hL'=>?_⟩;have D:(os++ps)[lz os+id]?=zsq e:=by grind
   obtain⟨es,sz,rfl⟩:=U e (zqb he);grind[loP]
theorem vT{f:Nat}{g:List AV->Option (List AV)}(tc:TC E f g)(s:G6 Z ow h K.os)(D:K.ext<=lz K.os){args C vs:List AV}(l:VL Z ow h K.os C args)(e:rh g args K=zsq (vs,K')):
 ∃Z' ow' h' B,du E f C h=.ok (cj B) h'/\G6 Z' ow' h' K'.os/\df ow K.os ow' K'.os/\(∀b,Stp b Z ow h K Z' ow' h' K')/\VL Z' ow' h' K'.os B vs:=by
 unfold rh at e;cases ha:rg K.os args with
 |none=>rw[ha]at e;cases e
 |some as1=>
  rw[ha]at e;simp only at e;cases hg:g as1 with
  |none=>rw[hg]at e;cases e
  |some rs=>
   rw[hg]at e;simp only at e;split at e
   . rename_i hc
     obtain⟨V,hc⟩:=zkb.1 hc;cases e;obtain⟨g1,g2⟩:=vS s l ha;have N:∀e∈(W2 0 rs).2,∃es sz,e=.row 0 es sz:=fun e he=>let⟨es,sz,h1,_⟩:=Gq 0 rs e he;⟨es,sz,h1⟩
     have aa:∃(Z':Nat->Prop)(h1:Vg)(ow1:Nat->Option (List Nat))(B:List AV),du E f C h=.ok (cj B) h1/\G6 Z' ow1 h1 (W2 0 rs).2/\VL Z' ow1 h1 (W2 0 rs).2 B (W2 0 rs).1/\
      h.next<=h1.next/\(∀id,Z id->Z' id/\h1.get id=h.get id)/\(∀id,Z' id->Z id\/h.next<=id)/\(∀id,id<h.next->h1.get id=h.get id)/\(∀id L,ow1 id=zsq L->h.next<=id)/\∃l,h1.tch=l++h.tch/\∀id∈l,h.next<=id:=by
      have Q:∀(i:Nat) x y,C[i]?=zsq x->as1[i]?=zsq y->∃c,args[i]?=zsq c/\Fz (Zv Z ow) h x y/\(O4 c=[]->Fz Z h x y):=fun i x y D G=>by
       obtain⟨c,hc⟩:∃c,args[i]?=zsq c:=⟨_,zqa (by have:=(zqc.1 G).1;omega)⟩
       exact⟨c,hc,g2 i x c y D hc G⟩
      by_cases H:refsL args=[]
      . have hm:∀(args:List AV)(i:Nat) c,refsL args=[]->args[i]?=zsq c->O4 c=[]:=fun ys=>by
         induction ys with
         |nil=>intro i c _ hc;simp at hc
         |cons a l ih=>
          intro i c h0 hc;have h0:O4 a++refsL l=[]:=h0;obtain⟨h1,h2⟩:=zqt.1 h0;cases i with
          |zero=>cases hc;exact h1
          |succ i=>exact ih i c h2 hc
        obtain ⟨B,h1,Z1,ow1,q1,q2,q3,I,q5,q6,J,X,q9⟩:=tc as1 rs hg Z h C (l.1.trans g1.symm) (fun i x y D G=>by
         obtain⟨c,hc,_,Y⟩:=Q i x y D G;exact Y (hm args i c H hc)) s.zb
        grind
      . have U:noFL rs=zt:=by
         grind
        have ab:∀id,Zv Z ow id->id<h.next:=fun id hz=>by
         rcases hz with hz|hz
         . exact s.zb id hz
         . cases e:ow id with
           |none=>grind
           |some L=>exact(s.live id L e).1
        obtain ⟨B,h1,Z1,ow1,q1,q2,q3,I,q5,q6,J,X,q9⟩:=tc as1 rs hg (Zv Z ow) h C (l.1.trans g1.symm) (fun i x y D G=>by
         obtain⟨c,hc,Y,_⟩:=Q i x y D G;exact Y) ab
        refine⟨Z,h1,ow1,B,q1,q2.noF (fun e he=>?_) (fun a hz=>⟨zkf (s.zb a hz) I,?_⟩),q3.open_noF rs 0 B V U Z,I,fun id hz=>⟨hz,J id (s.zb id hz)⟩,fun id hz=>.inl hz,J,X,q9⟩
        . obtain⟨es,sz,h3,k,v,hv,Y⟩:=Gq 0 rs e he
          exact⟨es,sz,h3,Hp (iA U v hv) _ Y⟩
        . cases e:ow1 a with
          |none=>rfl
          |some L=>have:=X a L e;have:=s.zb a hz;omega
     obtain⟨Z',h1,ow1,B,q1,q2,q3,I,q5,q6,J,X,l0,q9,q10⟩:=aa;obtain⟨r1,r2,r3,r4⟩:=qC s q2 N I q5 q6 J X;rw[aB rs (lz K.os) 0];refine⟨Z',_,h1,B,q1,r1,r2,fun b=>⟨I,q5,q6,fun id hl _=>J id hl,fun id L ho hl e=>?_,(by grind),fun id r t ho H=>.inl ⟨t,?_⟩,fun r H _=>H,rfl,fun j hj c H=>?_,fun j hj H=>?_⟩,?_⟩
     . grind[Ds]
     . grind
     . grind
     . grind[ek]
     . have:=aC (lz K.os) rs 0 V
       rw[Nat.add_zero]at this;rw[this];exact q3.ren (fun id hz=>⟨hz,rfl⟩) r3
   . cases e
end
section
variable {E:Env}{P:PE}{R:AV->AV->Prop}{Z Z' Z1:Nat->Prop}{ow ow' ow1:Nat->Option (List Nat)}{h h' h1:Vg}{K K' K1:PK}{os os' ps:List PO}{x y xc yc v k:AV}{L M:List Nat}{nt:Nat}{frc:Tr}{fr:PF}
def Wa(nt:Nat)(l:List XOp):Bool:=l.all fun o=>match o.dst with|none=>zt|some t=>decide (t<nt)
def J8(nt:Nat):PC->Bool
 |.skip=>zt
 |.reg _ l=>Wa nt l
 |.seq a b=>J8 nt a&&J8 nt b
 |.cond _ a b=>J8 nt a&&J8 nt b
 |.block _ c=>J8 nt c
 |.loop c=>J8 nt c
 |.scope c=>J8 nt c
 |.exit _=>zt
 |.ret=>zt
 |.pre _ c=>J8 nt c
 |.post _ c=>J8 nt c
 |.rfn _ ps a b=>ps.all (fun p=>decide (p<nt))&&(J8 nt a&&J8 nt b)
 |.itf _ c=>J8 nt c
 |.yreg p0 _ yt p1 yd _ p2=>(decide (yt<nt)&&decide (yd<nt))&&(J8 nt p0&&(J8 nt p1&&J8 nt p2))
 |.dfr _ a _ c=>J8 nt a&&J8 nt c
 | .rcv _ d d2 c=>(decide (d<nt)&&decide (d2<nt))&&J8 nt c
def Wb:PC->FM
 |.itf _ c=>.itf c.eri
 |.dfr _ a g c=>.dfr a.pieces g c.er
 |.rcv _ d d2 c=>.rcv d d2 c.er
 |_=>.plain
structure e0z(E:Env)(f:Nat)(p:PFn):Prop where
 gc:E.gc f=zf
 told:E.told f=zf
 dlf:E.dlf f=znq
 srt:∀args h,wg E f args h=znq
 fn:E.fn f=zsq ⟨p.code.er,p.nt,p.rs,Wb p.code⟩
 nt:p.nt<1048576
 ok:J8 p.nt p.code=zt
structure ep(P:PE):Prop where
 gl:wO P.E
 ti:GE P.E
 T:∀f g,P.T f=zsq g->TC P.E f g
 fn:∀f p,P.fn f=zsq p->e0z P.E f p
def V9(b:Nat)(ow:Nat->Option (List Nat))(os:List PO)(ow':Nat->Option (List Nat))(os':List PO):Prop:=∀id,id<b->∀B,loP os' 6 id=zsq B->∃L,loP os 6 id=zsq L/\∀c,ow c=zsq L↔ow' c=zsq B
theorem V9.refl(b:Nat)(ow:Nat->Option (List Nat))(os:List PO):V9 b ow os ow os:=fun id _ B hl=>⟨B,hl,fun _=>.rfl⟩
theorem V9.trans{b:Nat}{ow2:Nat->Option (List Nat)}{os2:List PO}(a:V9 b ow os ow' os')(c:V9 b ow' os' ow2 os2):V9 b ow os ow2 os2:=fun id hi B hl=>by
 obtain⟨C,h1,h2⟩:=c id hi B hl;obtain⟨L0,h3,h4⟩:=a id hi C h1;grind
theorem df.e{b:Nat}(a:df ow os ow' os')(hb:b<=lz os):V9 b ow os ow' os':=fun id hi=>a.2 id (zkf hi hb)
def C3(Z:Nat->Prop)(ow:Nat->Option (List Nat))(h:Vg)(K:PK)(nt:Nat)(r:cz)(p:PR):Prop:=match p with
 |.ok e fr' K'=>∃Z' ow' h' B,r=.ok e B h'/\G6 Z' ow' h' K'.os/\FrR Z' ow' h' K'.os nt B fr'/\Stp K.ext Z ow h K Z' ow' h' K'/\K'.ext<=lz K'.os/\V9 K.ext ow K.os ow' K'.os
 |.pan v K'=>∃Z' ow' h' vc,r=.pan vc h'/\G6 Z' ow' h' K'.os/\VR Z' ow' h' K'.os vc v/\Stp K.ext Z ow h K Z' ow' h' K'/\K'.ext<=lz K'.os/\V9 K.ext ow K.os ow' K'.os
 |.val _ _=>True
 | .itr _ _ _ _=>True
theorem C3.trans{r:cz}{p:PR}(s:G6 Z ow h K.os)(st:Stp K.ext Z ow h K Z' ow' h' K')(U:V9 K.ext ow K.os ow' K'.os)(c:C3 Z' ow' h' K' nt r p):C3 Z ow h K nt r p:=by
 cases p with
 |ok e fr' V=>obtain⟨D,ow2,G,B,H,I,J,N,Q,C⟩:=c;exact⟨D,ow2,G,B,H,I,J,st.trans s N,Q,U.trans (by rw[st.ex]at C;exact C)⟩
 |pan v V=>obtain⟨D,ow2,G,vc,H,I,J,N,Q,C⟩:=c;exact⟨D,ow2,G,vc,H,I,J,st.trans s N,Q,U.trans (by rw[st.ex]at C;exact C)⟩
 |_=>trivial
def zB(Z:Nat->Prop)(ow:Nat->Option (List Nat))(h:Vg)(K:PK)(r:Res)(p:PR):Prop:=match p with
 |.val vs K'=>∃Z' ow' h' B,r=.ok (cj B) h'/\G6 Z' ow' h' K'.os/\df ow K.os ow' K'.os/\(∀b,Stp b Z ow h K Z' ow' h' K')/\VL Z' ow' h' K'.os B vs
 |.pan v K'=>∃Z' ow' h' vc,r=.pan vc h'/\G6 Z' ow' h' K'.os/\(∀b,Stp b Z ow h K Z' ow' h' K')/\VR Z' ow' h' K'.os vc v/\K'.ext<=lz K'.os/\df ow K.os ow' K'.os
 |.ok _ _ _=>True
 | .itr _ _ _ _=>True
def nL(Z:Nat->Prop)(ow:Nat->Option (List Nat))(h:Vg)(K:PK)(r:Res)(p:PR):Prop:=match p with
 |.val vs K'=>∃Z' ow' h' B,r=.ok (cj B) h'/\G6 Z' ow' h' K'.os/\Stp K.ext Z ow h K Z' ow' h' K'/\VL Z' ow' h' K'.os B vs/\V9 K.ext ow K.os ow' K'.os/\K'.ext<=lz K'.os
 |.pan v K'=>∃Z' ow' h' vc,r=.pan vc h'/\G6 Z' ow' h' K'.os/\Stp K.ext Z ow h K Z' ow' h' K'/\VR Z' ow' h' K'.os vc v/\K'.ext<=lz K'.os/\V9 K.ext ow K.os ow' K'.os
 |.ok _ _ _=>True
 | .itr _ _ _ _=>True
theorem VL.one{xs ys:List AV}(l:VL Z ow h os xs ys):VR Z ow h os (cj xs) (cj ys):=by
 have hl:=l.1
 match xs,ys with
 |[],[]=>exact .tup rfl (fun i x y B=>by simp at B)
 |[x],[y]=>exact l.2 0 x y rfl rfl
 |x::x'::xs,y::y'::ys=>exact .tup l.1 l.2
 |[],_::_=>cases hl
 |_::_,[]=>cases hl
 |[_],_::_::_=>simp at hl
 |_::_::_,[_]=>simp at hl
theorem Gr(B:K.ext<=lz K.os)(C:df ow K.os ow' K'.os)(D:K'.ext=K.ext):K'.ext<=lz K'.os:=by rw[D];exact zki B C.1
theorem FrR.setd(a:FrR Z ow h os nt frc fr){d:Option Tmp}(hd:(match d with|none=>zt|some t=>decide (t<nt))=zt)(v:VR Z ow h os x y):FrR Z ow h os nt (co d x frc) (ia d y fr):=by
 cases d with
 |none=>exact a
 |some t=>exact a.set (by grind) v
theorem fd:VR Z ow h os Yw Yw:=.tup rfl (fun i x y B=>by simp at B)
theorem lG{w b:Bool}(v:VR Z ow h os x y)(e:i7 w y=zsq b):i7 w x=zsq b:=by
 cases y with
 |bool c=>rw[v.isB];exact e
 |tup cs=>
  cases cs with
  | nil=>cases v with
   |fz f=>cases f
   |tup hl _=>grind
  |cons=>cases e
 |_=>cases e
theorem l9{g:Option (Option Tmp×Bool)}{b:Bool}(a:FrR Z ow h os nt frc fr)(e:ge g fr=zsq b):cm g frc=zsq b:=by
 cases g with
 |none=>exact e
 |some p=>
  obtain⟨t,w⟩:=p;cases t with
  |none=>exact e
  |some t=>exact lG (a.v t) e
theorem Wc:∀(l:List AV)(i:Nat)(t:Tr)(j:Nat),(∀j,j<i+lz l->t.has j=zt)->(Tr.setAll l i t).get j=if i<=j then(match l[j-i]? with|some v=>v|none=>t.get j)else t.get j
 |[],i,t,j,_=>by
  show t.get j=_
  grind
 |v :: l,i,t,j,hh=>by
  show(Tr.setAll l (i+1) (t.set i v)).get j=_
  rw[Wc l (i+1) (t.set i v) j (by grind[Go.AM.Tr.has_set])];by_cases e:i=j
  . subst e
    rw[if_neg (by omega),if_pos (zke _),Nat.sub_self,Tr.get_set_eq,hh i (by simp),if_pos rfl];rfl
  . rw[Tr.get_set_ne _ _ _ _ e]
    grind
theorem Wd:∀(l:List AV)(i j:Nat),FR (ig i l) j=if i<=j then(match l[j-i]? with|some v=>v|none=>.und)else .und
 |[],i,j=>by show AV.und=_;grind
 |v::l,i,j=>by
  show(if i=j then v else FR (ig (i+1) l) j)=_
  rw[Wd l (i+1) j];grind
theorem Hq{args B:List AV}(l:VL Z ow h os B args)(hn:lz args<=nt)(hb:nt<1048576):FrR Z ow h os nt (Tr.enter nt B) (ig 0 args):=by
 have hh:∀j,j<0+lz B->(Tr.mk 20 nt).has j=zt:=fun j hj=>by rw[Tr.has_mk' 20 nt j hb];have:=l.1;simp;omega
 refine⟨fun i=>?_,fun i hi=>?_⟩
 . show VR Z ow h os ((Tr.setAll B 0 (Tr.mk 20 nt)).get i) _
   rw[Wc B 0 _ i hh,Wd args 0 i,if_pos (Nat.zero_le _),if_pos (Nat.zero_le _),Nat.sub_zero];cases D:args[i]? with
   |none=>exact .und
   |some y=>
    obtain⟨x,C⟩:∃x,B[i]?=zsq x:=⟨_,zqa (by have:=(zqc.1 D).1;have:=l.1;omega)⟩
    rw[C];exact l.2 i x y C D
 . have:∀(l:List AV)(i:Nat)(t:Tr)(j:Nat),(Tr.setAll l i t).has j=t.has j:=fun l=>by
    induction l with
    |nil=>intro i t j;rfl
    |cons v l ih=>simp_all[Tr.setAll,Tr.has_set]
   show(Tr.setAll B 0 (Tr.mk 20 nt)).has i=zt
   grind[Tr.has_mk']
theorem Stp.subs(s:G6 Z ow h K.os)(hx:K.ext<=lz K.os){K':PK}(B:K'.ext=K.ext)(ht:K'.tch=K.tch){ps:List PO}(ho:K'.os=K.os++ps)(hp:∀e∈ps,∃a b c,e=.sub a b c)(b:Nat):Stp b Z ow h K Z ow h K':=by
 refine⟨zke _,fun id hz=>⟨hz,rfl⟩,fun id hz=>.inl hz,fun _ _ _=>rfl,(by grind),(by simp_all),fun id r t ho _=>.inl ⟨t,ho⟩,fun r C _=>by grind,B,fun j _ c _=>.rfl,fun j hj C=>?_⟩;grind[ek]
theorem cW:∀(rs:List ResultVar){K:PK}{vs:List AV}{K':PK},G6 Z ow h K.os->K.ext<=lz K.os->FrR Z ow h K.os nt frc fr->kq E rs fr K=zsq (vs,K') ->
 ∃B,G0 E rs frc h=zsq B/\G6 Z ow h K'.os/\df ow K.os ow K'.os/\Stp K.ext Z ow h K Z ow h K'/\VL Z ow h K'.os B vs
 |[],K,vs,K',s,hx,a,e=>by cases e;exact⟨[],rfl,s,.refl _ _,.refl _ _ _ _ _,.nil⟩
 |.tmp t::l,K,vs,K',s,hx,a,e=>by
  unfold kq at e;cases D:kq E l fr K with
  |none=>grind
  |some q=>
   obtain⟨us,Q⟩:=q;rw[D]at e;cases e;obtain⟨B,U,G,C,H,I⟩:=cW l s hx a D;refine⟨frc.get t::B,?_,G,C,H,.cons ((a.v t).keep (fun _ hz=>⟨hz,rfl⟩) C) I⟩;simp_all[A5,G0]
 |.cell c t::l,K,vs,K',s,hx,a,e=>by
  unfold kq at e;cases ht:E.ti t with
  |none=>grind
  |some ti=>
   rw[ht]at e;simp only at e;cases hl:oe ti (FR fr c) K with
   |none=>grind
   |some q=>
    obtain⟨v,K1⟩:=q;rw[hl]at e;simp only at e;obtain⟨vc,b1,V,J,X,N,Y,ps,b7,b8⟩:=gL s (a.v c) hl;cases D:kq E l fr K1 with
    |none=>grind
    |some q=>
     obtain⟨us,Q⟩:=q;rw[D]at e;cases e;obtain⟨B,U,G,C,H,I⟩:=cW l V (Gr hx J N) (a.keep (fun _ hz=>⟨hz,rfl⟩) J) D;refine⟨vc::B,?_,G,J.trans C,(Stp.subs s hx N Y b7 b8 _).trans s H,.cons (X.keep (fun _ hz=>⟨hz,rfl⟩) C) I⟩;simp_all[A5,G0,N8]
end
section
variable {E:Env}
theorem Y7{g:Nat->cz}{r:cz}{k:Nat->Tr->Vg->gn}{s:Tr->Vg->gn}(hg:Lim .bad g r)(B:∀fr h,Lim .bad (fun n=>k n fr h) (s fr h)):Lim .bad (fun n=>J1 (k n) (g n)) (J1 s r):=
 hg.bind (k:=fun n r=>J1 (k n) r) (s:=fun r=>J1 s r) (fun _=>rfl) rfl (fun _=>by
  cases r with
  | ok e fr h=>cases e with
   |normal=>exact B fr h
   |_=>exact .const
  |_=>exact .const)
theorem qD{g:Nat->cz}{r:cz}{k:Nat->Tr->Vg->cz}{s:Tr->Vg->cz}(hg:Lim .bad g r)(B:∀fr h,Lim .bad (fun n=>k n fr h) (s fr h)):Lim .bad (fun n=>Dm (k n) (g n)) (Dm s r):=
 hg.bind (k:=fun n r=>Dm (k n) r) (s:=fun r=>Dm s r) (fun _=>rfl) rfl (fun _=>by
  cases r with
  | ok e fr h=>cases e with
   |normal=>exact B fr h
   |_=>exact .const
  |_=>exact .const)
theorem We{R:Type}{bad:R}{o:Option Bool}{a b:Nat->R}{x y:R}(ha:Lim bad a x)(hb:Lim bad b y):Lim bad (fun n=>iw o bad (a n) (b n)) (iw o bad x y):=by
 cases o with
 |none=>exact .const
 |some t=>cases t;exact hb;exact ha
theorem z8{R:Type}{bad:R}{t:Bool}{a:Nat->R}{x:R}(ha:Lim bad a x):Lim bad (fun n=>bif t then a n else bad) (bif t then x else bad):=by
 cases t;exact .const;exact ha
theorem vU(p2:XC)(yd:Tmp)(fr:Tr){g:Nat->cz}{r:cz}(hg:Lim .bad g r):Lim .bad (fun n=>Ia (ev E n) p2 yd fr (g n)) (Ia (evω E) p2 yd fr r):=
 hg.bind (k:=fun n r=>Ia (ev E n) p2 yd fr r) (s:=fun r=>Ia (evω E) p2 yd fr r) (fun _=>rfl) rfl (fun _=>by
  cases r with
  | ok e fr' h=>cases e with
   |_=>exact Y7 (ga _ _ _) (fun _ _=>.const)
  |_=>exact .const)
theorem iB{g:Nat->gn}{r:gn}{k:Nat->Option Ex->Tr->Vg->gn}{s:Option Ex->Tr->Vg->gn}(hg:Lim .bad g r)(B:∀p fr h,Lim .bad (fun n=>k n p fr h) (s p fr h)):Lim .bad (fun n=>Ll (k n) (g n)) (Ll s r):=
 hg.bind (k:=fun n r=>Ll (k n) r) (s:=fun r=>Ll s r) (fun _=>rfl) rfl (fun _=>by
  cases r with
  | ok e p fr h=>cases e with
   |normal=>exact B p fr h
   |_=>exact .const
  |_=>exact .const)
theorem nM{Y:Nat->List AV->Vg->cz}{C:List AV->Vg->cz}(D:∀l h,Lim .bad (fun n=>Y n l h) (C l h))(nt:Nat):∀(m:Nat)(c:IC)(p:Option Ex)(fr:Tr)(h:Vg),Lim .bad (fun n=>evI E (ev E n) nt (Y n) m c p fr h) (evI E (evω E) nt C m c p fr h)
 |0,c,p,fr,h=>.const
 |m + 1,c,p,fr,h=>by
  have B:=nM D nt m;show Lim .bad (fun n=>dZ E (ev E n) nt (Y n) (evI E (ev E n) nt (Y n) m) c p fr h) (dZ E (evω E) nt C (evI E (evω E) nt C m) c p fr h)
  cases c with
  |reg x=>exact Y7 (ga x fr h) (fun _ _=>.const)
  |yreg p0 gd yt p1 yd args p2=>
   refine Y7 (ga p0 fr h) fun fr h=>We ?_ ?_
   . cases p with
     |some _=>exact .const
     |none=>exact z8 (Y7 (ga p1 _ h) fun fr h=>We (vU p2 yd fr (D _ h)) .const)
   . exact Y7 (ga p1 _ h) fun fr h=>We .const (Y7 (ga p2 _ h) fun _ _=>.const)
  |seq a b=>exact iB (B a p fr h) (fun p fr h=>B b p fr h)
  |cond x a b=>
   show Lim .bad (fun n=>(opv E x fr).onBool .bad fun t=>match t with|true=>evI E (ev E n) nt (Y n) m a p fr h|false=>evI E (ev E n) nt (Y n) m b p fr h) ((opv E x fr).onBool .bad fun t=>match t with|true=>evI E (evω E) nt C m a p fr h|false=>evI E (evω E) nt C m b p fr h)
   cases opv E x fr with
   |bool t=>cases t;exact B b p fr h;exact B a p fr h
   |_=>exact .const
  |block id c=>exact(B c p fr h).bind (k:=fun _ r=>Js id r) (s:=fun r=>Js id r) (fun _=>rfl) rfl (fun _=>.const)
  |loop c=>exact iB (B c p fr h) (fun p fr h=>B (.loop c) p fr h)
  |_=>exact .const
theorem lH(ps:List Tmp)(a b:XC)(fr:Tr)(args:List AV)(h:Vg):Lim .bad (fun n=>ee (ev E n) ps a b fr args h) (ee (evω E) ps a b fr args h):=
 z8 (qD (ga a _ h) fun fr h=>ga b fr h)
theorem MR{fr:Tr}{h:Vg}(g:Operand)(ps:List Tmp)(a b:XC):evω E (.rfn g ps a b) fr h=qq E (evω E) ps a b fr h (opv E g fr):=c7 (by
 show Lim .bad (fun n=>qq E (ev E n) ps a b fr h (opv E g fr)) _
 cases opv E g fr with
 |fn f first caps=>
  cases f with
  |func n=>
   refine z8 ?_;refine Lim.bind (bad:=.bad) (g:=fun n'=>itF E (ev E n') n caps (ee (ev E n') ps a b fr) h) (k:=fun _ r=>mz fr r) (s:=fun r=>mz fr r) ?_ (fun _=>rfl) rfl (fun _=>.const);unfold itF;cases E.fn n with
   |none=>exact .const
   |some B=>
    refine z8 ?_;cases B.mode with
    |itf c=>exact(nM (lH ps a b fr) B.ntmps je c znq _ h).bind (k:=fun _ r=>wh r) (s:=fun r=>wh r) (fun _=>rfl) rfl (fun _=>.const)
    |_=>exact .const
  |_=>exact .const
 |_=>exact .const)
theorem Wf(x p:AV)(h:Vg):Lim .bad (fun n=>Du E (ev E n) x p h) (Du E (evω E) x p h):=by
 unfold Du;cases x with
 |fn f first caps=>
  cases f with
  |func n=>
   refine z8 ?_;unfold Sp;cases E.fn n with
   |none=>exact .const
   |some B=>
    refine z8 ?_;cases B.mode with
    |rcv d d2 c=>exact z8 ((ga c _ h).bind (k:=fun _ r=>om r) (s:=om) (fun _=>rfl) rfl (fun _=>.const))
    |_=>exact .const
  |_=>exact .const
 |_=>exact .const
theorem Ks(rs:List ResultVar)(fr:Tr){g:Nat->Res}{r:Res}(hg:Lim .bad g r):Lim .bad (fun n=>j8 E rs fr (g n)) (j8 E rs fr r):=
 hg.bind (k:=fun _ r=>j8 E rs fr r) (s:=j8 E rs fr) (fun _=>rfl) rfl (fun _=>.const)
theorem lI(x:AV)(rs:List ResultVar)(fr:Tr){g:Nat->cz}{r:cz}(hg:Lim .bad g r):Lim .bad (fun n=>J4 E (ev E n) x rs fr (g n)) (J4 E (evω E) x rs fr r):=
 hg.bind (k:=fun n r=>J4 E (ev E n) x rs fr r) (s:=J4 E (evω E) x rs fr) (fun _=>rfl) rfl (fun _=>by
  cases r with
  | ok e B h=>cases e with
   |exit=>exact .const
   |_=>exact Ks rs B (Wf x _ h)
  |pan v h=>exact Ks rs fr (Wf x v h)
  |bad=>exact .const)
theorem iC(g:Operand)(c:XC)(rs:List ResultVar):∀(pre:List XC)(fr:Tr)(h:Vg),Lim .bad (fun n=>s5 E (ev E n) g c rs pre fr h) (s5 E (evω E) g c rs pre fr h)
 |[],fr,h=>lI (opv E g fr) rs fr (ga c fr h)
 |p::pre,fr,h=>(ga p fr h).bind (k:=fun n r=>Ah (s5 E (ev E n) g c rs pre) r) (s:=fun r=>Ah (s5 E (evω E) g c rs pre) r) (fun _=>rfl) rfl (fun _=>by
  cases ho:evω E p fr h with
  | ok e B C=>cases e with
   |normal=>exact iC g c rs pre B C
   |_=>exact .const
  |_=>exact .const)
theorem vV{f:Nat}{args:List AV}{h:Vg}{c:XC}{n:Nat}{rs:List ResultVar}{m:FM}(B:m=.plain\/∃ic,m=.itf ic)(hg:E.gc f=zf)(C:E.told f=zf)(D:E.dlf f=znq)(G:∀args h,wg E f args h=znq)(hf:E.fn f=zsq ⟨c,n,rs,m⟩)(hn:lz args<=n):
 du E f args h=J0 E rs (evω E c (Tr.enter n args) h):=by
 refine (By (E:=E) f args h).unique ?_;have e:∀k,G8 E (ev E k) f args h=J0 E rs (ev E k c (Tr.enter n args) h):=fun k=>by
  unfold G8;rw[hg];show O7 E (ev E k) f args h=_
  unfold O7;rw[C,D,G,hf];show(bif Nat.ble (dw args) n then Ps E (ev E k) ⟨c,n,rs,m⟩ args h else .bad)=_
  rw[A4,zkg hn];rcases B with rfl|⟨ic,rfl⟩<;>rfl
 simp only[e];exact(ga (E:=E) c (Tr.enter n args) h).bind (k:=fun _ r=>J0 E rs r) (s:=J0 E rs) (fun _=>rfl) rfl (fun _=>.const)
theorem vW{f:Nat}{args:List AV}{h:Vg}{c x:XC}{n:Nat}{rs:List ResultVar}{pre:List XC}{g:Operand}(hg:E.gc f=zf)(ht:E.told f=zf)(hd:E.dlf f=znq)(hs:∀args h,wg E f args h=znq)(hf:E.fn f=zsq ⟨x,n,rs,.dfr pre g c⟩)(hn:lz args<=n):
 du E f args h=s5 E (evω E) g c rs pre (Tr.enter n args) h:=by
 refine(By (E:=E) f args h).unique ?_;grind[G8,O7,Ps,A4,zkg,iC]
end
section
variable {E:Env}{P:PE}{R:AV->AV->Prop}{Z Z' Z1:Nat->Prop}{ow ow' ow1:Nat->Option (List Nat)}{h h' h1:Vg}{K K' K1:PK}{os os' ps:List PO}{x y xc yc v k:AV}{L M:List Nat}{nt:Nat}{frc:Tr}{fr:PF}
theorem D5{a:Option PR}{f:PR->Option PR}{r:PR}(e:(a >>= f)=zsq r):∃q,a=zsq q/\f q=zsq r:=by
 cases a with
 |none=>cases e
 |some q=>grind
def m0(l:List XOp):Bool:=l.all fun o=>!o.careful
def CN(b:Nat)(Z:Nat->Prop)(ow:Nat->Option (List Nat))(h:Vg)(os:List PO)(nt:Nat)(frc:Tr)(fr:PF):Prop:=∃D C h0 B,List.length B=b/\FrR D C h0 B nt frc fr/\(∀id,D id->Z id/\h.get id=h0.get id)/\V9 b C B ow os
theorem CN.now{b:Nat}(a:CN b Z ow h os nt frc fr)(hb:b<=lz os):FrR Z ow h os nt frc fr:=by
 obtain⟨Z0,ow0,h0,os0,rfl,B,C,D⟩:=a;exact B.keep C ⟨hb,D⟩
theorem CN.step{b:Nat}(a:CN b Z ow h os nt frc fr)(hz:∀id,Z id->Z' id/\h'.get id=h.get id)(D:V9 b ow os ow' os'):CN b Z' ow' h' os' nt frc fr:=by
 obtain⟨G,B,h0,C,e,H,a2,I⟩:=a;exact⟨G,B,h0,C,e,H,(by grind),I.trans D⟩
theorem Nn(s:G6 Z ow h K.os)(B:K.ext<=lz K.os)(sb:Stp (lz K.os) Z ow h ⟨K.os,lz K.os,[]⟩ Z' ow' h' K1)(b:Nat):Stp b Z ow h K Z' ow' h' ⟨K1.os,K.ext,K1.tch++K.tch⟩:=by
 obtain⟨G,H,I⟩:=sb.th;refine⟨sb.nx,sb.zz,sb.zn,sb.un,sb.uo,⟨G,H,fun id hi=>?_⟩,fun id r t ho D=>?_,(by grind),rfl,fun j C=>sb.xk j (zkf C B),fun j C=>sb.rd j (zkf C B)⟩
 . rcases I id hi with h|⟨r,t,J,q2⟩
   . exact .inl h
   . obtain⟨_,_,r',t',q3,q4⟩:=s.live id _ J
     grind[fj]
 . rcases sb.mv id r t ho (zkf D B)with h|h
   . exact .inl h
   grind
theorem Ce(e1:K1.ext=lz K.os)(e2:K1.ext<=lz K1.os)(e3:V9 (lz K.os) ow K.os ow' K1.os):df ow K.os ow' K1.os:=⟨by grind,e3⟩
def MS(nt:Nat)(c:RC):Bool:=c.ps.all (fun p=>decide (p<nt))&&(J8 nt c.a&&J8 nt c.b)
theorem Pc:∀(ps:List Tmp){B args:List AV}{frc:Tr}{fr:PF},VL Z ow h os B args->ps.all (fun p=>decide (p<nt))=zt->FrR Z ow h os nt frc fr->FrR Z ow h os nt (pj ps B frc) (ld ps args fr)
 |[],_,_,_,_,_,_,a=>a
 |p::ps,[],[],_,_,_,_,a=>a
 |p::ps,x::xs,y::ys,frc,fr,l,hp,a=>by
  obtain⟨h1,C⟩:=zkb.1 hp;exact Pc ps l.inv.2 C (a.set (by grind) l.inv.1)
 |p::ps,[],y::ys,_,_,l,_,_=>by have:=l.1;simp at this
 |p::ps,x::xs,[],_,_,l,_,_=>by have:=l.1;simp at this
def G2(Z:Nat->Prop)(ow:Nat->Option (List Nat))(h:Vg)(K:PK)(nt:Nat)(r:gn)(p:PR):Prop:=match p with
 |.itr e q fr' K'=>∃Z' ow' h' B,r=.ok e q B h'/\G6 Z' ow' h' K'.os/\FrR Z' ow' h' K'.os nt B fr'/\Stp K.ext Z ow h K Z' ow' h' K'/\K'.ext<=lz K'.os/\V9 K.ext ow K.os ow' K'.os
 |.ok _ _ _=>True
 |.val _ _=>True
 | .pan _ _=>True
theorem G2.trans{r:gn}{p:PR}(s:G6 Z ow h K.os)(st:Stp K.ext Z ow h K Z' ow' h' K')(D:V9 K.ext ow K.os ow' K'.os)(c:G2 Z' ow' h' K' nt r p):G2 Z ow h K nt r p:=by
 cases p with
 |itr e q fr' K2=>obtain⟨G,ow2,H,B,I,J,N,Q,U,C⟩:=c;exact⟨G,ow2,H,B,I,J,N,st.trans s Q,U,D.trans (by rw[st.ex]at C;exact C)⟩
 |_=>trivial
theorem vX{o:Option PFn}{n:Nat}{ic:PC}(e:c0m o=zsq (n,ic)):∃x rs i,o=zsq ⟨.itf x ic,n,rs,i⟩:=by
 unfold c0m at e;grind
theorem vY{n:Nat}{caps:List AV}(v:VR Z ow h os x (.fn (.func n) [] caps)):∃B,x=.fn (.func n) [] B/\VL Z ow h os B caps:=by
 cases v with
 |fz f=>cases f
 |fn h1 _ C D=>
  rename_i as1 bs _
  have:as1=[]:=zqh h1
  subst this;exact⟨_,rfl,C,D⟩
def zC(d:List Nat)(ws:List (PK×(Nat->Option (List Nat)))):Prop:=∀c,qJ c d=zt->∃p∈ws,∃r t,p.2 c=zsq (r::t)/\r∈p.1.tch
def GH(Z:Nat->Prop)(ow:Nat->Option (List Nat))(h:Vg)(K:PK)(r:Res)(p:PR):Prop:=match p with
 |.ok _ _ K'=>∃Z' ow' h',r=.ok .und h'/\G6 Z' ow' h' K'.os/\Stp K.ext Z ow h K Z' ow' h' K'/\K'.ext<=lz K'.os/\V9 K.ext ow K.os ow' K'.os
 |_=>False
theorem vZ{o:Option PFn}{n:Nat}{d d2:Tmp}{c:PC}(e:f0o o=zsq (n,d,d2,c)):∃x i,o=zsq ⟨.rcv x d d2 c,n,[],i⟩:=by
 unfold f0o at e;grind
theorem lJ(g:Operand)(c:XC)(rs:List ResultVar):∀(a:PC){frc B:Tr}{h h':Vg},evω E a.er frc h=.ok .normal B h'->s5 E (evω E) g c rs a.pieces frc h=J4 E (evω E) (opv E g B) rs B (evω E c B h'):=by
 intro a;have one:∀(x:XC){frc B:Tr}{h h':Vg},evω E x frc h=.ok .normal B h'->s5 E (evω E) g c rs [x] frc h=J4 E (evω E) (opv E g B) rs B (evω E c B h'):=fun x frc B h h' e=>by
  show Ah _ (evω E x frc h)=_
  rw[e];rfl
 induction a with
 |seq a b _ C=>
  intro frc B h h' e;have e:evω E (.seq a.er b.er) frc h=.ok .normal B h':=e;rw[CI]at e;show Ah (s5 E (evω E) g c rs b.pieces) (evω E a.er frc h)=_
  cases ho:evω E a.er frc h with
  |ok x fr1 h1=>
   rw[ho]at e;cases x with
   |normal=>exact C e
   |_=>cases e
  |_=>rw[ho]at e;cases e
 |_=>exact fun e=>one _ e
theorem ta(c:PC):(∃x a g d,c=.dfr x a g d)\/(∃x d d2 b,c=.rcv x d d2 b)\/((∀fr K,ye c fr K=.code c fr K)/\(Wb c=.plain\/∃ic,Wb c=.itf ic)):=by
 cases c<;>first|exact .inl ⟨_,_,_,_,rfl⟩|exact .inr (.inl ⟨_,_,_,_,rfl⟩)|exact .inr (.inr ⟨fun _ _=>rfl,.inl rfl⟩)|exact .inr (.inr ⟨fun _ _=>rfl,.inr ⟨_,rfl⟩⟩)
def MT(P:PE):PJ->PR->Prop
 |.code c fr K,r=>∀nt Z ow h frc,G6 Z ow h K.os->K.ext<=lz K.os->FrR Z ow h K.os nt frc fr->J8 nt c=zt->C3 Z ow h K nt (evω P.E c.er frc h) r
 |.ops l fr K,r=>∀nt Z ow h frc,G6 Z ow h K.os->K.ext<=lz K.os->FrR Z ow h K.os nt frc fr->Wa nt l=zt->C3 Z ow h K nt (I3 P.E (du P.E) l frc h) r
 |.opsD l fr K,r=>∀nt Z ow h frc d,G6 Z ow h K.os->K.ext<=lz K.os->FrR Z ow h K.os nt frc fr->Wa nt l=zt->(d=[]\/m0 l=zt)->C3 Z ow h K nt (dm P.E (du P.E) l frc h d) r
 |.opsS S l fr K,r=>∀nt Z ow h frc d ws,G6 Z ow h K.os->K.ext<=lz K.os->FrR Z ow h K.os nt frc fr->Wa nt l=zt->ws.map Prod.fst=S->zC d ws->(∀p∈ws,df p.2 p.1.os ow K.os)->C3 Z ow h K nt (dm P.E (du P.E) l frc h d) r
 |.call f args K,r=>∀Z ow h B,G6 Z ow h K.os->K.ext<=lz K.os->VL Z ow h K.os B args->zB Z ow h K (du P.E f B h) r
 |.body f args K,r=>∀Z ow h B,G6 Z ow h K.os->K.ext<=lz K.os->VL Z ow h K.os B args->nL Z ow h K (du P.E f B h) r
 |.iter c m ic p fr K,r=>∀nt D Z ow h frc C,G6 Z ow h K.os->K.ext<=lz K.os->FrR Z ow h K.os nt frc fr->CN K.ext Z ow h K.os D C c.fr->J8 nt ic=zt->MS D c=zt->G2 Z ow h K nt (evI P.E (evω P.E) nt (ee (evω P.E) c.ps c.a.er c.b.er C) m ic.eri p frc h) r
 |.dfc a g c fr K,r=>∀nt Z ow h frc,G6 Z ow h K.os->K.ext<=lz K.os->FrR Z ow h K.os nt frc fr->(J8 nt a&&J8 nt c)=zt->∃G,(∀rs,s5 P.E (evω P.E) g c.er rs a.pieces frc h=J0 P.E rs G)/\C3 Z ow h K nt G r
 |.rcv x v K,r=>∀Z ow h xc vc,G6 Z ow h K.os->K.ext<=lz K.os->VR Z ow h K.os xc x->VR Z ow h K.os vc v->GH Z ow h K (Du P.E (evω P.E) xc vc h) r
 | .round c args K,r=>∀D Z ow h C B,G6 Z ow h K.os->K.ext<=lz K.os->FrR Z ow h K.os D C c.fr->VL Z ow h K.os B args->MS D c=zt->C3 Z ow h K D (ee (evω P.E) c.ps c.a.er c.b.er C B h) r
theorem lK(call:E3)(o:XOp)(l:List XOp)(frc:Tr)(h:Vg):I3 E call (o::l) frc h=iw (cm o.gd frc) .bad (X4 o.dst (I3 E call l) frc (fg E call o.op frc h)) (I3 E call l (co o.dst Yw frc) h):=rfl
theorem Qj(call:E3)(o:XOp)(l:List XOp)(frc:Tr)(h:Vg)(d:List Nat):dm E call (o::l) frc h d=iw (cm o.gd frc) .bad (O6 o.dst (dm E call l) (fb E call l o.late (co o.dst Yw frc) h d) frc (dq E call o frc h d)) (dm E call l (co o.dst Yw frc) h d):=rfl
structure wv(Z:Nat->Prop)(ow:Nat->Option (List Nat))(h:Vg)(K:PK)(r:Res)(v:AV)(K':PK)(Z':Nat->Prop)(ow':Nat->Option (List Nat))(vc:AV)(h':Vg):Prop where
 r:r=.ok vc h'
 st:G6 Z' ow' h' K'.os
 kp:df ow K.os ow' K'.os
 vr:VR Z' ow' h' K'.os vc v
 sp:∀b,Stp b Z ow h K Z' ow' h' K'
theorem wu.two{r:Res}{vc:AV}(a:wu Z ow h K r v K' ow' vc h'):wv Z ow h K r v K' Z ow' vc h':=⟨a.r,a.st,a.kp,a.vr,a.sp⟩
theorem jx{o:XOp}{l:List XOp}(e:Wa nt (o::l)=zt):(match o.dst with|none=>zt|some t=>decide (t<nt))=zt/\Wa nt l=zt:=by
 exact zkb.1 e
theorem Cf{o:XOp}{l:List XOp}(e:m0 (o::l)=zt):o.careful=zf/\m0 l=zt:=by
 grind[m0]
theorem lL(r:Option Nat):ly r []=zt:=by cases r<;>rfl
theorem iD{call:E3}{o:XOp}{d:List Nat}{l:List XOp}(C:o.quiet=zf)(B:d=[]\/m0 (o::l)=zt):dq E call o frc h d=u6 d (fg E call o.op frc h):=by
 unfold dq;rw[C];show(bif o.careful then _ else _)=_
 cases hc:o.careful with
 |false=>rfl
 |true=>
  rcases B with rfl|B
  . rw[lL];rfl
  . rw[(Cf B).1]at hc;cases hc
theorem Pd{b:Nat}(sb:Stp b Z ow {h with tch:=[]} {K with tch:=[]} Z' ow' h1 K1):Stp b Z ow h K Z' ow' {h1 with tch:=Au (I4 h.next h1.tch) h.tch} {K1 with tch:=K1.tch++K.tch}:=by
 obtain⟨l0,f1,f2⟩:=sb.th;refine⟨sb.nx,sb.zz,sb.zn,sb.un,sb.uo,⟨I4 h.next h1.tch,by grind[Gv],fun id hi=>?_⟩,fun id r t ho B=>?_,(by grind),sb.ex,sb.xk,sb.rd⟩
 . grind[l6]
 . rcases sb.mv id r t ho B with h|h
   . exact .inl h
   grind
theorem aD{call:E3}{o:XOp}{d:List Nat}{l:List XOp}(G:o.quiet=zt)(s:G6 Z ow h K.os)(C:d=[]\/m0 (o::l)=zt){r:AV}{Z':Nat->Prop}{ow':Nat->Option (List Nat)}{vc:AV}{h1:Vg}
 (a:wv Z ow {h with tch:=[]} {K with tch:=[]} (fg E call o.op frc {h with tch:=[]}) v K1 Z' ow' vc h1)(B:Ca (lz K.os) l K1=zt):
 ∃D d2,dq E call o frc h d=.ok vc D d2/\wv Z ow h K (.ok vc D) v {K1 with tch:=K1.tch++K.tch} Z' ow' vc D/\(d2=[]\/m0 l=zt):=by
 have e:dq E call o frc h d=.ok vc {h1 with tch:=Au (I4 h.next h1.tch) h.tch} (Au (I4 h.next h1.tch) d):=by
  unfold dq;rw[G];show w8 h.next h.tch d (fg E call o.op frc {h with tch:=[]})=_
  rw[a.r];rfl
 refine⟨_,_,e,⟨rfl,a.st.congr rfl (fun _=>rfl),a.kp,a.vr.keep (fun _ hz=>⟨hz,rfl⟩) (.refl _ _),fun b=>?_⟩,?_⟩
 . exact Pd (a.sp b)
 . unfold Ca at B
   rcases zkd.1 B with B|B
   . rcases C with rfl|C
     . left
       obtain⟨H,I,J⟩:=(a.sp (lz K.os)).th
       have:I4 h.next h1.tch=[]:=Qf fun i hi=>by
        rw[I]at hi;have hi:i∈H:=by grind
        rcases J i hi with h|⟨r,t,N,q2⟩
        . exact h
        . obtain⟨_,_,r',t',q3,q4⟩:=s.live i _ N
          grind[fj]
       rw[this];rfl
     . exact .inr (Cf C).2
   . exact .inr B
theorem Hr(gl:wO E)(ti:GE E){call:E3}:∀(l:List XOp){s:List Bool}{Z:Nat->Prop}{ow:Nat->Option (List Nat)}{h:Vg}{K:PK}{frc:Tr}{fr:PF}{d:List Nat},G6 Z ow h K.os->K.ext<=lz K.os->FrR Z ow h K.os nt frc fr->Wa nt l=zt->(d=[]\/m0 l=zt)->Gk E l s fr K=zt->fb E call l s frc h d=zt
 |[],_,_,_,_,_,_,_,_,_,_,_,_,_,_=>rfl
 |o::l,[],_,_,_,_,_,_,_,_,_,_,_,_,e=>by cases e
 |o::l,zt::s,Z,ow,h,K,frc,fr,d,p,hx,a,hd,hdd,e=>Hr gl ti l p hx (a.setd (jx hd).1 fd) (jx hd).2 (hdd.imp id fun e=>(Cf e).2) e
 |o :: l,zf::s,Z,ow,h,K,frc,fr,d,p,hx,a,hd,hdd,e=>by
  obtain⟨D,G⟩:=jx hd;have B:d=[]\/m0 l=zt:=hdd.imp id fun e=>(Cf e).2
  unfold Gk at e;show iw (cm o.gd frc) zf (fw o.dst (fb E call l s) frc (dq E call o frc h d)) (fb E call l s (co o.dst Yw frc) h d)=zt
  cases hg:ge o.gd fr with
  |none=>grind
  |some b=>
   rw[hg]at e;rw[l9 a hg];cases b with
   |false=>exact Hr gl ti l p hx (a.setd D fd) G B e
   |true=>
    obtain⟨hq,e⟩:=zkb.1 e;show fw o.dst (fb E call l s) frc (dq E call o frc h d)=zt
    rw[iD (by grind) hdd];cases H:gx E o.op fr K with
    |val v K'=>
     rw[H]at e;obtain⟨ow',vc,h',C⟩:=Cd gl ti p hx a H call;rw[C.r];exact Hr gl ti l C.st (Gr hx C.kp (C.sp 0).ex) ((a.keep (C.sp 0).zz C.kp).setd D C.vr) G B e
    |_=>grind
theorem cX{os:List PO}{id:Nat}(h:CJ os id=zt):loP os 6 id=zsq [id]:=by
 grind[CJ,loP]
theorem zD{id i off:Nat}(v:VR Z ow h os x (.ptr id i off)):∃c,x=.ptr c i off/\∀L,loP os 6 id=zsq L->ow c=zsq L:=by
 cases v with
 |fz f=>cases f
 |ptr h1 h2=>grind
theorem cY{i:Nat}:∀{l:List Nat},qJ i l=zt->i∈l
 |[],h=>by cases h
 |j::l,h=>by
  have h:(bif Nat.beq j i then zt else qJ i l)=zt:=h;cases e:Nat.beq j i with
  |true=>simp_all
  |false=>rw[e]at h;exact zqj.2 (.inr (cY h))
theorem cZ{i:Nat}:∀{l:List Nat},i∈l->qJ i l=zt
 |j :: l,h=>by
  show(bif Nat.beq j i then zt else qJ i l)=zt
  rcases zqj.1 h with rfl|h
  . rw[zkh];rfl
  . cases Nat.beq j i with
    |true=>rfl
    |false=>exact cZ h
theorem Kt{call:E3}{o:XOp}{d:List Nat}{l:List XOp}(I:o.quiet=zt)(s:G6 Z ow h K.os)(hd:d=[]\/m0 (o::l)=zt){r:AV}{Z':Nat->Prop}{ow':Nat->Option (List Nat)}{vc:AV}{h1:Vg}
 (a:wv Z ow {h with tch:=[]} {K with tch:=[]} (fg E call o.op frc {h with tch:=[]}) v K1 Z' ow' vc h1):
 ∃C d2,dq E call o frc h d=.ok vc C d2/\wv Z ow h K (.ok vc C) v {K1 with tch:=K1.tch++K.tch} Z' ow' vc C/\(d=[]->∀c,qJ c d2=zt->∃r t,ow c=zsq (r::t)/\r∈K1.tch):=by
 have e:dq E call o frc h d=.ok vc {h1 with tch:=Au (I4 h.next h1.tch) h.tch} (Au (I4 h.next h1.tch) d):=by
  unfold dq;rw[I];show w8 h.next h.tch d (fg E call o.op frc {h with tch:=[]})=_
  rw[a.r];rfl
 refine⟨_,_,e,⟨rfl,a.st.congr rfl (fun _=>rfl),a.kp,a.vr.keep (fun _ hz=>⟨hz,rfl⟩) (.refl _ _),fun b=>?_⟩,?_⟩
 . exact Pd (a.sp b)
 . rintro rfl c hc
   have hc:=cY hc;rw[Gv,zql]at hc;obtain⟨B,hc2⟩:=l6.1 hc;obtain⟨_,_,J,t',N,q4⟩:c<h.next/\¬Z c/\∃r t,(∃L,ow c=zsq L/\L=r::t)/\ek K.os r=zt:=by
    obtain⟨D,G,H⟩:=(a.sp 0).th;rw[G]at B;have B:c∈D:=by grind
    rcases H c B with h|⟨r,t,h1,_⟩
    . grind
    . obtain⟨p1,p2,J,t',p3,p4⟩:=s.live c _ h1
      grind
   obtain⟨L,q5,rfl⟩:=N;obtain⟨D,G,H⟩:=(a.sp (lz K.os)).th;grind[fj]
theorem iE{n:Nat}{l:List XOp}{K1:PK}(B:¬Ca n l K1=zt):¬m0 l=zt:=fun e=>B (zkd.2 (.inr e))
theorem wA(gl:wO E){call:E3}{o:XOp}{d:List Nat}{ws:List (PK×(Nat->Option (List Nat)))}(a:FrR Z ow h K.os nt frc fr)(hq:o.quiet=zf)(sf:zC d ws)(kp:∀p∈ws,df p.2 p.1.os ow K.os)(hc:cR E (ws.map Prod.fst) K fr o=zt):dq E call o frc h d=u6 d (fg E call o.op frc h):=by
 unfold dq;rw[hq];show(bif o.careful then _ else _)=_
 cases J:o.careful with
 |false=>rfl
 |true=>
  have:ly (lu E o.op frc) d=zt:=by
   cases B:lu E o.op frc with
   |none=>rfl
   |some c=>
    show(!(qJ c d))=zt
    cases N:qJ c d with
    |false=>rfl
    |true=>
     obtain⟨p,X,r0,t0,e1,e2⟩:=sf c N;have hc:=zqf.1 hc p.1 (zqm.2 ⟨p,X,rfl⟩);have kp:=kp p X;unfold CK at hc;rw[J]at hc;dsimp only at hc;cases Q:o.op<;>rw[Q]at hc B<;>first|(cases hc;done)|skip
     rename_i t x
     change gJ K.os p.1 (dj E x fr)=zt at hc
     have V:=z6 gl a x;cases U:dj E x fr<;>rw[U]at hc V<;>first|(cases hc;done)|skip
     rename_i id i off;obtain⟨D,C⟩:=zkb.1 hc;obtain⟨C,Y⟩:=zkb.1 C;have C:¬id∈p.1.tch:=by simpa using C
     obtain⟨c',H,I⟩:=zD V
     change n7 (opv E x frc)=zsq c at B
     rw [H]at B;cases B;have G:id<lz p.1.os:=by
      unfold CJ at D;split at D
      . rename_i e;exact(zqc.1 e).1
      . cases D
     obtain⟨L,q1,q2⟩:=kp.2 id G [id] (cX Y);rw[cX D]at q1;cases q1;have w0:=(q2 c).2 (I [id] (cX Y));rw[w0]at e1;cases e1;exact absurd e2 C
  grind
theorem lM{call:E3}{o:XOp}{d:List Nat}{ws:List (PK×(Nat->Option (List Nat)))}(C:o.quiet=zt)(s:G6 Z ow h K.os)(D:zC d ws){Z':Nat->Prop}{ow':Nat->Option (List Nat)}{vc:AV}{h1:Vg}
 (a:wv Z ow {h with tch:=[]} {K with tch:=[]} (fg E call o.op frc {h with tch:=[]}) v K1 Z' ow' vc h1):
 ∃B d2,dq E call o frc h d=.ok vc B d2/\wv Z ow h K (.ok vc B) v {K1 with tch:=K1.tch++K.tch} Z' ow' vc B/\zC d2 ((⟨K.os,0,K1.tch⟩,ow)::ws):=by
 have e:dq E call o frc h d=.ok vc {h1 with tch:=Au (I4 h.next h1.tch) h.tch} (Au (I4 h.next h1.tch) d):=by
  unfold dq;rw[C];show w8 h.next h.tch d (fg E call o.op frc {h with tch:=[]})=_
  rw[a.r];rfl
 have G:dq E call o frc h []=.ok vc {h1 with tch:=Au (I4 h.next h1.tch) h.tch} (Au (I4 h.next h1.tch) []):=by
  unfold dq;rw[C];show w8 h.next h.tch [] (fg E call o.op frc {h with tch:=[]})=_
  rw[a.r];rfl
 obtain⟨B,d2,e2,H,I⟩:=Kt (l:=[]) C s (.inl rfl) (r:=v) a;rw[G]at e2;cases e2;refine⟨_,_,e,H,fun c hc=>?_⟩;have hc:=cY hc;rw[Gv]at hc;rcases zqk.1 hc with hc|hc
 . obtain⟨r,t,J,N⟩:=I rfl c (by rw[Gv,zql];exact cZ hc)
   exact⟨_,zqi ..,r,t,J,N⟩
 . obtain⟨p,Q,k⟩:=D c (cZ hc)
   exact⟨p,zqp _ Q,k⟩
theorem C3.next{r:cz}{p:PR}(s:G6 Z ow h K.os)(B:K.ext<=lz K.os){r0:Res}{vc:AV}(a:wv Z ow h K r0 v K' Z' ow' vc h')(H:G6 Z' ow' h' K'.os->K'.ext<=lz K'.os->C3 Z' ow' h' K' nt r p):C3 Z ow h K nt r p:=
 (H a.st (Gr B a.kp (a.sp 0).ex)).trans s (a.sp _) (a.kp.e B)
theorem MU(hP:ep P):∀(j:PJ)(r:PR),evP P j=zsq r->MT P j r:=by
 refine evP.partial_correctness P (MT P) fun ev ih j r hr=>?_
 unfold evG at hr;cases j with
 |code c fr K=>
  intro nt Z ow h frc s hx a hc;cases c with
  |skip=>cases hr;exact⟨Z,ow,h,frc,FS,s,a,.refl _ _ _ _ _,hx,.refl _ _ _⟩
  |exit i=>cases hr;exact⟨Z,ow,h,frc,FT i,s,a,.refl _ _ _ _ _,hx,.refl _ _ _⟩
  |ret=>cases hr;exact⟨Z,ow,h,frc,MC,s,a,.refl _ _ _ _ _,hx,.refl _ _ _⟩
  |reg d l=>
   cases d with
   |false=>show C3 _ _ _ _ _ (evω P.E (.reg zf l) frc h) r;rw[MD];exact ih (.ops l fr K) r hr nt Z ow h frc s hx a hc
   |true=>show C3 _ _ _ _ _ (evω P.E (.reg zt l) frc h) r;rw[FU];exact ih (.opsD l fr K) r hr nt Z ow h frc [] s hx a hc (.inl rfl)
  |seq c1 c2=>
   obtain⟨hc1,hc2⟩:=zkb.1 hc;obtain⟨q,h1,h2⟩:=D5 hr;have k1:=ih _ _ h1 nt Z ow h frc s hx a hc1;show C3 _ _ _ _ _ (evω P.E (.seq c1.er c2.er) frc h) r
   rw[CI];cases q with
   |pan v K'=>cases h2;obtain⟨Z',ow',h',vc,e,b2,b3,b4,b5⟩:=k1;rw[e];exact⟨Z',ow',h',vc,rfl,b2,b3,b4,b5⟩
   |ok e fr' K'=>
    obtain⟨Z',ow',h',frc',e1,b2,b3,b4,b5,b6⟩:=k1;rw[e1];cases e with
    |normal=>exact(ih _ _ h2 nt Z' ow' h' frc' b2 b5 b3 hc2).trans s b4 b6
    |_=>cases h2;exact⟨Z',ow',h',frc',rfl,b2,b3,b4,b5,b6⟩
   |_=>cases h2
  |cond x c1 c2=>
   obtain⟨hc1,hc2⟩:=zkb.1 hc;show C3 _ _ _ _ _ (evω P.E (.cond x c1.er c2.er) frc h) r
   rw[FV];have hv:=z6 hP.gl a x
   change (match dj P.E x fr with | .bool zt=>ev (.code c1 fr K) | .bool zf=>ev (.code c2 fr K)|_=>znq)=zsq r at hr
   cases ho:dj P.E x fr<;>rw[ho]at hr hv<;>first|(cases hr;done)|skip
   rename_i b;rw[hv.isB];cases b with
   |true=>exact ih _ _ hr nt Z ow h frc s hx a hc1
   |false=>exact ih _ _ hr nt Z ow h frc s hx a hc2
  |block i c=>
   obtain⟨q,h1,h2⟩:=D5 hr;have k1:=ih _ _ h1 nt Z ow h frc s hx a hc;show C3 _ _ _ _ _ (evω P.E (.block i c.er) frc h) r
   rw[yO];cases q with
   |pan v K'=>cases h2;obtain⟨Z',ow',h',vc,e,b2,b3,b4,b5⟩:=k1;rw[e];exact⟨Z',ow',h',vc,rfl,b2,b3,b4,b5⟩
   |ok e fr' K'=>
    obtain⟨Z',ow',h',frc',e1,b2,b3,b4,b5,b6⟩:=k1;rw[e1];cases e with
    |exit j=>
     change (if j=i then pure (PR.ok .normal fr' K')else pure (PR.ok (.exit j) fr' K'))=zsq r at h2
     show C3 _ _ _ _ _ (bif Nat.beq j i then .ok .normal frc' h' else .ok (.exit j) frc' h') r
     by_cases e:j=i
     . rw[if_pos e]at h2;cases h2
       rw[e,zkh];exact⟨Z',ow',h',frc',rfl,b2,b3,b4,b5,b6⟩
     . rw[if_neg e]at h2;cases h2
       rw[show Nat.beq j i=zf from(by cases hb:Nat.beq j i with|false=>rfl|true=>exact absurd (zkj hb) e)];exact⟨Z',ow',h',frc',rfl,b2,b3,b4,b5,b6⟩
    |_=>cases h2;exact⟨Z',ow',h',frc',rfl,b2,b3,b4,b5,b6⟩
   |_=>cases h2
  |loop c=>
   obtain⟨q,h1,h2⟩:=D5 hr;have k1:=ih _ _ h1 nt Z ow h frc s hx a hc;show C3 _ _ _ _ _ (evω P.E (.loop c.er) frc h) r
   rw[FW];cases q with
   |pan v K'=>cases h2;obtain⟨Z',ow',h',vc,e,b2,b3,b4,b5⟩:=k1;rw[e];exact⟨Z',ow',h',vc,rfl,b2,b3,b4,b5⟩
   |ok e fr' K'=>
    obtain⟨Z',ow',h',frc',e1,b2,b3,b4,b5,b6⟩:=k1;rw[e1];cases e with
    |normal=>exact(ih _ _ h2 nt Z' ow' h' frc' b2 b5 b3 hc).trans s b4 b6
    |_=>cases h2;exact⟨Z',ow',h',frc',rfl,b2,b3,b4,b5,b6⟩
   |_=>cases h2
  |scope c=>show C3 _ _ _ _ _ (evω P.E (.scope c.er) frc h) r;rw[yP];exact ih _ _ hr nt Z ow h frc s hx a hc
  |pre keep c=>
   obtain⟨ow',b1,b2,b3,b4,b5⟩:=Nk s a keep;exact(ih _ _ hr nt Z ow' h frc b1 b4 b2 hc).trans s b3 (fun id hi=>b5 id hi (zkf hi hx))
  |post keep c=>
   obtain⟨q,h1,h2⟩:=D5 hr;have k1:=ih _ _ h1 nt Z ow h frc s hx a hc;show C3 _ _ _ _ _ (evω P.E c.er frc h) r
   cases q with
   |pan v K'=>
    cases h2;obtain⟨Z',ow',h',vc,e1,b2,b3,b4,b5,b6⟩:=k1;obtain⟨ow2,c1,c2,c3,c4,c5⟩:=Nk b2 (Hq (nt:=1) (.cons b3 .nil) (zke _) (by decide)) [0];exact⟨Z',ow2,h',vc,e1,c1,c2.v 0,b4.trans s c3,c4,b6.trans (fun id hi=>c5 id (by rw[b4.ex];exact hi) (zkf (by rw[b4.ex];exact hi) b5))⟩
   |ok e fr' K'=>
    cases e with
    |normal=>
     cases h2;obtain⟨Z',ow',h',frc',e1,b2,b3,b4,b5,b6⟩:=k1;obtain⟨ow2,c1,c2,c3,c4,c5⟩:=Nk b2 b3 keep;exact⟨Z',ow2,h',frc',e1,c1,c2,b4.trans s c3,c4,b6.trans (fun id hi=>c5 id (by rw[b4.ex];exact hi) (zkf (by rw[b4.ex];exact hi) b5))⟩
    |_=>cases h2;exact k1
   |_=>cases h2
  |rfn g ps x y=>
   obtain⟨hps,hc2⟩:=zkb.1 hc;show C3 _ _ _ _ _ (evω P.E (.rfn g ps x.er y.er) frc h) r
   rw[MR];dsimp only at hr;have hv:=z6 hP.gl a g;split at hr
   . rename_i n caps ho
     rw[ho]at hv;obtain⟨capc,hvc,hl⟩:=vY hv;rw[hvc];split at hr
     . rename_i nf ic hit
       obtain⟨xc,rs,ii,hf⟩:=vX hit;have F:=hP.fn n _ hf;split at hr
       . rename_i hlen
         obtain ⟨q,h1,h2⟩:=D5 hr;have hl':VL Z ow h K.os (.any::capc) (.any::caps):=.cons .any hl;have k1:=ih _ _ h1 nf nt Z ow h _ frc s (zke _) (Hq hl' (by simpa using hlen) F.nt) ⟨Z,ow,h,K.os,rfl,a,fun _ hz=>⟨hz,rfl⟩,.refl _ _ _⟩ F.ok hc;have e0:qq P.E (evω P.E) ps x.er y.er frc h (.fn (.func n) [] capc)=mz frc (wh (evI P.E (evω P.E) nf (ee (evω P.E) ps x.er y.er frc) je ic.eri znq (Tr.enter nf (.any::capc)) h)):=by
          show mz frc (itF P.E (evω P.E) n capc (ee (evω P.E) ps x.er y.er frc) h)=_
          unfold itF;rw[F.fn];show mz frc (bif Nat.ble (Nat.succ (dw capc)) nf then _ else _)=_
          rw[A4,hl.1,zkg hlen];rfl
         rw [e0];have fin:∀{e:Ex}{p:Option Ex}{fr1:PF}{K1:PK},e=.normal\/e=.ret->G2 Z ow h ⟨K.os,lz K.os,[]⟩ nf (evI P.E (evω P.E) nf (ee (evω P.E) ps x.er y.er frc) je ic.eri znq (Tr.enter nf (.any::capc)) h) (.itr e p fr1 K1)->C3 Z ow h K nt (mz frc (wh (evI P.E (evω P.E) nf (ee (evω P.E) ps x.er y.er frc) je ic.eri znq (Tr.enter nf (.any::capc)) h))) (.ok (qK p) fr ⟨K1.os,K.ext,K1.tch++K.tch⟩):=fun{e p fr1 K1} he o=>by
          obtain⟨Z',ow',h',frc',e1,b2,b3,b4,b5,b6⟩:=o;have kp:df ow K.os ow' K1.os:=Ce b4.ex b5 b6;refine⟨Z',ow',h',frc,?_,b2,a.keep b4.zz kp,Nn s hx b4 _,zki hx kp.1,kp.e hx⟩;rw[e1];rcases he with rfl|rfl<;>rfl
         cases q with
         |itr e p fr1 K1=>
          cases e with
          |exit=>cases h2
          |normal=>cases h2;exact fin (.inl rfl) k1
          |ret=>cases h2;exact fin (.inr rfl) k1
         |_=>cases h2
       . cases hr
     . cases hr
   . cases hr
  |_=>cases hr
 |rcv x v K=>
  intro Z ow h xc vc s hx vx vv;dsimp only at hr;split at hr
  . rename_i n caps
    obtain⟨capc,rfl,hl⟩:=vY vx;split at hr
    . rename_i nt d d2 c hrc
      obtain⟨x0,i,hf⟩:=vZ hrc;have F:=hP.fn n _ hf;obtain⟨hdd,hcc⟩:=zkb.1 F.ok;obtain⟨hd1,hd2⟩:=zkb.1 hdd;have hd1:decide (d<nt)=zt:=hd1;have hd2:decide (d2<nt)=zt:=hd2;split at hr
      . rename_i hlen
        obtain ⟨q,h1,h2⟩:=D5 hr;have k1:=ih _ _ h1 nt Z ow h _ s hx (Pc [d,d2] (.cons vv (.cons vv .nil)) (by show(decide (d<nt)&&(decide (d2<nt)&&zt))=zt;rw[hd1,hd2];rfl) (Hq hl hlen F.nt)) hcc;have e0:Du P.E (evω P.E) (.fn (.func n) [] capc) vc h=om (evω P.E c.er (pj [d,d2] [vc,vc] (Tr.enter nt capc)) h):=by
         show Sp P.E (evω P.E) n capc vc h=_
         unfold Sp;rw[F.fn];show(bif Nat.ble (dw capc) nt&&zt then(bif Nat.blt d nt then _ else _)else _)=_
         rw[A4,hl.1,zkg hlen,show Nat.blt d nt=zt from zkg (Nat.succ_le_of_lt (of_decide_eq_true hd1))];rfl
        rw[e0];cases q with
        |ok e fr' K'=>
         obtain⟨Z',ow',h',frc',e1,b2,b3,b4,b5,b6⟩:=k1;rw[e1];cases e with
         |exit=>cases h2
         |_=>cases h2;exact⟨Z',ow',h',rfl,b2,b4,b5,b6⟩
        |_=>cases h2
      . cases hr
    . cases hr
  . cases hr
 |dfc a g c fr K=>
  intro nt Z ow h frc s hx fR hc;obtain⟨hca,hcc⟩:=zkb.1 hc;obtain⟨q,h1,h2⟩:=D5 hr;have k1:=ih _ _ h1 nt Z ow h frc s hx fR hca;cases q with
  |ok e fr1 K1=>
   cases e with
   |normal=>
    obtain⟨Z1,ow1,hh1,frc1,e1,b2,b3,b4,b5,b6⟩:=k1;obtain⟨q2,h3,h4⟩:=D5 h2;have k2:=ih _ _ h3 nt Z1 ow1 hh1 frc1 b2 (zke _) b3 hcc;have e0:∀rs,s5 P.E (evω P.E) g c.er rs a.pieces frc h=J4 P.E (evω P.E) (opv P.E g frc1) rs frc1 (evω P.E c.er frc1 hh1):=fun rs=>lJ g c.er rs a e1
    have hv:=z6 hP.gl b3 g;have fin:∀{Z2:Nat->Prop}{ow2:Nat->Option (List Nat)}{hh2:Vg}{K2:PK}{frc2:Tr}{fr2:PF}{v vc:AV}{r:PR},G6 Z2 ow2 hh2 K2.os->Stp (lz K1.os) Z1 ow1 hh1 ⟨K1.os,lz K1.os,[]⟩ Z2 ow2 hh2 K2->K2.ext<=lz K2.os->V9 (lz K1.os) ow1 K1.os ow2 K2.os->FrR Z2 ow2 hh2 K2.os nt frc2 fr2->VR Z2 ow2 hh2 K2.os vc v ->
     (∀rs,J4 P.E (evω P.E) (opv P.E g frc1) rs frc1 (evω P.E c.er frc1 hh1)=j8 P.E rs frc2 (Du P.E (evω P.E) (opv P.E g frc1) vc hh2))->(∃q,ev (.rcv (dj P.E g fr1) v ⟨K2.os,lz K2.os,[]⟩)=zsq q/\(match q with | .ok _ _ K3=>zsq (.ok .ret fr2 ⟨K3.os,K1.ext,K3.tch++(K2.tch++K1.tch)⟩)|_=>znq)=zsq r) ->
     ∃rc,(∀rs,s5 P.E (evω P.E) g c.er rs a.pieces frc h=J0 P.E rs rc)/\C3 Z ow h K nt rc r:=fun{Z2 ow2 hh2 K2 frc2 fr2 v vc r} c2 c4 c5 c6 c3 cv ce cq=>by
     obtain⟨q3,h5,h6⟩:=cq;have kp:df ow1 K1.os ow2 K2.os:=Ce c4.ex c5 c6;have k3:=ih _ _ h5 Z2 ow2 hh2 _ vc c2 (zke _) (hv.keep c4.zz kp) cv;cases q3 with
     |ok e3 fr3 K3=>
      cases h6;obtain⟨Z3,ow3,hh3,d1,d2,d3,d4,d5⟩:=k3;have kp2:df ow2 K2.os ow3 K3.os:=Ce d3.ex d4 d5;refine⟨.ok .ret frc2 hh3,fun rs=>?_,Z3,ow3,hh3,frc2,rfl,d2,c3.keep d3.zz kp2,?_,?_,?_⟩
      . rw[e0,ce,d1];rfl
      . have s1:=Nn b2 b5 c4 K1.ext
        have hx2:(⟨K2.os,K1.ext,K2.tch++K1.tch⟩:PK).ext<=lz (⟨K2.os,K1.ext,K2.tch++K1.tch⟩:PK).os:=zki b5 kp.1;have s2:=Nn (K:=⟨K2.os,K1.ext,K2.tch++K1.tch⟩) c2 hx2 d3 K1.ext
        have:=b4.trans s (s1.trans b2 s2)
        exact this
      . exact zki b5 (zki kp.1 kp2.1)
      . have:=b6.trans (by rw[b4.ex.symm];exact(kp.trans kp2).e b5)
        exact this
     |_=>cases h6
    cases q2 with
    |pan v K2=>
     obtain⟨Z2,ow2,hh2,vc,f1,f2,f3,f4,f5,f6⟩:=k2;exact fin f2 f4 f5 f6 (b3.keep f4.zz (Ce f4.ex f5 f6)) f3 (fun rs=>by rw[f1];rfl) (D5 h4)
    |ok e2 fr2 K2=>
     obtain⟨Z2,ow2,hh2,frc2,f1,f2,f3,f4,f5,f6⟩:=k2;cases e2 with
     |exit=>cases h4
     |_=>exact fin f2 f4 f5 f6 f3 (.fz .x0b) (fun rs=>by rw[f1];rfl) (D5 h4)
    |_=>cases h4
   |_=>cases h2
  |_=>cases h2
 |round c args K=>
  intro nt0 Z ow h frc0 argc s hx a hl hc;obtain⟨hps,hc2⟩:=zkb.1 hc;obtain⟨hca,hcb⟩:=zkb.1 hc2;dsimp only at hr;split at hr
  . rename_i hlen
    obtain⟨q,h1,h2⟩:=D5 hr;have k1:=ih _ _ h1 nt0 Z ow h _ s hx (Pc c.ps hl hps a) hca;unfold ee;rw[A4,aO,hl.1,hlen,zkh];show C3 _ _ _ _ _ (Dm (evω P.E c.b.er) (evω P.E c.a.er (pj c.ps argc frc0) h)) r
    cases q with
    |ok e fr' K'=>
     cases e with
     |normal=>
      obtain⟨Z',ow',h',frc',e1,b2,b3,b4,b5,b6⟩:=k1;rw[e1];exact(ih _ _ h2 nt0 Z' ow' h' frc' b2 b5 b3 hcb).trans s b4 b6
     |_=>cases h2
    |_=>cases h2
  . cases hr
 |iter c m ic p fr K=>
  intro nt nt0 Z ow h frc frc0 s hx a B hc hrc;cases m with
  |zero=>cases hr
  |succ m=>
   cases ic with
   |skip=>cases hr;exact⟨Z,ow,h,frc,rfl,s,a,.refl _ _ _ _ _,hx,.refl _ _ _⟩
   |exit i=>cases hr;exact⟨Z,ow,h,frc,rfl,s,a,.refl _ _ _ _ _,hx,.refl _ _ _⟩
   |ret=>cases hr;exact⟨Z,ow,h,frc,rfl,s,a,.refl _ _ _ _ _,hx,.refl _ _ _⟩
   |reg d l=>
    obtain⟨q,h1,h2⟩:=D5 hr;have k1:=ih _ _ h1 nt Z ow h frc s hx a hc;show G2 _ _ _ _ _ (J1 (n8 p) (evω P.E (.reg d l) frc h)) r
    cases q with
    |ok e fr' K'=>
     cases e with
     |normal=>
      cases h2;obtain⟨Z',ow',h',frc',e1,b2,b3,b4,b5,b6⟩:=k1;have e1:evω P.E (.reg d l) frc h=.ok .normal frc' h':=e1;rw[e1];exact⟨Z',ow',h',frc',rfl,b2,b3,b4,b5,b6⟩
     |_=>cases h2
    |_=>cases h2
   |seq c1 c2=>
    obtain⟨hc1,hc2⟩:=zkb.1 hc;obtain⟨q,h1,h2⟩:=D5 hr;have k1:=ih _ _ h1 nt nt0 Z ow h frc frc0 s hx a B hc1 hrc;show G2 _ _ _ _ _ (Ll (evI P.E (evω P.E) nt (ee (evω P.E) c.ps c.a.er c.b.er frc0) m c2.eri) (evI P.E (evω P.E) nt (ee (evω P.E) c.ps c.a.er c.b.er frc0) m c1.eri p frc h)) r
    cases q with
    |itr e p1 fr' K'=>
     obtain⟨Z',ow',h',frc',e1,b2,b3,b4,b5,b6⟩:=k1;rw[e1];cases e with
     |normal=>exact(ih _ _ h2 nt nt0 Z' ow' h' frc' frc0 b2 b5 b3 (by rw[b4.ex];exact B.step b4.zz b6) hc2 hrc).trans s b4 b6
     |_=>cases h2;exact⟨Z',ow',h',frc',rfl,b2,b3,b4,b5,b6⟩
    |_=>cases h2
   |loop c1=>
    obtain⟨q,h1,h2⟩:=D5 hr;have k1:=ih _ _ h1 nt nt0 Z ow h frc frc0 s hx a B hc hrc;show G2 _ _ _ _ _ (Ll (evI P.E (evω P.E) nt (ee (evω P.E) c.ps c.a.er c.b.er frc0) m (.loop c1.eri)) (evI P.E (evω P.E) nt (ee (evω P.E) c.ps c.a.er c.b.er frc0) m c1.eri p frc h)) r
    cases q with
    |itr e p1 fr' K'=>
     obtain⟨Z',ow',h',frc',e1,b2,b3,b4,b5,b6⟩:=k1;rw[e1];cases e with
     |normal=>exact(ih _ _ h2 nt nt0 Z' ow' h' frc' frc0 b2 b5 b3 (by rw[b4.ex];exact B.step b4.zz b6) hc hrc).trans s b4 b6
     |_=>cases h2;exact⟨Z',ow',h',frc',rfl,b2,b3,b4,b5,b6⟩
    |_=>cases h2
   |cond x c1 c2=>
    obtain⟨hc1,hc2⟩:=zkb.1 hc;show G2 _ _ _ _ _ ((opv P.E x frc).onBool .bad fun t=>match t with|true=>evI P.E (evω P.E) nt (ee (evω P.E) c.ps c.a.er c.b.er frc0) m c1.eri p frc h|false=>evI P.E (evω P.E) nt (ee (evω P.E) c.ps c.a.er c.b.er frc0) m c2.eri p frc h) r
    have hv:=z6 hP.gl a x;dsimp only at hr;cases ho:dj P.E x fr<;>rw[ho]at hr hv<;>first|(cases hr;done)|skip
    rename_i b;rw[hv.isB];cases b with
    |true=>exact ih _ _ hr nt nt0 Z ow h frc frc0 s hx a B hc1 hrc
    |false=>exact ih _ _ hr nt nt0 Z ow h frc frc0 s hx a B hc2 hrc
   |block i c1=>
    obtain⟨q,h1,h2⟩:=D5 hr;have k1:=ih _ _ h1 nt nt0 Z ow h frc frc0 s hx a B hc hrc;show G2 _ _ _ _ _ (Js i (evI P.E (evω P.E) nt (ee (evω P.E) c.ps c.a.er c.b.er frc0) m c1.eri p frc h)) r
    cases q with
    |itr e p1 fr' K'=>
     obtain⟨Z',ow',h',frc',e1,b2,b3,b4,b5,b6⟩:=k1;rw[e1];cases e with
     |exit j=>
      change (if j=i then pure (PR.itr .normal p1 fr' K')else pure (PR.itr (.exit j) p1 fr' K'))=zsq r at h2
      show G2 _ _ _ _ _ (bif Nat.beq j i then .ok .normal p1 frc' h' else .ok (.exit j) p1 frc' h') r
      by_cases e:j=i
      . rw[if_pos e]at h2;cases h2
        rw[e,zkh];exact⟨Z',ow',h',frc',rfl,b2,b3,b4,b5,b6⟩
      . rw[if_neg e]at h2;cases h2
        rw[show Nat.beq j i=zf from(by cases hb:Nat.beq j i with|false=>rfl|true=>exact absurd (zkj hb) e)];exact⟨Z',ow',h',frc',rfl,b2,b3,b4,b5,b6⟩
     |_=>cases h2;exact⟨Z',ow',h',frc',rfl,b2,b3,b4,b5,b6⟩
    |_=>cases h2
   |pre keep c1=>
    obtain⟨ow',b1,b2,b3,b4,b5⟩:=Nk s a keep;have kk:V9 K.ext ow K.os ow' (M4 keep fr K).2.os:=fun id hi=>b5 id hi (zkf hi hx)
    exact(ih _ _ hr nt nt0 Z ow' h frc frc0 b1 b4 b2 (B.step (fun _ hz=>⟨hz,rfl⟩) kk) hc hrc).trans s b3 kk
   |post keep c1=>
    obtain⟨q,h1,h2⟩:=D5 hr;have k1:=ih _ _ h1 nt nt0 Z ow h frc frc0 s hx a B hc hrc;cases q with
    |itr e p1 fr' K'=>
     cases e with
     |normal=>
      cases h2;obtain⟨Z',ow',h',frc',e1,b2,b3,b4,b5,b6⟩:=k1;obtain⟨ow2,c1,c2,c3,c4,c5⟩:=Nk b2 b3 keep;exact⟨Z',ow2,h',frc',e1,c1,c2,b4.trans s c3,c4,b6.trans (fun id hi=>c5 id (by rw[b4.ex];exact hi) (zkf (by rw[b4.ex];exact hi) b5))⟩
     |_=>cases h2;exact k1
    |_=>cases h2;trivial
   |yreg p0 gd yt p1 yd args p2=>
    obtain⟨hn,hc⟩:=zkb.1 hc;obtain⟨hyt,hyd⟩:=zkb.1 hn;obtain⟨hc0,hc⟩:=zkb.1 hc;obtain⟨hc1,hc2⟩:=zkb.1 hc;have hyt:yt<nt:=of_decide_eq_true hyt;have hyd:yd<nt:=of_decide_eq_true hyd;show G2 _ _ _ _ _ (J1 (fun fr h=>iw (cm gd fr) .bad (dY P.E (evω P.E) nt (ee (evω P.E) c.ps c.a.er c.b.er frc0) gd yt p1.er yd args p2.er p fr h) (zJ (evω P.E) gd yt p1.er yd p2.er p fr h)) (evω P.E p0.er frc h)) r
    obtain⟨q,h1,h2⟩:=D5 hr;have k1:=ih _ _ h1 nt Z ow h frc s hx a hc0;cases q with
    |ok e fr1 K1=>
     cases e with
     |normal=>
      obtain⟨Z1,ow1,h1',frc1,e1,b2,b3,b4,b5,b6⟩:=k1;rw[e1];refine G2.trans s b4 b6 ?_;have B1:CN K1.ext Z1 ow1 h1' K1.os nt0 frc0 c.fr:=by rw[b4.ex];exact B.step b4.zz b6
      show G2 _ _ _ _ _ (iw (cm gd frc1) .bad (dY P.E (evω P.E) nt (ee (evω P.E) c.ps c.a.er c.b.er frc0) gd yt p1.er yd args p2.er p frc1 h1') (zJ (evω P.E) gd yt p1.er yd p2.er p frc1 h1')) r
      dsimp only at h2;cases hg:ge gd fr1 with
      |none=>rw[hg]at h2;cases h2
      |some t=>
       rw[hg]at h2;rw[l9 b3 hg];cases t with
       |false=>
        show G2 _ _ _ _ _ (J1 (fun fr h=>iw (cm gd fr) .bad .bad (J1 (n8 p) (evω P.E p2.er (fr.set yd Yw) h))) (evω P.E p1.er (frc1.set yt Yw) h1')) r
        dsimp only at h2;obtain⟨q,h3,h4⟩:=D5 h2;have k2:=ih _ _ h3 nt Z1 ow1 h1' _ b2 b5 (b3.set hyt fd) hc1;cases q with
        |ok e fr2 K2=>
         cases e with
         |normal=>
          obtain⟨Z2,ow2,h2',frc2,e2,d2,d3,d4,d5,d6⟩:=k2;rw[e2];refine G2.trans b2 d4 d6 ?_;show G2 _ _ _ _ _ (iw (cm gd frc2) .bad .bad (J1 (n8 p) (evω P.E p2.er (frc2.set yd Yw) h2'))) r
          dsimp only at h4;cases hg2:ge gd fr2 with
          |none=>rw[hg2]at h4;cases h4
          |some t=>
           rw[hg2]at h4;cases t with
           |true=>cases h4
           |false=>
            rw[l9 d3 hg2];obtain⟨q,h5,h6⟩:=D5 h4;have k3:=ih _ _ h5 nt Z2 ow2 h2' _ d2 d5 (d3.set hyd fd) hc2;cases q with
            |ok e fr3 K3=>
             cases e with
             |normal=>
              cases h6;obtain⟨Z3,ow3,h3',frc3,e3,f2,f3,f4,f5,f6⟩:=k3;show G2 _ _ _ _ _ (J1 (n8 p) (evω P.E p2.er (frc2.set yd Yw) h2')) _
              rw[e3];exact⟨Z3,ow3,h3',frc3,rfl,f2,f3,f4,f5,f6⟩
             |_=>cases h6
            |_=>cases h6
         |_=>cases h4
        |_=>cases h4
       |true=>
        cases p with
        |some _=>cases h2
        |none=>
         show G2 _ _ _ _ _ (bif Nat.blt yt nt then J1 (fun fr h=>iw (cm gd fr) .bad (Ia (evω P.E) p2.er yd fr (ee (evω P.E) c.ps c.a.er c.b.er frc0 (fk P.E args fr) h)) .bad) (evω P.E p1.er (frc1.set yt .any) h1')else .bad) r
         rw[show Nat.blt yt nt=zt from zkg hyt];show G2 _ _ _ _ _ (J1 (fun fr h=>iw (cm gd fr) .bad (Ia (evω P.E) p2.er yd fr (ee (evω P.E) c.ps c.a.er c.b.er frc0 (fk P.E args fr) h)) .bad) (evω P.E p1.er (frc1.set yt .any) h1')) r
         dsimp only at h2;obtain⟨q,h3,h4⟩:=D5 h2;have k2:=ih _ _ h3 nt Z1 ow1 h1' _ b2 b5 (b3.set hyt .any) hc1;cases q with
         |ok e fr2 K2=>
          cases e with
          |normal=>
           obtain⟨Z2,ow2,h2',frc2,e2,d2,d3,d4,d5,d6⟩:=k2;rw[e2];refine G2.trans b2 d4 d6 ?_;have B2:CN K2.ext Z2 ow2 h2' K2.os nt0 frc0 c.fr:=by rw[d4.ex];exact B1.step d4.zz d6
           show G2 _ _ _ _ _ (iw (cm gd frc2) .bad (Ia (evω P.E) p2.er yd frc2 (ee (evω P.E) c.ps c.a.er c.b.er frc0 (fk P.E args frc2) h2')) .bad) r
           dsimp only at h4;cases hg2:ge gd fr2 with
           |none=>rw[hg2]at h4;cases h4
           |some t=>
            rw[hg2]at h4;cases t with
            |false=>cases h4
            |true=>
             rw[l9 d3 hg2];show G2 _ _ _ _ _ (Ia (evω P.E) p2.er yd frc2 (ee (evω P.E) c.ps c.a.er c.b.er frc0 (fk P.E args frc2) h2')) r
             obtain⟨q,h5,h6⟩:=D5 h4;have k3:=ih _ _ h5 nt0 Z2 ow2 h2' frc0 _ d2 (zke _) (B2.now d5) (Hk hP.gl d3 args) hrc;cases q with
             |ok e fr3 K3=>
              obtain⟨q,h7,h8⟩:=D5 h6;obtain⟨Z3,ow3,h3',frc3,e3,f2,f3,f4,f5,f6⟩:=k3;have e3:ee (evω P.E) c.ps c.a.er c.b.er frc0 (fk P.E args frc2) h2'=.ok e frc3 h3':=e3;rw[e3];have kp:df ow2 K2.os ow3 K3.os:=Ce f4.ex f5 f6;have st:=Nn d2 d5 f4 K2.ext;refine G2.trans (K':=⟨K3.os,K2.ext,K3.tch++K2.tch⟩) d2 st (kp.e d5) ?_;have k4:=ih _ _ h7 nt Z3 ow3 h3' _ f2 (zki d5 kp.1) ((d3.keep f4.zz kp).set hyd (.b _)) hc2;have ey:Ia (evω P.E) p2.er yd frc2 (.ok e frc3 h3')=J1 (n8 (Ou e)) (evω P.E p2.er (frc2.set yd (.bool (lf e))) h3'):=by cases e<;>rfl
              rw[ey];cases q with
              |ok e4 fr4 K4=>
               cases e4 with
               |normal=>
                cases h8;obtain⟨Z4,ow4,h4',frc4,e4,g2,g3,g4,g5,g6⟩:=k4;rw[e4];exact⟨Z4,ow4,h4',frc4,rfl,g2,g3,g4,g5,g6⟩
               |_=>cases h8
              |_=>cases h8
             |_=>cases h6
          |_=>cases h4
         |_=>cases h4
     |_=>cases h2
    |_=>cases h2
   |_=>cases hr
 |ops l fr K=>
  intro nt Z ow h frc s hx a hd;cases l with
  |nil=>cases hr;exact⟨Z,ow,h,frc,rfl,s,a,.refl _ _ _ _ _,hx,.refl _ _ _⟩
  |cons o l=>
   obtain⟨hd1,hd2⟩:=jx hd;rw[lK];dsimp only at hr;cases hg:ge o.gd fr with
   |none=>rw[hg]at hr;cases hr
   |some b=>
    rw[hg]at hr;rw[l9 a hg];cases b with
    |false=>exact ih _ _ hr nt Z ow h _ s hx (a.setd hd1 fd) hd2
    |true=>
     dsimp only at hr;show C3 _ _ _ _ _ (X4 o.dst (I3 P.E (du P.E) l) frc (fg P.E (du P.E) o.op frc h)) r
     cases hp:gx P.E o.op fr K with
     |bad=>rw[hp]at hr;cases hr
     |val v K'=>
      rw[hp]at hr;obtain⟨ow',vc,h',d⟩:=Cd hP.gl hP.ti s hx a hp (du P.E);rw[d.r];refine C3.next s hx (v:=v) d.two fun s' hx'=>?_
      exact ih _ _ hr nt Z ow' h' _ s' hx' ((a.keep (d.sp 0).zz d.kp).setd hd1 d.vr) hd2
     |pan v=>
      rw[hp]at hr;cases hr;obtain⟨vc,hv,e⟩:=gW hP.gl a hp;rw[e];exact⟨Z,ow,h,vc,rfl,s,hv,.refl _ _ _ _ _,hx,.refl _ _ _⟩
     |call f args=>
      rw[hp]at hr;obtain⟨argc,hl,e⟩:=Ho hP.gl a hp;rw[e];obtain⟨q,h1,h2⟩:=D5 hr;have k1:=ih _ _ h1 Z ow h argc s hx hl;cases q with
      |pan v K'=>
       cases h2;obtain⟨Z',ow',h',vc,e,b2,b3,b4,b5,b6⟩:=k1;rw[e];exact⟨Z',ow',h',vc,rfl,b2,b4,b3 _,b5,b6.e hx⟩
      |val vs K'=>
       obtain⟨Z',ow',h',vcs,e,b2,b3,b4,b5⟩:=k1;rw[e];refine C3.next s hx (v:=cj vs) ⟨rfl,b2,b3,b5.one,b4⟩ fun s' hx'=>?_
       exact ih _ _ h2 nt Z' ow' h' _ s' hx' ((a.keep (b4 0).zz b3).setd hd1 b5.one) hd2
      |_=>cases h2
 |opsD l fr K=>
  intro nt Z ow h frc d s hx a hd hdd;cases l with
  |nil=>cases hr;exact⟨Z,ow,h,frc,rfl,s,a,.refl _ _ _ _ _,hx,.refl _ _ _⟩
  |cons o l=>
   obtain⟨hd1,hd2⟩:=jx hd;have hdd2:d=[]\/m0 l=zt:=hdd.imp id fun e=>(Cf e).2
   rw[Qj];dsimp only at hr;cases hg:ge o.gd fr with
   |none=>rw[hg]at hr;cases hr
   |some b=>
    rw[hg]at hr;rw[l9 a hg];cases b with
    |false=>exact ih _ _ hr nt Z ow h _ d s hx (a.setd hd1 fd) hd2 hdd2
    |true=>
     dsimp only at hr;show C3 _ _ _ _ _ (O6 o.dst (dm P.E (du P.E) l) (fb P.E (du P.E) l o.late (co o.dst Yw frc) h d) frc (dq P.E (du P.E) o frc h d)) r
     cases hq:o.quiet with
     |false=>
      rw[hq]at hr;dsimp only at hr;rw[iD hq hdd];cases hp:gx P.E o.op fr K with
      |bad=>rw[hp]at hr;cases hr
      |val v K'=>
       rw[hp]at hr;obtain⟨ow',vc,h',dd⟩:=Cd hP.gl hP.ti s hx a hp (du P.E);rw[dd.r];refine C3.next s hx (v:=v) dd.two fun s' hx'=>?_
       exact ih _ _ hr nt Z ow' h' _ d s' hx' ((a.keep (dd.sp 0).zz dd.kp).setd hd1 dd.vr) hd2 hdd2
      |pan v=>
       rw[hp]at hr;dsimp only at hr;split at hr
       . rename_i hlt
         cases hr;obtain⟨vc,hv,e⟩:=gW hP.gl a hp;rw[e,Hr hP.gl hP.ti l s hx (a.setd hd1 fd) hd2 hdd2 hlt];exact⟨Z,ow,h,vc,rfl,s,hv,.refl _ _ _ _ _,hx,.refl _ _ _⟩
       . cases hr
      |call f args=>
       rw[hp]at hr;obtain⟨argc,hl,e⟩:=Ho hP.gl a hp;rw[e];obtain⟨q,h1,h2⟩:=D5 hr;have k1:=ih _ _ h1 Z ow h argc s hx hl;cases q with
       |pan v K'=>
        dsimp only at h2;split at h2
        . rename_i hlt
          cases h2;obtain⟨Z',ow',h',vc,e,b2,b3,b4,b5,b6⟩:=k1;rw[e,Hr hP.gl hP.ti l s hx (a.setd hd1 fd) hd2 hdd2 hlt];exact⟨Z',ow',h',vc,rfl,b2,b4,b3 _,b5,b6.e hx⟩
        . cases h2
       |val vs K'=>
        obtain⟨Z',ow',h',vcs,e,b2,b3,b4,b5⟩:=k1;rw[e];refine C3.next s hx (v:=cj vs) ⟨rfl,b2,b3,b5.one,b4⟩ fun s' hx'=>?_
        exact ih _ _ h2 nt Z' ow' h' _ d s' hx' ((a.keep (b4 0).zz b3).setd hd1 b5.one) hd2 hdd2
       |_=>cases h2
     |true=>
      rw[hq]at hr;dsimp only at hr;have s0:G6 Z ow {h with tch:=[]} ({K with tch:=[]}:PK).os:=s.congr rfl (fun _=>rfl);have a0:FrR Z ow {h with tch:=[]} ({K with tch:=[]}:PK).os nt frc fr:=a.keep (fun _ hz=>⟨hz,rfl⟩) (.refl _ _);have hx0:({K with tch:=[]}:PK).ext<=lz ({K with tch:=[]}:PK).os:=hx;cases hp:gx P.E o.op fr {K with tch:=[]}with
      |val v K1=>
       rw[hp]at hr;dsimp only at hr;obtain⟨ow',vc,h',dd⟩:=Cd hP.gl hP.ti s0 hx0 a0 hp (du P.E);split at hr
       . rename_i ht
         obtain⟨h2,d2,e,dd2,hd3⟩:=aD hq s hdd (r:=v) dd.two ht;rw[e];refine C3.next s hx (v:=v) dd2 fun s' hx'=>?_
         exact ih _ _ hr nt Z ow' h2 _ d2 s' hx' ((a.keep (dd2.sp 0).zz dd2.kp).setd hd1 dd2.vr) hd2 hd3
       . rename_i ht
         obtain⟨h2,d2,e,dd2,hrd⟩:=Kt (l:=l) hq s hdd (r:=v) dd.two;rw[e];have hd0:d=[]\/m0 l=zt:=hdd2;refine C3.next s hx (v:=v) dd2 fun s' hx'=>?_
         exact ih _ _ hr nt Z ow' h2 _ d2 [(⟨K.os,0,K1.tch⟩,ow)] s' hx' ((a.keep (dd2.sp 0).zz dd2.kp).setd hd1 dd2.vr) hd2 rfl (fun c hc=>⟨_,zqi ..,hrd (hd0.resolve_right (iE ht)) c hc⟩) (fun p hp=>by rw[zqs.1 hp];exact dd2.kp)
      |call f args=>
       rw[hp]at hr;obtain⟨argc,hl,e⟩:=Ho hP.gl a0 hp;obtain⟨q,h1,h2⟩:=D5 hr;have k1:=ih _ _ h1 Z ow {h with tch:=[]} argc s0 hx0 hl;cases q with
       |pan v K1=>
        dsimp only at h2;split at h2
        . rename_i hlt
          cases h2;obtain⟨Z',ow',h',vc,e1,b2,b3,b4,b5,b6⟩:=k1;have e2:dq P.E (du P.E) o frc h d=.pan vc {h' with tch:=Au (I4 h.next h'.tch) h.tch}:=by
           unfold dq;rw[hq];show w8 h.next h.tch d (fg P.E (du P.E) o.op frc {h with tch:=[]})=_
           rw[e,e1];rfl
          rw[e2,Hr hP.gl hP.ti l s hx (a.setd hd1 fd) hd2 hdd2 hlt];exact⟨Z',ow',_,vc,rfl,b2.congr rfl (fun _=>rfl),b4.keep (fun _ hz=>⟨hz,rfl⟩) (.refl _ _),Pd (b3 _),b5,b6.e hx⟩
        . cases h2
       |val vs K1=>
        dsimp only at h2;obtain⟨Z',ow',h',vcs,e1,b2,b3,b4,b5⟩:=k1;split at h2
        . rename_i ht
          obtain⟨h3,d2,e2,dd2,hd3⟩:=aD hq s hdd (r:=cj vs) (v:=cj vs) ⟨(e (du P.E)).trans e1,b2,b3,b5.one,b4⟩ ht;rw[e2];refine C3.next s hx (v:=cj vs) dd2 fun s' hx'=>?_
          exact ih _ _ h2 nt Z' ow' h3 _ d2 s' hx' ((a.keep (dd2.sp 0).zz dd2.kp).setd hd1 dd2.vr) hd2 hd3
        . rename_i ht
          obtain⟨h3,d2,e2,dd2,hrd⟩:=Kt (l:=l) hq s hdd (r:=cj vs) (v:=cj vs) ⟨(e (du P.E)).trans e1,b2,b3,b5.one,b4⟩;rw[e2];refine C3.next s hx (v:=cj vs) dd2 fun s' hx'=>?_
          exact ih _ _ h2 nt Z' ow' h3 _ d2 [(⟨K.os,0,K1.tch⟩,ow)] s' hx' ((a.keep (dd2.sp 0).zz dd2.kp).setd hd1 dd2.vr) hd2 rfl (fun c hc=>⟨_,zqi ..,hrd (hdd2.resolve_right (iE ht)) c hc⟩) (fun p hp=>by rw[zqs.1 hp];exact dd2.kp)
       |_=>cases h2
      |_=>rw[hp]at hr;cases hr
 |opsS S l fr K=>
  intro nt Z ow h frc d ws s hx a hd hws sf kp0;subst hws;cases l with
  |nil=>cases hr;exact⟨Z,ow,h,frc,rfl,s,a,.refl _ _ _ _ _,hx,.refl _ _ _⟩
  |cons o l=>
   obtain⟨hd1,hd2⟩:=jx hd;rw[Qj];dsimp only at hr;cases hg:ge o.gd fr with
   |none=>rw[hg]at hr;cases hr
   |some b=>
    rw[hg]at hr;rw[l9 a hg];cases b with
    |false=>exact ih _ _ hr nt Z ow h _ d ws s hx (a.setd hd1 fd) hd2 rfl sf kp0
    |true=>
     dsimp only at hr;show C3 _ _ _ _ _ (O6 o.dst (dm P.E (du P.E) l) (fb P.E (du P.E) l o.late (co o.dst Yw frc) h d) frc (dq P.E (du P.E) o frc h d)) r
     cases hq:o.quiet with
     |true=>
      rw[hq]at hr;dsimp only at hr;have s0:G6 Z ow {h with tch:=[]} ({K with tch:=[]}:PK).os:=s.congr rfl (fun _=>rfl);have a0:FrR Z ow {h with tch:=[]} ({K with tch:=[]}:PK).os nt frc fr:=a.keep (fun _ hz=>⟨hz,rfl⟩) (.refl _ _);have hx0:({K with tch:=[]}:PK).ext<=lz ({K with tch:=[]}:PK).os:=hx;cases hp:gx P.E o.op fr {K with tch:=[]}with
      |val v K1=>
       rw[hp]at hr;dsimp only at hr;obtain⟨ow',vc,h',dd⟩:=Cd hP.gl hP.ti s0 hx0 a0 hp (du P.E);obtain⟨h2,d2,e,dd2,sf2⟩:=lM hq s sf dd.two;rw[e];refine C3.next s hx (v:=v) dd2 fun s' hx'=>?_
       exact ih _ _ hr nt Z ow' h2 _ d2 ((⟨K.os,0,K1.tch⟩,ow)::ws) s' hx' ((a.keep (dd2.sp 0).zz dd2.kp).setd hd1 dd2.vr) hd2 rfl sf2 (fun p hp=>by
        rcases zqj.1 hp with rfl|hp
        . exact dd2.kp
        . exact(kp0 p hp).trans dd2.kp)
      |_=>rw[hp]at hr;cases hr
     |false =>
     rw[hq]at hr;dsimp only at hr;split at hr
     . rename_i hcare
       rw[wA hP.gl a hq sf kp0 hcare];cases hp:gx P.E o.op fr K with
       |val v K'=>
        rw[hp]at hr;obtain⟨ow',vc,h',dd⟩:=Cd hP.gl hP.ti s hx a hp (du P.E);rw[dd.r];refine C3.next s hx (v:=v) dd.two fun s' hx'=>?_
        exact ih _ _ hr nt Z ow' h' _ d ws s' hx' ((a.keep (dd.sp 0).zz dd.kp).setd hd1 dd.vr) hd2 rfl sf (fun p hp=>(kp0 p hp).trans dd.kp)
       |call f args=>
        rw[hp]at hr;obtain⟨argc,hl,e⟩:=Ho hP.gl a hp;rw[e];obtain⟨q,h1,h2⟩:=D5 hr;have k1:=ih _ _ h1 Z ow h argc s hx hl;cases q with
        |val vs K'=>
         obtain⟨Z',ow',h',vcs,e,b2,b3,b4,b5⟩:=k1;rw[e];refine C3.next s hx (v:=cj vs) ⟨rfl,b2,b3,b5.one,b4⟩ fun s' hx'=>?_
         exact ih _ _ h2 nt Z' ow' h' _ d ws s' hx' ((a.keep (b4 0).zz b3).setd hd1 b5.one) hd2 rfl sf (fun p hp=>(kp0 p hp).trans b3)
        |_=>cases h2
       |_=>rw[hp]at hr;cases hr
     . cases hr
 |call f args K=>
  intro Z ow h argc s hx hl;dsimp only at hr;cases hT:P.T f with
  |some g=>
   rw[hT]at hr;dsimp only at hr;cases ht:rh g args K with
   |none=>rw[ht]at hr;cases hr
   |some q=>
    obtain⟨vs,K'⟩:=q;rw[ht]at hr;cases hr;exact vT (hP.T f g hT) s hx hl ht
  |none=>
   rw[hT]at hr;dsimp only at hr;cases hin:ox (P.fn f)with
   |true=>
    rw [hin]at hr;obtain⟨q,h1,h2⟩:=D5 hr;have k1:=ih _ _ h1 Z ow h argc s (zke _) hl;have stp:∀{Z':Nat->Prop}{ow':Nat->Option (List Nat)}{h':Vg}{K1:PK},Stp (lz K.os) Z ow h ⟨K.os,lz K.os,[]⟩ Z' ow' h' K1->∀b,Stp b Z ow h K Z' ow' h' ⟨K1.os,K.ext,K1.tch++K.tch⟩:=fun{Z' ow' h' K1} sb b=>by
     obtain⟨l0,f1,f2⟩:=sb.th;refine⟨sb.nx,sb.zz,sb.zn,sb.un,sb.uo,⟨l0,f1,fun id hi=>?_⟩,fun id r t ho hr=>?_,fun r hr _=>zqk.2 (.inr hr),rfl,fun j hj=>sb.xk j (zkf hj hx),fun j hj=>sb.rd j (zkf hj hx)⟩
     . rcases f2 id hi with h|⟨r,t,q1,q2⟩
       . exact .inl h
       . obtain⟨_,_,r',t',q3,q4⟩:=s.live id _ q1
         cases q3;exact .inr ⟨r,t,q1,fun _=>zqk.2 (.inl (q2 (fj q4)))⟩
     . rcases sb.mv id r t ho (zkf hr hx)with h|h
       . exact .inl h
       . exact .inr (zqk.2 (.inl h))
    have kp:∀{ow':Nat->Option (List Nat)}{K1:PK},K1.ext=lz K.os->K1.ext<=lz K1.os->V9 (lz K.os) ow K.os ow' K1.os->df ow K.os ow' K1.os:=fun{ow' K1} e1 e2 e3=>⟨by rw[<-e1];exact e2,e3⟩
    cases q with
    |val vs K1=>
     cases h2;obtain⟨Z',ow',h',vcs,e,b2,b3,b4,b5,b6⟩:=k1;exact⟨Z',ow',h',vcs,e,b2,kp (K1:=K1) b3.ex b6 b5,stp b3,b4⟩
    |pan v K1=>
     cases h2;obtain⟨Z',ow',h',vc,e,b2,b3,b4,b5,b6⟩:=k1;exact⟨Z',ow',h',vc,e,b2,stp b3,b4,zki hx (by have:=b3.ex;show lz K.os<=lz K1.os;have h0:K1.ext=lz K.os:=this;omega),kp (K1:=K1) b3.ex b5 b6⟩
    |_=>cases h2
   |false=>
    rw [hin]at hr;obtain⟨q,h1,h2⟩:=D5 hr;have hn:(eu args K).Nodup:=(Ar (fun id=>cQ K.os[id]?) 64 (refsL args) [] List.nodup_nil).1;obtain⟨s1,hren⟩:=Vv s hn (f:=rb) (os':=(ke (eu args K) K).os) (fun e=>by
     cases e with
     |sub p i o=>exact .inr ⟨⟨p,i,o,rfl⟩,rfl⟩
     |_=>exact .inl rfl) rfl
    have hx1:(ke (eu args K) K).ext<=lz (ke (eu args K) K).os:=by
     show(eu args K).length<=lz ((eu args K).map _)
     simp
    have k1:=ih _ _ h1 Z _ h argc s1 hx1 (hl.ren (fun _ hz=>⟨hz,rfl⟩) hren);cases q with
    |val vs K1=>
     dsimp only at h2;obtain⟨Z',ow',h',vcs,e,b2,b3,b4,_,_⟩:=k1;cases hm:jp (eu args K) K K1 with
     |none=>rw[hm]at h2;cases h2
     |some K'=>
      rw[hm]at h2;cases h2;obtain⟨ow2,c1,c2,c3,c4⟩:=gY s hx hn b2 b3 hm;exact⟨Z',ow2,h',vcs,e,c1,c2,c3,b4.ren (fun _ hz=>⟨hz,rfl⟩) c4⟩
    |pan v K1=>
     dsimp only at h2;obtain⟨Z',ow',h',vc,e,b2,b3,b4,_⟩:=k1;cases hm:jp (eu args K) K K1 with
     |none=>rw[hm]at h2;cases h2
     |some K'=>
      rw[hm]at h2;cases h2;obtain⟨ow2,c1,c2,c3,c4⟩:=gY s hx hn b2 b3 hm;exact⟨Z',ow2,h',vc,e,c1,c3,b4.ren (fun _ hz=>⟨hz,rfl⟩) c4,Gr hx c2 (c3 0).ex,c2⟩
    |_=>cases h2
 |body f args K=>
  intro Z ow h argc s hx hl;dsimp only at hr;cases hf:P.fn f with
  |none=>rw[hf]at hr;cases hr
  |some p=>
   rw[hf]at hr;dsimp only at hr;split at hr
   . rename_i hn
     have F:=hP.fn f p hf;obtain⟨q,h1,h2⟩:=D5 hr;obtain⟨rc,er,k1⟩:∃rc,du P.E f argc h=J0 P.E p.rs rc/\C3 Z ow h K p.nt rc q:=by
      have hen:=Hq hl hn F.nt;have hok:=F.ok;have hfn:=F.fn;rcases ta p.code with⟨x,a,g,c,e⟩|⟨x,d,d2,c,e⟩|⟨e1,e2⟩
      . rw[e]at h1 hok hfn
        obtain⟨rc,k1,k2⟩:=ih _ _ h1 p.nt Z ow h _ s hx hen hok;exact⟨rc,(vW F.gc F.told F.dlf F.srt hfn (by rw[hl.1];exact hn)).trans (k1 _),k2⟩
      . rw[e]at h1
        have k1:=ih _ _ h1 Z ow h .und .und s hx .und .und;cases q with
        |ok _ _ K'=>obtain⟨_,_,_,k2,_⟩:=k1;cases k2
        |_=>cases k1
      . rw[e1]at h1
        exact⟨_,vV e2 F.gc F.told F.dlf F.srt F.fn (by rw[hl.1];exact hn),ih _ _ h1 p.nt Z ow h _ s hx hen hok⟩
     rw[er];cases q with
     |pan v K'=>
      cases h2;obtain⟨Z',ow',h',vc,e,b2,b3,b4,b5⟩:=k1;rw[e];exact⟨Z',ow',h',vc,rfl,b2,b4,b3,b5⟩
     |ok e fr' K'=>
      obtain ⟨Z',ow',h',frc',e1,b2,b3,b4,b5,b6⟩:=k1;rw[e1];have fin:(∀q,kq P.E p.rs fr' K'=zsq q->r=.val q.1 q.2)->kq P.E p.rs fr' K'≠znq->nL Z ow h K (Li (G0 P.E p.rs frc' h') h') r:=fun hq hne=>by
       cases hv:kq P.E p.rs fr' K' with
       |none=>exact absurd hv hne
       |some q=>
        obtain⟨vs,K2⟩:=q;obtain rfl:=hq _ hv;obtain⟨vcs,c1,c2,c3,c4,c5⟩:=cW p.rs b2 b5 b3 hv;rw[c1];exact⟨Z',ow',h',vcs,rfl,c2,b4.trans s c4,c5,b6.trans (c3.e (by rw[<-b4.ex];exact b5)),Gr b5 c3 c4.ex⟩
      cases e with
      |exit i=>cases h2
      |normal=>
       dsimp only at h2;cases hv:kq P.E p.rs fr' K' with
       |none=>rw[hv]at h2;cases h2
       |some q=>rw[hv]at h2;cases h2;exact fin (fun q' hq'=>by rw[hv]at hq';cases hq';rfl) (by rw[hv];intro e;cases e)
      |ret=>
       dsimp only at h2;cases hv:kq P.E p.rs fr' K' with
       |none=>rw[hv]at h2;cases h2
       |some q=>rw[hv]at h2;cases h2;exact fin (fun q' hq'=>by rw[hv]at hq';cases hq';rfl) (by rw[hv];intro e;cases e)
     |_=>cases h2
   . cases hr
end
section
variable {E:Env}{P:PE}{R:AV->AV->Prop}{Z Z' Z1:Nat->Prop}{ow ow' ow1:Nat->Option (List Nat)}{h h' h1:Vg}{K K' K1:PK}{os os' ps:List PO}{x y xc yc v k:AV}{L M:List Nat}
noncomputable def V3(c r:AV)(os:List PO):AV×List PO:=match c with
 |.x0a=>(match fe r with|some (0,[],sz)=>(.msl (lz os) 0 0 sz,os++[.row 0 [] sz])|_=>(c,os))
 |_=>(c,os)
noncomputable def L4:List AV->List AV->List PO->List AV×List PO
 |[],_,os=>([],os)
 |c::cs,[],os=>(c::cs,os)
 |c::cs,r::rs,os=>((V3 c r os).1::(L4 cs rs (V3 c r os).2).1,(L4 cs rs (V3 c r os).2).2)
noncomputable def X7(v r:AV)(os:List PO):AV×List PO:=(N7 v (L4 v.cells r.cells os).1,(L4 v.cells r.cells os).2)
noncomputable def J9:List AV->List AV->List PO->List AV×List PO
 |[],_,os=>([],os)
 |c::cs,[],os=>(c::cs,os)
 |c::cs,r::rs,os=>((X7 c r os).1::(J9 cs rs (X7 c r os).2).1,(J9 cs rs (X7 c r os).2).2)
structure pe(vs rs:List AV)(os:List PO):Prop where
 nd:(refsL (J9 vs rs os).1).Nodup
 vl:renL (dk (refsL (J9 vs rs os).1)) (J9 vs rs os).1=(W2 0 rs).1
 ol:(refsL (J9 vs rs os).1).map (fun id=>dp (dk (refsL (J9 vs rs os).1)) (dr (J9 vs rs os).2 id))=(W2 0 rs).2
theorem qE(s:G6 Z ow h os)(sz:Nat):G6 Z ow h (os++[.row 0 [] sz])/\df ow os ow (os++[.row 0 [] sz])/\VR Z ow h (os++[.row 0 [] sz]) .x0a (.msl (lz os) 0 0 sz):=by
 have B:∀c t,ow c≠zsq (lz os::t):=fun c t e=>by
  obtain⟨_,_,r,t',h1,H⟩:=s.live c _ e;cases h1;exact absurd (fj H) (Nat.lt_irrefl _)
 have D:df ow os ow (os++[.row 0 [] sz]):=Nc s.sb fun _ _ _ _ _=>.rfl
 have C:PT (VR Z ow h os) Z ow h (os++[.row 0 [] sz]):=s.new (.row 0 [] sz) (zke _) (fun _ _=>rfl) (fun _ _ _=>rfl) (fun _ _ _=>.rfl) (fun a b t ha _=>absurd ha (B a t)) (fun d t G=>absurd G (B d t))
  (by simp_all[ek])
  (fun es z e=>by cases e;exact⟨.x0a,.nil (.inl rfl) (fun c t=>B c t)⟩) (by grind) (fun es e=>by cases e)
 refine⟨G6.to C (fun _ hz=>⟨hz,rfl⟩) D,D,.mnil (.inl rfl) (fun L hL c hc=>?_) (by simp)⟩;grind[loP]
theorem qF(s:G6 Z ow h os)(a:VR Z ow h os x y)(r:AV):G6 Z ow h (V3 y r os).2/\df ow os ow (V3 y r os).2/\VR Z ow h (V3 y r os).2 x (V3 y r os).1:=by
 have same:∀q:AV×List PO,q=(y,os)->G6 Z ow h q.2/\df ow os ow q.2/\VR Z ow h q.2 x q.1:=fun q e=>by subst e;exact⟨s,.refl _ _,a⟩
 unfold V3;split
 . split
   . rename_i sz _
     rw[a.isN];exact qE s sz
   grind
 grind
theorem Ku:∀(ys xs rs:List AV)(os:List PO),G6 Z ow h os->VL Z ow h os xs ys->G6 Z ow h (L4 ys rs os).2/\df ow os ow (L4 ys rs os).2/\VL Z ow h (L4 ys rs os).2 xs (L4 ys rs os).1
 |[],xs,rs,os,s,l=>⟨s,.refl _ _,l⟩
 |c::cs,xs,[],os,s,l=>⟨s,.refl _ _,l⟩
 |c::cs,[],r::rs,os,s,l=>by cases l.1
 |c::cs,x::xs,r::rs,os,s,l=>by
  obtain⟨D,G⟩:=l.inv;obtain⟨H,B,I⟩:=qF s D r;obtain⟨J,C,N⟩:=Ku cs xs rs (V3 c r os).2 H (G.keep (fun _ hz=>⟨hz,rfl⟩) B);exact⟨J,B.trans C,.cons (I.keep (fun _ hz=>⟨hz,rfl⟩) C) N⟩
theorem Qk:∀(ys rs:List AV)(os:List PO),lz (L4 ys rs os).1=lz ys
 |[],rs,os=>rfl
 |c::cs,[],os=>rfl
 |c::cs,r::rs,os=>congrArg (· + 1) (Qk cs rs _)
theorem qG(s:G6 Z ow h os)(a:VR Z ow h os x y)(r:AV):G6 Z ow h (X7 y r os).2/\df ow os ow (X7 y r os).2/\VR Z ow h (X7 y r os).2 x (X7 y r os).1:=by
 unfold X7;cases C:fh y with
 |true=>
  cases y<;>first|(cases C;done)|skip
  obtain⟨xs,rfl,l⟩:=a.agI;obtain⟨D,G,B⟩:=Ku _ xs r.cells os s l;exact⟨D,G,.agL B⟩
 |false=>
  obtain⟨D,G,B⟩:=Ku y.cells [x] r.cells os s (by rw[D7 C];exact .cons a .nil);refine⟨D,G,?_⟩;have hl:=Qk y.cells r.cells os;rw[D7 C]at hl B|-;obtain⟨c,hc⟩:=zka.1 hl
  have:N7 y (L4 [y] r.cells os).1=c:=by
   rw[hc];cases y<;>first|rfl|cases C
  rw[this];rw[hc]at B;exact B.inv.1
theorem aE:∀(ys xs rs:List AV)(os:List PO),G6 Z ow h os->VL Z ow h os xs ys->G6 Z ow h (J9 ys rs os).2/\df ow os ow (J9 ys rs os).2/\VL Z ow h (J9 ys rs os).2 xs (J9 ys rs os).1
 |[],xs,rs,os,s,l=>⟨s,.refl _ _,l⟩
 |c::cs,xs,[],os,s,l=>⟨s,.refl _ _,l⟩
 |c::cs,[],r::rs,os,s,l=>by cases l.1
 |c::cs,x::xs,r::rs,os,s,l=>by
  obtain⟨D,G⟩:=l.inv;obtain⟨H,B,I⟩:=qG s D r;obtain⟨J,C,N⟩:=aE cs xs rs (X7 c r os).2 H (G.keep (fun _ hz=>⟨hz,rfl⟩) B);exact⟨J,B.trans C,.cons (I.keep (fun _ hz=>⟨hz,rfl⟩) C) N⟩
theorem zE(s:G6 Z ow h os){B vs rs:List AV}(l:VL Z ow h os B vs)(b:pe vs rs os):∃ow',G6 Z ow' h (W2 0 rs).2/\VL Z ow' h (W2 0 rs).2 B (W2 0 rs).1/\∀id L,ow' id=zsq L->ow id≠znq:=by
 obtain⟨C,a2,D⟩:=aE vs B rs os s l;obtain⟨c1,c2⟩:=Vv C b.nd (f:=id) (fun e=>.inl rfl) (os':=(W2 0 rs).2) b.ol.symm;refine⟨_,c1,?_,fun d M hd e=>?_⟩
 . rw[<-b.vl];exact D.ren (fun _ hz=>⟨hz,rfl⟩) c2
 grind[E5]
def K0:PK:=⟨[],0,[]⟩
theorem MV(hb:∀id,Z id->id<h.next):G6 Z (fun _=>znq) h [] where
 row r es sz hr:=by simp at hr
 raw r k es sz hr:=by simp at hr
 map r es hr:=by simp at hr
 inj a b L ha:=by cases ha
 live a L ha:=by cases ha
 zb:=hb
 sb j p i o hj:=by simp at hj
def mw(y:AV):List AV:=match y with | .fsl [] zt=>[.x0a,.fsl [] zf]|y=>[y]
theorem Fz.refine(f:Fz Z h x y):∃D∈mw y,Fz Z h x D:=by
 have same:∀{y:AV},mw y=[y]->Fz Z h x y->∃D∈mw y,Fz Z h x D:=(by grind)
 cases f with
 |emp e=>
  cases e with
  |nil=>exact⟨.x0a,.head _,.x0a⟩
  |fsl=>exact⟨.fsl [] zf,.tail _ (.head _),.fsl rfl (fun i x y J=>by simp at J) rfl⟩
 |fsl h1 B C=>
  rename_i es es' f f';cases es' with
  | nil=>cases f' with
   |true=>exact⟨.fsl [] zf,.tail _ (.head _),.fsl h1 B C⟩
   |false=>exact same rfl (.fsl h1 B C)
  |cons=>exact same rfl (.fsl h1 B C)
 |view h1 B C G H I=>
  rename_i id off n sz row es' f';cases es' with
  | nil=>cases f' with
   |true=>exact⟨.fsl [] zf,.tail _ (.head _),.view h1 B C G H I⟩
   |false=>exact same rfl (.view h1 B C G H I)
  |cons=>exact same rfl (.view h1 B C G H I)
 |int k n=>exact same rfl (.int k n)
 |bool b=>exact same rfl (.bool b)
 |str b=>exact same rfl (.str b)
 |x0a=>exact same rfl .x0a
 |x0c=>exact same rfl .x0c
 |x0d=>exact same rfl .x0d
 |x0e=>exact same rfl .x0e
 |x0b=>exact same rfl .x0b
 |agg h1 B C=>exact same rfl (.agg h1 B C)
 |fptr o f=>exact same rfl (.fptr o f)
 |pview h1 B C f=>exact same rfl (.pview h1 B C f)
def eo(P:PE)(f:Nat)(args rs:List AV):Prop:=∃vs K1,evP P (.body f args K0)=zsq (.val vs K1)/\pe vs rs K1.os
theorem Gs(G:ep P){f:Nat}{args rs:List AV}(H:eo P f args rs){xs:List AV}(hl:lz xs=lz args)(hz:∀(i:Nat) x y,xs[i]?=zsq x->args[i]?=zsq y->Fz Z h x y)(hb:∀id,Z id->id<h.next):
 ∃(B:List AV)(h1:Vg)(Z1:Nat->Prop)(ow1:Nat->Option (List Nat)),du P.E f xs h=.ok (cj B) h1/\G6 Z1 ow1 h1 (W2 0 rs).2/\VL Z1 ow1 h1 (W2 0 rs).2 B (W2 0 rs).1/\
 h.next<=h1.next/\(∀id,Z id->Z1 id/\h1.get id=h.get id)/\(∀id,Z1 id->Z id\/h.next<=id)/\(∀id,id<h.next->h1.get id=h.get id)/\(∀id L,ow1 id=zsq L->h.next<=id)/\∃l,h1.tch=l++h.tch/\∀id∈l,h.next<=id:=by
 obtain⟨vs,K1,e,N⟩:=H;obtain⟨Z',ow',h',B,e1,Q,C,U,_,_⟩:=MU G _ _ e Z (fun _=>znq) h xs (MV hb) (zke _) ⟨hl,fun i x y I J=>.fz (hz i x y I J)⟩;obtain⟨ow2,c1,c2,c3⟩:=zE Q U N;refine⟨B,h',Z',ow2,e1,c1,c2,C.nx,C.zz,C.zn,fun id hl=>C.un id hl rfl,fun id L ho=>?_,?_⟩
 . by_cases D:id<h.next
   . cases e2:ow' id with
     |none=>grind
     |some M=>exact absurd rfl (C.uo id M e2 D)
   . omega
 . obtain⟨l,q1,q2⟩:=C.th
   grind
theorem CP(B:ep P){f:Nat}{g:List AV->Option (List AV)}(H:∀args rs,g args=zsq rs->eo P f args rs):TC P.E f g:=
 fun args rs hg Z h xs hl hz hb=>Gs B (H args rs hg) hl hz hb
theorem lN(C:ep P){f:Nat}{g:List AV->Option (List AV)}(H:∀a args rs,g (a::args)=zsq rs->∀B∈mw a,eo P f (B::args) rs)(H0:g []=znq):TC P.E f g:=by
 intro args rs hg Z h xs hl hz hb;cases args with
 |nil=>grind
 |cons a args=>
  cases xs with
  |nil=>cases hl
  |cons x xs=>
   obtain⟨B,h1,h2⟩:=(hz 0 x a rfl rfl).refine;refine Gs C (H a args rs hg B h1) hl (fun i u w hu hw=>?_) hb;grind
end
end Go.AM
