/- The tree machine: code as trees, memory by kept numbers, and that it says what the machine does. Conditions: none. -/
import Derived.Test.YtnglooakgahhhaaPmA
set_option linter.unusedVariables false
set_option linter.unusedSimpArgs false
set_option linter.unusedSectionVars false
set_option linter.defProp false
set_option maxHeartbeats 4000000
open Option renaming some→zsq,none→znq
open Bool renaming true→zt,false→zf
open List renaming getElem?_eq_getElem→zqa,mem_of_getElem?→zqb,getElem?_eq_some_iff→zqc,replicate→zqd,getElem?_of_mem→zqe,all_eq_true→zqf,getElem?_map→zqg,eq_nil_of_length_eq_zero→zqh,mem_cons_self→zqi,mem_cons→zqj,mem_append→zqk,append_nil→zql,mem_map→zqm,getElem_mem→zqn,mem_replicate→zqo,mem_cons_of_mem→zqp,getElem?_append_left→zqq,mem_filter→zqr,mem_singleton→zqs,append_eq_nil_iff→zqt,getElem?_take→zqu,nodup_cons→zqv,getElem?_append_right→zqw,getElem?_drop→zqx,mem_append_left→zqy,getD_eq_getElem?_getD→zqz,length_eq_one_iff→zka
open Bool renaming and_eq_true_iff→zkb,and_eq_true→zkc,or_eq_true_iff→zkd
open Nat renaming le_refl→zke,lt_of_lt_of_le→zkf,ble_eq_true_of_le→zkg,beq_refl→zkh,le_trans→zki,eq_of_beq_eq_true→zkj
namespace Go.AM
section
variable {E:Env}{R:AV->AV->Prop}{Z Z':Nat->Prop}{ow ow' ow1 ow2:Nat->Option (List Nat)}{h h':Heap}{K K':PK}{os os' os1 os2:List PO}{x y xc yc v:AV}{L M:List Nat}
theorem vR{f:IntKind->Int->Int->Option AV}(A:VR Z ow h os xc x)(B:VR Z ow h os yc y)(e:d8 x y f=zsq v):d8 xc yc f=zsq v:=by
 obtain⟨k,n,rfl,e1⟩:=B4 e;obtain⟨k',m,rfl,_⟩:=B4 e1;rw[A.isI,B.isI];exact e
def Br(v:AV):Bool:=match v with | .int _ _=>zt | .bool _=>zt | .str _=>zt|_=>zf
theorem Uq(e:Br v=zt):VR Z ow h os v v:=by
 cases v<;>first|exact .i _ _|exact .b _|exact .fz (.str _)|cases e
theorem mkInt_pl{k:IntKind}{n:Int}(e:z6 k n=zsq v):Br v=zt:=by rw[z6,Mv]at e;cases e;rfl
theorem c8{b:Bool}(e:E7 b=zsq v):Br v=zt:=by cases b<;>cases e<;>rfl
theorem vS{z:AV}(A:VR Z ow h os xc x)(e:Wo z x=zt):xc=x:=by
 cases z with
 |int j _=>cases x<;>first|exact A.isI|cases e
 |bool _=>cases x<;>first|exact A.isB|cases e
 |str _=>cases x<;>first|exact A.isS|cases e
 |_=>cases e
theorem gA:∀(z xs ys:List AV),VL Z ow h os xs ys->Ei z ys=zt->xs=ys
 |[],xs,ys,hl,e=>by
  cases ys with
  |nil=>exact zqh hl.1
  |cons=>cases e
 |z :: zs,xs,ys,hl,e=>by
  cases ys with
  |nil=>cases e
  |cons y ys=>
   cases xs with
   |nil=>have:=hl.1;simp at this
   |cons x xs=>
    have e:(bif Wo z y then Ei zs ys else zf)=zt:=e;cases h1:Wo z y with
    |false=>grind
    |true=>
     rw[h1]at e;rw[vS hl.inv.1 h1,gA zs xs ys hl.inv.2 e]
theorem Xz{k:EqK}{b:Bool}(A:VR Z ow h os xc x)(B:Nr x=zt)(e:r8 k x=zsq b):r8 k xc=zsq b:=by
 cases k with
 |slc=>
  cases x with
  |nilsl=>rw[A.isN];exact e
  |msl=>cases B
  |fsl es f=>
   cases A with
   |fz z=>
    cases z with
    |emp em=>cases e
    |fsl h1 h2 C=>
     rename_i es0 f0;cases es with
     |nil=>
      have:es0=[]:=zqh h1
      subst this;rw[C];cases f with
      |true=>cases e
      |false=>exact e
     |cons=>
      cases es0 with
      |nil=>simp at h1
      |cons=>exact e
    |view=>
     have:b=zf:=by
      cases es with
      |nil=>cases f<;>cases e;rfl
      |cons=>cases e;rfl
     subst this;rfl
  |_=>cases e
 |ptr=>
  cases x with
  |nilptr=>cases A with|fz z=>cases z;exact e
  | ptr=>cases A with
   |fz z=>cases z
   |ptr=>exact e
  |fptr=>cases A with|fz z=>cases z<;>exact e
  |_=>cases e
 |map=>
  cases x with
  |nilmap=>cases A with|fz z=>cases z;exact e
  | map=>cases A with
   |fz z=>cases z
   |map=>exact e
  |_=>cases e
 |ifc=>
  cases x with
  |niliface=>cases A with|fz z=>cases z;exact e
  | iface=>cases A with
   |fz z=>cases z
   |iface=>exact e
  |_=>cases e
 |_=>cases e
theorem qN{k:EqK}{b:Bool}(hx:VR Z ow h os xc x)(D:VR Z ow h os yc y)(hmx:Nr x=zt)(B:Nr y=zt)(e:Fh k x y=zsq b):Fh k xc yc=zsq b:=by
 unfold Fh at e|-;cases A:r8 k y with
 |none=>rw[A]at e;cases e
 |some c=>
  rw[A]at e;rw[Xz D B A];cases C:r8 k x with
  |none=>rw[C]at e;cases c<;>cases e
  |some d=>grind[Xz]
def GO(v:AV):Bool:=match v with | .agg _=>zt | .int _ _=>zt | .bool _=>zt | .str _=>zt|_=>zf
theorem zL{k:EqK}{z:AV}(hz:GO z=zf):rX k z yc=Fh k z yc:=by cases z<;>first|rfl|cases hz
theorem vT(B:VR Z ow h os xc x)(hu:x≠.und)(hz:GO x=zf):GO xc=zf:=by
 cases B with
 |und=>grind
 |mnil A=>rcases A with rfl|rfl<;>rfl
 |agg=>cases hz
 |fz f=>
  cases f with
  |emp A=>cases A<;>rfl
  |agg=>cases hz
  |int=>cases hz
  |bool=>cases hz
  |str=>cases hz
  |_=>rfl
 |_=>rfl
theorem nI{k:EqK}{b:Bool}(A:VR Z ow h os xc x)(B:VR Z ow h os yc y)(C:Nr x=zt)(D:Nr y=zt)(e:rX k x y=zsq b):rX k xc yc=zsq b:=by
 cases x with
 |agg a=>
  obtain⟨c,rfl,e1⟩:=Aa e;obtain⟨H,rfl,ha⟩:=A.agI;obtain⟨I,rfl,hc⟩:=B.agI;have e1:rS k a c=zsq b:=e1;show rS k H I=zsq b
  cases k with
  |flat z=>
   have e1:A9 (Ei z a&&Ei z c) (PS a c)=zsq b:=e1;obtain⟨h1,_⟩:=A6 e1;rw[zkc]at h1;grind[gA]
  |_=>cases e1
 |bool a=>obtain⟨c,rfl,_⟩:=Be e;rw[A.isB,B.isB];exact e
 |int j a=>obtain⟨_,c,rfl,_⟩:=B4 e;rw[A.isI,B.isI];exact e
 |str a=>obtain⟨c,rfl,_⟩:=J7 e;rw[A.isS,B.isS];exact e
 | und=>unfold rX Fh at e;cases h1:r8 k y with
  |none=>simp only[h1]at e;cases e
  |some c=>simp only[h1]at e;cases c<;>(cases k<;>cases e)
 |_=>
  have G:=qN A B C D e;rw[zL (vT A (by grind) rfl)];exact G
theorem kE{op:BinOp}{k:EqK}(B:VR Z ow h os xc x)(C:VR Z ow h os yc y)(hmx:Nr x=zt)(hmy:Nr y=zt)(e:J3 op k x y=zsq v):J3 op k xc yc=zsq v/\Br v=zt:=by
 have A:∀f:IntKind->Int->Int->Option AV,(∀k a b v,f k a b=zsq v->Br v=zt)->d8 x y f=zsq v->d8 xc yc f=zsq v/\Br v=zt:=fun f hf e=>by
  refine⟨vR B C e,?_⟩;obtain⟨k,n,rfl,e1⟩:=B4 e;obtain⟨k',m,rfl,e2⟩:=B4 e1;grind
 have D:∀{k n v},O8 k n=zsq v->Br v=zt:=fun e=>mkInt_pl e
 have hob:∀{o:Option Bool}{f:Bool->Bool},A4 o (fun b=>E7 (f b))=zsq v->Br v=zt:=fun{o f} e=>by
  obtain⟨b,_,h2⟩:=A0 e;exact c8 h2
 cases op with
 |add=>
  have e:CV x y=zsq v:=e;show CV xc yc=zsq v/\_
  cases x with
  |str a=>
   obtain⟨c,rfl,e1⟩:=J7 e;rw[B.isS,C.isS];refine⟨e,?_⟩;cases hb:Nat.ble (Nat.add (r6 a) (r6 c)) 4611686018427387904 with
   |false=>grind
   |true=>rw[hb]at e1;cases e1;rfl
  |int k n=>
   rw[B.isI]
   have:=A (fun k a b=>O8 k (a+b)) (fun _ _ _ _ e=>D e) e
   rw[B.isI]at this;exact this
  |_=>cases e
 |sub=>exact A _ (fun _ _ _ _ e=>D e) e
 |mul=>exact A _ (fun _ _ _ _ e=>D e) e
 |quo=>exact A (fun k a b=>bif intEq b 0 then znq else O8 k (a.tdiv b)) (by grind) e
 |rem=>exact A (fun k a b=>bif intEq b 0 then znq else z6 k (a.tmod b)) (by grind[Go.AM.mkInt_pl]) e
 |and=>exact A _ (fun _ _ _ _ e=>mkInt_pl e) e
 |or=>exact A _ (fun _ _ _ _ e=>mkInt_pl e) e
 |xor=>exact A _ (fun _ _ _ _ e=>mkInt_pl e) e
 |shl=>
  obtain⟨k,n,rfl,e1⟩:=B4 (show HW x y=zsq v from e);obtain⟨k',m,rfl,e2⟩:=B4 e1;rw[B.isI,C.isI];refine⟨e,?_⟩;cases m with
  |ofNat m=>exact D e2
  |negSucc m=>cases e2
 |shr=>
  obtain⟨k,n,rfl,e1⟩:=B4 (show HX x y=zsq v from e);obtain⟨k',m,rfl,e2⟩:=B4 e1;rw[B.isI,C.isI];refine⟨e,?_⟩;cases m with
  |ofNat m=>exact mkInt_pl e2
  |negSucc m=>cases e2
 |eql=>
  have e:A4 (rX k x y) E7=zsq v:=e;obtain⟨b,h1,h2⟩:=A0 e;refine⟨?_,c8 h2⟩;show A4 (rX k xc yc) E7=zsq v
  grind[nI]
 |neq=>
  have e:A4 (rX k x y) (fun b=>E7 (!b))=zsq v:=e;obtain⟨b,h1,h2⟩:=A0 e;refine⟨?_,c8 h2⟩;show A4 (rX k xc yc) (fun b=>E7 (!b))=zsq v
  grind[nI]
 |lss=>exact A _ (fun _ _ _ _ e=>c8 e) e
 |leq=>exact A _ (fun _ _ _ _ e=>c8 e) e
 |gtr=>exact A _ (fun _ _ _ _ e=>c8 e) e
 |geq=>exact A _ (fun _ _ _ _ e=>c8 e) e
 |_=>cases e
theorem qO{op:UnOp}(A:VR Z ow h os xc x)(e:Kh op x=zsq v):Kh op xc=zsq v/\Br v=zt:=by
 cases op with
 |neg=>obtain⟨k,n,rfl,e1⟩:=B4 (show x.onInt znq (fun k n=>O8 k (0-n))=zsq v from e);rw[A.isI];exact⟨e,mkInt_pl e1⟩
 |not=>obtain⟨b,rfl,e1⟩:=Be (show x.onBool znq (fun b=>E7 (!b))=zsq v from e);rw[A.isB];grind[c8]
 |_=>cases e
theorem bQ{d:TD}(A:VR Z ow h os xc x)(e:R5 d x=zsq v):R5 d xc=zsq v/\Br v=zt:=by
 cases d with
 |int k=>obtain⟨j,n,rfl,e1⟩:=B4 (show x.onInt znq (fun _ n=>O8 k n)=zsq v from e);rw[A.isI];exact⟨e,mkInt_pl e1⟩
 |string=>obtain⟨s,rfl,e1⟩:=J7 (show x.onStr znq (fun s=>zsq (.str s))=zsq v from e);rw[A.isS];cases e1;exact⟨rfl,rfl⟩
 |_=>cases e
theorem y7{n:Nat}(A:VR Z ow h os xc x)(e:asNat x=zsq n):asNat xc=zsq n:=by
 obtain⟨k,m,rfl,_⟩:=B4 e;rw[A.isI];exact e
theorem bR(A:VR Z ow h os xc x)(e:Y8 x=zsq v):∃vc,Y8 xc=zsq vc/\VR Z ow h os vc v:=by
 cases x with
 |fptr u o=>
  cases e;cases A with
  | fz z=>cases z with
   |fptr o f=>exact⟨_,rfl,.fz (.fptr o f)⟩
   |pview a b c d=>exact⟨_,rfl,.fz (.pview a b c d)⟩
 |ptr id i o=>
  cases e;cases A with
  |fz z=>cases z
  |ptr a b=>exact⟨_,rfl,.ptr a b⟩
 |map id=>
  cases e;cases A with
  |fz z=>cases z
  |map a b=>exact⟨_,rfl,.map a b⟩
 |fn f a b=>
  cases A with
  |fz z=>cases z
  |fn h1 h2 B C=>
   cases f with
   |func n=>cases e;exact⟨_,rfl,.fn h1 h2 B C⟩
   |_=>cases e
 |_=>cases e
theorem Pb{d:Nat}(B:VR Z ow h os xc x)(e:B0 x d=zsq v):∃vc,B0 xc d=zsq vc/\VR Z ow h os vc v:=by
 have C:∀(u:AV)(o:Nat),B0 (.fptr u o) d=zsq (.fptr u (o+d)):=fun u o=>B7 (Nat.add o d) (fun o=>zsq (AV.fptr u o))
 have A:∀(id i o:Nat),B0 (.ptr id i o) d=zsq (.ptr id i (o+d)):=fun id i o=>B7 (Nat.add o d) (fun o=>zsq (AV.ptr id i o))
 cases x with
 |fptr u o=>
  rw[C]at e;cases e;cases B with
  | fz z=>cases z with
   |fptr o f=>exact⟨_,C _ _,.fz (.fptr _ f)⟩
   |pview a b c f=>exact⟨_,A _ _ _,.fz (.pview a b c f)⟩
 |ptr id i o=>
  rw[A]at e;cases e;cases B with
  |fz z=>cases z
  |ptr a b=>exact⟨_,A _ _ _,.ptr a b⟩
 |_=>cases e
theorem VL.part{xs ys:List AV}{t:TI}{off:Nat}(hl:VL Z ow h os xs ys)(e:partOf t ys off=zsq v):∃vc,partOf t xs off=zsq vc/\VR Z ow h os vc v:=by
 obtain⟨A,h1,h2⟩:=Mg (R:=fun _ a b=>VR Z ow h os a b) hl.1 hl.2 e;refine⟨A,h1,?_⟩;rcases h2 with⟨us,vs,rfl,rfl,B,_,_,_,C⟩|⟨_,_,_,D⟩
 . exact .agg B C
 . exact D
theorem We{d:TD}{i:Nat}(C:VR Z ow h os xc x)(e:R6 E d i x=zsq v):∃vc,R6 E d i xc=zsq vc/\VR Z ow h os vc v:=by
 cases d with
 |slice A=>
  have e:onTI E A znq (fun te=>cY te i x)=zsq v:=e;show ∃vc,onTI E A znq (fun te=>cY te i xc)=zsq vc/\_
  unfold onTI at e|-;cases H:E.ti A with
  |none=>simp_all
  |some te=>
   rw[H]at e;simp only at e|-;have e:cY te i x=zsq v:=e;show ∃vc,cY te i xc=zsq vc/\_
   have D:∀id off n sz,cY te i (.msl id off n sz)=if i<n/\sz=te.size then zsq (AV.ptr id (off+i) 0)else znq:=fun id off n sz=>by
    show A9 (Nat.blt i n&&Nat.beq sz te.size) (M2 (Nat.add off i) fun o=>zsq (AV.ptr id o 0))=_
    rw[B7];by_cases hc:i<n/\sz=te.size
    . rw[if_pos hc,hc.2,zkh]
      have:Nat.blt i n=zt:=zkg hc.1
      rw[this];rfl
    . rw [if_neg hc]
      cases hg:(Nat.blt i n&&Nat.beq sz te.size)with
      |false=>rfl
      |true=>
       simp_all
   have hf:∀es f,cY te i (.fsl es f)=match es[i]? with|some u=>if u.cells.length=te.size then zsq (.fptr u 0)else znq|none=>znq:=fun es f=>by
    show A4 (Fg es i) (fun v=>A9 (Nat.beq (lenL v.cells) te.size) (zsq (AV.fptr v 0)))=_
    rw[R2];cases es[i]? with
    |none=>rfl
    |some u=>
     show A9 (Nat.beq (lenL u.cells) te.size) (zsq (AV.fptr u 0))=if u.cells.length=te.size then zsq (AV.fptr u 0)else znq
     rw[A3];by_cases hc:u.cells.length=te.size
     . rw[if_pos hc,hc,zkh];rfl
     . rw[if_neg hc]
       cases hb:Nat.beq u.cells.length te.size with
       |false=>rfl
       |true=>simp_all
   cases x with
   |fsl es f=>
    rw[hf]at e;cases B:es[i]? with
    |none=>grind
    |some u=>
     rw[B]at e;simp only at e;split at e
     . rename_i hsz
       cases e;cases C with
       |fz z=>
        cases z with
        |emp em=>simp at B
        |fsl h1 h2 G=>
         rename_i es0 f0;have hl:i<es0.length:=by grind
         have hz:=h2 i _ u (zqa hl) B;refine⟨.fptr es0[i] 0,?_,.fz (.fptr 0 hz)⟩;rw[hf,zqa hl];simp only;rw[if_pos (hz.shape.1.trans hsz)]
        |view h1 h2 G I N O=>
         rename_i id off n sz row;have hi:i<n:=by grind
         have hl:off+i<row.length:=by omega
         have hz:=N i _ u (zqa hl) B;have J:=O i _ hi (zqa hl);refine⟨.ptr id (off+i) 0,?_,.fz (.pview h1 h2 (zqa hl) hz)⟩;rw[D,if_pos ⟨hi,by rw[<-J,hz.shape.1,hsz]⟩]
     . cases e
   |msl id off n sz=>
    rw[D]at e;split at e
    . rename_i hc
      cases e;cases C with
      |fz z=>cases z
      |mnil _ _ _=>omega
      |msl a b=>exact⟨_,by rw[D,if_pos hc],.ptr a b⟩
    . cases e
   |_=>cases e
 |array len A=>
  have e:onTI E A znq (fun te=>A9 (Nat.blt i len&&Nat.blt 0 te.size) (B0 x (Nat.mul i te.size)))=zsq v:=e;show ∃vc,onTI E A znq (fun te=>A9 (Nat.blt i len&&Nat.blt 0 te.size) (B0 xc (Nat.mul i te.size)))=zsq vc/\_
  unfold onTI at e|-;cases H:E.ti A with
  |none=>simp_all
  |some te=>
   rw[H]at e;simp only at e|-;obtain⟨h1,h2⟩:=A6 e;obtain⟨vc,G,I⟩:=Pb C h2;exact⟨vc,by rw[h1];exact G,I⟩
 |_=>cases e
theorem qP{d:TD}{i:Nat}(B:VR Z ow h os xc x)(e:Fk E d i x=zsq v):∃vc,Fk E d i xc=zsq vc/\VR Z ow h os vc v:=by
 cases d with
 |string=>
  obtain⟨s,rfl,e1⟩:=J7 (show x.onStr znq (fun s=>A4 (CW s i) fun b=>zsq (.int .u8 (Int.ofNat b.toNat)))=zsq v from e);rw[B.isS];obtain⟨b,_,h2⟩:=A0 e1;cases h2;exact⟨_,e,.i _ _⟩
 |array len A=>
  have e:onTI E A znq (fun te=>A9 (Nat.blt i len) (x.onAgg znq fun cs=>partOf te cs (Nat.mul i te.size)))=zsq v:=e;show ∃vc,onTI E A znq (fun te=>A9 (Nat.blt i len) (xc.onAgg znq fun cs=>partOf te cs (Nat.mul i te.size)))=zsq vc/\_
  unfold onTI at e|-;cases H:E.ti A with
  |none=>simp_all
  |some te=>
   rw[H]at e;simp only at e|-;obtain⟨h1,h2⟩:=A6 e;obtain⟨cs,rfl,C⟩:=Aa h2;obtain⟨xs,rfl,hl⟩:=B.agI;obtain⟨vc,D,G⟩:=hl.part C;exact⟨vc,by rw[h1];exact D,G⟩
 |_=>cases e
end
section
variable {E:Env}{R:AV->AV->Prop}{Z Z':Nat->Prop}{ow ow' ow1 ow2:Nat->Option (List Nat)}{h h':Heap}{K K':PK}{os os' os1 os2:List PO}{x y xc yc v:AV}{L M:List Nat}
def VO(Z:Nat->Prop)(ow:Nat->Option (List Nat))(h:Heap)(os:List PO)(a b:Option AV):Prop:=(a=znq/\b=znq)\/∃x y,a=zsq x/\b=zsq y/\VR Z ow h os x y
theorem bS(hg:wU E){nt:Nat}{frc:Tr}{fr:PF}(a:FrR Z ow h os nt frc fr)(o:Option Operand):VO Z ow h os (Mz E o frc) (bM E o fr):=by
 cases o with
 |none=>exact .inl ⟨rfl,rfl⟩
 |some o=>exact .inr ⟨_,_,rfl,rfl,Ao hg a o⟩
theorem F8{a b:Option AV}{d n:Nat}(A:VO Z ow h os a b)(e:D5 b d=zsq n):D5 a d=zsq n:=by
 rcases A with⟨rfl,rfl⟩|⟨x,y,rfl,rfl,A⟩
 . exact e
 . exact y7 A e
theorem VO.isS{a b:Option AV}(A:VO Z ow h os a b):a.isSome=b.isSome/\a.isNone=b.isNone:=by
 rcases A with⟨rfl,rfl⟩|⟨x,y,rfl,rfl,A⟩<;>exact⟨rfl,rfl⟩
theorem Bm{a b:Nat}:Nat.ble a b=zt↔a<=b:=(by simp_all)
def CG(mx:Option AV)(f:Bool)(m r n:Nat):Bool:=match mx with|some _=>Nat.beq m r|none=>f&&Nat.beq r n
theorem gB{sz:Nat}{es:List AV}{f:Bool}{lo hi mx:Option AV}(e:Iv sz es f lo hi mx=zsq v):∃l r m,D5 lo 0=zsq l/\D5 hi es.length=zsq r/\D5 mx es.length=zsq m/\l<=r/\r<=m/\m<=es.length/\k7 sz es=zt/\v=.fsl ((es.drop l).take (r-l)) (CG mx f m r es.length):=by
 unfold Iv at e;obtain⟨l,h1,e⟩:=A0 e;obtain⟨r,h2,e⟩:=A0 e;obtain⟨m,B,e⟩:=A0 e;obtain⟨A,e⟩:=A6 e;rw[A3]at h2 B A e;simp only[zkc,Bm]at A;rw[G4,G3]at e;cases e;exact⟨l,r,m,h1,h2,B,A.1.1.1,A.1.1.2,A.1.2,A.2,rfl⟩
theorem qQ{sz:Nat}{es:List AV}{f:Bool}{lo hi mx:Option AV}{l r m:Nat}(h1:D5 lo 0=zsq l)(h2:D5 hi es.length=zsq r)(A:D5 mx es.length=zsq m)(B:l<=r)(C:r<=m)(D:m<=es.length)(G:k7 sz es=zt):Iv sz es f lo hi mx=zsq (.fsl ((es.drop l).take (r-l)) (CG mx f m r es.length)):=by
 unfold Iv;rw[h1];show A4 (D5 hi (lenL es)) _=_
 rw[A3,h2];show A4 (D5 mx es.length) _=_
 rw[A];show A9 (Nat.ble l r&&Nat.ble r m&&Nat.ble m es.length&&k7 sz es) _=_
 rw[Bm.2 B,Bm.2 C,Bm.2 D,G,G4,G3];rfl
theorem gC{ts id off n sz:Nat}{lo hi mx:Option AV}(e:Mx ts id off n sz lo hi mx=zsq v):∃l r m,D5 lo 0=zsq l/\D5 hi n=zsq r/\D5 mx n=zsq m/\l<=r/\r<=m/\m<=n/\sz=ts/\v=.msl id (off+l) (r-l) sz:=by
 unfold Mx at e;obtain⟨l,h1,e⟩:=A0 e;obtain⟨r,h2,e⟩:=A0 e;obtain⟨m,h3,e⟩:=A0 e;obtain⟨A,e⟩:=A6 e;simp only[zkc,Bm]at A;rw[B7,B7]at e;simp_all
theorem Ya{ts id off n:Nat}{lo hi mx:Option AV}{l r m:Nat}(h1:D5 lo 0=zsq l)(h2:D5 hi n=zsq r)(A:D5 mx n=zsq m)(B:l<=r)(C:r<=m)(D:m<=n):Mx ts id off n ts lo hi mx=zsq (.msl id (off+l) (r-l) ts):=by
 unfold Mx;rw[h1];show A4 (D5 hi n) _=_
 rw[h2];show A4 (D5 mx n) _=_
 rw[A];show A9 (Nat.ble l r&&Nat.ble r m&&Nat.ble m n&&Nat.beq ts ts) _=_
 rw[Bm.2 B,Bm.2 C,Bm.2 D,zkh,B7,B7];rfl
theorem kF{d:TD}{lo hi mx C B A:Option AV}(I:VO Z ow h os C lo)(J:VO Z ow h os B hi)(G:VO Z ow h os A mx)(Q:VR Z ow h os xc x)(e:bK E d lo hi mx x=zsq v):∃vc,sliceA E d C B A xc=zsq vc/\VR Z ow h os vc v:=by
 have str:∀{s:List UInt8}{v:AV},Fi s lo hi mx=zsq v->Fi s C B A=zsq v/\∃s',v=.str s':=fun{s v} e=>by
  unfold Fi at e|-;obtain⟨l,h1,e⟩:=A0 e;obtain⟨r,h2,e⟩:=A0 e;obtain⟨O,e⟩:=A6 e;rw[F8 I h1];show A4 (D5 B (r6 s)) _=_/\_
  rw[F8 J h2];show A9 (Nat.ble l r&&Nat.ble r (r6 s)&&A.isNone) _=_/\_
  rw[G.isS.2,O];cases e;exact⟨rfl,_,rfl⟩
 have msl:∀{id off n sz},x=.msl id off n sz->sliceA E d lo hi mx x=zsq v->∃vc,sliceA E d C B A xc=zsq vc/\VR Z ow h os vc v:=fun{id off n sz} aa e=>by
  subst aa;cases d with
  |string=>cases e
  |slice H=>
   have e:onTI E H znq (fun te=>My te.size lo hi mx (.msl id off n sz))=zsq v:=e;show ∃vc,onTI E H znq (fun te=>My te.size C B A xc)=zsq vc/\_
   unfold onTI at e|-;cases N:E.ti H with
   |none=>rw[N]at e;cases e
   |some te=>
    rw[N]at e;simp only at e|-;have e:Mx te.size id off n sz lo hi mx=zsq v:=e;obtain⟨l,r,m,h1,h2,O,V,X,Y,rfl,rfl⟩:=gC e;cases Q with
    |fz z=>cases z
    |mnil em hn ae=>
     have q1:=F8 I h1;have q2:=F8 J h2;have q3:=F8 G O;obtain rfl:m=0:=by omega
     obtain rfl:r=0:=by omega
     obtain rfl:l=0:=by omega
     rcases em with rfl|rfl
     all_goals
      refine⟨.nilsl,?_,.mnil (.inl rfl) hn ae⟩;show Yt C B A=zsq .nilsl
      unfold Yt;rw[q1];show A4 (D5 B 0) _=_
      rw[q2];show A4 (D5 A 0) _=_
      rw[q3];rfl
    |msl a b=>
     refine⟨_,Ya (F8 I h1) (F8 J h2) (F8 G O) V X Y,?_⟩;exact .msl a b
  |_=>cases e
 cases x with
 |nilsl=>cases e
 |msl id off n sz=>
  exact msl rfl e
 |fsl es f=>
  have e:(if es.isEmpty||mx.isSome then znq else(sliceA E d lo hi mx (.fsl es f)).map fun y=>match y with | .fsl l _=>.fsl l l.isEmpty|y=>y)=zsq v:=e;split at e
  . cases e
  . rename_i hne
    cases D:sliceA E d lo hi mx (.fsl es f)with
    |none=>rw[D]at e;cases e
    |some w=>
     rw[D]at e;cases d with
     |string=>cases D
     |slice H=>
      have D:onTI E H znq (fun te=>My te.size lo hi mx (.fsl es f))=zsq w:=D;show ∃vc,onTI E H znq (fun te=>My te.size C B A xc)=zsq vc/\_
      unfold onTI at D|-;cases N:E.ti H with
      |none=>rw[N]at D;cases D
      |some te=>
       rw [N]at D;simp only at D|-;have D:Iv te.size es f lo hi mx=zsq w:=D;obtain⟨l,r,m,h1,h2,O,V,X,Y,h7,rfl⟩:=gB D;cases e;obtain⟨u,us,rfl⟩:∃u us,es=u::us:=by cases es with
        |_=>grind
       have ab:A=znq:=by
        cases hm:A with
        |none=>rfl
        |some q=>
         have h8:=G.isS.1;grind
       have hu:u.cells.length=te.size:=by
        have h7:Nat.beq (lenL u.cells) te.size=zt:=h7;grind[A3,zkj]
       cases Q with
       |fz z=>
        cases z with
        |fsl g1 g2 g3=>
         rename_i es0 f0;obtain⟨u0,ad,rfl⟩:∃u us,es0=u::us:=by cases es0 with
          |nil=>simp at g1
          |cons u us=>grind
         have hu0:=(g2 0 u0 u rfl rfl).shape.1;refine⟨_,qQ (sz:=te.size) (es:=u0::ad) (f:=f0) (F8 I h1) (F8 J (by grind)) (F8 G (by grind)) V X (by grind) (by show Nat.beq (lenL u0.cells) te.size=zt;simp_all[A3]),?_⟩;refine .fz (.fsl (by grind) (fun i x y Q hy=>?_) (by rw[ab,g3];rfl));grind
        |view g1 g2 g3 g4 g5 g6=>
         rename_i id off n sz row;have U:off<row.length:=by grind
         have ac:=g5 0 _ u (zqa U) rfl;have hsz:sz=te.size:=by rw[<-g6 0 _ (by grind) (zqa U),ac.shape.1,hu]
         subst hsz;rw[g4]at h2 O Y;refine⟨_,Ya (id:=id) (off:=off) (F8 I h1) (F8 J h2) (F8 G O) V X Y,?_⟩;refine .fz (.view (row:=row) g1 g2 (by omega) (by grind) (fun i x y Q hy=>?_) (fun i x hi Q=>g6 (l+i) x (by omega) (by grind)));grind
     |_=>cases D
 |str s=>
  cases d with
  |string=>
   rw[Q.isS];obtain⟨h1,s',rfl⟩:=str (show Fi s lo hi mx=zsq v from e);exact⟨_,h1,.fz (.str s')⟩
  |slice H=>
   have e:onTI E H znq (fun te=>My te.size lo hi mx (.str s))=zsq v:=e;unfold onTI at e;cases N:E.ti H with
   |none=>simp_all
   |some te=>rw[N]at e;cases e
  |_=>cases e
 |_=>
  cases d with
  |slice H=>
   have e:onTI E H znq (fun te=>znq)=zsq v:=e;unfold onTI at e;cases N:E.ti H with
   |_=>simp_all
  |_=>cases e
theorem OI(s:F7 Z ow h K.os){id:Nat}{es:List (AV×AV)}(A:K.os[id]?=zsq (.mapo es))(B:VR Z ow h K.os xc (.map id)):∃c ces,xc=.map c/\MapR Z ow h id es c ces:=by
 obtain⟨c0,ces,g⟩:=s.map id es A;cases B with
 |fz z=>cases z
 |map a b=>
  have h1:=a [id] (by grind[loP])
  have:=s.inj _ _ _ h1 g.o
  grind
theorem vU{α:Type}{h:Heap}{id:Nat}{es:List (AV×AV)}{d:α}{f:List (AV×AV)->α}(hg:h.get id=zsq (.mapo es)):h.onMapo id d f=f es:=by
 grind[Heap.onMapo]
theorem vV(s:F7 Z ow h K.os){d:TD}{n:Nat}(A:VR Z ow h K.os xc x)(e:GI d x K=zsq n):iH d xc h=zsq n:=by
 cases d with
 |string=>obtain⟨s',rfl,e1⟩:=J7 (show x.onStr znq (fun s=>zsq (r6 s))=zsq n from e);rw[A.isS];exact e
 |slice el=>
  have e:cU x=zsq n:=e;show cU xc=zsq n
  cases x with
  |nilsl=>rw[A.isN];exact e
  |fsl es f=>
   have e:zsq (lenL es)=zsq n:=e;rw[A3]at e;cases e;cases A with
   |fz z=>
    cases z with
    |emp B=>cases B<;>rfl
    |fsl h1 _ _=>show zsq (lenL _)=_;rw[A3,h1]
    |view _ _ _ D _ _=>show zsq _=zsq _;rw[D]
  |msl id off m sz=>
   cases e;cases A with
   |fz z=>cases z
   |mnil B _ _=>rcases B with rfl|rfl<;>rfl
   |msl=>rfl
  |_=>cases e
 |map a b=>
  show rY xc h=zsq n
  cases x with
  |nilmap=>cases A with|fz z=>cases z;exact e
  |map id=>
   have e:(match K.os[id]? with|some (.mapo es)=>zsq (oP es)|_=>znq)=zsq n:=e;cases C:K.os[id]? with
   |none=>grind
   |some q=>
    rw[C]at e;cases q with
    |mapo es=>
     obtain⟨c,ces,rfl,g⟩:=OI s C A;show h.onMapo c znq (fun es=>zsq (oP es))=zsq n
     rw[vU g.get,Qf,g.len,<-Qf];exact e
    |_=>cases e
  |_=>cases e
 |_=>cases e
theorem gE:∀(l A:List AV)(x xc v:AV),VL Z ow h os A l->VR Z ow h os xc x->Mw l x=zsq v->∃vc,Mw A xc=zsq vc/\VR Z ow h os vc v
 |[],A,x,xc,v,hl,hx,e=>by
  have:A=[]:=zqh hl.1
  subst this;cases e;exact⟨xc,rfl,hx⟩
 |y::l,[],x,xc,v,hl,hx,e=>by have:=hl.1;simp at this
 |y::l,yc::A,x,xc,v,hl,hx,e=>by
  have e:(x.onInt znq fun k a=>y.onInt znq fun _ b=>Mw l (.int k (bif intLe b a then a else b)))=zsq v:=e;obtain⟨k,a,rfl,e1⟩:=B4 e;obtain⟨_,b,rfl,e2⟩:=B4 e1;rw[hx.isI,hl.inv.1.isI];exact gE l A _ _ v hl.inv.2 (.i _ _) e2
theorem gF:∀(l A:List AV)(x xc v:AV),VL Z ow h os A l->VR Z ow h os xc x->Pe l x=zsq v->∃vc,Pe A xc=zsq vc/\VR Z ow h os vc v
 |[],A,x,xc,v,hl,hx,e=>by
  have:A=[]:=zqh hl.1
  subst this;cases e;exact⟨xc,rfl,hx⟩
 |y::l,[],x,xc,v,hl,hx,e=>by have:=hl.1;simp at this
 |y::l,yc::A,x,xc,v,hl,hx,e=>by
  have e:(x.onInt znq fun k a=>y.onInt znq fun _ b=>Pe l (.int k (bif intLe a b then a else b)))=zsq v:=e;obtain⟨k,a,rfl,e1⟩:=B4 e;obtain⟨_,b,rfl,e2⟩:=B4 e1;rw[hx.isI,hl.inv.1.isI];exact gF l A _ _ v hl.inv.2 (.i _ _) e2
def VQ(Z:Nat->Prop)(ow:Nat->Option (List Nat))(h:Heap)(os:List PO)(ps qs:List (Nat×AV)):Prop:=ps.length=qs.length/\∀(i:Nat) p q,ps[i]?=zsq p->qs[i]?=zsq q->p.1=q.1/\VR Z ow h os p.2 q.2
theorem Ml(hg:wU E){nt:Nat}{frc:Tr}{fr:PF}(a:FrR Z ow h os nt frc fr):∀l:List (Nat×Operand),VQ Z ow h os (opvps E l frc) (bL E l fr)
 |[]=>⟨rfl,fun i p q A=>by cases i<;>cases A⟩
 |o::l=>⟨congrArg Nat.succ (Ml hg a l).1,fun i p q A B=>by
  cases i with
  |zero=>cases A;cases B;exact⟨rfl,Ao hg a o.2⟩
  |succ i=>exact(Ml hg a l).2 i p q A B⟩
theorem VQ.inv{p q:Nat×AV}{ps qs:List (Nat×AV)}(v:VQ Z ow h os (p::ps) (q::qs)):(p.1=q.1/\VR Z ow h os p.2 q.2)/\VQ Z ow h os ps qs:=⟨v.2 0 p q rfl rfl,by have:=v.1;grind,fun i p q A B=>v.2 (i+1) p q A B⟩
theorem kG{xs ys us vs:List AV}{off:Nat}(a:VL Z ow h os xs ys)(b:VL Z ow h os us vs):VL Z ow h os (O7 xs off us) (O7 ys off vs):=by
 rw[U4,U4];grind[lsplice,VL]
theorem zM{v vc:AV}(D:VR Z ow h os vc v)(ho:D1 v.cells=zt):D1 vc.cells=zt/\vc.cells.length=v.cells.length/\VL Z ow h os vc.cells v.cells:=by
 rw[G0]at ho;have C:v≠.und:=fun e=>by subst e;exact absurd (ho .und (zqi ..)) (by decide)
 have hl:=D.cells C;refine⟨(G0 _).2 fun c hc=>?_,hl.1,hl⟩;obtain⟨i,hi⟩:=zqe hc;have B:i<v.cells.length:=by rw[<-hl.1];grind
 have A:=ho _ (zqn B);refine(hl.2 i c _ hi (zqa B)).okc ?_
 revert A
 cases v.cells[i]<;>intro A<;>first|rfl|cases A
theorem Nu(place:Nat->Option (Nat×Nat)):∀(ps qs:List (Nat×AV))(xs ys zs:List AV),VQ Z ow h os ps qs->VL Z ow h os xs ys->X0 place qs ys=zsq zs->∃ws,X0 place ps xs=zsq ws/\VL Z ow h os ws zs
 |[],[],xs,ys,zs,_,hl,e=>by cases e;exact⟨xs,rfl,hl⟩
 |[],q::qs,xs,ys,zs,hv,hl,e=>by have:=hv.1;simp at this
 |p::ps,[],xs,ys,zs,hv,hl,e=>by have:=hv.1;simp at this
 |p::ps,q::qs,xs,ys,zs,hv,hl,e=>by
  have e:A4 (place q.1) (fun w=>A9 (Nat.beq (lenL q.2.cells) w.2&&Nat.ble (Nat.add w.1 w.2) (lenL ys)&&D1 q.2.cells) (X0 place qs (O7 ys w.1 q.2.cells)))=zsq zs:=e;obtain⟨w,h1,e⟩:=A0 e;obtain⟨h2,e⟩:=A6 e;rw[zkc,zkc]at h2;obtain⟨⟨B,C⟩,D⟩:=h2;obtain⟨⟨G,H⟩,h8⟩:=hv.inv;obtain⟨I,J,N⟩:=zM H D;obtain⟨ws,O,A⟩:=Nu place ps qs _ _ zs h8 (kG (off:=w.1) hl N) e;refine⟨ws,?_,A⟩;show A4 (place p.1) (fun w=>A9 (Nat.beq (lenL p.2.cells) w.2&&Nat.ble (Nat.add w.1 w.2) (lenL xs)&&D1 p.2.cells) (X0 place ps (O7 xs w.1 p.2.cells)))=zsq ws
  rw[G,h1];show A9 (Nat.beq (lenL p.2.cells) w.2&&Nat.ble (Nat.add w.1 w.2) (lenL xs)&&D1 p.2.cells) _=_
  rw[A3,J,<-A3,B,A3,hl.1,<-A3,C,I];exact O
theorem kH(hT:GN E){t:Nat}{ti:TI}(B:E.ti t=zsq ti){ps qs:List (Nat×AV)}(C:VQ Z ow h os ps qs)(e:f8 E ti qs=zsq v):∃vc,f8 E ti ps=zsq vc/\VR Z ow h os vc v:=by
 have hz:VL Z ow h os ti.zero.cells ti.zero.cells:=⟨rfl,fun i x y G H=>.fz (((hT t ti B).1 Z h).cell G H).1⟩
 unfold f8 at e|-;cases D:ti.desc with
 |struct fields f=>
  rw[D]at e;simp only at e|-;cases A:X0 (fun i=>A4 (Yv fields i) fun f=>onTI E f.1 znq fun g=>zsq (f.2,g.size)) qs ti.zero.cells with
  |none=>grind
  |some zs=>
   rw[A]at e;cases e;obtain⟨ws,h1,h2⟩:=Nu _ ps qs _ _ zs C hz A;rw[h1];exact⟨_,rfl,.agL h2⟩
 |array len I=>
  rw[D]at e;simp only at e|-;unfold onTI at e|-;cases B:E.ti I with
  |none=>simp_all
  |some te=>
   rw[B]at e;simp only at e|-;cases A:X0 (fun i=>zsq (Nat.mul i te.size,te.size)) qs ti.zero.cells with
   |none=>grind
   |some zs=>
    rw[A]at e;cases e;obtain⟨ws,h1,h2⟩:=Nu _ ps qs _ _ zs C hz A;rw[h1];exact⟨_,rfl,.agL h2⟩
 |_=>grind
end
section
variable {E:Env}{R:AV->AV->Prop}{Z Z':Nat->Prop}{ow ow' ow1 ow2:Nat->Option (List Nat)}{h h':Heap}{K K':PK}{os os' os1 os2:List PO}{x y xc yc v k:AV}{L M:List Nat}
theorem withAll{v e:AV}(ha:isAg v=isAg e)(hl:v.cells.length=e.cells.length)(hok:∀c∈v.cells,isAg c=zf):e.withCells 0 v.cells=v:=by
 cases A:isAg v with
 |true=>
  rw[A]at ha;cases v with
  |agg vs=>
   cases e with
   |agg es=>
    show AV.agg (O7 es 0 vs)=.agg vs
    rw[U4];unfold lsplice;have hl:vs.length=es.length:=hl;grind
   |_=>cases ha
  |_=>cases A
 |false=>
  rw[A]at ha;rw[C3 A];cases e<;>first|rfl|cases ha
theorem F7.congr(s:F7 Z ow h os)(hn:h'.next=h.next)(hg:∀d,h'.get d=h.get d):F7 Z ow h' os:=by
 have hz:∀d,Z d->Z d/\h'.get d=h.get d:=fun d G=>⟨G,hg d⟩
 have C:PT (VR Z ow h os) Z ow h' os:=by
  refine⟨fun r es sz A=>?_,fun r k es sz A H=>?_,fun r es A=>?_,s.inj,fun a M ha=>?_,fun a ha=>by rw[hn];exact s.zb a ha,s.sb⟩
  . obtain⟨x,B⟩:=s.row r es sz A
    exact⟨x,B.reloc (Nat.le_of_eq hn.symm) hz (fun _ _=>.rfl) (fun d _ _=>hg d)⟩
  . obtain⟨c,ces,g⟩:=s.raw r k es sz A H
    exact⟨c,ces,g.o,by rw[hn];exact g.lt,(hg c).trans g.get,g.sh,g.vr,g.okp,g.no⟩
  . obtain⟨c,ces,g⟩:=s.map r es A
    exact⟨c,ces,g.o,by rw[hn];exact g.lt,(hg c).trans g.get,g.len,fun i x y B D=>⟨(g.kv i x y B D).1,(g.kv i x y B D).2.mono hz⟩,g.no⟩
  . obtain⟨h1,h2⟩:=s.live a M ha
    grind
 exact F7.to C hz (.refl _ _)
end
section
variable {E:Env}{R:AV->AV->Prop}{Z Z':Nat->Prop}{ow ow' ow1 ow2:Nat->Option (List Nat)}{h h':Heap}{K K':PK}{os os' os1 os2:List PO}{x y xc yc v k:AV}{L M:List Nat}
theorem gH(v:AV):Iq v=isAg v:=by cases v<;>rfl
theorem kI{t:TI}{c i off sz:Nat}{es:List AV}(hg:h.get c=zsq (.row es sz))(e:Dn t (.ptr c i off) v h=zsq h'):∃old,es[i]?=zsq old/\v.cells.length=t.size/\D1 v.cells=zt/\h'=h.set c (.row (es.set i (old.withCells off v.cells)) sz):=by
 have e:h.onRow c znq (Rf t c i off v.cells h)=zsq h':=e;rw[Hk hg]at e;obtain⟨old,h1,e⟩:=A0 e;obtain⟨h2,e⟩:=A6 e;rw[R2]at h1;rw[zkc,zkc,zkc]at h2;simp only[Bd]at e;cases e;refine⟨old,h1,?_,h2.2,rfl⟩;grind[zkj,A3]
theorem qR{t:TI}{p x:AV}(A:storeP t p x K=zsq K'):x≠.und:=fun e=>by
 subst e;unfold storeP at A;cases p with
 |ptr n i off=>
  simp only at A;cases G:rowOf K.os 6 n with
  |none=>grind
  |some t'=>
   obtain⟨k,es,sz⟩:=t';rw[G]at A;simp only at A;cases hi:es[i]? with
   |none=>grind
   |some u=>
    rw[hi]at A;simp only at A;split at A
    . cases B:rawAt K.os n with
      |true=>
       rw[B]at A;simp only at A;split at A
       . rename_i C;exact absurd C (by decide)
       . cases A
      |false=>
       rw[B]at A;simp only at A;have e1:(AV.und.cells.all clo&&((u.cells.drop off).take t.size).all clo)=zf:=rfl;rw[e1]at A;simp only[Bool.false_eq_true,if_false]at A;cases H:setRow (killS K.os n) 6 n (es.set i (u.withCells off (zqd t.size .und)))with
       |none=>grind
       |some D=>
        rw[H]at A;simp only at A;have e2:sealC K.ext (rootOf K.os 6 n) n i off D AV.und.cells=znq:=rfl;grind
    . cases A
 |_=>cases A
theorem Yb{te:TI}{n c:Nat}:∀(qs ps:List (Nat×AV))(K K':PK)(ow:Nat->Option (List Nat))(h:Heap)(ces:List AV),F7 Z ow h K.os->VQ Z ow h K.os ps qs->(∀i,VR Z ow h K.os (.ptr c i 0) (.ptr n i 0))->h.get c=zsq (.row ces te.size)->(∀e∈ces,isAg e=isAg te.zero/\e.cells.length=te.size)->placeP te n qs K=zsq K' ->
 ∃A h' ow',placeL te.size ps ces=zsq A/\F7 Z ow' h' K'.os/\Keep' ow K.os ow' K'.os/\Stp K.ext Z ow h K Z ow' h' K'/\h'.get c=zsq (.row A te.size)/\(∀d,d≠c->h'.get d=h.get d)/\h'.next=h.next
 |[],ps,K,K',ow,h,ces,s,hv,B,hg,hsh,e=>by
  have:ps=[]:=zqh hv.1
  subst this;cases e;exact⟨ces,h,ow,rfl,s,.refl _ _,.refl _ _ _ _ _,hg,fun _ _=>rfl,rfl⟩
 |q::qs,[],K,K',ow,h,ces,s,hv,B,hg,hsh,e=>by have:=hv.1;simp at this
 |q :: qs,p::ps,K,K',ow,h,ces,s,hv,B,hg,hsh,e=>by
  obtain⟨⟨hi,H⟩,C⟩:=hv.inv;obtain⟨i,Y⟩:=q;obtain⟨i',pv⟩:=p;have hi:i'=i:=hi;subst hi;unfold placeP at e;split at e
  . rename_i D
    rw[gH,gH]at D;cases I:storeP te (.ptr n i' 0) Y K with
    |none=>rw[I]at e;cases e
    |some K1=>
     rw[I]at e;simp only at e;obtain⟨h1,ow1,g1,g2,U,V⟩:=Xy s (B i') H I;obtain⟨old,o1,o2,o3,rfl⟩:=kI hg g1;have J:Y≠.und:=qR I;have N:=H.shape J;have hol:=hsh old (zqb o1);have hokc:=(G0 _).1 o3;have O:old.withCells 0 pv.cells=pv:=(by grind[Go.AM.withAll,Go.AM.okCell_nag])
     rw[O]at g1 g2 V;have Q:i'<ces.length:=(zqc.1 o1).1;have G:∀d,Z d->Z d/\(h.set c (.row (ces.set i' pv) te.size)).get d=h.get d:=fun d hd=>(V 0).zz d hd
     obtain ⟨A,h2,ow2,a1,a2,a3,a4,a5,a6,a7⟩:=Yb qs ps K1 K' ow1 (h.set c (.row (ces.set i' pv) te.size)) (ces.set i' pv) g2 ⟨C.1,fun j p q B X=>⟨(C.2 j p q B X).1,(C.2 j p q B X).2.keep G U⟩⟩ (fun j=>(B j).keep G U) (Heap.get_set_eq _ _ hg) (fun e he=>by
      rcases List.mem_or_eq_of_mem_set he with h|h
      . exact hsh e h
      . subst h;exact⟨by rw[N.2,D],o2⟩) e
     refine⟨A,h2,ow2,?_,a2,U.trans a3,(V K.ext).trans s (by grind),a5,(by grind[Go.AM.Heap.get_set_ne]),a7⟩;show A9 (Nat.blt i' (lenL ces)&&Nat.beq (lenL pv.cells) te.size&&D1 pv.cells) (placeL te.size ps (setL ces i' pv))=zsq A
     rw[A3,A3,o2,zkh,o3,Bd]
     have:Nat.blt i' ces.length=zt:=zkg Q
     rw[this];exact a1
  . cases e
theorem zN{t n:Nat}{ps:Array (Nat×Operand)}{ti te:TI}{fr:Tr}{es:List AV}(B:E.ti t=zsq ti)(A:elemOfT E ti.desc=zsq te)(h1:n*te.size<=65536)(h2:0<te.size)(hp:placeL te.size (opvps E ps.toList fr) (zqd n te.zero)=zsq es):L6 E t n ps fr h=.ok (.msl h.next 0 n te.size) (h.push (.row es te.size)):=by
 unfold L6 onTI;rw[B];simp only;rw[A];show(bif Nat.ble (Nat.mul n te.size) 65536&&Nat.blt 0 te.size then(match placeL te.size (opvps E ps.toList fr) (repL n te.zero)with|none=>Res.bad|some es=>.ok (.msl h.next 0 n te.size) (h.push (.row es te.size)))else .bad)=_
 have e1:Nat.ble (Nat.mul n te.size) 65536=zt:=zkg h1;grind[Nat.blt,zkg,m8]
theorem Ur{sz:Nat}:∀(qs ps:List (Nat×AV))(ys xs zs:List AV),VQ Z ow h os ps qs->xs.length=ys.length->(∀(i:Nat) x y,xs[i]?=zsq x->ys[i]?=zsq y->VR Z ow h os x y/\y.cells.length=sz/\∀b∈y.cells,Ev b=zt)->placeR sz qs ys=zsq zs->∃ws,placeL sz ps xs=zsq ws/\ws.length=zs.length/\zs.length=ys.length/\∀(i:Nat) x y,ws[i]?=zsq x->zs[i]?=zsq y->VR Z ow h os x y/\y.cells.length=sz/\∀b∈y.cells,Ev b=zt
 |[],ps,ys,xs,zs,hv,hl,hr,e=>by
  have:ps=[]:=zqh hv.1
  subst this;cases e;exact⟨xs,rfl,hl,rfl,hr⟩
 |q::qs,[],ys,xs,zs,hv,hl,hr,e=>by have:=hv.1;simp at this
 |q :: qs,p::ps,ys,xs,zs,hv,hl,hr,e=>by
  obtain⟨⟨hi,G⟩,H⟩:=hv.inv;obtain⟨i,I⟩:=q;obtain⟨i',pv⟩:=p;have hi:i'=i:=hi;subst hi;unfold placeR at e;split at e
  . rename_i hc
    obtain⟨h1,h2,J⟩:=hc;rw[zqf]at J;have C:I≠.und:=fun e=>by subst e;exact absurd (J .und (zqi ..)) (by decide)
    have A:=G.cells C;have D:D1 pv.cells=zt:=(G0 _).2 fun c hc=>by
     obtain⟨j,N⟩:=zqe hc;have B:j<I.cells.length:=by rw[<-A.1];grind
     exact(A.2 j c _ N (zqa B)).okc (J _ (zqn B))
    obtain⟨ws,O,a2,a3,Q⟩:=Ur qs ps (ys.set i' I) (xs.set i' pv) zs H (by simp[hl]) (by grind) e;refine⟨ws,?_,a2,by grind,Q⟩;show A9 (Nat.blt i' (lenL xs)&&Nat.beq (lenL pv.cells) sz&&D1 pv.cells) (placeL sz ps (setL xs i' pv))=zsq ws
    rw[A3,A3,A.1,h2,zkh,D,Bd]
    have:Nat.blt i' xs.length=zt:=zkg (by omega)
    rw[this];exact O
  . cases e
theorem kJ(hT:GN E)(s:F7 Z ow h K.os)(C:K.ext<=K.os.length){n e:Nat}{te:TI}(Q:E.ti e=zsq te){ps qs:List (Nat×AV)}(O:VQ Z ow h K.os ps qs)(e:Da te n qs K=zsq (v,K')):
 n*te.size<=65536/\0<te.size/\∃es ow',placeL te.size ps (zqd n te.zero)=zsq es/\F7 Z ow' (h.push (.row es te.size)) K'.os/\Keep' ow K.os ow' K'.os/\VR Z ow' (h.push (.row es te.size)) K'.os (.msl h.next 0 n te.size) v/\∀b,Stp b Z ow h K Z ow' (h.push (.row es te.size)) K':=by
 have hz:=hT _ _ Q;have B:∀ob d,d<h.next->(h.push ob).get d=h.get d:=fun ob d A=>Heap.get_push_ne h _ (by omega)
 unfold Da at e;split at e
 . rename_i hc
   refine⟨hc.1,hc.2,?_⟩;have hrep:∀{i:Nat}{x:AV},(zqd n te.zero)[i]?=zsq x->x=te.zero:=fun{i x} h=>(zqo.1 (zqb h)).2
   cases H:placeP te K.os.length qs (newRow 0 (zqd n te.zero) te.size K)with
   |some K1=>
    rw[H]at e;cases e;obtain⟨z1,z2,z3,z4⟩:=fX (n:=n) s C hz.1 hz.2;have V:∀d,Z d->Z d/\(h.push (.row (zqd n te.zero) te.size)).get d=h.get d:=fun d A=>⟨A,B _ d (s.zb d A)⟩
    have X:∀i,VR Z (j8 ow h.next [K.os.length]) (h.push (.row (zqd n te.zero) te.size)) (newRow 0 (zqd n te.zero) te.size K).os (.ptr h.next i 0) (.ptr K.os.length i 0):=fun i=>.ptr (fun L hL=>by
     have hL:loP (K.os++[PO.row 0 (zqd n te.zero) te.size]) 6 K.os.length=zsq L:=hL;rw[Nt _ (.inl ⟨_,_,_,rfl⟩)]at hL;cases hL;exact U7 _ _ _) (by show _<(K.os++[PO.row 0 (zqd n te.zero) te.size]).length;simp)
    obtain⟨es,h2,ow2,a1,a2,a3,N,a5,a6,a7⟩:=Yb qs ps _ _ _ _ (zqd n te.zero) z1 ⟨O.1,fun i p q H hq=>⟨(O.2 i p q H hq).1,(O.2 i p q H hq).2.keep V z2⟩⟩ X (Heap.get_push_eq h _) (fun e U=>by rw[(zqo.1 U).2];exact⟨rfl,hz.2⟩) H;have I:∀d,(h.push (.row es te.size)).get d=h2.get d:=(by grind[Go.AM.Heap.get_push_eq,Go.AM.Heap.get_push_ne])
    have Y:(h.push (.row es te.size)).next=h2.next:=a7.symm;have st:=(z4 K.ext).trans s N;have aa:=z2.trans a3;refine⟨es,ow2,a1,a2.congr Y I,aa,(z3.keep (Z':=Z) (h':=h2) (fun d A=>N.zz d A) a3).keep (fun d A=>⟨A,I d⟩) (.refl _ _),fun b=>⟨Nat.le_succ _,fun d A=>⟨A,B _ d (s.zb d A)⟩,fun _ A=>.inl A,fun d A _=>B _ d A,st.uo,⟨[],rfl,fun d A=>by cases A⟩,st.mv,st.tm,st.ex,st.xk,st.rd⟩⟩
   |none=>
    rw[H]at e;simp only at e;cases hr:placeR te.size qs (zqd n te.zero)with
    |none=>grind
    |some zs=>
     rw [hr]at e;cases e;have ab:∀b∈te.zero.cells,Ev b=zt:=fun b hb=>by
      obtain⟨i,hi⟩:=zqe hb;exact clo_okP ((hz.1 Z h).cell hi hi).2
     obtain⟨ws,a1,a2,a3,N⟩:=Ur qs ps (zqd n te.zero) (zqd n te.zero) zs O rfl (fun i x y C D=>by rw[hrep C,hrep D];exact⟨.fz (hz.1 Z h),hz.2,ab⟩) hr;have J:∀y:AV,(∀b∈y.cells,Ev b=zt)->y≠.und:=fun y D e=>by subst e;exact absurd (D .und (zqi ..)) (by decide)
     have U:(∃k es z',PO.row 2 zs te.size=.row k es z')\/∃es,PO.row 2 zs te.size=.mapo es:=.inl ⟨_,_,_,rfl⟩;have G:=PT.lay (ob:=.row ws te.size) s (e:=.row 2 zs te.size) (Dc _ U) (fun es z e=>by cases e) (fun k es z e hk=>by
      cases e;refine⟨h.next,ws,U7 _ _ _,Nat.lt_succ_self _,Qp h _,⟨a2,fun i x y C D=>?_⟩,fun i x y C D o a b ha hb=>?_,fun i y D b hb=>?_,Mk s⟩
      . obtain⟨b1,b2,b3⟩:=N i x y C D
        have:=b1.shape (J y b3)
        grind
      . obtain⟨b1,b2,b3⟩:=N i x y C D
        exact(b1.cells (J y b3)).2 o a b ha hb
      grind) (fun es e=>by cases e)
     refine⟨ws,_,a1,F7.to G.1 (fun d A=>⟨A,B _ d (s.zb d A)⟩) G.2,G.2,.msl (fun L hL=>?_) (by show _<(K.os++[PO.row 2 zs te.size]).length;simp),fun b=>Stp.lay s C⟩;have hL:loP (K.os++[PO.row 2 zs te.size]) 6 K.os.length=zsq L:=hL;grind[Nt,U7]
 . cases e
end
section
variable {E:Env}{R:AV->AV->Prop}{Z Z':Nat->Prop}{ow ow' ow1 ow2:Nat->Option (List Nat)}{h h':Heap}{K K':PK}{os os' os1 os2:List PO}{x y xc yc v k:AV}{L M:List Nat}
def ClR(Z:Nat->Prop)(h:Heap)(sz:Nat)(a b:AV):Prop:=(a.cells.length=sz/\b.cells.length=sz/\isAg a=isAg b)/\∀(o:Nat) u w,a.cells[o]?=zsq u->b.cells[o]?=zsq w->Fz Z h u w/\clo w=zt
theorem Dd{es:List AV}(hf:Cz es=zt){i:Nat}{b:AV}(hb:es[i]?=zsq b){o:Nat}{w:AV}(A:b.cells[o]?=zsq w):clo w=zt:=
 zqf.1 (zqf.1 hf b (zqb hb)) w (zqb A)
theorem vW{u w:AV}(c:CR Z ow h L u w)(A:clo w=zt):Fz Z h u w/\rE ow L:=by
 cases c with
 |val f _ n=>grind
 |_=>cases A
theorem kK{te:TI}{xs:List AV}{ext:Nat}(p:F7 Z ow h os)(C:VR Z ow h os xc x)(H:takeE te x ext [] os=zsq (xs,os2))(hf:Cz xs=zt):
 ∃xcs,elems xc h=zsq xcs/\F2 te.size xcs=zt/\xcs.length=xs.length/\∀(i:Nat) a b,xcs[i]?=zsq a->xs[i]?=zsq b->ClR Z h te.size a b:=by
 obtain⟨ow2,xcs,h1,h2,t⟩:=fZ p C H;refine⟨xcs,h1,h2,t.ln,fun i a b ha hb=>?_⟩;rcases t.alt with⟨_,hz⟩|⟨q,c0,_,_,I,hc,_⟩
 . obtain⟨f,hl⟩:=hz i a b ha hb
   have B:b≠.und:=fun e=>by subst e;have:=Dd hf hb (o:=0) (w:=.und) rfl;cases this
   have C:VR Z ow h os a b:=.fz f;refine⟨⟨(C.shape B).1.trans hl,hl,(C.shape B).2⟩,fun o u w G D=>?_⟩;have A:=Dd hf hb D;exact⟨((C.cells B).2 o u w G D).fzc A,A⟩
 . refine⟨I.2 i a b ha hb,fun o u w G D=>?_⟩
   have A:=Dd hf hb D;exact⟨(vW (hc i a b ha hb o u w G D) A).1,A⟩
theorem Stp.more{b r:Nat}(s:Stp b Z ow h K Z' ow' h' K'):Stp b Z ow h K Z' ow' h' {K' with tch:=r::K'.tch}:=by
 obtain⟨l,e,f⟩:=s.th;refine⟨s.nx,s.zz,s.zn,s.un,s.uo,⟨l,e,fun id hi=>?_⟩,fun id r t ho A=>?_,fun r A hl=>zqp _ (s.tm r A hl),s.ex,s.xk,s.rd⟩
 . grind
 . rcases s.mv id r t ho A with h|h
   . exact .inl h
   grind
theorem zO{te:TI}{dc:AV}{id off n:Nat}{q:List AV×List PO}(s:F7 Z ow h K.os)(H:VR Z ow h K.os dc (.msl id off n te.size))(hx:VR Z ow h K.os xc x)(hq:takeE te x K.ext [] K.os=zsq q)(e:nA te.size id off n q.1 K=zsq (v,K')):
 ∃xcs,elems xc h=zsq xcs/\F2 te.size xcs=zt/\∃h',cV te dc xcs h=zsq (v,h')/\F7 Z ow h' K'.os/\Keep' ow K.os ow K'.os/\(∀b,Stp b Z ow h K Z ow h' K')/\VR Z ow h' K'.os v v:=by
 obtain⟨xs,os2⟩:=q;unfold nA at e;split at e
 . rename_i es z D
   split at e
   . rename_i hc
     obtain ⟨rfl,hle,aa,aj⟩:=hc;obtain⟨xcs,g1,g2,g3,g4⟩:=kK s hx hq aj;refine⟨xcs,g1,g2,?_⟩;have O:loP K.os 6 id=zsq [id]:=by
      show(match K.os[id]? with|some (.row _ _ _)=>zsq [id]|some (.mapo _)=>zsq [id]|some (.sub p i o)=>(loP K.os 5 p).map (· ++ [i,o])|_=>znq)=_
      rw[D]
     have hr:rowOf K.os 6 id=zsq (0,es,te.size):=by
      show(match K.os[id]? with|some (.row k es sz)=>zsq (k,es,sz)|some (.sub p i o)=>_|_=>znq)=_
      rw[D]
     have Q:rawAt K.os id=zf:=by unfold rawAt;rw[D];rfl
     obtain⟨x0,ab⟩:=s.row id es te.size D;generalize hy:AV.msl id off n te.size=y at H;cases H with
     |fz f=>cases f<;>cases hy
     |mnil e1 h1 _=>
      cases hy;rcases ab.inv with⟨_,rfl,_,_⟩|⟨c0,_,_,h4,_⟩
      . simp only[List.take_nil,Nat.zero_min,List.take_zero,List.drop_nil,zql]at e
        cases e;have ad:K.os.set id (.row 0 [] te.size)=K.os:=by
         apply List.ext_getElem?;intro j;rw[List.getElem?_set];split
         . rename_i hj;subst hj;exact D.symm
         . rfl
        refine⟨h,?_,?_,?_,fun b=>?_,.i _ _⟩
        . rcases e1 with rfl|rfl<;>rfl
        . show F7 Z ow h (K.os.set id (.row 0 [] te.size));rw[ad];exact s
        . grind[Keep']
        . have:=(Stp.refl b Z ow h K).more (r:=id)
          grind
      grind
     |@msl id' c off' n' sz' h2 h3=>
      cases hy;have B:=h2 _ O;rcases ab.inv with⟨_,_,_,h4⟩|⟨c0,ces,_,h4,h5,h6,h7,h8,h9⟩
      . exact absurd (by grind) (h4 c [])
      . have:c=c0:=s.inj _ _ _ B h4
        subst this;cases e;generalize hk:min n xs.length=A;have hlc:=h7.1;have hkn:A<=n:=by omega
        have hkx:A<=xs.length:=by omega
        have hsp:∀{l a:List AV},off+n<=l.length->A<=a.length->∀i,(l.take off++(a.take A++l.drop (off+A)))[i]?=if off<=i/\i<off+A then a[i-off]? else l[i]?:=fun{l a} hl ha i=>by
         have ae:(a.take A).length=A:=by grind
         have:=j7 (l:=l) (us:=a.take A) (p:=off) (j:=i) (by omega)
         unfold lsplice at this;rw[ae]at this;rw[this];split
         . rw[zqu,if_pos (by omega)]
         . rfl
        have hold:∀(i:Nat) a b,ces[i]?=zsq a->es[i]?=zsq b->ClR Z h te.size a b:=fun i a b ha hb=>⟨h7.2 i a b ha hb,fun o u w N I=>by
         have U:=Dd aa hb I;exact⟨(vW (h9 i a b ha hb o u w N I) U).1,U⟩⟩
        have af:isRt K.os id=zt:=by
         obtain⟨_,_,r,t,e,h⟩:=s.live _ _ B;cases e;exact h
        have ag:∀i o,i<es.length->o<te.size->rE ow ([id]++[i,o]):=fun i o hi ho=>by
         have ha:=zqa (show i<ces.length by omega);have hb:=zqa hi;have hsh:=h7.2 i _ _ ha hb;have N:=zqa (show o<(ces[i]).cells.length by omega);have I:=zqa (show o<(es[i]).cells.length by omega);exact(vW (h9 i _ _ ha hb o _ _ N I) (Dd aa hb I)).2
        generalize hce:ces.take off++(xcs.take A++ces.drop (off+A))=C;generalize hee:es.take off++(xs.take A++es.drop (off+A))=es';have hcel:C.length=ces.length:=by grind
        have V:es'.length=es.length:=by grind
        have G:∀(i:Nat) a b,C[i]?=zsq a->es'[i]?=zsq b->ClR Z h te.size a b:=(by grind)
        have ah:cV te (.msl c off n te.size) xcs h=zsq (.int .i64 (Int.ofNat A),h.set c (.row C te.size)):=by
         show h.onRow c znq (Kj te c off n xcs h)=_
         rw [Hk h6];unfold Kj;rw[B7];have ai:(bif Nat.ble n (lenL xcs)then n else lenL xcs)=A:=by
          grind[A3,Nat.le_of_ble_eq_true,zkg]
         rw[ai,A3,zkg (show Nat.add off n<=ces.length by show off+n<=_;omega),zkh];show zsq (AV.int .i64 (Int.ofNat A),h.set c (.row (appL (takeL ces off) (appL (takeL xcs A) (dropL ces (Nat.add off A)))) te.size))=_
         grind[L7,G4,G3]
        have J:∀ob d,Z d->Z d/\(h.set c ob).get d=h.get d:=fun ob d H=>⟨H,Heap.get_set_ne _ _ fun e=>by subst e;exact(s.live _ _ B).2.1 H⟩
        have d:Dl Z ow h Z ow (h.set c (.row C te.size)) [id]:=⟨zke _,J _,fun _ _ _=>.rfl,fun d M H hM=>Heap.get_set_ne _ _ fun e=>by subst e;rw[B]at H;cases H;exact hM (.refl _)⟩
        have X:setRow K.os 6 id es'=zsq (K.os.set id (.row 0 es' te.size)):=by
         show(match K.os[id]? with|some (.row k _ sz)=>zsq (K.os.set id (.row k es' sz))|some (.sub p i o)=>_|_=>znq)=_
         rw[D]
        have Y:Keep' ow K.os ow (K.os.set id (.row 0 es' te.size)):=⟨by simp,fun j _ L' hl=>⟨L',by grind[Bl],fun _=>.rfl⟩⟩
        refine⟨_,ah,F7.to (s.set d s.inj s.live s.zb (fun _ _ _ _ _ _ hi=>hi) 6 id 0 es te.size es' _ [id] [] (by simp) hr O Q X fun x1 ac=>?_) (J _) Y,Y,fun b=>Stp.store s (r:=id) (t:=[]) (c:=c) B af (by grind) (fun d q t ho _=>.inl ⟨t,ho⟩) (fun j _ c _=>.rfl) (by grind[Go.AM.isRt_set]),.i _ _⟩;rcases ac.inv with⟨_,_,_,n4⟩|⟨c1,ces1,rfl,n4,_⟩
        . exact absurd (by grind) (n4 c [])
        . have:c=c1:=s.inj _ _ _ B n4
          subst this;rw[<-V];refine .own B h5 (Heap.get_set_eq _ _ h6) (by omega) (by grind) (fun i a b ha hb=>(G i a b ha hb).1) fun i a b ha hb o u w N I=>?_
          obtain⟨q1,q2⟩:=(G i a b ha hb).2 o u w N I;refine .val (q1.mono (J _)) q2 (ag i o ?_ ?_)
          . grind
          . rw[<-(G i a b ha hb).1.2.1];grind
     |_=>cases hy
   . cases e
 . cases e
end
section
variable {E:Env}{R:AV->AV->Prop}{Z Z':Nat->Prop}{ow ow' ow1 ow2:Nat->Option (List Nat)}{h h':Heap}{K K':PK}{os os' os1 os2:List PO}{x y xc yc v k:AV}{L M:List Nat}
theorem Qr{o:Option (AV×PK)}(e:Ms o=.val v K'):o=zsq (v,K'):=by
 cases o with
 |none=>cases e
 |some p=>cases e;rfl
theorem X9{o:Option AV}(e:Db o K=.val v K'):o=zsq v/\K'=K:=by
 cases o with
 |none=>cases e
 |some p=>cases e;grind
theorem M1{t:Nat}{f:TI->OpS}(e:j4 E t f=.val v K'):∃ti,E.ti t=zsq ti/\f ti=.val v K':=by
 unfold j4 at e;grind
structure Did'(Z:Nat->Prop)(ow:Nat->Option (List Nat))(h:Heap)(K:PK)(r:Res)(v:AV)(K':PK)(ow':Nat->Option (List Nat))(vc:AV)(h':Heap):Prop where
 r:r=.ok vc h'
 st:F7 Z ow' h' K'.os
 kp:Keep' ow K.os ow' K'.os
 vr:VR Z ow' h' K'.os vc v
 sp:∀b,Stp b Z ow h K Z ow' h' K'
theorem Did'.same(s:F7 Z ow h K.os){r:Res}{vc:AV}(A:r=.ok vc h)(B:VR Z ow h K.os vc v):Did' Z ow h K r v K ow vc h:=⟨A,s,.refl _ _,B,fun b=>.refl _ _ _ _ _⟩
theorem O1{α:Type}{t:Nat}{ti:TI}(A:E.ti t=zsq ti)(d:α)(f:TI->α):onTI E t d f=f ti:=by unfold onTI;rw[A]
theorem kL(hT:GN E)(s:F7 Z ow h K.os)(hx:K.ext<=K.os.length){b:Builtin}{ts:List TypeId}{args A:List AV}(hl:VL Z ow h K.os A args)(e:E9 E b ts args K=zsq (v,K')):∃ow' vc h',Did' Z ow h K (lift2 (E4 E b ts A h)) v K' ow' vc h':=by
 have I:∀{vc:AV},E4 E b ts A h=zsq (vc,h)->VR Z ow h K.os vc v->K'=K->∃ow' vc h',Did' Z ow h K (lift2 (E4 E b ts A h)) v K' ow' vc h':=fun{vc} e1 e2 e3=>by
  subst e3;rw[e1];exact⟨ow,vc,h,.same s rfl e2⟩
 unfold E9 at e;split at e
 . -- len
   rename_i t _ x _;cases G:E.ti t with
   |none=>rw[G]at e;cases e
   |some ti=>
    rw[G]at e;simp only at e;cases hn:GI ti.desc x K with
    |none=>rw[hn]at e;cases e
    |some n=>
     rw [hn]at e;cases e;obtain⟨xc,C,rfl⟩:∃xc C,A=xc::C:=by
      cases A with
      |nil=>have:=hl.1;simp at this
      |cons a l=>exact⟨a,l,rfl⟩
     refine I (vc:=.int .i64 (Int.ofNat n)) ?_ (.i _ _) rfl;show onTI E t znq (fun ti=>A4 (iH ti.desc xc h) fun n=>M2 n fun n=>zsq (AV.int .i64 (Int.ofNat n),h))=_
     rw[O1 G,vV s hl.inv.1 hn];exact B7 n (fun n=>zsq (AV.int .i64 (Int.ofNat n),h))
 . -- append
   rename_i t tx tr sl x _;cases G:E.ti t with
   |none=>rw[G]at e;cases e
   |some ti=>
    cases Q:E.ti tx with
    |none=>rw[G,Q]at e;cases e
    |some H=>
     rw[G,Q]at e;simp only at e;cases B:elemOfT E ti.desc with
     |none=>rw[B]at e;cases e
     |some te=>
      rw[B]at e;simp only at e;split at e
      . rename_i hsz
        obtain ⟨sc,xc,C,rfl⟩:∃sc xc C,A=sc::xc::C:=by
         cases A with
         |nil=>have:=hl.1;simp at this
         | cons a l=>cases l with
          |nil=>have:=hl.1;simp at this
          |cons b l=>exact⟨a,b,l,rfl⟩
        have aa:=hl.inv.1;have ab:=hl.inv.2.inv.1;have hb:E4 E .append (t::tx::tr) (sc::xc::C) h=(match H.desc with
         |.int _=>A4 (asNat xc) fun n=>A9 (Nat.ble (Nat.mul n te.bytes) 140737488355328) (G9 te sc (repL n te.zero) h)
         |_=>A4 (elems xc h) fun xs=>A9 (F2 te.size xs) (G9 te sc xs h)):=by
         show onTI E t znq (fun ti=>A4 (elemOfT E ti.desc) fun te=>A9 (Nat.blt 0 te.size) (onTI E tx znq fun H=>match H.desc with
          |.int _=>A4 (asNat xc) fun n=>A9 (Nat.ble (Nat.mul n te.bytes) 140737488355328) (G9 te sc (repL n te.zero) h)
          |_=>A4 (elems xc h) fun xs=>A9 (F2 te.size xs) (G9 te sc xs h)))=_
         rw[O1 G,B];show A9 (Nat.blt 0 te.size) _=_
         have:Nat.blt 0 te.size=zt:=zkg hsz
         rw[this];show onTI E tx znq _=_
         rw[O1 Q]
        have hz:(∀Z h,Fz Z h te.zero te.zero)/\te.zero.cells.length=te.size:=by
         unfold elemOfT at B;cases V:ti.desc with
         |slice el=>rw[V]at B;exact hT _ _ B
         |_=>rw[V]at B;cases B
        have app:∀{x:AV}{xcs xs:List AV},True:=fun{_ _ _}=>trivial
        have N:(∀k,H.desc≠.int k)->Bk te sl x K=zsq (v,K')->∃ow' vc h',Did' Z ow h K (lift2 (E4 E .append (t::tx::tr) (sc::xc::C) h)) v K' ow' vc h':=fun O e=>by
         unfold Bk at e;cases D:takeB te sl K.os with
         |none=>rw[D]at e;cases e
         |some q=>
          obtain⟨base,os1,tc⟩:=q;rw[D]at e;simp only at e;cases J:takeE te x K.ext tc os1 with
          |none=>rw[J]at e;cases e
          |some q=>
           obtain⟨xs,os2⟩:=q;rw[J]at e;simp only at e;split at e
           . rename_i hw
             obtain⟨ow1,X⟩:=Up s aa D;obtain⟨ow2,xcs,g1,g2,tk⟩:=fZ X.pt (ab.keep (fun _ hz=>⟨hz,rfl⟩) X.keep) J;obtain⟨vc,h',owf,a1,a2,a3,a4,a5⟩:=nH s hx X tk hw e;refine⟨owf,vc,h',?_,a2,a3,a4,a5⟩
             have:E4 E .append (t::tx::tr) (sc::xc::C) h=zsq (vc,h'):=by
              rw [hb];have e2:(A4 (elems xc h) fun xs=>A9 (F2 te.size xs) (G9 te sc xs h))=zsq (vc,h'):=by
               rw[g1];show A9 (F2 te.size xcs) (G9 te sc xcs h)=_
               rw[g2];exact a1
              cases V:H.desc with
              |int k=>exact absurd V (O k)
              |_=>exact e2
             rw[this];rfl
           . cases e
        split at e
        . rename_i kk V
          cases hn:asNat x with
          |none=>rw[hn]at e;cases e
          |some n=>
           rw[hn]at e;simp only at e;split at e
           . rename_i Y
             unfold mZ at e;cases D:takeB te sl K.os with
             |none=>rw[D]at e;cases e
             |some q=>
              obtain⟨base,os1,tc⟩:=q;rw[D]at e;simp only at e;split at e
              . rename_i hw
                obtain⟨ow1,X⟩:=Up s aa D;have hrep:∀{i:Nat}{x:AV},(zqd n te.zero)[i]?=zsq x->x=te.zero:=fun{i x} h=>(zqo.1 (zqb h)).2
                have tk:TkE (VR Z ow h K.os) Z ow1 h os1 K.ext tc te (zqd n te.zero) (zqd n te.zero) os1 ow1:=.closed X.pt rfl fun i a b ha hb=>by rw[hrep ha,hrep hb];exact⟨hz.1 Z h,hz.2⟩
                have ac:(!(zqd n te.zero).isEmpty||wholeP sl K.os)=zt:=by
                 cases n with
                 |zero=>simpa using hw
                 |succ n=>rfl
                obtain⟨vc,h',owf,a1,a2,a3,a4,a5⟩:=nH s hx X tk ac e;refine⟨owf,vc,h',?_,a2,a3,a4,a5⟩
                have:E4 E .append (t::tx::tr) (sc::xc::C) h=zsq (vc,h'):=by
                 rw[hb,V];show A4 (asNat xc) (fun n=>A9 (Nat.ble (Nat.mul n te.bytes) 140737488355328) (G9 te sc (repL n te.zero) h))=_
                 rw[y7 ab hn];show A9 (Nat.ble (Nat.mul n te.bytes) 140737488355328) (G9 te sc (repL n te.zero) h)=_
                 have:Nat.ble (Nat.mul n te.bytes) 140737488355328=zt:=zkg Y
                 rw[this,m8];exact a1
                rw[this];rfl
              . cases e
           . cases e
        . rename_i O
          exact N (fun k hk=>O k hk) e
      . cases e
 . -- copy
   rename_i t tr id off n z x xr;cases G:E.ti t with
   |none=>rw[G]at e;cases e
   |some ti=>
    rw[G]at e;dsimp only at e;cases B:elemOfT E ti.desc with
    |none=>rw[B]at e;cases e
    |some te=>
     rw[B]at e;dsimp only at e;split at e
     . rename_i hz
       subst hz;split at e
       . rename_i q hq
         obtain ⟨dc,xc,C,rfl⟩:∃sc xc C,A=sc::xc::C:=by
          cases A with
          |nil=>have:=hl.1;simp at this
          | cons a l=>cases l with
           |nil=>have:=hl.1;simp at this
           |cons b l=>exact⟨a,b,l,rfl⟩
         obtain⟨xcs,g1,g2,h',a1,a2,a3,a4,a5⟩:=zO s hl.inv.1 hl.inv.2.inv.1 hq e;refine⟨ow,v,h',?_,a2,a3,a5,a4⟩
         have:E4 E .copy (t::tr) (dc::xc::C) h=zsq (v,h'):=by
          show onTI E t znq (fun ti=>A4 (elemOfT E ti.desc) fun te=>A4 (elems xc h) fun xs=>A9 (F2 te.size xs) (cV te dc xs h))=_
          rw[O1 G,B];show A4 (elems xc h) _=_
          rw[g1];show A9 (F2 te.size xcs) _=_
          rw[g2];exact a1
         rw[this];rfl
       . cases e
     . cases e
 . -- max
   rename_i _ x l;obtain⟨xc,C,rfl⟩:∃xc C,A=xc::C:=by
    cases A with
    |nil=>have:=hl.1;simp at this
    |cons a l=>exact⟨a,l,rfl⟩
   cases U:Mw l x with
   |none=>rw[U]at e;cases e
   |some w=>
    rw[U]at e;cases e;obtain⟨vc,h1,h2⟩:=gE l C x xc v hl.inv.2 hl.inv.1 U;exact I (vc:=vc) (show(Mw C xc).map (·,h)=_ by rw[h1];rfl) h2 rfl
 . rename_i _ x l
   obtain ⟨xc,C,rfl⟩:∃xc C,A=xc::C:=by
    cases A with
    |nil=>have:=hl.1;simp at this
    |cons a l=>exact⟨a,l,rfl⟩
   cases U:Pe l x with
   |none=>rw[U]at e;cases e
   |some w=>
    rw[U]at e;cases e;obtain⟨vc,h1,h2⟩:=gF l C x xc v hl.inv.2 hl.inv.1 U;exact I (vc:=vc) (show(Pe C xc).map (·,h)=_ by rw[h1];rfl) h2 rfl
 . cases e
end
section
variable {E:Env}{R:AV->AV->Prop}{Z Z':Nat->Prop}{ow ow' ow1 ow2:Nat->Option (List Nat)}{h h':Heap}{K K':PK}{os os' os1 os2:List PO}{x y xc yc v k:AV}{L M:List Nat}{nt:Nat}{frc:Tr}{fr:PF}
theorem De(hg:wU E)(hT:GN E)(s:F7 Z ow h K.os)(U:K.ext<=K.os.length)(a:FrR Z ow h K.os nt frc fr){op:Op}(e:prim E op fr K=.val v K')(call:C7):∃ow' vc h',Did' Z ow h K (evOp E call op frc h) v K' ow' vc h':=by
 have V:=Ao hg a;cases op with
 |move x=>cases e;exact⟨ow,_,h,.same s rfl (V x)⟩
 |assign x=>cases e;exact⟨ow,_,h,.same s rfl (V x)⟩
 |pick c p q=>
  have e:Mb (opvP E c fr) (opvP E p fr) (opvP E q fr) K=.val v K':=e;have Vc:=V c;cases hc:opvP E c fr with
  |bool b=>
   rw[hc]at e Vc;have ad:=Vc.isB;cases b with
   |true=>cases e;exact⟨ow,_,h,.same s (show(opv E c frc).onBool Res.bad (fun t=>match t with|true=>.ok (opv E p frc) h|false=>.ok (opv E q frc) h)=_ by rw[ad];rfl) (V p)⟩
   |false=>cases e;exact⟨ow,_,h,.same s (show(opv E c frc).onBool Res.bad (fun t=>match t with|true=>.ok (opv E p frc) h|false=>.ok (opv E q frc) h)=_ by rw[ad];rfl) (V q)⟩
  |_=>rw[hc]at e;cases e
 |alloc t=>
  obtain ⟨ti,B,e⟩:=M1 e;cases e;have hz:=hT t ti B;obtain⟨I,J,N,O⟩:=nG s U (.fz (hz.1 Z h)) hz.2 (fun b hb=>by
   obtain⟨i,hi⟩:=zqe hb;exact clo_okP ((hz.1 Z h).cell hi hi).2)
  exact⟨_,_,_,show onTI E t Res.bad (fun ti=>iI ti.size ti.zero h)=_ by rw[O1 B];rfl,I,J,N,O⟩
 |box t x=>
  obtain⟨ti,B,e⟩:=M1 e;have e:(if(opvP E x fr).cells.length=ti.size/\(opvP E x fr).cells.all Ev=zt then OpS.val (.ptr K.os.length 0 0) (newRow 1 [opvP E x fr] ti.size K)else .bad)=.val v K':=e;split at e
  . rename_i hc
    cases e;have Y:=zqf.1 hc.2;obtain⟨I,J,N,O⟩:=nG s U (V x) hc.1 Y;have aa:opvP E x fr≠.und:=fun e=>by
     have:=Y .und (by rw[e];exact zqi ..)
     cases this
    have ab:=(V x).cells aa;have ae:D1 (opv E x frc).cells=zt:=(G0 _).2 fun c ah=>by
     obtain⟨j,hj⟩:=zqe ah;have af:j<(opvP E x fr).cells.length:=by rw[<-ab.1];exact(zqc.1 hj).1
     exact(ab.2 j c _ hj (zqa af)).okc (Y _ (zqn af))
    refine⟨_,_,_,?_,I,J,N,O⟩;show onTI E t Res.bad (fun ti=>bif Nat.beq (lenL (opv E x frc).cells) ti.size&&D1 (opv E x frc).cells then iI ti.size (opv E x frc) h else .bad)=_
    rw[O1 B,A3,ab.1,hc.1,zkh,ae];rfl
  . cases e
 |build t ps=>
  obtain⟨ti,B,e⟩:=M1 e;obtain⟨C,rfl⟩:=X9 e;have e:=C;obtain⟨vc,h1,h2⟩:=kH hT B (Ml hg a ps.toList) e;exact⟨ow,vc,h,.same s (show onTI E t Res.bad (fun ti=>lift (f8 E ti (opvps E ps.toList frc)) h)=_ by rw[O1 B,h1];rfl) h2⟩
 |buildSlice t n ps=>
  obtain⟨ti,B,e⟩:=M1 e;cases A:elemOfT E ti.desc with
  |none=>simp only[A]at e;cases e
  |some te=>
   simp only[A]at e;have e:=Qr e;obtain⟨el,ai⟩:∃el,E.ti el=zsq te:=by
    unfold elemOfT at A;cases X:ti.desc with
    |slice el=>rw[X]at A;exact⟨el,A⟩
    |_=>rw[X]at A;cases A
   obtain⟨g1,g2,es,ow',g3,I,J,N,O⟩:=kJ (e:=el) hT s U ai (Ml hg a ps.toList) e;exact⟨ow',_,_,zN B A g1 g2 g3,I,J,N,O⟩
 |insert t m k x=>cases e
 |load t p=>
  obtain⟨ti,B,e⟩:=M1 e;obtain⟨vc,h1,h2,h3,h4,h5,h6,ps,h7,h8⟩:=fV s (V p) (Qr e);refine⟨ow,vc,h,show onTI E t Res.bad (fun ti=>lift (Fj ti (opv E p frc) h) h)=_ by rw[O1 B,h1];rfl,h2,h3,h4,fun b=>⟨zke _,fun _ hz=>⟨hz,rfl⟩,fun _ hz=>.inl hz,fun _ _ _=>rfl,fun d M ho _ e=>(by rw[ho]at e;cases e),⟨[],rfl,fun d X=>(by cases X)⟩,fun d r t ho _=>.inl ⟨t,ho⟩,fun r hr _=>(by rw[h6];exact hr),h5,fun j _ c _=>.rfl,fun j hj hr=>?_⟩⟩;unfold isRt at hr|-;rw[h7,zqq (by omega)]at hr;exact hr
 |store t p x=>
  obtain⟨ti,B,e⟩:=M1 e;have e:=Qr e;cases hs:storeP ti (opvP E p fr) (opvP E x fr) K with
  |none=>rw[hs]at e;cases e
  |some K1=>
   rw[hs]at e;cases e;obtain⟨h',ow',g1,g2,g3,g4⟩:=Xy s (V p) (V x) hs;exact⟨ow',.und,h',show onTI E t Res.bad (fun ti=>liftH (Dn ti (opv E p frc) (opv E x frc) h))=_ by rw[O1 B,g1];rfl,g2,g3,.und,g4⟩
 |nilCheck x=>
  obtain⟨C,rfl⟩:=X9 e;have e:=C;obtain⟨vc,h1,h2⟩:=bR (V x) e;exact⟨ow,vc,h,.same s (show lift (Y8 (opv E x frc)) h=_ by rw[h1];rfl) h2⟩
 |binOp op t x y u=>
  have e:(if Nr (opvP E x fr)=zt/\Nr (opvP E y fr)=zt then Db (J3 op (N6 E t) (opvP E x fr) (opvP E y fr)) K else .bad)=.val v K':=e;split at e
  . rename_i hc
    obtain ⟨C,rfl⟩:=X9 e;have e:=C;obtain⟨h1,h2⟩:=kE (V x) (V y) hc.1 hc.2 e;have h3:sA E op t (opv E x frc) (opv E y frc)=znq:=by
     have h4:Iy E t (opv E x frc) (opv E y frc)=znq\/(op≠.eql/\op≠.neq):=by
      by_cases ho:op=.eql\/op=.neq
      . left
        have aa:∀i k o i' k' o',opv E x frc=.ptr i k o->opv E y frc≠.ptr i' k' o':=fun i k o i' k' o' U hy=>by
         rw[U,hy]at h1;rcases ho with rfl|rfl
         . have h1:A4 (Fh (N6 E t) (.ptr i k o) (.ptr i' k' o')) E7=zsq v:=h1
           cases hk:N6 E t<;>rw[hk]at h1<;>cases h1
         . have h1:A4 (Fh (N6 E t) (.ptr i k o) (.ptr i' k' o')) (fun b=>E7 (!b))=zsq v:=h1
           cases hk:N6 E t<;>rw[hk]at h1<;>cases h1
        unfold Iy;cases D:opv E x frc with
        |ptr i k o=>
         cases al:opv E y frc with
         |ptr i' k' o'=>exact absurd al (aa _ _ _ _ _ _ D)
         |_=>rfl
        |_=>rfl
      . exact .inr ⟨fun e=>ho (.inl e),fun e=>ho (.inr e)⟩
     rcases h4 with h4|⟨h4,h5⟩
     . unfold sA
       rw[h4];cases op<;>rfl
     . cases op<;>first|rfl|exact absurd rfl h4|exact absurd rfl h5
    refine⟨ow,v,h,.same s ?_ (Uq h2)⟩;show lift (SH (sA E op t (opv E x frc) (opv E y frc)) (J3 op (N6 E t) (opv E x frc) (opv E y frc))) h=_
    rw[h3,h1];rfl
  . cases e
 |unOp op t x=>
  obtain⟨C,rfl⟩:=X9 e;have e:=C;obtain⟨h1,h2⟩:=qO (V x) e;exact⟨ow,v,h,.same s (show lift (Kh op (opv E x frc)) h=_ by rw[h1];rfl) (Uq h2)⟩
 |convert t d x=>
  obtain⟨ti,B,e⟩:=M1 e;obtain⟨td,aj,e⟩:=M1 e;obtain⟨C,rfl⟩:=X9 e;have e:=C;obtain⟨h1,h2⟩:=bQ (V x) e;exact⟨ow,v,h,.same s (show onTI E t Res.bad (fun _=>onTI E d .bad fun td=>lift (R5 td.desc (opv E x frc)) h)=_ by rw[O1 B,O1 aj,h1];rfl) (Uq h2)⟩
 |makeInterface t x=>
  obtain⟨ti,B,e⟩:=M1 e;cases hp:V3 ti.desc with
  |false=>rw[hp]at e;cases e
  |true=>
   rw[hp]at e;cases e;exact⟨ow,_,h,.same s (show onTI E t Res.bad (fun ti=>bif V3 ti.desc then .ok (.iface t (opv E x frc)) h else .bad)=_ by rw[O1 B,hp];rfl) (.iface (V x))⟩
 |makeFunc f fs cs=>
  cases e;have v1:=Hj hg a fs.toList;have v2:=Hj hg a cs.toList;exact⟨ow,_,h,.same s rfl (.fn v1.1 v1.2 v2.1 v2.2)⟩
 |makeMap t r=>
  cases r with
  |some r=>cases e
  |none=>
   cases e;obtain⟨I,J,N,O⟩:=qM s U;exact⟨_,_,_,rfl,I,J,N,O⟩
 |makeSlice t l c=>
  obtain⟨ti,B,e⟩:=M1 e;unfold Mc at e;cases A:elemOfT E ti.desc with
  |none=>rw[A]at e;cases e
  |some te=>
   cases hl:asNat (opvP E l fr)with
   |none=>rw[A,hl]at e;cases e
   |some n=>
    cases hc:asNat (opvP E c fr)with
    |none=>rw[A,hl,hc]at e;cases e
    |some m=>
     rw[A,hl,hc]at e;simp only at e;split at e
     . rename_i G
       cases e;have hz:(∀Z h,Fz Z h te.zero te.zero)/\te.zero.cells.length=te.size:=by
        unfold elemOfT at A;cases X:ti.desc with
        |slice el=>rw[X]at A;exact hT _ _ A
        |_=>rw[X]at A;cases A
       obtain⟨I,J,N,O⟩:=fX (n:=n) s U hz.1 hz.2;refine⟨_,_,_,?_,I,J,N,O⟩;show O3 E t l c frc h=_
       unfold O3;rw[O1 B];simp only[A,y7 (V l) hl,y7 (V c) hc];have e1:Nat.ble n m=zt:=zkg G.1;have e2:Nat.ble (Nat.mul m te.bytes) 140737488355328=zt:=zkg G.2.1;have e3:Nat.blt 0 te.size=zt:=zkg G.2.2;rw[e1,e2,e3,m8];rfl
     . cases e
 |slice t x lo hi mx=>
  obtain⟨ti,B,e⟩:=M1 e;cases hb:(hi.isNone&&mx.isSome)with
  |true=>rw[hb]at e;cases e
  |false=>
   rw[hb]at e;obtain⟨C,rfl⟩:=X9 e;have e:=C;obtain⟨vc,h1,h2⟩:=kF (bS hg a lo) (bS hg a hi) (bS hg a mx) (V x) e;exact⟨ow,vc,h,.same s (show onTI E t Res.bad (fun ti=>bif hi.isNone&&mx.isSome then .bad else lift (sliceA E ti.desc (Mz E lo frc) (Mz E hi frc) (Mz E mx frc) (opv E x frc)) h)=_ by rw[O1 B,hb,h1];rfl) h2⟩
 |fieldAddr t x f=>
  obtain⟨ti,B,e⟩:=M1 e;obtain⟨C,rfl⟩:=X9 e;have e:=C;unfold F6 at e;cases hf:fieldAt E ti f with
  |none=>rw[hf]at e;cases e
  |some p=>
   rw[hf]at e;simp only at e;split at e
   . rename_i hsz
     obtain⟨vc,h1,h2⟩:=Pb (V x) e;refine⟨ow,vc,h,.same s ?_ h2⟩;show onTI E t Res.bad (fun ti=>lift (A4 (fieldAt E ti f) fun p=>A9 (Nat.blt 0 p.1.size) (B0 (opv E x frc) p.2)) h)=_
     rw[O1 B,hf];show lift (A9 (Nat.blt 0 p.1.size) (B0 (opv E x frc) p.2)) h=_
     have:Nat.blt 0 p.1.size=zt:=zkg hsz
     rw[this,h1];rfl
   . cases e
 |field t x f=>
  obtain⟨ti,B,e⟩:=M1 e;obtain⟨C,rfl⟩:=X9 e;have e:=C;unfold OG at e;cases hf:fieldAt E ti f with
  |none=>rw[hf]at e;cases e
  |some p=>
   rw[hf]at e;have H:=V x;cases D:opvP E x fr with
   |agg cs=>
    rw[D]at H;simp only[D]at e;obtain⟨xs,ak,hl⟩:=H.agI;obtain⟨vc,h1,h2⟩:=hl.part e;refine⟨ow,vc,h,.same s ?_ h2⟩;show onTI E t Res.bad (fun ti=>lift (A4 (fieldAt E ti f) fun p=>(opv E x frc).onAgg znq fun cs=>partOf p.1 cs p.2) h)=_
    rw[O1 B,hf,ak];show lift (partOf p.1 xs p.2) h=_
    rw[h1];rfl
   |_=>simp only[D]at e;cases e
 |indexAddr t x i=>
  obtain⟨ti,B,e⟩:=M1 e;obtain⟨C,rfl⟩:=X9 e;have e:=C;unfold Ir at e;cases hn:asNat (opvP E i fr)with
  |none=>rw[hn]at e;cases e
  |some n=>
   rw[hn]at e;obtain⟨vc,h1,h2⟩:=We (V x) e;refine⟨ow,vc,h,.same s ?_ h2⟩;show onTI E t Res.bad (fun ti=>lift (A4 (asNat (opv E i frc)) fun i=>R6 E ti.desc i (opv E x frc)) h)=_
   rw[O1 B,y7 (V i) hn];show lift (R6 E ti.desc n (opv E x frc)) h=_
   rw[h1];rfl
 |index t x i=>
  obtain⟨ti,B,e⟩:=M1 e;obtain⟨C,rfl⟩:=X9 e;have e:=C;unfold OH at e;cases hn:asNat (opvP E i fr)with
  |none=>rw[hn]at e;cases e
  |some n=>
   rw[hn]at e;obtain⟨vc,h1,h2⟩:=qP (V x) e;refine⟨ow,vc,h,.same s ?_ h2⟩;show onTI E t Res.bad (fun ti=>lift (A4 (asNat (opv E i frc)) fun i=>Fk E ti.desc i (opv E x frc)) h)=_
   rw[O1 B,y7 (V i) hn];show lift (Fk E ti.desc n (opv E x frc)) h=_
   rw[h1];rfl
 |lookup t m k ok=>obtain⟨ti,B,e⟩:=M1 e;cases e
 |mapUpdate t m k x=>cases e
 |typeAssert x t0 t ok=>
  obtain⟨ti,B,e⟩:=M1 e;cases hb:(V3 ti.desc && !ok)with
  |false=>rw[hb]at e;cases e
  |true=>
   rw[hb]at e;obtain⟨C,rfl⟩:=X9 e;have e:=C;have H:=V x;cases D:opvP E x fr with
   |iface u w=>
    rw[D]at e H;have e:(bif Nat.beq u t then zsq w else znq)=zsq v:=e;cases ac:Nat.beq u t with
    |false=>rw[ac]at e;cases e
    |true=>
     rw[ac]at e;cases e;generalize hq:opv E x frc=q at H;cases H with
     |fz z=>cases z
     |iface vw=>
      refine⟨ow,_,h,.same s ?_ vw⟩;show onTI E t Res.bad (fun ti=>bif V3 ti.desc && !ok then lift (Kl t (opv E x frc)) h else .bad)=_
      rw[O1 B,hb,hq];show lift (bif Nat.beq u t then zsq _ else znq) h=_
      rw[ac];rfl
   |_=>rw[D]at e;cases e
 |extract x i=>
  have e:(match opvP E x fr with | .tup vs=>Db vs[i]? K|_=>.bad)=.val v K':=e;have H:=V x;cases D:opvP E x fr with
  |tup vs=>
   rw[D]at e H;obtain⟨C,rfl⟩:=X9 e;have e:=C;generalize hq:opv E x frc=q at H;cases H with
   |fz z=>cases z
   |tup h1 h2=>
    rename_i xs;have hl:i<xs.length:=by rw[h1];exact(zqc.1 e).1
    refine⟨ow,xs[i],h,.same s ?_ (h2 i _ v (zqa hl) e)⟩;show(opv E x frc).onTup Res.bad (fun vs=>lift (Fg vs i) h)=_
    rw[hq];show lift (Fg xs i) h=_
    rw[R2,zqa hl];rfl
  |_=>rw[D]at e;cases e
 |call c=>
  obtain⟨Q,args,ts⟩:=c;cases Q with
  |builtin b=>exact kL hT s U (Hj hg a args.toList) (Qr e)
  |value g=>
   have e:Md (opvP E g fr) (opvL E args.toList fr)=.val v K':=e;unfold Md at e;cases ag:opvP E g fr with
   |fn f fs cs=>rw[ag]at e;cases f<;>cases e
   |_=>rw[ag]at e;cases e
  |invoke=>cases e
 |panic x=>
  have e:(match opvP E x fr with | .iface t v=>OpS.pan (.iface t v)|_=>.bad)=.val v K':=e;split at e<;>cases e
 |_=>cases e
theorem Hn(hg:wU E)(a:FrR Z ow h K.os nt frc fr){op:Op}{f:Nat}{args:List AV}(e:prim E op fr K=.call f args):∃G,VL Z ow h K.os G args/\∀call:C7,evOp E call op frc h=call f G h:=by
 have V:=Ao hg a;have A:∀{t:Nat}{g:TI->OpS},(∀ti,g ti≠.call f args)->j4 E t g≠.call f args:=fun{t g} hn e=>by
  unfold j4 at e;cases Q:E.ti t with
  |none=>rw[Q]at e;cases e
  |some ti=>rw[Q]at e;exact hn ti e
 have B:∀{o:Option AV},Db o K≠.call f args:=fun{o} e=>by cases o<;>cases e
 have C:∀{o:Option (AV×PK)},Ms o≠.call f args:=fun{o} e=>by cases o<;>cases e
 cases op with
 |call c=>
  obtain⟨D,J,ts⟩:=c;cases D with
  |builtin b=>exact absurd e C
  |invoke=>cases e
  |value g=>
   have e:Md (opvP E g fr) (opvL E J.toList fr)=.call f args:=e;unfold Md at e;have O:=V g;cases N:opvP E g fr with
   |fn f' fs cs=>
    rw[N]at e O;cases f' with
    |func n=>
     cases e;generalize hq:opv E g frc=q at O;cases O with
     |fz z=>cases z
     |fn h1 h2 U X=>
      rename_i H I;refine⟨H++(opvs E J.toList frc++I),VL.app ⟨h1,h2⟩ (VL.app (Hj hg a J.toList) ⟨U,X⟩),fun call=>?_⟩;show f9 call (opv E g frc) (opvs E J.toList frc) h=_
      rw[hq];show call f (appL H (appL (opvs E J.toList frc) I)) h=_
      rw[L7,L7]
    |_=>cases e
   |_=>rw[N]at e;cases e
 |move|assign|makeFunc=>cases e
 |pick c p q=>
  have e:Mb (opvP E c fr) (opvP E p fr) (opvP E q fr) K=.call f args:=e;unfold Mb at e;split at e<;>cases e
 |alloc t=>exact absurd e (A fun ti e=>by cases e)
 |box t x=>exact absurd e (A fun ti e=>by unfold vL at e;split at e<;>cases e)
 |build t ps=>exact absurd e (A fun ti=>B)
 |buildSlice t n ps=>exact absurd e (A fun ti e=>by split at e<;>first|exact C e|cases e)
 |insert=>cases e
 |load=>exact absurd e (A fun ti=>C)
 |store=>exact absurd e (A fun ti=>C)
 |nilCheck=>exact absurd e B
 |binOp op t x y u=>
  have e:R1 E op t (opvP E x fr) (opvP E y fr) K=.call f args:=e;unfold R1 at e;split at e
  . exact absurd e B
  . cases e
 |unOp=>exact absurd e B
 |convert=>exact absurd e (A fun ti=>A fun td=>B)
 |makeInterface t x=>exact absurd e (A fun ti e=>by cases Y:V3 ti.desc<;>rw[Y]at e<;>cases e)
 |makeMap t r=>cases r<;>cases e
 |makeSlice=>exact absurd e (A fun ti e=>by unfold Mc at e;split at e<;>first|cases e|(split at e<;>cases e))
 |slice t x lo hi mx=>exact absurd e (A fun ti e=>by
  cases hb:(hi.isNone&&mx.isSome)with
  |true=>rw[hb]at e;cases e
  |false=>rw[hb]at e;exact B e)
 |fieldAddr=>exact absurd e (A fun ti=>B)
 |field=>exact absurd e (A fun ti=>B)
 |indexAddr=>exact absurd e (A fun ti=>B)
 |index=>exact absurd e (A fun ti=>B)
 |lookup=>exact absurd e (A fun ti=>B)
 |mapUpdate=>cases e
 |typeAssert x t0 t ok=>exact absurd e (A fun ti e=>by
  cases hb:(V3 ti.desc && !ok)with
  |false=>rw[hb]at e;cases e
  |true=>rw[hb]at e;exact B e)
 |extract x i=>
  have e:(match opvP E x fr with | .tup vs=>Db vs[i]? K|_=>.bad)=.call f args:=e;split at e
  . exact absurd e B
  . cases e
 |panic x=>
  have e:(match opvP E x fr with | .iface t v=>OpS.pan (.iface t v)|_=>.bad)=.call f args:=e;split at e<;>cases e
 |_=>cases e
theorem gI(hg:wU E)(a:FrR Z ow h K.os nt frc fr){op:Op}(e:prim E op fr K=.pan v):∃vc,VR Z ow h K.os vc v/\∀call:C7,evOp E call op frc h=.pan vc h:=by
 have V:=Ao hg a;have A:∀{t:Nat}{g:TI->OpS},(∀ti,g ti≠.pan v)->j4 E t g≠.pan v:=fun{t g} hn e=>by
  unfold j4 at e;cases I:E.ti t with
  |none=>rw[I]at e;cases e
  |some ti=>rw[I]at e;exact hn ti e
 have B:∀{o:Option AV},Db o K≠.pan v:=fun{o} e=>by cases o<;>cases e
 have C:∀{o:Option (AV×PK)},Ms o≠.pan v:=fun{o} e=>by cases o<;>cases e
 cases op with
 |panic x=>
  have e:(match opvP E x fr with | .iface t v=>OpS.pan (.iface t v)|_=>.bad)=.pan v:=e;have H:=V x;cases G:opvP E x fr with
  |iface t w=>
   rw[G]at e H;cases e;generalize hq:opv E x frc=q at H;cases H with
   |fz z=>cases z
   |iface N=>exact⟨_,.iface N,fun call=>by show oV (opv E x frc) h=_;rw[hq];rfl⟩
  |_=>rw[G]at e;cases e
 |call c=>
  obtain⟨D,J,ts⟩:=c;cases D with
  |builtin b=>exact absurd e C
  |invoke=>cases e
  |value g=>
   have e:Md (opvP E g fr) (opvL E J.toList fr)=.pan v:=e;unfold Md at e;split at e
   . split at e<;>cases e
   . cases e
 |move|assign|makeFunc=>cases e
 |pick c p q=>
  have e:Mb (opvP E c fr) (opvP E p fr) (opvP E q fr) K=.pan v:=e;unfold Mb at e;split at e<;>cases e
 |alloc t=>exact absurd e (A fun ti e=>by cases e)
 |box t x=>exact absurd e (A fun ti e=>by unfold vL at e;split at e<;>cases e)
 |build t ps=>exact absurd e (A fun ti=>B)
 |buildSlice t n ps=>exact absurd e (A fun ti e=>by split at e<;>first|exact C e|cases e)
 |insert=>cases e
 |load=>exact absurd e (A fun ti=>C)
 |store=>exact absurd e (A fun ti=>C)
 |nilCheck=>exact absurd e B
 |binOp op t x y u=>
  have e:R1 E op t (opvP E x fr) (opvP E y fr) K=.pan v:=e;unfold R1 at e;split at e
  . exact absurd e B
  . cases e
 |unOp=>exact absurd e B
 |convert=>exact absurd e (A fun ti=>A fun td=>B)
 |makeInterface t x=>exact absurd e (A fun ti e=>by cases O:V3 ti.desc<;>rw[O]at e<;>cases e)
 |makeMap t r=>cases r<;>cases e
 |makeSlice=>exact absurd e (A fun ti e=>by unfold Mc at e;split at e<;>first|cases e|(split at e<;>cases e))
 |slice t x lo hi mx=>exact absurd e (A fun ti e=>by
  cases hb:(hi.isNone&&mx.isSome)with
  |true=>rw[hb]at e;cases e
  |false=>rw[hb]at e;exact B e)
 |fieldAddr=>exact absurd e (A fun ti=>B)
 |field=>exact absurd e (A fun ti=>B)
 |indexAddr=>exact absurd e (A fun ti=>B)
 |index=>exact absurd e (A fun ti=>B)
 |lookup=>exact absurd e (A fun ti=>B)
 |mapUpdate=>cases e
 |typeAssert x t0 t ok=>exact absurd e (A fun ti e=>by
  cases hb:(V3 ti.desc && !ok)with
  |false=>rw[hb]at e;cases e
  |true=>rw[hb]at e;exact B e)
 |extract x i=>
  have e:(match opvP E x fr with | .tup vs=>Db vs[i]? K|_=>.bad)=.pan v:=e;split at e
  . exact absurd e B
  . cases e
 |_=>cases e
end
section
variable {E:Env}{R:AV->AV->Prop}{Z Z':Nat->Prop}{ow ow' ow1 ow2:Nat->Option (List Nat)}{h h':Heap}{K K':PK}{os os' os1 os2:List PO}{x y xc yc v k:AV}{L M:List Nat}{nt:Nat}{frc:Tr}{fr:PF}{σ:Nat->Option Nat}
theorem renL_eq(σ:Nat->Option Nat):∀l:List AV,renL σ l=l.map (G2 σ)
 |[]=>rfl
 |v::l=>by rw[renL,renL_eq σ l];rfl
theorem gJ{c:AV}(h:clo c=zt):G2 σ c=c:=by cases c<;>first|rfl|cases h
theorem zP(f:Fz Z h x y):G2 σ y=y:=by
 cases f with
 |agg h1 h2 h3=>
  rename_i xs ys;show AV.agg (renL σ ys)=.agg ys
  rw[renL_eq]
  have:ys.map (G2 σ)=ys:=by
   conv=>rhs;rw[<-List.map_id ys]
   grind[List.map_congr_left,gJ]
  rw[this]
 |_=>rfl
theorem nJ(v:AV):isAg (G2 σ v)=isAg v:=by
 cases v with
 |msl id off n sz=>unfold G2;cases σ id<;>rfl
 |ptr id i o=>unfold G2;cases σ id<;>rfl
 |map id=>unfold G2;cases σ id<;>rfl
 |_=>rfl
theorem Jv(v:AV):(G2 σ v).cells=v.cells.map (G2 σ)/\isAg (G2 σ v)=isAg v:=by
 refine⟨?_,nJ v⟩;cases A:isAg v with
 |false=>grind[C3,nJ]
 |true=>
  cases v with
  |agg cs=>show renL σ cs=_;rw[renL_eq];rfl
  |_=>cases A
theorem vX{c:AV}(h:Ev c=zt\/c=.und):Ev (G2 σ c)=zt\/G2 σ c=.und:=by
 rcases h with h|rfl
 . cases c with
   |msl id off n sz=>unfold G2;cases σ id<;>first|exact .inl rfl|grind
   |ptr id i o=>unfold G2;cases σ id<;>first|exact .inl rfl|grind
   |map id=>unfold G2;cases σ id<;>first|exact .inl rfl|grind
   |agg=>cases h
   |tup=>cases h
   |any=>exact .inr rfl
   |und=>exact .inr rfl
   |_=>exact .inl rfl
 . exact .inr rfl
def Ren(σ:Nat->Option Nat)(ow:Nat->Option (List Nat))(os:List PO)(ow':Nat->Option (List Nat))(os':List PO):Prop:=∀id j,σ id=zsq j->id<os.length->j<os'.length/\∀A,loP os' 6 j=zsq A->∃L,loP os 6 id=zsq L/\∀c,ow c=zsq L↔ow' c=zsq A
theorem VR.ren(v:VR Z ow h os x y)(hZ:∀id,Z id->Z' id/\h'.get id=h.get id)(C:Ren σ ow os ow' os'):VR Z' ow' h' os' x (G2 σ y):=by
 have D:∀{xs ys:List AV},xs.length=ys.length->(∀(i:Nat) x y,xs[i]?=zsq x->ys[i]?=zsq y->VR Z' ow' h' os' x (G2 σ y))->xs.length=(renL σ ys).length/\∀(i:Nat) x y,xs[i]?=zsq x->(renL σ ys)[i]?=zsq y->VR Z' ow' h' os' x y:=(by grind[Go.AM.renL_eq])
 induction v with
 |fz f=>rw[zP f];exact .fz (f.mono hZ)
 |und=>exact .und
 |any=>exact .und
 |@msl id c off n sz h1 h2=>
  unfold G2;cases A:σ id with
  |none=>exact .und
  |some j=>
   obtain⟨a,b⟩:=C id j A h2;exact .msl (by grind) a
 |@mnil x id sz e h1 h2=>
  unfold G2;cases A:σ id with
  |none=>exact .und
  |some j=>
   obtain⟨a,b⟩:=C id j A h2;exact .mnil e (by grind) a
 |@ptr id c i off h1 h2=>
  unfold G2;cases A:σ id with
  |none=>exact .und
  |some j=>
   obtain⟨a,b⟩:=C id j A h2;exact .ptr (by grind) a
 |@map id c h1 h2=>
  unfold G2;cases A:σ id with
  |none=>exact .und
  |some j=>
   obtain⟨a,b⟩:=C id j A h2;exact .map (by grind) a
 |agg h1 _ B=>obtain⟨a,b⟩:=D h1 B;exact .agg a b
 |tup h1 _ B=>obtain⟨a,b⟩:=D h1 B;exact .tup a b
 |fn h1 _ I _ G H=>obtain⟨a,b⟩:=D h1 G;obtain⟨c,d⟩:=D I H;exact .fn a b c d
 |iface _ B=>exact .iface B
theorem VL.ren{xs ys:List AV}(v:VL Z ow h os xs ys)(hZ:∀id,Z id->Z' id/\h'.get id=h.get id)(C:Ren σ ow os ow' os'):VL Z' ow' h' os' xs (renL σ ys):=by
 rw[renL_eq];refine⟨by simpa using v.1,fun i x y D A=>?_⟩;rw[zqg]at A;cases B:ys[i]? with
 |none=>grind
 |some q=>rw[B]at A;cases A;exact(v.2 i x q D B).ren hZ C
theorem RawR.ren{r j c sz:Nat}{es ces:List AV}(g:RawR (VR Z ow h os) ow h r es sz c ces)(hZ:∀id,Z id->Z' id/\h'.get id=h.get id)(H:Ren σ ow os ow' os')(ho:ow' c=zsq [j])(hn:h.next<=h'.next)(hg:h'.get c=h.get c)(D:∀a t,ow' a=zsq (j::t)->t=[]):RawR (VR Z' ow' h' os') ow' h' j (renL σ es) sz c ces:=by
 refine⟨ho,zkf g.lt hn,hg.trans g.get,?_,fun i x y G A o a b ha hb=>?_,fun i y A b hb=>?_,D⟩
 . rw [renL_eq]
   refine⟨by simpa using g.sh.1,fun i x y G A=>?_⟩;rw[zqg]at A;cases B:es[i]? with
   |none=>grind
   |some q=>
    rw[B]at A;cases A
    have:=g.sh.2 i x q G B
    grind[Jv]
 . rw [renL_eq,zqg]at A
   cases B:es[i]? with
   |none=>grind
   |some q=>
    rw[B]at A;cases A;rw[(Jv q).1,zqg]at hb;cases C:q.cells[o]? with
    |none=>grind
    |some w=>rw[C]at hb;cases hb;exact(g.vr i x q G B o a w ha C).ren hZ H
 . rw [renL_eq,zqg]at A
   cases B:es[i]? with
   |none=>grind
   |some q=>
    rw[B]at A;cases A;rw[(Jv q).1]at hb;obtain⟨w,C,rfl⟩:=zqm.1 hb;exact vX (g.okp i q B w C)
theorem posOf_some:∀(l:List Nat)(id j:Nat),posOf l id=zsq j->l[j]?=zsq id
 |[],_,_,e=>by cases e
 |a :: l,id,j,e=>by
  unfold posOf at e;split at e
  . grind
  . cases A:posOf l id with
    |none=>grind
    |some m=>rw[A]at e;cases e;exact posOf_some l id m A
theorem H6:∀(l:List Nat)(id j:Nat),l.Nodup->l[j]?=zsq id->posOf l id=zsq j
 |[],_,_,_,e=>by simp at e
 |a::l,id,0,_,e=>by cases e;unfold posOf;grind
 |a::l,id,j+1,hn,e=>by
  have hn:=zqv.1 hn;have A:a≠id:=(by grind)
  unfold posOf;rw[if_neg A,H6 l id j hn.2 (by grind)];rfl
theorem Bn(s:Nat->List Nat):∀(n:Nat)(B A:List Nat),A.Nodup->(j5 s n B A).Nodup/\∃m,j5 s n B A=A++m
 |0,_,A,h=>⟨h,[],by simp[j5]⟩
 |n+1,[],A,h=>⟨h,[],by simp[j5]⟩
 |n + 1,id::B,A,h=>by
  unfold j5;split
  . exact Bn s n B A h
  . rename_i hm
    have h1:(A++[id]).Nodup:=(by grind)
    obtain⟨a,m,b⟩:=Bn s n (B++s id) (A++[id]) h1;grind
def rown(σ:Nat->Option Nat)(ow:Nat->Option (List Nat)):Nat->Option (List Nat):=fun d=>match ow d with
 |some (r::t)=>(match σ r with|some j=>zsq (j::t)|none=>znq)
 |_=>znq
theorem D3{d:Nat}{M:List Nat}:rown σ ow d=zsq M↔∃r j t,ow d=zsq (r::t)/\σ r=zsq j/\M=j::t:=by
 unfold rown;grind
theorem entryAt_eq(os:List PO)(id:Nat):(os[id]?=zsq (entryAt os id))\/(os[id]?=znq/\entryAt os id=.dead):=by
 unfold entryAt;grind
theorem Us(s:F7 Z ow h os){ids:List Nat}(hn:ids.Nodup){f:PO->PO}(hf:∀e,f e=e\/((∃p i o,e=.sub p i o)/\f e=.dead))(X:os'=ids.map fun id=>f (renPO (posOf ids) (entryAt os id))):
 F7 Z (rown (posOf ids) ow) h os'/\Ren (posOf ids) ow os (rown (posOf ids) ow) os':=by
 have D:∀(j:Nat) e,os'[j]?=zsq e->∃id,ids[j]?=zsq id/\e=f (renPO (posOf ids) (entryAt os id)):=(by grind)
 have H:∀(j:Nat) k es sz,os'[j]?=zsq (.row k es sz)->∃id es0,ids[j]?=zsq id/\os[id]?=zsq (.row k es0 sz)/\((k=0/\es=es0)\/(k≠0/\es=renL (posOf ids) es0)):=fun j k es sz B=>by
  obtain ⟨id,h1,h2⟩:=D j _ B;have A:renPO (posOf ids) (entryAt os id)=.row k es sz:=by
   grind
  rcases entryAt_eq os id with C|⟨_,C⟩
  . cases G:entryAt os id with
    |row k' es' U=>
     rw[G]at A C;cases k' with
     |_=>cases A;grind
    |sub p i o=>grind[renPO]
    |_=>rw[G]at A;cases A
  . rw[C]at A;cases A
 have J:∀(j:Nat) es,os'[j]?=zsq (.mapo es)->∃id,ids[j]?=zsq id/\os[id]?=zsq (.mapo es):=fun j es B=>by
  obtain ⟨id,h1,h2⟩:=D j _ B;have A:renPO (posOf ids) (entryAt os id)=.mapo es:=by
   grind
  rcases entryAt_eq os id with C|⟨_,C⟩
  . cases G:entryAt os id with
    |row k' es' U=>rw[G]at A;cases k'<;>cases A
    |mapo=>rw[G]at A C;cases A;grind
    |sub p i o=>grind[renPO]
    |dead=>rw[G]at A;cases A
  . rw[C]at A;cases A
 have N:∀(j:Nat) p i o,os'[j]?=zsq (.sub p i o)->∃id p0,ids[j]?=zsq id/\os[id]?=zsq (.sub p0 i o)/\posOf ids p0=zsq p:=fun j p i o B=>by
  obtain ⟨id,h1,h2⟩:=D j _ B;have A:renPO (posOf ids) (entryAt os id)=.sub p i o:=by
   grind
  rcases entryAt_eq os id with C|⟨_,C⟩
  . cases G:entryAt os id with
    |row k' es' U=>rw[G]at A;cases k'<;>cases A
    |sub p0 i0 o0=>
     grind[renPO]
    |_=>rw[G]at A;cases A
  . rw[C]at A;cases A
 have O:os'.length=ids.length:=by grind
 have ho:∀d (j id:Nat) t,ids[j]?=zsq id->(rown (posOf ids) ow d=zsq (j::t)↔ow d=zsq (id::t)):=fun d j id t B=>by
  rw[D3]
  constructor
  . rintro⟨r,j',t',h1,h2,A⟩
    cases A
    have:=posOf_some ids r _ h2
    grind
  . exact fun h1=>⟨id,j,t,h1,H6 ids id j hn B,rfl⟩
 have aa:∀(n j:Nat)(I:List Nat),loP os' n j=zsq I->∃id r q t,ids[j]?=zsq id/\loP os n id=zsq (r::t)/\posOf ids r=zsq q/\I=q::t:=fun n=>by
  induction n with
  |zero=>exact fun j I e=>by cases e
  |succ n ih=>
   intro j I e;unfold loP at e;cases B:os'[j]? with
   |none=>grind
   |some en=>
    rw[B]at e;cases en with
    |row k es sz=>
     cases e;obtain⟨id,es0,h1,h2,_⟩:=H j k es sz B;exact⟨id,id,j,[],h1,by grind[loP],H6 ids id j hn h1,rfl⟩
    |mapo es=>
     cases e;obtain⟨id,h1,h2⟩:=J j es B;exact⟨id,id,j,[],h1,by grind[loP],H6 ids id j hn h1,rfl⟩
    |dead=>cases e
    |sub p i o=>
     simp only at e;cases hp:loP os' n p with
     |none=>grind
     |some Lp=>
      rw[hp]at e;cases e;obtain⟨id,p0,h1,h2,A⟩:=N j p i o B;obtain⟨id',r,q,t,C,V,Q,rfl⟩:=ih p Lp hp
      have:id'=p0:=by
       have:=posOf_some ids p0 p A
       grind
      subst this;exact⟨id,r,q,t++[i,o],h1,by grind[loP],Q,by simp⟩
 have hR:Ren (posOf ids) ow os (rown (posOf ids) ow) os':=fun id j B _=>by
  have hj':=posOf_some ids id j B;refine⟨by grind,fun I Y=>?_⟩;obtain⟨id',r,q,t,h1,h2,A,rfl⟩:=aa 6 j I Y;grind[posOf_some]
 refine⟨⟨fun j es sz B=>?_,fun j k es sz B hk=>?_,fun j es B=>?_,fun a b M ha hb=>?_,fun a M ha=>?_,s.zb,fun j p i o B=>?_⟩,hR⟩
 . obtain ⟨id,es0,h1,h2,A⟩:=H j 0 es sz B
   rcases A with⟨_,rfl⟩|⟨A,_⟩
   . obtain⟨x,hx⟩:=s.row id es sz h2
     exact⟨x,hx.reloc (zke _) (fun _ hz=>⟨hz,rfl⟩) (fun d t=>ho d j id t h1) (fun _ _ _=>rfl)⟩
   grind
 . obtain ⟨id,es0,h1,h2,A⟩:=H j k es sz B
   rcases A with⟨A,_⟩|⟨_,rfl⟩
   . grind
   . obtain⟨c,ces,g⟩:=s.raw id k es0 sz h2 hk
     exact⟨c,ces,g.ren (fun _ hz=>⟨hz,rfl⟩) hR ((ho c j id [] h1).2 g.o) (zke _) rfl (fun a t ha=>g.no a t ((ho a j id t h1).1 ha))⟩
 . obtain⟨id,h1,h2⟩:=J j es B
   obtain⟨c,ces,g⟩:=s.map id es h2;exact⟨c,ces,(ho c j id [] h1).2 g.o,g.lt,g.get,g.len,g.kv,fun a t ha=>g.no a t ((ho a j id t h1).1 ha)⟩
 . obtain⟨r,j,t,h1,h2,rfl⟩:=D3.1 ha
   obtain⟨r',j',t',A,C,V⟩:=D3.1 hb;cases V;have e1:=posOf_some ids r j h2;have e2:=posOf_some ids r' _ C;rw[e1]at e2;cases e2;exact s.inj _ _ _ h1 A
 . obtain ⟨r,j,t,h1,h2,rfl⟩:=D3.1 ha
   obtain⟨A,C,r',t',V,Q⟩:=s.live a _ h1;cases V;refine⟨A,C,j,t,rfl,?_⟩;have B:=posOf_some ids r j h2;unfold isRt at Q|-;rw[X,zqg,B];show(match zsq (f (renPO (posOf ids) (entryAt os r)))with|some (.row _ _ _)=>zt|some (.mapo _)=>zt|_=>zf)=zt
   unfold entryAt;cases G:os[r]? with
   |none=>grind
   |some e=>
    rw[G]at Q;cases e with
    |row k es sz=>
     have:f (renPO (posOf ids) (.row k es sz))=renPO (posOf ids) (.row k es sz):=by
      grind[renPO]
     simp only[this];cases k<;>rfl
    |mapo es=>
     grind[renPO]
    |_=>cases Q
 . obtain⟨id,p0,h1,h2,A⟩:=N j p i o B
   rw[O];exact(zqc.1 (posOf_some ids p0 p A)).1
theorem vY{keep:List Nat}:(markIds keep fr K).Nodup/\∀j,j<K.ext->(markIds keep fr K)[j]?=zsq j:=by
 grind[markIds,Bn]
theorem look_keep(σ:Nat->Option Nat)(fr:PF):∀(keep:List Nat)(i:Nat),lookP (keep.map fun i=>(i,G2 σ (lookP fr i))) i=G2 σ (lookP fr i)\/lookP (keep.map fun i=>(i,G2 σ (lookP fr i))) i=.und
 |[],i=>.inr rfl
 |k::keep,i=>by
  show(if k=i then G2 σ (lookP fr k)else lookP (keep.map fun i=>(i,G2 σ (lookP fr i))) i)=_\/(if k=i then G2 σ (lookP fr k)else lookP (keep.map fun i=>(i,G2 σ (lookP fr i))) i)=_
  by_cases e:k=i
  . grind
  . rw[if_neg e];exact look_keep σ fr keep i
theorem vZ{ids:List Nat}{j:Nat}(hj:ids[j]?=zsq j){ext:Nat}{tch:List Nat}:isRt (GJ ids K ext tch).os j=zt->isRt K.os j=zt:=by
 intro A;unfold isRt at A|-
 have:(GJ ids K ext tch).os[j]?=zsq (renPO (posOf ids) (entryAt K.os j)):=by
  show(ids.map fun id=>renPO (posOf ids) (entryAt K.os id))[j]?=_
  grind
 rw[this]at A;unfold entryAt at A;cases B:K.os[j]? with
 |none=>rw[B]at A;cases A
 |some e=>
  rw[B]at A;cases e with
  |dead=>cases A
  |sub p i o=>
   grind[renPO]
  |_=>rfl
theorem Mm(s:F7 Z ow h K.os)(a:FrR Z ow h K.os nt frc fr)(keep:List Nat):∃ow',F7 Z ow' h (G5 keep fr K).2.os/\FrR Z ow' h (G5 keep fr K).2.os nt frc (G5 keep fr K).1/\Stp K.ext Z ow h K Z ow' h (G5 keep fr K).2/\K.ext<=(G5 keep fr K).2.os.length/\∀id,id<K.ext->id<K.os.length->∀C,loP (G5 keep fr K).2.os 6 id=zsq C->∃L,loP K.os 6 id=zsq L/\∀c,ow c=zsq L↔ow' c=zsq C:=by
 obtain⟨hn,H⟩:=vY (fr:=fr) (K:=K) (keep:=keep);obtain⟨h1,h2⟩:=Us s hn (f:=id) (fun e=>.inl rfl) (os':=(G5 keep fr K).2.os) rfl;have G:∀j,j<K.ext->posOf (markIds keep fr K) j=zsq j:=fun j B=>H6 _ _ _ hn (H j B)
 have hlen:(G5 keep fr K).2.os.length=(markIds keep fr K).length:=by show((markIds keep fr K).map _).length=_;simp
 refine⟨_,h1,⟨fun i=>?_,a.has⟩,⟨zke _,fun _ hz=>⟨hz,rfl⟩,fun _ hz=>.inl hz,fun _ _ _=>rfl,fun d M D _ e=>?_,⟨[],rfl,fun d D=>by cases D⟩,fun d r t ho A=>?_,fun r A hl=>?_,rfl,fun j B c A=>?_,fun j B A=>vZ (H j B) A⟩,?_,fun id hi hl=>(h2 id id (G id hi) hl).2⟩
 . rcases look_keep (posOf (markIds keep fr K)) fr keep i with e|e
   . show VR _ _ _ _ _ (lookP (keep.map fun i=>(i,G2 (posOf (markIds keep fr K)) (lookP fr i))) i)
     rw[e];exact(a.v i).ren (fun _ hz=>⟨hz,rfl⟩) h2
   . show VR _ _ _ _ _ (lookP (keep.map fun i=>(i,G2 (posOf (markIds keep fr K)) (lookP fr i))) i)
     rw[e];exact .und
 . grind[D3]
 . exact .inl ⟨t,D3.2 ⟨r,r,t,ho,G r A,rfl⟩⟩
 . exact zqr.2 ⟨A,by grind⟩
 . rw[D3]
   constructor
   . grind
   grind[posOf_some]
 grind
end
section
variable {E:Env}{R:AV->AV->Prop}{Z Z' Z1:Nat->Prop}{ow ow' ow1 ow2:Nat->Option (List Nat)}{h h' h1:Heap}{K K' K1:PK}{os os' os1 os2:List PO}{x y xc yc v k:AV}{L M:List Nat}{nt:Nat}{frc:Tr}{fr:PF}{σ:Nat->Option Nat}
theorem Nv(os:List PO)(ids:List Nat):∀(l:List PO)(n j:Nat),(killU os ids n l)[j]?=(l[j]?).map fun e=>match e with | .sub p i o=>if ids.contains (n+j)||(chainOf os 6 p).any (fun q=>ids.contains q)then .dead else .sub p i o|e=>e
 |[],n,j=>by simp[killU]
 |e::l,n,0=>rfl
 |e::l,n,j+1=>by
  show(killU os ids (n+1) l)[j]?=(l[j]?).map _
  rw[Nv os ids l (n+1) j,show n+1+j=n+(j+1) by omega]
theorem Yc(os:List PO)(ids:List Nat):∀(l:List PO)(n:Nat),(killU os ids n l).length=l.length
 |[],_=>rfl
 |e::l,n=>congrArg Nat.succ (Yc os ids l (n+1))
theorem wA(os:List PO)(ids:List Nat):Wk os (killU os ids 0 os):=by
 refine⟨Yc _ _ _ _,fun j=>?_⟩;rw[Nv];grind
theorem Yd{ids:List Nat}{j p i o:Nat}(e:(killU os ids 0 os)[j]?=zsq (.sub p i o)):(∀q∈chainOf os 6 p,¬q∈ids)/\¬j∈ids:=by
 rw[Nv]at e;grind
theorem Ut:∀(n id:Nat),rootOf os n id∈chainOf os n id
 |0,id=>zqs.2 rfl
 |n+1,id=>by
  unfold rootOf chainOf;cases os[id]? with
  |none=>grind
  |some e=>
   cases e with
   |sub p i o=>exact zqp _ (Ut n p)
   |_=>grind
theorem GP{n m id:Nat}(A:n<=m)(e:loP os n id=zsq L):loP os m id=zsq L:=by
 induction A with
 |refl=>exact e
 |step _ B=>exact Mh _ _ _ B
def RN(ρ:Nat->Option Nat)(os os':List PO)(id:Nat)(e:PO):Prop:=
 (∃k es sz k' es' A,os[id]?=zsq (.row k es sz)/\e=.row k' es' A/\os'[id]?=zsq (renPO ρ e))\/(∃k es sz,os[id]?=zsq (.row k es sz)/\e=.dead/\os'[id]?=zsq .dead)\/(∃es es',os[id]?=zsq (.mapo es)/\e=.mapo es'/\os'[id]?=zsq (.mapo es'))\/(isRt os id=zf/\e=.dead/\os'[id]?=os[id]?)
theorem j9{ρ:Nat->Option Nat}:∀(ids:List Nat)(l os os':List PO),putBack ρ ids l os=zsq os'->ids.Nodup->os'.length=os.length/\(∀r,¬r∈ids->os'[r]?=os[r]?)/\∀(j id:Nat),ids[j]?=zsq id->∃e,l[j]?=zsq e/\RN ρ os os' id e
 |[],l,os,os',e,_=>by cases e;grind
 |id::ids,[],os,os',e,_=>by cases e
 |id :: ids,a::l,os,os',e,hn=>by
  have hn:=zqv.1 hn;have step:∀{D:PO},id<os.length->putBack ρ ids l (os.set id D)=zsq os'->os'.length=os.length/\(∀r,¬r∈id::ids->os'[r]?=os[r]?)/\os'[id]?=zsq D/\∀(j id':Nat),ids[j]?=zsq id'->∃e,l[j]?=zsq e/\RN ρ os os' id' e:=fun{D} hl H=>by
   obtain⟨h1,h2,B⟩:=j9 ids l _ os' H hn.2;refine⟨by grind,fun r hr=>?_,?_,fun j id' A=>?_⟩
   . grind
   . grind
   . obtain⟨e,G,h5⟩:=B j id' A
     grind[RN,isRt]
  unfold putBack at e;cases C:os[id]? with
  |none=>
   rw[C]at e;simp only at e;cases a with
   |dead=>
    obtain⟨h1,h2,B⟩:=j9 ids l os os' e hn.2;refine⟨h1,(by grind),fun j id' A=>?_⟩;cases j with
    |zero=>cases A;exact⟨.dead,rfl,.inr (.inr (.inr ⟨by grind[isRt],rfl,h2 _ hn.1⟩))⟩
    |succ j=>grind
   |_=>cases e
  |some b=>
   have hl:id<os.length:=(zqc.1 C).1;rw[C]at e;cases b with
   |row k es sz=>
    simp only at e;cases a with
    |row k' es' sz'=>
     obtain⟨h1,h2,B,G⟩:=step hl e;refine⟨h1,h2,fun j id' A=>?_⟩;cases j with
     |zero=>cases A;exact⟨_,rfl,.inl ⟨_,_,_,_,_,_,C,rfl,B⟩⟩
     |succ j=>grind
    |dead=>
     obtain⟨h1,h2,B,G⟩:=step hl e;refine⟨h1,h2,fun j id' A=>?_⟩;cases j with
     |zero=>cases A;exact⟨_,rfl,.inr (.inl ⟨_,_,_,C,rfl,B⟩)⟩
     |succ j=>grind
    |_=>cases e
   |mapo es=>
    simp only at e;cases a with
    |mapo es'=>
     obtain⟨h1,h2,B,G⟩:=step hl e;refine⟨h1,h2,fun j id' A=>?_⟩;cases j with
     |zero=>cases A;exact⟨_,rfl,.inr (.inr (.inl ⟨_,_,C,rfl,B⟩))⟩
     |succ j=>grind
    |_=>cases e
   |sub p i o=>
    simp only at e;cases a with
    |dead=>
     obtain⟨h1,h2,B⟩:=j9 ids l os os' e hn.2;refine⟨h1,(by grind),fun j id' A=>?_⟩;cases j with
     |zero=>cases A;exact⟨.dead,rfl,.inr (.inr (.inr ⟨by grind[isRt],rfl,h2 _ hn.1⟩))⟩
     |succ j=>grind
    |_=>cases e
   |dead=>
    simp only at e;cases a with
    |dead=>
     obtain⟨h1,h2,B⟩:=j9 ids l os os' e hn.2;refine⟨h1,(by grind),fun j id' A=>?_⟩;cases j with
     |zero=>cases A;exact⟨.dead,rfl,.inr (.inr (.inr ⟨by grind[isRt],rfl,h2 _ hn.1⟩))⟩
     |succ j=>grind
    |_=>cases e
theorem gK(s:F7 Z ow h K.os)(hx:K.ext<=K.os.length){ids:List Nat}(hn:ids.Nodup)(s1:F7 Z1 ow1 h1 K1.os)(st:Stp ids.length Z (rown (posOf ids) ow) h (focusK ids K) Z1 ow1 h1 K1)(O:mergeK ids K K1=zsq K'):
 ∃ow',F7 Z1 ow' h1 K'.os/\Keep' ow K.os ow' K'.os/\(∀b,Stp b Z ow h K Z1 ow' h1 K')/\Ren (backN ids K.os.length) ow1 K1.os ow' K'.os:=by
 unfold mergeK at O;split at O
 rotate_left
 . cases O
 rename_i ar;have ab:∀i∈ids,i<K.os.length:=fun i hi=>by simpa using zqf.1 ar i hi
 cases hp:putBack (backN ids K.os.length) ids K1.os (killU K.os ids 0 K.os)with
 |none=>rw[hp]at O;cases O
 |some A=>
  rw [hp]at O;cases O;have w:=wA K.os ids;obtain⟨p1,p2,p3⟩:=j9 ids K1.os _ A hp hn;have hbl:A.length=K.os.length:=p1.trans w.1;have hext:(focusK ids K).ext=ids.length:=rfl;have a4:∀(j id:Nat),ids[j]?=zsq id->isRt (focusK ids K).os j=isRt K.os id:=fun j id D=>by
   unfold isRt
   have:(focusK ids K).os[j]?=zsq (cutPO (renPO (posOf ids) (entryAt K.os id))):=by
    show(ids.map fun id=>cutPO (renPO (posOf ids) (entryAt K.os id)))[j]?=_
    rw[zqg,D];rfl
   rw[this];unfold entryAt;cases he:K.os[id]? with
   |none=>rfl
   |some e=>
    cases e with
    |row k es sz=>cases k<;>rfl
    |sub p i o=>
     show(match zsq (cutPO (match posOf ids p with|some q=>PO.sub q i o|none=>.dead))with|some (.row _ _ _)=>zt|some (.mapo _)=>zt|_=>zf)=zf
     cases posOf ids p<;>rfl
    |_=>rfl
  have hkind:∀(j id:Nat),ids[j]?=zsq id->isRt K1.os j=zt->isRt K.os id=zt/\id<K.os.length:=fun j id D C=>by
   have Y:j<ids.length:=(zqc.1 D).1
   have:=st.rd j Y C
   rw[a4 j id D]at this;exact⟨this,isRt_lt this⟩
  have au:∀(j id:Nat),ids[j]?=zsq id->backN ids K.os.length j=zsq id:=fun j id D=>by unfold backN;rw[D]
  have hb2:∀j,ids.length<=j->backN ids K.os.length j=zsq (K.os.length+(j-ids.length)):=fun j D=>by
   unfold backN;rw[List.getElem?_eq_none D]
  have U:∀j r,backN ids K.os.length j=zsq r->ids[j]?=zsq r\/(ids.length<=j/\r=K.os.length+(j-ids.length)):=fun j r C=>by
   unfold backN at C;cases H:ids[j]? with
   |some id=>rw[H]at C;cases C;exact .inl rfl
   |none=>rw[H]at C;cases C;exact .inr ⟨by simpa using H,rfl⟩
  let ow':Nat->Option (List Nat):=fun d=>match rown (backN ids K.os.length) ow1 d with
   |some M=>zsq M
   |none=>if d<h.next/\(rown (posOf ids) ow d).isNone=zt then ow d else znq
  have ac:∀d r t,ow' d=zsq (r::t)↔(∃j,ow1 d=zsq (j::t)/\backN ids K.os.length j=zsq r)\/(rown (posOf ids) ow d=znq/\d<h.next/\ow d=zsq (r::t)):=fun d r t=>by
   show (match rown (backN ids K.os.length) ow1 d with
    |some M=>zsq M
    |none=>if d<h.next/\(rown (posOf ids) ow d).isNone=zt then ow d else znq)=zsq (r::t)↔_
   cases H:rown (backN ids K.os.length) ow1 d with
   |some M=>
    simp only;obtain⟨r',j,t',G,a2,a3⟩:=D3.1 H
    constructor
    . intro e;cases e;cases a3;exact .inl ⟨r',G,a2⟩
    . rintro (⟨Q,I,B⟩|⟨I,B,X⟩)
      . rw[G]at I;cases I
        rw[a2]at B;cases B;rw[a3]
      . exact absurd I (st.uo d _ G B)
   |none=>
    simp only
    constructor
    . intro e
      split at e
      . rename_i hc
        refine .inr ⟨?_,hc.1,e⟩;cases h2:rown (posOf ids) ow d with
        |none=>rfl
        |some M=>rw[h2]at hc;cases hc.2
      . cases e
    . rintro(⟨Q,I,B⟩|⟨I,B,X⟩)
      . rw[D3.2 ⟨Q,r,t,I,B,rfl⟩]at H;cases H
      . rw[if_pos ⟨B,by rw[I];rfl⟩];exact X
  have an:∀d M,ow' d=zsq M->∃r t,M=r::t:=fun d M J=>by
   have J:(match rown (backN ids K.os.length) ow1 d with
    |some M=>zsq M
    |none=>if d<h.next/\(rown (posOf ids) ow d).isNone=zt then ow d else znq)=zsq M:=J
   cases H:rown (backN ids K.os.length) ow1 d with
   |some N=>
    rw[H]at J;cases J;obtain⟨_,j,t,_,_,a3⟩:=D3.1 H;exact⟨j,t,a3⟩
   |none=>
    rw[H]at J;simp only at J;split at J
    . obtain⟨_,_,r,t,a,_⟩:=s.live d M J;exact⟨r,t,a⟩
    . cases J
  have ae:∀d r t,ow d=zsq (r::t)->r<K.os.length:=fun d r t J=>by
   obtain⟨_,_,r',t',a,b⟩:=s.live d _ J;cases a;exact isRt_lt b
  have ai:∀d r t,ow d=zsq (r::t)->¬r∈ids->rown (posOf ids) ow d=znq:=fun d r t J C=>by
   cases H:rown (posOf ids) ow d with
   |none=>rfl
   |some M=>
    obtain⟨r',j,t',G,a2,_⟩:=D3.1 H;rw[J]at G;cases G;exact absurd (zqb (posOf_some ids r j a2)) C
  have hB:∀d r t,¬r∈ids->r<K.os.length->(ow' d=zsq (r::t)↔ow d=zsq (r::t)):=fun d r t C hl=>by
   rw[ac]
   constructor
   . grind
   . exact fun J=>.inr ⟨ai d r t J C,(s.live d _ J).1,J⟩
  have hC:∀d (j r:Nat) t,ids[j]?=zsq r->r<K.os.length->(ow' d=zsq (r::t)↔ow1 d=zsq (j::t)):=fun d j r t D hl=>by
   rw[ac]
   constructor
   . rintro (⟨Q,I,B⟩|⟨I,_,X⟩)
     . rcases U Q r B with c|⟨_,c⟩
       . have:=H6 ids r Q hn c
         rw[H6 ids r j hn D]at this;grind
       . omega
     . rw[D3.2 ⟨r,j,t,X,H6 ids r j hn D,rfl⟩]at I;cases I
   grind
  have hD:∀d j t,ids.length<=j->(ow' d=zsq ((K.os.length+(j-ids.length))::t)↔ow1 d=zsq (j::t)):=fun d j t D=>by
   rw[ac];grind
  have hz:∀d,Z d->Z1 d/\h1.get d=h.get d:=st.zz;have ao:∀d r t,ow d=zsq (r::t)->¬r∈ids->h1.get d=h.get d:=fun d r t J C=>st.un d (s.live d _ J).1 (ai d r t J C)
  have av:∀{r:Nat}{e:PO},(A++(K1.os.drop ids.length).map (renPO (backN ids K.os.length)))[r]?=zsq e->(¬r∈ids/\r<K.os.length/\(killU K.os ids 0 K.os)[r]?=zsq e)\/(∃j e1,ids[j]?=zsq r/\r<K.os.length/\K1.os[j]?=zsq e1/\RN (backN ids K.os.length) (killU K.os ids 0 K.os) A r e1/\A[r]?=zsq e)\/∃j e1,ids.length<=j/\r=K.os.length+(j-ids.length)/\K1.os[j]?=zsq e1/\e=renPO (backN ids K.os.length) e1:=fun{r e} C=>by
   rw[List.getElem?_append]at C;split at C
   . rename_i hl
     by_cases O:r∈ids
     . obtain⟨j,D⟩:=zqe O
       obtain⟨e1,q1,q2⟩:=p3 j r D;exact .inr (.inl ⟨j,e1,D,by omega,q1,q2,C⟩)
     grind
   grind
  have ad:∀{e1:PO}{k es sz},renPO (backN ids K.os.length) e1=.row k es sz->∃es0,e1=.row k es0 sz/\((k=0/\es=es0)\/(k≠0/\es=renL (backN ids K.os.length) es0)):=fun{e1 k es sz} he=>by
   cases e1 with
   |row k' es' ah=>
    cases k' with
    |_=>cases he;grind
   |sub p i o=>unfold renPO at he;simp only at he;cases H:backN ids K.os.length p<;>rw[H]at he<;>cases he
   |_=>cases he
  have aa:∀{r:Nat}{e:PO},(A++(K1.os.drop ids.length).map (renPO (backN ids K.os.length)))[r]?=zsq e->(¬r∈ids/\r<K.os.length/\(killU K.os ids 0 K.os)[r]?=zsq e)\/(∃j e1,K1.os[j]?=zsq e1/\e=renPO (backN ids K.os.length) e1/\(∀d t,ow' d=zsq (r::t)↔ow1 d=zsq (j::t))/\backN ids K.os.length j=zsq r/\((ids[j]?=zsq r/\isRt K.os r=zt)\/ids.length<=j))\/e=.dead:=fun{r e} C=>by
   rcases av C with a|⟨j,e1,I,B,X,b4,b5⟩|⟨j,e1,c1,c2,c3,c4⟩
   . exact .inl a
   . rcases b4 with⟨k,es,sz,k',es',ah,d1,d2,d3⟩|⟨k,es,sz,d1,d2,d3⟩|⟨es,es',d1,d2,d3⟩|⟨d1,d2,d3⟩
     . rw[d3]at b5;cases b5
       exact .inr (.inl ⟨j,e1,X,rfl,fun d t=>hC d j r t I B,au j r I,(by grind[Go.AM.isRt])⟩)
     . grind
     . rw[d3]at b5;cases b5
       exact .inr (.inl ⟨j,e1,X,by rw[d2];rfl,fun d t=>hC d j r t I B,au j r I,(by grind[Go.AM.isRt])⟩)
     . rw [d3]at b5
       unfold isRt at d1;rw[b5]at d1;cases e with
       |dead=>grind
       |sub p i o=>
        grind[Yd]
       |_=>cases d1
   grind
  have aj:∀(n id:Nat)(L:List Nat),n<=6->id<K.os.length->loP (A++(K1.os.drop ids.length).map (renPO (backN ids K.os.length))) n id=zsq L->loP K.os n id=zsq L/\(∀r t,L=r::t->t≠[]->¬r∈ids):=fun n=>by
   induction n with
   |zero=>exact fun id L _ _ e=>by cases e
   |succ n ih=>
    intro id L h6n hl e;unfold loP at e;cases D:(A++(K1.os.drop ids.length).map (renPO (backN ids K.os.length)))[id]? with
    |none=>grind
    |some en=>
     rw[D]at e;have V:A[id]?=zsq en:=by grind
     cases en with
     |row k es sz=>
      cases e;refine⟨?_,(by grind)⟩;unfold loP;by_cases O:id∈ids
      . grind[isRt]
      . rw[p2 id O]at V
        rw[w.row.1 V]
     |mapo es=>
      cases e;refine⟨?_,(by grind)⟩;unfold loP;by_cases O:id∈ids
      . grind[isRt]
      . rw[p2 id O]at V
        rw[w.map.1 V]
     |dead=>cases e
     |sub p i o=>
      simp only at e;cases hp:loP (A++(K1.os.drop ids.length).map (renPO (backN ids K.os.length))) n p with
      |none=>rw[hp]at e;cases e
      |some Lp=>
       rw [hp]at e;cases e;have ap:(killU K.os ids 0 K.os)[id]?=zsq (.sub p i o):=by
        by_cases O:id∈ids
        . obtain⟨j,a9⟩:=zqe O
          obtain⟨e1,q1,q2⟩:=p3 j id a9;rcases q2 with⟨k',es',ah,k2,ax,ay,d1,d2,d3⟩|⟨k',es',ah,d1,_,d3⟩|⟨es',_,d1,_,d3⟩|⟨d1,d2,d3⟩
          . rw[d3,d2]at V;cases k2<;>cases V
          . grind
          . grind
          grind
        grind
       have af:K.os[id]?=zsq (.sub p i o):=by
        rcases w.2 id with e1|⟨_,_,_,_,e2⟩
        . grind
        grind
       obtain⟨g1,g2⟩:=ih p Lp (by omega) (s.sb id p i o af) hp;refine⟨by grind[loP],fun r t e ht=>?_⟩;obtain⟨t1,g3,_⟩:=H5 n p Lp g1;have a5:=Yd ap
       have:r=rootOf K.os n p:=by grind
       have h6:rootOf K.os 6 p=rootOf K.os n p:=by
        obtain⟨t6,g4,_⟩:=H5 6 p Lp (GP (by omega) g1);grind
       rw[this,<-h6];exact a5.1 _ (Ut 6 p)
  have ag:Keep' ow K.os ow' (A++(K1.os.drop ids.length).map (renPO (backN ids K.os.length))):=by
   refine⟨by simp;omega,fun id hl L' az=>?_⟩;obtain⟨g1,g2⟩:=aj 6 id L' (zke _) hl az;refine⟨L',g1,fun c=>?_⟩;obtain⟨t,g3,g4,_⟩:=H5 6 id L' g1;have ak:=isRt_lt g4;by_cases O:rootOf K.os 6 id∈ids
   . -- a root that the call came to
     have ht:t=[]:=Classical.byContradiction fun ht=>g2 _ t g3 ht O
     subst ht;have hid:rootOf K.os 6 id=id:=by
      grind
     rw [hid]at O g3;obtain⟨j,D⟩:=zqe O;have al:isRt (A++(K1.os.drop ids.length).map (renPO (backN ids K.os.length))) id=zt:=by
      grind[H5]
     have Y:j<ids.length:=(zqc.1 D).1;have aw:isRt K1.os j=zt:=by
      unfold isRt at al;cases H:(A++(K1.os.drop ids.length).map (renPO (backN ids K.os.length)))[id]? with
      |none=>grind
      |some e=>
       rw[H]at al;obtain⟨e1,q1,q2⟩:=p3 j id D;have V:A[id]?=zsq e:=by grind
       unfold isRt;rw[q1];rcases q2 with⟨k',es',ah,k2,ax,ay,d1,d2,d3⟩|⟨k',es',ah,d1,_,d3⟩|⟨es',_,d1,d2,d3⟩|⟨d1,d2,d3⟩
       . rw[d2]
       . grind
       . rw[d2]
       grind[isRt]
     have a6:=st.xk j Y c aw;rw[g3,hC c j id [] D (by omega),<-a6,D3]
     constructor
     . exact fun J=>⟨id,j,[],J,H6 ids id j hn D,rfl⟩
     grind[posOf_some]
   grind
  have am:Ren (backN ids K.os.length) ow1 K1.os ow' (A++(K1.os.drop ids.length).map (renPO (backN ids K.os.length))):=by
   have hlen:(A++(K1.os.drop ids.length).map (renPO (backN ids K.os.length))).length=K.os.length+(K1.os.length-ids.length):=by simp;omega
   have key : ∀(n j r:Nat)(L':List Nat),backN ids K.os.length j=zsq r->loP (A++(K1.os.drop ids.length).map (renPO (backN ids K.os.length))) n r=zsq L'->∃L,loP K1.os n j=zsq L/\∀c,ow1 c=zsq L↔ow' c=zsq L':=fun n=>by
    have main:∀(n j r:Nat)(L':List Nat),backN ids K.os.length j=zsq r->loP (A++(K1.os.drop ids.length).map (renPO (backN ids K.os.length))) n r=zsq L'->∃j0 r0 t,loP K1.os n j=zsq (j0::t)/\L'=r0::t/\∀c t,ow1 c=zsq (j0::t)↔ow' c=zsq (r0::t):=fun n=>by
     induction n with
     |zero=>exact fun j r L' _ e=>by cases e
     |succ n ih=>
      intro j r L' hb e;unfold loP at e;cases D:(A++(K1.os.drop ids.length).map (renPO (backN ids K.os.length)))[r]? with
      |none=>grind
      |some en=>
       rw[D]at e;rcases aa D with⟨G,a2,_⟩|⟨Q,e1,I,B,X,b4,b5⟩|rfl
       . grind
       . have aq:Q=j:=by
          rcases U j r hb with c|⟨c,c'⟩
          . rcases U Q r b4 with d|⟨_,d⟩
            . have:=H6 ids r j hn c
              rw[H6 ids r Q hn d]at this;grind
            grind
          grind
         subst aq;unfold loP;rw[I];cases e1 with
         |row k es sz=>
          have:∃es',en=.row k es' sz:=by rw[B];cases k<;>exact⟨_,rfl⟩
          grind
         |mapo es=>rw[B]at e;cases e;grind
         |dead=>rw[B]at e;cases e
         |sub p i o=>
          rw[B]at e;rw[show renPO (backN ids K.os.length) (.sub p i o)=(match backN ids K.os.length p with|some q=>PO.sub q i o|none=>.dead)from rfl]at e;simp only at e|-;cases H:backN ids K.os.length p with
          |none=>grind
          |some p'=>
           rw[H]at e;simp only at e;cases hL:loP (A++(K1.os.drop ids.length).map (renPO (backN ids K.os.length))) n p' with
           |none=>grind
           |some Lp=>
            grind
       . cases e
    grind
   intro j r D Y;grind
  have hzk:∀d,Z d->Z1 d/\h1.get d=h.get d:=hz;refine⟨ow',⟨fun r es sz C=>?_,fun r k es sz C hk=>?_,fun r es C=>?_,fun a b M ha hb=>?_,fun a M ha=>?_,s1.zb,fun j p i o D=>?_⟩,ag,fun b=>⟨st.nx,hz,st.zn,fun d J ho=>?_,fun d M J hl=>?_,?_,fun d r t ho C=>?_,fun r C hl=>?_,rfl,fun j D c C=>?_,fun j D C=>?_⟩,am⟩
  . rcases aa C with⟨G,a2,a3⟩|⟨j,e1,I,B,X,_,_⟩|h
    . obtain⟨x,hx⟩:=s.row r es sz (w.row.1 a3)
      exact⟨x,hx.reloc st.nx hz (fun d t=>hB d r t G a2) (fun d t J=>ao d r t J G)⟩
    . obtain ⟨es0,rfl,h3⟩:=ad B.symm
      rcases h3 with⟨_,rfl⟩|⟨h3,_⟩
      . obtain⟨x,hx⟩:=s1.row j _ sz I
        exact⟨x,hx.reloc (zke _) (fun _ hz=>⟨hz,rfl⟩) (fun d t=>X d t) (fun _ _ _=>rfl)⟩
      grind
    . cases h
  . rcases aa C with⟨G,a2,a3⟩|⟨j,e1,I,B,X,_,_⟩|h
    . obtain⟨c,ces,g⟩:=s.raw r k es sz (w.row.1 a3) hk
      refine⟨c,ces,(hB c r [] G a2).2 g.o,zkf g.lt st.nx,(ao c r [] g.o G).trans g.get,g.sh,fun i x y hx hy o a b ha hb=>(g.vr i x y hx hy o a b ha hb).keep hz ag,g.okp,fun a t ha=>g.no a t ((hB a r t G a2).1 ha)⟩
    . obtain ⟨es0,rfl,h3⟩:=ad B.symm
      rcases h3 with⟨h3,_⟩|⟨_,rfl⟩
      . grind
      . obtain⟨c,ces,g⟩:=s1.raw j k es0 sz I hk
        exact⟨c,ces,g.ren (fun _ hz=>⟨hz,rfl⟩) am ((X c []).2 g.o) (zke _) rfl (fun a t ha=>g.no a t ((X a t).1 ha))⟩
    . cases h
  . rcases aa C with⟨G,a2,a3⟩|⟨j,e1,I,B,X,_,_⟩|h
    . obtain⟨c,ces,g⟩:=s.map r es (w.map.1 a3)
      exact⟨c,ces,(hB c r [] G a2).2 g.o,zkf g.lt st.nx,(ao c r [] g.o G).trans g.get,g.len,fun i x y hx hy=>⟨(g.kv i x y hx hy).1,(g.kv i x y hx hy).2.mono hz⟩,fun a t ha=>g.no a t ((hB a r t G a2).1 ha)⟩
    . have:e1=.mapo es:=by
       cases e1 with
       |mapo=>cases B;rfl
       |row k _ _=>cases k<;>cases B
       |dead=>cases B
       |sub p i o=>unfold renPO at B;simp only at B;cases H:backN ids K.os.length p<;>rw[H]at B<;>cases B
      subst this;obtain⟨c,ces,g⟩:=s1.map j es I;exact⟨c,ces,(X c []).2 g.o,g.lt,g.get,g.len,g.kv,fun a t ha=>g.no a t ((X a t).1 ha)⟩
    . cases h
  . obtain ⟨r,t,rfl⟩:=an a M ha
    rcases(ac a r t).1 ha with⟨j,G,a2⟩|⟨G,a2,a3⟩
    . rcases (ac b r t).1 hb with⟨Q,I,B⟩|⟨I,B,X⟩
      . have aq:Q=j:=by
         rcases U j r a2 with c|⟨c,c'⟩
         . rcases U Q r B with d|⟨_,d⟩
           . have:=H6 ids r j hn c
             rw[H6 ids r Q hn d]at this;cases this;rfl
           . have:=ab r (zqb c);omega
         . rcases U Q r B with d|⟨_,d⟩
           . have:=ab r (zqb d);omega
           . omega
        subst aq;exact s1.inj _ _ _ G I
      . rcases U j r a2 with c|⟨_,c⟩
        . rw[D3.2 ⟨r,j,t,X,H6 ids r j hn c,rfl⟩]at I;cases I
        . have:=ae b r t X;omega
    . rcases (ac b r t).1 hb with⟨Q,I,B⟩|⟨I,B,X⟩
      . rcases U Q r B with c|⟨_,c⟩
        . rw[D3.2 ⟨r,Q,t,a3,H6 ids r Q hn c,rfl⟩]at G;cases G
        . have:=ae a r t a3;omega
      . exact s.inj _ _ _ a3 X
  . obtain ⟨r,t,rfl⟩:=an a M ha
    rcases(ac a r t).1 ha with⟨j,G,a2⟩|⟨G,a2,a3⟩
    . obtain ⟨c1,c2,r',t',c3,c4⟩:=s1.live a _ G
      cases c3;refine⟨c1,c2,r,t,rfl,?_⟩;rcases U j r a2 with c|⟨c,rfl⟩
      . obtain⟨e1,q1,q2⟩:=p3 j r c
        have ak:=ab r (zqb c);unfold isRt at c4|-;rw[zqq (by omega)];rw[q1]at c4;rcases q2 with⟨k',es',ah,k2,ax,ay,d1,d2,d3⟩|⟨k',es',ah,d1,d2,d3⟩|⟨es',_,d1,d2,d3⟩|⟨d1,d2,d3⟩
        . rw[d3,d2];cases k2<;>rfl
        . rw[d2]at c4;cases c4
        . rw[d3]
        . rw[d2]at c4;cases c4
      . unfold isRt at c4|-
        rw[zqw (by omega),zqg,zqx,show ids.length+(K.os.length+(j-ids.length)-A.length)=j by omega];cases H:K1.os[j]? with
        |none=>rw[H]at c4;cases c4
        |some e=>
         rw[H]at c4;cases e with
         |row k es sz=>cases k<;>rfl
         |mapo=>rfl
         |_=>cases c4
    . obtain ⟨c1,c2,r',t',c3,c4⟩:=s.live a _ a3
      cases c3;have ak:=isRt_lt c4;have a7:¬r∈ids:=fun O=>by
       obtain⟨j,D⟩:=zqe O;rw[D3.2 ⟨r,j,t,a3,H6 ids r j hn D,rfl⟩]at G;cases G
      refine⟨zkf c1 st.nx,fun a0=>?_,r,t,rfl,?_⟩
      . rcases st.zn a a0 with h|h
        . exact c2 h
        . omega
      . have:=w.rt r
        unfold isRt at this c4|-;rw[zqq (by omega),p2 r a7,this];exact c4
  . rcases aa D with⟨G,a2,a3⟩|⟨Q,e1,I,B,_,_,_⟩|h
    . have af:K.os[j]?=zsq (.sub p i o):=by
       rcases w.2 j with e1|⟨_,_,_,_,e2⟩
       . rw[<-e1];exact a3
       . rw[e2]at a3;cases a3
      have:=s.sb j p i o af
      simp;omega
    . cases e1 with
      |sub p0 i0 o0=>
       unfold renPO at B;simp only at B;cases H:backN ids K.os.length p0 with
       |none=>rw[H]at B;cases B
       |some p'=>
        rw[H]at B;cases B;have hpl:=s1.sb Q p0 i o I;simp;rcases U p0 p H with c|⟨_,c⟩
        . have:=ab p (zqb c);omega
        . omega
      |row k _ _=>cases k<;>cases B
      |_=>cases B
    . cases h
  . exact st.un d J (by
     cases H:rown (posOf ids) ow d with
     |none=>rfl
     |some M=>
      obtain⟨_,_,_,G,_⟩:=D3.1 H;rw[ho]at G;cases G)
  . obtain⟨r,t,rfl⟩:=an d M J
    intro e;rcases(ac d r t).1 J with⟨j,G,a2⟩|⟨_,_,a3⟩
    . have:=st.uo d _ G hl
      exact this (by
       cases H:rown (posOf ids) ow d with
       |none=>rfl
       |some M=>
        obtain⟨_,_,_,G,_⟩:=D3.1 H;rw[e]at G;cases G)
    . rw[e]at a3;cases a3
  . obtain ⟨l,l1,l2⟩:=st.th
    refine⟨l,l1,fun d J=>?_⟩;rcases l2 d J with h|⟨j,t,h3,h4⟩
    . exact .inl h
    . obtain⟨r,Q,t',G,a2,a3⟩:=D3.1 h3
      cases a3;have D:=posOf_some ids r j a2;have Y:j<ids.length:=(zqc.1 D).1;refine .inr ⟨r,t,G,fun _=>zqy _ (zqm.2 ⟨j,zqr.2 ⟨h4 Y,by simpa using Y⟩,?_⟩)⟩;rw[zqz,D];rfl
  . by_cases O:r∈ids
    . obtain⟨j,D⟩:=zqe O
      have Y:j<ids.length:=(zqc.1 D).1;have h3:=D3.2 ⟨r,j,t,ho,H6 ids r j hn D,rfl⟩;rcases st.mv d j t h3 Y with⟨t',h4⟩|h4
      . exact .inl ⟨t',(hC d j r t' D (ab r O)).2 h4⟩
      . exact .inr (zqy _ (zqm.2 ⟨j,zqr.2 ⟨h4,by simpa using Y⟩,by rw[zqz,D];rfl⟩))
    . exact .inl ⟨t,(hB d r t O (ae d r t ho)).2 ho⟩
  . exact List.mem_append_right _ C
  . have hl:j<K.os.length:=by omega
    have ak:loP (A++(K1.os.drop ids.length).map (renPO (backN ids K.os.length))) 6 j=zsq [j]:=by
     unfold isRt at C;unfold loP;have C:(match(A++(K1.os.drop ids.length).map (renPO (backN ids K.os.length)))[j]? with|some (.row _ _ _)=>zt|some (.mapo _)=>zt|_=>zf)=zt:=C;cases H:(A++(K1.os.drop ids.length).map (renPO (backN ids K.os.length)))[j]? with
     |none=>rw[H]at C;cases C
     |some e=>rw[H]at C;cases e<;>first|rfl|cases C
    obtain⟨L,g1,g2⟩:=ag.2 j hl [j] ak;obtain⟨g3,_⟩:=aj 6 j [j] (zke _) hl ak;rw[g1]at g3;cases g3;exact g2 c
  . have hl:j<K.os.length:=by omega
    have C:(match(A++(K1.os.drop ids.length).map (renPO (backN ids K.os.length)))[j]? with|some (.row _ _ _)=>zt|some (.mapo _)=>zt|_=>zf)=zt:=C;cases H:(A++(K1.os.drop ids.length).map (renPO (backN ids K.os.length)))[j]? with
    |none=>rw[H]at C;cases C
    |some e=>
     rcases aa H with⟨G,a2,a3⟩|⟨Q,e1,I,B,X,b4,b5⟩|rfl
     . rw[<-w.rt];unfold isRt;rw[a3];rw[H]at C;exact C
     . rcases b5 with⟨_,h⟩|h
       . exact h
       . rcases U Q j b4 with c|⟨_,c⟩
         . have:=(zqc.1 c).1;omega
         . omega
     . rw[H]at C;cases C
end
section
variable {E:Env}{R:AV->AV->Prop}{Z Z' Z1:Nat->Prop}{ow ow' ow1:Nat->Option (List Nat)}{h h' h1:Heap}{K K':PK}{os os' ps:List PO}{x y xc yc v k:AV}{L M:List Nat}
theorem Ap{a:Option AV}{l:Option (List AV)}{r:List AV}(e:En a l=zsq r):∃v t,a=zsq v/\l=zsq t/\r=v::t:=by
 unfold En at e;grind
theorem Eg:∀(l A:List AV),frzL l=zsq A->A.length=l.length/\∀(i:Nat) y B,l[i]?=zsq y->A[i]?=zsq B->frzC y=zsq B
 |[],A,e=>by cases e;grind
 |v::l,A,e=>by
  unfold frzL at e;obtain⟨a,t,h1,h2,rfl⟩:=Ap e;obtain⟨h3,h4⟩:=Eg l t h2;grind
theorem gL:∀(l A:List AV),viewL os l=zsq A->A.length=l.length/\∀(i:Nat) y B,l[i]?=zsq y->A[i]?=zsq B->viewV os y=zsq B
 |[],A,e=>by cases e;grind
 |v::l,A,e=>by
  unfold viewL at e;obtain⟨a,t,h1,h2,rfl⟩:=Ap e;obtain⟨h3,h4⟩:=gL l t h2;grind
theorem Nw:∀(l A:List AV),viewAs os l=zsq A->A.length=l.length/\∀(i:Nat) y B,l[i]?=zsq y->A[i]?=zsq B->viewA os y=zsq B
 |[],A,e=>by cases e;grind
 |v::l,A,e=>by
  unfold viewAs at e;obtain⟨a,t,h1,h2,rfl⟩:=Ap e;obtain⟨h3,h4⟩:=Nw l t h2;grind
theorem Mn{c A:AV}(e:frzC c=zsq A)(hc:isAg c=zf):clo A=zt:=by
 cases c<;>unfold frzC at e<;>first|(cases e;done)|(cases e;rfl)|skip
 . cases hc
 . rename_i cs
   cases cs with
   |nil=>cases e
   |cons a es=>
    cases a<;>try (cases e;done)
    rename_i i j z;cases j with
    |succ=>cases e
    |zero=>
     simp only at e;cases hf:frzL es with
     |none=>grind
     |some es'=>
      rw[hf]at e;simp only at e;split at e
      . split at e
        . cases e;rfl
        . cases e
      . cases e;rfl
 . rename_i es f
   cases hf:frzL es with
   |none=>grind
   |some es'=>rw[hf]at e;cases e;rfl
 . rename_i v o
   cases hf:frzC v with
   |none=>grind
   |some es'=>rw[hf]at e;cases e;rfl
theorem Fz.frz(f:Fz Z h x y):∀A,frzC y=zsq A->Fz Z h x A:=by
 have fsl:∀{x:AV}{es es':List AV},(∀B:List AV,frzL es=zsq B->Fz Z h x (fslN B))->∀{f:Bool} A,frzC (.fsl es f)=zsq A->Fz Z h x A:=(by grind[Go.AM.frzC])
 induction f with
 |int=>intro A e;cases e;exact .int _ _
 |bool=>intro A e;cases e;exact .bool _
 |str=>intro A e;cases e;exact .str _
 |nilsl=>intro A e;cases e;exact .emp .nil
 |nilptr=>intro A e;cases e;exact .nilptr
 |nilmap=>intro A e;cases e;exact .nilmap
 |nilfn=>intro A e;cases e;exact .nilfn
 |niliface=>intro A e;cases e;exact .niliface
 |agg h1 h2 C D=>
  rename_i xs ys;intro A e;unfold frzC at e;cases hf:frzL ys with
  |none=>grind
  |some ys'=>
   rw[hf]at e;cases e;obtain⟨G,H⟩:=Eg _ _ hf;refine .agg (h1.trans G.symm) (fun i a b ha hb=>?_) (zqf.2 fun b hb=>?_)
   . grind
   . obtain⟨i,hi⟩:=zqe hb
     obtain⟨c,hc⟩:∃c,ys[i]?=zsq c:=(by grind)
     refine Mn (H i c b hc hi) ?_
     have:=zqf.1 C c (zqb hc)
     cases c<;>first|rfl|cases this
 |emp e=>intro A I;cases I;exact .emp e
 |fsl h1 h2 C D=>
  rename_i es es' f f';refine fsl (es':=es') fun B hf=>?_
  obtain⟨G,H⟩:=Eg _ _ hf;unfold fslN;refine .fsl (h1.trans G.symm) (fun i a b ha hb=>?_) C;grind
 |view h1 h2 C J h5 N D=>
  rename_i es' f';refine fsl (es':=es') fun B hf=>?_
  obtain⟨G,H⟩:=Eg _ _ hf;refine .view h1 h2 C (G.trans J) (fun i a b ha hb=>?_) N;grind
 |fptr o _ D=>
  rename_i v v' _;intro A e;unfold frzC at e;cases hf:frzC v' with
  |none=>grind
  |some w=>rw[hf]at e;cases e;exact .fptr o (D w hf)
 |pview h1 h2 C _ D=>
  rename_i v v' row _;intro A e;unfold frzC at e;cases hf:frzC v' with
  |none=>grind
  |some w=>rw[hf]at e;cases e;exact .pview h1 h2 C (D w hf)
theorem Fz.elem{a b A:AV}(B:a.cells.length=b.cells.length/\isAg a=isAg b)(H:∀(o:Nat) u w,a.cells[o]?=zsq u->b.cells[o]?=zsq w->∀w',frzC w=zsq w'->Fz Z h u w'/\AM.clo w'=zt)(e:frzC b=zsq A):Fz Z h a A:=by
 cases hb:isAg b with
 |false=>
  have ha:=B.2.trans hb;exact(H 0 a b (by rw[C3 ha];rfl) (by rw[C3 hb];rfl) A e).1
 |true=>
  have ha:=B.2.trans hb;cases b<;>first|(cases hb;done)|skip
  cases a<;>first|(cases ha;done)|skip
  rename_i ys xs;unfold frzC at e;cases hf:frzL ys with
  |none=>grind
  |some ys'=>
   rw[hf]at e;cases e;obtain⟨I,G⟩:=Eg _ _ hf;have hl:xs.length=ys.length:=B.1;refine .agg (hl.trans I.symm) (fun i u w C D=>?_) (zqf.2 fun w D=>?_)
   . obtain⟨c,hc⟩:∃c,ys[i]?=zsq c:=(by grind)
     exact(H i u c C hc w (G i c w hc D)).1
   . obtain⟨i,hi⟩:=zqe D
     obtain⟨c,hc⟩:∃c,ys[i]?=zsq c:=(by grind)
     obtain⟨u,C⟩:∃u,xs[i]?=zsq u:=(by grind)
     exact(H i u c C hc w (G i c w hc hi)).2
def Zv(Z:Nat->Prop)(ow:Nat->Option (List Nat))(id:Nat):Prop:=Z id\/ow id≠znq
theorem Fz.zv(f:Fz Z h x y):Fz (Zv Z ow) h x y:=f.mono fun _ hz=>⟨.inl hz,rfl⟩
theorem CR.frz(c:CR Z ow h L x y):∀A,frzC y=zsq A->Fz (Zv Z ow) h x A/\clo A=zt:=by
 induction c with
 |val f e n=>exact fun A B=>⟨(f.frz A B).zv,Mn B (by rename_i y;cases y<;>first|rfl|cases e)⟩
 |und=>intro A e;cases e
 |nil e n=>
  intro A B;cases B;refine⟨.emp ?_,rfl⟩;rcases e with rfl|rfl
  . exact .nil
  . exact .nil
 |own h1 h2 H h4 h5 X _ Y=>
  rename_i L k id sz ces es _;intro A e;have D:isAg (ownd k sz es)=zf:=rfl;refine⟨?_,Mn e D⟩;unfold ownd frzC at e;simp only at e;cases hf:frzL es with
  |none=>grind
  |some es'=>
   rw [hf]at e;simp only at e;obtain⟨N,O⟩:=Eg _ _ hf;have G:∀(i:Nat) a b,ces[i]?=zsq a->es'[i]?=zsq b->Fz (Zv Z ow) h a b:=fun i a b ha hb=>by
    obtain⟨c,hc⟩:∃c,es[i]?=zsq c:=(by grind)
    obtain⟨Q,U,V⟩:=X i a c ha hc;exact .elem ⟨Q.trans U.symm,V⟩ (fun o u w I J w' C=>Y i a c ha hc o u w I J w' C) (O i c b hc hb)
   have hz:Zv Z ow id:=.inr (by grind);split at e
   . split at e
     . rename_i v
       cases e;have hl:ces.length=1:=by grind
       obtain⟨a,ha⟩:∃a,ces[0]?=zsq a:=⟨_,zqa (by omega)⟩
       exact .pview hz H ha (G 0 a v ha rfl)
     . cases e
   . rename_i hk
     cases e
     have:refK k id es.length sz=.msl id 0 es.length sz:=by
      unfold refK;grind
     rw[this];refine .view hz H (by omega) N (by grind) (fun i a hi ha=>?_);grind
end
section
variable {E:Env}{R:AV->AV->Prop}{Z Z' Z1:Nat->Prop}{ow ow' ow1:Nat->Option (List Nat)}{h h' h1:Heap}{K K':PK}{os os' ps:List PO}{x y xc yc v k:AV}{L M:List Nat}{r0 sz0 c0:Nat}{es0 ces0:List AV}
theorem VR.view(s:F7 Z ow h os)(a:VR Z ow h os x y){w:AV}(e:viewV os y=zsq w):Fz (Zv Z ow) h x w/\clo w=zt/\(J4 y=[]->Fz Z h x w):=by
 have el:∀{id:Nat}{es:List AV}{sz:Nat},rowOf os 6 id=zsq (0,es,sz)->∀{c:Nat},(∀L,loP os 6 id=zsq L->ow c=zsq L)->∃ces,h.get c=zsq (.row ces sz)/\cF sz ces es/\(ow c≠znq)/\∀(i:Nat) a b G,ces[i]?=zsq a->es[i]?=zsq b->frzC b=zsq G->Fz (Zv Z ow) h a G:=fun{id es sz} H {c} hc=>by
  obtain ⟨L,hL,h1⟩:=s.get 6 id 0 es sz H;have ho:=hc L hL;have fin:∀{U:AV},CR Z ow h L U (ownd 0 sz es)->∃ces,h.get c=zsq (.row ces sz)/\cF sz ces es/\(ow c≠znq)/\∀(i:Nat) a b G,ces[i]?=zsq a->es[i]?=zsq b->frzC b=zsq G->Fz (Zv Z ow) h a G:=fun{U} V=>by
   rcases V.inv with⟨_,_,_,n⟩|⟨id',ces,_,g2,_,g4,g5,_,g7⟩
   . exact absurd (by rw[zql];exact ho) (n c [])
   . obtain rfl:=s.inj c id' L ho g2
     refine⟨ces,g4,g5,(by grind),fun i a b G ha hb hf=>?_⟩;obtain⟨I,D,J⟩:=g5.2 i a b ha hb;exact .elem ⟨I.trans D.symm,J⟩ (fun o u w C N w' B=>(g7 i a b ha hb o u w C N).frz w' B) hf
  rcases h1 with⟨_,rfl,c',Q,g⟩|⟨_,U,V⟩
  . obtain rfl:=s.inj c c' _ ho g.o
    refine ⟨Q,g.get,g.sh,(by grind),fun i a b G ha hb hf=>?_⟩;obtain⟨I,D,J⟩:=g.sh.2 i a b ha hb;refine .elem ⟨I.trans D.symm,J⟩ (fun o u w C N w' B=>?_) hf;have v:=g.vr i a b ha hb o u w C N;have A:=g.okp i b hb w (zqb N);have hz:Fz Z h u w:=by
     cases v with
     |fz f=>exact f
     |agg=>rcases A with A|A<;>cases A
     |tup=>rcases A with A|A<;>cases A
     |_=>cases B
    refine⟨(hz.frz w' B).zv,Mn B ?_⟩;cases w<;>first|rfl|(rcases A with A|A<;>cases A)
  grind
 have plain:isAg y=zf->frzC y=zsq w->(∀cs,y≠.tup cs)->Fz (Zv Z ow) h x w/\clo w=zt/\(J4 y=[]->Fz Z h x w):=fun X hf ht=>by
  have hz:Fz Z h x y:=by
   cases a with
   |fz f=>exact f
   |agg=>cases X
   |tup=>grind
   |_=>cases hf
  exact⟨(hz.frz w hf).zv,Mn hf X,fun _=>hz.frz w hf⟩
 unfold viewV at e;split at e
 . rename_i id off n sz
   cases H:rowOf os 6 id with
   |none=>grind
   |some q=>
    obtain⟨k,es,z⟩:=q;rw[H]at e;simp only at e;split at e
    . rename_i hc
      obtain⟨rfl,rfl,hn⟩:=hc;cases hf:frzL ((es.drop off).take n)with
      |none=>grind
      |some es'=>
       rw[hf]at e;cases e;refine⟨?_,rfl,fun h0=>by cases h0⟩;obtain⟨g1,g2⟩:=Eg _ _ hf;have O:((es.drop off).take n).length=n:=by simp;omega
       cases a with
       |fz f=>cases f
       |msl h1 h2=>
        rename_i c;obtain⟨ces,I,D,J,q4⟩:=el H h1;refine .view (.inr J) I (by have:=D.1;omega) (g1.trans O) (fun i u w C N=>?_) (fun i u hi C=>?_)
        . grind
        . obtain⟨b,hb⟩:∃b,es[off+i]?=zsq b:=(by grind)
          exact(D.2 (off+i) u b C hb).1
       |mnil h1 h2 Y=>
        have:es'=[]:=(by grind)
        subst this;refine .emp ?_;rcases h1 with rfl|rfl
        . exact .nil
        . exact .nil
    . cases e
 . rename_i id i off
   cases H:rowOf os 6 id with
   |none=>grind
   |some q=>
    obtain⟨k,es,z⟩:=q;rw[H]at e;simp only at e;split at e
    . rename_i hk;subst hk
      cases hi:es[i]? with
      |none=>grind
      |some v=>
       rw[hi]at e;simp only at e;cases hf:frzC v with
       |none=>grind
       |some v'=>
        rw[hf]at e;cases e;refine⟨?_,rfl,fun h0=>by cases h0⟩;cases a with
        |fz f=>cases f
        |ptr h1 h2=>
         obtain⟨ces,I,D,J,q4⟩:=el H h1;obtain⟨u,C⟩:∃u,ces[i]?=zsq u:=⟨_,zqa (by have:=(zqc.1 hi).1;have:=D.1;omega)⟩
         exact .pview (.inr J) I C (q4 i u v v' C hi hf)
    . cases e
 . cases e
 . cases e
 . rename_i h1 h2 Y h4
   refine plain ?_ e (fun cs he=>Y cs he);cases y<;>first|rfl|grind
theorem VR.viewA(s:F7 Z ow h os)(a:VR Z ow h os x y){w:AV}(e:viewA os y=zsq w):Fz (Zv Z ow) h x w/\(J4 y=[]->Fz Z h x w):=by
 cases O:isAg y with
 |false=>
  have J:viewV os y=zsq w:=by cases y<;>first|exact e|cases O
  exact⟨(a.view s J).1,(a.view s J).2.2⟩
 |true=>
  cases y<;>first|(cases O;done)|skip
  rename_i ys;unfold AM.viewA at e;simp only at e;cases hf:viewL os ys with
  |none=>grind
  |some I=>
   rw [hf]at e;cases e;obtain⟨N,Q⟩:=gL _ _ hf;obtain⟨xs,rfl,l⟩:=a.agI;have C:∀(i:Nat) u w,xs[i]?=zsq u->I[i]?=zsq w->∃c,ys[i]?=zsq c/\VR Z ow h os u c/\viewV os c=zsq w:=fun i u w A B=>by
    obtain⟨c,hc⟩:∃c,ys[i]?=zsq c:=(by grind)
    exact⟨c,hc,l.2 i u c A hc,Q i c w hc B⟩
   have D:I.all clo=zt:=zqf.2 fun w B=>by
    obtain⟨i,hi⟩:=zqe B;obtain⟨u,A⟩:∃u,xs[i]?=zsq u:=⟨_,zqa (by have:=(zqc.1 hi).1;have:=l.1;omega)⟩
    obtain⟨c,_,G,H⟩:=C i u w A hi;exact(G.view s H).2.1
   refine⟨.agg (l.1.trans N.symm) (fun i u w A B=>?_) D,fun h0=>.agg (l.1.trans N.symm) (fun i u w A B=>?_) D⟩
   . obtain⟨c,_,G,H⟩:=C i u w A B
     exact(G.view s H).1
   . obtain ⟨c,hc,G,H⟩:=C i u w A B
     refine(G.view s H).2.2 ?_
     have:∀(ys:List AV)(i:Nat),E1 ys=[]->ys[i]?=zsq c->J4 c=[]:=fun ys=>by
      induction ys with
      |nil=>grind
      |cons a l ih=>
       grind[E1,zqt]
     exact this ys i h0 hc
theorem VR.elemR(g:RawR (VR Z ow h os) ow h r0 es0 sz0 c0 ces0){i:Nat}{a b:AV}(ha:ces0[i]?=zsq a)(hb:es0[i]?=zsq b):VR Z ow h os a b:=by
 obtain⟨D,G,A⟩:=g.sh.2 i a b ha hb;have v:=g.vr i a b ha hb;cases b with
 | agg ys=>cases a with
  |agg xs=>exact .agg (D.trans G.symm) fun o u w B C=>v o u w B C
  |_=>cases A
 | _=>cases a with
  |agg xs=>cases A
  |_=>exact v 0 _ _ rfl rfl
theorem VR.viewW(s:F7 Z ow h os)(a:VR Z ow h os x y){w:AV}(e:viewW os y=zsq w):Fz (Zv Z ow) h x w/\clo w=zt/\(J4 y=[]->Fz Z h x w):=by
 unfold AM.viewW at e;cases I:viewV os y with
 |some w'=>rw[I]at e;cases e;exact a.view s I
 |none=>
  rw[I]at e;cases y with
  |msl id off n sz=>
   dsimp only at e;cases A:rawAt os id with
   |false=>rw[A]at e;cases e
   |true=>
    rw[A]at e;dsimp only at e;split at e
    . rename_i k es z D
      split at e
      . rename_i hc
        obtain⟨rfl,hn⟩:=hc;cases hf:viewAs os ((es.drop off).take n)with
        |none=>rw[hf]at e;cases e
        |some es'=>
         rw[hf]at e;cases e;refine⟨?_,rfl,fun h0=>by cases h0⟩;obtain⟨O,Q⟩:=Nw _ _ hf;have B:((es.drop off).take n).length=n:=by simp;omega
         obtain⟨L,hL,h1⟩:=s.get 6 id k es sz (by unfold rowOf;rw[D]);rcases h1 with⟨_,rfl,N,ces,g⟩|⟨hh,_⟩
         . cases a with
           |fz f=>cases f
           |mnil em H _=>exact absurd g.o (H _ hL N)
           |msl h2 h3=>
            rename_i c;obtain rfl:=s.inj c N _ (h2 _ hL) g.o;refine .view (.inr (by rw[g.o];intro e;cases e)) g.get (by have:=g.sh.1;omega) (O.trans B) (fun i u w C J=>?_) (fun i u hi C=>?_)
            . obtain ⟨b,hb⟩:∃b,((es.drop off).take n)[i]?=zsq b:=⟨_,zqa (by have:=(zqc.1 J).1;omega)⟩
              have G:es[off+i]?=zsq b:=by
               rw[zqu]at hb;split at hb
               . rw[zqx]at hb;exact hb
               . cases hb
              exact((VR.elemR g C G).viewA s (Q i b w hb J)).1
            . exact(g.sh.2 (off+i) u _ C (zqa (by have:=(zqc.1 C).1;have:=g.sh.1;omega))).1
         . rw[A]at hh;cases hh
      . cases e
    . cases e
  |_=>cases e
theorem Ye:∀(l A:List AV),viewWL os l=zsq A->A.length=l.length/\∀(i:Nat) y B,l[i]?=zsq y->A[i]?=zsq B->viewW os y=zsq B
 |[],A,e=>by cases e;exact⟨rfl,fun i y B D=>by simp at D⟩
 |v::l,A,e=>by
  unfold viewWL at e;obtain⟨a,t,h1,h2,rfl⟩:=Ap e;obtain⟨G,H⟩:=Ye l t h2;refine⟨by simp[G],fun i y B D C=>?_⟩;cases i with
  |zero=>cases D;cases C;exact h1
  |succ i=>exact H i y B D C
theorem VR.viewWA(s:F7 Z ow h os)(a:VR Z ow h os x y){w:AV}(e:viewWA os y=zsq w):Fz (Zv Z ow) h x w/\(J4 y=[]->Fz Z h x w):=by
 cases O:isAg y with
 |false=>
  have J:AM.viewW os y=zsq w:=by cases y<;>first|exact e|cases O
  exact⟨(a.viewW s J).1,(a.viewW s J).2.2⟩
 |true=>
  cases y<;>first|(cases O;done)|skip
  rename_i ys;unfold AM.viewWA at e;simp only at e;cases hf:viewWL os ys with
  |none=>rw[hf]at e;cases e
  |some I=>
   rw [hf]at e;cases e;obtain⟨N,Q⟩:=Ye _ _ hf;obtain⟨xs,rfl,l⟩:=a.agI;have C:∀(i:Nat) u w,xs[i]?=zsq u->I[i]?=zsq w->∃c,ys[i]?=zsq c/\VR Z ow h os u c/\AM.viewW os c=zsq w:=fun i u w B A=>by
    obtain⟨c,hc⟩:∃c,ys[i]?=zsq c:=⟨_,zqa (by have:=(zqc.1 A).1;omega)⟩
    exact⟨c,hc,l.2 i u c B hc,Q i c w hc A⟩
   have D:I.all clo=zt:=zqf.2 fun w A=>by
    obtain⟨i,hi⟩:=zqe A;obtain⟨u,B⟩:∃u,xs[i]?=zsq u:=⟨_,zqa (by have:=(zqc.1 hi).1;have:=l.1;omega)⟩
    obtain⟨c,_,G,H⟩:=C i u w B hi;exact(G.viewW s H).2.1
   refine⟨.agg (l.1.trans N.symm) (fun i u w B A=>?_) D,fun h0=>.agg (l.1.trans N.symm) (fun i u w B A=>?_) D⟩
   . obtain⟨c,_,G,H⟩:=C i u w B A
     exact(G.viewW s H).1
   . obtain ⟨c,hc,G,H⟩:=C i u w B A
     refine(G.viewW s H).2.2 ?_
     have:∀(ys:List AV)(i:Nat),E1 ys=[]->ys[i]?=zsq c->J4 c=[]:=fun ys=>by
      induction ys with
      |nil=>intro i _ hc;simp at hc
      |cons a l U=>
       intro i h0 hc;have h0:J4 a++E1 l=[]:=h0;obtain⟨h1,h2⟩:=zqt.1 h0;cases i with
       |zero=>cases hc;exact h1
       |succ i=>exact U i h2 hc
     exact this ys i h0 hc
theorem Uu:∀(l A:List AV),Qo os l=zsq A->A.length=l.length/\∀(i:Nat) y B,l[i]?=zsq y->A[i]?=zsq B->viewWA os y=zsq B
 |[],A,e=>by cases e;exact⟨rfl,fun i y B D=>by simp at D⟩
 |v::l,A,e=>by
  unfold Qo at e;obtain⟨a,t,h1,h2,rfl⟩:=Ap e;obtain⟨G,H⟩:=Uu l t h2;refine⟨by simp[G],fun i y B D C=>?_⟩;cases i with
  |zero=>cases D;cases C;exact h1
  |succ i=>exact H i y B D C
theorem wB(s:F7 Z ow h os){l D xs:List AV}(v:VL Z ow h os xs l)(e:viewX os l=zsq D):D.length=l.length/\∀(i:Nat) x y A,xs[i]?=zsq x->l[i]?=zsq y->D[i]?=zsq A->Fz (Zv Z ow) h x A/\(J4 y=[]->Fz Z h x A):=by
 unfold viewX at e;cases J:viewAs os l with
 |some as1=>
  rw[J]at e;cases e;obtain⟨H,I⟩:=Nw _ _ J;exact⟨H,fun i x y A G C B=>(v.2 i x y G C).viewA s (I i y A C B)⟩
 |none=>
  rw[J]at e;obtain⟨H,I⟩:=Uu _ _ e;exact⟨H,fun i x y A G C B=>(v.2 i x y G C).viewWA s (I i y A C B)⟩
def TC(E:Env)(f:Nat)(g:List AV->Option (List AV)):Prop:=∀args rs,g args=zsq rs->∀(Z:Nat->Prop)(h:Heap)(xs:List AV),xs.length=args.length->(∀(i:Nat) x y,xs[i]?=zsq x->args[i]?=zsq y->Fz Z h x y)->(∀id,Z id->id<h.next) ->
 ∃ (A:List AV) (h1:Heap) (Z1:Nat->Prop) (ow1:Nat->Option (List Nat)),callω E f xs h=.ok (oneOrTup A) h1/\F7 Z1 ow1 h1 (openTs 0 rs).2/\VL Z1 ow1 h1 (openTs 0 rs).2 A (openTs 0 rs).1/\
   h.next<=h1.next/\(∀id,Z id->Z1 id/\h1.get id=h.get id)/\(∀id,Z1 id->Z id\/h.next<=id)/\(∀id,id<h.next->h1.get id=h.get id)/\(∀id L,ow1 id=zsq L->h.next<=id)/\∃l,h1.tch=l++h.tch/\∀id∈l,h.next<=id
theorem Jw:∀(n:Nat)(l:List AV)(e:PO),e∈(openT n l).2->∃es sz,e=.row 0 es sz/\∃k,ownd k sz es∈l
 |n,[],e,h=>by cases h
 |n,c::r,e,h=>by
  unfold openT at h;cases ho:ownOf c with
  |none=>
   rw[ho]at h;obtain⟨es,sz,h1,k,h2⟩:=Jw n r e h;grind
  |some q=>
   obtain⟨k,es,sz⟩:=q;rw[ho]at h;rcases zqj.1 h with rfl|h
   . exact⟨es,sz,rfl,k,by grind[An]⟩
   . obtain⟨es,sz,h1,k,h2⟩:=Jw (n+1) r e h
     grind
theorem Gv:∀(n:Nat)(l:List AV)(e:PO),e∈(openTs n l).2->∃es sz,e=.row 0 es sz/\∃k,∃v∈l,ownd k sz es∈v.cells
 |n,[],e,h=>by cases h
 |n,v::r,e,h=>by
  unfold openTs at h;rcases zqk.1 h with h|h
  . grind[Jw]
  . obtain⟨es,sz,h1,k,u,hu,h2⟩:=Gv _ r e h
    grind
theorem Mo:∀(l:List AV)(n m:Nat),(openT n l).2=(openT m l).2
 |[],n,m=>rfl
 |c::r,n,m=>by
  unfold openT;cases ownOf c with
  |none=>exact Mo r n m
  |some q=>exact congrArg (List.cons (PO.row 0 q.2.1 q.2.2)) (Mo r (n+1) (m+1))
theorem Yf:∀(l:List AV)(n m:Nat),(openTs n l).2=(openTs m l).2
 |[],n,m=>rfl
 |v::r,n,m=>by
  unfold openTs;rw[Mo v.cells n m];exact congrArg (List.append _) (Yf r _ _)
theorem Uv(b:Nat):∀(l:List AV)(n:Nat),(l.all fun c=>(ownOf c).isSome||clo c)=zt->(openT (b+n) l).1=renL (fun id=>zsq (b+id)) (openT n l).1
 |[],n,_=>rfl
 |c::r,n,hk=>by
  obtain⟨h1,h2⟩:((ownOf c).isSome||clo c)=zt/\(r.all fun c=>(ownOf c).isSome||clo c)=zt:=by grind
  unfold openT;cases ho:ownOf c with
  |none=>
   rw[ho]at h1;have hc:clo c=zt:=by grind
   show c::(openT (b+n) r).1=G2 _ c::renL _ (openT n r).1
   rw[gJ hc,Uv b r n h2]
  |some q=>
   obtain⟨k,es,sz⟩:=q;show _::(openT (b+n+1) r).1=G2 _ _::renL _ (openT (n+1) r).1
   rw[show b+n+1=b+(n+1) by omega,Uv b r (n+1) h2]
   congr 1
   split<;>rfl
theorem Yg(b:Nat):∀(l:List AV)(n:Nat),okRs l=zt->(openTs (b+n) l).1=renL (fun id=>zsq (b+id)) (openTs n l).1
 |[],n,_=>rfl
 |v::r,n,hk=>by
  obtain⟨h1,h2⟩:(v.cells.all fun c=>(ownOf c).isSome||clo c)=zt/\okRs r=zt:=by grind[okRs]
  unfold openTs;show _::_=G2 _ _::renL _ _
  rw[Mo v.cells (b+n) n,show b+n+(openT n v.cells).2.length=b+(n+(openT n v.cells).2.length) by omega,Yg b r _ h2,Uv b v.cells n h1]
  congr 1
  unfold O6;split
  . rfl
  . cases (openT n v.cells).1<;>rfl
end
section
variable {E:Env}{R:AV->AV->Prop}{Z Z' Z1:Nat->Prop}{ow ow' ow1:Nat->Option (List Nat)}{h h' h1:Heap}{K K':PK}{os os' ps:List PO}{x y xc yc v k:AV}{L M:List Nat}
theorem Ho{v:AV}(e:noF v=zt):∀c∈v.cells,noF c=zt:=by
 have hl:∀(l:List AV),noFL l=zt->∀c∈l,noF c=zt:=fun l=>by
  induction l with
  |nil=>grind
  |cons a l ih=>
   intro A c hc;have A:(noF a&&noFL l)=zt:=A;grind
 intro c hc;cases v with
 |agg cs=>exact hl cs e c hc
 |_=>rw[C3 rfl]at hc;grind
theorem gM{l:List AV}(e:noFL l=zt):∀c∈l,noF c=zt:=fun c hc=>Ho (v:=.agg l) e c hc
theorem Fz.noF(f:Fz Z h x y)(hc:AM.clo y=zt)(e:AM.noF y=zt)(Z':Nat->Prop)(h':Heap):Fz Z' h' x y:=by
 cases f with
 |int=>exact .int _ _
 |bool=>exact .bool _
 |str=>exact .str _
 |nilsl=>exact .nilsl
 |nilptr=>exact .nilptr
 |nilmap=>exact .nilmap
 |nilfn=>exact .nilfn
 |niliface=>exact .niliface
 |agg=>cases hc
 |_=>cases e
theorem CR.noF(c:CR Z ow h L x y)(e:AM.noF y=zt)(Z':Nat->Prop):CR Z' ow h L x y:=by
 induction c with
 |val f hc n=>exact .val (f.noF hc e Z' h) hc n
 |und=>exact .und
 |nil C n=>exact .nil C n
 |own h1 h2 D G H I h7 J=>
  refine .own h1 h2 D G H I fun i a b ha hb o u w B A=>J i a b ha hb o u w B A ?_
  have e:noFL _=zt:=e;exact Ho (gM e b (zqb hb)) w (zqb A)
def OJ(c:AV):Prop:=(clo c=zt/\noF c=zt)\/(∃a b d e,c=.msl a b d e)\/∃a b d,c=.ptr a b d
theorem VR.noF(a:VR Z ow h os x y)(e:OJ y)(Z':Nat->Prop):VR Z' ow h os x y:=by
 rcases e with⟨h1,h2⟩|⟨i,j,k,l,rfl⟩|⟨i,j,k,rfl⟩
 . exact .fz ((a.fzc h1).noF h1 h2 Z' h)
 . cases a with
   |fz f=>cases f
   |msl h1 h2=>exact .msl h1 h2
   |mnil h1 h2 A=>exact .mnil h1 h2 A
 . cases a with
   |fz f=>cases f
   |ptr h1 h2=>exact .ptr h1 h2
theorem Nx:∀(l:List AV)(n:Nat),(l.all fun c=>(ownOf c).isSome||clo c)=zt->(∀c∈l,noF c=zt)->∀c∈(openT n l).1,OJ c
 |[],n,_,_,c,hc=>by cases hc
 |a :: r,n,hk,hf,c,hc=>by
  obtain⟨h1,h2⟩:((ownOf a).isSome||clo a)=zt/\(r.all fun c=>(ownOf c).isSome||clo c)=zt:=by grind
  unfold openT at hc;cases ho:ownOf a with
  |none=>
   rw[ho]at hc h1;rcases zqj.1 hc with rfl|hc
   . exact .inl (by grind)
   . exact Nx r n h2 (by grind) c hc
  |some q=>
   obtain⟨k,es,sz⟩:=q;rw[ho]at hc;rcases zqj.1 hc with rfl|hc
   . split
     . exact .inr (.inr ⟨_,_,_,rfl⟩)
     . exact .inr (.inl ⟨_,_,_,_,rfl⟩)
   . exact Nx r (n+1) h2 (by grind) c hc
theorem Ny:∀(l:List AV)(n:Nat),(openT n l).1.length=l.length
 |[],n=>rfl
 |a::r,n=>by
  unfold openT;cases ownOf a with
  |none=>exact congrArg (· + 1) (Ny r n)
  |some q=>exact congrArg (· + 1) (Ny r (n+1))
theorem VR.open_noF{n:Nat}{v:AV}(a:VR Z ow h os x (O6 v (openT n v.cells).1))(C:(v.cells.all fun c=>(ownOf c).isSome||clo c)=zt)(hf:AM.noF v=zt)(Z':Nat->Prop):VR Z' ow h os x (O6 v (openT n v.cells).1):=by
 have hn:=Nx v.cells n C (Ho hf);cases A:isAg v with
 |true=>
  cases v<;>first|(cases A;done)|skip
  obtain⟨xs,rfl,l⟩:=a.agI;exact .agg l.1 fun i u w D B=>(l.2 i u w D B).noF (hn w (zqb B)) Z'
 |false=>
  have hl:(openT n v.cells).1.length=1:=by rw[Ny,C3 A];rfl
  have:O6 v (openT n v.cells).1∈(openT n v.cells).1:=by
   obtain⟨c,hc⟩:=zka.1 hl;rw[hc]
   have:O6 v [c]=c:=by cases v<;>first|rfl|cases A
   grind
  exact a.noF (hn _ this) Z'
theorem VL.open_noF:∀(rs:List AV)(n:Nat)(xs:List AV),VL Z ow h os xs (openTs n rs).1->okRs rs=zt->noFL rs=zt->∀Z':Nat->Prop,VL Z' ow h os xs (openTs n rs).1
 |[],n,xs,a,_,_,Z'=>by
  cases xs with
  |nil=>exact .nil
  |cons u xs=>cases a.1
 |v::r,n,xs,a,hk,hf,Z'=>by
  obtain⟨h1,h2⟩:(v.cells.all fun c=>(ownOf c).isSome||clo c)=zt/\okRs r=zt:=by grind[okRs]
  obtain⟨A,B⟩:noF v=zt/\noFL r=zt:=zkb.1 (show(noF v&&noFL r)=zt from hf);unfold openTs at a|-;cases xs with
  |nil=>cases a.1
  |cons u xs=>
   obtain⟨C,D⟩:=a.inv;exact .cons (C.open_noF h1 A Z') (VL.open_noF r _ xs D h2 B Z')
theorem PT.noF{ps:List PO}(s:F7 Z ow h ps)(B:∀e∈ps,∃es sz,e=.row 0 es sz/\noFL es=zt)(hZ:∀a,Z' a->a<h.next/\ow a=znq):F7 Z' ow h ps where
 row r es sz hr:=by
  obtain⟨x,C⟩:=s.row r es sz hr;obtain⟨es',A,h1,h2⟩:=B _ (zqb hr);cases h1;exact⟨x,C.noF h2 Z'⟩
 raw r k es sz hr hk:=by
  obtain⟨es',A,h1,h2⟩:=B _ (zqb hr);grind
 map r es hr:=by
  obtain⟨es',A,h1,h2⟩:=B _ (zqb hr);cases h1
 inj:=s.inj
 live a L ho:=by
  obtain⟨h1,h2,h3⟩:=s.live a L ho;grind
 zb a hz:=(hZ a hz).1
 sb:=s.sb
def Eo(n:Nat)(ow ow1:Nat->Option (List Nat)):Nat->Option (List Nat):=fun d=>match ow d with
 |some L=>zsq L
 | none=>match ow1 d with
  |some (r::t)=>zsq ((n+r)::t)
  |_=>znq
theorem qS(s:F7 Z ow h os)(X:F7 Z1 ow1 h1 ps)(O:∀e∈ps,∃es sz,e=.row 0 es sz)(hn:h.next<=h1.next)(hz:∀id,Z id->Z1 id/\h1.get id=h.get id)(hzn:∀id,Z1 id->Z id\/h.next<=id)(un:∀id,id<h.next->h1.get id=h.get id)(hnew:∀id L,ow1 id=zsq L->h.next<=id):
 F7 Z1 (Eo os.length ow ow1) h1 (os++ps)/\Keep' ow os (Eo os.length ow ow1) (os++ps)/\Ren (fun id=>zsq (os.length+id)) ow1 ps (Eo os.length ow ow1) (os++ps)/\∀d r t,r<os.length->(Eo os.length ow ow1 d=zsq (r::t)↔ow d=zsq (r::t)):=by
 have hold:∀d,h.next<=d->ow d=znq:=fun d Q=>by
  cases e:ow d with
  |none=>rfl
  |some L=>exact absurd (s.live d L e).1 (by omega)
 have H:∀d r t,r<os.length->(Eo os.length ow ow1 d=zsq (r::t)↔ow d=zsq (r::t)):=fun d r t A=>by
  unfold Eo;cases e:ow d with
  |some L=>exact .rfl
  |none=>
   simp only
   constructor
   . intro h0
     cases e1:ow1 d with
     |none=>rw[e1]at h0;cases h0
     |some M=>
      rw[e1]at h0;cases M with
      |nil=>cases h0
      |cons J t'=>cases h0;omega
   . intro h0;cases h0
 have hB:∀d r t,Eo os.length ow ow1 d=zsq ((os.length+r)::t)↔ow1 d=zsq (r::t):=fun d r t=>by
  unfold Eo
  constructor
  . intro h0
    cases e:ow d with
    |some L=>
     rw[e]at h0;cases h0;obtain⟨_,_,J,t',C,G⟩:=s.live d _ e;cases C
     have:=isRt_lt G;omega
    |none=>
     rw[e]at h0;simp only at h0;cases e1:ow1 d with
     |none=>rw[e1]at h0;cases h0
     |some M=>
      rw[e1]at h0;cases M with
      |nil=>cases h0
      |cons J t'=>
       simp only[Option.some.injEq,List.cons.injEq]at h0;obtain⟨h5,rfl⟩:=h0;obtain rfl:J=r:=by omega
       rfl
  grind
 have hC:∀d L,Eo os.length ow ow1 d=zsq L->(∃r t,L=r::t/\r<os.length/\ow d=zsq L)\/∃r t,L=(os.length+r)::t/\ow1 d=zsq (r::t):=fun d L h0=>by
  unfold Eo at h0;cases e:ow d with
  |some L'=>
   rw[e]at h0;cases h0;obtain⟨_,_,J,t',C,G⟩:=s.live d _ e;exact .inl ⟨J,t',C,isRt_lt G,rfl⟩
  |none=>
   grind
 have D:Keep' ow os (Eo os.length ow ow1) (os++ps):=Mf s.sb fun id hid L hL c=>by
  obtain⟨t,rfl,A,_⟩:=H5 6 id L hL;grind[isRt_lt]
 have I:∀d L,ow d=zsq L->h1.get d=h.get d:=fun d L ho=>un d (s.live d L ho).1
 have hps:∀(r:Nat) e,ps[r]?=zsq e->isRt (os++ps) (os.length+r)=zt:=fun r e A=>by
  unfold isRt;rw[zqw (by omega),Nat.add_sub_cancel_left,A];obtain⟨es,sz,rfl⟩:=O e (zqb A);rfl
 have B:∀{r:Nat}{e:PO},(os++ps)[r]?=zsq e->(r<os.length/\os[r]?=zsq e)\/∃q,r=os.length+q/\ps[q]?=zsq e:=(by grind)
 refine⟨⟨fun r es sz A=>?_,fun r k es sz A hk=>?_,fun r es A=>?_,fun a b M ha hb=>?_,fun a M ha=>?_,X.zb,fun j p i o U=>?_⟩,D,fun id j U hid=>?_,H⟩
 . rcases B A with⟨hl,A⟩|⟨q,rfl,N⟩
   . obtain⟨x,Y⟩:=s.row r es sz A
     exact⟨x,Y.reloc hn hz (fun d t=>H d r t hl) (fun d t Q=>I d _ Q)⟩
   . obtain⟨x,Y⟩:=X.row q es sz N
     exact⟨x,Y.reloc (zke _) (fun d Q=>⟨Q,rfl⟩) (fun d t=>hB d q t) (fun d t Q=>rfl)⟩
 . rcases B A with⟨hl,A⟩|⟨q,rfl,N⟩
   . obtain⟨c,ces,g⟩:=s.raw r k es sz A hk
     exact⟨c,ces,(H c r [] hl).2 g.o,zkf g.lt hn,(I c _ g.o).trans g.get,g.sh,fun i a b ha hb o u w hu hw=>(g.vr i a b ha hb o u w hu hw).keep hz D,g.okp,fun a t ha=>g.no a t ((H a r t hl).1 ha)⟩
   . obtain⟨es',V,C⟩:=O _ (zqb N)
     grind
 . rcases B A with⟨hl,A⟩|⟨q,rfl,N⟩
   . obtain⟨c,ces,g⟩:=s.map r es A
     exact⟨c,ces,(H c r [] hl).2 g.o,zkf g.lt hn,(I c _ g.o).trans g.get,g.len,fun i a b ha hb=>⟨(g.kv i a b ha hb).1,(g.kv i a b ha hb).2.mono hz⟩,fun a t ha=>g.no a t ((H a r t hl).1 ha)⟩
   . obtain⟨es',V,C⟩:=O _ (zqb N)
     cases C
 . rcases hC a M ha with⟨r,t,rfl,C,G⟩|⟨r,t,rfl,G⟩
   . exact s.inj a b _ G ((H b r t C).1 hb)
   . exact X.inj a b _ G ((hB b r t).1 hb)
 . rcases hC a M ha with⟨r,t,rfl,C,G⟩|⟨r,t,rfl,G⟩
   . obtain⟨q1,q2,J,t',q3,q4⟩:=s.live a _ G
     cases q3;refine⟨zkf q1 hn,fun hz1=>?_,r,t,rfl,Ug q4⟩;grind
   . obtain⟨q1,q2,J,t',q3,q4⟩:=X.live a _ G
     cases q3;obtain⟨e,he⟩:∃e,ps[r]?=zsq e:=⟨_,zqa (isRt_lt q4)⟩
     grind
 . rcases B U with⟨hl,U⟩|⟨q,rfl,N⟩
   . have:=s.sb j p i o U;simp;omega
   . obtain⟨es',V,C⟩:=O _ (zqb N)
     cases C
 . cases U
   obtain⟨e,he⟩:∃e,ps[id]?=zsq e:=⟨_,zqa hid⟩
   refine⟨by simp;omega,fun L' hL'=>?_⟩;have C:(os++ps)[os.length+id]?=zsq e:=by grind
   obtain⟨es,sz,rfl⟩:=O e (zqb he);grind[loP]
theorem wC{f:Nat}{g:List AV->Option (List AV)}(tc:TC E f g)(s:F7 Z ow h K.os)(C:K.ext<=K.os.length){args B vs:List AV}(l:VL Z ow h K.os B args)(e:tcall g args K=zsq (vs,K')):
 ∃Z' ow' h' A,callω E f B h=.ok (oneOrTup A) h'/\F7 Z' ow' h' K'.os/\Keep' ow K.os ow' K'.os/\(∀b,Stp b Z ow h K Z' ow' h' K')/\VL Z' ow' h' K'.os A vs:=by
 unfold tcall at e;cases ha:viewX K.os args with
 |none=>rw[ha]at e;cases e
 |some as1=>
  rw[ha]at e;simp only at e;cases hg:g as1 with
  |none=>rw[hg]at e;cases e
  |some rs=>
   rw[hg]at e;simp only at e;split at e
   . rename_i hc
     obtain⟨Q,hc⟩:=zkb.1 hc;cases e;obtain⟨g1,g2⟩:=wB s l ha;have J:∀e∈(openTs 0 rs).2,∃es sz,e=.row 0 es sz:=fun e he=>let⟨es,sz,h1,_⟩:=Gv 0 rs e he;⟨es,sz,h1⟩
     have aa:∃(Z':Nat->Prop)(h1:Heap)(ow1:Nat->Option (List Nat))(A:List AV),callω E f B h=.ok (oneOrTup A) h1/\F7 Z' ow1 h1 (openTs 0 rs).2/\VL Z' ow1 h1 (openTs 0 rs).2 A (openTs 0 rs).1/\
      h.next<=h1.next/\(∀id,Z id->Z' id/\h1.get id=h.get id)/\(∀id,Z' id->Z id\/h.next<=id)/\(∀id,id<h.next->h1.get id=h.get id)/\(∀id L,ow1 id=zsq L->h.next<=id)/\∃l,h1.tch=l++h.tch/\∀id∈l,h.next<=id:=by
      have N:∀(i:Nat) x y,B[i]?=zsq x->as1[i]?=zsq y->∃c,args[i]?=zsq c/\Fz (Zv Z ow) h x y/\(J4 c=[]->Fz Z h x y):=fun i x y C D=>by
       obtain⟨c,hc⟩:∃c,args[i]?=zsq c:=⟨_,zqa (by have:=(zqc.1 D).1;omega)⟩
       exact⟨c,hc,g2 i x c y C hc D⟩
      by_cases G:E1 args=[]
      . have hm:∀(args:List AV)(i:Nat) c,E1 args=[]->args[i]?=zsq c->J4 c=[]:=fun ys=>by
         induction ys with
         |nil=>intro i c _ hc;simp at hc
         |cons a l ih=>
          intro i c h0 hc;have h0:J4 a++E1 l=[]:=h0;obtain⟨h1,h2⟩:=zqt.1 h0;cases i with
          |zero=>cases hc;exact h1
          |succ i=>exact ih i c h2 hc
        obtain ⟨A,h1,Z1,ow1,X,Y,q3,H,q5,q6,I,U,q9⟩:=tc as1 rs hg Z h B (l.1.trans g1.symm) (fun i x y C D=>by
         obtain⟨c,hc,_,V⟩:=N i x y C D;exact V (hm args i c G hc)) s.zb
        grind
      . have O:noFL rs=zt:=by
         grind
        have ab:∀id,Zv Z ow id->id<h.next:=fun id hz=>by
         rcases hz with hz|hz
         . exact s.zb id hz
         . cases e:ow id with
           |none=>grind
           |some L=>exact(s.live id L e).1
        obtain ⟨A,h1,Z1,ow1,X,Y,q3,H,q5,q6,I,U,q9⟩:=tc as1 rs hg (Zv Z ow) h B (l.1.trans g1.symm) (fun i x y C D=>by
         obtain⟨c,hc,V,_⟩:=N i x y C D;exact V) ab
        refine⟨Z,h1,ow1,A,X,Y.noF (fun e he=>?_) (fun a hz=>⟨zkf (s.zb a hz) H,?_⟩),q3.open_noF rs 0 A Q O Z,H,fun id hz=>⟨hz,I id (s.zb id hz)⟩,fun id hz=>.inl hz,I,U,q9⟩
        . obtain⟨es,sz,h3,k,v,hv,V⟩:=Gv 0 rs e he
          exact⟨es,sz,h3,Ho (gM O v hv) _ V⟩
        . cases e:ow1 a with
          |none=>rfl
          |some L=>have:=U a L e;have:=s.zb a hz;omega
     obtain⟨Z',h1,ow1,A,X,Y,q3,H,q5,q6,I,U,l0,q9,q10⟩:=aa;obtain⟨r1,r2,r3,r4⟩:=qS s Y J H q5 q6 I U;rw[Yf rs K.os.length 0];refine⟨Z',_,h1,A,X,r1,r2,fun b=>⟨H,q5,q6,fun id hl _=>I id hl,fun id L ho hl e=>?_,(by grind),fun id r t ho G=>.inl ⟨t,?_⟩,fun r G _=>G,rfl,fun j hj c G=>?_,fun j hj G=>?_⟩,?_⟩
     . grind[Eo]
     . grind
     . grind
     . grind[isRt]
     . have:=Yg K.os.length rs 0 Q
       rw[Nat.add_zero]at this;rw[this];exact q3.ren (fun id hz=>⟨hz,rfl⟩) r3
   . cases e
end
section
variable {E:Env}{P:PE}{R:AV->AV->Prop}{Z Z' Z1:Nat->Prop}{ow ow' ow1:Nat->Option (List Nat)}{h h' h1:Heap}{K K' K1:PK}{os os' ps:List PO}{x y xc yc v k:AV}{L M:List Nat}{nt:Nat}{frc:Tr}{fr:PF}
def Uw(nt:Nat)(l:List XOp):Bool:=l.all fun o=>match o.dst with|none=>zt|some t=>decide (t<nt)
def I3(nt:Nat):PC->Bool
 |.skip=>zt
 |.reg _ l=>Uw nt l
 |.seq a b=>I3 nt a&&I3 nt b
 |.cond _ a b=>I3 nt a&&I3 nt b
 |.block _ c=>I3 nt c
 |.loop c=>I3 nt c
 |.scope c=>I3 nt c
 |.exit _=>zt
 |.ret=>zt
 |.pre _ c=>I3 nt c
 |.post _ c=>I3 nt c
 |.rfn _ ps a b=>ps.all (fun p=>decide (p<nt))&&(I3 nt a&&I3 nt b)
 |.itf _ c=>I3 nt c
 |.yreg p0 _ yt p1 yd _ p2=>(decide (yt<nt)&&decide (yd<nt))&&(I3 nt p0&&(I3 nt p1&&I3 nt p2))
 |.dfr _ a _ c=>I3 nt a&&I3 nt c
 | .rcv _ d d2 c=>(decide (d<nt)&&decide (d2<nt))&&I3 nt c
def Yh:PC->FM
 |.itf _ c=>.itf c.eri
 |.dfr _ a g c=>.dfr a.pieces g c.er
 |.rcv _ d d2 c=>.rcv d d2 c.er
 |_=>.plain
structure FnOk(E:Env)(f:Nat)(p:PFn):Prop where
 gc:E.gc f=zf
 told:E.told f=zf
 dlf:E.dlf f=znq
 srt:∀args h,srtA E f args h=znq
 fn:E.fn f=zsq ⟨p.code.er,p.nt,p.rs,Yh p.code⟩
 nt:p.nt<1048576
 ok:I3 p.nt p.code=zt
structure PEok(P:PE):Prop where
 gl:wU P.E
 ti:GN P.E
 T:∀f g,P.T f=zsq g->TC P.E f g
 fn:∀f p,P.fn f=zsq p->FnOk P.E f p
def X3(b:Nat)(ow:Nat->Option (List Nat))(os:List PO)(ow':Nat->Option (List Nat))(os':List PO):Prop:=∀id,id<b->∀A,loP os' 6 id=zsq A->∃L,loP os 6 id=zsq L/\∀c,ow c=zsq L↔ow' c=zsq A
theorem X3.refl(b:Nat)(ow:Nat->Option (List Nat))(os:List PO):X3 b ow os ow os:=fun id _ A hl=>⟨A,hl,fun _=>.rfl⟩
theorem X3.trans{b:Nat}{ow2:Nat->Option (List Nat)}{os2:List PO}(a:X3 b ow os ow' os')(c:X3 b ow' os' ow2 os2):X3 b ow os ow2 os2:=fun id hi A hl=>by
 obtain⟨B,h1,h2⟩:=c id hi A hl;obtain⟨L0,h3,h4⟩:=a id hi B h1;grind
theorem Keep'.e{b:Nat}(a:Keep' ow os ow' os')(hb:b<=os.length):X3 b ow os ow' os':=fun id hi=>a.2 id (zkf hi hb)
def B8(Z:Nat->Prop)(ow:Nat->Option (List Nat))(h:Heap)(K:PK)(nt:Nat)(r:CRes)(p:PR):Prop:=match p with
 |.ok e fr' K'=>∃Z' ow' h' A,r=.ok e A h'/\F7 Z' ow' h' K'.os/\FrR Z' ow' h' K'.os nt A fr'/\Stp K.ext Z ow h K Z' ow' h' K'/\K'.ext<=K'.os.length/\X3 K.ext ow K.os ow' K'.os
 |.pan v K'=>∃Z' ow' h' vc,r=.pan vc h'/\F7 Z' ow' h' K'.os/\VR Z' ow' h' K'.os vc v/\Stp K.ext Z ow h K Z' ow' h' K'/\K'.ext<=K'.os.length/\X3 K.ext ow K.os ow' K'.os
 |.val _ _=>True
 | .itr _ _ _ _=>True
theorem B8.trans{r:CRes}{p:PR}(s:F7 Z ow h K.os)(st:Stp K.ext Z ow h K Z' ow' h' K')(I:X3 K.ext ow K.os ow' K'.os)(c:B8 Z' ow' h' K' nt r p):B8 Z ow h K nt r p:=by
 cases p with
 |ok e fr' J=>obtain⟨C,ow2,h2,A,D,a2,a3,G,H,B⟩:=c;exact⟨C,ow2,h2,A,D,a2,a3,st.trans s G,H,I.trans (by rw[st.ex]at B;exact B)⟩
 |pan v J=>obtain⟨C,ow2,h2,vc,D,a2,a3,G,H,B⟩:=c;exact⟨C,ow2,h2,vc,D,a2,a3,st.trans s G,H,I.trans (by rw[st.ex]at B;exact B)⟩
 |_=>trivial
def zQ(Z:Nat->Prop)(ow:Nat->Option (List Nat))(h:Heap)(K:PK)(r:Res)(p:PR):Prop:=match p with
 |.val vs K'=>∃Z' ow' h' A,r=.ok (oneOrTup A) h'/\F7 Z' ow' h' K'.os/\Keep' ow K.os ow' K'.os/\(∀b,Stp b Z ow h K Z' ow' h' K')/\VL Z' ow' h' K'.os A vs
 |.pan v K'=>∃Z' ow' h' vc,r=.pan vc h'/\F7 Z' ow' h' K'.os/\(∀b,Stp b Z ow h K Z' ow' h' K')/\VR Z' ow' h' K'.os vc v/\K'.ext<=K'.os.length/\Keep' ow K.os ow' K'.os
 |.ok _ _ _=>True
 | .itr _ _ _ _=>True
def nK(Z:Nat->Prop)(ow:Nat->Option (List Nat))(h:Heap)(K:PK)(r:Res)(p:PR):Prop:=match p with
 |.val vs K'=>∃Z' ow' h' A,r=.ok (oneOrTup A) h'/\F7 Z' ow' h' K'.os/\Stp K.ext Z ow h K Z' ow' h' K'/\VL Z' ow' h' K'.os A vs/\X3 K.ext ow K.os ow' K'.os/\K'.ext<=K'.os.length
 |.pan v K'=>∃Z' ow' h' vc,r=.pan vc h'/\F7 Z' ow' h' K'.os/\Stp K.ext Z ow h K Z' ow' h' K'/\VR Z' ow' h' K'.os vc v/\K'.ext<=K'.os.length/\X3 K.ext ow K.os ow' K'.os
 |.ok _ _ _=>True
 | .itr _ _ _ _=>True
theorem VL.one{xs ys:List AV}(l:VL Z ow h os xs ys):VR Z ow h os (oneOrTup xs) (oneOrTup ys):=by
 have hl:=l.1
 match xs,ys with
 |[],[]=>exact .tup rfl (fun i x y A=>by simp at A)
 |[x],[y]=>exact l.2 0 x y rfl rfl
 |x::x'::xs,y::y'::ys=>exact .tup l.1 l.2
 |[],_::_=>cases hl
 |_::_,[]=>cases hl
 |[_],_::_::_=>simp at hl
 |_::_::_,[_]=>simp at hl
theorem Gw(A:K.ext<=K.os.length)(B:Keep' ow K.os ow' K'.os)(C:K'.ext=K.ext):K'.ext<=K'.os.length:=by rw[C];exact zki A B.1
theorem FrR.setd(a:FrR Z ow h os nt frc fr){d:Option Tmp}(hd:(match d with|none=>zt|some t=>decide (t<nt))=zt)(v:VR Z ow h os x y):FrR Z ow h os nt (setDst d x frc) (setP d y fr):=by
 cases d with
 |none=>exact a
 |some t=>exact a.set (by grind) v
theorem vr_skipped:VR Z ow h os skipped skipped:=.tup rfl (fun i x y A=>by simp at A)
theorem kM{w b:Bool}(v:VR Z ow h os x y)(e:g0 w y=zsq b):g0 w x=zsq b:=by
 cases y with
 |bool c=>rw[v.isB];exact e
 |tup cs=>
  cases cs with
  | nil=>cases v with
   |fz f=>cases f
   |tup hl _=>grind
  |cons=>cases e
 |_=>cases e
theorem m0{g:Option (Option Tmp×Bool)}{b:Bool}(a:FrR Z ow h os nt frc fr)(e:guardP g fr=zsq b):guardOk g frc=zsq b:=by
 cases g with
 |none=>exact e
 |some p=>
  obtain⟨t,w⟩:=p;cases t with
  |none=>exact e
  |some t=>exact kM (a.v t) e
theorem Ux:∀(l:List AV)(i:Nat)(t:Tr)(j:Nat),(∀j,j<i+l.length->t.has j=zt)->(Tr.setAll l i t).get j=if i<=j then(match l[j-i]? with|some v=>v|none=>t.get j)else t.get j
 |[],i,t,j,_=>by
  show t.get j=_
  grind
 |v :: l,i,t,j,hh=>by
  show(Tr.setAll l (i+1) (t.set i v)).get j=_
  rw[Ux l (i+1) (t.set i v) j (by grind[Go.AM.Tr.has_set])];by_cases e:i=j
  . subst e
    rw[if_neg (by omega),if_pos (zke _),Nat.sub_self,Tr.get_set_eq,hh i (by simp),if_pos rfl];rfl
  . rw[Tr.get_set_ne _ _ _ _ e]
    grind
theorem Uy:∀(l:List AV)(i j:Nat),lookP (enterP i l) j=if i<=j then(match l[j-i]? with|some v=>v|none=>.und)else .und
 |[],i,j=>by show AV.und=_;grind
 |v::l,i,j=>by
  show(if i=j then v else lookP (enterP (i+1) l) j)=_
  rw[Uy l (i+1) j];grind
theorem Hp{args A:List AV}(l:VL Z ow h os A args)(hn:args.length<=nt)(hb:nt<1048576):FrR Z ow h os nt (Tr.enter nt A) (enterP 0 args):=by
 have hh:∀j,j<0+A.length->(Tr.mk 20 nt).has j=zt:=fun j hj=>by rw[Tr.has_mk' 20 nt j hb];have:=l.1;simp;omega
 refine⟨fun i=>?_,fun i hi=>?_⟩
 . show VR Z ow h os ((Tr.setAll A 0 (Tr.mk 20 nt)).get i) _
   rw[Ux A 0 _ i hh,Uy args 0 i,if_pos (Nat.zero_le _),if_pos (Nat.zero_le _),Nat.sub_zero];cases C:args[i]? with
   |none=>exact .und
   |some y=>
    obtain⟨x,B⟩:∃x,A[i]?=zsq x:=⟨_,zqa (by have:=(zqc.1 C).1;have:=l.1;omega)⟩
    rw[B];exact l.2 i x y B C
 . have:∀(l:List AV)(i:Nat)(t:Tr)(j:Nat),(Tr.setAll l i t).has j=t.has j:=fun l=>by
    induction l with
    |nil=>intro i t j;rfl
    |cons v l ih=>simp_all[Tr.setAll,Tr.has_set]
   show(Tr.setAll A 0 (Tr.mk 20 nt)).has i=zt
   grind[Tr.has_mk']
theorem Stp.subs(s:F7 Z ow h K.os)(hx:K.ext<=K.os.length){K':PK}(A:K'.ext=K.ext)(ht:K'.tch=K.tch){ps:List PO}(ho:K'.os=K.os++ps)(hp:∀e∈ps,∃a b c,e=.sub a b c)(b:Nat):Stp b Z ow h K Z ow h K':=by
 refine⟨zke _,fun id hz=>⟨hz,rfl⟩,fun id hz=>.inl hz,fun _ _ _=>rfl,(by grind),(by simp_all),fun id r t ho _=>.inl ⟨t,ho⟩,fun r B _=>by grind,A,fun j _ c _=>.rfl,fun j hj B=>?_⟩;grind[isRt]
theorem bT:∀(rs:List ResultVar){K:PK}{vs:List AV}{K':PK},F7 Z ow h K.os->K.ext<=K.os.length->FrR Z ow h K.os nt frc fr->resP E rs fr K=zsq (vs,K') ->
 ∃A,E8 E rs frc h=zsq A/\F7 Z ow h K'.os/\Keep' ow K.os ow K'.os/\Stp K.ext Z ow h K Z ow h K'/\VL Z ow h K'.os A vs
 |[],K,vs,K',s,hx,a,e=>by cases e;exact⟨[],rfl,s,.refl _ _,.refl _ _ _ _ _,.nil⟩
 |.tmp t::l,K,vs,K',s,hx,a,e=>by
  unfold resP at e;cases B:resP E l fr K with
  |none=>grind
  |some q=>
   obtain⟨us,I⟩:=q;rw[B]at e;cases e;obtain⟨A,J,a2,a3,C,D⟩:=bT l s hx a B;refine⟨frc.get t::A,?_,a2,a3,C,.cons ((a.v t).keep (fun _ hz=>⟨hz,rfl⟩) a3) D⟩;simp_all[A4,E8]
 |.cell c t::l,K,vs,K',s,hx,a,e=>by
  unfold resP at e;cases X:E.ti t with
  |none=>grind
  |some ti=>
   rw[X]at e;simp only at e;cases hl:loadP ti (lookP fr c) K with
   |none=>grind
   |some q=>
    obtain⟨v,K1⟩:=q;rw[hl]at e;simp only at e;obtain⟨vc,b1,N,G,O,H,Q,ps,U,V⟩:=fV s (a.v c) hl;cases B:resP E l fr K1 with
    |none=>grind
    |some q=>
     obtain⟨us,I⟩:=q;rw[B]at e;cases e;obtain⟨A,J,a2,a3,C,D⟩:=bT l N (Gw hx G H) (a.keep (fun _ hz=>⟨hz,rfl⟩) G) B;refine⟨vc::A,?_,a2,G.trans a3,(Stp.subs s hx H Q U V _).trans s C,.cons (O.keep (fun _ hz=>⟨hz,rfl⟩) a3) D⟩;simp_all[A4,E8,O1]
end
section
variable {E:Env}
theorem c9{g:Nat->CRes}{r:CRes}{k:Nat->Tr->Heap->IRes}{s:Tr->Heap->IRes}(hg:Lim .bad g r)(A:∀fr h,Lim .bad (fun n=>k n fr h) (s fr h)):Lim .bad (fun n=>H8 (k n) (g n)) (H8 s r):=
 hg.bind (k:=fun n r=>H8 (k n) r) (s:=fun r=>H8 s r) (fun _=>rfl) rfl (fun _=>by
  cases r with
  | ok e fr h=>cases e with
   |normal=>exact A fr h
   |_=>exact .const
  |_=>exact .const)
theorem qT{g:Nat->CRes}{r:CRes}{k:Nat->Tr->Heap->CRes}{s:Tr->Heap->CRes}(hg:Lim .bad g r)(A:∀fr h,Lim .bad (fun n=>k n fr h) (s fr h)):Lim .bad (fun n=>Ej (k n) (g n)) (Ej s r):=
 hg.bind (k:=fun n r=>Ej (k n) r) (s:=fun r=>Ej s r) (fun _=>rfl) rfl (fun _=>by
  cases r with
  | ok e fr h=>cases e with
   |normal=>exact A fr h
   |_=>exact .const
  |_=>exact .const)
theorem Uz{R:Type}{bad:R}{o:Option Bool}{a b:Nat->R}{x y:R}(ha:Lim bad a x)(hb:Lim bad b y):Lim bad (fun n=>onOB o bad (a n) (b n)) (onOB o bad x y):=by
 cases o with
 |none=>exact .const
 |some t=>cases t;exact hb;exact ha
theorem Aq{R:Type}{bad:R}{t:Bool}{a:Nat->R}{x:R}(ha:Lim bad a x):Lim bad (fun n=>bif t then a n else bad) (bif t then x else bad):=by
 cases t;exact .const;exact ha
theorem wD(p2:XC)(yd:Tmp)(fr:Tr){g:Nat->CRes}{r:CRes}(hg:Lim .bad g r):Lim .bad (fun n=>Ht (ev E n) p2 yd fr (g n)) (Ht (evω E) p2 yd fr r):=
 hg.bind (k:=fun n r=>Ht (ev E n) p2 yd fr r) (s:=fun r=>Ht (evω E) p2 yd fr r) (fun _=>rfl) rfl (fun _=>by
  cases r with
  | ok e fr' h=>cases e with
   |_=>exact c9 (ev_lim _ _ _) (fun _ _=>.const)
  |_=>exact .const)
theorem gN{g:Nat->IRes}{r:IRes}{k:Nat->Option Ex->Tr->Heap->IRes}{s:Option Ex->Tr->Heap->IRes}(hg:Lim .bad g r)(A:∀p fr h,Lim .bad (fun n=>k n p fr h) (s p fr h)):Lim .bad (fun n=>Kp (k n) (g n)) (Kp s r):=
 hg.bind (k:=fun n r=>Kp (k n) r) (s:=fun r=>Kp s r) (fun _=>rfl) rfl (fun _=>by
  cases r with
  | ok e p fr h=>cases e with
   |normal=>exact A p fr h
   |_=>exact .const
  |_=>exact .const)
theorem nL{Y:Nat->List AV->Heap->CRes}{B:List AV->Heap->CRes}(C:∀l h,Lim .bad (fun n=>Y n l h) (B l h))(nt:Nat):∀(m:Nat)(c:IC)(p:Option Ex)(fr:Tr)(h:Heap),Lim .bad (fun n=>evI E (ev E n) nt (Y n) m c p fr h) (evI E (evω E) nt B m c p fr h)
 |0,c,p,fr,h=>.const
 |m + 1,c,p,fr,h=>by
  have A:=nL C nt m;show Lim .bad (fun n=>dB E (ev E n) nt (Y n) (evI E (ev E n) nt (Y n) m) c p fr h) (dB E (evω E) nt B (evI E (evω E) nt B m) c p fr h)
  cases c with
  |reg x=>exact c9 (ev_lim x fr h) (fun _ _=>.const)
  |yreg p0 gd yt p1 yd args p2=>
   refine c9 (ev_lim p0 fr h) fun fr h=>Uz ?_ ?_
   . cases p with
     |some _=>exact .const
     |none=>exact Aq (c9 (ev_lim p1 _ h) fun fr h=>Uz (wD p2 yd fr (C _ h)) .const)
   . exact c9 (ev_lim p1 _ h) fun fr h=>Uz .const (c9 (ev_lim p2 _ h) fun _ _=>.const)
  |seq a b=>exact gN (A a p fr h) (fun p fr h=>A b p fr h)
  |cond x a b=>
   show Lim .bad (fun n=>(opv E x fr).onBool .bad fun t=>match t with|true=>evI E (ev E n) nt (Y n) m a p fr h|false=>evI E (ev E n) nt (Y n) m b p fr h) ((opv E x fr).onBool .bad fun t=>match t with|true=>evI E (evω E) nt B m a p fr h|false=>evI E (evω E) nt B m b p fr h)
   cases opv E x fr with
   |bool t=>cases t;exact A b p fr h;exact A a p fr h
   |_=>exact .const
  |block id c=>exact(A c p fr h).bind (k:=fun _ r=>Iz id r) (s:=fun r=>Iz id r) (fun _=>rfl) rfl (fun _=>.const)
  |loop c=>exact gN (A c p fr h) (fun p fr h=>A (.loop c) p fr h)
  |_=>exact .const
theorem kN(ps:List Tmp)(a b:XC)(fr:Tr)(args:List AV)(h:Heap):Lim .bad (fun n=>roundY (ev E n) ps a b fr args h) (roundY (evω E) ps a b fr args h):=
 Aq (qT (ev_lim a _ h) fun fr h=>ev_lim b fr h)
theorem OL{fr:Tr}{h:Heap}(g:Operand)(ps:List Tmp)(a b:XC):evω E (.rfn g ps a b) fr h=rfnA E (evω E) ps a b fr h (opv E g fr):=j2 (by
 show Lim .bad (fun n=>rfnA E (ev E n) ps a b fr h (opv E g fr)) _
 cases opv E g fr with
 |fn f first caps=>
  cases f with
  |func n=>
   refine Aq ?_;refine Lim.bind (bad:=.bad) (g:=fun n'=>itF E (ev E n') n caps (roundY (ev E n') ps a b fr) h) (k:=fun _ r=>backA fr r) (s:=fun r=>backA fr r) ?_ (fun _=>rfl) rfl (fun _=>.const);unfold itF;cases E.fn n with
   |none=>exact .const
   |some A=>
    refine Aq ?_;cases A.mode with
    |itf c=>exact(nL (kN ps a b fr) A.ntmps itMax c znq _ h).bind (k:=fun _ r=>finI r) (s:=fun r=>finI r) (fun _=>rfl) rfl (fun _=>.const)
    |_=>exact .const
  |_=>exact .const
 |_=>exact .const)
theorem Va(x p:AV)(h:Heap):Lim .bad (fun n=>Ep E (ev E n) x p h) (Ep E (evω E) x p h):=by
 unfold Ep;cases x with
 |fn f first caps=>
  cases f with
  |func n=>
   refine Aq ?_;unfold Rg;cases E.fn n with
   |none=>exact .const
   |some A=>
    refine Aq ?_;cases A.mode with
    |rcv d d2 c=>exact Aq ((ev_lim c _ h).bind (k:=fun _ r=>rcvEnd r) (s:=rcvEnd) (fun _=>rfl) rfl (fun _=>.const))
    |_=>exact .const
  |_=>exact .const
 |_=>exact .const
theorem Jx(rs:List ResultVar)(fr:Tr){g:Nat->Res}{r:Res}(hg:Lim .bad g r):Lim .bad (fun n=>k8 E rs fr (g n)) (k8 E rs fr r):=
 hg.bind (k:=fun _ r=>k8 E rs fr r) (s:=k8 E rs fr) (fun _=>rfl) rfl (fun _=>.const)
theorem kO(x:AV)(rs:List ResultVar)(fr:Tr){g:Nat->CRes}{r:CRes}(hg:Lim .bad g r):Lim .bad (fun n=>I0 E (ev E n) x rs fr (g n)) (I0 E (evω E) x rs fr r):=
 hg.bind (k:=fun n r=>I0 E (ev E n) x rs fr r) (s:=I0 E (evω E) x rs fr) (fun _=>rfl) rfl (fun _=>by
  cases r with
  | ok e A h=>cases e with
   |exit=>exact .const
   |_=>exact Jx rs A (Va x _ h)
  |pan v h=>exact Jx rs fr (Va x v h)
  |bad=>exact .const)
theorem gO(g:Operand)(c:XC)(rs:List ResultVar):∀(pre:List XC)(fr:Tr)(h:Heap),Lim .bad (fun n=>r9 E (ev E n) g c rs pre fr h) (r9 E (evω E) g c rs pre fr h)
 |[],fr,h=>kO (opv E g fr) rs fr (ev_lim c fr h)
 |p::pre,fr,h=>(ev_lim p fr h).bind (k:=fun n r=>Bc (r9 E (ev E n) g c rs pre) r) (s:=fun r=>Bc (r9 E (evω E) g c rs pre) r) (fun _=>rfl) rfl (fun _=>by
  cases ho:evω E p fr h with
  | ok e A h2=>cases e with
   |normal=>exact gO g c rs pre A h2
   |_=>exact .const
  |_=>exact .const)
theorem wE{f:Nat}{args:List AV}{h:Heap}{c:XC}{n:Nat}{rs:List ResultVar}{m:FM}(A:m=.plain\/∃ic,m=.itf ic)(hg:E.gc f=zf)(B:E.told f=zf)(C:E.dlf f=znq)(D:∀args h,srtA E f args h=znq)(hf:E.fn f=zsq ⟨c,n,rs,m⟩)(hn:args.length<=n):
 callω E f args h=H7 E rs (evω E c (Tr.enter n args) h):=by
 refine (Cw (E:=E) f args h).unique ?_;have e:∀k,F9 E (ev E k) f args h=H7 E rs (ev E k c (Tr.enter n args) h):=fun k=>by
  unfold F9;rw[hg];show P0 E (ev E k) f args h=_
  unfold P0;rw[B,C,D,hf];show(bif Nat.ble (lenL args) n then Oj E (ev E k) ⟨c,n,rs,m⟩ args h else .bad)=_
  rw[A3,zkg hn];rcases A with rfl|⟨ic,rfl⟩<;>rfl
 simp only[e];exact(ev_lim (E:=E) c (Tr.enter n args) h).bind (k:=fun _ r=>H7 E rs r) (s:=H7 E rs) (fun _=>rfl) rfl (fun _=>.const)
theorem wF{f:Nat}{args:List AV}{h:Heap}{c x:XC}{n:Nat}{rs:List ResultVar}{pre:List XC}{g:Operand}(hg:E.gc f=zf)(ht:E.told f=zf)(hd:E.dlf f=znq)(hs:∀args h,srtA E f args h=znq)(hf:E.fn f=zsq ⟨x,n,rs,.dfr pre g c⟩)(hn:args.length<=n):
 callω E f args h=r9 E (evω E) g c rs pre (Tr.enter n args) h:=by
 refine(Cw (E:=E) f args h).unique ?_;grind[F9,P0,Oj,A3,zkg,gO]
end
section
variable {E:Env}{P:PE}{R:AV->AV->Prop}{Z Z' Z1:Nat->Prop}{ow ow' ow1:Nat->Option (List Nat)}{h h' h1:Heap}{K K' K1:PK}{os os' ps:List PO}{x y xc yc v k:AV}{L M:List Nat}{nt:Nat}{frc:Tr}{fr:PF}
theorem C1{a:Option PR}{f:PR->Option PR}{r:PR}(e:(a >>= f)=zsq r):∃q,a=zsq q/\f q=zsq r:=by
 cases a with
 |none=>cases e
 |some q=>grind
def m4(l:List XOp):Bool:=l.all fun o=>!o.careful
def CH(b:Nat)(Z:Nat->Prop)(ow:Nat->Option (List Nat))(h:Heap)(os:List PO)(nt:Nat)(frc:Tr)(fr:PF):Prop:=∃C B h0 A,List.length A=b/\FrR C B h0 A nt frc fr/\(∀id,C id->Z id/\h.get id=h0.get id)/\X3 b B A ow os
theorem CH.now{b:Nat}(a:CH b Z ow h os nt frc fr)(hb:b<=os.length):FrR Z ow h os nt frc fr:=by
 obtain⟨Z0,ow0,h0,os0,rfl,A,a2,a3⟩:=a;exact A.keep a2 ⟨hb,a3⟩
theorem CH.step{b:Nat}(a:CH b Z ow h os nt frc fr)(hz:∀id,Z id->Z' id/\h'.get id=h.get id)(C:X3 b ow os ow' os'):CH b Z' ow' h' os' nt frc fr:=by
 obtain⟨D,A,h0,B,e,G,a2,a3⟩:=a;exact⟨D,A,h0,B,e,G,(by grind),a3.trans C⟩
theorem Mp(s:F7 Z ow h K.os)(A:K.ext<=K.os.length)(sb:Stp K.os.length Z ow h ⟨K.os,K.os.length,[]⟩ Z' ow' h' K1)(b:Nat):Stp b Z ow h K Z' ow' h' ⟨K1.os,K.ext,K1.tch++K.tch⟩:=by
 obtain⟨D,G,H⟩:=sb.th;refine⟨sb.nx,sb.zz,sb.zn,sb.un,sb.uo,⟨D,G,fun id hi=>?_⟩,fun id r t ho C=>?_,(by grind),rfl,fun j B=>sb.xk j (zkf B A),fun j B=>sb.rd j (zkf B A)⟩
 . rcases H id hi with h|⟨r,t,I,q2⟩
   . exact .inl h
   . obtain⟨_,_,r',t',q3,q4⟩:=s.live id _ I
     grind[isRt_lt]
 . rcases sb.mv id r t ho (zkf C A)with h|h
   . exact .inl h
   grind
theorem Df(e1:K1.ext=K.os.length)(e2:K1.ext<=K1.os.length)(A:X3 K.os.length ow K.os ow' K1.os):Keep' ow K.os ow' K1.os:=⟨by grind,A⟩
def OM(nt:Nat)(c:RC):Bool:=c.ps.all (fun p=>decide (p<nt))&&(I3 nt c.a&&I3 nt c.b)
theorem Nz:∀(ps:List Tmp){A args:List AV}{frc:Tr}{fr:PF},VL Z ow h os A args->ps.all (fun p=>decide (p<nt))=zt->FrR Z ow h os nt frc fr->FrR Z ow h os nt (setPs ps A frc) (setPs' ps args fr)
 |[],_,_,_,_,_,_,a=>a
 |p::ps,[],[],_,_,_,_,a=>a
 |p::ps,x::xs,y::ys,frc,fr,l,hp,a=>by
  obtain⟨h1,h2⟩:=zkb.1 hp;exact Nz ps l.inv.2 h2 (a.set (by grind) l.inv.1)
 |p::ps,[],y::ys,_,_,l,_,_=>by have:=l.1;simp at this
 |p::ps,x::xs,[],_,_,l,_,_=>by have:=l.1;simp at this
def F0(Z:Nat->Prop)(ow:Nat->Option (List Nat))(h:Heap)(K:PK)(nt:Nat)(r:IRes)(p:PR):Prop:=match p with
 |.itr e q fr' K'=>∃Z' ow' h' A,r=.ok e q A h'/\F7 Z' ow' h' K'.os/\FrR Z' ow' h' K'.os nt A fr'/\Stp K.ext Z ow h K Z' ow' h' K'/\K'.ext<=K'.os.length/\X3 K.ext ow K.os ow' K'.os
 |.ok _ _ _=>True
 |.val _ _=>True
 | .pan _ _=>True
theorem F0.trans{r:IRes}{p:PR}(s:F7 Z ow h K.os)(st:Stp K.ext Z ow h K Z' ow' h' K')(C:X3 K.ext ow K.os ow' K'.os)(c:F0 Z' ow' h' K' nt r p):F0 Z ow h K nt r p:=by
 cases p with
 |itr e q fr' K2=>obtain⟨D,ow2,h2,A,G,a2,a3,H,I,B⟩:=c;exact⟨D,ow2,h2,A,G,a2,a3,st.trans s H,I,C.trans (by rw[st.ex]at B;exact B)⟩
 |_=>trivial
theorem wG{o:Option PFn}{n:Nat}{ic:PC}(e:itOf o=zsq (n,ic)):∃x rs i,o=zsq ⟨.itf x ic,n,rs,i⟩:=by
 unfold itOf at e;grind
theorem wH{n:Nat}{caps:List AV}(v:VR Z ow h os x (.fn (.func n) [] caps)):∃A,x=.fn (.func n) [] A/\VL Z ow h os A caps:=by
 cases v with
 |fz f=>cases f
 |fn h1 _ B C=>
  rename_i as1 bs _
  have:as1=[]:=zqh h1
  subst this;exact⟨_,rfl,B,C⟩
def zR(d:List Nat)(ws:List (PK×(Nat->Option (List Nat)))):Prop:=∀c,rA c d=zt->∃p∈ws,∃r t,p.2 c=zsq (r::t)/\r∈p.1.tch
def GQ(Z:Nat->Prop)(ow:Nat->Option (List Nat))(h:Heap)(K:PK)(r:Res)(p:PR):Prop:=match p with
 |.ok _ _ K'=>∃Z' ow' h',r=.ok .und h'/\F7 Z' ow' h' K'.os/\Stp K.ext Z ow h K Z' ow' h' K'/\K'.ext<=K'.os.length/\X3 K.ext ow K.os ow' K'.os
 |_=>False
theorem wI{o:Option PFn}{n:Nat}{d d2:Tmp}{c:PC}(e:rcOf o=zsq (n,d,d2,c)):∃x i,o=zsq ⟨.rcv x d d2 c,n,[],i⟩:=by
 unfold rcOf at e;grind
theorem kP(g:Operand)(c:XC)(rs:List ResultVar):∀(a:PC){frc A:Tr}{h h':Heap},evω E a.er frc h=.ok .normal A h'->r9 E (evω E) g c rs a.pieces frc h=I0 E (evω E) (opv E g A) rs A (evω E c A h'):=by
 intro a;have one:∀(x:XC){frc A:Tr}{h h':Heap},evω E x frc h=.ok .normal A h'->r9 E (evω E) g c rs [x] frc h=I0 E (evω E) (opv E g A) rs A (evω E c A h'):=fun x frc A h h' e=>by
  show Bc _ (evω E x frc h)=_
  rw[e];rfl
 induction a with
 |seq a b _ B=>
  intro frc A h h' e;have e:evω E (.seq a.er b.er) frc h=.ok .normal A h':=e;rw[CC]at e;show Bc (r9 E (evω E) g c rs b.pieces) (evω E a.er frc h)=_
  cases ho:evω E a.er frc h with
  |ok x fr1 h1=>
   rw[ho]at e;cases x with
   |normal=>exact B e
   |_=>cases e
  |_=>rw[ho]at e;cases e
 |_=>exact fun e=>one _ e
theorem bodyJ_or(c:PC):(∃x a g d,c=.dfr x a g d)\/(∃x d d2 b,c=.rcv x d d2 b)\/((∀fr K,bodyJ c fr K=.code c fr K)/\(Yh c=.plain\/∃ic,Yh c=.itf ic)):=by
 cases c<;>first|exact .inl ⟨_,_,_,_,rfl⟩|exact .inr (.inl ⟨_,_,_,_,rfl⟩)|exact .inr (.inr ⟨fun _ _=>rfl,.inl rfl⟩)|exact .inr (.inr ⟨fun _ _=>rfl,.inr ⟨_,rfl⟩⟩)
def ON(P:PE):PJ->PR->Prop
 |.code c fr K,r=>∀nt Z ow h frc,F7 Z ow h K.os->K.ext<=K.os.length->FrR Z ow h K.os nt frc fr->I3 nt c=zt->B8 Z ow h K nt (evω P.E c.er frc h) r
 |.ops l fr K,r=>∀nt Z ow h frc,F7 Z ow h K.os->K.ext<=K.os.length->FrR Z ow h K.os nt frc fr->Uw nt l=zt->B8 Z ow h K nt (H1 P.E (callω P.E) l frc h) r
 |.opsD l fr K,r=>∀nt Z ow h frc d,F7 Z ow h K.os->K.ext<=K.os.length->FrR Z ow h K.os nt frc fr->Uw nt l=zt->(d=[]\/m4 l=zt)->B8 Z ow h K nt (evOpsD P.E (callω P.E) l frc h d) r
 |.opsS S l fr K,r=>∀nt Z ow h frc d ws,F7 Z ow h K.os->K.ext<=K.os.length->FrR Z ow h K.os nt frc fr->Uw nt l=zt->ws.map Prod.fst=S->zR d ws->(∀p∈ws,Keep' p.2 p.1.os ow K.os)->B8 Z ow h K nt (evOpsD P.E (callω P.E) l frc h d) r
 |.call f args K,r=>∀Z ow h A,F7 Z ow h K.os->K.ext<=K.os.length->VL Z ow h K.os A args->zQ Z ow h K (callω P.E f A h) r
 |.body f args K,r=>∀Z ow h A,F7 Z ow h K.os->K.ext<=K.os.length->VL Z ow h K.os A args->nK Z ow h K (callω P.E f A h) r
 |.iter c m ic p fr K,r=>∀nt C Z ow h frc B,F7 Z ow h K.os->K.ext<=K.os.length->FrR Z ow h K.os nt frc fr->CH K.ext Z ow h K.os C B c.fr->I3 nt ic=zt->OM C c=zt->F0 Z ow h K nt (evI P.E (evω P.E) nt (roundY (evω P.E) c.ps c.a.er c.b.er B) m ic.eri p frc h) r
 |.dfc a g c fr K,r=>∀nt Z ow h frc,F7 Z ow h K.os->K.ext<=K.os.length->FrR Z ow h K.os nt frc fr->(I3 nt a&&I3 nt c)=zt->∃D,(∀rs,r9 P.E (evω P.E) g c.er rs a.pieces frc h=H7 P.E rs D)/\B8 Z ow h K nt D r
 |.rcv x v K,r=>∀Z ow h xc vc,F7 Z ow h K.os->K.ext<=K.os.length->VR Z ow h K.os xc x->VR Z ow h K.os vc v->GQ Z ow h K (Ep P.E (evω P.E) xc vc h) r
 | .round c args K,r=>∀C Z ow h B A,F7 Z ow h K.os->K.ext<=K.os.length->FrR Z ow h K.os C B c.fr->VL Z ow h K.os A args->OM C c=zt->B8 Z ow h K C (roundY (evω P.E) c.ps c.a.er c.b.er B A h) r
theorem kQ(call:C7)(o:XOp)(l:List XOp)(frc:Tr)(h:Heap):H1 E call (o::l) frc h=onOB (guardOk o.gd frc) .bad (Y1 o.dst (H1 E call l) frc (evOp E call o.op frc h)) (H1 E call l (setDst o.dst skipped frc) h):=rfl
theorem Pc(call:C7)(o:XOp)(l:List XOp)(frc:Tr)(h:Heap)(d:List Nat):evOpsD E call (o::l) frc h d=onOB (guardOk o.gd frc) .bad (O9 o.dst (evOpsD E call l) (virtD E call l o.late (setDst o.dst skipped frc) h d) frc (evOpD E call o frc h d)) (evOpsD E call l (setDst o.dst skipped frc) h d):=rfl
structure Did2(Z:Nat->Prop)(ow:Nat->Option (List Nat))(h:Heap)(K:PK)(r:Res)(v:AV)(K':PK)(Z':Nat->Prop)(ow':Nat->Option (List Nat))(vc:AV)(h':Heap):Prop where
 r:r=.ok vc h'
 st:F7 Z' ow' h' K'.os
 kp:Keep' ow K.os ow' K'.os
 vr:VR Z' ow' h' K'.os vc v
 sp:∀b,Stp b Z ow h K Z' ow' h' K'
theorem Did'.two{r:Res}{vc:AV}(a:Did' Z ow h K r v K' ow' vc h'):Did2 Z ow h K r v K' Z ow' vc h':=⟨a.r,a.st,a.kp,a.vr,a.sp⟩
theorem dst_cons{o:XOp}{l:List XOp}(e:Uw nt (o::l)=zt):(match o.dst with|none=>zt|some t=>decide (t<nt))=zt/\Uw nt l=zt:=by
 exact zkb.1 e
theorem Dg{o:XOp}{l:List XOp}(e:m4 (o::l)=zt):o.careful=zf/\m4 l=zt:=by
 grind[m4]
theorem kR(r:Option Nat):readOk r []=zt:=by cases r<;>rfl
theorem gP{call:C7}{o:XOp}{d:List Nat}{l:List XOp}(B:o.quiet=zf)(A:d=[]\/m4 (o::l)=zt):evOpD E call o frc h d=w9 d (evOp E call o.op frc h):=by
 unfold evOpD;rw[B];show(bif o.careful then _ else _)=_
 cases hc:o.careful with
 |false=>rfl
 |true=>
  rcases A with rfl|A
  . rw[kR];rfl
  . rw[(Dg A).1]at hc;cases hc
theorem Oa{b:Nat}(sb:Stp b Z ow {h with tch:=[]} {K with tch:=[]} Z' ow' h1 K1):Stp b Z ow h K Z' ow' {h1 with tch:=Bp (H2 h.next h1.tch) h.tch} {K1 with tch:=K1.tch++K.tch}:=by
 obtain⟨l0,f1,f2⟩:=sb.th;refine⟨sb.nx,sb.zz,sb.zn,sb.un,sb.uo,⟨H2 h.next h1.tch,by grind[Hb],fun id hi=>?_⟩,fun id r t ho A=>?_,(by grind),sb.ex,sb.xk,sb.rd⟩
 . grind[l6]
 . rcases sb.mv id r t ho A with h|h
   . exact .inl h
   grind
theorem Yi{call:C7}{o:XOp}{d:List Nat}{l:List XOp}(C:o.quiet=zt)(s:F7 Z ow h K.os)(B:d=[]\/m4 (o::l)=zt){r:AV}{Z':Nat->Prop}{ow':Nat->Option (List Nat)}{vc:AV}{h1:Heap}
 (a:Did2 Z ow {h with tch:=[]} {K with tch:=[]} (evOp E call o.op frc {h with tch:=[]}) v K1 Z' ow' vc h1)(A:Am K.os.length l K1=zt):
 ∃h2 d2,evOpD E call o frc h d=.ok vc h2 d2/\Did2 Z ow h K (.ok vc h2) v {K1 with tch:=K1.tch++K.tch} Z' ow' vc h2/\(d2=[]\/m4 l=zt):=by
 have e:evOpD E call o frc h d=.ok vc {h1 with tch:=Bp (H2 h.next h1.tch) h.tch} (Bp (H2 h.next h1.tch) d):=by
  unfold evOpD;rw[C];show z7 h.next h.tch d (evOp E call o.op frc {h with tch:=[]})=_
  rw[a.r];rfl
 refine⟨_,_,e,⟨rfl,a.st.congr rfl (fun _=>rfl),a.kp,a.vr.keep (fun _ hz=>⟨hz,rfl⟩) (.refl _ _),fun b=>?_⟩,?_⟩
 . exact Oa (a.sp b)
 . unfold Am at A
   rcases zkd.1 A with A|A
   . rcases B with rfl|B
     . left
       obtain⟨D,G,H⟩:=(a.sp K.os.length).th
       have:H2 h.next h1.tch=[]:=Oy fun i hi=>by
        rw[G]at hi;have hi:i∈D:=by grind
        rcases H i hi with h|⟨r,t,I,q2⟩
        . exact h
        . obtain⟨_,_,r',t',q3,q4⟩:=s.live i _ I
          grind[isRt_lt]
       rw[this];rfl
     . exact .inr (Dg B).2
   . exact .inr A
theorem Hq(gl:wU E)(ti:GN E){call:C7}:∀(l:List XOp){s:List Bool}{Z:Nat->Prop}{ow:Nat->Option (List Nat)}{h:Heap}{K:PK}{frc:Tr}{fr:PF}{d:List Nat},F7 Z ow h K.os->K.ext<=K.os.length->FrR Z ow h K.os nt frc fr->Uw nt l=zt->(d=[]\/m4 l=zt)->j6 E l s fr K=zt->virtD E call l s frc h d=zt
 |[],_,_,_,_,_,_,_,_,_,_,_,_,_,_=>rfl
 |o::l,[],_,_,_,_,_,_,_,_,_,_,_,_,e=>by cases e
 |o::l,zt::s,Z,ow,h,K,frc,fr,d,p,hx,a,hd,hdd,e=>Hq gl ti l p hx (a.setd (dst_cons hd).1 vr_skipped) (dst_cons hd).2 (hdd.imp id fun e=>(Dg e).2) e
 |o :: l,zf::s,Z,ow,h,K,frc,fr,d,p,hx,a,hd,hdd,e=>by
  obtain⟨B,C⟩:=dst_cons hd;have A:d=[]\/m4 l=zt:=hdd.imp id fun e=>(Dg e).2
  unfold j6 at e;show onOB (guardOk o.gd frc) zf (virtThen o.dst (virtD E call l s) frc (evOpD E call o frc h d)) (virtD E call l s (setDst o.dst skipped frc) h d)=zt
  cases hg:guardP o.gd fr with
  |none=>grind
  |some b=>
   rw[hg]at e;rw[m0 a hg];cases b with
   |false=>exact Hq gl ti l p hx (a.setd B vr_skipped) C A e
   |true=>
    obtain⟨hq,e⟩:=zkb.1 e;show virtThen o.dst (virtD E call l s) frc (evOpD E call o frc h d)=zt
    rw[gP (by grind) hdd];cases D:prim E o.op fr K with
    |val v K'=>
     rw[D]at e;obtain⟨ow',vc,h',dd⟩:=De gl ti p hx a D call;rw[dd.r];exact Hq gl ti l dd.st (Gw hx dd.kp (dd.sp 0).ex) ((a.keep (dd.sp 0).zz dd.kp).setd B dd.vr) C A e
    |_=>grind
theorem bU{os:List PO}{id:Nat}(h:CD os id=zt):loP os 6 id=zsq [id]:=by
 grind[CD,loP]
theorem zS{id i off:Nat}(v:VR Z ow h os x (.ptr id i off)):∃c,x=.ptr c i off/\∀L,loP os 6 id=zsq L->ow c=zsq L:=by
 cases v with
 |fz f=>cases f
 |ptr h1 h2=>grind
theorem bV{i:Nat}:∀{l:List Nat},rA i l=zt->i∈l
 |[],h=>by cases h
 |j::l,h=>by
  have h:(bif Nat.beq j i then zt else rA i l)=zt:=h;cases e:Nat.beq j i with
  |true=>simp_all
  |false=>rw[e]at h;exact zqj.2 (.inr (bV h))
theorem bW{i:Nat}:∀{l:List Nat},i∈l->rA i l=zt
 |j :: l,h=>by
  show(bif Nat.beq j i then zt else rA i l)=zt
  rcases zqj.1 h with rfl|h
  . rw[zkh];rfl
  . cases Nat.beq j i with
    |true=>rfl
    |false=>exact bW h
theorem Jy{call:C7}{o:XOp}{d:List Nat}{l:List XOp}(G:o.quiet=zt)(s:F7 Z ow h K.os)(hd:d=[]\/m4 (o::l)=zt){r:AV}{Z':Nat->Prop}{ow':Nat->Option (List Nat)}{vc:AV}{h1:Heap}
 (a:Did2 Z ow {h with tch:=[]} {K with tch:=[]} (evOp E call o.op frc {h with tch:=[]}) v K1 Z' ow' vc h1):
 ∃h2 d2,evOpD E call o frc h d=.ok vc h2 d2/\Did2 Z ow h K (.ok vc h2) v {K1 with tch:=K1.tch++K.tch} Z' ow' vc h2/\(d=[]->∀c,rA c d2=zt->∃r t,ow c=zsq (r::t)/\r∈K1.tch):=by
 have e:evOpD E call o frc h d=.ok vc {h1 with tch:=Bp (H2 h.next h1.tch) h.tch} (Bp (H2 h.next h1.tch) d):=by
  unfold evOpD;rw[G];show z7 h.next h.tch d (evOp E call o.op frc {h with tch:=[]})=_
  rw[a.r];rfl
 refine⟨_,_,e,⟨rfl,a.st.congr rfl (fun _=>rfl),a.kp,a.vr.keep (fun _ hz=>⟨hz,rfl⟩) (.refl _ _),fun b=>?_⟩,?_⟩
 . exact Oa (a.sp b)
 . rintro rfl c hc
   have hc:=bV hc;rw[Hb,zql]at hc;obtain⟨A,hc2⟩:=l6.1 hc;obtain⟨_,_,H,t',I,q4⟩:c<h.next/\¬Z c/\∃r t,(∃L,ow c=zsq L/\L=r::t)/\isRt K.os r=zt:=by
    obtain⟨B,C,D⟩:=(a.sp 0).th;rw[C]at A;have A:c∈B:=by grind
    rcases D c A with h|⟨r,t,h1,_⟩
    . grind
    . obtain⟨p1,p2,H,t',p3,p4⟩:=s.live c _ h1
      grind
   obtain⟨L,q5,rfl⟩:=I;obtain⟨B,C,D⟩:=(a.sp K.os.length).th;grind[isRt_lt]
theorem gQ{n:Nat}{l:List XOp}{K1:PK}(A:¬Am n l K1=zt):¬m4 l=zt:=fun e=>A (zkd.2 (.inr e))
theorem wJ(gl:wU E){call:C7}{o:XOp}{d:List Nat}{ws:List (PK×(Nat->Option (List Nat)))}(a:FrR Z ow h K.os nt frc fr)(Y:o.quiet=zf)(sf:zR d ws)(kp:∀p∈ws,Keep' p.2 p.1.os ow K.os)(hc:bO E (ws.map Prod.fst) K fr o=zt):evOpD E call o frc h d=w9 d (evOp E call o.op frc h):=by
 unfold evOpD;rw[Y];show(bif o.careful then _ else _)=_
 cases I:o.careful with
 |false=>rfl
 |true=>
  have:readOk (readO E o.op frc) d=zt:=by
   cases A:readO E o.op frc with
   |none=>rfl
   |some c=>
    show(!(rA c d))=zt
    cases J:rA c d with
    |false=>rfl
    |true=>
     obtain⟨p,U,r0,t0,e1,e2⟩:=sf c J;have hc:=zqf.1 hc p.1 (zqm.2 ⟨p,U,rfl⟩);have kp:=kp p U;unfold CE at hc;rw[I]at hc;dsimp only at hc;cases N:o.op<;>rw[N]at hc A<;>first|(cases hc;done)|skip
     rename_i t x
     change fT K.os p.1 (opvP E x fr)=zt at hc
     have Q:=Ao gl a x;cases O:opvP E x fr<;>rw[O]at hc Q<;>first|(cases hc;done)|skip
     rename_i id i off;obtain⟨C,B⟩:=zkb.1 hc;obtain⟨B,V⟩:=zkb.1 B;have B:¬id∈p.1.tch:=by simpa using B
     obtain⟨c',G,H⟩:=zS Q
     change n8 (opv E x frc)=zsq c at A
     rw [G]at A;cases A;have D:id<p.1.os.length:=by
      unfold CD at C;split at C
      . rename_i e;exact(zqc.1 e).1
      . cases C
     obtain⟨L,X,q2⟩:=kp.2 id D [id] (bU V);rw[bU C]at X;cases X;have w0:=(q2 c).2 (H [id] (bU V));rw[w0]at e1;cases e1;exact absurd e2 B
  grind
theorem kS{call:C7}{o:XOp}{d:List Nat}{ws:List (PK×(Nat->Option (List Nat)))}(A:o.quiet=zt)(s:F7 Z ow h K.os)(B:zR d ws){Z':Nat->Prop}{ow':Nat->Option (List Nat)}{vc:AV}{h1:Heap}
 (a:Did2 Z ow {h with tch:=[]} {K with tch:=[]} (evOp E call o.op frc {h with tch:=[]}) v K1 Z' ow' vc h1):
 ∃h2 d2,evOpD E call o frc h d=.ok vc h2 d2/\Did2 Z ow h K (.ok vc h2) v {K1 with tch:=K1.tch++K.tch} Z' ow' vc h2/\zR d2 ((⟨K.os,0,K1.tch⟩,ow)::ws):=by
 have e:evOpD E call o frc h d=.ok vc {h1 with tch:=Bp (H2 h.next h1.tch) h.tch} (Bp (H2 h.next h1.tch) d):=by
  unfold evOpD;rw[A];show z7 h.next h.tch d (evOp E call o.op frc {h with tch:=[]})=_
  rw[a.r];rfl
 have C:evOpD E call o frc h []=.ok vc {h1 with tch:=Bp (H2 h.next h1.tch) h.tch} (Bp (H2 h.next h1.tch) []):=by
  unfold evOpD;rw[A];show z7 h.next h.tch [] (evOp E call o.op frc {h with tch:=[]})=_
  rw[a.r];rfl
 obtain⟨h2,d2,e2,dd,D⟩:=Jy (l:=[]) A s (.inl rfl) (r:=v) a;rw[C]at e2;cases e2;refine⟨_,_,e,dd,fun c hc=>?_⟩;have hc:=bV hc;rw[Hb]at hc;rcases zqk.1 hc with hc|hc
 . obtain⟨r,t,G,H⟩:=D rfl c (by rw[Hb,zql];exact bW hc)
   exact⟨_,zqi ..,r,t,G,H⟩
 . obtain⟨p,I,k⟩:=B c (bW hc)
   exact⟨p,zqp _ I,k⟩
theorem B8.next{r:CRes}{p:PR}(s:F7 Z ow h K.os)(A:K.ext<=K.os.length){r0:Res}{vc:AV}(a:Did2 Z ow h K r0 v K' Z' ow' vc h')(H:F7 Z' ow' h' K'.os->K'.ext<=K'.os.length->B8 Z' ow' h' K' nt r p):B8 Z ow h K nt r p:=
 (H a.st (Gw A a.kp (a.sp 0).ex)).trans s (a.sp _) (a.kp.e A)
theorem OO(hP:PEok P):∀(j:PJ)(r:PR),evP P j=zsq r->ON P j r:=by
 refine evP.partial_correctness P (ON P) fun ev ih j r hr=>?_
 unfold evG at hr;cases j with
 |code c fr K=>
  intro nt Z ow h frc s hx a hc;cases c with
  |skip=>cases hr;exact⟨Z,ow,h,frc,GB,s,a,.refl _ _ _ _ _,hx,.refl _ _ _⟩
  |exit i=>cases hr;exact⟨Z,ow,h,frc,GC i,s,a,.refl _ _ _ _ _,hx,.refl _ _ _⟩
  |ret=>cases hr;exact⟨Z,ow,h,frc,NU,s,a,.refl _ _ _ _ _,hx,.refl _ _ _⟩
  |reg d l=>
   cases d with
   |false=>show B8 _ _ _ _ _ (evω P.E (.reg zf l) frc h) r;rw[NV];exact ih (.ops l fr K) r hr nt Z ow h frc s hx a hc
   |true=>show B8 _ _ _ _ _ (evω P.E (.reg zt l) frc h) r;rw[GD];exact ih (.opsD l fr K) r hr nt Z ow h frc [] s hx a hc (.inl rfl)
  |seq c1 c2=>
   obtain⟨hc1,hc2⟩:=zkb.1 hc;obtain⟨q,h1,h2⟩:=C1 hr;have k1:=ih _ _ h1 nt Z ow h frc s hx a hc1;show B8 _ _ _ _ _ (evω P.E (.seq c1.er c2.er) frc h) r
   rw[CC];cases q with
   |pan v K'=>cases h2;obtain⟨Z',ow',h',vc,e,b2,b3,b4,b5⟩:=k1;rw[e];exact⟨Z',ow',h',vc,rfl,b2,b3,b4,b5⟩
   |ok e fr' K'=>
    obtain⟨Z',ow',h',frc',e1,b2,b3,b4,b5,b6⟩:=k1;rw[e1];cases e with
    |normal=>exact(ih _ _ h2 nt Z' ow' h' frc' b2 b5 b3 hc2).trans s b4 b6
    |_=>cases h2;exact⟨Z',ow',h',frc',rfl,b2,b3,b4,b5,b6⟩
   |_=>cases h2
  |cond x c1 c2=>
   obtain⟨hc1,hc2⟩:=zkb.1 hc;show B8 _ _ _ _ _ (evω P.E (.cond x c1.er c2.er) frc h) r
   rw[GE];have hv:=Ao hP.gl a x
   change (match opvP P.E x fr with | .bool zt=>ev (.code c1 fr K) | .bool zf=>ev (.code c2 fr K)|_=>znq)=zsq r at hr
   cases ho:opvP P.E x fr<;>rw[ho]at hr hv<;>first|(cases hr;done)|skip
   rename_i b;rw[hv.isB];cases b with
   |true=>exact ih _ _ hr nt Z ow h frc s hx a hc1
   |false=>exact ih _ _ hr nt Z ow h frc s hx a hc2
  |block i c=>
   obtain⟨q,h1,h2⟩:=C1 hr;have k1:=ih _ _ h1 nt Z ow h frc s hx a hc;show B8 _ _ _ _ _ (evω P.E (.block i c.er) frc h) r
   rw[zE];cases q with
   |pan v K'=>cases h2;obtain⟨Z',ow',h',vc,e,b2,b3,b4,b5⟩:=k1;rw[e];exact⟨Z',ow',h',vc,rfl,b2,b3,b4,b5⟩
   |ok e fr' K'=>
    obtain⟨Z',ow',h',frc',e1,b2,b3,b4,b5,b6⟩:=k1;rw[e1];cases e with
    |exit j=>
     change (if j=i then pure (PR.ok .normal fr' K')else pure (PR.ok (.exit j) fr' K'))=zsq r at h2
     show B8 _ _ _ _ _ (bif Nat.beq j i then .ok .normal frc' h' else .ok (.exit j) frc' h') r
     by_cases e:j=i
     . rw[if_pos e]at h2;cases h2
       rw[e,zkh];exact⟨Z',ow',h',frc',rfl,b2,b3,b4,b5,b6⟩
     . rw[if_neg e]at h2;cases h2
       rw[show Nat.beq j i=zf from(by cases hb:Nat.beq j i with|false=>rfl|true=>exact absurd (zkj hb) e)];exact⟨Z',ow',h',frc',rfl,b2,b3,b4,b5,b6⟩
    |_=>cases h2;exact⟨Z',ow',h',frc',rfl,b2,b3,b4,b5,b6⟩
   |_=>cases h2
  |loop c=>
   obtain⟨q,h1,h2⟩:=C1 hr;have k1:=ih _ _ h1 nt Z ow h frc s hx a hc;show B8 _ _ _ _ _ (evω P.E (.loop c.er) frc h) r
   rw[GF];cases q with
   |pan v K'=>cases h2;obtain⟨Z',ow',h',vc,e,b2,b3,b4,b5⟩:=k1;rw[e];exact⟨Z',ow',h',vc,rfl,b2,b3,b4,b5⟩
   |ok e fr' K'=>
    obtain⟨Z',ow',h',frc',e1,b2,b3,b4,b5,b6⟩:=k1;rw[e1];cases e with
    |normal=>exact(ih _ _ h2 nt Z' ow' h' frc' b2 b5 b3 hc).trans s b4 b6
    |_=>cases h2;exact⟨Z',ow',h',frc',rfl,b2,b3,b4,b5,b6⟩
   |_=>cases h2
  |scope c=>show B8 _ _ _ _ _ (evω P.E (.scope c.er) frc h) r;rw[zF];exact ih _ _ hr nt Z ow h frc s hx a hc
  |pre keep c=>
   obtain⟨ow',b1,b2,b3,b4,b5⟩:=Mm s a keep;exact(ih _ _ hr nt Z ow' h frc b1 b4 b2 hc).trans s b3 (fun id hi=>b5 id hi (zkf hi hx))
  |post keep c=>
   obtain⟨q,h1,h2⟩:=C1 hr;have k1:=ih _ _ h1 nt Z ow h frc s hx a hc;show B8 _ _ _ _ _ (evω P.E c.er frc h) r
   cases q with
   |pan v K'=>
    cases h2;obtain⟨Z',ow',h',vc,e1,b2,b3,b4,b5,b6⟩:=k1;obtain⟨ow2,c1,c2,c3,c4,c5⟩:=Mm b2 (Hp (nt:=1) (.cons b3 .nil) (zke _) (by decide)) [0];exact⟨Z',ow2,h',vc,e1,c1,c2.v 0,b4.trans s c3,c4,b6.trans (fun id hi=>c5 id (by rw[b4.ex];exact hi) (zkf (by rw[b4.ex];exact hi) b5))⟩
   |ok e fr' K'=>
    cases e with
    |normal=>
     cases h2;obtain⟨Z',ow',h',frc',e1,b2,b3,b4,b5,b6⟩:=k1;obtain⟨ow2,c1,c2,c3,c4,c5⟩:=Mm b2 b3 keep;exact⟨Z',ow2,h',frc',e1,c1,c2,b4.trans s c3,c4,b6.trans (fun id hi=>c5 id (by rw[b4.ex];exact hi) (zkf (by rw[b4.ex];exact hi) b5))⟩
    |_=>cases h2;exact k1
   |_=>cases h2
  |rfn g ps x y=>
   obtain⟨hps,hc2⟩:=zkb.1 hc;show B8 _ _ _ _ _ (evω P.E (.rfn g ps x.er y.er) frc h) r
   rw[OL];dsimp only at hr;have hv:=Ao hP.gl a g;split at hr
   . rename_i n caps ho
     rw[ho]at hv;obtain⟨capc,hvc,hl⟩:=wH hv;rw[hvc];split at hr
     . rename_i nf ic hit
       obtain⟨xc,rs,ii,hf⟩:=wG hit;have F:=hP.fn n _ hf;split at hr
       . rename_i hlen
         obtain ⟨q,h1,h2⟩:=C1 hr;have hl':VL Z ow h K.os (.any::capc) (.any::caps):=.cons .any hl;have k1:=ih _ _ h1 nf nt Z ow h _ frc s (zke _) (Hp hl' (by simpa using hlen) F.nt) ⟨Z,ow,h,K.os,rfl,a,fun _ hz=>⟨hz,rfl⟩,.refl _ _ _⟩ F.ok hc;have e0:rfnA P.E (evω P.E) ps x.er y.er frc h (.fn (.func n) [] capc)=backA frc (finI (evI P.E (evω P.E) nf (roundY (evω P.E) ps x.er y.er frc) itMax ic.eri znq (Tr.enter nf (.any::capc)) h)):=by
          show backA frc (itF P.E (evω P.E) n capc (roundY (evω P.E) ps x.er y.er frc) h)=_
          unfold itF;rw[F.fn];show backA frc (bif Nat.ble (Nat.succ (lenL capc)) nf then _ else _)=_
          rw[A3,hl.1,zkg hlen];rfl
         rw [e0];have fin:∀{e:Ex}{p:Option Ex}{fr1:PF}{K1:PK},e=.normal\/e=.ret->F0 Z ow h ⟨K.os,K.os.length,[]⟩ nf (evI P.E (evω P.E) nf (roundY (evω P.E) ps x.er y.er frc) itMax ic.eri znq (Tr.enter nf (.any::capc)) h) (.itr e p fr1 K1)->B8 Z ow h K nt (backA frc (finI (evI P.E (evω P.E) nf (roundY (evω P.E) ps x.er y.er frc) itMax ic.eri znq (Tr.enter nf (.any::capc)) h))) (.ok (rB p) fr ⟨K1.os,K.ext,K1.tch++K.tch⟩):=fun{e p fr1 K1} he o=>by
          obtain⟨Z',ow',h',frc',e1,b2,b3,b4,b5,b6⟩:=o;have kp:Keep' ow K.os ow' K1.os:=Df b4.ex b5 b6;refine⟨Z',ow',h',frc,?_,b2,a.keep b4.zz kp,Mp s hx b4 _,zki hx kp.1,kp.e hx⟩;rw[e1];rcases he with rfl|rfl<;>rfl
         cases q with
         |itr e p fr1 K1=>
          cases e with
          |exit=>cases h2
          |normal=>cases h2;exact fin (.inl rfl) k1
          |ret=>cases h2;exact fin (.inr rfl) k1
         |_=>cases h2
       . cases hr
     . cases hr
   . cases hr
  |_=>cases hr
 |rcv x v K=>
  intro Z ow h xc vc s hx vx vv;dsimp only at hr;split at hr
  . rename_i n caps
    obtain⟨capc,rfl,hl⟩:=wH vx;split at hr
    . rename_i nt d d2 c hrc
      obtain⟨x0,i,hf⟩:=wI hrc;have F:=hP.fn n _ hf;obtain⟨hdd,hcc⟩:=zkb.1 F.ok;obtain⟨hd1,hd2⟩:=zkb.1 hdd;have hd1:decide (d<nt)=zt:=hd1;have hd2:decide (d2<nt)=zt:=hd2;split at hr
      . rename_i hlen
        obtain ⟨q,h1,h2⟩:=C1 hr;have k1:=ih _ _ h1 nt Z ow h _ s hx (Nz [d,d2] (.cons vv (.cons vv .nil)) (by show(decide (d<nt)&&(decide (d2<nt)&&zt))=zt;rw[hd1,hd2];rfl) (Hp hl hlen F.nt)) hcc;have e0:Ep P.E (evω P.E) (.fn (.func n) [] capc) vc h=rcvEnd (evω P.E c.er (setPs [d,d2] [vc,vc] (Tr.enter nt capc)) h):=by
         show Rg P.E (evω P.E) n capc vc h=_
         unfold Rg;rw[F.fn];show(bif Nat.ble (lenL capc) nt&&zt then(bif Nat.blt d nt then _ else _)else _)=_
         rw[A3,hl.1,zkg hlen,show Nat.blt d nt=zt from zkg (Nat.succ_le_of_lt (of_decide_eq_true hd1))];rfl
        rw[e0];cases q with
        |ok e fr' K'=>
         obtain⟨Z',ow',h',frc',e1,b2,b3,b4,b5,b6⟩:=k1;rw[e1];cases e with
         |exit=>cases h2
         |_=>cases h2;exact⟨Z',ow',h',rfl,b2,b4,b5,b6⟩
        |_=>cases h2
      . cases hr
    . cases hr
  . cases hr
 |dfc a g c fr K=>
  intro nt Z ow h frc s hx fR hc;obtain⟨hca,hcc⟩:=zkb.1 hc;obtain⟨q,h1,h2⟩:=C1 hr;have k1:=ih _ _ h1 nt Z ow h frc s hx fR hca;cases q with
  |ok e fr1 K1=>
   cases e with
   |normal=>
    obtain⟨Z1,ow1,hh1,frc1,e1,b2,b3,b4,b5,b6⟩:=k1;obtain⟨q2,h3,h4⟩:=C1 h2;have k2:=ih _ _ h3 nt Z1 ow1 hh1 frc1 b2 (zke _) b3 hcc;have e0:∀rs,r9 P.E (evω P.E) g c.er rs a.pieces frc h=I0 P.E (evω P.E) (opv P.E g frc1) rs frc1 (evω P.E c.er frc1 hh1):=fun rs=>kP g c.er rs a e1
    have hv:=Ao hP.gl b3 g;have fin:∀{Z2:Nat->Prop}{ow2:Nat->Option (List Nat)}{hh2:Heap}{K2:PK}{frc2:Tr}{fr2:PF}{v vc:AV}{r:PR},F7 Z2 ow2 hh2 K2.os->Stp K1.os.length Z1 ow1 hh1 ⟨K1.os,K1.os.length,[]⟩ Z2 ow2 hh2 K2->K2.ext<=K2.os.length->X3 K1.os.length ow1 K1.os ow2 K2.os->FrR Z2 ow2 hh2 K2.os nt frc2 fr2->VR Z2 ow2 hh2 K2.os vc v ->
     (∀rs,I0 P.E (evω P.E) (opv P.E g frc1) rs frc1 (evω P.E c.er frc1 hh1)=k8 P.E rs frc2 (Ep P.E (evω P.E) (opv P.E g frc1) vc hh2))->(∃q,ev (.rcv (opvP P.E g fr1) v ⟨K2.os,K2.os.length,[]⟩)=zsq q/\(match q with | .ok _ _ K3=>zsq (.ok .ret fr2 ⟨K3.os,K1.ext,K3.tch++(K2.tch++K1.tch)⟩)|_=>znq)=zsq r) ->
     ∃rc,(∀rs,r9 P.E (evω P.E) g c.er rs a.pieces frc h=H7 P.E rs rc)/\B8 Z ow h K nt rc r:=fun{Z2 ow2 hh2 K2 frc2 fr2 v vc r} c2 c4 c5 c6 c3 cv ce cq=>by
     obtain⟨q3,h5,h6⟩:=cq;have kp:Keep' ow1 K1.os ow2 K2.os:=Df c4.ex c5 c6;have k3:=ih _ _ h5 Z2 ow2 hh2 _ vc c2 (zke _) (hv.keep c4.zz kp) cv;cases q3 with
     |ok e3 fr3 K3=>
      cases h6;obtain⟨Z3,ow3,hh3,d1,d2,d3,d4,d5⟩:=k3;have kp2:Keep' ow2 K2.os ow3 K3.os:=Df d3.ex d4 d5;refine⟨.ok .ret frc2 hh3,fun rs=>?_,Z3,ow3,hh3,frc2,rfl,d2,c3.keep d3.zz kp2,?_,?_,?_⟩
      . rw[e0,ce,d1];rfl
      . have s1:=Mp b2 b5 c4 K1.ext
        have hx2:(⟨K2.os,K1.ext,K2.tch++K1.tch⟩:PK).ext<=(⟨K2.os,K1.ext,K2.tch++K1.tch⟩:PK).os.length:=zki b5 kp.1;have s2:=Mp (K:=⟨K2.os,K1.ext,K2.tch++K1.tch⟩) c2 hx2 d3 K1.ext
        have:=b4.trans s (s1.trans b2 s2)
        exact this
      . exact zki b5 (zki kp.1 kp2.1)
      . have:=b6.trans (by rw[b4.ex.symm];exact(kp.trans kp2).e b5)
        exact this
     |_=>cases h6
    cases q2 with
    |pan v K2=>
     obtain⟨Z2,ow2,hh2,vc,f1,f2,f3,f4,f5,f6⟩:=k2;exact fin f2 f4 f5 f6 (b3.keep f4.zz (Df f4.ex f5 f6)) f3 (fun rs=>by rw[f1];rfl) (C1 h4)
    |ok e2 fr2 K2=>
     obtain⟨Z2,ow2,hh2,frc2,f1,f2,f3,f4,f5,f6⟩:=k2;cases e2 with
     |exit=>cases h4
     |_=>exact fin f2 f4 f5 f6 f3 (.fz .niliface) (fun rs=>by rw[f1];rfl) (C1 h4)
    |_=>cases h4
   |_=>cases h2
  |_=>cases h2
 |round c args K=>
  intro nt0 Z ow h frc0 argc s hx a hl hc;obtain⟨hps,hc2⟩:=zkb.1 hc;obtain⟨hca,hcb⟩:=zkb.1 hc2;dsimp only at hr;split at hr
  . rename_i hlen
    obtain⟨q,h1,h2⟩:=C1 hr;have k1:=ih _ _ h1 nt0 Z ow h _ s hx (Nz c.ps hl hps a) hca;unfold roundY;rw[A3,Yp,hl.1,hlen,zkh];show B8 _ _ _ _ _ (Ej (evω P.E c.b.er) (evω P.E c.a.er (setPs c.ps argc frc0) h)) r
    cases q with
    |ok e fr' K'=>
     cases e with
     |normal=>
      obtain⟨Z',ow',h',frc',e1,b2,b3,b4,b5,b6⟩:=k1;rw[e1];exact(ih _ _ h2 nt0 Z' ow' h' frc' b2 b5 b3 hcb).trans s b4 b6
     |_=>cases h2
    |_=>cases h2
  . cases hr
 |iter c m ic p fr K=>
  intro nt nt0 Z ow h frc frc0 s hx a B hc hrc;cases m with
  |zero=>cases hr
  |succ m=>
   cases ic with
   |skip=>cases hr;exact⟨Z,ow,h,frc,rfl,s,a,.refl _ _ _ _ _,hx,.refl _ _ _⟩
   |exit i=>cases hr;exact⟨Z,ow,h,frc,rfl,s,a,.refl _ _ _ _ _,hx,.refl _ _ _⟩
   |ret=>cases hr;exact⟨Z,ow,h,frc,rfl,s,a,.refl _ _ _ _ _,hx,.refl _ _ _⟩
   |reg d l=>
    obtain⟨q,h1,h2⟩:=C1 hr;have k1:=ih _ _ h1 nt Z ow h frc s hx a hc;show F0 _ _ _ _ _ (H8 (n9 p) (evω P.E (.reg d l) frc h)) r
    cases q with
    |ok e fr' K'=>
     cases e with
     |normal=>
      cases h2;obtain⟨Z',ow',h',frc',e1,b2,b3,b4,b5,b6⟩:=k1;have e1:evω P.E (.reg d l) frc h=.ok .normal frc' h':=e1;rw[e1];exact⟨Z',ow',h',frc',rfl,b2,b3,b4,b5,b6⟩
     |_=>cases h2
    |_=>cases h2
   |seq c1 c2=>
    obtain⟨hc1,hc2⟩:=zkb.1 hc;obtain⟨q,h1,h2⟩:=C1 hr;have k1:=ih _ _ h1 nt nt0 Z ow h frc frc0 s hx a B hc1 hrc;show F0 _ _ _ _ _ (Kp (evI P.E (evω P.E) nt (roundY (evω P.E) c.ps c.a.er c.b.er frc0) m c2.eri) (evI P.E (evω P.E) nt (roundY (evω P.E) c.ps c.a.er c.b.er frc0) m c1.eri p frc h)) r
    cases q with
    |itr e p1 fr' K'=>
     obtain⟨Z',ow',h',frc',e1,b2,b3,b4,b5,b6⟩:=k1;rw[e1];cases e with
     |normal=>exact(ih _ _ h2 nt nt0 Z' ow' h' frc' frc0 b2 b5 b3 (by rw[b4.ex];exact B.step b4.zz b6) hc2 hrc).trans s b4 b6
     |_=>cases h2;exact⟨Z',ow',h',frc',rfl,b2,b3,b4,b5,b6⟩
    |_=>cases h2
   |loop c1=>
    obtain⟨q,h1,h2⟩:=C1 hr;have k1:=ih _ _ h1 nt nt0 Z ow h frc frc0 s hx a B hc hrc;show F0 _ _ _ _ _ (Kp (evI P.E (evω P.E) nt (roundY (evω P.E) c.ps c.a.er c.b.er frc0) m (.loop c1.eri)) (evI P.E (evω P.E) nt (roundY (evω P.E) c.ps c.a.er c.b.er frc0) m c1.eri p frc h)) r
    cases q with
    |itr e p1 fr' K'=>
     obtain⟨Z',ow',h',frc',e1,b2,b3,b4,b5,b6⟩:=k1;rw[e1];cases e with
     |normal=>exact(ih _ _ h2 nt nt0 Z' ow' h' frc' frc0 b2 b5 b3 (by rw[b4.ex];exact B.step b4.zz b6) hc hrc).trans s b4 b6
     |_=>cases h2;exact⟨Z',ow',h',frc',rfl,b2,b3,b4,b5,b6⟩
    |_=>cases h2
   |cond x c1 c2=>
    obtain⟨hc1,hc2⟩:=zkb.1 hc;show F0 _ _ _ _ _ ((opv P.E x frc).onBool .bad fun t=>match t with|true=>evI P.E (evω P.E) nt (roundY (evω P.E) c.ps c.a.er c.b.er frc0) m c1.eri p frc h|false=>evI P.E (evω P.E) nt (roundY (evω P.E) c.ps c.a.er c.b.er frc0) m c2.eri p frc h) r
    have hv:=Ao hP.gl a x;dsimp only at hr;cases ho:opvP P.E x fr<;>rw[ho]at hr hv<;>first|(cases hr;done)|skip
    rename_i b;rw[hv.isB];cases b with
    |true=>exact ih _ _ hr nt nt0 Z ow h frc frc0 s hx a B hc1 hrc
    |false=>exact ih _ _ hr nt nt0 Z ow h frc frc0 s hx a B hc2 hrc
   |block i c1=>
    obtain⟨q,h1,h2⟩:=C1 hr;have k1:=ih _ _ h1 nt nt0 Z ow h frc frc0 s hx a B hc hrc;show F0 _ _ _ _ _ (Iz i (evI P.E (evω P.E) nt (roundY (evω P.E) c.ps c.a.er c.b.er frc0) m c1.eri p frc h)) r
    cases q with
    |itr e p1 fr' K'=>
     obtain⟨Z',ow',h',frc',e1,b2,b3,b4,b5,b6⟩:=k1;rw[e1];cases e with
     |exit j=>
      change (if j=i then pure (PR.itr .normal p1 fr' K')else pure (PR.itr (.exit j) p1 fr' K'))=zsq r at h2
      show F0 _ _ _ _ _ (bif Nat.beq j i then .ok .normal p1 frc' h' else .ok (.exit j) p1 frc' h') r
      by_cases e:j=i
      . rw[if_pos e]at h2;cases h2
        rw[e,zkh];exact⟨Z',ow',h',frc',rfl,b2,b3,b4,b5,b6⟩
      . rw[if_neg e]at h2;cases h2
        rw[show Nat.beq j i=zf from(by cases hb:Nat.beq j i with|false=>rfl|true=>exact absurd (zkj hb) e)];exact⟨Z',ow',h',frc',rfl,b2,b3,b4,b5,b6⟩
     |_=>cases h2;exact⟨Z',ow',h',frc',rfl,b2,b3,b4,b5,b6⟩
    |_=>cases h2
   |pre keep c1=>
    obtain⟨ow',b1,b2,b3,b4,b5⟩:=Mm s a keep;have kk:X3 K.ext ow K.os ow' (G5 keep fr K).2.os:=fun id hi=>b5 id hi (zkf hi hx)
    exact(ih _ _ hr nt nt0 Z ow' h frc frc0 b1 b4 b2 (B.step (fun _ hz=>⟨hz,rfl⟩) kk) hc hrc).trans s b3 kk
   |post keep c1=>
    obtain⟨q,h1,h2⟩:=C1 hr;have k1:=ih _ _ h1 nt nt0 Z ow h frc frc0 s hx a B hc hrc;cases q with
    |itr e p1 fr' K'=>
     cases e with
     |normal=>
      cases h2;obtain⟨Z',ow',h',frc',e1,b2,b3,b4,b5,b6⟩:=k1;obtain⟨ow2,c1,c2,c3,c4,c5⟩:=Mm b2 b3 keep;exact⟨Z',ow2,h',frc',e1,c1,c2,b4.trans s c3,c4,b6.trans (fun id hi=>c5 id (by rw[b4.ex];exact hi) (zkf (by rw[b4.ex];exact hi) b5))⟩
     |_=>cases h2;exact k1
    |_=>cases h2;trivial
   |yreg p0 gd yt p1 yd args p2=>
    obtain⟨hn,hc⟩:=zkb.1 hc;obtain⟨hyt,hyd⟩:=zkb.1 hn;obtain⟨hc0,hc⟩:=zkb.1 hc;obtain⟨hc1,hc2⟩:=zkb.1 hc;have hyt:yt<nt:=of_decide_eq_true hyt;have hyd:yd<nt:=of_decide_eq_true hyd;show F0 _ _ _ _ _ (H8 (fun fr h=>onOB (guardOk gd fr) .bad (cZ P.E (evω P.E) nt (roundY (evω P.E) c.ps c.a.er c.b.er frc0) gd yt p1.er yd args p2.er p fr h) (zY (evω P.E) gd yt p1.er yd p2.er p fr h)) (evω P.E p0.er frc h)) r
    obtain⟨q,h1,h2⟩:=C1 hr;have k1:=ih _ _ h1 nt Z ow h frc s hx a hc0;cases q with
    |ok e fr1 K1=>
     cases e with
     |normal=>
      obtain⟨Z1,ow1,h1',frc1,e1,b2,b3,b4,b5,b6⟩:=k1;rw[e1];refine F0.trans s b4 b6 ?_;have B1:CH K1.ext Z1 ow1 h1' K1.os nt0 frc0 c.fr:=by rw[b4.ex];exact B.step b4.zz b6
      show F0 _ _ _ _ _ (onOB (guardOk gd frc1) .bad (cZ P.E (evω P.E) nt (roundY (evω P.E) c.ps c.a.er c.b.er frc0) gd yt p1.er yd args p2.er p frc1 h1') (zY (evω P.E) gd yt p1.er yd p2.er p frc1 h1')) r
      dsimp only at h2;cases hg:guardP gd fr1 with
      |none=>rw[hg]at h2;cases h2
      |some t=>
       rw[hg]at h2;rw[m0 b3 hg];cases t with
       |false=>
        show F0 _ _ _ _ _ (H8 (fun fr h=>onOB (guardOk gd fr) .bad .bad (H8 (n9 p) (evω P.E p2.er (fr.set yd skipped) h))) (evω P.E p1.er (frc1.set yt skipped) h1')) r
        dsimp only at h2;obtain⟨q,h3,h4⟩:=C1 h2;have k2:=ih _ _ h3 nt Z1 ow1 h1' _ b2 b5 (b3.set hyt vr_skipped) hc1;cases q with
        |ok e fr2 K2=>
         cases e with
         |normal=>
          obtain⟨Z2,ow2,h2',frc2,e2,d2,d3,d4,d5,d6⟩:=k2;rw[e2];refine F0.trans b2 d4 d6 ?_;show F0 _ _ _ _ _ (onOB (guardOk gd frc2) .bad .bad (H8 (n9 p) (evω P.E p2.er (frc2.set yd skipped) h2'))) r
          dsimp only at h4;cases hg2:guardP gd fr2 with
          |none=>rw[hg2]at h4;cases h4
          |some t=>
           rw[hg2]at h4;cases t with
           |true=>cases h4
           |false=>
            rw[m0 d3 hg2];obtain⟨q,h5,h6⟩:=C1 h4;have k3:=ih _ _ h5 nt Z2 ow2 h2' _ d2 d5 (d3.set hyd vr_skipped) hc2;cases q with
            |ok e fr3 K3=>
             cases e with
             |normal=>
              cases h6;obtain⟨Z3,ow3,h3',frc3,e3,f2,f3,f4,f5,f6⟩:=k3;show F0 _ _ _ _ _ (H8 (n9 p) (evω P.E p2.er (frc2.set yd skipped) h2')) _
              rw[e3];exact⟨Z3,ow3,h3',frc3,rfl,f2,f3,f4,f5,f6⟩
             |_=>cases h6
            |_=>cases h6
         |_=>cases h4
        |_=>cases h4
       |true=>
        cases p with
        |some _=>cases h2
        |none=>
         show F0 _ _ _ _ _ (bif Nat.blt yt nt then H8 (fun fr h=>onOB (guardOk gd fr) .bad (Ht (evω P.E) p2.er yd fr (roundY (evω P.E) c.ps c.a.er c.b.er frc0 (opvs P.E args fr) h)) .bad) (evω P.E p1.er (frc1.set yt .any) h1')else .bad) r
         rw[show Nat.blt yt nt=zt from zkg hyt];show F0 _ _ _ _ _ (H8 (fun fr h=>onOB (guardOk gd fr) .bad (Ht (evω P.E) p2.er yd fr (roundY (evω P.E) c.ps c.a.er c.b.er frc0 (opvs P.E args fr) h)) .bad) (evω P.E p1.er (frc1.set yt .any) h1')) r
         dsimp only at h2;obtain⟨q,h3,h4⟩:=C1 h2;have k2:=ih _ _ h3 nt Z1 ow1 h1' _ b2 b5 (b3.set hyt .any) hc1;cases q with
         |ok e fr2 K2=>
          cases e with
          |normal=>
           obtain⟨Z2,ow2,h2',frc2,e2,d2,d3,d4,d5,d6⟩:=k2;rw[e2];refine F0.trans b2 d4 d6 ?_;have B2:CH K2.ext Z2 ow2 h2' K2.os nt0 frc0 c.fr:=by rw[d4.ex];exact B1.step d4.zz d6
           show F0 _ _ _ _ _ (onOB (guardOk gd frc2) .bad (Ht (evω P.E) p2.er yd frc2 (roundY (evω P.E) c.ps c.a.er c.b.er frc0 (opvs P.E args frc2) h2')) .bad) r
           dsimp only at h4;cases hg2:guardP gd fr2 with
           |none=>rw[hg2]at h4;cases h4
           |some t=>
            rw[hg2]at h4;cases t with
            |false=>cases h4
            |true=>
             rw[m0 d3 hg2];show F0 _ _ _ _ _ (Ht (evω P.E) p2.er yd frc2 (roundY (evω P.E) c.ps c.a.er c.b.er frc0 (opvs P.E args frc2) h2')) r
             obtain⟨q,h5,h6⟩:=C1 h4;have k3:=ih _ _ h5 nt0 Z2 ow2 h2' frc0 _ d2 (zke _) (B2.now d5) (Hj hP.gl d3 args) hrc;cases q with
             |ok e fr3 K3=>
              obtain⟨q,h7,h8⟩:=C1 h6;obtain⟨Z3,ow3,h3',frc3,e3,f2,f3,f4,f5,f6⟩:=k3;have e3:roundY (evω P.E) c.ps c.a.er c.b.er frc0 (opvs P.E args frc2) h2'=.ok e frc3 h3':=e3;rw[e3];have kp:Keep' ow2 K2.os ow3 K3.os:=Df f4.ex f5 f6;have st:=Mp d2 d5 f4 K2.ext;refine F0.trans (K':=⟨K3.os,K2.ext,K3.tch++K2.tch⟩) d2 st (kp.e d5) ?_;have k4:=ih _ _ h7 nt Z3 ow3 h3' _ f2 (zki d5 kp.1) ((d3.keep f4.zz kp).set hyd (.b _)) hc2;have ey:Ht (evω P.E) p2.er yd frc2 (.ok e frc3 h3')=H8 (n9 (M4 e)) (evω P.E p2.er (frc2.set yd (.bool (wentOn e))) h3'):=by cases e<;>rfl
              rw[ey];cases q with
              |ok e4 fr4 K4=>
               cases e4 with
               |normal=>
                cases h8;obtain⟨Z4,ow4,h4',frc4,e4,g2,g3,g4,g5,g6⟩:=k4;rw[e4];exact⟨Z4,ow4,h4',frc4,rfl,g2,g3,g4,g5,g6⟩
               |_=>cases h8
              |_=>cases h8
             |_=>cases h6
          |_=>cases h4
         |_=>cases h4
     |_=>cases h2
    |_=>cases h2
   |_=>cases hr
 |ops l fr K=>
  intro nt Z ow h frc s hx a hd;cases l with
  |nil=>cases hr;exact⟨Z,ow,h,frc,rfl,s,a,.refl _ _ _ _ _,hx,.refl _ _ _⟩
  |cons o l=>
   obtain⟨hd1,hd2⟩:=dst_cons hd;rw[kQ];dsimp only at hr;cases hg:guardP o.gd fr with
   |none=>rw[hg]at hr;cases hr
   |some b=>
    rw[hg]at hr;rw[m0 a hg];cases b with
    |false=>exact ih _ _ hr nt Z ow h _ s hx (a.setd hd1 vr_skipped) hd2
    |true=>
     dsimp only at hr;show B8 _ _ _ _ _ (Y1 o.dst (H1 P.E (callω P.E) l) frc (evOp P.E (callω P.E) o.op frc h)) r
     cases hp:prim P.E o.op fr K with
     |bad=>rw[hp]at hr;cases hr
     |val v K'=>
      rw[hp]at hr;obtain⟨ow',vc,h',d⟩:=De hP.gl hP.ti s hx a hp (callω P.E);rw[d.r];refine B8.next s hx (v:=v) d.two fun s' hx'=>?_
      exact ih _ _ hr nt Z ow' h' _ s' hx' ((a.keep (d.sp 0).zz d.kp).setd hd1 d.vr) hd2
     |pan v=>
      rw[hp]at hr;cases hr;obtain⟨vc,hv,e⟩:=gI hP.gl a hp;rw[e];exact⟨Z,ow,h,vc,rfl,s,hv,.refl _ _ _ _ _,hx,.refl _ _ _⟩
     |call f args=>
      rw[hp]at hr;obtain⟨argc,hl,e⟩:=Hn hP.gl a hp;rw[e];obtain⟨q,h1,h2⟩:=C1 hr;have k1:=ih _ _ h1 Z ow h argc s hx hl;cases q with
      |pan v K'=>
       cases h2;obtain⟨Z',ow',h',vc,e,b2,b3,b4,b5,b6⟩:=k1;rw[e];exact⟨Z',ow',h',vc,rfl,b2,b4,b3 _,b5,b6.e hx⟩
      |val vs K'=>
       obtain⟨Z',ow',h',vcs,e,b2,b3,b4,b5⟩:=k1;rw[e];refine B8.next s hx (v:=oneOrTup vs) ⟨rfl,b2,b3,b5.one,b4⟩ fun s' hx'=>?_
       exact ih _ _ h2 nt Z' ow' h' _ s' hx' ((a.keep (b4 0).zz b3).setd hd1 b5.one) hd2
      |_=>cases h2
 |opsD l fr K=>
  intro nt Z ow h frc d s hx a hd hdd;cases l with
  |nil=>cases hr;exact⟨Z,ow,h,frc,rfl,s,a,.refl _ _ _ _ _,hx,.refl _ _ _⟩
  |cons o l=>
   obtain⟨hd1,hd2⟩:=dst_cons hd;have hdd2:d=[]\/m4 l=zt:=hdd.imp id fun e=>(Dg e).2
   rw[Pc];dsimp only at hr;cases hg:guardP o.gd fr with
   |none=>rw[hg]at hr;cases hr
   |some b=>
    rw[hg]at hr;rw[m0 a hg];cases b with
    |false=>exact ih _ _ hr nt Z ow h _ d s hx (a.setd hd1 vr_skipped) hd2 hdd2
    |true=>
     dsimp only at hr;show B8 _ _ _ _ _ (O9 o.dst (evOpsD P.E (callω P.E) l) (virtD P.E (callω P.E) l o.late (setDst o.dst skipped frc) h d) frc (evOpD P.E (callω P.E) o frc h d)) r
     cases hq:o.quiet with
     |false=>
      rw[hq]at hr;dsimp only at hr;rw[gP hq hdd];cases hp:prim P.E o.op fr K with
      |bad=>rw[hp]at hr;cases hr
      |val v K'=>
       rw[hp]at hr;obtain⟨ow',vc,h',dd⟩:=De hP.gl hP.ti s hx a hp (callω P.E);rw[dd.r];refine B8.next s hx (v:=v) dd.two fun s' hx'=>?_
       exact ih _ _ hr nt Z ow' h' _ d s' hx' ((a.keep (dd.sp 0).zz dd.kp).setd hd1 dd.vr) hd2 hdd2
      |pan v=>
       rw[hp]at hr;dsimp only at hr;split at hr
       . rename_i hlt
         cases hr;obtain⟨vc,hv,e⟩:=gI hP.gl a hp;rw[e,Hq hP.gl hP.ti l s hx (a.setd hd1 vr_skipped) hd2 hdd2 hlt];exact⟨Z,ow,h,vc,rfl,s,hv,.refl _ _ _ _ _,hx,.refl _ _ _⟩
       . cases hr
      |call f args=>
       rw[hp]at hr;obtain⟨argc,hl,e⟩:=Hn hP.gl a hp;rw[e];obtain⟨q,h1,h2⟩:=C1 hr;have k1:=ih _ _ h1 Z ow h argc s hx hl;cases q with
       |pan v K'=>
        dsimp only at h2;split at h2
        . rename_i hlt
          cases h2;obtain⟨Z',ow',h',vc,e,b2,b3,b4,b5,b6⟩:=k1;rw[e,Hq hP.gl hP.ti l s hx (a.setd hd1 vr_skipped) hd2 hdd2 hlt];exact⟨Z',ow',h',vc,rfl,b2,b4,b3 _,b5,b6.e hx⟩
        . cases h2
       |val vs K'=>
        obtain⟨Z',ow',h',vcs,e,b2,b3,b4,b5⟩:=k1;rw[e];refine B8.next s hx (v:=oneOrTup vs) ⟨rfl,b2,b3,b5.one,b4⟩ fun s' hx'=>?_
        exact ih _ _ h2 nt Z' ow' h' _ d s' hx' ((a.keep (b4 0).zz b3).setd hd1 b5.one) hd2 hdd2
       |_=>cases h2
     |true=>
      rw[hq]at hr;dsimp only at hr;have s0:F7 Z ow {h with tch:=[]} ({K with tch:=[]}:PK).os:=s.congr rfl (fun _=>rfl);have a0:FrR Z ow {h with tch:=[]} ({K with tch:=[]}:PK).os nt frc fr:=a.keep (fun _ hz=>⟨hz,rfl⟩) (.refl _ _);have hx0:({K with tch:=[]}:PK).ext<=({K with tch:=[]}:PK).os.length:=hx;cases hp:prim P.E o.op fr {K with tch:=[]}with
      |val v K1=>
       rw[hp]at hr;dsimp only at hr;obtain⟨ow',vc,h',dd⟩:=De hP.gl hP.ti s0 hx0 a0 hp (callω P.E);split at hr
       . rename_i ht
         obtain⟨h2,d2,e,dd2,hd3⟩:=Yi hq s hdd (r:=v) dd.two ht;rw[e];refine B8.next s hx (v:=v) dd2 fun s' hx'=>?_
         exact ih _ _ hr nt Z ow' h2 _ d2 s' hx' ((a.keep (dd2.sp 0).zz dd2.kp).setd hd1 dd2.vr) hd2 hd3
       . rename_i ht
         obtain⟨h2,d2,e,dd2,hrd⟩:=Jy (l:=l) hq s hdd (r:=v) dd.two;rw[e];have hd0:d=[]\/m4 l=zt:=hdd2;refine B8.next s hx (v:=v) dd2 fun s' hx'=>?_
         exact ih _ _ hr nt Z ow' h2 _ d2 [(⟨K.os,0,K1.tch⟩,ow)] s' hx' ((a.keep (dd2.sp 0).zz dd2.kp).setd hd1 dd2.vr) hd2 rfl (fun c hc=>⟨_,zqi ..,hrd (hd0.resolve_right (gQ ht)) c hc⟩) (fun p hp=>by rw[zqs.1 hp];exact dd2.kp)
      |call f args=>
       rw[hp]at hr;obtain⟨argc,hl,e⟩:=Hn hP.gl a0 hp;obtain⟨q,h1,h2⟩:=C1 hr;have k1:=ih _ _ h1 Z ow {h with tch:=[]} argc s0 hx0 hl;cases q with
       |pan v K1=>
        dsimp only at h2;split at h2
        . rename_i hlt
          cases h2;obtain⟨Z',ow',h',vc,e1,b2,b3,b4,b5,b6⟩:=k1;have e2:evOpD P.E (callω P.E) o frc h d=.pan vc {h' with tch:=Bp (H2 h.next h'.tch) h.tch}:=by
           unfold evOpD;rw[hq];show z7 h.next h.tch d (evOp P.E (callω P.E) o.op frc {h with tch:=[]})=_
           rw[e,e1];rfl
          rw[e2,Hq hP.gl hP.ti l s hx (a.setd hd1 vr_skipped) hd2 hdd2 hlt];exact⟨Z',ow',_,vc,rfl,b2.congr rfl (fun _=>rfl),b4.keep (fun _ hz=>⟨hz,rfl⟩) (.refl _ _),Oa (b3 _),b5,b6.e hx⟩
        . cases h2
       |val vs K1=>
        dsimp only at h2;obtain⟨Z',ow',h',vcs,e1,b2,b3,b4,b5⟩:=k1;split at h2
        . rename_i ht
          obtain⟨h3,d2,e2,dd2,hd3⟩:=Yi hq s hdd (r:=oneOrTup vs) (v:=oneOrTup vs) ⟨(e (callω P.E)).trans e1,b2,b3,b5.one,b4⟩ ht;rw[e2];refine B8.next s hx (v:=oneOrTup vs) dd2 fun s' hx'=>?_
          exact ih _ _ h2 nt Z' ow' h3 _ d2 s' hx' ((a.keep (dd2.sp 0).zz dd2.kp).setd hd1 dd2.vr) hd2 hd3
        . rename_i ht
          obtain⟨h3,d2,e2,dd2,hrd⟩:=Jy (l:=l) hq s hdd (r:=oneOrTup vs) (v:=oneOrTup vs) ⟨(e (callω P.E)).trans e1,b2,b3,b5.one,b4⟩;rw[e2];refine B8.next s hx (v:=oneOrTup vs) dd2 fun s' hx'=>?_
          exact ih _ _ h2 nt Z' ow' h3 _ d2 [(⟨K.os,0,K1.tch⟩,ow)] s' hx' ((a.keep (dd2.sp 0).zz dd2.kp).setd hd1 dd2.vr) hd2 rfl (fun c hc=>⟨_,zqi ..,hrd (hdd2.resolve_right (gQ ht)) c hc⟩) (fun p hp=>by rw[zqs.1 hp];exact dd2.kp)
       |_=>cases h2
      |_=>rw[hp]at hr;cases hr
 |opsS S l fr K=>
  intro nt Z ow h frc d ws s hx a hd hws sf kp0;subst hws;cases l with
  |nil=>cases hr;exact⟨Z,ow,h,frc,rfl,s,a,.refl _ _ _ _ _,hx,.refl _ _ _⟩
  |cons o l=>
   obtain⟨hd1,hd2⟩:=dst_cons hd;rw[Pc];dsimp only at hr;cases hg:guardP o.gd fr with
   |none=>rw[hg]at hr;cases hr
   |some b=>
    rw[hg]at hr;rw[m0 a hg];cases b with
    |false=>exact ih _ _ hr nt Z ow h _ d ws s hx (a.setd hd1 vr_skipped) hd2 rfl sf kp0
    |true=>
     dsimp only at hr;show B8 _ _ _ _ _ (O9 o.dst (evOpsD P.E (callω P.E) l) (virtD P.E (callω P.E) l o.late (setDst o.dst skipped frc) h d) frc (evOpD P.E (callω P.E) o frc h d)) r
     cases hq:o.quiet with
     |true=>
      rw[hq]at hr;dsimp only at hr;have s0:F7 Z ow {h with tch:=[]} ({K with tch:=[]}:PK).os:=s.congr rfl (fun _=>rfl);have a0:FrR Z ow {h with tch:=[]} ({K with tch:=[]}:PK).os nt frc fr:=a.keep (fun _ hz=>⟨hz,rfl⟩) (.refl _ _);have hx0:({K with tch:=[]}:PK).ext<=({K with tch:=[]}:PK).os.length:=hx;cases hp:prim P.E o.op fr {K with tch:=[]}with
      |val v K1=>
       rw[hp]at hr;dsimp only at hr;obtain⟨ow',vc,h',dd⟩:=De hP.gl hP.ti s0 hx0 a0 hp (callω P.E);obtain⟨h2,d2,e,dd2,sf2⟩:=kS hq s sf dd.two;rw[e];refine B8.next s hx (v:=v) dd2 fun s' hx'=>?_
       exact ih _ _ hr nt Z ow' h2 _ d2 ((⟨K.os,0,K1.tch⟩,ow)::ws) s' hx' ((a.keep (dd2.sp 0).zz dd2.kp).setd hd1 dd2.vr) hd2 rfl sf2 (fun p hp=>by
        rcases zqj.1 hp with rfl|hp
        . exact dd2.kp
        . exact(kp0 p hp).trans dd2.kp)
      |_=>rw[hp]at hr;cases hr
     |false =>
     rw[hq]at hr;dsimp only at hr;split at hr
     . rename_i hcare
       rw[wJ hP.gl a hq sf kp0 hcare];cases hp:prim P.E o.op fr K with
       |val v K'=>
        rw[hp]at hr;obtain⟨ow',vc,h',dd⟩:=De hP.gl hP.ti s hx a hp (callω P.E);rw[dd.r];refine B8.next s hx (v:=v) dd.two fun s' hx'=>?_
        exact ih _ _ hr nt Z ow' h' _ d ws s' hx' ((a.keep (dd.sp 0).zz dd.kp).setd hd1 dd.vr) hd2 rfl sf (fun p hp=>(kp0 p hp).trans dd.kp)
       |call f args=>
        rw[hp]at hr;obtain⟨argc,hl,e⟩:=Hn hP.gl a hp;rw[e];obtain⟨q,h1,h2⟩:=C1 hr;have k1:=ih _ _ h1 Z ow h argc s hx hl;cases q with
        |val vs K'=>
         obtain⟨Z',ow',h',vcs,e,b2,b3,b4,b5⟩:=k1;rw[e];refine B8.next s hx (v:=oneOrTup vs) ⟨rfl,b2,b3,b5.one,b4⟩ fun s' hx'=>?_
         exact ih _ _ h2 nt Z' ow' h' _ d ws s' hx' ((a.keep (b4 0).zz b3).setd hd1 b5.one) hd2 rfl sf (fun p hp=>(kp0 p hp).trans b3)
        |_=>cases h2
       |_=>rw[hp]at hr;cases hr
     . cases hr
 |call f args K=>
  intro Z ow h argc s hx hl;dsimp only at hr;cases hT:P.T f with
  |some g=>
   rw[hT]at hr;dsimp only at hr;cases ht:tcall g args K with
   |none=>rw[ht]at hr;cases hr
   |some q=>
    obtain⟨vs,K'⟩:=q;rw[ht]at hr;cases hr;exact wC (hP.T f g hT) s hx hl ht
  |none=>
   rw[hT]at hr;dsimp only at hr;cases hin:inpOf (P.fn f)with
   |true=>
    rw [hin]at hr;obtain⟨q,h1,h2⟩:=C1 hr;have k1:=ih _ _ h1 Z ow h argc s (zke _) hl;have stp:∀{Z':Nat->Prop}{ow':Nat->Option (List Nat)}{h':Heap}{K1:PK},Stp K.os.length Z ow h ⟨K.os,K.os.length,[]⟩ Z' ow' h' K1->∀b,Stp b Z ow h K Z' ow' h' ⟨K1.os,K.ext,K1.tch++K.tch⟩:=fun{Z' ow' h' K1} sb b=>by
     obtain⟨l0,f1,f2⟩:=sb.th;refine⟨sb.nx,sb.zz,sb.zn,sb.un,sb.uo,⟨l0,f1,fun id hi=>?_⟩,fun id r t ho hr=>?_,fun r hr _=>zqk.2 (.inr hr),rfl,fun j hj=>sb.xk j (zkf hj hx),fun j hj=>sb.rd j (zkf hj hx)⟩
     . rcases f2 id hi with h|⟨r,t,q1,q2⟩
       . exact .inl h
       . obtain⟨_,_,r',t',q3,q4⟩:=s.live id _ q1
         cases q3;exact .inr ⟨r,t,q1,fun _=>zqk.2 (.inl (q2 (isRt_lt q4)))⟩
     . rcases sb.mv id r t ho (zkf hr hx)with h|h
       . exact .inl h
       . exact .inr (zqk.2 (.inl h))
    have kp:∀{ow':Nat->Option (List Nat)}{K1:PK},K1.ext=K.os.length->K1.ext<=K1.os.length->X3 K.os.length ow K.os ow' K1.os->Keep' ow K.os ow' K1.os:=fun{ow' K1} e1 e2 e3=>⟨by rw[<-e1];exact e2,e3⟩
    cases q with
    |val vs K1=>
     cases h2;obtain⟨Z',ow',h',vcs,e,b2,b3,b4,b5,b6⟩:=k1;exact⟨Z',ow',h',vcs,e,b2,kp (K1:=K1) b3.ex b6 b5,stp b3,b4⟩
    |pan v K1=>
     cases h2;obtain⟨Z',ow',h',vc,e,b2,b3,b4,b5,b6⟩:=k1;exact⟨Z',ow',h',vc,e,b2,stp b3,b4,zki hx (by have:=b3.ex;show K.os.length<=K1.os.length;have h0:K1.ext=K.os.length:=this;omega),kp (K1:=K1) b3.ex b5 b6⟩
    |_=>cases h2
   |false=>
    rw [hin]at hr;obtain⟨q,h1,h2⟩:=C1 hr;have hn:(focusIds args K).Nodup:=(Bn (fun id=>bN K.os[id]?) 64 (E1 args) [] List.nodup_nil).1;obtain⟨s1,hren⟩:=Us s hn (f:=cutPO) (os':=(focusK (focusIds args K) K).os) (fun e=>by
     cases e with
     |sub p i o=>exact .inr ⟨⟨p,i,o,rfl⟩,rfl⟩
     |_=>exact .inl rfl) rfl
    have hx1:(focusK (focusIds args K) K).ext<=(focusK (focusIds args K) K).os.length:=by
     show(focusIds args K).length<=((focusIds args K).map _).length
     simp
    have k1:=ih _ _ h1 Z _ h argc s1 hx1 (hl.ren (fun _ hz=>⟨hz,rfl⟩) hren);cases q with
    |val vs K1=>
     dsimp only at h2;obtain⟨Z',ow',h',vcs,e,b2,b3,b4,_,_⟩:=k1;cases hm:mergeK (focusIds args K) K K1 with
     |none=>rw[hm]at h2;cases h2
     |some K'=>
      rw[hm]at h2;cases h2;obtain⟨ow2,c1,c2,c3,c4⟩:=gK s hx hn b2 b3 hm;exact⟨Z',ow2,h',vcs,e,c1,c2,c3,b4.ren (fun _ hz=>⟨hz,rfl⟩) c4⟩
    |pan v K1=>
     dsimp only at h2;obtain⟨Z',ow',h',vc,e,b2,b3,b4,_⟩:=k1;cases hm:mergeK (focusIds args K) K K1 with
     |none=>rw[hm]at h2;cases h2
     |some K'=>
      rw[hm]at h2;cases h2;obtain⟨ow2,c1,c2,c3,c4⟩:=gK s hx hn b2 b3 hm;exact⟨Z',ow2,h',vc,e,c1,c3,b4.ren (fun _ hz=>⟨hz,rfl⟩) c4,Gw hx c2 (c3 0).ex,c2⟩
    |_=>cases h2
 |body f args K=>
  intro Z ow h argc s hx hl;dsimp only at hr;cases hf:P.fn f with
  |none=>rw[hf]at hr;cases hr
  |some p=>
   rw[hf]at hr;dsimp only at hr;split at hr
   . rename_i hn
     have F:=hP.fn f p hf;obtain⟨q,h1,h2⟩:=C1 hr;obtain⟨rc,er,k1⟩:∃rc,callω P.E f argc h=H7 P.E p.rs rc/\B8 Z ow h K p.nt rc q:=by
      have hen:=Hp hl hn F.nt;have hok:=F.ok;have hfn:=F.fn;rcases bodyJ_or p.code with⟨x,a,g,c,e⟩|⟨x,d,d2,c,e⟩|⟨e1,e2⟩
      . rw[e]at h1 hok hfn
        obtain⟨rc,k1,k2⟩:=ih _ _ h1 p.nt Z ow h _ s hx hen hok;exact⟨rc,(wF F.gc F.told F.dlf F.srt hfn (by rw[hl.1];exact hn)).trans (k1 _),k2⟩
      . rw[e]at h1
        have k1:=ih _ _ h1 Z ow h .und .und s hx .und .und;cases q with
        |ok _ _ K'=>obtain⟨_,_,_,k2,_⟩:=k1;cases k2
        |_=>cases k1
      . rw[e1]at h1
        exact⟨_,wE e2 F.gc F.told F.dlf F.srt F.fn (by rw[hl.1];exact hn),ih _ _ h1 p.nt Z ow h _ s hx hen hok⟩
     rw[er];cases q with
     |pan v K'=>
      cases h2;obtain⟨Z',ow',h',vc,e,b2,b3,b4,b5⟩:=k1;rw[e];exact⟨Z',ow',h',vc,rfl,b2,b4,b3,b5⟩
     |ok e fr' K'=>
      obtain ⟨Z',ow',h',frc',e1,b2,b3,b4,b5,b6⟩:=k1;rw[e1];have fin:(∀q,resP P.E p.rs fr' K'=zsq q->r=.val q.1 q.2)->resP P.E p.rs fr' K'≠znq->nK Z ow h K (Kn (E8 P.E p.rs frc' h') h') r:=fun hq hne=>by
       cases hv:resP P.E p.rs fr' K' with
       |none=>exact absurd hv hne
       |some q=>
        obtain⟨vs,K2⟩:=q;obtain rfl:=hq _ hv;obtain⟨vcs,c1,c2,c3,c4,c5⟩:=bT p.rs b2 b5 b3 hv;rw[c1];exact⟨Z',ow',h',vcs,rfl,c2,b4.trans s c4,c5,b6.trans (c3.e (by rw[<-b4.ex];exact b5)),Gw b5 c3 c4.ex⟩
      cases e with
      |exit i=>cases h2
      |normal=>
       dsimp only at h2;cases hv:resP P.E p.rs fr' K' with
       |none=>rw[hv]at h2;cases h2
       |some q=>rw[hv]at h2;cases h2;exact fin (fun q' hq'=>by rw[hv]at hq';cases hq';rfl) (by rw[hv];intro e;cases e)
      |ret=>
       dsimp only at h2;cases hv:resP P.E p.rs fr' K' with
       |none=>rw[hv]at h2;cases h2
       |some q=>rw[hv]at h2;cases h2;exact fin (fun q' hq'=>by rw[hv]at hq';cases hq';rfl) (by rw[hv];intro e;cases e)
     |_=>cases h2
   . cases hr
end
section
variable {E:Env}{P:PE}{R:AV->AV->Prop}{Z Z' Z1:Nat->Prop}{ow ow' ow1:Nat->Option (List Nat)}{h h' h1:Heap}{K K' K1:PK}{os os' ps:List PO}{x y xc yc v k:AV}{L M:List Nat}
noncomputable def Y4(c r:AV)(os:List PO):AV×List PO:=match c with
 |.nilsl=>(match ownOf r with|some (0,[],sz)=>(.msl os.length 0 0 sz,os++[.row 0 [] sz])|_=>(c,os))
 |_=>(c,os)
noncomputable def J9:List AV->List AV->List PO->List AV×List PO
 |[],_,os=>([],os)
 |c::cs,[],os=>(c::cs,os)
 |c::cs,r::rs,os=>((Y4 c r os).1::(J9 cs rs (Y4 c r os).2).1,(J9 cs rs (Y4 c r os).2).2)
noncomputable def Y5(v r:AV)(os:List PO):AV×List PO:=(O6 v (J9 v.cells r.cells os).1,(J9 v.cells r.cells os).2)
noncomputable def I4:List AV->List AV->List PO->List AV×List PO
 |[],_,os=>([],os)
 |c::cs,[],os=>(c::cs,os)
 |c::cs,r::rs,os=>((Y5 c r os).1::(I4 cs rs (Y5 c r os).2).1,(I4 cs rs (Y5 c r os).2).2)
structure backOk(vs rs:List AV)(os:List PO):Prop where
 nd:(E1 (I4 vs rs os).1).Nodup
 vl:renL (posOf (E1 (I4 vs rs os).1)) (I4 vs rs os).1=(openTs 0 rs).1
 ol:(E1 (I4 vs rs os).1).map (fun id=>renPO (posOf (E1 (I4 vs rs os).1)) (entryAt (I4 vs rs os).2 id))=(openTs 0 rs).2
theorem qU(s:F7 Z ow h os)(sz:Nat):F7 Z ow h (os++[.row 0 [] sz])/\Keep' ow os ow (os++[.row 0 [] sz])/\VR Z ow h (os++[.row 0 [] sz]) .nilsl (.msl os.length 0 0 sz):=by
 have A:∀c t,ow c≠zsq (os.length::t):=fun c t e=>by
  obtain⟨_,_,r,t',h1,h2⟩:=s.live c _ e;cases h1;exact absurd (isRt_lt h2) (Nat.lt_irrefl _)
 have C:Keep' ow os ow (os++[.row 0 [] sz]):=Mf s.sb fun _ _ _ _ _=>.rfl
 have B:PT (VR Z ow h os) Z ow h (os++[.row 0 [] sz]):=s.new (.row 0 [] sz) (zke _) (fun _ _=>rfl) (fun _ _ _=>rfl) (fun _ _ _=>.rfl) (fun a b t ha _=>absurd ha (A a t)) (fun d t D=>absurd D (A d t))
  (by simp_all[isRt])
  (fun es z e=>by cases e;exact⟨.nilsl,.nil (.inl rfl) (fun c t=>A c t)⟩) (by grind) (fun es e=>by cases e)
 refine⟨F7.to B (fun _ hz=>⟨hz,rfl⟩) C,C,.mnil (.inl rfl) (fun L hL c hc=>?_) (by simp)⟩;grind[loP]
theorem qV(s:F7 Z ow h os)(a:VR Z ow h os x y)(r:AV):F7 Z ow h (Y4 y r os).2/\Keep' ow os ow (Y4 y r os).2/\VR Z ow h (Y4 y r os).2 x (Y4 y r os).1:=by
 have same:∀q:AV×List PO,q=(y,os)->F7 Z ow h q.2/\Keep' ow os ow q.2/\VR Z ow h q.2 x q.1:=fun q e=>by subst e;exact⟨s,.refl _ _,a⟩
 unfold Y4;split
 . split
   . rename_i sz _
     rw[a.isN];exact qU s sz
   grind
 grind
theorem Jz:∀(ys xs rs:List AV)(os:List PO),F7 Z ow h os->VL Z ow h os xs ys->F7 Z ow h (J9 ys rs os).2/\Keep' ow os ow (J9 ys rs os).2/\VL Z ow h (J9 ys rs os).2 xs (J9 ys rs os).1
 |[],xs,rs,os,s,l=>⟨s,.refl _ _,l⟩
 |c::cs,xs,[],os,s,l=>⟨s,.refl _ _,l⟩
 |c::cs,[],r::rs,os,s,l=>by cases l.1
 |c::cs,x::xs,r::rs,os,s,l=>by
  obtain⟨B,C⟩:=l.inv;obtain⟨D,a2,a3⟩:=qV s B r;obtain⟨G,A,H⟩:=Jz cs xs rs (Y4 c r os).2 D (C.keep (fun _ hz=>⟨hz,rfl⟩) a2);exact⟨G,a2.trans A,.cons (a3.keep (fun _ hz=>⟨hz,rfl⟩) A) H⟩
theorem Pd:∀(ys rs:List AV)(os:List PO),(J9 ys rs os).1.length=ys.length
 |[],rs,os=>rfl
 |c::cs,[],os=>rfl
 |c::cs,r::rs,os=>congrArg (· + 1) (Pd cs rs _)
theorem qW(s:F7 Z ow h os)(a:VR Z ow h os x y)(r:AV):F7 Z ow h (Y5 y r os).2/\Keep' ow os ow (Y5 y r os).2/\VR Z ow h (Y5 y r os).2 x (Y5 y r os).1:=by
 unfold Y5;cases B:isAg y with
 |true=>
  cases y<;>first|(cases B;done)|skip
  obtain⟨xs,rfl,l⟩:=a.agI;obtain⟨C,D,A⟩:=Jz _ xs r.cells os s l;exact⟨C,D,.agL A⟩
 |false=>
  obtain⟨C,D,A⟩:=Jz y.cells [x] r.cells os s (by rw[C3 B];exact .cons a .nil);refine⟨C,D,?_⟩;have hl:=Pd y.cells r.cells os;rw[C3 B]at hl A|-;obtain⟨c,hc⟩:=zka.1 hl
  have:O6 y (J9 [y] r.cells os).1=c:=by
   rw[hc];cases y<;>first|rfl|cases B
  rw[this];rw[hc]at A;exact A.inv.1
theorem Yj:∀(ys xs rs:List AV)(os:List PO),F7 Z ow h os->VL Z ow h os xs ys->F7 Z ow h (I4 ys rs os).2/\Keep' ow os ow (I4 ys rs os).2/\VL Z ow h (I4 ys rs os).2 xs (I4 ys rs os).1
 |[],xs,rs,os,s,l=>⟨s,.refl _ _,l⟩
 |c::cs,xs,[],os,s,l=>⟨s,.refl _ _,l⟩
 |c::cs,[],r::rs,os,s,l=>by cases l.1
 |c::cs,x::xs,r::rs,os,s,l=>by
  obtain⟨B,C⟩:=l.inv;obtain⟨D,a2,a3⟩:=qW s B r;obtain⟨G,A,H⟩:=Yj cs xs rs (Y5 c r os).2 D (C.keep (fun _ hz=>⟨hz,rfl⟩) a2);exact⟨G,a2.trans A,.cons (a3.keep (fun _ hz=>⟨hz,rfl⟩) A) H⟩
theorem zT(s:F7 Z ow h os){A vs rs:List AV}(l:VL Z ow h os A vs)(b:backOk vs rs os):∃ow',F7 Z ow' h (openTs 0 rs).2/\VL Z ow' h (openTs 0 rs).2 A (openTs 0 rs).1/\∀id L,ow' id=zsq L->ow id≠znq:=by
 obtain⟨B,a2,a3⟩:=Yj vs A rs os s l;obtain⟨c1,c2⟩:=Us B b.nd (f:=id) (fun e=>.inl rfl) (os':=(openTs 0 rs).2) b.ol.symm;refine⟨_,c1,?_,fun d M hd e=>?_⟩
 . rw[<-b.vl];exact a3.ren (fun _ hz=>⟨hz,rfl⟩) c2
 grind[D3]
def K0:PK:=⟨[],0,[]⟩
theorem OP(hb:∀id,Z id->id<h.next):F7 Z (fun _=>znq) h [] where
 row r es sz hr:=by simp at hr
 raw r k es sz hr:=by simp at hr
 map r es hr:=by simp at hr
 inj a b L ha:=by cases ha
 live a L ha:=by cases ha
 zb:=hb
 sb j p i o hj:=by simp at hj
def refine1(y:AV):List AV:=match y with | .fsl [] zt=>[.nilsl,.fsl [] zf]|y=>[y]
theorem Fz.refine(f:Fz Z h x y):∃B∈refine1 y,Fz Z h x B:=by
 have same:∀{y:AV},refine1 y=[y]->Fz Z h x y->∃B∈refine1 y,Fz Z h x B:=(by grind)
 cases f with
 |emp e=>
  cases e with
  |nil=>exact⟨.nilsl,.head _,.nilsl⟩
  |fsl=>exact⟨.fsl [] zf,.tail _ (.head _),.fsl rfl (fun i x y H=>by simp at H) rfl⟩
 |fsl h1 h2 A=>
  rename_i es es' f f';cases es' with
  | nil=>cases f' with
   |true=>exact⟨.fsl [] zf,.tail _ (.head _),.fsl h1 h2 A⟩
   |false=>exact same rfl (.fsl h1 h2 A)
  |cons=>exact same rfl (.fsl h1 h2 A)
 |view h1 h2 A C D G=>
  rename_i id off n sz row es' f';cases es' with
  | nil=>cases f' with
   |true=>exact⟨.fsl [] zf,.tail _ (.head _),.view h1 h2 A C D G⟩
   |false=>exact same rfl (.view h1 h2 A C D G)
  |cons=>exact same rfl (.view h1 h2 A C D G)
 |int k n=>exact same rfl (.int k n)
 |bool b=>exact same rfl (.bool b)
 |str b=>exact same rfl (.str b)
 |nilsl=>exact same rfl .nilsl
 |nilptr=>exact same rfl .nilptr
 |nilmap=>exact same rfl .nilmap
 |nilfn=>exact same rfl .nilfn
 |niliface=>exact same rfl .niliface
 |agg h1 h2 A=>exact same rfl (.agg h1 h2 A)
 |fptr o f=>exact same rfl (.fptr o f)
 |pview h1 h2 A f=>exact same rfl (.pview h1 h2 A f)
def Comes(P:PE)(f:Nat)(args rs:List AV):Prop:=∃vs K1,evP P (.body f args K0)=zsq (.val vs K1)/\backOk vs rs K1.os
theorem Gx(D:PEok P){f:Nat}{args rs:List AV}(H:Comes P f args rs){xs:List AV}(hl:xs.length=args.length)(hz:∀(i:Nat) x y,xs[i]?=zsq x->args[i]?=zsq y->Fz Z h x y)(hb:∀id,Z id->id<h.next):
 ∃(A:List AV)(h1:Heap)(Z1:Nat->Prop)(ow1:Nat->Option (List Nat)),callω P.E f xs h=.ok (oneOrTup A) h1/\F7 Z1 ow1 h1 (openTs 0 rs).2/\VL Z1 ow1 h1 (openTs 0 rs).2 A (openTs 0 rs).1/\
 h.next<=h1.next/\(∀id,Z id->Z1 id/\h1.get id=h.get id)/\(∀id,Z1 id->Z id\/h.next<=id)/\(∀id,id<h.next->h1.get id=h.get id)/\(∀id L,ow1 id=zsq L->h.next<=id)/\∃l,h1.tch=l++h.tch/\∀id∈l,h.next<=id:=by
 obtain⟨vs,K1,e,J⟩:=H;obtain⟨Z',ow',h',A,e1,N,B,O,_,_⟩:=OO D _ _ e Z (fun _=>znq) h xs (OP hb) (zke _) ⟨hl,fun i x y G I=>.fz (hz i x y G I)⟩;obtain⟨ow2,c1,c2,c3⟩:=zT N O J;refine⟨A,h',Z',ow2,e1,c1,c2,B.nx,B.zz,B.zn,fun id hl=>B.un id hl rfl,fun id L ho=>?_,?_⟩
 . by_cases C:id<h.next
   . cases e2:ow' id with
     |none=>grind
     |some M=>exact absurd rfl (B.uo id M e2 C)
   . omega
 . obtain⟨l,q1,q2⟩:=B.th
   grind
theorem CI(A:PEok P){f:Nat}{g:List AV->Option (List AV)}(H:∀args rs,g args=zsq rs->Comes P f args rs):TC P.E f g:=
 fun args rs hg Z h xs hl hz hb=>Gx A (H args rs hg) hl hz hb
theorem wK(B:PEok P){f:Nat}{g:List AV->Option (List AV)}(H:∀a args rs,g (a::args)=zsq rs->∀A∈refine1 a,Comes P f (A::args) rs)(H0:g []=znq):TC P.E f g:=by
 intro args rs hg Z h xs hl hz hb;cases args with
 |nil=>grind
 |cons a args=>
  cases xs with
  |nil=>cases hl
  |cons x xs=>
   obtain⟨A,h1,h2⟩:=(hz 0 x a rfl rfl).refine;refine Gx B (H a args rs hg A h1) hl (fun i u w hu hw=>?_) hb;grind
end
end Go.AM
