/- The tree machine: code as trees, memory by kept numbers, and that it says what the machine does. Conditions: none. -/
import Derived.Test.YtjmbnofdnenjfaaPmA
set_option linter.unusedVariables false
set_option linter.unusedSimpArgs false
set_option linter.unusedSectionVars false
set_option linter.defProp false
set_option maxHeartbeats 4000000
open List renaming getElem?_eq_getElem→zqa,replicate→zqb,mem_of_getElem?→zqc,getElem?_eq_some_iff→zqd,getElem?_of_mem→zqe,all_eq_true→zqf,mem_cons_self→zqg,getElem?_map→zqh,mem_cons→zqi,eq_nil_of_length_eq_zero→zqj,mem_append→zqk,append_nil→zql,getElem_mem→zqm,mem_replicate→zqn,append_eq_nil_iff→zqo,getElem?_append_left→zqp,length_eq_one_iff→zqq,isEmpty_iff→zqr,mem_singleton→zqs
open Nat renaming lt_of_lt_of_le→zqt,le_refl→zqu,ble_eq_true_of_le→zqv,beq_refl→zqw,eq_of_beq_eq_true→zqx,le_trans→zqy
open Bool renaming and_eq_true_iff→zqz,and_eq_true→zka,or_eq_true_iff→zkb
namespace Go.AM
section
variable {E:Env}{R:AV->AV->Prop}{Z Z':Nat->Prop}{ow ow' ow1 ow2:Nat->Option (List Nat)}{h h':Heap}{K K':PK}{os os' os1 os2:List PO}{x y xc yc v:AV}{L M:List Nat}
def VO(Z:Nat->Prop)(ow:Nat->Option (List Nat))(h:Heap)(os:List PO)(a b:Option AV):Prop:=(a=none/\b=none)\/∃x y,a=some x/\b=some y/\VR Z ow h os x y
theorem dC(hg:xN E){nt:Nat}{frc:Tr}{fr:PF}(a:FrR Z ow h os nt frc fr)(o:Option Operand):VO Z ow h os (Nf E o frc) (cW E o fr):=by
 cases o with
 |none=>exact .inl ⟨rfl,rfl⟩
 |some o=>exact .inr ⟨_,_,rfl,rfl,Bt hg a o⟩
theorem G7{a b:Option AV}{d n:Nat}(hv:VO Z ow h os a b)(e:F3 b d=some n):F3 a d=some n:=by
 rcases hv with⟨rfl,rfl⟩|⟨x,y,rfl,rfl,hv⟩
 . exact e
 . exact w5 hv e
theorem VO.isS{a b:Option AV}(hv:VO Z ow h os a b):a.isSome=b.isSome/\a.isNone=b.isNone:=by
 rcases hv with⟨rfl,rfl⟩|⟨x,y,rfl,rfl,hv⟩<;>exact⟨rfl,rfl⟩
theorem Bl{a b:Nat}:Nat.ble a b=true↔a<=b:=(by simp_all)
def CV(mx:Option AV)(f:Bool)(m r n:Nat):Bool:=match mx with|some _=>Nat.beq m r|none=>f&&Nat.beq r n
theorem iJ{sz:Nat}{es:List AV}{f:Bool}{lo hi mx:Option AV}(e:Nc sz es f lo hi mx=some v):∃l r m,F3 lo 0=some l/\F3 hi es.length=some r/\F3 mx es.length=some m/\l<=r/\r<=m/\m<=es.length/\j1 sz es=true/\v=.fsl ((es.drop l).take (r-l)) (CV mx f m r es.length):=by
 unfold Nc at e;obtain⟨l,h1,e⟩:=A1 e;obtain⟨r,h2,e⟩:=A1 e;obtain⟨m,h3,e⟩:=A1 e;obtain⟨h4,e⟩:=B0 e;rw[A9]at h2 h3 h4 e;simp only[zka,Bl]at h4;rw[K6,K5]at e;cases e;exact⟨l,r,m,h1,h2,h3,h4.1.1.1,h4.1.1.2,h4.1.2,h4.2,rfl⟩
theorem rC{sz:Nat}{es:List AV}{f:Bool}{lo hi mx:Option AV}{l r m:Nat}(h1:F3 lo 0=some l)(h2:F3 hi es.length=some r)(h3:F3 mx es.length=some m)(h4:l<=r)(h5:r<=m)(h6:m<=es.length)(h7:j1 sz es=true):Nc sz es f lo hi mx=some (.fsl ((es.drop l).take (r-l)) (CV mx f m r es.length)):=by
 unfold Nc;rw[h1];show A7 (F3 hi (lenL es)) _=_
 rw[A9,h2];show A7 (F3 mx es.length) _=_
 rw[h3];show B6 (Nat.ble l r&&Nat.ble r m&&Nat.ble m es.length&&j1 sz es) _=_
 rw[Bl.2 h4,Bl.2 h5,Bl.2 h6,h7,K6,K5];rfl
theorem iK{ts id off n sz:Nat}{lo hi mx:Option AV}(e:Ji ts id off n sz lo hi mx=some v):∃l r m,F3 lo 0=some l/\F3 hi n=some r/\F3 mx n=some m/\l<=r/\r<=m/\m<=n/\sz=ts/\v=.msl id (off+l) (r-l) sz:=by
 unfold Ji at e;obtain⟨l,h1,e⟩:=A1 e;obtain⟨r,h2,e⟩:=A1 e;obtain⟨m,h3,e⟩:=A1 e;obtain⟨h4,e⟩:=B0 e;simp only[zka,Bl]at h4;rw[C9,C9]at e;simp_all
theorem Om{ts id off n:Nat}{lo hi mx:Option AV}{l r m:Nat}(h1:F3 lo 0=some l)(h2:F3 hi n=some r)(h3:F3 mx n=some m)(h4:l<=r)(h5:r<=m)(h6:m<=n):Ji ts id off n ts lo hi mx=some (.msl id (off+l) (r-l) ts):=by
 unfold Ji;rw[h1];show A7 (F3 hi n) _=_
 rw[h2];show A7 (F3 mx n) _=_
 rw[h3];show B6 (Nat.ble l r&&Nat.ble r m&&Nat.ble m n&&Nat.beq ts ts) _=_
 rw[Bl.2 h4,Bl.2 h5,Bl.2 h6,zqw,C9,C9];rfl
theorem lN{d:TD}{lo hi mx lo' hi' mx':Option AV}(hlo:VO Z ow h os lo' lo)(hhi:VO Z ow h os hi' hi)(hmx:VO Z ow h os mx' mx)(hx:VR Z ow h os xc x)(e:Vt E d lo hi mx x=some v):∃vc,sliceA E d lo' hi' mx' xc=some vc/\VR Z ow h os vc v:=by
 have str:∀{s:List UInt8}{v:AV},Eu s lo hi mx=some v->Eu s lo' hi' mx'=some v/\∃s',v=.str s':=fun{s v} e=>by
  unfold Eu at e|-;obtain⟨l,h1,e⟩:=A1 e;obtain⟨r,h2,e⟩:=A1 e;obtain⟨h3,e⟩:=B0 e;rw[G7 hlo h1];show A7 (F3 hi' (o8 s)) _=_/\_
  rw[G7 hhi h2];show B6 (Nat.ble l r&&Nat.ble r (o8 s)&&mx'.isNone) _=_/\_
  rw[hmx.isS.2,h3];cases e;exact⟨rfl,_,rfl⟩
 have msl:∀{id off n sz},x=.msl id off n sz->sliceA E d lo hi mx x=some v->∃vc,sliceA E d lo' hi' mx' xc=some vc/\VR Z ow h os vc v:=fun{id off n sz} hxe e=>by
  subst hxe;cases d with
  |string=>cases e
  | slice el =>
   have e:onTI E el none (fun te=>Nd te.size lo hi mx (.msl id off n sz))=some v:=e;show ∃vc,onTI E el none (fun te=>Nd te.size lo' hi' mx' xc)=some vc/\_
   unfold onTI at e|-;cases ht:E.ti el with
   |none=>rw[ht]at e;cases e
   | some te =>
    rw[ht]at e;simp only at e|-;have e:Ji te.size id off n sz lo hi mx=some v:=e;obtain⟨l,r,m,h1,h2,h3,h4,h5,h6,rfl,rfl⟩:=iK e;cases hx with
    |fz z=>cases z
    | mnil em hn hi0 =>
     have q1:=G7 hlo h1;have q2:=G7 hhi h2;have q3:=G7 hmx h3;obtain rfl:m=0:=by omega
     obtain rfl:r=0:=by omega
     obtain rfl:l=0:=by omega
     rcases em with rfl|rfl
     all_goals
      refine⟨.nilsl,?_,.mnil (.inl rfl) hn hi0⟩;show aL lo' hi' mx'=some .nilsl
      unfold aL;rw[q1];show A7 (F3 hi' 0) _=_
      rw[q2];show A7 (F3 mx' 0) _=_
      rw[q3];rfl
    | msl a b =>
     refine⟨_,Om (G7 hlo h1) (G7 hhi h2) (G7 hmx h3) h4 h5 h6,?_⟩;exact .msl a b
  |_=>cases e
 cases x with
 |nilsl=>cases e
 | msl id off n sz =>
  exact msl rfl e
 | fsl es f =>
  have e:(if es.isEmpty||mx.isSome then none else(sliceA E d lo hi mx (.fsl es f)).map fun y=>match y with | .fsl l _=>.fsl l l.isEmpty|y=>y)=some v:=e;split at e
  . cases e
  . rename_i hne
    cases hq:sliceA E d lo hi mx (.fsl es f)with
    |none=>rw[hq]at e;cases e
    | some w =>
     rw[hq]at e;cases d with
     |string=>cases hq
     | slice el =>
      have hq:onTI E el none (fun te=>Nd te.size lo hi mx (.fsl es f))=some w:=hq;show ∃vc,onTI E el none (fun te=>Nd te.size lo' hi' mx' xc)=some vc/\_
      unfold onTI at hq|-;cases ht:E.ti el with
      |none=>rw[ht]at hq;cases hq
      | some te =>
       rw [ht]at hq;simp only at hq|-;have hq:Nc te.size es f lo hi mx=some w:=hq;obtain⟨l,r,m,h1,h2,h3,h4,h5,h6,h7,rfl⟩:=iJ hq;cases e;obtain⟨u,us,rfl⟩:∃u us,es=u::us:=by cases es with
        |nil=>grind
        |cons u us=>grind
       have hmn:mx'=none:=by
        cases hm:mx' with
        |none=>rfl
        | some q =>
         have h8:=hmx.isS.1;grind
       have hu:u.cells.length=te.size:=by
        have h7:Nat.beq (lenL u.cells) te.size=true:=h7;grind[A9,zqx]
       cases hx with
       | fz z =>
        cases z with
        | fsl g1 g2 g3 =>
         rename_i es0 f0;obtain⟨u0,us0,rfl⟩:∃u us,es0=u::us:=by cases es0 with
          |nil=>simp at g1
          |cons u us=>grind
         have hu0:=(g2 0 u0 u rfl rfl).shape.1;refine⟨_,rC (sz:=te.size) (es:=u0::us0) (f:=f0) (G7 hlo h1) (G7 hhi (by grind)) (G7 hmx (by grind)) h4 h5 (by grind) (by show Nat.beq (lenL u0.cells) te.size=true;simp_all[A9]),?_⟩;refine .fz (.fsl (by grind) (fun i x y hx hy=>?_) (by rw[hmn,g3];rfl));grind
        | view g1 g2 g3 g4 g5 g6 =>
         rename_i id off n sz row;have hl0:off<row.length:=by grind
         have hz0:=g5 0 _ u (zqa hl0) rfl;have hsz:sz=te.size:=by rw[<-g6 0 _ (by grind) (zqa hl0),hz0.shape.1,hu]
         subst hsz;rw[g4]at h2 h3 h6;refine⟨_,Om (id:=id) (off:=off) (G7 hlo h1) (G7 hhi h2) (G7 hmx h3) h4 h5 h6,?_⟩;refine .fz (.view (row:=row) g1 g2 (by omega) (by grind) (fun i x y hx hy=>?_) (fun i x hi hx=>g6 (l+i) x (by omega) (by grind)));grind
     |_=>cases hq
 | str s =>
  cases d with
  | string =>
   rw[hx.isS];obtain⟨h1,s',rfl⟩:=str (show Eu s lo hi mx=some v from e);exact⟨_,h1,.fz (.str s')⟩
  | slice el =>
   have e:onTI E el none (fun te=>Nd te.size lo hi mx (.str s))=some v:=e;unfold onTI at e;cases ht:E.ti el with
   |none=>simp_all
   |some te=>rw[ht]at e;cases e
  |_=>cases e
 | _ =>
  cases d with
  | slice el =>
   have e:onTI E el none (fun te=>none)=some v:=e;unfold onTI at e;cases ht:E.ti el with
   |none=>simp_all
   |some te=>simp_all
  |_=>cases e
theorem LX(s:I4 Z ow h K.os){id:Nat}{es:List (AV×AV)}(hm:K.os[id]?=some (.mapo es))(hx:VR Z ow h K.os xc (.map id)):∃c ces,xc=.map c/\MapR Z ow h id es c ces:=by
 obtain⟨c0,ces,g⟩:=s.map id es hm;cases hx with
 |fz z=>cases z
 | map a b =>
  have h1:=a [id] (by grind[loP])
  have:=s.inj _ _ _ h1 g.o
  grind
theorem wO{α:Type}{h:Heap}{id:Nat}{es:List (AV×AV)}{d:α}{f:List (AV×AV)->α}(hg:h.get id=some (.mapo es)):h.onMapo id d f=f es:=by
 grind[Heap.onMapo]
theorem wP(s:I4 Z ow h K.os){d:TD}{n:Nat}(hx:VR Z ow h K.os xc x)(e:FQ d x K=some n):jP d xc h=some n:=by
 cases d with
 |string=>obtain⟨s',rfl,e1⟩:=K8 (show x.onStr none (fun s=>some (o8 s))=some n from e);rw[hx.isS];exact e
 | slice el =>
  have e:eF x=some n:=e;show eF xc=some n
  cases x with
  |nilsl=>rw[hx.isN];exact e
  | fsl es f =>
   have e:some (lenL es)=some n:=e;rw[A9]at e;cases e;cases hx with
   | fz z =>
    cases z with
    |emp em=>cases em<;>rfl
    |fsl h1 _ _=>show some (lenL _)=_;rw[A9,h1]
    |view _ _ _ h4 _ _=>show some _=some _;rw[h4]
  | msl id off m sz =>
   cases e;cases hx with
   |fz z=>cases z
   |mnil em _ _=>rcases em with rfl|rfl<;>rfl
   |msl=>rfl
  |_=>cases e
 | map a b =>
  show sL xc h=some n
  cases x with
  |nilmap=>cases hx with|fz z=>cases z;exact e
  | map id =>
   have e:(match K.os[id]? with|some (.mapo es)=>some (pA es)|_=>none)=some n:=e;cases hm:K.os[id]? with
   |none=>grind
   | some q =>
    rw[hm]at e;cases q with
    | mapo es =>
     obtain⟨c,ces,rfl,g⟩:=LX s hm hx;show h.onMapo c none (fun es=>some (pA es))=some n
     rw[wO g.get,Ru,g.len,<-Ru];exact e
    |_=>cases e
  |_=>cases e
 |_=>cases e
theorem iL:∀(l lc:List AV)(x xc v:AV),VL Z ow h os lc l->VR Z ow h os xc x->Nb l x=some v->∃vc,Nb lc xc=some vc/\VR Z ow h os vc v
 | [],lc,x,xc,v,hl,hx,e=>by
  have:lc=[]:=zqj hl.1
  subst this;cases e;exact⟨xc,rfl,hx⟩
 |y::l,[],x,xc,v,hl,hx,e=>by have:=hl.1;simp at this
 | y::l,yc::lc,x,xc,v,hl,hx,e=>by
  have e:(x.onInt none fun k a=>y.onInt none fun _ b=>Nb l (.int k (bif intLe b a then a else b)))=some v:=e;obtain⟨k,a,rfl,e1⟩:=D4 e;obtain⟨_,b,rfl,e2⟩:=D4 e1;rw[hx.isI,hl.inv.1.isI];exact iL l lc _ _ v hl.inv.2 (.i _ _) e2
theorem iM:∀(l lc:List AV)(x xc v:AV),VL Z ow h os lc l->VR Z ow h os xc x->Qq l x=some v->∃vc,Qq lc xc=some vc/\VR Z ow h os vc v
 | [],lc,x,xc,v,hl,hx,e=>by
  have:lc=[]:=zqj hl.1
  subst this;cases e;exact⟨xc,rfl,hx⟩
 |y::l,[],x,xc,v,hl,hx,e=>by have:=hl.1;simp at this
 | y::l,yc::lc,x,xc,v,hl,hx,e=>by
  have e:(x.onInt none fun k a=>y.onInt none fun _ b=>Qq l (.int k (bif intLe a b then a else b)))=some v:=e;obtain⟨k,a,rfl,e1⟩:=D4 e;obtain⟨_,b,rfl,e2⟩:=D4 e1;rw[hx.isI,hl.inv.1.isI];exact iM l lc _ _ v hl.inv.2 (.i _ _) e2
def VQ(Z:Nat->Prop)(ow:Nat->Option (List Nat))(h:Heap)(os:List PO)(ps qs:List (Nat×AV)):Prop:=ps.length=qs.length/\∀(i:Nat) p q,ps[i]?=some p->qs[i]?=some q->p.1=q.1/\VR Z ow h os p.2 q.2
theorem Mq(hg:xN E){nt:Nat}{frc:Tr}{fr:PF}(a:FrR Z ow h os nt frc fr):∀l:List (Nat×Operand),VQ Z ow h os (opvps E l frc) (cV E l fr)
 |[]=>⟨rfl,fun i p q hp=>by cases i<;>cases hp⟩
 | o::l=>⟨congrArg Nat.succ (Mq hg a l).1,fun i p q hp hq=>by
  cases i with
  |zero=>cases hp;cases hq;exact⟨rfl,Bt hg a o.2⟩
  |succ i=>exact(Mq hg a l).2 i p q hp hq⟩
theorem VQ.inv{p q:Nat×AV}{ps qs:List (Nat×AV)}(v:VQ Z ow h os (p::ps) (q::qs)):(p.1=q.1/\VR Z ow h os p.2 q.2)/\VQ Z ow h os ps qs:=⟨v.2 0 p q rfl rfl,by have:=v.1;grind,fun i p q hp hq=>v.2 (i+1) p q hp hq⟩
theorem lO{xs ys us vs:List AV}{off:Nat}(a:VL Z ow h os xs ys)(b:VL Z ow h os us vs):VL Z ow h os (O8 xs off us) (O8 ys off vs):=by
 rw[U6,U6];grind[lsplice,VL]
theorem zU{v vc:AV}(hv:VR Z ow h os vc v)(ho:E8 v.cells=true):E8 vc.cells=true/\vc.cells.length=v.cells.length/\VL Z ow h os vc.cells v.cells:=by
 rw[G9]at ho;have hne:v≠.und:=fun e=>by subst e;exact absurd (ho .und (zqg ..)) (by decide)
 have hl:=hv.cells hne;refine⟨(G9 _).2 fun c hc=>?_,hl.1,hl⟩;obtain⟨i,hi⟩:=zqe hc;have hlt:i<v.cells.length:=by rw[<-hl.1];grind
 have hok:=ho _ (zqm hlt);refine(hl.2 i c _ hi (zqa hlt)).okc ?_
 revert hok
 cases v.cells[i]<;>intro hok<;>first|rfl|cases hok
theorem On(place:Nat->Option (Nat×Nat)):∀(ps qs:List (Nat×AV))(xs ys zs:List AV),VQ Z ow h os ps qs->VL Z ow h os xs ys->V3 place qs ys=some zs->∃ws,V3 place ps xs=some ws/\VL Z ow h os ws zs
 |[],[],xs,ys,zs,_,hl,e=>by cases e;exact⟨xs,rfl,hl⟩
 |[],q::qs,xs,ys,zs,hv,hl,e=>by have:=hv.1;simp at this
 |p::ps,[],xs,ys,zs,hv,hl,e=>by have:=hv.1;simp at this
 | p::ps,q::qs,xs,ys,zs,hv,hl,e=>by
  have e:A7 (place q.1) (fun w=>B6 (Nat.beq (lenL q.2.cells) w.2&&Nat.ble (Nat.add w.1 w.2) (lenL ys)&&E8 q.2.cells) (V3 place qs (O8 ys w.1 q.2.cells)))=some zs:=e;obtain⟨w,h1,e⟩:=A1 e;obtain⟨h2,e⟩:=B0 e;rw[zka,zka]at h2;obtain⟨⟨h3,h4⟩,h5⟩:=h2;obtain⟨⟨h6,h7⟩,h8⟩:=hv.inv;obtain⟨g1,g2,g3⟩:=zU h7 h5;obtain⟨ws,h9,h10⟩:=On place ps qs _ _ zs h8 (lO (off:=w.1) hl g3) e;refine⟨ws,?_,h10⟩;show A7 (place p.1) (fun w=>B6 (Nat.beq (lenL p.2.cells) w.2&&Nat.ble (Nat.add w.1 w.2) (lenL xs)&&E8 p.2.cells) (V3 place ps (O8 xs w.1 p.2.cells)))=some ws
  rw[h6,h1];show B6 (Nat.beq (lenL p.2.cells) w.2&&Nat.ble (Nat.add w.1 w.2) (lenL xs)&&E8 p.2.cells) _=_
  rw[A9,g2,<-A9,h3,A9,hl.1,<-A9,h4,g1];exact h9
theorem lP(hT:FV E){t:Nat}{ti:TI}(ht:E.ti t=some ti){ps qs:List (Nat×AV)}(hv:VQ Z ow h os ps qs)(e:X5 E ti qs=some v):∃vc,X5 E ti ps=some vc/\VR Z ow h os vc v:=by
 have hz:VL Z ow h os ti.zero.cells ti.zero.cells:=⟨rfl,fun i x y hx hy=>.fz (((hT t ti ht).1 Z h).cell hx hy).1⟩
 unfold X5 at e|-;cases hd:ti.desc with
 | struct fields f =>
  rw[hd]at e;simp only at e|-;cases hq:V3 (fun i=>A7 (Wv fields i) fun f=>onTI E f.1 none fun g=>some (f.2,g.size)) qs ti.zero.cells with
  |none=>grind
  | some zs =>
   rw[hq]at e;cases e;obtain⟨ws,h1,h2⟩:=On _ ps qs _ _ zs hv hz hq;rw[h1];exact⟨_,rfl,.agL h2⟩
 | array len el =>
  rw[hd]at e;simp only at e|-;unfold onTI at e|-;cases ht:E.ti el with
  |none=>simp_all
  | some te =>
   rw[ht]at e;simp only at e|-;cases hq:V3 (fun i=>some (Nat.mul i te.size,te.size)) qs ti.zero.cells with
   |none=>grind
   | some zs =>
    rw[hq]at e;cases e;obtain⟨ws,h1,h2⟩:=On _ ps qs _ _ zs hv hz hq;rw[h1];exact⟨_,rfl,.agL h2⟩
 |_=>grind
end
section
variable {E:Env}{R:AV->AV->Prop}{Z Z':Nat->Prop}{ow ow' ow1 ow2:Nat->Option (List Nat)}{h h':Heap}{K K':PK}{os os' os1 os2:List PO}{x y xc yc v k:AV}{L M:List Nat}
theorem withAll{v e:AV}(ha:isAg v=isAg e)(hl:v.cells.length=e.cells.length)(hok:∀c∈v.cells,isAg c=false):e.withCells 0 v.cells=v:=by
 cases hv:isAg v with
 | true =>
  rw[hv]at ha;cases v with
  | agg vs =>
   cases e with
   | agg es =>
    show AV.agg (O8 es 0 vs)=.agg vs
    rw[U6];unfold lsplice;have hl:vs.length=es.length:=hl;grind
   |_=>cases ha
  |_=>cases hv
 | false =>
  rw[hv]at ha;rw[D8 hv];cases e<;>first|rfl|cases ha
theorem I4.congr(s:I4 Z ow h os)(hn:h'.next=h.next)(hg:∀d,h'.get d=h.get d):I4 Z ow h' os:=by
 have hz:∀d,Z d->Z d/\h'.get d=h.get d:=fun d hd=>⟨hd,hg d⟩
 have key:PT (VR Z ow h os) Z ow h' os:=by
  refine⟨fun r es sz hr=>?_,fun r k es sz hr hk=>?_,fun r es hr=>?_,s.inj,fun a M ha=>?_,fun a ha=>by rw[hn];exact s.zb a ha,s.sb⟩
  . obtain⟨x,hx⟩:=s.row r es sz hr
    exact⟨x,hx.reloc (Nat.le_of_eq hn.symm) hz (fun _ _=>.rfl) (fun d _ _=>hg d)⟩
  . obtain⟨c,ces,g⟩:=s.raw r k es sz hr hk
    exact⟨c,ces,g.o,by rw[hn];exact g.lt,(hg c).trans g.get,g.sh,g.vr,g.okp,g.no⟩
  . obtain⟨c,ces,g⟩:=s.map r es hr
    exact⟨c,ces,g.o,by rw[hn];exact g.lt,(hg c).trans g.get,g.len,fun i x y hx hy=>⟨(g.kv i x y hx hy).1,(g.kv i x y hx hy).2.mono hz⟩,g.no⟩
  . obtain⟨h1,h2⟩:=s.live a M ha
    grind
 exact I4.to key hz (.refl _ _)
end
section
variable {E:Env}{R:AV->AV->Prop}{Z Z':Nat->Prop}{ow ow' ow1 ow2:Nat->Option (List Nat)}{h h':Heap}{K K':PK}{os os' os1 os2:List PO}{x y xc yc v k:AV}{L M:List Nat}
theorem iN(v:AV):Jf v=isAg v:=by cases v<;>rfl
theorem lQ{t:TI}{c i off sz:Nat}{es:List AV}(hg:h.get c=some (.row es sz))(e:Cu t (.ptr c i off) v h=some h'):∃old,es[i]?=some old/\v.cells.length=t.size/\E8 v.cells=true/\h'=h.set c (.row (es.set i (old.withCells off v.cells)) sz):=by
 have e:h.onRow c none (Sq t c i off v.cells h)=some h':=e;rw[Mk hg]at e;obtain⟨old,h1,e⟩:=A1 e;obtain⟨h2,e⟩:=B0 e;rw[S3]at h1;rw[zka,zka,zka]at h2;simp only[Ay]at e;cases e;refine⟨old,h1,?_,h2.2,rfl⟩;grind[zqx,A9]
theorem rD{t:TI}{p x:AV}(hs:storeP t p x K=some K'):x≠.und:=fun e=>by
 subst e;unfold storeP at hs;cases p with
 | ptr n i off =>
  simp only at hs;cases hr:rowOf K.os 6 n with
  |none=>grind
  | some t' =>
   obtain⟨k,es,sz⟩:=t';rw[hr]at hs;simp only at hs;cases hi:es[i]? with
   |none=>grind
   | some u =>
    rw[hi]at hs;simp only at hs;split at hs
    . cases hraw:rawAt K.os n with
      | true =>
       rw[hraw]at hs;simp only at hs;split at hs
       . rename_i hok;exact absurd hok (by decide)
       . cases hs
      | false =>
       rw[hraw]at hs;simp only at hs;have e1:(AV.und.cells.all clo&&((u.cells.drop off).take t.size).all clo)=false:=rfl;rw[e1]at hs;simp only[Bool.false_eq_true,if_false]at hs;cases hq:setRow (killP K.os (rootOf K.os 6 n) (chainOf K.os 6 n)) 6 n (es.set i (u.withCells off (zqb t.size .und)))with
       |none=>grind
       | some os0 =>
        rw[hq]at hs;simp only at hs;have e2:sealC K.ext (rootOf K.os 6 n) n i off os0 AV.und.cells=none:=rfl;grind
    . cases hs
 |_=>cases hs
theorem Zn{te:TI}{n c:Nat}:∀(qs ps:List (Nat×AV))(K K':PK)(ow:Nat->Option (List Nat))(h:Heap)(ces:List AV),I4 Z ow h K.os->VQ Z ow h K.os ps qs->(∀i,VR Z ow h K.os (.ptr c i 0) (.ptr n i 0))->h.get c=some (.row ces te.size)->(∀e∈ces,isAg e=isAg te.zero/\e.cells.length=te.size)->placeP te n qs K=some K' ->
 ∃ces' h' ow',placeL te.size ps ces=some ces'/\I4 Z ow' h' K'.os/\Keep' ow K.os ow' K'.os/\Stp K.ext Z ow h K Z ow' h' K'/\h'.get c=some (.row ces' te.size)/\(∀d,d≠c->h'.get d=h.get d)/\h'.next=h.next
 | [],ps,K,K',ow,h,ces,s,hv,hp,hg,hsh,e=>by
  have:ps=[]:=zqj hv.1
  subst this;cases e;exact⟨ces,h,ow,rfl,s,.refl _ _,.refl _ _ _ _ _,hg,fun _ _=>rfl,rfl⟩
 |q::qs,[],K,K',ow,h,ces,s,hv,hp,hg,hsh,e=>by have:=hv.1;simp at this
 | q :: qs,p::ps,K,K',ow,h,ces,s,hv,hp,hg,hsh,e=>by
  obtain⟨⟨hi,hvr⟩,hvs⟩:=hv.inv;obtain⟨i,qv⟩:=q;obtain⟨i',pv⟩:=p;have hi:i'=i:=hi;subst hi;unfold placeP at e;split at e
  . rename_i hag
    rw[iN,iN]at hag;cases hs:storeP te (.ptr n i' 0) qv K with
    |none=>rw[hs]at e;cases e
    | some K1 =>
     rw[hs]at e;simp only at e;obtain⟨h1,ow1,g1,g2,g3,g4⟩:=Zl s (hp i') hvr hs;obtain⟨old,o1,o2,o3,rfl⟩:=lQ hg g1;have hne:qv≠.und:=rD hs;have hsv:=hvr.shape hne;have hol:=hsh old (zqc o1);have hokc:=(G9 _).1 o3;have hwa:old.withCells 0 pv.cells=pv:=(by grind[Go.AM.withAll,Go.AM.okCell_nag])
     rw[hwa]at g1 g2 g4;have hlt:i'<ces.length:=(zqd.1 o1).1;have hz1:∀d,Z d->Z d/\(h.set c (.row (ces.set i' pv) te.size)).get d=h.get d:=fun d hd=>(g4 0).zz d hd
     obtain ⟨ces',h2,ow2,a1,a2,a3,a4,a5,a6,a7⟩:=Zn qs ps K1 K' ow1 (h.set c (.row (ces.set i' pv) te.size)) (ces.set i' pv) g2 ⟨hvs.1,fun j p q hp hq=>⟨(hvs.2 j p q hp hq).1,(hvs.2 j p q hp hq).2.keep hz1 g3⟩⟩ (fun j=>(hp j).keep hz1 g3) (Heap.get_set_eq _ _ hg) (fun e he=>by
      rcases List.mem_or_eq_of_mem_set he with h|h
      . exact hsh e h
      . subst h;exact⟨by rw[hsv.2,hag],o2⟩) e
     refine⟨ces',h2,ow2,?_,a2,g3.trans a3,(g4 K.ext).trans s (by grind),a5,(by grind[Go.AM.Heap.get_set_ne]),a7⟩;show B6 (Nat.blt i' (lenL ces)&&Nat.beq (lenL pv.cells) te.size&&E8 pv.cells) (placeL te.size ps (setL ces i' pv))=some ces'
     rw[A9,A9,o2,zqw,o3,Ay]
     have:Nat.blt i' ces.length=true:=zqv hlt
     rw[this];exact a1
  . cases e
theorem zV{t n:Nat}{ps:Array (Nat×Operand)}{ti te:TI}{fr:Tr}{es:List AV}(ht:E.ti t=some ti)(hte:elemOfT E ti.desc=some te)(h1:n*te.size<=65536)(h2:0<te.size)(hp:placeL te.size (opvps E ps.toList fr) (zqb n te.zero)=some es):M2 E t n ps fr h=.ok (.msl h.next 0 n te.size) (h.push (.row es te.size)):=by
 unfold M2 onTI;rw[ht];simp only;rw[hte];show(bif Nat.ble (Nat.mul n te.size) 65536&&Nat.blt 0 te.size then(match placeL te.size (opvps E ps.toList fr) (repL n te.zero)with|none=>Res.bad|some es=>.ok (.msl h.next 0 n te.size) (h.push (.row es te.size)))else .bad)=_
 have e1:Nat.ble (Nat.mul n te.size) 65536=true:=zqv h1;grind[Nat.blt,zqv,m6]
theorem Wj{sz:Nat}:∀(qs ps:List (Nat×AV))(ys xs zs:List AV),VQ Z ow h os ps qs->xs.length=ys.length->(∀(i:Nat) x y,xs[i]?=some x->ys[i]?=some y->VR Z ow h os x y/\y.cells.length=sz/\∀b∈y.cells,Hm b=true)->placeR sz qs ys=some zs->∃ws,placeL sz ps xs=some ws/\ws.length=zs.length/\zs.length=ys.length/\∀(i:Nat) x y,ws[i]?=some x->zs[i]?=some y->VR Z ow h os x y/\y.cells.length=sz/\∀b∈y.cells,Hm b=true
 | [],ps,ys,xs,zs,hv,hl,hr,e=>by
  have:ps=[]:=zqj hv.1
  subst this;cases e;exact⟨xs,rfl,hl,rfl,hr⟩
 |q::qs,[],ys,xs,zs,hv,hl,hr,e=>by have:=hv.1;simp at this
 | q :: qs,p::ps,ys,xs,zs,hv,hl,hr,e=>by
  obtain⟨⟨hi,hvr⟩,hvs⟩:=hv.inv;obtain⟨i,qv⟩:=q;obtain⟨i',pv⟩:=p;have hi:i'=i:=hi;subst hi;unfold placeR at e;split at e
  . rename_i hc
    obtain⟨h1,h2,h3⟩:=hc;rw[zqf]at h3;have hne:qv≠.und:=fun e=>by subst e;exact absurd (h3 .und (zqg ..)) (by decide)
    have hvl:=hvr.cells hne;have hok:E8 pv.cells=true:=(G9 _).2 fun c hc=>by
     obtain⟨j,hj⟩:=zqe hc;have hjl:j<qv.cells.length:=by rw[<-hvl.1];grind
     exact(hvl.2 j c _ hj (zqa hjl)).okc (h3 _ (zqm hjl))
    obtain⟨ws,a1,a2,a3,a4⟩:=Wj qs ps (ys.set i' qv) (xs.set i' pv) zs hvs (by simp[hl]) (by grind) e;refine⟨ws,?_,a2,by grind,a4⟩;show B6 (Nat.blt i' (lenL xs)&&Nat.beq (lenL pv.cells) sz&&E8 pv.cells) (placeL sz ps (setL xs i' pv))=some ws
    rw[A9,A9,hvl.1,h2,zqw,hok,Ay]
    have:Nat.blt i' xs.length=true:=zqv (by omega)
    rw[this];exact a1
  . cases e
theorem lR(hT:FV E)(s:I4 Z ow h K.os)(hx:K.ext<=K.os.length){n e:Nat}{te:TI}(hte:E.ti e=some te){ps qs:List (Nat×AV)}(hv:VQ Z ow h K.os ps qs)(e:Cm te n qs K=some (v,K')):
 n*te.size<=65536/\0<te.size/\∃es ow',placeL te.size ps (zqb n te.zero)=some es/\I4 Z ow' (h.push (.row es te.size)) K'.os/\Keep' ow K.os ow' K'.os/\VR Z ow' (h.push (.row es te.size)) K'.os (.msl h.next 0 n te.size) v/\∀b,Stp b Z ow h K Z ow' (h.push (.row es te.size)) K':=by
 have hz:=hT _ _ hte;have hgl:∀ob d,d<h.next->(h.push ob).get d=h.get d:=fun ob d hd=>Heap.get_push_ne h _ (by omega)
 unfold Cm at e;split at e
 . rename_i hc
   refine⟨hc.1,hc.2,?_⟩;have hrep:∀{i:Nat}{x:AV},(zqb n te.zero)[i]?=some x->x=te.zero:=fun{i x} h=>(zqn.1 (zqc h)).2
   cases hp:placeP te K.os.length qs (newRow 0 (zqb n te.zero) te.size K)with
   | some K1 =>
    rw[hp]at e;cases e;obtain⟨z1,z2,z3,z4⟩:=iF (n:=n) s hx hz.1 hz.2;have hzz:∀d,Z d->Z d/\(h.push (.row (zqb n te.zero) te.size)).get d=h.get d:=fun d hd=>⟨hd,hgl _ d (s.zb d hd)⟩
    have hpt:∀i,VR Z (f8 ow h.next [K.os.length]) (h.push (.row (zqb n te.zero) te.size)) (newRow 0 (zqb n te.zero) te.size K).os (.ptr h.next i 0) (.ptr K.os.length i 0):=fun i=>.ptr (fun L hL=>by
     have hL:loP (K.os++[PO.row 0 (zqb n te.zero) te.size]) 6 K.os.length=some L:=hL;rw[Ol _ (.inl ⟨_,_,_,rfl⟩)]at hL;cases hL;exact V0 _ _ _) (by show _<(K.os++[PO.row 0 (zqb n te.zero) te.size]).length;simp)
    obtain⟨es,h2,ow2,a1,a2,a3,a4,a5,a6,a7⟩:=Zn qs ps _ _ _ _ (zqb n te.zero) z1 ⟨hv.1,fun i p q hp hq=>⟨(hv.2 i p q hp hq).1,(hv.2 i p q hp hq).2.keep hzz z2⟩⟩ hpt (Heap.get_push_eq h _) (fun e he=>by rw[(zqn.1 he).2];exact⟨rfl,hz.2⟩) hp;have hge:∀d,(h.push (.row es te.size)).get d=h2.get d:=(by grind[Go.AM.Heap.get_push_eq,Go.AM.Heap.get_push_ne])
    have hn2:(h.push (.row es te.size)).next=h2.next:=a7.symm;have st:=(z4 K.ext).trans s a4;have hkk:=z2.trans a3;refine⟨es,ow2,a1,a2.congr hn2 hge,hkk,(z3.keep (Z':=Z) (h':=h2) (fun d hd=>a4.zz d hd) a3).keep (fun d hd=>⟨hd,hge d⟩) (.refl _ _),fun b=>⟨Nat.le_succ _,fun d hd=>⟨hd,hgl _ d (s.zb d hd)⟩,fun _ hd=>.inl hd,fun d hd _=>hgl _ d hd,st.uo,⟨[],rfl,fun d hd=>by cases hd⟩,st.mv,st.tm,st.ex,st.xk,st.rd⟩⟩
   | none =>
    rw[hp]at e;simp only at e;cases hr:placeR te.size qs (zqb n te.zero)with
    |none=>grind
    | some zs =>
     rw [hr]at e;cases e;have hzc:∀b∈te.zero.cells,Hm b=true:=fun b hb=>by
      obtain⟨i,hi⟩:=zqe hb;exact clo_okP ((hz.1 Z h).cell hi hi).2
     obtain⟨ws,a1,a2,a3,a4⟩:=Wj qs ps (zqb n te.zero) (zqb n te.zero) zs hv rfl (fun i x y hx hy=>by rw[hrep hx,hrep hy];exact⟨.fz (hz.1 Z h),hz.2,hzc⟩) hr;have hne:∀y:AV,(∀b∈y.cells,Hm b=true)->y≠.und:=fun y hy e=>by subst e;exact absurd (hy .und (zqg ..)) (by decide)
     have he:(∃k es z',PO.row 2 zs te.size=.row k es z')\/∃es,PO.row 2 zs te.size=.mapo es:=.inl ⟨_,_,_,rfl⟩;have key:=PT.lay (ob:=.row ws te.size) s (e:=.row 2 zs te.size) (Co _ he) (fun es z e=>by cases e) (fun k es z e hk=>by
      cases e;refine⟨h.next,ws,V0 _ _ _,Nat.lt_succ_self _,Se h _,⟨a2,fun i x y hx hy=>?_⟩,fun i x y hx hy o a b ha hb=>?_,fun i y hy b hb=>?_,Mo s⟩
      . obtain⟨b1,b2,b3⟩:=a4 i x y hx hy
        have:=b1.shape (hne y b3)
        grind
      . obtain⟨b1,b2,b3⟩:=a4 i x y hx hy
        exact(b1.cells (hne y b3)).2 o a b ha hb
      grind) (fun es e=>by cases e)
     refine⟨ws,_,a1,I4.to key.1 (fun d hd=>⟨hd,hgl _ d (s.zb d hd)⟩) key.2,key.2,.msl (fun L hL=>?_) (by show _<(K.os++[PO.row 2 zs te.size]).length;simp),fun b=>Stp.lay s hx⟩;have hL:loP (K.os++[PO.row 2 zs te.size]) 6 K.os.length=some L:=hL;grind[Ol,V0]
 . cases e
end
section
variable {E:Env}{R:AV->AV->Prop}{Z Z':Nat->Prop}{ow ow' ow1 ow2:Nat->Option (List Nat)}{h h':Heap}{K K':PK}{os os' os1 os2:List PO}{x y xc yc v k:AV}{L M:List Nat}
end
section
variable {E:Env}{R:AV->AV->Prop}{Z Z':Nat->Prop}{ow ow' ow1 ow2:Nat->Option (List Nat)}{h h':Heap}{K K':PK}{os os' os1 os2:List PO}{x y xc yc v k:AV}{L M:List Nat}
theorem Sf{o:Option (AV×PK)}(e:Kn o=.val v K'):o=some (v,K'):=by
 cases o with
 |none=>cases e
 |some p=>cases e;rfl
theorem X3{o:Option AV}(e:Hn o K=.val v K'):o=some v/\K'=K:=by
 cases o with
 |none=>cases e
 |some p=>cases e;grind
theorem N1{t:Nat}{f:TI->OpS}(e:g9 E t f=.val v K'):∃ti,E.ti t=some ti/\f ti=.val v K':=by
 unfold g9 at e;grind
structure Did'(Z:Nat->Prop)(ow:Nat->Option (List Nat))(h:Heap)(K:PK)(r:Res)(v:AV)(K':PK)(ow':Nat->Option (List Nat))(vc:AV)(h':Heap):Prop where
 r:r=.ok vc h'
 st:I4 Z ow' h' K'.os
 kp:Keep' ow K.os ow' K'.os
 vr:VR Z ow' h' K'.os vc v
 sp:∀b,Stp b Z ow h K Z ow' h' K'
theorem Did'.same(s:I4 Z ow h K.os){r:Res}{vc:AV}(hr:r=.ok vc h)(hv:VR Z ow h K.os vc v):Did' Z ow h K r v K ow vc h:=⟨hr,s,.refl _ _,hv,fun b=>.refl _ _ _ _ _⟩
theorem Q9{α:Type}{t:Nat}{ti:TI}(ht:E.ti t=some ti)(d:α)(f:TI->α):onTI E t d f=f ti:=by unfold onTI;rw[ht]
theorem lS(hT:FV E)(s:I4 Z ow h K.os)(hx:K.ext<=K.os.length){b:Builtin}{ts:List TypeId}{args argc:List AV}(hl:VL Z ow h K.os argc args)(e:I8 E b ts args K=some (v,K')):∃ow' vc h',Did' Z ow h K (lift2 (G1 E b ts argc h)) v K' ow' vc h':=by
 have hres:∀{vc:AV},G1 E b ts argc h=some (vc,h)->VR Z ow h K.os vc v->K'=K->∃ow' vc h',Did' Z ow h K (lift2 (G1 E b ts argc h)) v K' ow' vc h':=fun{vc} e1 e2 e3=>by
  subst e3;rw[e1];exact⟨ow,vc,h,.same s rfl e2⟩
 unfold I8 at e;split at e
 . -- len
   rename_i t _ x _;cases ht:E.ti t with
   |none=>rw[ht]at e;cases e
   | some ti =>
    rw[ht]at e;simp only at e;cases hn:FQ ti.desc x K with
    |none=>rw[hn]at e;cases e
    | some n =>
     rw [hn]at e;cases e;obtain⟨xc,lc,rfl⟩:∃xc lc,argc=xc::lc:=by
      cases argc with
      |nil=>have:=hl.1;simp at this
      |cons a l=>exact⟨a,l,rfl⟩
     refine hres (vc:=.int .i64 (Int.ofNat n)) ?_ (.i _ _) rfl;show onTI E t none (fun ti=>A7 (jP ti.desc xc h) fun n=>N7 n fun n=>some (AV.int .i64 (Int.ofNat n),h))=_
     rw[Q9 ht,wP s hl.inv.1 hn];exact C9 n (fun n=>some (AV.int .i64 (Int.ofNat n),h))
 . -- append
   rename_i t tx tr sl x _;cases ht:E.ti t with
   |none=>rw[ht]at e;cases e
   | some ti =>
    cases htx:E.ti tx with
    |none=>rw[ht,htx]at e;cases e
    | some tix =>
     rw[ht,htx]at e;simp only at e;cases hte:elemOfT E ti.desc with
     |none=>rw[hte]at e;cases e
     | some te =>
      rw[hte]at e;simp only at e;split at e
      . rename_i hsz
        obtain ⟨sc,xc,lc,rfl⟩:∃sc xc lc,argc=sc::xc::lc:=by
         cases argc with
         |nil=>have:=hl.1;simp at this
         | cons a l=>cases l with
          |nil=>have:=hl.1;simp at this
          |cons b l=>exact⟨a,b,l,rfl⟩
        have hvs:=hl.inv.1;have hvx:=hl.inv.2.inv.1;have hb:G1 E .append (t::tx::tr) (sc::xc::lc) h=(match tix.desc with
         | .int _=>A7 (asNat xc) fun n=>B6 (Nat.ble (Nat.mul n te.bytes) 140737488355328) (I2 te sc (repL n te.zero) h)
         |_=>A7 (elems xc h) fun xs=>B6 (L8 te.size xs) (I2 te sc xs h)):=by
         show onTI E t none (fun ti=>A7 (elemOfT E ti.desc) fun te=>B6 (Nat.blt 0 te.size) (onTI E tx none fun tix=>match tix.desc with
          | .int _=>A7 (asNat xc) fun n=>B6 (Nat.ble (Nat.mul n te.bytes) 140737488355328) (I2 te sc (repL n te.zero) h)
          |_=>A7 (elems xc h) fun xs=>B6 (L8 te.size xs) (I2 te sc xs h)))=_
         rw[Q9 ht,hte];show B6 (Nat.blt 0 te.size) _=_
         have:Nat.blt 0 te.size=true:=zqv hsz
         rw[this];show onTI E tx none _=_
         rw[Q9 htx]
        have hz:(∀Z h,Fz Z h te.zero te.zero)/\te.zero.cells.length=te.size:=by
         unfold elemOfT at hte;cases hd:ti.desc with
         |slice el=>rw[hd]at hte;exact hT _ _ hte
         |_=>rw[hd]at hte;cases hte
        have app:∀{x:AV}{xcs xs:List AV},True:=fun{_ _ _}=>trivial
        have hplain:(∀k,tix.desc≠.int k)->m7 te sl x K=some (v,K')->∃ow' vc h',Did' Z ow h K (lift2 (G1 E .append (t::tx::tr) (sc::xc::lc) h)) v K' ow' vc h':=fun hni e=>by
         unfold m7 at e;cases htb:takeB te sl K.os with
         |none=>rw[htb]at e;cases e
         | some q =>
          obtain⟨base,os1,tc⟩:=q;rw[htb]at e;simp only at e;cases hte':takeE te x K.ext tc os1 with
          |none=>rw[hte']at e;cases e
          | some q =>
           obtain⟨xs,os2⟩:=q;rw[hte']at e;simp only at e;split at e
           . rename_i hw
             obtain⟨ow1,tb⟩:=iH s hvs htb;obtain⟨ow2,xcs,g1,g2,tk⟩:=wJ tb.pt (hvx.keep (fun _ hz=>⟨hz,rfl⟩) tb.keep) hte';obtain⟨vc,h',owf,a1,a2,a3,a4,a5⟩:=nU s hx tb tk hw e;refine⟨owf,vc,h',?_,a2,a3,a4,a5⟩
             have:G1 E .append (t::tx::tr) (sc::xc::lc) h=some (vc,h'):=by
              rw [hb];have e2:(A7 (elems xc h) fun xs=>B6 (L8 te.size xs) (I2 te sc xs h))=some (vc,h'):=by
               rw[g1];show B6 (L8 te.size xcs) (I2 te sc xcs h)=_
               rw[g2];exact a1
              cases hd:tix.desc with
              |int k=>exact absurd hd (hni k)
              |_=>exact e2
             rw[this];rfl
           . cases e
        split at e
        . rename_i kk hd
          cases hn:asNat x with
          |none=>rw[hn]at e;cases e
          | some n =>
           rw[hn]at e;simp only at e;split at e
           . rename_i hbnd
             unfold nP at e;cases htb:takeB te sl K.os with
             |none=>rw[htb]at e;cases e
             | some q =>
              obtain⟨base,os1,tc⟩:=q;rw[htb]at e;simp only at e;split at e
              . rename_i hw
                obtain⟨ow1,tb⟩:=iH s hvs htb;have hrep:∀{i:Nat}{x:AV},(zqb n te.zero)[i]?=some x->x=te.zero:=fun{i x} h=>(zqn.1 (zqc h)).2
                have tk:TkE (VR Z ow h K.os) Z ow1 h os1 K.ext tc te (zqb n te.zero) (zqb n te.zero) os1 ow1:=.closed tb.pt rfl fun i a b ha hb=>by rw[hrep ha,hrep hb];exact⟨hz.1 Z h,hz.2⟩
                have hw':(!(zqb n te.zero).isEmpty||wholeP sl K.os)=true:=by
                 cases n with
                 |zero=>simpa using hw
                 |succ n=>rfl
                obtain⟨vc,h',owf,a1,a2,a3,a4,a5⟩:=nU s hx tb tk hw' e;refine⟨owf,vc,h',?_,a2,a3,a4,a5⟩
                have:G1 E .append (t::tx::tr) (sc::xc::lc) h=some (vc,h'):=by
                 rw[hb,hd];show A7 (asNat xc) (fun n=>B6 (Nat.ble (Nat.mul n te.bytes) 140737488355328) (I2 te sc (repL n te.zero) h))=_
                 rw[w5 hvx hn];show B6 (Nat.ble (Nat.mul n te.bytes) 140737488355328) (I2 te sc (repL n te.zero) h)=_
                 have:Nat.ble (Nat.mul n te.bytes) 140737488355328=true:=zqv hbnd
                 rw[this,m6];exact a1
                rw[this];rfl
              . cases e
           . cases e
        . rename_i hni
          exact hplain (fun k hk=>hni k hk) e
      . cases e
 . -- max
   rename_i _ x l;obtain⟨xc,lc,rfl⟩:∃xc lc,argc=xc::lc:=by
    cases argc with
    |nil=>have:=hl.1;simp at this
    |cons a l=>exact⟨a,l,rfl⟩
   cases hm:Nb l x with
   |none=>rw[hm]at e;cases e
   | some w =>
    rw[hm]at e;cases e;obtain⟨vc,h1,h2⟩:=iL l lc x xc v hl.inv.2 hl.inv.1 hm;exact hres (vc:=vc) (show(Nb lc xc).map (·,h)=_ by rw[h1];rfl) h2 rfl
 . rename_i _ x l
   obtain ⟨xc,lc,rfl⟩:∃xc lc,argc=xc::lc:=by
    cases argc with
    |nil=>have:=hl.1;simp at this
    |cons a l=>exact⟨a,l,rfl⟩
   cases hm:Qq l x with
   |none=>rw[hm]at e;cases e
   | some w =>
    rw[hm]at e;cases e;obtain⟨vc,h1,h2⟩:=iM l lc x xc v hl.inv.2 hl.inv.1 hm;exact hres (vc:=vc) (show(Qq lc xc).map (·,h)=_ by rw[h1];rfl) h2 rfl
 . cases e
end
section
variable {E:Env}{R:AV->AV->Prop}{Z Z':Nat->Prop}{ow ow' ow1 ow2:Nat->Option (List Nat)}{h h':Heap}{K K':PK}{os os' os1 os2:List PO}{x y xc yc v k:AV}{L M:List Nat}{nt:Nat}{frc:Tr}{fr:PF}
theorem Gm(hg:xN E)(hT:FV E)(s:I4 Z ow h K.os)(hx:K.ext<=K.os.length)(a:FrR Z ow h K.os nt frc fr){op:Op}(e:prim E op fr K=.val v K')(call:E7):∃ow' vc h',Did' Z ow h K (evOp E call op frc h) v K' ow' vc h':=by
 have V:=Bt hg a;cases op with
 |move x=>cases e;exact⟨ow,_,h,.same s rfl (V x)⟩
 |assign x=>cases e;exact⟨ow,_,h,.same s rfl (V x)⟩
 | pick c p q =>
  have e:Mg (opvP E c fr) (opvP E p fr) (opvP E q fr) K=.val v K':=e;have Vc:=V c;cases hc:opvP E c fr with
  | bool b =>
   rw[hc]at e Vc;have hcc:=Vc.isB;cases b with
   |true=>cases e;exact⟨ow,_,h,.same s (show(opv E c frc).onBool Res.bad (fun t=>match t with|true=>.ok (opv E p frc) h|false=>.ok (opv E q frc) h)=_ by rw[hcc];rfl) (V p)⟩
   |false=>cases e;exact⟨ow,_,h,.same s (show(opv E c frc).onBool Res.bad (fun t=>match t with|true=>.ok (opv E p frc) h|false=>.ok (opv E q frc) h)=_ by rw[hcc];rfl) (V q)⟩
  |_=>rw[hc]at e;cases e
 | alloc t =>
  obtain ⟨ti,ht,e⟩:=N1 e;cases e;have hz:=hT t ti ht;obtain⟨b1,b2,b3,b4⟩:=nT s hx (.fz (hz.1 Z h)) hz.2 (fun b hb=>by
   obtain⟨i,hi⟩:=zqe hb;exact clo_okP ((hz.1 Z h).cell hi hi).2)
  exact⟨_,_,_,show onTI E t Res.bad (fun ti=>jQ ti.size ti.zero h)=_ by rw[Q9 ht];rfl,b1,b2,b3,b4⟩
 | box t x =>
  obtain⟨ti,ht,e⟩:=N1 e;have e:(if(opvP E x fr).cells.length=ti.size/\(opvP E x fr).cells.all Hm=true then OpS.val (.ptr K.os.length 0 0) (newRow 1 [opvP E x fr] ti.size K)else .bad)=.val v K':=e;split at e
  . rename_i hc
    cases e;have hok:=zqf.1 hc.2;obtain⟨b1,b2,b3,b4⟩:=nT s hx (V x) hc.1 hok;have hne:opvP E x fr≠.und:=fun e=>by
     have:=hok .und (by rw[e];exact zqg ..)
     cases this
    have hvl:=(V x).cells hne;have hokc:E8 (opv E x frc).cells=true:=(G9 _).2 fun c hc'=>by
     obtain⟨j,hj⟩:=zqe hc';have hjl:j<(opvP E x fr).cells.length:=by rw[<-hvl.1];exact(zqd.1 hj).1
     exact(hvl.2 j c _ hj (zqa hjl)).okc (hok _ (zqm hjl))
    refine⟨_,_,_,?_,b1,b2,b3,b4⟩;show onTI E t Res.bad (fun ti=>bif Nat.beq (lenL (opv E x frc).cells) ti.size&&E8 (opv E x frc).cells then jQ ti.size (opv E x frc) h else .bad)=_
    rw[Q9 ht,A9,hvl.1,hc.1,zqw,hokc];rfl
  . cases e
 | build t ps =>
  obtain⟨ti,ht,e⟩:=N1 e;obtain⟨e',rfl⟩:=X3 e;have e:=e';obtain⟨vc,h1,h2⟩:=lP hT ht (Mq hg a ps.toList) e;exact⟨ow,vc,h,.same s (show onTI E t Res.bad (fun ti=>lift (X5 E ti (opvps E ps.toList frc)) h)=_ by rw[Q9 ht,h1];rfl) h2⟩
 | buildSlice t n ps =>
  obtain⟨ti,ht,e⟩:=N1 e;cases hte:elemOfT E ti.desc with
  |none=>simp only[hte]at e;cases e
  | some te =>
   simp only[hte]at e;have e:=Sf e;obtain⟨el,hel⟩:∃el,E.ti el=some te:=by
    unfold elemOfT at hte;cases hd:ti.desc with
    |slice el=>rw[hd]at hte;exact⟨el,hte⟩
    |_=>rw[hd]at hte;cases hte
   obtain⟨g1,g2,es,ow',g3,b1,b2,b3,b4⟩:=lR (e:=el) hT s hx hel (Mq hg a ps.toList) e;exact⟨ow',_,_,zV ht hte g1 g2 g3,b1,b2,b3,b4⟩
 |insert t m k x=>cases e
 | load t p =>
  obtain⟨ti,ht,e⟩:=N1 e;obtain⟨vc,h1,h2,h3,h4,h5,h6,ps,h7,h8⟩:=iE s (V p) (Sf e);refine⟨ow,vc,h,show onTI E t Res.bad (fun ti=>lift (Ev ti (opv E p frc) h) h)=_ by rw[Q9 ht,h1];rfl,h2,h3,h4,fun b=>⟨zqu _,fun _ hz=>⟨hz,rfl⟩,fun _ hz=>.inl hz,fun _ _ _=>rfl,fun d M ho _ e=>(by rw[ho]at e;cases e),⟨[],rfl,fun d hd=>(by cases hd)⟩,fun d r t ho _=>.inl ⟨t,ho⟩,fun r hr _=>(by rw[h6];exact hr),h5,fun j _ c _=>.rfl,fun j hj hr=>?_⟩⟩;unfold isRt at hr|-;rw[h7,zqp (by omega)]at hr;exact hr
 | store t p x =>
  obtain⟨ti,ht,e⟩:=N1 e;have e:=Sf e;cases hs:storeP ti (opvP E p fr) (opvP E x fr) K with
  |none=>rw[hs]at e;cases e
  | some K1 =>
   rw[hs]at e;cases e;obtain⟨h',ow',g1,g2,g3,g4⟩:=Zl s (V p) (V x) hs;exact⟨ow',.und,h',show onTI E t Res.bad (fun ti=>liftH (Cu ti (opv E p frc) (opv E x frc) h))=_ by rw[Q9 ht,g1];rfl,g2,g3,.und,g4⟩
 | nilCheck x =>
  obtain⟨e',rfl⟩:=X3 e;have e:=e';obtain⟨vc,h1,h2⟩:=dB (V x) e;exact⟨ow,vc,h,.same s (show lift (Bx (opv E x frc)) h=_ by rw[h1];rfl) h2⟩
 | binOp op t x y u =>
  have e:(if Oj (opvP E x fr)=true/\Oj (opvP E y fr)=true then Hn (O9 op (N8 E t) (opvP E x fr) (opvP E y fr)) K else .bad)=.val v K':=e;split at e
  . rename_i hc
    obtain ⟨e',rfl⟩:=X3 e;have e:=e';obtain⟨h1,h2⟩:=lM (V x) (V y) hc.1 hc.2 e;have h3:sN E op t (opv E x frc) (opv E y frc)=none:=by
     have h4:Jk E t (opv E x frc) (opv E y frc)=none\/(op≠.eql/\op≠.neq):=by
      by_cases ho:op=.eql\/op=.neq
      . left
        have hne:∀i k o i' k' o',opv E x frc=.ptr i k o->opv E y frc≠.ptr i' k' o':=fun i k o i' k' o' hx hy=>by
         rw[hx,hy]at h1;rcases ho with rfl|rfl
         . have h1:A7 (Et (N8 E t) (.ptr i k o) (.ptr i' k' o')) F8=some v:=h1
           cases hk:N8 E t<;>rw[hk]at h1<;>cases h1
         . have h1:A7 (Et (N8 E t) (.ptr i k o) (.ptr i' k' o')) (fun b=>F8 (!b))=some v:=h1
           cases hk:N8 E t<;>rw[hk]at h1<;>cases h1
        unfold Jk;cases hxv:opv E x frc with
        | ptr i k o =>
         cases hyv:opv E y frc with
         |ptr i' k' o'=>exact absurd hyv (hne _ _ _ _ _ _ hxv)
         |_=>rfl
        |_=>rfl
      . exact .inr ⟨fun e=>ho (.inl e),fun e=>ho (.inr e)⟩
     rcases h4 with h4|⟨h4,h5⟩
     . unfold sN
       rw[h4];cases op<;>rfl
     . cases op<;>first|rfl|exact absurd rfl h4|exact absurd rfl h5
    refine⟨ow,v,h,.same s ?_ (Wi h2)⟩;show lift (QC (sN E op t (opv E x frc) (opv E y frc)) (O9 op (N8 E t) (opv E x frc) (opv E y frc))) h=_
    rw[h3,h1];rfl
  . cases e
 | unOp op t x =>
  obtain⟨e',rfl⟩:=X3 e;have e:=e';obtain⟨h1,h2⟩:=rA (V x) e;exact⟨ow,v,h,.same s (show lift (Pk op (opv E x frc)) h=_ by rw[h1];rfl) (Wi h2)⟩
 | convert t d x =>
  obtain⟨ti,ht,e⟩:=N1 e;obtain⟨td,htd,e⟩:=N1 e;obtain⟨e',rfl⟩:=X3 e;have e:=e';obtain⟨h1,h2⟩:=dA (V x) e;exact⟨ow,v,h,.same s (show onTI E t Res.bad (fun _=>onTI E d .bad fun td=>lift (S4 td.desc (opv E x frc)) h)=_ by rw[Q9 ht,Q9 htd,h1];rfl) (Wi h2)⟩
 | makeInterface t x =>
  obtain⟨ti,ht,e⟩:=N1 e;cases hp:V6 ti.desc with
  |false=>rw[hp]at e;cases e
  | true =>
   rw[hp]at e;cases e;exact⟨ow,_,h,.same s (show onTI E t Res.bad (fun ti=>bif V6 ti.desc then .ok (.iface t (opv E x frc)) h else .bad)=_ by rw[Q9 ht,hp];rfl) (.iface (V x))⟩
 | makeFunc f fs cs =>
  cases e;have v1:=Ho hg a fs.toList;have v2:=Ho hg a cs.toList;exact⟨ow,_,h,.same s rfl (.fn v1.1 v1.2 v2.1 v2.2)⟩
 | makeMap t r =>
  cases r with
  |some r=>cases e
  | none =>
   cases e;obtain⟨b1,b2,b3,b4⟩:=qY s hx;exact⟨_,_,_,rfl,b1,b2,b3,b4⟩
 | makeSlice t l c =>
  obtain⟨ti,ht,e⟩:=N1 e;unfold Zg at e;cases hte:elemOfT E ti.desc with
  |none=>rw[hte]at e;cases e
  | some te =>
   cases hl:asNat (opvP E l fr)with
   |none=>rw[hte,hl]at e;cases e
   | some n =>
    cases hc:asNat (opvP E c fr)with
    |none=>rw[hte,hl,hc]at e;cases e
    | some m =>
     rw[hte,hl,hc]at e;simp only at e;split at e
     . rename_i hcond
       cases e;have hz:(∀Z h,Fz Z h te.zero te.zero)/\te.zero.cells.length=te.size:=by
        unfold elemOfT at hte;cases hd:ti.desc with
        |slice el=>rw[hd]at hte;exact hT _ _ hte
        |_=>rw[hd]at hte;cases hte
       obtain⟨b1,b2,b3,b4⟩:=iF (n:=n) s hx hz.1 hz.2;refine⟨_,_,_,?_,b1,b2,b3,b4⟩;show O5 E t l c frc h=_
       unfold O5;rw[Q9 ht];simp only[hte,w5 (V l) hl,w5 (V c) hc];have e1:Nat.ble n m=true:=zqv hcond.1;have e2:Nat.ble (Nat.mul m te.bytes) 140737488355328=true:=zqv hcond.2.1;have e3:Nat.blt 0 te.size=true:=zqv hcond.2.2;rw[e1,e2,e3,m6];rfl
     . cases e
 | slice t x lo hi mx =>
  obtain⟨ti,ht,e⟩:=N1 e;cases hb:(hi.isNone&&mx.isSome)with
  |true=>rw[hb]at e;cases e
  | false =>
   rw[hb]at e;obtain⟨e',rfl⟩:=X3 e;have e:=e';obtain⟨vc,h1,h2⟩:=lN (dC hg a lo) (dC hg a hi) (dC hg a mx) (V x) e;exact⟨ow,vc,h,.same s (show onTI E t Res.bad (fun ti=>bif hi.isNone&&mx.isSome then .bad else lift (sliceA E ti.desc (Nf E lo frc) (Nf E hi frc) (Nf E mx frc) (opv E x frc)) h)=_ by rw[Q9 ht,hb,h1];rfl) h2⟩
 | fieldAddr t x f =>
  obtain⟨ti,ht,e⟩:=N1 e;obtain⟨e',rfl⟩:=X3 e;have e:=e';unfold N4 at e;cases hf:fieldAt E ti f with
  |none=>rw[hf]at e;cases e
  | some p =>
   rw[hf]at e;simp only at e;split at e
   . rename_i hsz
     obtain⟨vc,h1,h2⟩:=Qm (V x) e;refine⟨ow,vc,h,.same s ?_ h2⟩;show onTI E t Res.bad (fun ti=>lift (A7 (fieldAt E ti f) fun p=>B6 (Nat.blt 0 p.1.size) (C4 (opv E x frc) p.2)) h)=_
     rw[Q9 ht,hf];show lift (B6 (Nat.blt 0 p.1.size) (C4 (opv E x frc) p.2)) h=_
     have:Nat.blt 0 p.1.size=true:=zqv hsz
     rw[this,h1];rfl
   . cases e
 | field t x f =>
  obtain⟨ti,ht,e⟩:=N1 e;obtain⟨e',rfl⟩:=X3 e;have e:=e';unfold LV at e;cases hf:fieldAt E ti f with
  |none=>rw[hf]at e;cases e
  | some p =>
   rw[hf]at e;have Vx:=V x;cases hxv:opvP E x fr with
   | agg cs =>
    rw[hxv]at Vx;simp only[hxv]at e;obtain⟨xs,hxs,hl⟩:=Vx.agI;obtain⟨vc,h1,h2⟩:=hl.part e;refine⟨ow,vc,h,.same s ?_ h2⟩;show onTI E t Res.bad (fun ti=>lift (A7 (fieldAt E ti f) fun p=>(opv E x frc).onAgg none fun cs=>partOf p.1 cs p.2) h)=_
    rw[Q9 ht,hf,hxs];show lift (partOf p.1 xs p.2) h=_
    rw[h1];rfl
   |_=>simp only[hxv]at e;cases e
 | indexAddr t x i =>
  obtain⟨ti,ht,e⟩:=N1 e;obtain⟨e',rfl⟩:=X3 e;have e:=e';unfold Jg at e;cases hn:asNat (opvP E i fr)with
  |none=>rw[hn]at e;cases e
  | some n =>
   rw[hn]at e;obtain⟨vc,h1,h2⟩:=Xu (V x) e;refine⟨ow,vc,h,.same s ?_ h2⟩;show onTI E t Res.bad (fun ti=>lift (A7 (asNat (opv E i frc)) fun i=>S5 E ti.desc i (opv E x frc)) h)=_
   rw[Q9 ht,w5 (V i) hn];show lift (S5 E ti.desc n (opv E x frc)) h=_
   rw[h1];rfl
 | index t x i =>
  obtain⟨ti,ht,e⟩:=N1 e;obtain⟨e',rfl⟩:=X3 e;have e:=e';unfold LW at e;cases hn:asNat (opvP E i fr)with
  |none=>rw[hn]at e;cases e
  | some n =>
   rw[hn]at e;obtain⟨vc,h1,h2⟩:=rB (V x) e;refine⟨ow,vc,h,.same s ?_ h2⟩;show onTI E t Res.bad (fun ti=>lift (A7 (asNat (opv E i frc)) fun i=>Ew E ti.desc i (opv E x frc)) h)=_
   rw[Q9 ht,w5 (V i) hn];show lift (Ew E ti.desc n (opv E x frc)) h=_
   rw[h1];rfl
 |lookup t m k ok=>obtain⟨ti,ht,e⟩:=N1 e;cases e
 |mapUpdate t m k x=>cases e
 | typeAssert x t0 t ok =>
  obtain⟨ti,ht,e⟩:=N1 e;cases hb:(V6 ti.desc && !ok)with
  |false=>rw[hb]at e;cases e
  | true =>
   rw[hb]at e;obtain⟨e',rfl⟩:=X3 e;have e:=e';have Vx:=V x;cases hxv:opvP E x fr with
   | iface u w =>
    rw[hxv]at e Vx;have e:(bif Nat.beq u t then some w else none)=some v:=e;cases hut:Nat.beq u t with
    |false=>rw[hut]at e;cases e
    | true =>
     rw[hut]at e;cases e;generalize hq:opv E x frc=q at Vx;cases Vx with
     |fz z=>cases z
     | iface vw =>
      refine⟨ow,_,h,.same s ?_ vw⟩;show onTI E t Res.bad (fun ti=>bif V6 ti.desc && !ok then lift (aP t (opv E x frc)) h else .bad)=_
      rw[Q9 ht,hb,hq];show lift (bif Nat.beq u t then some _ else none) h=_
      rw[hut];rfl
   |_=>rw[hxv]at e;cases e
 | extract x i =>
  have e:(match opvP E x fr with | .tup vs=>Hn vs[i]? K|_=>.bad)=.val v K':=e;have Vx:=V x;cases hxv:opvP E x fr with
  | tup vs =>
   rw[hxv]at e Vx;obtain⟨e',rfl⟩:=X3 e;have e:=e';generalize hq:opv E x frc=q at Vx;cases Vx with
   |fz z=>cases z
   | tup h1 h2 =>
    rename_i xs;have hl:i<xs.length:=by rw[h1];exact(zqd.1 e).1
    refine⟨ow,xs[i],h,.same s ?_ (h2 i _ v (zqa hl) e)⟩;show(opv E x frc).onTup Res.bad (fun vs=>lift (Ep vs i) h)=_
    rw[hq];show lift (Ep xs i) h=_
    rw[S3,zqa hl];rfl
  |_=>rw[hxv]at e;cases e
 | call c =>
  obtain⟨callee,args,ts⟩:=c;cases callee with
  |builtin b=>exact lS hT s hx (Ho hg a args.toList) (Sf e)
  | value g =>
   have e:Mh (opvP E g fr) (opvL E args.toList fr)=.val v K':=e;unfold Mh at e;cases hgv:opvP E g fr with
   |fn f fs cs=>rw[hgv]at e;cases f<;>cases e
   |_=>rw[hgv]at e;cases e
  |invoke=>cases e
 | panic x =>
  have e:(match opvP E x fr with | .iface t v=>OpS.pan (.iface t v)|_=>.bad)=.val v K':=e;split at e<;>cases e
 |_=>cases e
theorem Hr(hg:xN E)(a:FrR Z ow h K.os nt frc fr){op:Op}{f:Nat}{args:List AV}(e:prim E op fr K=.call f args):∃argc,VL Z ow h K.os argc args/\∀call:E7,evOp E call op frc h=call f argc h:=by
 have V:=Bt hg a;have noT:∀{t:Nat}{g:TI->OpS},(∀ti,g ti≠.call f args)->g9 E t g≠.call f args:=fun{t g} hn e=>by
  unfold g9 at e;cases ht:E.ti t with
  |none=>rw[ht]at e;cases e
  |some ti=>rw[ht]at e;exact hn ti e
 have noV:∀{o:Option AV},Hn o K≠.call f args:=fun{o} e=>by cases o<;>cases e
 have noO:∀{o:Option (AV×PK)},Kn o≠.call f args:=fun{o} e=>by cases o<;>cases e
 cases op with
 | call c =>
  obtain⟨callee,ar,ts⟩:=c;cases callee with
  |builtin b=>exact absurd e noO
  |invoke=>cases e
  | value g =>
   have e:Mh (opvP E g fr) (opvL E ar.toList fr)=.call f args:=e;unfold Mh at e;have Vg:=V g;cases hgv:opvP E g fr with
   | fn f' fs cs =>
    rw[hgv]at e Vg;cases f' with
    | func n =>
     cases e;generalize hq:opv E g frc=q at Vg;cases Vg with
     |fz z=>cases z
     | fn h1 h2 h3 h4 =>
      rename_i fs' cs';refine⟨fs'++(opvs E ar.toList frc++cs'),VL.app ⟨h1,h2⟩ (VL.app (Ho hg a ar.toList) ⟨h3,h4⟩),fun call=>?_⟩;show b9 call (opv E g frc) (opvs E ar.toList frc) h=_
      rw[hq];show call f (appL fs' (appL (opvs E ar.toList frc) cs')) h=_
      rw[Q0,Q0]
    |_=>cases e
   |_=>rw[hgv]at e;cases e
 |move|assign|makeFunc=>cases e
 | pick c p q =>
  have e:Mg (opvP E c fr) (opvP E p fr) (opvP E q fr) K=.call f args:=e;unfold Mg at e;split at e<;>cases e
 |alloc t=>exact absurd e (noT fun ti e=>by cases e)
 |box t x=>exact absurd e (noT fun ti e=>by unfold wB at e;split at e<;>cases e)
 |build t ps=>exact absurd e (noT fun ti=>noV)
 |buildSlice t n ps=>exact absurd e (noT fun ti e=>by split at e<;>first|exact noO e|cases e)
 |insert=>cases e
 |load=>exact absurd e (noT fun ti=>noO)
 |store=>exact absurd e (noT fun ti=>noO)
 |nilCheck=>exact absurd e noV
 | binOp op t x y u =>
  have e:a8 E op t (opvP E x fr) (opvP E y fr) K=.call f args:=e;unfold a8 at e;split at e
  . exact absurd e noV
  . cases e
 |unOp=>exact absurd e noV
 |convert=>exact absurd e (noT fun ti=>noT fun td=>noV)
 |makeInterface t x=>exact absurd e (noT fun ti e=>by cases hp:V6 ti.desc<;>rw[hp]at e<;>cases e)
 |makeMap t r=>cases r<;>cases e
 |makeSlice=>exact absurd e (noT fun ti e=>by unfold Zg at e;split at e<;>first|cases e|(split at e<;>cases e))
 | slice t x lo hi mx=>exact absurd e (noT fun ti e=>by
  cases hb:(hi.isNone&&mx.isSome)with
  |true=>rw[hb]at e;cases e
  |false=>rw[hb]at e;exact noV e)
 |fieldAddr=>exact absurd e (noT fun ti=>noV)
 |field=>exact absurd e (noT fun ti=>noV)
 |indexAddr=>exact absurd e (noT fun ti=>noV)
 |index=>exact absurd e (noT fun ti=>noV)
 |lookup=>exact absurd e (noT fun ti=>noV)
 |mapUpdate=>cases e
 | typeAssert x t0 t ok=>exact absurd e (noT fun ti e=>by
  cases hb:(V6 ti.desc && !ok)with
  |false=>rw[hb]at e;cases e
  |true=>rw[hb]at e;exact noV e)
 | extract x i =>
  have e:(match opvP E x fr with | .tup vs=>Hn vs[i]? K|_=>.bad)=.call f args:=e;split at e
  . exact absurd e noV
  . cases e
 | panic x =>
  have e:(match opvP E x fr with | .iface t v=>OpS.pan (.iface t v)|_=>.bad)=.call f args:=e;split at e<;>cases e
 |_=>cases e
theorem iO(hg:xN E)(a:FrR Z ow h K.os nt frc fr){op:Op}(e:prim E op fr K=.pan v):∃vc,VR Z ow h K.os vc v/\∀call:E7,evOp E call op frc h=.pan vc h:=by
 have V:=Bt hg a;have noT:∀{t:Nat}{g:TI->OpS},(∀ti,g ti≠.pan v)->g9 E t g≠.pan v:=fun{t g} hn e=>by
  unfold g9 at e;cases ht:E.ti t with
  |none=>rw[ht]at e;cases e
  |some ti=>rw[ht]at e;exact hn ti e
 have noV:∀{o:Option AV},Hn o K≠.pan v:=fun{o} e=>by cases o<;>cases e
 have noO:∀{o:Option (AV×PK)},Kn o≠.pan v:=fun{o} e=>by cases o<;>cases e
 cases op with
 | panic x =>
  have e:(match opvP E x fr with | .iface t v=>OpS.pan (.iface t v)|_=>.bad)=.pan v:=e;have Vx:=V x;cases hxv:opvP E x fr with
  | iface t w =>
   rw[hxv]at e Vx;cases e;generalize hq:opv E x frc=q at Vx;cases Vx with
   |fz z=>cases z
   |iface vw=>exact⟨_,.iface vw,fun call=>by show pE (opv E x frc) h=_;rw[hq];rfl⟩
  |_=>rw[hxv]at e;cases e
 | call c =>
  obtain⟨callee,ar,ts⟩:=c;cases callee with
  |builtin b=>exact absurd e noO
  |invoke=>cases e
  | value g =>
   have e:Mh (opvP E g fr) (opvL E ar.toList fr)=.pan v:=e;unfold Mh at e;split at e
   . split at e<;>cases e
   . cases e
 |move|assign|makeFunc=>cases e
 | pick c p q =>
  have e:Mg (opvP E c fr) (opvP E p fr) (opvP E q fr) K=.pan v:=e;unfold Mg at e;split at e<;>cases e
 |alloc t=>exact absurd e (noT fun ti e=>by cases e)
 |box t x=>exact absurd e (noT fun ti e=>by unfold wB at e;split at e<;>cases e)
 |build t ps=>exact absurd e (noT fun ti=>noV)
 |buildSlice t n ps=>exact absurd e (noT fun ti e=>by split at e<;>first|exact noO e|cases e)
 |insert=>cases e
 |load=>exact absurd e (noT fun ti=>noO)
 |store=>exact absurd e (noT fun ti=>noO)
 |nilCheck=>exact absurd e noV
 | binOp op t x y u =>
  have e:a8 E op t (opvP E x fr) (opvP E y fr) K=.pan v:=e;unfold a8 at e;split at e
  . exact absurd e noV
  . cases e
 |unOp=>exact absurd e noV
 |convert=>exact absurd e (noT fun ti=>noT fun td=>noV)
 |makeInterface t x=>exact absurd e (noT fun ti e=>by cases hp:V6 ti.desc<;>rw[hp]at e<;>cases e)
 |makeMap t r=>cases r<;>cases e
 |makeSlice=>exact absurd e (noT fun ti e=>by unfold Zg at e;split at e<;>first|cases e|(split at e<;>cases e))
 | slice t x lo hi mx=>exact absurd e (noT fun ti e=>by
  cases hb:(hi.isNone&&mx.isSome)with
  |true=>rw[hb]at e;cases e
  |false=>rw[hb]at e;exact noV e)
 |fieldAddr=>exact absurd e (noT fun ti=>noV)
 |field=>exact absurd e (noT fun ti=>noV)
 |indexAddr=>exact absurd e (noT fun ti=>noV)
 |index=>exact absurd e (noT fun ti=>noV)
 |lookup=>exact absurd e (noT fun ti=>noV)
 |mapUpdate=>cases e
 | typeAssert x t0 t ok=>exact absurd e (noT fun ti e=>by
  cases hb:(V6 ti.desc && !ok)with
  |false=>rw[hb]at e;cases e
  |true=>rw[hb]at e;exact noV e)
 | extract x i =>
  have e:(match opvP E x fr with | .tup vs=>Hn vs[i]? K|_=>.bad)=.pan v:=e;split at e
  . exact absurd e noV
  . cases e
 |_=>cases e
end
section
variable {E:Env}{R:AV->AV->Prop}{Z Z':Nat->Prop}{ow ow' ow1 ow2:Nat->Option (List Nat)}{h h':Heap}{K K':PK}{os os' os1 os2:List PO}{x y xc yc v k:AV}{L M:List Nat}{nt:Nat}{frc:Tr}{fr:PF}{σ:Nat->Option Nat}
theorem renL_eq(σ:Nat->Option Nat):∀l:List AV,renL σ l=l.map (J4 σ)
 |[]=>rfl
 |v::l=>by rw[renL,renL_eq σ l];rfl
theorem iP{c:AV}(h:clo c=true):J4 σ c=c:=by cases c<;>first|rfl|cases h
theorem zW(f:Fz Z h x y):J4 σ y=y:=by
 cases f with
 | agg h1 h2 h3 =>
  rename_i xs ys;show AV.agg (renL σ ys)=.agg ys
  rw[renL_eq]
  have:ys.map (J4 σ)=ys:=by
   conv=>rhs;rw[<-List.map_id ys]
   grind[List.map_congr_left,iP]
  rw[this]
 |_=>rfl
theorem nW(v:AV):isAg (J4 σ v)=isAg v:=by
 cases v with
 |msl id off n sz=>unfold J4;cases σ id<;>rfl
 |ptr id i o=>unfold J4;cases σ id<;>rfl
 |map id=>unfold J4;cases σ id<;>rfl
 |_=>rfl
theorem Kh(v:AV):(J4 σ v).cells=v.cells.map (J4 σ)/\isAg (J4 σ v)=isAg v:=by
 refine⟨?_,nW v⟩;cases hv:isAg v with
 |false=>grind[D8,nW]
 | true =>
  cases v with
  |agg cs=>show renL σ cs=_;rw[renL_eq];rfl
  |_=>cases hv
theorem wQ{c:AV}(h:Hm c=true\/c=.und):Hm (J4 σ c)=true\/J4 σ c=.und:=by
 rcases h with h|rfl
 . cases c with
   |msl id off n sz=>unfold J4;cases σ id<;>first|exact .inl rfl|grind
   |ptr id i o=>unfold J4;cases σ id<;>first|exact .inl rfl|grind
   |map id=>unfold J4;cases σ id<;>first|exact .inl rfl|grind
   |agg=>cases h
   |tup=>cases h
   |any=>exact .inr rfl
   |und=>exact .inr rfl
   |_=>exact .inl rfl
 . exact .inr rfl
def Ren(σ:Nat->Option Nat)(ow:Nat->Option (List Nat))(os:List PO)(ow':Nat->Option (List Nat))(os':List PO):Prop:=∀id j,σ id=some j->id<os.length->j<os'.length/\∀L',loP os' 6 j=some L'->∃L,loP os 6 id=some L/\∀c,ow c=some L↔ow' c=some L'
theorem VR.ren(v:VR Z ow h os x y)(hZ:∀id,Z id->Z' id/\h'.get id=h.get id)(hr:Ren σ ow os ow' os'):VR Z' ow' h' os' x (J4 σ y):=by
 have pw:∀{xs ys:List AV},xs.length=ys.length->(∀(i:Nat) x y,xs[i]?=some x->ys[i]?=some y->VR Z' ow' h' os' x (J4 σ y))->xs.length=(renL σ ys).length/\∀(i:Nat) x y,xs[i]?=some x->(renL σ ys)[i]?=some y->VR Z' ow' h' os' x y:=(by grind[Go.AM.renL_eq])
 induction v with
 |fz f=>rw[zW f];exact .fz (f.mono hZ)
 |und=>exact .und
 |any=>exact .und
 | @msl id c off n sz h1 h2 =>
  unfold J4;cases hs:σ id with
  |none=>exact .und
  | some j =>
   obtain⟨a,b⟩:=hr id j hs h2;exact .msl (by grind) a
 | @mnil x id sz e h1 h2 =>
  unfold J4;cases hs:σ id with
  |none=>exact .und
  | some j =>
   obtain⟨a,b⟩:=hr id j hs h2;exact .mnil e (by grind) a
 | @ptr id c i off h1 h2 =>
  unfold J4;cases hs:σ id with
  |none=>exact .und
  | some j =>
   obtain⟨a,b⟩:=hr id j hs h2;exact .ptr (by grind) a
 | @map id c h1 h2 =>
  unfold J4;cases hs:σ id with
  |none=>exact .und
  | some j =>
   obtain⟨a,b⟩:=hr id j hs h2;exact .map (by grind) a
 |agg h1 _ ih=>obtain⟨a,b⟩:=pw h1 ih;exact .agg a b
 |tup h1 _ ih=>obtain⟨a,b⟩:=pw h1 ih;exact .tup a b
 |fn h1 _ h3 _ ih1 ih2=>obtain⟨a,b⟩:=pw h1 ih1;obtain⟨c,d⟩:=pw h3 ih2;exact .fn a b c d
 |iface _ ih=>exact .iface ih
theorem VL.ren{xs ys:List AV}(v:VL Z ow h os xs ys)(hZ:∀id,Z id->Z' id/\h'.get id=h.get id)(hr:Ren σ ow os ow' os'):VL Z' ow' h' os' xs (renL σ ys):=by
 rw[renL_eq];refine⟨by simpa using v.1,fun i x y hx hy=>?_⟩;rw[zqh]at hy;cases hq:ys[i]? with
 |none=>grind
 |some q=>rw[hq]at hy;cases hy;exact(v.2 i x q hx hq).ren hZ hr
theorem RawR.ren{r j c sz:Nat}{es ces:List AV}(g:RawR (VR Z ow h os) ow h r es sz c ces)(hZ:∀id,Z id->Z' id/\h'.get id=h.get id)(hr:Ren σ ow os ow' os')(ho:ow' c=some [j])(hn:h.next<=h'.next)(hg:h'.get c=h.get c)(hno:∀a t,ow' a=some (j::t)->t=[]):RawR (VR Z' ow' h' os') ow' h' j (renL σ es) sz c ces:=by
 refine⟨ho,zqt g.lt hn,hg.trans g.get,?_,fun i x y hx hy o a b ha hb=>?_,fun i y hy b hb=>?_,hno⟩
 . rw [renL_eq]
   refine⟨by simpa using g.sh.1,fun i x y hx hy=>?_⟩;rw[zqh]at hy;cases hq:es[i]? with
   |none=>grind
   | some q =>
    rw[hq]at hy;cases hy
    have:=g.sh.2 i x q hx hq
    grind[Kh]
 . rw [renL_eq,zqh]at hy
   cases hq:es[i]? with
   |none=>grind
   | some q =>
    rw[hq]at hy;cases hy;rw[(Kh q).1,zqh]at hb;cases hw:q.cells[o]? with
    |none=>grind
    |some w=>rw[hw]at hb;cases hb;exact(g.vr i x q hx hq o a w ha hw).ren hZ hr
 . rw [renL_eq,zqh]at hy
   cases hq:es[i]? with
   |none=>grind
   | some q =>
    rw[hq]at hy;cases hy;rw[(Kh q).1]at hb;obtain⟨w,hw,rfl⟩:=List.mem_map.1 hb;exact wQ (g.okp i q hq w hw)
theorem posOf_some:∀(l:List Nat)(id j:Nat),posOf l id=some j->l[j]?=some id
 |[],_,_,e=>by cases e
 | a :: l,id,j,e=>by
  unfold posOf at e;split at e
  . grind
  . cases hp:posOf l id with
    |none=>grind
    |some m=>rw[hp]at e;cases e;exact posOf_some l id m hp
theorem Gp:∀(l:List Nat)(id j:Nat),l.Nodup->l[j]?=some id->posOf l id=some j
 |[],_,_,_,e=>by simp at e
 |a::l,id,0,_,e=>by cases e;unfold posOf;grind
 | a::l,id,j+1,hn,e=>by
  have hn:=List.nodup_cons.1 hn;have hne:a≠id:=(by grind)
  unfold posOf;rw[if_neg hne,Gp l id j hn.2 (by grind)];rfl
theorem Gq(s:Nat->List Nat):∀(n:Nat)(todo acc:List Nat),acc.Nodup->(l6 s n todo acc).Nodup/\∃m,l6 s n todo acc=acc++m
 |0,_,acc,h=>⟨h,[],by simp[l6]⟩
 |n+1,[],acc,h=>⟨h,[],by simp[l6]⟩
 | n + 1,id::todo,acc,h=>by
  unfold l6;split
  . exact Gq s n todo acc h
  . rename_i hm
    have h1:(acc++[id]).Nodup:=(by grind)
    obtain⟨a,m,b⟩:=Gq s n (todo++s id) (acc++[id]) h1;grind
def rE(σ:Nat->Option Nat)(ow:Nat->Option (List Nat)):Nat->Option (List Nat):=fun d=>match ow d with
 |some (r::t)=>(match σ r with|some j=>some (j::t)|none=>none)
 |_=>none
theorem Z8{d:Nat}{M:List Nat}:rE σ ow d=some M↔∃r j t,ow d=some (r::t)/\σ r=some j/\M=j::t:=by
 unfold rE;grind
theorem entryAt_eq(os:List PO)(id:Nat):(os[id]?=some (entryAt os id))\/(os[id]?=none/\entryAt os id=.dead):=by
 unfold entryAt;grind
theorem iQ(s:I4 Z ow h os){ids:List Nat}(hn:ids.Nodup){f:PO->PO}(hf:∀e,f e=e\/((∃p i o,e=.sub p i o)/\f e=.dead))(hos:os'=ids.map fun id=>f (renPO (posOf ids) (entryAt os id))):
 I4 Z (rE (posOf ids) ow) h os'/\Ren (posOf ids) ow os (rE (posOf ids) ow) os':=by
 have hget:∀(j:Nat) e,os'[j]?=some e->∃id,ids[j]?=some id/\e=f (renPO (posOf ids) (entryAt os id)):=(by grind)
 have hrw:∀(j:Nat) k es sz,os'[j]?=some (.row k es sz)->∃id es0,ids[j]?=some id/\os[id]?=some (.row k es0 sz)/\((k=0/\es=es0)\/(k≠0/\es=renL (posOf ids) es0)):=fun j k es sz hj=>by
  obtain ⟨id,h1,h2⟩:=hget j _ hj;have h3:renPO (posOf ids) (entryAt os id)=.row k es sz:=by
   grind
  rcases entryAt_eq os id with h4|⟨_,h4⟩
  . cases he:entryAt os id with
    | row k' es' sz' =>
     rw[he]at h3 h4;cases k' with
     |zero=>cases h3;grind
     |succ k'=>cases h3;grind
    |mapo=>rw[he]at h3;cases h3
    |sub p i o=>grind[renPO]
    |dead=>rw[he]at h3;cases h3
  . rw[h4]at h3;cases h3
 have hmp:∀(j:Nat) es,os'[j]?=some (.mapo es)->∃id,ids[j]?=some id/\os[id]?=some (.mapo es):=fun j es hj=>by
  obtain ⟨id,h1,h2⟩:=hget j _ hj;have h3:renPO (posOf ids) (entryAt os id)=.mapo es:=by
   grind
  rcases entryAt_eq os id with h4|⟨_,h4⟩
  . cases he:entryAt os id with
    |row k' es' sz'=>rw[he]at h3;cases k'<;>cases h3
    |mapo=>rw[he]at h3 h4;cases h3;grind
    |sub p i o=>grind[renPO]
    |dead=>rw[he]at h3;cases h3
  . rw[h4]at h3;cases h3
 have hsb:∀(j:Nat) p i o,os'[j]?=some (.sub p i o)->∃id p0,ids[j]?=some id/\os[id]?=some (.sub p0 i o)/\posOf ids p0=some p:=fun j p i o hj=>by
  obtain ⟨id,h1,h2⟩:=hget j _ hj;have h3:renPO (posOf ids) (entryAt os id)=.sub p i o:=by
   grind
  rcases entryAt_eq os id with h4|⟨_,h4⟩
  . cases he:entryAt os id with
    |row k' es' sz'=>rw[he]at h3;cases k'<;>cases h3
    |mapo=>rw[he]at h3;cases h3
    | sub p0 i0 o0 =>
     grind[renPO]
    |dead=>rw[he]at h3;cases h3
  . rw[h4]at h3;cases h3
 have hlen:os'.length=ids.length:=by grind
 have ho:∀d (j id:Nat) t,ids[j]?=some id->(rE (posOf ids) ow d=some (j::t)↔ow d=some (id::t)):=fun d j id t hj=>by
  rw[Z8]
  constructor
  . rintro⟨r,j',t',h1,h2,h3⟩
    cases h3
    have:=posOf_some ids r _ h2
    grind
  . exact fun h1=>⟨id,j,t,h1,Gp ids id j hn hj,rfl⟩
 have hlo:∀(n j:Nat)(L':List Nat),loP os' n j=some L'->∃id r q t,ids[j]?=some id/\loP os n id=some (r::t)/\posOf ids r=some q/\L'=q::t:=fun n=>by
  induction n with
  |zero=>exact fun j L' e=>by cases e
  | succ n ih =>
   intro j L' e;unfold loP at e;cases hj:os'[j]? with
   |none=>grind
   | some en =>
    rw[hj]at e;cases en with
    | row k es sz =>
     cases e;obtain⟨id,es0,h1,h2,_⟩:=hrw j k es sz hj;exact⟨id,id,j,[],h1,by grind[loP],Gp ids id j hn h1,rfl⟩
    | mapo es =>
     cases e;obtain⟨id,h1,h2⟩:=hmp j es hj;exact⟨id,id,j,[],h1,by grind[loP],Gp ids id j hn h1,rfl⟩
    |dead=>cases e
    | sub p i o =>
     simp only at e;cases hp:loP os' n p with
     |none=>grind
     | some Lp =>
      rw[hp]at e;cases e;obtain⟨id,p0,h1,h2,h3⟩:=hsb j p i o hj;obtain⟨id',r,q,t,h4,h5,h6,rfl⟩:=ih p Lp hp
      have:id'=p0:=by
       have:=posOf_some ids p0 p h3
       grind
      subst this;exact⟨id,r,q,t++[i,o],h1,by grind[loP],h6,by simp⟩
 have hR:Ren (posOf ids) ow os (rE (posOf ids) ow) os':=fun id j hj _=>by
  have hj':=posOf_some ids id j hj;refine⟨by grind,fun L' hL'=>?_⟩;obtain⟨id',r,q,t,h1,h2,h3,rfl⟩:=hlo 6 j L' hL';grind[posOf_some]
 refine⟨⟨fun j es sz hj=>?_,fun j k es sz hj hk=>?_,fun j es hj=>?_,fun a b M ha hb=>?_,fun a M ha=>?_,s.zb,fun j p i o hj=>?_⟩,hR⟩
 . obtain ⟨id,es0,h1,h2,h3⟩:=hrw j 0 es sz hj
   rcases h3 with⟨_,rfl⟩|⟨h3,_⟩
   . obtain⟨x,hx⟩:=s.row id es sz h2
     exact⟨x,hx.reloc (zqu _) (fun _ hz=>⟨hz,rfl⟩) (fun d t=>ho d j id t h1) (fun _ _ _=>rfl)⟩
   grind
 . obtain ⟨id,es0,h1,h2,h3⟩:=hrw j k es sz hj
   rcases h3 with⟨h3,_⟩|⟨_,rfl⟩
   . grind
   . obtain⟨c,ces,g⟩:=s.raw id k es0 sz h2 hk
     exact⟨c,ces,g.ren (fun _ hz=>⟨hz,rfl⟩) hR ((ho c j id [] h1).2 g.o) (zqu _) rfl (fun a t ha=>g.no a t ((ho a j id t h1).1 ha))⟩
 . obtain⟨id,h1,h2⟩:=hmp j es hj
   obtain⟨c,ces,g⟩:=s.map id es h2;exact⟨c,ces,(ho c j id [] h1).2 g.o,g.lt,g.get,g.len,g.kv,fun a t ha=>g.no a t ((ho a j id t h1).1 ha)⟩
 . obtain⟨r,j,t,h1,h2,rfl⟩:=Z8.1 ha
   obtain⟨r',j',t',h3,h4,h5⟩:=Z8.1 hb;cases h5;have e1:=posOf_some ids r j h2;have e2:=posOf_some ids r' _ h4;rw[e1]at e2;cases e2;exact s.inj _ _ _ h1 h3
 . obtain ⟨r,j,t,h1,h2,rfl⟩:=Z8.1 ha
   obtain⟨h3,h4,r',t',h5,h6⟩:=s.live a _ h1;cases h5;refine⟨h3,h4,j,t,rfl,?_⟩;have hj:=posOf_some ids r j h2;unfold isRt at h6|-;rw[hos,zqh,hj];show(match some (f (renPO (posOf ids) (entryAt os r)))with|some (.row _ _ _)=>true|some (.mapo _)=>true|_=>false)=true
   unfold entryAt;cases he:os[r]? with
   |none=>grind
   | some e =>
    rw[he]at h6;cases e with
    | row k es sz =>
     have:f (renPO (posOf ids) (.row k es sz))=renPO (posOf ids) (.row k es sz):=by
      grind[renPO]
     simp only[this];cases k<;>rfl
    | mapo es =>
     grind[renPO]
    |sub=>cases h6
    |dead=>cases h6
 . obtain⟨id,p0,h1,h2,h3⟩:=hsb j p i o hj
   rw[hlen];exact(zqd.1 (posOf_some ids p0 p h3)).1
theorem wR{keep:List Nat}:(markIds keep fr K).Nodup/\∀j,j<K.ext->(markIds keep fr K)[j]?=some j:=by
 grind[markIds,Gq]
theorem look_keep(σ:Nat->Option Nat)(fr:PF):∀(keep:List Nat)(i:Nat),lookP (keep.map fun i=>(i,J4 σ (lookP fr i))) i=J4 σ (lookP fr i)\/lookP (keep.map fun i=>(i,J4 σ (lookP fr i))) i=.und
 |[],i=>.inr rfl
 | k::keep,i=>by
  show(if k=i then J4 σ (lookP fr k)else lookP (keep.map fun i=>(i,J4 σ (lookP fr i))) i)=_\/(if k=i then J4 σ (lookP fr k)else lookP (keep.map fun i=>(i,J4 σ (lookP fr i))) i)=_
  by_cases e:k=i
  . grind
  . rw[if_neg e];exact look_keep σ fr keep i
theorem wS{ids:List Nat}{j:Nat}(hj:ids[j]?=some j){ext:Nat}{tch:List Nat}:isRt (FS ids K ext tch).os j=true->isRt K.os j=true:=by
 intro hr;unfold isRt at hr|-
 have:(FS ids K ext tch).os[j]?=some (renPO (posOf ids) (entryAt K.os j)):=by
  show(ids.map fun id=>renPO (posOf ids) (entryAt K.os id))[j]?=_
  grind
 rw[this]at hr;unfold entryAt at hr;cases he:K.os[j]? with
 |none=>rw[he]at hr;cases hr
 | some e =>
  rw[he]at hr;cases e with
  |row=>rfl
  |mapo=>rfl
  |dead=>cases hr
  | sub p i o =>
   grind[renPO]
theorem Mr(s:I4 Z ow h K.os)(a:FrR Z ow h K.os nt frc fr)(keep:List Nat):∃ow',I4 Z ow' h (N0 keep fr K).2.os/\FrR Z ow' h (N0 keep fr K).2.os nt frc (N0 keep fr K).1/\Stp K.ext Z ow h K Z ow' h (N0 keep fr K).2/\K.ext<=(N0 keep fr K).2.os.length/\∀id,id<K.ext->id<K.os.length->∀L',loP (N0 keep fr K).2.os 6 id=some L'->∃L,loP K.os 6 id=some L/\∀c,ow c=some L↔ow' c=some L':=by
 obtain⟨hn,hx⟩:=wR (fr:=fr) (K:=K) (keep:=keep);obtain⟨h1,h2⟩:=iQ s hn (f:=id) (fun e=>.inl rfl) (os':=(N0 keep fr K).2.os) rfl;have hp:∀j,j<K.ext->posOf (markIds keep fr K) j=some j:=fun j hj=>Gp _ _ _ hn (hx j hj)
 have hlen:(N0 keep fr K).2.os.length=(markIds keep fr K).length:=by show((markIds keep fr K).map _).length=_;simp
 refine⟨_,h1,⟨fun i=>?_,a.has⟩,⟨zqu _,fun _ hz=>⟨hz,rfl⟩,fun _ hz=>.inl hz,fun _ _ _=>rfl,fun d M hd _ e=>?_,⟨[],rfl,fun d hd=>by cases hd⟩,fun d r t ho hr=>?_,fun r hr hl=>?_,rfl,fun j hj c hr=>?_,fun j hj hr=>wS (hx j hj) hr⟩,?_,fun id hi hl=>(h2 id id (hp id hi) hl).2⟩
 . rcases look_keep (posOf (markIds keep fr K)) fr keep i with e|e
   . show VR _ _ _ _ _ (lookP (keep.map fun i=>(i,J4 (posOf (markIds keep fr K)) (lookP fr i))) i)
     rw[e];exact(a.v i).ren (fun _ hz=>⟨hz,rfl⟩) h2
   . show VR _ _ _ _ _ (lookP (keep.map fun i=>(i,J4 (posOf (markIds keep fr K)) (lookP fr i))) i)
     rw[e];exact .und
 . grind[Z8]
 . exact .inl ⟨t,Z8.2 ⟨r,r,t,ho,hp r hr,rfl⟩⟩
 . exact List.mem_filter.2 ⟨hr,by grind⟩
 . rw[Z8]
   constructor
   . grind
   grind[posOf_some]
 grind
end
section
variable {E:Env}{R:AV->AV->Prop}{Z Z' Z1:Nat->Prop}{ow ow' ow1 ow2:Nat->Option (List Nat)}{h h' h1:Heap}{K K' K1:PK}{os os' os1 os2:List PO}{x y xc yc v k:AV}{L M:List Nat}{nt:Nat}{frc:Tr}{fr:PF}{σ:Nat->Option Nat}
end
section
variable {E:Env}{R:AV->AV->Prop}{Z Z' Z1:Nat->Prop}{ow ow' ow1:Nat->Option (List Nat)}{h h' h1:Heap}{K K':PK}{os os' ps:List PO}{x y xc yc v k:AV}{L M:List Nat}
theorem Ak{a:Option AV}{l:Option (List AV)}{r:List AV}(e:J7 a l=some r):∃v t,a=some v/\l=some t/\r=v::t:=by
 unfold J7 at e;grind
theorem Du:∀(l l':List AV),frzL l=some l'->l'.length=l.length/\∀(i:Nat) y y',l[i]?=some y->l'[i]?=some y'->frzC y=some y'
 |[],l',e=>by cases e;grind
 | v::l,l',e=>by
  unfold frzL at e;obtain⟨a,t,h1,h2,rfl⟩:=Ak e;obtain⟨h3,h4⟩:=Du l t h2;grind
theorem iR:∀(l l':List AV),viewL os l=some l'->l'.length=l.length/\∀(i:Nat) y y',l[i]?=some y->l'[i]?=some y'->viewV os y=some y'
 |[],l',e=>by cases e;grind
 | v::l,l',e=>by
  unfold viewL at e;obtain⟨a,t,h1,h2,rfl⟩:=Ak e;obtain⟨h3,h4⟩:=iR l t h2;grind
theorem Oo:∀(l l':List AV),viewAs os l=some l'->l'.length=l.length/\∀(i:Nat) y y',l[i]?=some y->l'[i]?=some y'->viewA os y=some y'
 |[],l',e=>by cases e;grind
 | v::l,l',e=>by
  unfold viewAs at e;obtain⟨a,t,h1,h2,rfl⟩:=Ak e;obtain⟨h3,h4⟩:=Oo l t h2;grind
theorem Ms{c c':AV}(e:frzC c=some c')(hc:isAg c=false):clo c'=true:=by
 cases c<;>unfold frzC at e<;>first|(cases e;done)|(cases e;rfl)|skip
 . cases hc
 . rename_i cs
   cases cs with
   |nil=>cases e
   | cons a es =>
    cases a<;>try (cases e;done)
    rename_i i j z;cases j with
    |succ=>cases e
    | zero =>
     simp only at e;cases hf:frzL es with
     |none=>grind
     | some es' =>
      rw[hf]at e;simp only at e;split at e
      . split at e
        . cases e;rfl
        . cases e
      . cases e;rfl
 . rename_i es f
   cases hf:frzL es with
   |none=>grind
   |some es'=>rw[hf]at e;cases e;rfl
 . rename_i v o
   cases hf:frzC v with
   |none=>grind
   |some es'=>rw[hf]at e;cases e;rfl
theorem Fz.frz(f:Fz Z h x y):∀y',frzC y=some y'->Fz Z h x y':=by
 have fsl:∀{x:AV}{es es':List AV},(∀es'':List AV,frzL es=some es''->Fz Z h x (fslN es''))->∀{f:Bool} y',frzC (.fsl es f)=some y'->Fz Z h x y':=(by grind[Go.AM.frzC])
 induction f with
 |int=>intro y' e;cases e;exact .int _ _
 |bool=>intro y' e;cases e;exact .bool _
 |str=>intro y' e;cases e;exact .str _
 |nilsl=>intro y' e;cases e;exact .emp .nil
 |nilptr=>intro y' e;cases e;exact .nilptr
 |nilmap=>intro y' e;cases e;exact .nilmap
 |nilfn=>intro y' e;cases e;exact .nilfn
 |niliface=>intro y' e;cases e;exact .niliface
 | agg h1 h2 h3 ih =>
  rename_i xs ys;intro y' e;unfold frzC at e;cases hf:frzL ys with
  |none=>grind
  | some ys' =>
   rw[hf]at e;cases e;obtain⟨g1,g2⟩:=Du _ _ hf;refine .agg (h1.trans g1.symm) (fun i a b ha hb=>?_) (zqf.2 fun b hb=>?_)
   . grind
   . obtain⟨i,hi⟩:=zqe hb
     obtain⟨c,hc⟩:∃c,ys[i]?=some c:=(by grind)
     refine Ms (g2 i c b hc hi) ?_
     have:=zqf.1 h3 c (zqc hc)
     cases c<;>first|rfl|cases this
 |emp e=>intro y' e';cases e';exact .emp e
 | fsl h1 h2 h3 ih =>
  rename_i es es' f f';refine fsl (es':=es') fun es'' hf=>?_
  obtain⟨g1,g2⟩:=Du _ _ hf;unfold fslN;refine .fsl (h1.trans g1.symm) (fun i a b ha hb=>?_) h3;grind
 | view h1 h2 h3 h4 h5 h6 ih =>
  rename_i es' f';refine fsl (es':=es') fun es'' hf=>?_
  obtain⟨g1,g2⟩:=Du _ _ hf;refine .view h1 h2 h3 (g1.trans h4) (fun i a b ha hb=>?_) h6;grind
 | fptr o _ ih =>
  rename_i v v' _;intro y' e;unfold frzC at e;cases hf:frzC v' with
  |none=>grind
  |some w=>rw[hf]at e;cases e;exact .fptr o (ih w hf)
 | pview h1 h2 h3 _ ih =>
  rename_i v v' row _;intro y' e;unfold frzC at e;cases hf:frzC v' with
  |none=>grind
  |some w=>rw[hf]at e;cases e;exact .pview h1 h2 h3 (ih w hf)
theorem Fz.elem{a b b':AV}(hs:a.cells.length=b.cells.length/\isAg a=isAg b)(H:∀(o:Nat) u w,a.cells[o]?=some u->b.cells[o]?=some w->∀w',frzC w=some w'->Fz Z h u w'/\AM.clo w'=true)(e:frzC b=some b'):Fz Z h a b':=by
 cases hb:isAg b with
 | false =>
  have ha:=hs.2.trans hb;exact(H 0 a b (by rw[D8 ha];rfl) (by rw[D8 hb];rfl) b' e).1
 | true =>
  have ha:=hs.2.trans hb;cases b<;>first|(cases hb;done)|skip
  cases a<;>first|(cases ha;done)|skip
  rename_i ys xs;unfold frzC at e;cases hf:frzL ys with
  |none=>grind
  | some ys' =>
   rw[hf]at e;cases e;obtain⟨g1,g2⟩:=Du _ _ hf;have hl:xs.length=ys.length:=hs.1;refine .agg (hl.trans g1.symm) (fun i u w hu hw=>?_) (zqf.2 fun w hw=>?_)
   . obtain⟨c,hc⟩:∃c,ys[i]?=some c:=(by grind)
     exact(H i u c hu hc w (g2 i c w hc hw)).1
   . obtain⟨i,hi⟩:=zqe hw
     obtain⟨c,hc⟩:∃c,ys[i]?=some c:=(by grind)
     obtain⟨u,hu⟩:∃u,xs[i]?=some u:=(by grind)
     exact(H i u c hu hc w (g2 i c w hc hi)).2
def Zv(Z:Nat->Prop)(ow:Nat->Option (List Nat))(id:Nat):Prop:=Z id\/ow id≠none
theorem Fz.zv(f:Fz Z h x y):Fz (Zv Z ow) h x y:=f.mono fun _ hz=>⟨.inl hz,rfl⟩
theorem CR.frz(c:CR Z ow h L x y):∀y',frzC y=some y'->Fz (Zv Z ow) h x y'/\clo y'=true:=by
 induction c with
 |val f e n=>exact fun y' hy=>⟨(f.frz y' hy).zv,Ms hy (by rename_i y;cases y<;>first|rfl|cases e)⟩
 |und=>intro y' e;cases e
 | nil e n =>
  intro y' hy;cases hy;refine⟨.emp ?_,rfl⟩;rcases e with rfl|rfl
  . exact .nil
  . exact .nil
 | own h1 h2 h3 h4 h5 h6 _ ih =>
  rename_i L k id sz ces es _;intro y' e;have hag:isAg (ownd k sz es)=false:=rfl;refine⟨?_,Ms e hag⟩;unfold ownd frzC at e;simp only at e;cases hf:frzL es with
  |none=>grind
  | some es' =>
   rw [hf]at e;simp only at e;obtain⟨g1,g2⟩:=Du _ _ hf;have hel:∀(i:Nat) a b,ces[i]?=some a->es'[i]?=some b->Fz (Zv Z ow) h a b:=fun i a b ha hb=>by
    obtain⟨c,hc⟩:∃c,es[i]?=some c:=(by grind)
    obtain⟨q1,q2,q3⟩:=h6 i a c ha hc;exact .elem ⟨q1.trans q2.symm,q3⟩ (fun o u w hu hw w' hw'=>ih i a c ha hc o u w hu hw w' hw') (g2 i c b hc hb)
   have hz:Zv Z ow id:=.inr (by grind);split at e
   . split at e
     . rename_i v
       cases e;have hl:ces.length=1:=by grind
       obtain⟨a,ha⟩:∃a,ces[0]?=some a:=⟨_,zqa (by omega)⟩
       exact .pview hz h3 ha (hel 0 a v ha rfl)
     . cases e
   . rename_i hk
     cases e
     have:refK k id es.length sz=.msl id 0 es.length sz:=by
      unfold refK;grind
     rw[this];refine .view hz h3 (by omega) g1 (by grind) (fun i a hi ha=>?_);grind
end
section
variable {E:Env}{R:AV->AV->Prop}{Z Z' Z1:Nat->Prop}{ow ow' ow1:Nat->Option (List Nat)}{h h' h1:Heap}{K K':PK}{os os' ps:List PO}{x y xc yc v k:AV}{L M:List Nat}{r0 sz0 c0:Nat}{es0 ces0:List AV}
theorem VR.view(s:I4 Z ow h os)(a:VR Z ow h os x y){w:AV}(e:viewV os y=some w):Fz (Zv Z ow) h x w/\clo w=true/\(O2 y=[]->Fz Z h x w):=by
 have el:∀{id:Nat}{es:List AV}{sz:Nat},rowOf os 6 id=some (0,es,sz)->∀{c:Nat},(∀L,loP os 6 id=some L->ow c=some L)->∃ces,h.get c=some (.row ces sz)/\dN sz ces es/\(ow c≠none)/\∀(i:Nat) a b b',ces[i]?=some a->es[i]?=some b->frzC b=some b'->Fz (Zv Z ow) h a b':=fun{id es sz} hr {c} hc=>by
  obtain ⟨L,hL,h1⟩:=s.get 6 id 0 es sz hr;have ho:=hc L hL;have fin:∀{x':AV},CR Z ow h L x' (ownd 0 sz es)->∃ces,h.get c=some (.row ces sz)/\dN sz ces es/\(ow c≠none)/\∀(i:Nat) a b b',ces[i]?=some a->es[i]?=some b->frzC b=some b'->Fz (Zv Z ow) h a b':=fun{x'} hx=>by
   rcases hx.inv with⟨_,_,_,n⟩|⟨id',ces,_,g2,_,g4,g5,_,g7⟩
   . exact absurd (by rw[zql];exact ho) (n c [])
   . obtain rfl:=s.inj c id' L ho g2
     refine⟨ces,g4,g5,(by grind),fun i a b b' ha hb hf=>?_⟩;obtain⟨q1,q2,q3⟩:=g5.2 i a b ha hb;exact .elem ⟨q1.trans q2.symm,q3⟩ (fun o u w hu hw w' hw'=>(g7 i a b ha hb o u w hu hw).frz w' hw') hf
  rcases h1 with⟨_,rfl,c',ces',g⟩|⟨_,x',hx⟩
  . obtain rfl:=s.inj c c' _ ho g.o
    refine ⟨ces',g.get,g.sh,(by grind),fun i a b b' ha hb hf=>?_⟩;obtain⟨q1,q2,q3⟩:=g.sh.2 i a b ha hb;refine .elem ⟨q1.trans q2.symm,q3⟩ (fun o u w hu hw w' hw'=>?_) hf;have v:=g.vr i a b ha hb o u w hu hw;have hok:=g.okp i b hb w (zqc hw);have hz:Fz Z h u w:=by
     cases v with
     |fz f=>exact f
     |und=>cases hw'
     |any=>cases hw'
     |msl=>cases hw'
     |mnil=>cases hw'
     |ptr=>cases hw'
     |map=>cases hw'
     |agg=>rcases hok with hok|hok<;>cases hok
     |tup=>rcases hok with hok|hok<;>cases hok
     |fn=>cases hw'
     |iface=>cases hw'
    refine⟨(hz.frz w' hw').zv,Ms hw' ?_⟩;cases w<;>first|rfl|(rcases hok with hok|hok<;>cases hok)
  grind
 have plain:isAg y=false->frzC y=some w->(∀cs,y≠.tup cs)->Fz (Zv Z ow) h x w/\clo w=true/\(O2 y=[]->Fz Z h x w):=fun hy hf ht=>by
  have hz:Fz Z h x y:=by
   cases a with
   |fz f=>exact f
   |und=>cases hf
   |any=>cases hf
   |msl=>cases hf
   |mnil=>cases hf
   |ptr=>cases hf
   |map=>cases hf
   |agg=>cases hy
   |tup=>grind
   |fn=>cases hf
   |iface=>cases hf
  exact⟨(hz.frz w hf).zv,Ms hf hy,fun _=>hz.frz w hf⟩
 unfold viewV at e;split at e
 . rename_i id off n sz
   cases hr:rowOf os 6 id with
   |none=>grind
   | some q =>
    obtain⟨k,es,z⟩:=q;rw[hr]at e;simp only at e;split at e
    . rename_i hc
      obtain⟨rfl,rfl,hn⟩:=hc;cases hf:frzL ((es.drop off).take n)with
      |none=>grind
      | some es' =>
       rw[hf]at e;cases e;refine⟨?_,rfl,fun h0=>by cases h0⟩;obtain⟨g1,g2⟩:=Du _ _ hf;have hlen:((es.drop off).take n).length=n:=by simp;omega
       cases a with
       |fz f=>cases f
       | msl h1 h2 =>
        rename_i c;obtain⟨ces,q1,q2,q3,q4⟩:=el hr h1;refine .view (.inr q3) q1 (by have:=q2.1;omega) (g1.trans hlen) (fun i u w hu hw=>?_) (fun i u hi hu=>?_)
        . grind
        . obtain⟨b,hb⟩:∃b,es[off+i]?=some b:=(by grind)
          exact(q2.2 (off+i) u b hu hb).1
       | mnil h1 h2 h3 =>
        have:es'=[]:=(by grind)
        subst this;refine .emp ?_;rcases h1 with rfl|rfl
        . exact .nil
        . exact .nil
    . cases e
 . rename_i id i off
   cases hr:rowOf os 6 id with
   |none=>grind
   | some q =>
    obtain⟨k,es,z⟩:=q;rw[hr]at e;simp only at e;split at e
    . rename_i hk;subst hk
      cases hi:es[i]? with
      |none=>grind
      | some v =>
       rw[hi]at e;simp only at e;cases hf:frzC v with
       |none=>grind
       | some v' =>
        rw[hf]at e;cases e;refine⟨?_,rfl,fun h0=>by cases h0⟩;cases a with
        |fz f=>cases f
        | ptr h1 h2 =>
         obtain⟨ces,q1,q2,q3,q4⟩:=el hr h1;obtain⟨u,hu⟩:∃u,ces[i]?=some u:=⟨_,zqa (by have:=(zqd.1 hi).1;have:=q2.1;omega)⟩
         exact .pview (.inr q3) q1 hu (q4 i u v v' hu hi hf)
    . cases e
 . cases e
 . cases e
 . rename_i h1 h2 h3 h4
   refine plain ?_ e (fun cs he=>h3 cs he);cases y<;>first|rfl|grind
theorem VR.viewA(s:I4 Z ow h os)(a:VR Z ow h os x y){w:AV}(e:viewA os y=some w):Fz (Zv Z ow) h x w/\(O2 y=[]->Fz Z h x w):=by
 cases hy:isAg y with
 | false =>
  have e':viewV os y=some w:=by cases y<;>first|exact e|cases hy
  exact⟨(a.view s e').1,(a.view s e').2.2⟩
 | true =>
  cases y<;>first|(cases hy;done)|skip
  rename_i ys;unfold AM.viewA at e;simp only at e;cases hf:viewL os ys with
  |none=>grind
  | some ys' =>
   rw [hf]at e;cases e;obtain⟨g1,g2⟩:=iR _ _ hf;obtain⟨xs,rfl,l⟩:=a.agI;have key:∀(i:Nat) u w,xs[i]?=some u->ys'[i]?=some w->∃c,ys[i]?=some c/\VR Z ow h os u c/\viewV os c=some w:=fun i u w hu hw=>by
    obtain⟨c,hc⟩:∃c,ys[i]?=some c:=(by grind)
    exact⟨c,hc,l.2 i u c hu hc,g2 i c w hc hw⟩
   have hcl:ys'.all clo=true:=zqf.2 fun w hw=>by
    obtain⟨i,hi⟩:=zqe hw;obtain⟨u,hu⟩:∃u,xs[i]?=some u:=⟨_,zqa (by have:=(zqd.1 hi).1;have:=l.1;omega)⟩
    obtain⟨c,_,hv,he⟩:=key i u w hu hi;exact(hv.view s he).2.1
   refine⟨.agg (l.1.trans g1.symm) (fun i u w hu hw=>?_) hcl,fun h0=>.agg (l.1.trans g1.symm) (fun i u w hu hw=>?_) hcl⟩
   . obtain⟨c,_,hv,he⟩:=key i u w hu hw
     exact(hv.view s he).1
   . obtain ⟨c,hc,hv,he⟩:=key i u w hu hw
     refine(hv.view s he).2.2 ?_
     have:∀(ys:List AV)(i:Nat),refsL ys=[]->ys[i]?=some c->O2 c=[]:=fun ys=>by
      induction ys with
      |nil=>grind
      | cons a l ih =>
       grind[refsL,zqo]
     exact this ys i h0 hc
theorem VR.elemR(g:RawR (VR Z ow h os) ow h r0 es0 sz0 c0 ces0){i:Nat}{a b:AV}(ha:ces0[i]?=some a)(hb:es0[i]?=some b):VR Z ow h os a b:=by
 obtain⟨q1,q2,q3⟩:=g.sh.2 i a b ha hb;have v:=g.vr i a b ha hb;cases b with
 | agg ys=>cases a with
  |agg xs=>exact .agg (q1.trans q2.symm) fun o u w hu hw=>v o u w hu hw
  |_=>cases q3
 | _=>cases a with
  |agg xs=>cases q3
  |_=>exact v 0 _ _ rfl rfl
theorem VR.viewW(s:I4 Z ow h os)(a:VR Z ow h os x y){w:AV}(e:viewW os y=some w):Fz (Zv Z ow) h x w/\clo w=true/\(O2 y=[]->Fz Z h x w):=by
 unfold AM.viewW at e;cases hv:viewV os y with
 |some w'=>rw[hv]at e;cases e;exact a.view s hv
 | none =>
  rw[hv]at e;cases y with
  | msl id off n sz =>
   dsimp only at e;cases hra:rawAt os id with
   |false=>rw[hra]at e;cases e
   | true =>
    rw[hra]at e;dsimp only at e;split at e
    . rename_i k es z hro
      split at e
      . rename_i hc
        obtain⟨rfl,hn⟩:=hc;cases hf:viewAs os ((es.drop off).take n)with
        |none=>rw[hf]at e;cases e
        | some es' =>
         rw[hf]at e;cases e;refine⟨?_,rfl,fun h0=>by cases h0⟩;obtain⟨g1,g2⟩:=Oo _ _ hf;have hlen:((es.drop off).take n).length=n:=by simp;omega
         obtain⟨L,hL,h1⟩:=s.get 6 id k es sz (by unfold rowOf;rw[hro]);rcases h1 with⟨_,rfl,c',ces,g⟩|⟨hh,_⟩
         . cases a with
           |fz f=>cases f
           |mnil em hno _=>exact absurd g.o (hno _ hL c')
           | msl h2 h3 =>
            rename_i c;obtain rfl:=s.inj c c' _ (h2 _ hL) g.o;refine .view (.inr (by rw[g.o];intro e;cases e)) g.get (by have:=g.sh.1;omega) (g1.trans hlen) (fun i u w hu hw=>?_) (fun i u hi hu=>?_)
            . obtain ⟨b,hb⟩:∃b,((es.drop off).take n)[i]?=some b:=⟨_,zqa (by have:=(zqd.1 hw).1;omega)⟩
              have hb2:es[off+i]?=some b:=by
               rw[List.getElem?_take]at hb;split at hb
               . rw[List.getElem?_drop]at hb;exact hb
               . cases hb
              exact((VR.elemR g hu hb2).viewA s (g2 i b w hb hw)).1
            . exact(g.sh.2 (off+i) u _ hu (zqa (by have:=(zqd.1 hu).1;have:=g.sh.1;omega))).1
         . rw[hra]at hh;cases hh
      . cases e
    . cases e
  |_=>cases e
theorem Zo:∀(l l':List AV),viewWL os l=some l'->l'.length=l.length/\∀(i:Nat) y y',l[i]?=some y->l'[i]?=some y'->viewW os y=some y'
 |[],l',e=>by cases e;exact⟨rfl,fun i y y' hy=>by simp at hy⟩
 | v::l,l',e=>by
  unfold viewWL at e;obtain⟨a,t,h1,h2,rfl⟩:=Ak e;obtain⟨h3,h4⟩:=Zo l t h2;refine⟨by simp[h3],fun i y y' hy hy'=>?_⟩;cases i with
  |zero=>cases hy;cases hy';exact h1
  |succ i=>exact h4 i y y' hy hy'
theorem VR.viewWA(s:I4 Z ow h os)(a:VR Z ow h os x y){w:AV}(e:viewWA os y=some w):Fz (Zv Z ow) h x w/\(O2 y=[]->Fz Z h x w):=by
 cases hy:isAg y with
 | false =>
  have e':AM.viewW os y=some w:=by cases y<;>first|exact e|cases hy
  exact⟨(a.viewW s e').1,(a.viewW s e').2.2⟩
 | true =>
  cases y<;>first|(cases hy;done)|skip
  rename_i ys;unfold AM.viewWA at e;simp only at e;cases hf:viewWL os ys with
  |none=>rw[hf]at e;cases e
  | some ys' =>
   rw [hf]at e;cases e;obtain⟨g1,g2⟩:=Zo _ _ hf;obtain⟨xs,rfl,l⟩:=a.agI;have key:∀(i:Nat) u w,xs[i]?=some u->ys'[i]?=some w->∃c,ys[i]?=some c/\VR Z ow h os u c/\AM.viewW os c=some w:=fun i u w hu hw=>by
    obtain⟨c,hc⟩:∃c,ys[i]?=some c:=⟨_,zqa (by have:=(zqd.1 hw).1;omega)⟩
    exact⟨c,hc,l.2 i u c hu hc,g2 i c w hc hw⟩
   have hcl:ys'.all clo=true:=zqf.2 fun w hw=>by
    obtain⟨i,hi⟩:=zqe hw;obtain⟨u,hu⟩:∃u,xs[i]?=some u:=⟨_,zqa (by have:=(zqd.1 hi).1;have:=l.1;omega)⟩
    obtain⟨c,_,hv,he⟩:=key i u w hu hi;exact(hv.viewW s he).2.1
   refine⟨.agg (l.1.trans g1.symm) (fun i u w hu hw=>?_) hcl,fun h0=>.agg (l.1.trans g1.symm) (fun i u w hu hw=>?_) hcl⟩
   . obtain⟨c,_,hv,he⟩:=key i u w hu hw
     exact(hv.viewW s he).1
   . obtain ⟨c,hc,hv,he⟩:=key i u w hu hw
     refine(hv.viewW s he).2.2 ?_
     have:∀(ys:List AV)(i:Nat),refsL ys=[]->ys[i]?=some c->O2 c=[]:=fun ys=>by
      induction ys with
      |nil=>intro i _ hc;simp at hc
      | cons a l ih =>
       intro i h0 hc;have h0:O2 a++refsL l=[]:=h0;obtain⟨h1,h2⟩:=zqo.1 h0;cases i with
       |zero=>cases hc;exact h1
       |succ i=>exact ih i h2 hc
     exact this ys i h0 hc
theorem Wl:∀(l l':List AV),Sd os l=some l'->l'.length=l.length/\∀(i:Nat) y y',l[i]?=some y->l'[i]?=some y'->viewWA os y=some y'
 |[],l',e=>by cases e;exact⟨rfl,fun i y y' hy=>by simp at hy⟩
 | v::l,l',e=>by
  unfold Sd at e;obtain⟨a,t,h1,h2,rfl⟩:=Ak e;obtain⟨h3,h4⟩:=Wl l t h2;refine⟨by simp[h3],fun i y y' hy hy'=>?_⟩;cases i with
  |zero=>cases hy;cases hy';exact h1
  |succ i=>exact h4 i y y' hy hy'
theorem wT(s:I4 Z ow h os){l l' xs:List AV}(v:VL Z ow h os xs l)(e:viewX os l=some l'):l'.length=l.length/\∀(i:Nat) x y y',xs[i]?=some x->l[i]?=some y->l'[i]?=some y'->Fz (Zv Z ow) h x y'/\(O2 y=[]->Fz Z h x y'):=by
 unfold viewX at e;cases hv:viewAs os l with
 | some as1 =>
  rw[hv]at e;cases e;obtain⟨g1,g2⟩:=Oo _ _ hv;exact⟨g1,fun i x y y' hx hy hy'=>(v.2 i x y hx hy).viewA s (g2 i y y' hy hy')⟩
 | none =>
  rw[hv]at e;obtain⟨g1,g2⟩:=Wl _ _ e;exact⟨g1,fun i x y y' hx hy hy'=>(v.2 i x y hx hy).viewWA s (g2 i y y' hy hy')⟩
def TC(E:Env)(f:Nat)(g:List AV->Option (List AV)):Prop:=∀args rs,g args=some rs->∀(Z:Nat->Prop)(h:Heap)(xs:List AV),xs.length=args.length->(∀(i:Nat) x y,xs[i]?=some x->args[i]?=some y->Fz Z h x y)->(∀id,Z id->id<h.next) ->
 ∃ (vcs:List AV) (h1:Heap) (Z1:Nat->Prop) (ow1:Nat->Option (List Nat)),callω E f xs h=.ok (oneOrTup vcs) h1/\I4 Z1 ow1 h1 (openTs 0 rs).2/\VL Z1 ow1 h1 (openTs 0 rs).2 vcs (openTs 0 rs).1/\
   h.next<=h1.next/\(∀id,Z id->Z1 id/\h1.get id=h.get id)/\(∀id,Z1 id->Z id\/h.next<=id)/\(∀id,id<h.next->h1.get id=h.get id)/\(∀id L,ow1 id=some L->h.next<=id)/\∃l,h1.tch=l++h.tch/\∀id∈l,h.next<=id
theorem Ki:∀(n:Nat)(l:List AV)(e:PO),e∈(openT n l).2->∃es sz,e=.row 0 es sz/\∃k,ownd k sz es∈l
 |n,[],e,h=>by cases h
 | n,c::r,e,h=>by
  unfold openT at h;cases ho:ownOf c with
  | none =>
   rw[ho]at h;obtain⟨es,sz,h1,k,h2⟩:=Ki n r e h;grind
  | some q =>
   obtain⟨k,es,sz⟩:=q;rw[ho]at h;rcases zqi.1 h with rfl|h
   . exact⟨es,sz,rfl,k,by grind[Aj]⟩
   . obtain⟨es,sz,h1,k,h2⟩:=Ki (n+1) r e h
     grind
theorem Gr:∀(n:Nat)(l:List AV)(e:PO),e∈(openTs n l).2->∃es sz,e=.row 0 es sz/\∃k,∃v∈l,ownd k sz es∈v.cells
 |n,[],e,h=>by cases h
 | n,v::r,e,h=>by
  unfold openTs at h;rcases zqk.1 h with h|h
  . grind[Ki]
  . obtain⟨es,sz,h1,k,u,hu,h2⟩:=Gr _ r e h
    grind
theorem Mt:∀(l:List AV)(n m:Nat),(openT n l).2=(openT m l).2
 |[],n,m=>rfl
 | c::r,n,m=>by
  unfold openT;cases ownOf c with
  |none=>exact Mt r n m
  |some q=>exact congrArg (List.cons (PO.row 0 q.2.1 q.2.2)) (Mt r (n+1) (m+1))
theorem Zp:∀(l:List AV)(n m:Nat),(openTs n l).2=(openTs m l).2
 |[],n,m=>rfl
 | v::r,n,m=>by
  unfold openTs;rw[Mt v.cells n m];exact congrArg (List.append _) (Zp r _ _)
theorem Wm(b:Nat):∀(l:List AV)(n:Nat),(l.all fun c=>(ownOf c).isSome||clo c)=true->(openT (b+n) l).1=renL (fun id=>some (b+id)) (openT n l).1
 |[],n,_=>rfl
 | c::r,n,hk=>by
  obtain⟨h1,h2⟩:((ownOf c).isSome||clo c)=true/\(r.all fun c=>(ownOf c).isSome||clo c)=true:=by grind
  unfold openT;cases ho:ownOf c with
  | none =>
   rw[ho]at h1;have hc:clo c=true:=by grind
   show c::(openT (b+n) r).1=J4 _ c::renL _ (openT n r).1
   rw[iP hc,Wm b r n h2]
  | some q =>
   obtain⟨k,es,sz⟩:=q;show _::(openT (b+n+1) r).1=J4 _ _::renL _ (openT (n+1) r).1
   rw[show b+n+1=b+(n+1) by omega,Wm b r (n+1) h2]
   congr 1
   split<;>rfl
theorem Zq(b:Nat):∀(l:List AV)(n:Nat),okRs l=true->(openTs (b+n) l).1=renL (fun id=>some (b+id)) (openTs n l).1
 |[],n,_=>rfl
 | v::r,n,hk=>by
  obtain⟨h1,h2⟩:(v.cells.all fun c=>(ownOf c).isSome||clo c)=true/\okRs r=true:=by grind[okRs]
  unfold openTs;show _::_=J4 _ _::renL _ _
  rw[Mt v.cells (b+n) n,show b+n+(openT n v.cells).2.length=b+(n+(openT n v.cells).2.length) by omega,Zq b r _ h2,Wm b v.cells n h1]
  congr 1
  unfold O7;split
  . rfl
  . cases (openT n v.cells).1<;>rfl
end
section
variable {E:Env}{R:AV->AV->Prop}{Z Z' Z1:Nat->Prop}{ow ow' ow1:Nat->Option (List Nat)}{h h' h1:Heap}{K K':PK}{os os' ps:List PO}{x y xc yc v k:AV}{L M:List Nat}
theorem Hs{v:AV}(e:noF v=true):∀c∈v.cells,noF c=true:=by
 have hl:∀(l:List AV),noFL l=true->∀c∈l,noF c=true:=fun l=>by
  induction l with
  |nil=>grind
  | cons a l ih =>
   intro hk c hc;have hk:(noF a&&noFL l)=true:=hk;grind
 intro c hc;cases v with
 |agg cs=>exact hl cs e c hc
 |_=>rw[D8 rfl]at hc;grind
theorem iS{l:List AV}(e:noFL l=true):∀c∈l,noF c=true:=fun c hc=>Hs (v:=.agg l) e c hc
theorem Fz.noF(f:Fz Z h x y)(hc:AM.clo y=true)(e:AM.noF y=true)(Z':Nat->Prop)(h':Heap):Fz Z' h' x y:=by
 cases f with
 |int=>exact .int _ _
 |bool=>exact .bool _
 |str=>exact .str _
 |nilsl=>exact .nilsl
 |nilptr=>exact .nilptr
 |nilmap=>exact .nilmap
 |nilfn=>exact .nilfn
 |niliface=>exact .niliface
 |agg=>cases hc
 |_=>cases e
theorem CR.noF(c:CR Z ow h L x y)(e:AM.noF y=true)(Z':Nat->Prop):CR Z' ow h L x y:=by
 induction c with
 |val f hc n=>exact .val (f.noF hc e Z' h) hc n
 |und=>exact .und
 |nil e' n=>exact .nil e' n
 | own h1 h2 h3 h4 h5 h6 h7 ih =>
  refine .own h1 h2 h3 h4 h5 h6 fun i a b ha hb o u w hu hw=>ih i a b ha hb o u w hu hw ?_
  have e:noFL _=true:=e;exact Hs (iS e b (zqc hb)) w (zqc hw)
def LY(c:AV):Prop:=(clo c=true/\noF c=true)\/(∃a b d e,c=.msl a b d e)\/∃a b d,c=.ptr a b d
theorem VR.noF(a:VR Z ow h os x y)(e:LY y)(Z':Nat->Prop):VR Z' ow h os x y:=by
 rcases e with⟨h1,h2⟩|⟨i,j,k,l,rfl⟩|⟨i,j,k,rfl⟩
 . exact .fz ((a.fzc h1).noF h1 h2 Z' h)
 . cases a with
   |fz f=>cases f
   |msl h1 h2=>exact .msl h1 h2
   |mnil h1 h2 h3=>exact .mnil h1 h2 h3
 . cases a with
   |fz f=>cases f
   |ptr h1 h2=>exact .ptr h1 h2
theorem Oq:∀(l:List AV)(n:Nat),(l.all fun c=>(ownOf c).isSome||clo c)=true->(∀c∈l,noF c=true)->∀c∈(openT n l).1,LY c
 |[],n,_,_,c,hc=>by cases hc
 | a :: r,n,hk,hf,c,hc=>by
  obtain⟨h1,h2⟩:((ownOf a).isSome||clo a)=true/\(r.all fun c=>(ownOf c).isSome||clo c)=true:=by grind
  unfold openT at hc;cases ho:ownOf a with
  | none =>
   rw[ho]at hc h1;rcases zqi.1 hc with rfl|hc
   . exact .inl (by grind)
   . exact Oq r n h2 (by grind) c hc
  | some q =>
   obtain⟨k,es,sz⟩:=q;rw[ho]at hc;rcases zqi.1 hc with rfl|hc
   . split
     . exact .inr (.inr ⟨_,_,_,rfl⟩)
     . exact .inr (.inl ⟨_,_,_,_,rfl⟩)
   . exact Oq r (n+1) h2 (by grind) c hc
theorem Ot:∀(l:List AV)(n:Nat),(openT n l).1.length=l.length
 |[],n=>rfl
 | a::r,n=>by
  unfold openT;cases ownOf a with
  |none=>exact congrArg (· + 1) (Ot r n)
  |some q=>exact congrArg (· + 1) (Ot r (n+1))
theorem VR.open_noF{n:Nat}{v:AV}(a:VR Z ow h os x (O7 v (openT n v.cells).1))(hk:(v.cells.all fun c=>(ownOf c).isSome||clo c)=true)(hf:AM.noF v=true)(Z':Nat->Prop):VR Z' ow h os x (O7 v (openT n v.cells).1):=by
 have hn:=Oq v.cells n hk (Hs hf);cases hv:isAg v with
 | true =>
  cases v<;>first|(cases hv;done)|skip
  obtain⟨xs,rfl,l⟩:=a.agI;exact .agg l.1 fun i u w hu hw=>(l.2 i u w hu hw).noF (hn w (zqc hw)) Z'
 | false =>
  have hl:(openT n v.cells).1.length=1:=by rw[Ot,D8 hv];rfl
  have:O7 v (openT n v.cells).1∈(openT n v.cells).1:=by
   obtain⟨c,hc⟩:=zqq.1 hl;rw[hc]
   have:O7 v [c]=c:=by cases v<;>first|rfl|cases hv
   grind
  exact a.noF (hn _ this) Z'
theorem VL.open_noF:∀(rs:List AV)(n:Nat)(xs:List AV),VL Z ow h os xs (openTs n rs).1->okRs rs=true->noFL rs=true->∀Z':Nat->Prop,VL Z' ow h os xs (openTs n rs).1
 | [],n,xs,a,_,_,Z'=>by
  cases xs with
  |nil=>exact .nil
  |cons u xs=>cases a.1
 | v::r,n,xs,a,hk,hf,Z'=>by
  obtain⟨h1,h2⟩:(v.cells.all fun c=>(ownOf c).isSome||clo c)=true/\okRs r=true:=by grind[okRs]
  obtain⟨h3,h4⟩:noF v=true/\noFL r=true:=zqz.1 (show(noF v&&noFL r)=true from hf);unfold openTs at a|-;cases xs with
  |nil=>cases a.1
  | cons u xs =>
   obtain⟨b1,b2⟩:=a.inv;exact .cons (b1.open_noF h1 h3 Z') (VL.open_noF r _ xs b2 h2 h4 Z')
theorem PT.noF{ps:List PO}(s:I4 Z ow h ps)(hp:∀e∈ps,∃es sz,e=.row 0 es sz/\noFL es=true)(hZ:∀a,Z' a->a<h.next/\ow a=none):I4 Z' ow h ps where
 row r es sz hr:=by
  obtain⟨x,hx⟩:=s.row r es sz hr;obtain⟨es',sz',h1,h2⟩:=hp _ (zqc hr);cases h1;exact⟨x,hx.noF h2 Z'⟩
 raw r k es sz hr hk:=by
  obtain⟨es',sz',h1,h2⟩:=hp _ (zqc hr);grind
 map r es hr:=by
  obtain⟨es',sz',h1,h2⟩:=hp _ (zqc hr);cases h1
 inj:=s.inj
 live a L ho:=by
  obtain⟨h1,h2,h3⟩:=s.live a L ho;grind
 zb a hz:=(hZ a hz).1
 sb:=s.sb
def Al(n:Nat)(ow ow1:Nat->Option (List Nat)):Nat->Option (List Nat):=fun d=>match ow d with
 |some L=>some L
 | none=>match ow1 d with
  |some (r::t)=>some ((n+r)::t)
  |_=>none
theorem Zr(s:I4 Z ow h os)(s1:I4 Z1 ow1 h1 ps)(hp:∀e∈ps,∃es sz,e=.row 0 es sz)(hn:h.next<=h1.next)(hz:∀id,Z id->Z1 id/\h1.get id=h.get id)(hzn:∀id,Z1 id->Z id\/h.next<=id)(un:∀id,id<h.next->h1.get id=h.get id)(hnew:∀id L,ow1 id=some L->h.next<=id):
 I4 Z1 (Al os.length ow ow1) h1 (os++ps)/\Keep' ow os (Al os.length ow ow1) (os++ps)/\Ren (fun id=>some (os.length+id)) ow1 ps (Al os.length ow ow1) (os++ps)/\∀d r t,r<os.length->(Al os.length ow ow1 d=some (r::t)↔ow d=some (r::t)):=by
 have hold:∀d,h.next<=d->ow d=none:=fun d hd=>by
  cases e:ow d with
  |none=>rfl
  |some L=>exact absurd (s.live d L e).1 (by omega)
 have hA:∀d r t,r<os.length->(Al os.length ow ow1 d=some (r::t)↔ow d=some (r::t)):=fun d r t hr=>by
  unfold Al;cases e:ow d with
  |some L=>exact .rfl
  | none =>
   simp only
   constructor
   . intro h0
     cases e1:ow1 d with
     |none=>rw[e1]at h0;cases h0
     | some M =>
      rw[e1]at h0;cases M with
      |nil=>cases h0
      |cons r' t'=>cases h0;omega
   . intro h0;cases h0
 have hB:∀d r t,Al os.length ow ow1 d=some ((os.length+r)::t)↔ow1 d=some (r::t):=fun d r t=>by
  unfold Al
  constructor
  . intro h0
    cases e:ow d with
    | some L =>
     rw[e]at h0;cases h0;obtain⟨_,_,r',t',h3,h4⟩:=s.live d _ e;cases h3
     have:=X2 h4;omega
    | none =>
     rw[e]at h0;simp only at h0;cases e1:ow1 d with
     |none=>rw[e1]at h0;cases h0
     | some M =>
      rw[e1]at h0;cases M with
      |nil=>cases h0
      | cons r' t' =>
       simp only[Option.some.injEq,List.cons.injEq]at h0;obtain⟨h5,rfl⟩:=h0;obtain rfl:r'=r:=by omega
       rfl
  grind
 have hC:∀d L,Al os.length ow ow1 d=some L->(∃r t,L=r::t/\r<os.length/\ow d=some L)\/∃r t,L=(os.length+r)::t/\ow1 d=some (r::t):=fun d L h0=>by
  unfold Al at h0;cases e:ow d with
  | some L' =>
   rw[e]at h0;cases h0;obtain⟨_,_,r',t',h3,h4⟩:=s.live d _ e;exact .inl ⟨r',t',h3,X2 h4,rfl⟩
  | none =>
   grind
 have hkeep:Keep' ow os (Al os.length ow ow1) (os++ps):=Mj s.sb fun id hid L hL c=>by
  obtain⟨t,rfl,hr,_⟩:=U4 6 id L hL;grind[X2]
 have hgo:∀d L,ow d=some L->h1.get d=h.get d:=fun d L ho=>un d (s.live d L ho).1
 have hps:∀(r:Nat) e,ps[r]?=some e->isRt (os++ps) (os.length+r)=true:=fun r e hr=>by
  unfold isRt;rw[List.getElem?_append_right (by omega),Nat.add_sub_cancel_left,hr];obtain⟨es,sz,rfl⟩:=hp e (zqc hr);rfl
 have hspl:∀{r:Nat}{e:PO},(os++ps)[r]?=some e->(r<os.length/\os[r]?=some e)\/∃q,r=os.length+q/\ps[q]?=some e:=(by grind)
 refine⟨⟨fun r es sz hr=>?_,fun r k es sz hr hk=>?_,fun r es hr=>?_,fun a b M ha hb=>?_,fun a M ha=>?_,s1.zb,fun j p i o hj=>?_⟩,hkeep,fun id j hj hid=>?_,hA⟩
 . rcases hspl hr with⟨hl,hr⟩|⟨q,rfl,hq⟩
   . obtain⟨x,hx⟩:=s.row r es sz hr
     exact⟨x,hx.reloc hn hz (fun d t=>hA d r t hl) (fun d t hd=>hgo d _ hd)⟩
   . obtain⟨x,hx⟩:=s1.row q es sz hq
     exact⟨x,hx.reloc (zqu _) (fun d hd=>⟨hd,rfl⟩) (fun d t=>hB d q t) (fun d t hd=>rfl)⟩
 . rcases hspl hr with⟨hl,hr⟩|⟨q,rfl,hq⟩
   . obtain⟨c,ces,g⟩:=s.raw r k es sz hr hk
     exact⟨c,ces,(hA c r [] hl).2 g.o,zqt g.lt hn,(hgo c _ g.o).trans g.get,g.sh,fun i a b ha hb o u w hu hw=>(g.vr i a b ha hb o u w hu hw).keep hz hkeep,g.okp,fun a t ha=>g.no a t ((hA a r t hl).1 ha)⟩
   . obtain⟨es',sz',h3⟩:=hp _ (zqc hq)
     grind
 . rcases hspl hr with⟨hl,hr⟩|⟨q,rfl,hq⟩
   . obtain⟨c,ces,g⟩:=s.map r es hr
     exact⟨c,ces,(hA c r [] hl).2 g.o,zqt g.lt hn,(hgo c _ g.o).trans g.get,g.len,fun i a b ha hb=>⟨(g.kv i a b ha hb).1,(g.kv i a b ha hb).2.mono hz⟩,fun a t ha=>g.no a t ((hA a r t hl).1 ha)⟩
   . obtain⟨es',sz',h3⟩:=hp _ (zqc hq)
     cases h3
 . rcases hC a M ha with⟨r,t,rfl,h3,h4⟩|⟨r,t,rfl,h4⟩
   . exact s.inj a b _ h4 ((hA b r t h3).1 hb)
   . exact s1.inj a b _ h4 ((hB b r t).1 hb)
 . rcases hC a M ha with⟨r,t,rfl,h3,h4⟩|⟨r,t,rfl,h4⟩
   . obtain⟨q1,q2,r',t',q3,q4⟩:=s.live a _ h4
     cases q3;refine⟨zqt q1 hn,fun hz1=>?_,r,t,rfl,Vz q4⟩;grind
   . obtain⟨q1,q2,r',t',q3,q4⟩:=s1.live a _ h4
     cases q3;obtain⟨e,he⟩:∃e,ps[r]?=some e:=⟨_,zqa (X2 q4)⟩
     grind
 . rcases hspl hj with⟨hl,hj⟩|⟨q,rfl,hq⟩
   . have:=s.sb j p i o hj;simp;omega
   . obtain⟨es',sz',h3⟩:=hp _ (zqc hq)
     cases h3
 . cases hj
   obtain⟨e,he⟩:∃e,ps[id]?=some e:=⟨_,zqa hid⟩
   refine⟨by simp;omega,fun L' hL'=>?_⟩;have h3:(os++ps)[os.length+id]?=some e:=by grind
   obtain⟨es,sz,rfl⟩:=hp e (zqc he);grind[loP]
theorem wU{f:Nat}{g:List AV->Option (List AV)}(tc:TC E f g)(s:I4 Z ow h K.os)(hx:K.ext<=K.os.length){args argc vs:List AV}(l:VL Z ow h K.os argc args)(e:tcall g args K=some (vs,K')):
 ∃Z' ow' h' vcs,callω E f argc h=.ok (oneOrTup vcs) h'/\I4 Z' ow' h' K'.os/\Keep' ow K.os ow' K'.os/\(∀b,Stp b Z ow h K Z' ow' h' K')/\VL Z' ow' h' K'.os vcs vs:=by
 unfold tcall at e;cases ha:viewX K.os args with
 |none=>rw[ha]at e;cases e
 | some as1 =>
  rw[ha]at e;simp only at e;cases hg:g as1 with
  |none=>rw[hg]at e;cases e
  | some rs =>
   rw[hg]at e;simp only at e;split at e
   . rename_i hc
     obtain⟨hok,hc⟩:=zqz.1 hc;cases e;obtain⟨g1,g2⟩:=wT s l ha;have hrow:∀e∈(openTs 0 rs).2,∃es sz,e=.row 0 es sz:=fun e he=>let⟨es,sz,h1,_⟩:=Gr 0 rs e he;⟨es,sz,h1⟩
     have key:∃(Z':Nat->Prop)(h1:Heap)(ow1:Nat->Option (List Nat))(vcs:List AV),callω E f argc h=.ok (oneOrTup vcs) h1/\I4 Z' ow1 h1 (openTs 0 rs).2/\VL Z' ow1 h1 (openTs 0 rs).2 vcs (openTs 0 rs).1/\
      h.next<=h1.next/\(∀id,Z id->Z' id/\h1.get id=h.get id)/\(∀id,Z' id->Z id\/h.next<=id)/\(∀id,id<h.next->h1.get id=h.get id)/\(∀id L,ow1 id=some L->h.next<=id)/\∃l,h1.tch=l++h.tch/\∀id∈l,h.next<=id:=by
      have hfz:∀(i:Nat) x y,argc[i]?=some x->as1[i]?=some y->∃c,args[i]?=some c/\Fz (Zv Z ow) h x y/\(O2 c=[]->Fz Z h x y):=fun i x y hx hy=>by
       obtain⟨c,hc⟩:∃c,args[i]?=some c:=⟨_,zqa (by have:=(zqd.1 hy).1;omega)⟩
       exact⟨c,hc,g2 i x c y hx hc hy⟩
      by_cases hr:refsL args=[]
      . have hm:∀(args:List AV)(i:Nat) c,refsL args=[]->args[i]?=some c->O2 c=[]:=fun ys=>by
         induction ys with
         |nil=>intro i c _ hc;simp at hc
         | cons a l ih =>
          intro i c h0 hc;have h0:O2 a++refsL l=[]:=h0;obtain⟨h1,h2⟩:=zqo.1 h0;cases i with
          |zero=>cases hc;exact h1
          |succ i=>exact ih i c h2 hc
        obtain ⟨vcs,h1,Z1,ow1,q1,q2,q3,q4,q5,q6,q7,q8,q9⟩:=tc as1 rs hg Z h argc (l.1.trans g1.symm) (fun i x y hx hy=>by
         obtain⟨c,hc,_,h4⟩:=hfz i x y hx hy;exact h4 (hm args i c hr hc)) s.zb
        exact⟨Z1,h1,ow1,vcs,q1,q2,q3,q4,q5,q6,q7,q8,q9⟩
      . have hnf:noFL rs=true:=by
         rcases zkb.1 hc with h|h
         . exact absurd (zqr.1 h) hr
         . exact h
        have hzb:∀id,Zv Z ow id->id<h.next:=fun id hz=>by
         rcases hz with hz|hz
         . exact s.zb id hz
         . cases e:ow id with
           |none=>exact absurd e hz
           |some L=>exact(s.live id L e).1
        obtain ⟨vcs,h1,Z1,ow1,q1,q2,q3,q4,q5,q6,q7,q8,q9⟩:=tc as1 rs hg (Zv Z ow) h argc (l.1.trans g1.symm) (fun i x y hx hy=>by
         obtain⟨c,hc,h4,_⟩:=hfz i x y hx hy;exact h4) hzb
        refine⟨Z,h1,ow1,vcs,q1,q2.noF (fun e he=>?_) (fun a hz=>⟨zqt (s.zb a hz) q4,?_⟩),q3.open_noF rs 0 vcs hok hnf Z,q4,fun id hz=>⟨hz,q7 id (s.zb id hz)⟩,fun id hz=>.inl hz,q7,q8,q9⟩
        . obtain⟨es,sz,h3,k,v,hv,h4⟩:=Gr 0 rs e he
          exact⟨es,sz,h3,Hs (iS hnf v hv) _ h4⟩
        . cases e:ow1 a with
          |none=>rfl
          |some L=>have:=q8 a L e;have:=s.zb a hz;omega
     obtain⟨Z',h1,ow1,vcs,q1,q2,q3,q4,q5,q6,q7,q8,l0,q9,q10⟩:=key;obtain⟨r1,r2,r3,r4⟩:=Zr s q2 hrow q4 q5 q6 q7 q8;rw[Zp rs K.os.length 0];refine⟨Z',_,h1,vcs,q1,r1,r2,fun b=>⟨q4,q5,q6,fun id hl _=>q7 id hl,fun id L ho hl e=>?_,⟨l0,q9,fun id hi=>.inl (q10 id hi)⟩,fun id r t ho hr=>.inl ⟨t,?_⟩,fun r hr _=>hr,rfl,fun j hj c hr=>?_,fun j hj hr=>?_⟩,?_⟩
     . unfold Al at ho
       rw[e]at ho;simp only at ho;cases e1:ow1 id with
       |none=>rw[e1]at ho;cases ho
       |some M=>have:=q8 id M e1;omega
     . unfold Al;rw[ho]
     . exact(r4 c j [] (by omega)).symm
     . unfold isRt at hr|-
       rw[zqp (by omega)]at hr;exact hr
     . have:=Zq K.os.length rs 0 hok
       rw[Nat.add_zero]at this;rw[this];exact q3.ren (fun id hz=>⟨hz,rfl⟩) r3
   . cases e
end
section
variable {E:Env}{P:PE}{R:AV->AV->Prop}{Z Z' Z1:Nat->Prop}{ow ow' ow1:Nat->Option (List Nat)}{h h' h1:Heap}{K K' K1:PK}{os os' ps:List PO}{x y xc yc v k:AV}{L M:List Nat}{nt:Nat}{frc:Tr}{fr:PF}
def Wn(nt:Nat)(l:List XOp):Bool:=l.all fun o=>match o.dst with|none=>true|some t=>decide (t<nt)
def L4(nt:Nat):PC->Bool
 | .skip=>true
 | .reg _ l=>Wn nt l
 | .seq a b=>L4 nt a&&L4 nt b
 | .cond _ a b=>L4 nt a&&L4 nt b
 | .block _ c=>L4 nt c
 | .loop c=>L4 nt c
 | .scope c=>L4 nt c
 | .exit _=>true
 | .ret=>true
 | .pre _ c=>L4 nt c
 | .post _ c=>L4 nt c
 | .rfn _ ps a b=>ps.all (fun p=>decide (p<nt))&&(L4 nt a&&L4 nt b)
 | .itf _ c=>L4 nt c
 | .yreg p0 _ yt p1 yd _ p2=>(decide (yt<nt)&&decide (yd<nt))&&(L4 nt p0&&(L4 nt p1&&L4 nt p2))
 | .dfr _ a _ c=>L4 nt a&&L4 nt c
 | .rcv _ d d2 c=>(decide (d<nt)&&decide (d2<nt))&&L4 nt c
def iT:PC->FM
 | .itf _ c=>.itf c.eri
 | .dfr _ a g c=>.dfr a.pieces g c.er
 | .rcv _ d d2 c=>.rcv d d2 c.er
 |_=>.plain
structure FnOk(E:Env)(f:Nat)(p:PFn):Prop where
 gc:E.gc f=false
 told:E.told f=false
 dlf:E.dlf f=none
 srt:∀args h,srtA E f args h=none
 fn:E.fn f=some ⟨p.code.er,p.nt,p.rs,iT p.code⟩
 nt:p.nt<1048576
 ok:L4 p.nt p.code=true
structure PEok(P:PE):Prop where
 gl:xN P.E
 ti:FV P.E
 T:∀f g,P.T f=some g->TC P.E f g
 fn:∀f p,P.fn f=some p->FnOk P.E f p
def f9(b:Nat)(ow:Nat->Option (List Nat))(os:List PO)(ow':Nat->Option (List Nat))(os':List PO):Prop:=∀id,id<b->∀L',loP os' 6 id=some L'->∃L,loP os 6 id=some L/\∀c,ow c=some L↔ow' c=some L'
theorem f9.refl(b:Nat)(ow:Nat->Option (List Nat))(os:List PO):f9 b ow os ow os:=fun id _ L' hl=>⟨L',hl,fun _=>.rfl⟩
theorem f9.trans{b:Nat}{ow2:Nat->Option (List Nat)}{os2:List PO}(a:f9 b ow os ow' os')(c:f9 b ow' os' ow2 os2):f9 b ow os ow2 os2:=fun id hi L2 hl=>by
 obtain⟨L1,h1,h2⟩:=c id hi L2 hl;obtain⟨L0,h3,h4⟩:=a id hi L1 h1;grind
theorem Keep'.e{b:Nat}(a:Keep' ow os ow' os')(hb:b<=os.length):f9 b ow os ow' os':=fun id hi=>a.2 id (zqt hi hb)
def D1(Z:Nat->Prop)(ow:Nat->Option (List Nat))(h:Heap)(K:PK)(nt:Nat)(r:CRes)(p:PR):Prop:=match p with
 | .ok e fr' K'=>∃Z' ow' h' frc',r=.ok e frc' h'/\I4 Z' ow' h' K'.os/\FrR Z' ow' h' K'.os nt frc' fr'/\Stp K.ext Z ow h K Z' ow' h' K'/\K'.ext<=K'.os.length/\f9 K.ext ow K.os ow' K'.os
 | .pan v K'=>∃Z' ow' h' vc,r=.pan vc h'/\I4 Z' ow' h' K'.os/\VR Z' ow' h' K'.os vc v/\Stp K.ext Z ow h K Z' ow' h' K'/\K'.ext<=K'.os.length/\f9 K.ext ow K.os ow' K'.os
 | .val _ _=>True
 | .itr _ _ _ _=>True
theorem D1.trans{r:CRes}{p:PR}(s:I4 Z ow h K.os)(st:Stp K.ext Z ow h K Z' ow' h' K')(hk:f9 K.ext ow K.os ow' K'.os)(c:D1 Z' ow' h' K' nt r p):D1 Z ow h K nt r p:=by
 cases p with
 |ok e fr' K2=>obtain⟨Z2,ow2,h2,frc2,a1,a2,a3,a4,a5,a6⟩:=c;exact⟨Z2,ow2,h2,frc2,a1,a2,a3,st.trans s a4,a5,hk.trans (by rw[st.ex]at a6;exact a6)⟩
 |pan v K2=>obtain⟨Z2,ow2,h2,vc,a1,a2,a3,a4,a5,a6⟩:=c;exact⟨Z2,ow2,h2,vc,a1,a2,a3,st.trans s a4,a5,hk.trans (by rw[st.ex]at a6;exact a6)⟩
 |val=>trivial
 |itr=>trivial
def zX(Z:Nat->Prop)(ow:Nat->Option (List Nat))(h:Heap)(K:PK)(r:Res)(p:PR):Prop:=match p with
 | .val vs K'=>∃Z' ow' h' vcs,r=.ok (oneOrTup vcs) h'/\I4 Z' ow' h' K'.os/\Keep' ow K.os ow' K'.os/\(∀b,Stp b Z ow h K Z' ow' h' K')/\VL Z' ow' h' K'.os vcs vs
 | .pan v K'=>∃Z' ow' h' vc,r=.pan vc h'/\I4 Z' ow' h' K'.os/\(∀b,Stp b Z ow h K Z' ow' h' K')/\VR Z' ow' h' K'.os vc v/\K'.ext<=K'.os.length/\Keep' ow K.os ow' K'.os
 | .ok _ _ _=>True
 | .itr _ _ _ _=>True
def nX(Z:Nat->Prop)(ow:Nat->Option (List Nat))(h:Heap)(K:PK)(r:Res)(p:PR):Prop:=match p with
 | .val vs K'=>∃Z' ow' h' vcs,r=.ok (oneOrTup vcs) h'/\I4 Z' ow' h' K'.os/\Stp K.ext Z ow h K Z' ow' h' K'/\VL Z' ow' h' K'.os vcs vs/\f9 K.ext ow K.os ow' K'.os/\K'.ext<=K'.os.length
 | .pan v K'=>∃Z' ow' h' vc,r=.pan vc h'/\I4 Z' ow' h' K'.os/\Stp K.ext Z ow h K Z' ow' h' K'/\VR Z' ow' h' K'.os vc v/\K'.ext<=K'.os.length/\f9 K.ext ow K.os ow' K'.os
 | .ok _ _ _=>True
 | .itr _ _ _ _=>True
theorem VL.one{xs ys:List AV}(l:VL Z ow h os xs ys):VR Z ow h os (oneOrTup xs) (oneOrTup ys):=by
 have hl:=l.1
 match xs,ys with
 |[],[]=>exact .tup rfl (fun i x y hx=>by simp at hx)
 |[x],[y]=>exact l.2 0 x y rfl rfl
 |x::x'::xs,y::y'::ys=>exact .tup l.1 l.2
 |[],_::_=>cases hl
 |_::_,[]=>cases hl
 |[_],_::_::_=>simp at hl
 |_::_::_,[_]=>simp at hl
theorem Wo(hx:K.ext<=K.os.length)(hk:Keep' ow K.os ow' K'.os)(he:K'.ext=K.ext):K'.ext<=K'.os.length:=by rw[he];exact zqy hx hk.1
theorem FrR.setd(a:FrR Z ow h os nt frc fr){d:Option Tmp}(hd:(match d with|none=>true|some t=>decide (t<nt))=true)(v:VR Z ow h os x y):FrR Z ow h os nt (setDst d x frc) (setP d y fr):=by
 cases d with
 |none=>exact a
 |some t=>exact a.set (by grind) v
theorem vr_skipped:VR Z ow h os skipped skipped:=.tup rfl (fun i x y hx=>by simp at hx)
theorem lT{w b:Bool}(v:VR Z ow h os x y)(e:j2 w y=some b):j2 w x=some b:=by
 cases y with
 |bool c=>rw[v.isB];exact e
 | tup cs =>
  cases cs with
  | nil=>cases v with
   |fz f=>cases f
   |tup hl _=>grind
  |cons=>cases e
 |_=>cases e
theorem w6{g:Option (Option Tmp×Bool)}{b:Bool}(a:FrR Z ow h os nt frc fr)(e:guardP g fr=some b):guardOk g frc=some b:=by
 cases g with
 |none=>exact e
 | some p =>
  obtain⟨t,w⟩:=p;cases t with
  |none=>exact e
  |some t=>exact lT (a.v t) e
theorem Wp:∀(l:List AV)(i:Nat)(t:Tr)(j:Nat),(∀j,j<i+l.length->t.has j=true)->(Tr.setAll l i t).get j=if i<=j then(match l[j-i]? with|some v=>v|none=>t.get j)else t.get j
 | [],i,t,j,_=>by
  show t.get j=_
  grind
 | v :: l,i,t,j,hh=>by
  show(Tr.setAll l (i+1) (t.set i v)).get j=_
  rw[Wp l (i+1) (t.set i v) j (by grind[Go.AM.Tr.has_set])];by_cases e:i=j
  . subst e
    rw[if_neg (by omega),if_pos (zqu _),Nat.sub_self,Tr.get_set_eq,hh i (by simp),if_pos rfl];rfl
  . rw[Tr.get_set_ne _ _ _ _ e]
    grind
theorem Wq:∀(l:List AV)(i j:Nat),lookP (enterP i l) j=if i<=j then(match l[j-i]? with|some v=>v|none=>.und)else .und
 |[],i,j=>by show AV.und=_;grind
 | v::l,i,j=>by
  show(if i=j then v else lookP (enterP (i+1) l) j)=_
  rw[Wq l (i+1) j];grind
theorem Ou{args argc:List AV}(l:VL Z ow h os argc args)(hn:args.length<=nt)(hb:nt<1048576):FrR Z ow h os nt (Tr.enter nt argc) (enterP 0 args):=by
 have hh:∀j,j<0+argc.length->(Tr.mk 20 nt).has j=true:=fun j hj=>by rw[Tr.has_mk' 20 nt j hb];have:=l.1;simp;omega
 refine⟨fun i=>?_,fun i hi=>?_⟩
 . show VR Z ow h os ((Tr.setAll argc 0 (Tr.mk 20 nt)).get i) _
   rw[Wp argc 0 _ i hh,Wq args 0 i,if_pos (Nat.zero_le _),if_pos (Nat.zero_le _),Nat.sub_zero];cases hy:args[i]? with
   |none=>exact .und
   | some y =>
    obtain⟨x,hx⟩:∃x,argc[i]?=some x:=⟨_,zqa (by have:=(zqd.1 hy).1;have:=l.1;omega)⟩
    rw[hx];exact l.2 i x y hx hy
 . have:∀(l:List AV)(i:Nat)(t:Tr)(j:Nat),(Tr.setAll l i t).has j=t.has j:=fun l=>by
    induction l with
    |nil=>intro i t j;rfl
    |cons v l ih=>simp_all[Tr.setAll,Tr.has_set]
   show(Tr.setAll argc 0 (Tr.mk 20 nt)).has i=true
   grind[Tr.has_mk']
theorem Stp.subs(s:I4 Z ow h K.os)(hx:K.ext<=K.os.length){K':PK}(he:K'.ext=K.ext)(ht:K'.tch=K.tch){ps:List PO}(ho:K'.os=K.os++ps)(hp:∀e∈ps,∃a b c,e=.sub a b c)(b:Nat):Stp b Z ow h K Z ow h K':=by
 refine⟨zqu _,fun id hz=>⟨hz,rfl⟩,fun id hz=>.inl hz,fun _ _ _=>rfl,(by grind),(by simp_all),fun id r t ho _=>.inl ⟨t,ho⟩,fun r hr _=>by grind,he,fun j _ c _=>.rfl,fun j hj hr=>?_⟩;grind[isRt]
theorem dD:∀(rs:List ResultVar){K:PK}{vs:List AV}{K':PK},I4 Z ow h K.os->K.ext<=K.os.length->FrR Z ow h K.os nt frc fr->resP E rs fr K=some (vs,K') ->
 ∃vcs,J5 E rs frc h=some vcs/\I4 Z ow h K'.os/\Keep' ow K.os ow K'.os/\Stp K.ext Z ow h K Z ow h K'/\VL Z ow h K'.os vcs vs
 |[],K,vs,K',s,hx,a,e=>by cases e;exact⟨[],rfl,s,.refl _ _,.refl _ _ _ _ _,.nil⟩
 | .tmp t::l,K,vs,K',s,hx,a,e=>by
  unfold resP at e;cases hr:resP E l fr K with
  |none=>grind
  | some q =>
   obtain⟨us,K2⟩:=q;rw[hr]at e;cases e;obtain⟨vcs,a1,a2,a3,a4,a5⟩:=dD l s hx a hr;refine⟨frc.get t::vcs,?_,a2,a3,a4,.cons ((a.v t).keep (fun _ hz=>⟨hz,rfl⟩) a3) a5⟩;simp_all[A7,J5]
 | .cell c t::l,K,vs,K',s,hx,a,e=>by
  unfold resP at e;cases ht:E.ti t with
  |none=>grind
  | some ti =>
   rw[ht]at e;simp only at e;cases hl:loadP ti (lookP fr c) K with
   |none=>grind
   | some q =>
    obtain⟨v,K1⟩:=q;rw[hl]at e;simp only at e;obtain⟨vc,b1,b2,b3,b4,b5,b6,ps,b7,b8⟩:=iE s (a.v c) hl;cases hr:resP E l fr K1 with
    |none=>grind
    | some q =>
     obtain⟨us,K2⟩:=q;rw[hr]at e;cases e;obtain⟨vcs,a1,a2,a3,a4,a5⟩:=dD l b2 (Wo hx b3 b5) (a.keep (fun _ hz=>⟨hz,rfl⟩) b3) hr;refine⟨vc::vcs,?_,a2,b3.trans a3,(Stp.subs s hx b5 b6 b7 b8 _).trans s a4,.cons (b4.keep (fun _ hz=>⟨hz,rfl⟩) a3) a5⟩;simp_all[A7,J5,Q9]
end
section
variable {E:Env}
theorem Z9{g:Nat->CRes}{r:CRes}{k:Nat->Tr->Heap->IRes}{s:Tr->Heap->IRes}(hg:Lim .bad g r)(hk:∀fr h,Lim .bad (fun n=>k n fr h) (s fr h)):Lim .bad (fun n=>I9 (k n) (g n)) (I9 s r):=
 hg.bind (k:=fun n r=>I9 (k n) r) (s:=fun r=>I9 s r) (fun _=>rfl) rfl (fun _=>by
  cases r with
  | ok e fr h=>cases e with
   |normal=>exact hk fr h
   |_=>exact .const
  |_=>exact .const)
theorem rF{g:Nat->CRes}{r:CRes}{k:Nat->Tr->Heap->CRes}{s:Tr->Heap->CRes}(hg:Lim .bad g r)(hk:∀fr h,Lim .bad (fun n=>k n fr h) (s fr h)):Lim .bad (fun n=>Dw (k n) (g n)) (Dw s r):=
 hg.bind (k:=fun n r=>Dw (k n) r) (s:=fun r=>Dw s r) (fun _=>rfl) rfl (fun _=>by
  cases r with
  | ok e fr h=>cases e with
   |normal=>exact hk fr h
   |_=>exact .const
  |_=>exact .const)
theorem Wr{R:Type}{bad:R}{o:Option Bool}{a b:Nat->R}{x y:R}(ha:Lim bad a x)(hb:Lim bad b y):Lim bad (fun n=>R0 o bad (a n) (b n)) (R0 o bad x y):=by
 cases o with
 |none=>exact .const
 |some t=>cases t;exact hb;exact ha
theorem Mu{R:Type}{bad:R}{t:Bool}{a:Nat->R}{x:R}(ha:Lim bad a x):Lim bad (fun n=>bif t then a n else bad) (bif t then x else bad):=by
 cases t;exact .const;exact ha
theorem wV(p2:XC)(yd:Tmp)(fr:Tr){g:Nat->CRes}{r:CRes}(hg:Lim .bad g r):Lim .bad (fun n=>Ib (ev E n) p2 yd fr (g n)) (Ib (evω E) p2 yd fr r):=
 hg.bind (k:=fun n r=>Ib (ev E n) p2 yd fr r) (s:=fun r=>Ib (evω E) p2 yd fr r) (fun _=>rfl) rfl (fun _=>by
  cases r with
  | ok e fr' h=>cases e with
   |normal=>exact Z9 (ev_lim _ _ _) (fun _ _=>.const)
   |exit i=>exact Z9 (ev_lim _ _ _) (fun _ _=>.const)
   |ret=>exact Z9 (ev_lim _ _ _) (fun _ _=>.const)
  |_=>exact .const)
theorem iU{g:Nat->IRes}{r:IRes}{k:Nat->Option Ex->Tr->Heap->IRes}{s:Option Ex->Tr->Heap->IRes}(hg:Lim .bad g r)(hk:∀p fr h,Lim .bad (fun n=>k n p fr h) (s p fr h)):Lim .bad (fun n=>Kv (k n) (g n)) (Kv s r):=
 hg.bind (k:=fun n r=>Kv (k n) r) (s:=fun r=>Kv s r) (fun _=>rfl) rfl (fun _=>by
  cases r with
  | ok e p fr h=>cases e with
   |normal=>exact hk p fr h
   |_=>exact .const
  |_=>exact .const)
theorem nY{Y:Nat->List AV->Heap->CRes}{Yw:List AV->Heap->CRes}(hY:∀l h,Lim .bad (fun n=>Y n l h) (Yw l h))(nt:Nat):∀(m:Nat)(c:IC)(p:Option Ex)(fr:Tr)(h:Heap),Lim .bad (fun n=>evI E (ev E n) nt (Y n) m c p fr h) (evI E (evω E) nt Yw m c p fr h)
 |0,c,p,fr,h=>.const
 | m + 1,c,p,fr,h=>by
  have hm:=nY hY nt m;show Lim .bad (fun n=>eJ E (ev E n) nt (Y n) (evI E (ev E n) nt (Y n) m) c p fr h) (eJ E (evω E) nt Yw (evI E (evω E) nt Yw m) c p fr h)
  cases c with
  |skip=>exact .const
  |reg x=>exact Z9 (ev_lim x fr h) (fun _ _=>.const)
  | yreg p0 gd yt p1 yd args p2 =>
   refine Z9 (ev_lim p0 fr h) fun fr h=>Wr ?_ ?_
   . cases p with
     |some _=>exact .const
     |none=>exact Mu (Z9 (ev_lim p1 _ h) fun fr h=>Wr (wV p2 yd fr (hY _ h)) .const)
   . exact Z9 (ev_lim p1 _ h) fun fr h=>Wr .const (Z9 (ev_lim p2 _ h) fun _ _=>.const)
  |seq a b=>exact iU (hm a p fr h) (fun p fr h=>hm b p fr h)
  | cond x a b =>
   show Lim .bad (fun n=>(opv E x fr).onBool .bad fun t=>match t with|true=>evI E (ev E n) nt (Y n) m a p fr h|false=>evI E (ev E n) nt (Y n) m b p fr h) ((opv E x fr).onBool .bad fun t=>match t with|true=>evI E (evω E) nt Yw m a p fr h|false=>evI E (evω E) nt Yw m b p fr h)
   cases opv E x fr with
   |bool t=>cases t;exact hm b p fr h;exact hm a p fr h
   |_=>exact .const
  |block id c=>exact(hm c p fr h).bind (k:=fun _ r=>Jl id r) (s:=fun r=>Jl id r) (fun _=>rfl) rfl (fun _=>.const)
  |loop c=>exact iU (hm c p fr h) (fun p fr h=>hm (.loop c) p fr h)
  |exit i=>exact .const
  |ret=>exact .const
theorem lU(ps:List Tmp)(a b:XC)(fr:Tr)(args:List AV)(h:Heap):Lim .bad (fun n=>roundY (ev E n) ps a b fr args h) (roundY (evω E) ps a b fr args h):=
 Mu (rF (ev_lim a _ h) fun fr h=>ev_lim b fr h)
theorem LZ{fr:Tr}{h:Heap}(g:Operand)(ps:List Tmp)(a b:XC):evω E (.rfn g ps a b) fr h=rfnA E (evω E) ps a b fr h (opv E g fr):=f7 (by
 show Lim .bad (fun n=>rfnA E (ev E n) ps a b fr h (opv E g fr)) _
 cases opv E g fr with
 | fn f first caps =>
  cases f with
  | func n =>
   refine Mu ?_;refine Lim.bind (bad:=.bad) (g:=fun n'=>itF E (ev E n') n caps (roundY (ev E n') ps a b fr) h) (k:=fun _ r=>backA fr r) (s:=fun r=>backA fr r) ?_ (fun _=>rfl) rfl (fun _=>.const);unfold itF;cases E.fn n with
   |none=>exact .const
   | some fi =>
    refine Mu ?_;cases fi.mode with
    |itf c=>exact(nY (lU ps a b fr) fi.ntmps itMax c none _ h).bind (k:=fun _ r=>finI r) (s:=fun r=>finI r) (fun _=>rfl) rfl (fun _=>.const)
    |_=>exact .const
  |_=>exact .const
 |_=>exact .const)
theorem wW{f:Nat}{args:List AV}{h:Heap}{c:XC}{n:Nat}{rs:List ResultVar}{m:FM}(hm:m=.plain\/∃ic,m=.itf ic)(hg:E.gc f=false)(ht:E.told f=false)(hd:E.dlf f=none)(hs:∀args h,srtA E f args h=none)(hf:E.fn f=some ⟨c,n,rs,m⟩)(hn:args.length<=n):
 callω E f args h=M0 E rs (evω E c (Tr.enter n args) h):=by
 refine (Hk (E:=E) f args h).unique ?_;have e:∀k,J8 E (ev E k) f args h=M0 E rs (ev E k c (Tr.enter n args) h):=fun k=>by
  unfold J8;rw[hg];show R5 E (ev E k) f args h=_
  unfold R5;rw[ht,hd,hs,hf];show(bif Nat.ble (lenL args) n then Ss E (ev E k) ⟨c,n,rs,m⟩ args h else .bad)=_
  rw[A9,zqv hn];rcases hm with rfl|⟨ic,rfl⟩<;>rfl
 simp only[e];exact(ev_lim (E:=E) c (Tr.enter n args) h).bind (k:=fun _ r=>M0 E rs r) (s:=M0 E rs) (fun _=>rfl) rfl (fun _=>.const)
end
section
variable {E:Env}{P:PE}{R:AV->AV->Prop}{Z Z' Z1:Nat->Prop}{ow ow' ow1:Nat->Option (List Nat)}{h h' h1:Heap}{K K' K1:PK}{os os' ps:List PO}{x y xc yc v k:AV}{L M:List Nat}{nt:Nat}{frc:Tr}{fr:PF}
theorem F2{a:Option PR}{f:PR->Option PR}{r:PR}(e:(a >>= f)=some r):∃q,a=some q/\f q=some r:=by
 cases a with
 |none=>cases e
 |some q=>grind
def s3(l:List XOp):Bool:=l.all fun o=>!o.careful
def CW(b:Nat)(Z:Nat->Prop)(ow:Nat->Option (List Nat))(h:Heap)(os:List PO)(nt:Nat)(frc:Tr)(fr:PF):Prop:=∃Z0 ow0 h0 os0,List.length os0=b/\FrR Z0 ow0 h0 os0 nt frc fr/\(∀id,Z0 id->Z id/\h.get id=h0.get id)/\f9 b ow0 os0 ow os
theorem CW.now{b:Nat}(a:CW b Z ow h os nt frc fr)(hb:b<=os.length):FrR Z ow h os nt frc fr:=by
 obtain⟨Z0,ow0,h0,os0,rfl,a1,a2,a3⟩:=a;exact a1.keep a2 ⟨hb,a3⟩
theorem CW.step{b:Nat}(a:CW b Z ow h os nt frc fr)(hz:∀id,Z id->Z' id/\h'.get id=h.get id)(hk:f9 b ow os ow' os'):CW b Z' ow' h' os' nt frc fr:=by
 obtain⟨Z0,ow0,h0,os0,e,a1,a2,a3⟩:=a;exact⟨Z0,ow0,h0,os0,e,a1,(by grind),a3.trans hk⟩
theorem iV(s:I4 Z ow h K.os)(hx:K.ext<=K.os.length)(sb:Stp K.os.length Z ow h ⟨K.os,K.os.length,[]⟩ Z' ow' h' K1)(b:Nat):Stp b Z ow h K Z' ow' h' ⟨K1.os,K.ext,K1.tch++K.tch⟩:=by
 obtain⟨l0,f1,f2⟩:=sb.th;refine⟨sb.nx,sb.zz,sb.zn,sb.un,sb.uo,⟨l0,f1,fun id hi=>?_⟩,fun id r t ho hr=>?_,(by grind),rfl,fun j hj=>sb.xk j (zqt hj hx),fun j hj=>sb.rd j (zqt hj hx)⟩
 . rcases f2 id hi with h|⟨r,t,q1,q2⟩
   . exact .inl h
   . obtain⟨_,_,r',t',q3,q4⟩:=s.live id _ q1
     grind[X2]
 . rcases sb.mv id r t ho (zqt hr hx)with h|h
   . exact .inl h
   grind
theorem Zs(e1:K1.ext=K.os.length)(e2:K1.ext<=K1.os.length)(e3:f9 K.os.length ow K.os ow' K1.os):Keep' ow K.os ow' K1.os:=⟨by grind,e3⟩
def MA(nt:Nat)(c:RC):Bool:=c.ps.all (fun p=>decide (p<nt))&&(L4 nt c.a&&L4 nt c.b)
theorem Zt:∀(ps:List Tmp){argc args:List AV}{frc:Tr}{fr:PF},VL Z ow h os argc args->ps.all (fun p=>decide (p<nt))=true->FrR Z ow h os nt frc fr->FrR Z ow h os nt (setPs ps argc frc) (setPs' ps args fr)
 |[],_,_,_,_,_,_,a=>a
 |p::ps,[],[],_,_,_,_,a=>a
 | p::ps,x::xs,y::ys,frc,fr,l,hp,a=>by
  obtain⟨h1,h2⟩:=zqz.1 hp;exact Zt ps l.inv.2 h2 (a.set (by grind) l.inv.1)
 |p::ps,[],y::ys,_,_,l,_,_=>by have:=l.1;simp at this
 |p::ps,x::xs,[],_,_,l,_,_=>by have:=l.1;simp at this
def G3(Z:Nat->Prop)(ow:Nat->Option (List Nat))(h:Heap)(K:PK)(nt:Nat)(r:IRes)(p:PR):Prop:=match p with
 | .itr e q fr' K'=>∃Z' ow' h' frc',r=.ok e q frc' h'/\I4 Z' ow' h' K'.os/\FrR Z' ow' h' K'.os nt frc' fr'/\Stp K.ext Z ow h K Z' ow' h' K'/\K'.ext<=K'.os.length/\f9 K.ext ow K.os ow' K'.os
 | .ok _ _ _=>True
 | .val _ _=>True
 | .pan _ _=>True
theorem G3.trans{r:IRes}{p:PR}(s:I4 Z ow h K.os)(st:Stp K.ext Z ow h K Z' ow' h' K')(hk:f9 K.ext ow K.os ow' K'.os)(c:G3 Z' ow' h' K' nt r p):G3 Z ow h K nt r p:=by
 cases p with
 |itr e q fr' K2=>obtain⟨Z2,ow2,h2,frc2,a1,a2,a3,a4,a5,a6⟩:=c;exact⟨Z2,ow2,h2,frc2,a1,a2,a3,st.trans s a4,a5,hk.trans (by rw[st.ex]at a6;exact a6)⟩
 |ok=>trivial
 |val=>trivial
 |pan=>trivial
theorem wX{o:Option PFn}{n:Nat}{ic:PC}(e:itOf o=some (n,ic)):∃x rs i,o=some ⟨.itf x ic,n,rs,i⟩:=by
 unfold itOf at e;grind
theorem FX{n:Nat}{caps:List AV}(v:VR Z ow h os x (.fn (.func n) [] caps)):∃capc,x=.fn (.func n) [] capc/\VL Z ow h os capc caps:=by
 cases v with
 |fz f=>cases f
 | fn h1 _ h3 h4 =>
  rename_i as1 bs _
  have:as1=[]:=zqj h1
  subst this;exact⟨_,rfl,h3,h4⟩
def zY(d:List Nat)(ws:List (PK×(Nat->Option (List Nat)))):Prop:=∀c,rK c d=true->∃p∈ws,∃r t,p.2 c=some (r::t)/\r∈p.1.tch
theorem bodyJ_or(c:PC):(∃x a g d,c=.dfr x a g d)\/(∃x d d2 b,c=.rcv x d d2 b)\/((∀fr K,bodyJ c fr K=.code c fr K)/\(iT c=.plain\/∃ic,iT c=.itf ic)):=by
 cases c<;>first|exact .inl ⟨_,_,_,_,rfl⟩|exact .inr (.inl ⟨_,_,_,_,rfl⟩)|exact .inr (.inr ⟨fun _ _=>rfl,.inl rfl⟩)|exact .inr (.inr ⟨fun _ _=>rfl,.inr ⟨_,rfl⟩⟩)
def MB(P:PE):PJ->PR->Prop
 | .code c fr K,r=>∀nt Z ow h frc,I4 Z ow h K.os->K.ext<=K.os.length->FrR Z ow h K.os nt frc fr->L4 nt c=true->D1 Z ow h K nt (evω P.E c.er frc h) r
 | .ops l fr K,r=>∀nt Z ow h frc,I4 Z ow h K.os->K.ext<=K.os.length->FrR Z ow h K.os nt frc fr->Wn nt l=true->D1 Z ow h K nt (I5 P.E (callω P.E) l frc h) r
 | .opsD l fr K,r=>∀nt Z ow h frc d,I4 Z ow h K.os->K.ext<=K.os.length->FrR Z ow h K.os nt frc fr->Wn nt l=true->(d=[]\/s3 l=true)->D1 Z ow h K nt (evOpsD P.E (callω P.E) l frc h d) r
 | .opsS S l fr K,r=>∀nt Z ow h frc d ws,I4 Z ow h K.os->K.ext<=K.os.length->FrR Z ow h K.os nt frc fr->Wn nt l=true->ws.map Prod.fst=S->zY d ws->(∀p∈ws,Keep' p.2 p.1.os ow K.os)->D1 Z ow h K nt (evOpsD P.E (callω P.E) l frc h d) r
 | .call f args K,r=>∀Z ow h argc,I4 Z ow h K.os->K.ext<=K.os.length->VL Z ow h K.os argc args->zX Z ow h K (callω P.E f argc h) r
 | .body f args K,r=>∀Z ow h argc,I4 Z ow h K.os->K.ext<=K.os.length->VL Z ow h K.os argc args->nX Z ow h K (callω P.E f argc h) r
 | .iter c m ic p fr K,r=>∀nt nt0 Z ow h frc frc0,I4 Z ow h K.os->K.ext<=K.os.length->FrR Z ow h K.os nt frc fr->CW K.ext Z ow h K.os nt0 frc0 c.fr->L4 nt ic=true->MA nt0 c=true->G3 Z ow h K nt (evI P.E (evω P.E) nt (roundY (evω P.E) c.ps c.a.er c.b.er frc0) m ic.eri p frc h) r
 | .dfc _ _ _ _ _,_=>True
 | .rcv _ _ _,_=>False
 | .round c args K,r=>∀nt0 Z ow h frc0 argc,I4 Z ow h K.os->K.ext<=K.os.length->FrR Z ow h K.os nt0 frc0 c.fr->VL Z ow h K.os argc args->MA nt0 c=true->D1 Z ow h K nt0 (roundY (evω P.E) c.ps c.a.er c.b.er frc0 argc h) r
theorem lV(call:E7)(o:XOp)(l:List XOp)(frc:Tr)(h:Heap):I5 E call (o::l) frc h=R0 (guardOk o.gd frc) .bad (X6 o.dst (I5 E call l) frc (evOp E call o.op frc h)) (I5 E call l (setDst o.dst skipped frc) h):=rfl
theorem Qn(call:E7)(o:XOp)(l:List XOp)(frc:Tr)(h:Heap)(d:List Nat):evOpsD E call (o::l) frc h d=R0 (guardOk o.gd frc) .bad (P0 o.dst (evOpsD E call l) (c7 E call l o.late (setDst o.dst skipped frc) h d) frc (evOpD E call o frc h d)) (evOpsD E call l (setDst o.dst skipped frc) h d):=rfl
structure Did2(Z:Nat->Prop)(ow:Nat->Option (List Nat))(h:Heap)(K:PK)(r:Res)(v:AV)(K':PK)(Z':Nat->Prop)(ow':Nat->Option (List Nat))(vc:AV)(h':Heap):Prop where
 r:r=.ok vc h'
 st:I4 Z' ow' h' K'.os
 kp:Keep' ow K.os ow' K'.os
 vr:VR Z' ow' h' K'.os vc v
 sp:∀b,Stp b Z ow h K Z' ow' h' K'
theorem Did'.two{r:Res}{vc:AV}(a:Did' Z ow h K r v K' ow' vc h'):Did2 Z ow h K r v K' Z ow' vc h':=⟨a.r,a.st,a.kp,a.vr,a.sp⟩
theorem Ws{o:XOp}{l:List XOp}(e:Wn nt (o::l)=true):(match o.dst with|none=>true|some t=>decide (t<nt))=true/\Wn nt l=true:=by
 exact zqz.1 e
theorem Ov{o:XOp}{l:List XOp}(e:s3 (o::l)=true):o.careful=false/\s3 l=true:=by
 grind[s3]
theorem lW(r:Option Nat):readOk r []=true:=by cases r<;>rfl
theorem wY{call:E7}{o:XOp}{d:List Nat}{l:List XOp}(hq:o.quiet=false)(hd:d=[]\/s3 (o::l)=true):evOpD E call o frc h d=t8 d (evOp E call o.op frc h):=by
 unfold evOpD;rw[hq];show(bif o.careful then _ else _)=_
 cases hc:o.careful with
 |false=>rfl
 | true =>
  rcases hd with rfl|hd
  . rw[lW];rfl
  . rw[(Ov hd).1]at hc;cases hc
theorem Ow{b:Nat}(sb:Stp b Z ow {h with tch:=[]} {K with tch:=[]} Z' ow' h1 K1):Stp b Z ow h K Z' ow' {h1 with tch:=Bn (I6 h.next h1.tch) h.tch} {K1 with tch:=K1.tch++K.tch}:=by
 obtain⟨l0,f1,f2⟩:=sb.th;refine⟨sb.nx,sb.zz,sb.zn,sb.un,sb.uo,⟨I6 h.next h1.tch,by grind[Gv],fun id hi=>?_⟩,fun id r t ho hr=>?_,(by grind),sb.ex,sb.xk,sb.rd⟩
 . grind[j5]
 . rcases sb.mv id r t ho hr with h|h
   . exact .inl h
   grind
theorem Zu{call:E7}{o:XOp}{d:List Nat}{l:List XOp}(hq:o.quiet=true)(s:I4 Z ow h K.os)(hd:d=[]\/s3 (o::l)=true){r:AV}{Z':Nat->Prop}{ow':Nat->Option (List Nat)}{vc:AV}{h1:Heap}
 (a:Did2 Z ow {h with tch:=[]} {K with tch:=[]} (evOp E call o.op frc {h with tch:=[]}) v K1 Z' ow' vc h1)(ht:Cn K.os.length l K1=true):
 ∃h2 d2,evOpD E call o frc h d=.ok vc h2 d2/\Did2 Z ow h K (.ok vc h2) v {K1 with tch:=K1.tch++K.tch} Z' ow' vc h2/\(d2=[]\/s3 l=true):=by
 have e:evOpD E call o frc h d=.ok vc {h1 with tch:=Bn (I6 h.next h1.tch) h.tch} (Bn (I6 h.next h1.tch) d):=by
  unfold evOpD;rw[hq];show x4 h.next h.tch d (evOp E call o.op frc {h with tch:=[]})=_
  rw[a.r];rfl
 refine⟨_,_,e,⟨rfl,a.st.congr rfl (fun _=>rfl),a.kp,a.vr.keep (fun _ hz=>⟨hz,rfl⟩) (.refl _ _),fun b=>?_⟩,?_⟩
 . exact Ow (a.sp b)
 . unfold Cn at ht
   rcases zkb.1 ht with ht|ht
   . rcases hd with rfl|hd
     . left
       obtain⟨l0,f1,f2⟩:=(a.sp K.os.length).th
       have:I6 h.next h1.tch=[]:=Qj fun i hi=>by
        rw[f1]at hi;have hi:i∈l0:=by grind
        rcases f2 i hi with h|⟨r,t,q1,q2⟩
        . exact h
        . obtain⟨_,_,r',t',q3,q4⟩:=s.live i _ q1
          grind[X2]
       rw[this];rfl
     . exact .inr (Ov hd).2
   . exact .inr ht
theorem dE(gl:xN E)(ti:FV E){call:E7}:∀(l:List XOp){s:List Bool}{Z:Nat->Prop}{ow:Nat->Option (List Nat)}{h:Heap}{K:PK}{frc:Tr}{fr:PF}{d:List Nat},I4 Z ow h K.os->K.ext<=K.os.length->FrR Z ow h K.os nt frc fr->Wn nt l=true->(d=[]\/s3 l=true)->Vu E l s fr K=true->c7 E call l s frc h d=true:=fun _ _ _ _ _ _ _ _ _ _ _ _ _ _ e=>by cases e
theorem dF{os:List PO}{id:Nat}(h:CS os id=true):loP os 6 id=some [id]:=by
 grind[CS,loP]
theorem zZ{id i off:Nat}(v:VR Z ow h os x (.ptr id i off)):∃c,x=.ptr c i off/\∀L,loP os 6 id=some L->ow c=some L:=by
 cases v with
 |fz f=>cases f
 |ptr h1 h2=>grind
theorem dG{i:Nat}:∀{l:List Nat},rK i l=true->i∈l
 |[],h=>by cases h
 | j::l,h=>by
  have h:(bif Nat.beq j i then true else rK i l)=true:=h;cases e:Nat.beq j i with
  |true=>simp_all
  |false=>rw[e]at h;exact zqi.2 (.inr (dG h))
theorem dH{i:Nat}:∀{l:List Nat},i∈l->rK i l=true
 | j :: l,h=>by
  show(bif Nat.beq j i then true else rK i l)=true
  rcases zqi.1 h with rfl|h
  . rw[zqw];rfl
  . cases Nat.beq j i with
    |true=>rfl
    |false=>exact dH h
theorem Kj{call:E7}{o:XOp}{d:List Nat}{l:List XOp}(hq:o.quiet=true)(s:I4 Z ow h K.os)(hd:d=[]\/s3 (o::l)=true){r:AV}{Z':Nat->Prop}{ow':Nat->Option (List Nat)}{vc:AV}{h1:Heap}
 (a:Did2 Z ow {h with tch:=[]} {K with tch:=[]} (evOp E call o.op frc {h with tch:=[]}) v K1 Z' ow' vc h1):
 ∃h2 d2,evOpD E call o frc h d=.ok vc h2 d2/\Did2 Z ow h K (.ok vc h2) v {K1 with tch:=K1.tch++K.tch} Z' ow' vc h2/\(d=[]->∀c,rK c d2=true->∃r t,ow c=some (r::t)/\r∈K1.tch):=by
 have e:evOpD E call o frc h d=.ok vc {h1 with tch:=Bn (I6 h.next h1.tch) h.tch} (Bn (I6 h.next h1.tch) d):=by
  unfold evOpD;rw[hq];show x4 h.next h.tch d (evOp E call o.op frc {h with tch:=[]})=_
  rw[a.r];rfl
 refine⟨_,_,e,⟨rfl,a.st.congr rfl (fun _=>rfl),a.kp,a.vr.keep (fun _ hz=>⟨hz,rfl⟩) (.refl _ _),fun b=>?_⟩,?_⟩
 . exact Ow (a.sp b)
 . rintro rfl c hc
   have hc:=dG hc;rw[Gv,zql]at hc;obtain⟨hc1,hc2⟩:=j5.1 hc;obtain⟨_,_,r',t',q3,q4⟩:c<h.next/\¬Z c/\∃r t,(∃L,ow c=some L/\L=r::t)/\isRt K.os r=true:=by
    obtain⟨l0,f1,f2⟩:=(a.sp 0).th;rw[f1]at hc1;have hc1:c∈l0:=by grind
    rcases f2 c hc1 with h|⟨r,t,h1,_⟩
    . grind
    . obtain⟨p1,p2,r',t',p3,p4⟩:=s.live c _ h1
      grind
   obtain⟨L,q5,rfl⟩:=q3;obtain⟨l0,f1,f2⟩:=(a.sp K.os.length).th;grind[X2]
theorem iW{n:Nat}{l:List XOp}{K1:PK}(ht:¬Cn n l K1=true):¬s3 l=true:=fun e=>ht (zkb.2 (.inr e))
theorem wZ(gl:xN E){call:E7}{o:XOp}{d:List Nat}{ws:List (PK×(Nat->Option (List Nat)))}(a:FrR Z ow h K.os nt frc fr)(hq:o.quiet=false)(sf:zY d ws)(kp:∀p∈ws,Keep' p.2 p.1.os ow K.os)(hc:cX E (ws.map Prod.fst) K fr o=true):evOpD E call o frc h d=t8 d (evOp E call o.op frc h):=by
 unfold evOpD;rw[hq];show(bif o.careful then _ else _)=_
 cases hcf:o.careful with
 |false=>rfl
 | true =>
  have:readOk (readO E o.op frc) d=true:=by
   cases hro:readO E o.op frc with
   |none=>rfl
   | some c =>
    show(!(rK c d))=true
    cases hin:rK c d with
    |false=>rfl
    | true =>
     obtain⟨p,hp,r0,t0,e1,e2⟩:=sf c hin;have hc:=zqf.1 hc p.1 (List.mem_map.2 ⟨p,hp,rfl⟩);have kp:=kp p hp;unfold CT at hc;rw[hcf]at hc;dsimp only at hc;cases hop:o.op<;>rw[hop]at hc hro<;>first|(cases hc;done)|skip
     rename_i t x
     change iD K.os p.1 (opvP E x fr)=true at hc
     have hv:=Bt gl a x;cases hox:opvP E x fr<;>rw[hox]at hc hv<;>first|(cases hc;done)|skip
     rename_i id i off;obtain⟨k1,k2⟩:=zqz.1 hc;obtain⟨k2,k3⟩:=zqz.1 k2;have k2:¬id∈p.1.tch:=by simpa using k2
     obtain⟨c',hcc,how⟩:=zZ hv
     change n8 (opv E x frc)=some c at hro
     rw [hcc]at hro;cases hro;have hlt:id<p.1.os.length:=by
      unfold CS at k1;split at k1
      . rename_i e;exact(zqd.1 e).1
      . cases k1
     obtain⟨L,q1,q2⟩:=kp.2 id hlt [id] (dF k3);rw[dF k1]at q1;cases q1;have w0:=(q2 c).2 (how [id] (dF k3));rw[w0]at e1;cases e1;exact absurd e2 k2
  rw[this];rfl
theorem lX{call:E7}{o:XOp}{d:List Nat}{ws:List (PK×(Nat->Option (List Nat)))}(hq:o.quiet=true)(s:I4 Z ow h K.os)(sf:zY d ws){Z':Nat->Prop}{ow':Nat->Option (List Nat)}{vc:AV}{h1:Heap}
 (a:Did2 Z ow {h with tch:=[]} {K with tch:=[]} (evOp E call o.op frc {h with tch:=[]}) v K1 Z' ow' vc h1):
 ∃h2 d2,evOpD E call o frc h d=.ok vc h2 d2/\Did2 Z ow h K (.ok vc h2) v {K1 with tch:=K1.tch++K.tch} Z' ow' vc h2/\zY d2 ((⟨K.os,0,K1.tch⟩,ow)::ws):=by
 have e:evOpD E call o frc h d=.ok vc {h1 with tch:=Bn (I6 h.next h1.tch) h.tch} (Bn (I6 h.next h1.tch) d):=by
  unfold evOpD;rw[hq];show x4 h.next h.tch d (evOp E call o.op frc {h with tch:=[]})=_
  rw[a.r];rfl
 have e0:evOpD E call o frc h []=.ok vc {h1 with tch:=Bn (I6 h.next h1.tch) h.tch} (Bn (I6 h.next h1.tch) []):=by
  unfold evOpD;rw[hq];show x4 h.next h.tch [] (evOp E call o.op frc {h with tch:=[]})=_
  rw[a.r];rfl
 obtain⟨h2,d2,e2,dd,hr⟩:=Kj (l:=[]) hq s (.inl rfl) (r:=v) a;rw[e0]at e2;cases e2;refine⟨_,_,e,dd,fun c hc=>?_⟩;have hc:=dG hc;rw[Gv]at hc;rcases zqk.1 hc with hc|hc
 . obtain⟨r,t,k1,k2⟩:=hr rfl c (by rw[Gv,zql];exact dH hc)
   exact⟨_,zqg ..,r,t,k1,k2⟩
 . obtain⟨p,hp,k⟩:=sf c (dH hc)
   exact⟨p,List.mem_cons_of_mem _ hp,k⟩
theorem D1.next{r:CRes}{p:PR}(s:I4 Z ow h K.os)(hx:K.ext<=K.os.length){r0:Res}{vc:AV}(a:Did2 Z ow h K r0 v K' Z' ow' vc h')(H:I4 Z' ow' h' K'.os->K'.ext<=K'.os.length->D1 Z' ow' h' K' nt r p):D1 Z ow h K nt r p:=
 (H a.st (Wo hx a.kp (a.sp 0).ex)).trans s (a.sp _) (a.kp.e hx)
theorem ZB(hb:∀id,Z id->id<h.next):I4 Z (fun _=>none) h [] where
 row r es sz hr:=by simp at hr
 raw r k es sz hr:=by simp at hr
 map r es hr:=by simp at hr
 inj a b L ha:=by cases ha
 live a L ha:=by cases ha
 zb:=hb
 sb j p i o hj:=by simp at hj
theorem MC(hP:PEok P):∀(j:PJ)(r:PR),evP P j=some r->MB P j r:=by
 refine evP.partial_correctness P (MB P) fun ev ih j r hr=>?_
 cases j with
 | code c fr K =>
  intro nt Z ow h frc s hx a hc;cases c with
  |skip=>cases hr;exact⟨Z,ow,h,frc,FH,s,a,.refl _ _ _ _ _,hx,.refl _ _ _⟩
  |exit i=>cases hr;exact⟨Z,ow,h,frc,FJ i,s,a,.refl _ _ _ _ _,hx,.refl _ _ _⟩
  |ret=>cases hr;exact⟨Z,ow,h,frc,LI,s,a,.refl _ _ _ _ _,hx,.refl _ _ _⟩
  | reg d l =>
   cases d with
   |false=>show D1 _ _ _ _ _ (evω P.E (.reg false l) frc h) r;rw[LK];exact ih (.ops l fr K) r hr nt Z ow h frc s hx a hc
   |true=>show D1 _ _ _ _ _ (evω P.E (.reg true l) frc h) r;rw[FK];exact ih (.opsD l fr K) r hr nt Z ow h frc [] s hx a hc (.inl rfl)
  | seq c1 c2 =>
   obtain⟨hc1,hc2⟩:=zqz.1 hc;obtain⟨q,h1,h2⟩:=F2 hr;have k1:=ih _ _ h1 nt Z ow h frc s hx a hc1;show D1 _ _ _ _ _ (evω P.E (.seq c1.er c2.er) frc h) r
   rw[LJ];cases q with
   |val=>cases h2
   |itr=>cases h2
   |pan v K'=>cases h2;obtain⟨Z',ow',h',vc,e,b2,b3,b4,b5⟩:=k1;rw[e];exact⟨Z',ow',h',vc,rfl,b2,b3,b4,b5⟩
   | ok e fr' K' =>
    obtain⟨Z',ow',h',frc',e1,b2,b3,b4,b5,b6⟩:=k1;rw[e1];cases e with
    |normal=>exact(ih _ _ h2 nt Z' ow' h' frc' b2 b5 b3 hc2).trans s b4 b6
    |exit i=>cases h2;exact⟨Z',ow',h',frc',rfl,b2,b3,b4,b5,b6⟩
    |ret=>cases h2;exact⟨Z',ow',h',frc',rfl,b2,b3,b4,b5,b6⟩
  | cond x c1 c2 =>
   obtain⟨hc1,hc2⟩:=zqz.1 hc;show D1 _ _ _ _ _ (evω P.E (.cond x c1.er c2.er) frc h) r
   rw[FL];have hv:=Bt hP.gl a x
   change (match opvP P.E x fr with | .bool true=>ev (.code c1 fr K) | .bool false=>ev (.code c2 fr K)|_=>none)=some r at hr
   cases ho:opvP P.E x fr<;>rw[ho]at hr hv<;>first|(cases hr;done)|skip
   rename_i b;rw[hv.isB];cases b with
   |true=>exact ih _ _ hr nt Z ow h frc s hx a hc1
   |false=>exact ih _ _ hr nt Z ow h frc s hx a hc2
  | block i c =>
   obtain⟨q,h1,h2⟩:=F2 hr;have k1:=ih _ _ h1 nt Z ow h frc s hx a hc;show D1 _ _ _ _ _ (evω P.E (.block i c.er) frc h) r
   rw[zM];cases q with
   |val=>cases h2
   |itr=>cases h2
   |pan v K'=>cases h2;obtain⟨Z',ow',h',vc,e,b2,b3,b4,b5⟩:=k1;rw[e];exact⟨Z',ow',h',vc,rfl,b2,b3,b4,b5⟩
   | ok e fr' K' =>
    obtain⟨Z',ow',h',frc',e1,b2,b3,b4,b5,b6⟩:=k1;rw[e1];cases e with
    |normal=>cases h2;exact⟨Z',ow',h',frc',rfl,b2,b3,b4,b5,b6⟩
    | exit j =>
     change (if j=i then pure (PR.ok .normal fr' K')else pure (PR.ok (.exit j) fr' K'))=some r at h2
     show D1 _ _ _ _ _ (bif Nat.beq j i then .ok .normal frc' h' else .ok (.exit j) frc' h') r
     by_cases e:j=i
     . rw[if_pos e]at h2;cases h2
       rw[e,zqw];exact⟨Z',ow',h',frc',rfl,b2,b3,b4,b5,b6⟩
     . rw[if_neg e]at h2;cases h2
       rw[show Nat.beq j i=false from(by cases hb:Nat.beq j i with|false=>rfl|true=>exact absurd (zqx hb) e)];exact⟨Z',ow',h',frc',rfl,b2,b3,b4,b5,b6⟩
    |ret=>cases h2;exact⟨Z',ow',h',frc',rfl,b2,b3,b4,b5,b6⟩
  | loop c =>
   obtain⟨q,h1,h2⟩:=F2 hr;have k1:=ih _ _ h1 nt Z ow h frc s hx a hc;show D1 _ _ _ _ _ (evω P.E (.loop c.er) frc h) r
   rw[FN];cases q with
   |val=>cases h2
   |itr=>cases h2
   |pan v K'=>cases h2;obtain⟨Z',ow',h',vc,e,b2,b3,b4,b5⟩:=k1;rw[e];exact⟨Z',ow',h',vc,rfl,b2,b3,b4,b5⟩
   | ok e fr' K' =>
    obtain⟨Z',ow',h',frc',e1,b2,b3,b4,b5,b6⟩:=k1;rw[e1];cases e with
    |normal=>exact(ih _ _ h2 nt Z' ow' h' frc' b2 b5 b3 hc).trans s b4 b6
    |exit i=>cases h2;exact⟨Z',ow',h',frc',rfl,b2,b3,b4,b5,b6⟩
    |ret=>cases h2;exact⟨Z',ow',h',frc',rfl,b2,b3,b4,b5,b6⟩
  |scope c=>show D1 _ _ _ _ _ (evω P.E (.scope c.er) frc h) r;rw[zN];exact ih _ _ hr nt Z ow h frc s hx a hc
  | pre keep c =>
   obtain⟨ow',b1,b2,b3,b4,b5⟩:=Mr s a keep;exact(ih _ _ hr nt Z ow' h frc b1 b4 b2 hc).trans s b3 (fun id hi=>b5 id hi (zqt hi hx))
  | post keep c =>
   obtain⟨q,h1,h2⟩:=F2 hr;have k1:=ih _ _ h1 nt Z ow h frc s hx a hc;show D1 _ _ _ _ _ (evω P.E c.er frc h) r
   cases q with
   |val=>cases h2
   |itr=>cases h2
   | pan v K' =>
    cases h2;obtain⟨Z',ow',h',vc,e1,b2,b3,b4,b5,b6⟩:=k1;obtain⟨ow2,c1,c2,c3,c4,c5⟩:=Mr b2 (Ou (nt:=1) (.cons b3 .nil) (zqu _) (by decide)) [0];exact⟨Z',ow2,h',vc,e1,c1,c2.v 0,b4.trans s c3,c4,b6.trans (fun id hi=>c5 id (by rw[b4.ex];exact hi) (zqt (by rw[b4.ex];exact hi) b5))⟩
   | ok e fr' K' =>
    cases e with
    | normal =>
     cases h2;obtain⟨Z',ow',h',frc',e1,b2,b3,b4,b5,b6⟩:=k1;obtain⟨ow2,c1,c2,c3,c4,c5⟩:=Mr b2 b3 keep;exact⟨Z',ow2,h',frc',e1,c1,c2,b4.trans s c3,c4,b6.trans (fun id hi=>c5 id (by rw[b4.ex];exact hi) (zqt (by rw[b4.ex];exact hi) b5))⟩
    |exit i=>cases h2;exact k1
    |ret=>cases h2;exact k1
  |itf=>cases hr
  |yreg=>cases hr
  |dfr=>cases hr
  |rcv=>cases hr
  | rfn g ps x y =>
   obtain⟨hps,hc2⟩:=zqz.1 hc;show D1 _ _ _ _ _ (evω P.E (.rfn g ps x.er y.er) frc h) r
   rw[LZ];dsimp only at hr;have hv:=Bt hP.gl a g;split at hr
   . rename_i n caps ho
     rw[ho]at hv;obtain⟨capc,hvc,hl⟩:=FX hv;rw[hvc];split at hr
     . rename_i nf ic hit
       obtain⟨xc,rs,ii,hf⟩:=wX hit;have F:=hP.fn n _ hf;split at hr
       . rename_i hlen
         obtain ⟨q,h1,h2⟩:=F2 hr;have hl':VL Z ow h K.os (.any::capc) (.any::caps):=.cons .any hl;have k1:=ih _ _ h1 nf nt Z ow h _ frc s (zqu _) (Ou hl' (by simpa using hlen) F.nt) ⟨Z,ow,h,K.os,rfl,a,fun _ hz=>⟨hz,rfl⟩,.refl _ _ _⟩ F.ok hc;have e0:rfnA P.E (evω P.E) ps x.er y.er frc h (.fn (.func n) [] capc)=backA frc (finI (evI P.E (evω P.E) nf (roundY (evω P.E) ps x.er y.er frc) itMax ic.eri none (Tr.enter nf (.any::capc)) h)):=by
          show backA frc (itF P.E (evω P.E) n capc (roundY (evω P.E) ps x.er y.er frc) h)=_
          unfold itF;rw[F.fn];show backA frc (bif Nat.ble (Nat.succ (lenL capc)) nf then _ else _)=_
          rw[A9,hl.1,zqv hlen];rfl
         rw [e0];have fin:∀{e:Ex}{p:Option Ex}{fr1:PF}{K1:PK},e=.normal\/e=.ret->G3 Z ow h ⟨K.os,K.os.length,[]⟩ nf (evI P.E (evω P.E) nf (roundY (evω P.E) ps x.er y.er frc) itMax ic.eri none (Tr.enter nf (.any::capc)) h) (.itr e p fr1 K1)->D1 Z ow h K nt (backA frc (finI (evI P.E (evω P.E) nf (roundY (evω P.E) ps x.er y.er frc) itMax ic.eri none (Tr.enter nf (.any::capc)) h))) (.ok (rL p) fr ⟨K1.os,K.ext,K1.tch++K.tch⟩):=fun{e p fr1 K1} he o=>by
          obtain⟨Z',ow',h',frc',e1,b2,b3,b4,b5,b6⟩:=o;have kp:Keep' ow K.os ow' K1.os:=Zs b4.ex b5 b6;refine⟨Z',ow',h',frc,?_,b2,a.keep b4.zz kp,iV s hx b4 _,zqy hx kp.1,kp.e hx⟩;rw[e1];rcases he with rfl|rfl<;>rfl
         cases q with
         |ok=>cases h2
         |val=>cases h2
         |pan=>cases h2
         | itr e p fr1 K1 =>
          cases e with
          |exit=>cases h2
          |normal=>cases h2;exact fin (.inl rfl) k1
          |ret=>cases h2;exact fin (.inr rfl) k1
       . cases hr
     . cases hr
   . cases hr
 |rcv=>cases hr
 |dfc=>trivial
 | round c args K =>
  intro nt0 Z ow h frc0 argc s hx a hl hc;obtain⟨hps,hc2⟩:=zqz.1 hc;obtain⟨hca,hcb⟩:=zqz.1 hc2;dsimp only at hr;split at hr
  . rename_i hlen
    obtain⟨q,h1,h2⟩:=F2 hr;have k1:=ih _ _ h1 nt0 Z ow h _ s hx (Zt c.ps hl hps a) hca;unfold roundY;rw[A9,aG,hl.1,hlen,zqw];show D1 _ _ _ _ _ (Dw (evω P.E c.b.er) (evω P.E c.a.er (setPs c.ps argc frc0) h)) r
    cases q with
    |val=>cases h2
    |pan=>cases h2
    |itr=>cases h2
    | ok e fr' K' =>
     cases e with
     |exit=>cases h2
     |ret=>cases h2
     | normal =>
      obtain⟨Z',ow',h',frc',e1,b2,b3,b4,b5,b6⟩:=k1;rw[e1];exact(ih _ _ h2 nt0 Z' ow' h' frc' b2 b5 b3 hcb).trans s b4 b6
  . cases hr
 | iter c m ic p fr K =>
  intro nt nt0 Z ow h frc frc0 s hx a B hc hrc;cases m with
  |zero=>cases hr
  | succ m =>
   cases ic with
   |skip=>cases hr;exact⟨Z,ow,h,frc,rfl,s,a,.refl _ _ _ _ _,hx,.refl _ _ _⟩
   |scope=>cases hr
   |rfn=>cases hr
   |itf=>cases hr
   |dfr=>cases hr
   |rcv=>cases hr
   |exit i=>cases hr;exact⟨Z,ow,h,frc,rfl,s,a,.refl _ _ _ _ _,hx,.refl _ _ _⟩
   |ret=>cases hr;exact⟨Z,ow,h,frc,rfl,s,a,.refl _ _ _ _ _,hx,.refl _ _ _⟩
   | reg d l =>
    obtain⟨q,h1,h2⟩:=F2 hr;have k1:=ih _ _ h1 nt Z ow h frc s hx a hc;show G3 _ _ _ _ _ (I9 (n9 p) (evω P.E (.reg d l) frc h)) r
    cases q with
    |val=>cases h2
    |pan=>cases h2
    |itr=>cases h2
    | ok e fr' K' =>
     cases e with
     |exit=>cases h2
     |ret=>cases h2
     | normal =>
      cases h2;obtain⟨Z',ow',h',frc',e1,b2,b3,b4,b5,b6⟩:=k1;have e1:evω P.E (.reg d l) frc h=.ok .normal frc' h':=e1;rw[e1];exact⟨Z',ow',h',frc',rfl,b2,b3,b4,b5,b6⟩
   | seq c1 c2 =>
    obtain⟨hc1,hc2⟩:=zqz.1 hc;obtain⟨q,h1,h2⟩:=F2 hr;have k1:=ih _ _ h1 nt nt0 Z ow h frc frc0 s hx a B hc1 hrc;show G3 _ _ _ _ _ (Kv (evI P.E (evω P.E) nt (roundY (evω P.E) c.ps c.a.er c.b.er frc0) m c2.eri) (evI P.E (evω P.E) nt (roundY (evω P.E) c.ps c.a.er c.b.er frc0) m c1.eri p frc h)) r
    cases q with
    |val=>cases h2
    |pan=>cases h2
    |ok=>cases h2
    | itr e p1 fr' K' =>
     obtain⟨Z',ow',h',frc',e1,b2,b3,b4,b5,b6⟩:=k1;rw[e1];cases e with
     |exit i=>cases h2;exact⟨Z',ow',h',frc',rfl,b2,b3,b4,b5,b6⟩
     |ret=>cases h2;exact⟨Z',ow',h',frc',rfl,b2,b3,b4,b5,b6⟩
     |normal=>exact(ih _ _ h2 nt nt0 Z' ow' h' frc' frc0 b2 b5 b3 (by rw[b4.ex];exact B.step b4.zz b6) hc2 hrc).trans s b4 b6
   | loop c1 =>
    obtain⟨q,h1,h2⟩:=F2 hr;have k1:=ih _ _ h1 nt nt0 Z ow h frc frc0 s hx a B hc hrc;show G3 _ _ _ _ _ (Kv (evI P.E (evω P.E) nt (roundY (evω P.E) c.ps c.a.er c.b.er frc0) m (.loop c1.eri)) (evI P.E (evω P.E) nt (roundY (evω P.E) c.ps c.a.er c.b.er frc0) m c1.eri p frc h)) r
    cases q with
    |val=>cases h2
    |pan=>cases h2
    |ok=>cases h2
    | itr e p1 fr' K' =>
     obtain⟨Z',ow',h',frc',e1,b2,b3,b4,b5,b6⟩:=k1;rw[e1];cases e with
     |exit i=>cases h2;exact⟨Z',ow',h',frc',rfl,b2,b3,b4,b5,b6⟩
     |ret=>cases h2;exact⟨Z',ow',h',frc',rfl,b2,b3,b4,b5,b6⟩
     |normal=>exact(ih _ _ h2 nt nt0 Z' ow' h' frc' frc0 b2 b5 b3 (by rw[b4.ex];exact B.step b4.zz b6) hc hrc).trans s b4 b6
   | cond x c1 c2 =>
    obtain⟨hc1,hc2⟩:=zqz.1 hc;show G3 _ _ _ _ _ ((opv P.E x frc).onBool .bad fun t=>match t with|true=>evI P.E (evω P.E) nt (roundY (evω P.E) c.ps c.a.er c.b.er frc0) m c1.eri p frc h|false=>evI P.E (evω P.E) nt (roundY (evω P.E) c.ps c.a.er c.b.er frc0) m c2.eri p frc h) r
    have hv:=Bt hP.gl a x;dsimp only at hr;cases ho:opvP P.E x fr<;>rw[ho]at hr hv<;>first|(cases hr;done)|skip
    rename_i b;rw[hv.isB];cases b with
    |true=>exact ih _ _ hr nt nt0 Z ow h frc frc0 s hx a B hc1 hrc
    |false=>exact ih _ _ hr nt nt0 Z ow h frc frc0 s hx a B hc2 hrc
   | block i c1 =>
    obtain⟨q,h1,h2⟩:=F2 hr;have k1:=ih _ _ h1 nt nt0 Z ow h frc frc0 s hx a B hc hrc;show G3 _ _ _ _ _ (Jl i (evI P.E (evω P.E) nt (roundY (evω P.E) c.ps c.a.er c.b.er frc0) m c1.eri p frc h)) r
    cases q with
    |val=>cases h2
    |pan=>cases h2
    |ok=>cases h2
    | itr e p1 fr' K' =>
     obtain⟨Z',ow',h',frc',e1,b2,b3,b4,b5,b6⟩:=k1;rw[e1];cases e with
     |normal=>cases h2;exact⟨Z',ow',h',frc',rfl,b2,b3,b4,b5,b6⟩
     |ret=>cases h2;exact⟨Z',ow',h',frc',rfl,b2,b3,b4,b5,b6⟩
     | exit j =>
      change (if j=i then pure (PR.itr .normal p1 fr' K')else pure (PR.itr (.exit j) p1 fr' K'))=some r at h2
      show G3 _ _ _ _ _ (bif Nat.beq j i then .ok .normal p1 frc' h' else .ok (.exit j) p1 frc' h') r
      by_cases e:j=i
      . rw[if_pos e]at h2;cases h2
        rw[e,zqw];exact⟨Z',ow',h',frc',rfl,b2,b3,b4,b5,b6⟩
      . rw[if_neg e]at h2;cases h2
        rw[show Nat.beq j i=false from(by cases hb:Nat.beq j i with|false=>rfl|true=>exact absurd (zqx hb) e)];exact⟨Z',ow',h',frc',rfl,b2,b3,b4,b5,b6⟩
   | pre keep c1 =>
    obtain⟨ow',b1,b2,b3,b4,b5⟩:=Mr s a keep;have kk:f9 K.ext ow K.os ow' (N0 keep fr K).2.os:=fun id hi=>b5 id hi (zqt hi hx)
    exact(ih _ _ hr nt nt0 Z ow' h frc frc0 b1 b4 b2 (B.step (fun _ hz=>⟨hz,rfl⟩) kk) hc hrc).trans s b3 kk
   | post keep c1 =>
    obtain⟨q,h1,h2⟩:=F2 hr;have k1:=ih _ _ h1 nt nt0 Z ow h frc frc0 s hx a B hc hrc;cases q with
    |val=>cases h2;trivial
    |pan=>cases h2;trivial
    |ok=>cases h2;trivial
    | itr e p1 fr' K' =>
     cases e with
     | normal =>
      cases h2;obtain⟨Z',ow',h',frc',e1,b2,b3,b4,b5,b6⟩:=k1;obtain⟨ow2,c1,c2,c3,c4,c5⟩:=Mr b2 b3 keep;exact⟨Z',ow2,h',frc',e1,c1,c2,b4.trans s c3,c4,b6.trans (fun id hi=>c5 id (by rw[b4.ex];exact hi) (zqt (by rw[b4.ex];exact hi) b5))⟩
     |exit i=>cases h2;exact k1
     |ret=>cases h2;exact k1
   | yreg p0 gd yt p1 yd args p2 =>
    obtain⟨hn,hc⟩:=zqz.1 hc;obtain⟨hyt,hyd⟩:=zqz.1 hn;obtain⟨hc0,hc⟩:=zqz.1 hc;obtain⟨hc1,hc2⟩:=zqz.1 hc;have hyt:yt<nt:=of_decide_eq_true hyt;have hyd:yd<nt:=of_decide_eq_true hyd;show G3 _ _ _ _ _ (I9 (fun fr h=>R0 (guardOk gd fr) .bad (eI P.E (evω P.E) nt (roundY (evω P.E) c.ps c.a.er c.b.er frc0) gd yt p1.er yd args p2.er p fr h) (AE (evω P.E) gd yt p1.er yd p2.er p fr h)) (evω P.E p0.er frc h)) r
    obtain⟨q,h1,h2⟩:=F2 hr;have k1:=ih _ _ h1 nt Z ow h frc s hx a hc0;cases q with
    |val=>cases h2
    |pan=>cases h2
    |itr=>cases h2
    | ok e fr1 K1 =>
     cases e with
     |exit=>cases h2
     |ret=>cases h2
     | normal =>
      obtain⟨Z1,ow1,h1',frc1,e1,b2,b3,b4,b5,b6⟩:=k1;rw[e1];refine G3.trans s b4 b6 ?_;have B1:CW K1.ext Z1 ow1 h1' K1.os nt0 frc0 c.fr:=by rw[b4.ex];exact B.step b4.zz b6
      show G3 _ _ _ _ _ (R0 (guardOk gd frc1) .bad (eI P.E (evω P.E) nt (roundY (evω P.E) c.ps c.a.er c.b.er frc0) gd yt p1.er yd args p2.er p frc1 h1') (AE (evω P.E) gd yt p1.er yd p2.er p frc1 h1')) r
      dsimp only at h2;cases hg:guardP gd fr1 with
      |none=>rw[hg]at h2;cases h2
      | some t =>
       rw[hg]at h2;rw[w6 b3 hg];cases t with
       | false =>
        show G3 _ _ _ _ _ (I9 (fun fr h=>R0 (guardOk gd fr) .bad .bad (I9 (n9 p) (evω P.E p2.er (fr.set yd skipped) h))) (evω P.E p1.er (frc1.set yt skipped) h1')) r
        dsimp only at h2;obtain⟨q,h3,h4⟩:=F2 h2;have k2:=ih _ _ h3 nt Z1 ow1 h1' _ b2 b5 (b3.set hyt vr_skipped) hc1;cases q with
        |val=>cases h4
        |pan=>cases h4
        |itr=>cases h4
        | ok e fr2 K2 =>
         cases e with
         |exit=>cases h4
         |ret=>cases h4
         | normal =>
          obtain⟨Z2,ow2,h2',frc2,e2,d2,d3,d4,d5,d6⟩:=k2;rw[e2];refine G3.trans b2 d4 d6 ?_;show G3 _ _ _ _ _ (R0 (guardOk gd frc2) .bad .bad (I9 (n9 p) (evω P.E p2.er (frc2.set yd skipped) h2'))) r
          dsimp only at h4;cases hg2:guardP gd fr2 with
          |none=>rw[hg2]at h4;cases h4
          | some t =>
           rw[hg2]at h4;cases t with
           |true=>cases h4
           | false =>
            rw[w6 d3 hg2];obtain⟨q,h5,h6⟩:=F2 h4;have k3:=ih _ _ h5 nt Z2 ow2 h2' _ d2 d5 (d3.set hyd vr_skipped) hc2;cases q with
            |val=>cases h6
            |pan=>cases h6
            |itr=>cases h6
            | ok e fr3 K3 =>
             cases e with
             |exit=>cases h6
             |ret=>cases h6
             | normal =>
              cases h6;obtain⟨Z3,ow3,h3',frc3,e3,f2,f3,f4,f5,f6⟩:=k3;show G3 _ _ _ _ _ (I9 (n9 p) (evω P.E p2.er (frc2.set yd skipped) h2')) _
              rw[e3];exact⟨Z3,ow3,h3',frc3,rfl,f2,f3,f4,f5,f6⟩
       | true =>
        cases p with
        |some _=>cases h2
        | none =>
         show G3 _ _ _ _ _ (bif Nat.blt yt nt then I9 (fun fr h=>R0 (guardOk gd fr) .bad (Ib (evω P.E) p2.er yd fr (roundY (evω P.E) c.ps c.a.er c.b.er frc0 (opvs P.E args fr) h)) .bad) (evω P.E p1.er (frc1.set yt .any) h1')else .bad) r
         rw[show Nat.blt yt nt=true from zqv hyt];show G3 _ _ _ _ _ (I9 (fun fr h=>R0 (guardOk gd fr) .bad (Ib (evω P.E) p2.er yd fr (roundY (evω P.E) c.ps c.a.er c.b.er frc0 (opvs P.E args fr) h)) .bad) (evω P.E p1.er (frc1.set yt .any) h1')) r
         dsimp only at h2;obtain⟨q,h3,h4⟩:=F2 h2;have k2:=ih _ _ h3 nt Z1 ow1 h1' _ b2 b5 (b3.set hyt .any) hc1;cases q with
         |val=>cases h4
         |pan=>cases h4
         |itr=>cases h4
         | ok e fr2 K2 =>
          cases e with
          |exit=>cases h4
          |ret=>cases h4
          | normal =>
           obtain⟨Z2,ow2,h2',frc2,e2,d2,d3,d4,d5,d6⟩:=k2;rw[e2];refine G3.trans b2 d4 d6 ?_;have B2:CW K2.ext Z2 ow2 h2' K2.os nt0 frc0 c.fr:=by rw[d4.ex];exact B1.step d4.zz d6
           show G3 _ _ _ _ _ (R0 (guardOk gd frc2) .bad (Ib (evω P.E) p2.er yd frc2 (roundY (evω P.E) c.ps c.a.er c.b.er frc0 (opvs P.E args frc2) h2')) .bad) r
           dsimp only at h4;cases hg2:guardP gd fr2 with
           |none=>rw[hg2]at h4;cases h4
           | some t =>
            rw[hg2]at h4;cases t with
            |false=>cases h4
            | true =>
             rw[w6 d3 hg2];show G3 _ _ _ _ _ (Ib (evω P.E) p2.er yd frc2 (roundY (evω P.E) c.ps c.a.er c.b.er frc0 (opvs P.E args frc2) h2')) r
             obtain⟨q,h5,h6⟩:=F2 h4;have k3:=ih _ _ h5 nt0 Z2 ow2 h2' frc0 _ d2 (zqu _) (B2.now d5) (Ho hP.gl d3 args) hrc;cases q with
             |val=>cases h6
             |pan=>cases h6
             |itr=>cases h6
             | ok e fr3 K3 =>
              obtain⟨q,h7,h8⟩:=F2 h6;obtain⟨Z3,ow3,h3',frc3,e3,f2,f3,f4,f5,f6⟩:=k3;have e3:roundY (evω P.E) c.ps c.a.er c.b.er frc0 (opvs P.E args frc2) h2'=.ok e frc3 h3':=e3;rw[e3];have kp:Keep' ow2 K2.os ow3 K3.os:=Zs f4.ex f5 f6;have st:=iV d2 d5 f4 K2.ext;refine G3.trans (K':=⟨K3.os,K2.ext,K3.tch++K2.tch⟩) d2 st (kp.e d5) ?_;have k4:=ih _ _ h7 nt Z3 ow3 h3' _ f2 (zqy d5 kp.1) ((d3.keep f4.zz kp).set hyd (.b _)) hc2;have ey:Ib (evω P.E) p2.er yd frc2 (.ok e frc3 h3')=I9 (n9 (Ok e)) (evω P.E p2.er (frc2.set yd (.bool (wentOn e))) h3'):=by cases e<;>rfl
              rw[ey];cases q with
              |val=>cases h8
              |pan=>cases h8
              |itr=>cases h8
              | ok e4 fr4 K4 =>
               cases e4 with
               |exit=>cases h8
               |ret=>cases h8
               | normal =>
                cases h8;obtain⟨Z4,ow4,h4',frc4,e4,g2,g3,g4,g5,g6⟩:=k4;rw[e4];exact⟨Z4,ow4,h4',frc4,rfl,g2,g3,g4,g5,g6⟩
 | ops l fr K =>
  intro nt Z ow h frc s hx a hd;cases l with
  |nil=>cases hr;exact⟨Z,ow,h,frc,rfl,s,a,.refl _ _ _ _ _,hx,.refl _ _ _⟩
  | cons o l =>
   obtain⟨hd1,hd2⟩:=Ws hd;rw[lV];dsimp only at hr;cases hg:guardP o.gd fr with
   |none=>rw[hg]at hr;cases hr
   | some b =>
    rw[hg]at hr;rw[w6 a hg];cases b with
    |false=>exact ih _ _ hr nt Z ow h _ s hx (a.setd hd1 vr_skipped) hd2
    | true =>
     dsimp only at hr;show D1 _ _ _ _ _ (X6 o.dst (I5 P.E (callω P.E) l) frc (evOp P.E (callω P.E) o.op frc h)) r
     cases hp:prim P.E o.op fr K with
     |bad=>rw[hp]at hr;cases hr
     | val v K' =>
      rw[hp]at hr;obtain⟨ow',vc,h',d⟩:=Gm hP.gl hP.ti s hx a hp (callω P.E);rw[d.r];refine D1.next s hx (v:=v) d.two fun s' hx'=>?_
      exact ih _ _ hr nt Z ow' h' _ s' hx' ((a.keep (d.sp 0).zz d.kp).setd hd1 d.vr) hd2
     | pan v =>
      rw[hp]at hr;cases hr;obtain⟨vc,hv,e⟩:=iO hP.gl a hp;rw[e];exact⟨Z,ow,h,vc,rfl,s,hv,.refl _ _ _ _ _,hx,.refl _ _ _⟩
     | call f args =>
      rw[hp]at hr;obtain⟨argc,hl,e⟩:=Hr hP.gl a hp;rw[e];obtain⟨q,h1,h2⟩:=F2 hr;have k1:=ih _ _ h1 Z ow h argc s hx hl;cases q with
      |ok=>cases h2
      |itr=>cases h2
      | pan v K' =>
       cases h2;obtain⟨Z',ow',h',vc,e,b2,b3,b4,b5,b6⟩:=k1;rw[e];exact⟨Z',ow',h',vc,rfl,b2,b4,b3 _,b5,b6.e hx⟩
      | val vs K' =>
       obtain⟨Z',ow',h',vcs,e,b2,b3,b4,b5⟩:=k1;rw[e];refine D1.next s hx (v:=oneOrTup vs) ⟨rfl,b2,b3,b5.one,b4⟩ fun s' hx'=>?_
       exact ih _ _ h2 nt Z' ow' h' _ s' hx' ((a.keep (b4 0).zz b3).setd hd1 b5.one) hd2
 | opsD l fr K =>
  intro nt Z ow h frc d s hx a hd hdd;cases l with
  |nil=>cases hr;exact⟨Z,ow,h,frc,rfl,s,a,.refl _ _ _ _ _,hx,.refl _ _ _⟩
  | cons o l =>
   obtain⟨hd1,hd2⟩:=Ws hd;have hdd2:d=[]\/s3 l=true:=hdd.imp id fun e=>(Ov e).2
   rw[Qn];dsimp only at hr;cases hg:guardP o.gd fr with
   |none=>rw[hg]at hr;cases hr
   | some b =>
    rw[hg]at hr;rw[w6 a hg];cases b with
    |false=>exact ih _ _ hr nt Z ow h _ d s hx (a.setd hd1 vr_skipped) hd2 hdd2
    | true =>
     dsimp only at hr;show D1 _ _ _ _ _ (P0 o.dst (evOpsD P.E (callω P.E) l) (c7 P.E (callω P.E) l o.late (setDst o.dst skipped frc) h d) frc (evOpD P.E (callω P.E) o frc h d)) r
     cases hq:o.quiet with
     | false =>
      rw[hq]at hr;dsimp only at hr;rw[wY hq hdd];cases hp:prim P.E o.op fr K with
      |bad=>rw[hp]at hr;cases hr
      | val v K' =>
       rw[hp]at hr;obtain⟨ow',vc,h',dd⟩:=Gm hP.gl hP.ti s hx a hp (callω P.E);rw[dd.r];refine D1.next s hx (v:=v) dd.two fun s' hx'=>?_
       exact ih _ _ hr nt Z ow' h' _ d s' hx' ((a.keep (dd.sp 0).zz dd.kp).setd hd1 dd.vr) hd2 hdd2
      | pan v =>
       rw[hp]at hr;dsimp only at hr;split at hr
       . rename_i hlt
         cases hr;obtain⟨vc,hv,e⟩:=iO hP.gl a hp;rw[e,dE hP.gl hP.ti l s hx (a.setd hd1 vr_skipped) hd2 hdd2 hlt];exact⟨Z,ow,h,vc,rfl,s,hv,.refl _ _ _ _ _,hx,.refl _ _ _⟩
       . cases hr
      | call f args =>
       rw[hp]at hr;obtain⟨argc,hl,e⟩:=Hr hP.gl a hp;rw[e];obtain⟨q,h1,h2⟩:=F2 hr;have k1:=ih _ _ h1 Z ow h argc s hx hl;cases q with
       |ok=>cases h2
       |itr=>cases h2
       | pan v K' =>
        dsimp only at h2;split at h2
        . rename_i hlt
          cases h2;obtain⟨Z',ow',h',vc,e,b2,b3,b4,b5,b6⟩:=k1;rw[e,dE hP.gl hP.ti l s hx (a.setd hd1 vr_skipped) hd2 hdd2 hlt];exact⟨Z',ow',h',vc,rfl,b2,b4,b3 _,b5,b6.e hx⟩
        . cases h2
       | val vs K' =>
        obtain⟨Z',ow',h',vcs,e,b2,b3,b4,b5⟩:=k1;rw[e];refine D1.next s hx (v:=oneOrTup vs) ⟨rfl,b2,b3,b5.one,b4⟩ fun s' hx'=>?_
        exact ih _ _ h2 nt Z' ow' h' _ d s' hx' ((a.keep (b4 0).zz b3).setd hd1 b5.one) hd2 hdd2
     | true =>
      rw[hq]at hr;dsimp only at hr;have s0:I4 Z ow {h with tch:=[]} ({K with tch:=[]}:PK).os:=s.congr rfl (fun _=>rfl);have a0:FrR Z ow {h with tch:=[]} ({K with tch:=[]}:PK).os nt frc fr:=a.keep (fun _ hz=>⟨hz,rfl⟩) (.refl _ _);have hx0:({K with tch:=[]}:PK).ext<=({K with tch:=[]}:PK).os.length:=hx;cases hp:prim P.E o.op fr {K with tch:=[]}with
      |bad=>rw[hp]at hr;cases hr
      |pan v=>rw[hp]at hr;cases hr
      | val v K1 =>
       rw[hp]at hr;dsimp only at hr;obtain⟨ow',vc,h',dd⟩:=Gm hP.gl hP.ti s0 hx0 a0 hp (callω P.E);split at hr
       . rename_i ht
         obtain⟨h2,d2,e,dd2,hd3⟩:=Zu hq s hdd (r:=v) dd.two ht;rw[e];refine D1.next s hx (v:=v) dd2 fun s' hx'=>?_
         exact ih _ _ hr nt Z ow' h2 _ d2 s' hx' ((a.keep (dd2.sp 0).zz dd2.kp).setd hd1 dd2.vr) hd2 hd3
       . rename_i ht
         obtain⟨h2,d2,e,dd2,hrd⟩:=Kj (l:=l) hq s hdd (r:=v) dd.two;rw[e];have hd0:d=[]\/s3 l=true:=hdd2;refine D1.next s hx (v:=v) dd2 fun s' hx'=>?_
         exact ih _ _ hr nt Z ow' h2 _ d2 [(⟨K.os,0,K1.tch⟩,ow)] s' hx' ((a.keep (dd2.sp 0).zz dd2.kp).setd hd1 dd2.vr) hd2 rfl (fun c hc=>⟨_,zqg ..,hrd (hd0.resolve_right (iW ht)) c hc⟩) (fun p hp=>by rw[zqs.1 hp];exact dd2.kp)
      | call f args =>
       rw[hp]at hr;obtain⟨argc,hl,e⟩:=Hr hP.gl a0 hp;obtain⟨q,h1,h2⟩:=F2 hr;have k1:=ih _ _ h1 Z ow {h with tch:=[]} argc s0 hx0 hl;cases q with
       |ok=>cases h2
       |itr=>cases h2
       | pan v K1 =>
        dsimp only at h2;split at h2
        . rename_i hlt
          cases h2;obtain⟨Z',ow',h',vc,e1,b2,b3,b4,b5,b6⟩:=k1;have e2:evOpD P.E (callω P.E) o frc h d=.pan vc {h' with tch:=Bn (I6 h.next h'.tch) h.tch}:=by
           unfold evOpD;rw[hq];show x4 h.next h.tch d (evOp P.E (callω P.E) o.op frc {h with tch:=[]})=_
           rw[e,e1];rfl
          rw[e2,dE hP.gl hP.ti l s hx (a.setd hd1 vr_skipped) hd2 hdd2 hlt];exact⟨Z',ow',_,vc,rfl,b2.congr rfl (fun _=>rfl),b4.keep (fun _ hz=>⟨hz,rfl⟩) (.refl _ _),Ow (b3 _),b5,b6.e hx⟩
        . cases h2
       | val vs K1 =>
        dsimp only at h2;obtain⟨Z',ow',h',vcs,e1,b2,b3,b4,b5⟩:=k1;split at h2
        . rename_i ht
          obtain⟨h3,d2,e2,dd2,hd3⟩:=Zu hq s hdd (r:=oneOrTup vs) (v:=oneOrTup vs) ⟨(e (callω P.E)).trans e1,b2,b3,b5.one,b4⟩ ht;rw[e2];refine D1.next s hx (v:=oneOrTup vs) dd2 fun s' hx'=>?_
          exact ih _ _ h2 nt Z' ow' h3 _ d2 s' hx' ((a.keep (dd2.sp 0).zz dd2.kp).setd hd1 dd2.vr) hd2 hd3
        . rename_i ht
          obtain⟨h3,d2,e2,dd2,hrd⟩:=Kj (l:=l) hq s hdd (r:=oneOrTup vs) (v:=oneOrTup vs) ⟨(e (callω P.E)).trans e1,b2,b3,b5.one,b4⟩;rw[e2];refine D1.next s hx (v:=oneOrTup vs) dd2 fun s' hx'=>?_
          exact ih _ _ h2 nt Z' ow' h3 _ d2 [(⟨K.os,0,K1.tch⟩,ow)] s' hx' ((a.keep (dd2.sp 0).zz dd2.kp).setd hd1 dd2.vr) hd2 rfl (fun c hc=>⟨_,zqg ..,hrd (hdd2.resolve_right (iW ht)) c hc⟩) (fun p hp=>by rw[zqs.1 hp];exact dd2.kp)
 | opsS S l fr K =>
  intro nt Z ow h frc d ws s hx a hd hws sf kp0;subst hws;cases l with
  |nil=>cases hr;exact⟨Z,ow,h,frc,rfl,s,a,.refl _ _ _ _ _,hx,.refl _ _ _⟩
  | cons o l =>
   obtain⟨hd1,hd2⟩:=Ws hd;rw[Qn];dsimp only at hr;cases hg:guardP o.gd fr with
   |none=>rw[hg]at hr;cases hr
   | some b =>
    rw[hg]at hr;rw[w6 a hg];cases b with
    |false=>exact ih _ _ hr nt Z ow h _ d ws s hx (a.setd hd1 vr_skipped) hd2 rfl sf kp0
    | true =>
     dsimp only at hr;show D1 _ _ _ _ _ (P0 o.dst (evOpsD P.E (callω P.E) l) (c7 P.E (callω P.E) l o.late (setDst o.dst skipped frc) h d) frc (evOpD P.E (callω P.E) o frc h d)) r
     cases hq:o.quiet with
     | true =>
      rw[hq]at hr;dsimp only at hr;have s0:I4 Z ow {h with tch:=[]} ({K with tch:=[]}:PK).os:=s.congr rfl (fun _=>rfl);have a0:FrR Z ow {h with tch:=[]} ({K with tch:=[]}:PK).os nt frc fr:=a.keep (fun _ hz=>⟨hz,rfl⟩) (.refl _ _);have hx0:({K with tch:=[]}:PK).ext<=({K with tch:=[]}:PK).os.length:=hx;cases hp:prim P.E o.op fr {K with tch:=[]}with
      |bad=>rw[hp]at hr;cases hr
      |pan v=>rw[hp]at hr;cases hr
      |call f args=>rw[hp]at hr;cases hr
      | val v K1 =>
       rw[hp]at hr;dsimp only at hr;obtain⟨ow',vc,h',dd⟩:=Gm hP.gl hP.ti s0 hx0 a0 hp (callω P.E);obtain⟨h2,d2,e,dd2,sf2⟩:=lX hq s sf dd.two;rw[e];refine D1.next s hx (v:=v) dd2 fun s' hx'=>?_
       exact ih _ _ hr nt Z ow' h2 _ d2 ((⟨K.os,0,K1.tch⟩,ow)::ws) s' hx' ((a.keep (dd2.sp 0).zz dd2.kp).setd hd1 dd2.vr) hd2 rfl sf2 (fun p hp=>by
        rcases zqi.1 hp with rfl|hp
        . exact dd2.kp
        . exact(kp0 p hp).trans dd2.kp)
     |false =>
     rw[hq]at hr;dsimp only at hr;split at hr
     . rename_i hcare
       rw[wZ hP.gl a hq sf kp0 hcare];cases hp:prim P.E o.op fr K with
       |bad=>rw[hp]at hr;cases hr
       |pan=>rw[hp]at hr;cases hr
       | val v K' =>
        rw[hp]at hr;obtain⟨ow',vc,h',dd⟩:=Gm hP.gl hP.ti s hx a hp (callω P.E);rw[dd.r];refine D1.next s hx (v:=v) dd.two fun s' hx'=>?_
        exact ih _ _ hr nt Z ow' h' _ d ws s' hx' ((a.keep (dd.sp 0).zz dd.kp).setd hd1 dd.vr) hd2 rfl sf (fun p hp=>(kp0 p hp).trans dd.kp)
       | call f args =>
        rw[hp]at hr;obtain⟨argc,hl,e⟩:=Hr hP.gl a hp;rw[e];obtain⟨q,h1,h2⟩:=F2 hr;have k1:=ih _ _ h1 Z ow h argc s hx hl;cases q with
        |ok=>cases h2
        |itr=>cases h2
        |pan=>cases h2
        | val vs K' =>
         obtain⟨Z',ow',h',vcs,e,b2,b3,b4,b5⟩:=k1;rw[e];refine D1.next s hx (v:=oneOrTup vs) ⟨rfl,b2,b3,b5.one,b4⟩ fun s' hx'=>?_
         exact ih _ _ h2 nt Z' ow' h' _ d ws s' hx' ((a.keep (b4 0).zz b3).setd hd1 b5.one) hd2 rfl sf (fun p hp=>(kp0 p hp).trans b3)
     . cases hr
 | call f args K =>
  intro Z ow h argc s hx hl;dsimp only at hr;cases hT:P.T f with
  | some g =>
   rw[hT]at hr;dsimp only at hr;cases ht:tcall g args K with
   |none=>rw[ht]at hr;cases hr
   | some q =>
    obtain⟨vs,K'⟩:=q;rw[ht]at hr;cases hr;exact wU (hP.T f g hT) s hx hl ht
  | none =>
   rw[hT]at hr;dsimp only at hr;cases hin:inpOf (P.fn f)with
   | true =>
    rw [hin]at hr;obtain⟨q,h1,h2⟩:=F2 hr;have k1:=ih _ _ h1 Z ow h argc s (zqu _) hl;have stp:∀{Z':Nat->Prop}{ow':Nat->Option (List Nat)}{h':Heap}{K1:PK},Stp K.os.length Z ow h ⟨K.os,K.os.length,[]⟩ Z' ow' h' K1->∀b,Stp b Z ow h K Z' ow' h' ⟨K1.os,K.ext,K1.tch++K.tch⟩:=fun{Z' ow' h' K1} sb b=>by
     obtain⟨l0,f1,f2⟩:=sb.th;refine⟨sb.nx,sb.zz,sb.zn,sb.un,sb.uo,⟨l0,f1,fun id hi=>?_⟩,fun id r t ho hr=>?_,fun r hr _=>zqk.2 (.inr hr),rfl,fun j hj=>sb.xk j (zqt hj hx),fun j hj=>sb.rd j (zqt hj hx)⟩
     . rcases f2 id hi with h|⟨r,t,q1,q2⟩
       . exact .inl h
       . obtain⟨_,_,r',t',q3,q4⟩:=s.live id _ q1
         cases q3;exact .inr ⟨r,t,q1,fun _=>zqk.2 (.inl (q2 (X2 q4)))⟩
     . rcases sb.mv id r t ho (zqt hr hx)with h|h
       . exact .inl h
       . exact .inr (zqk.2 (.inl h))
    have kp:∀{ow':Nat->Option (List Nat)}{K1:PK},K1.ext=K.os.length->K1.ext<=K1.os.length->f9 K.os.length ow K.os ow' K1.os->Keep' ow K.os ow' K1.os:=fun{ow' K1} e1 e2 e3=>⟨by rw[<-e1];exact e2,e3⟩
    cases q with
    |ok=>cases h2
    |itr=>cases h2
    | val vs K1 =>
     cases h2;obtain⟨Z',ow',h',vcs,e,b2,b3,b4,b5,b6⟩:=k1;exact⟨Z',ow',h',vcs,e,b2,kp (K1:=K1) b3.ex b6 b5,stp b3,b4⟩
    | pan v K1 =>
     cases h2;obtain⟨Z',ow',h',vc,e,b2,b3,b4,b5,b6⟩:=k1;exact⟨Z',ow',h',vc,e,b2,stp b3,b4,zqy hx (by have:=b3.ex;show K.os.length<=K1.os.length;have h0:K1.ext=K.os.length:=this;omega),kp (K1:=K1) b3.ex b5 b6⟩
   | false =>
    rw[hin]at hr;obtain⟨q,h1,h2⟩:=F2 hr;have k1:=ih _ _ h1 Z (fun _=>none) h argc (ZB s.zb) (zqu _) (hl.ren (fun _ hz=>⟨hz,rfl⟩) (fun id j e _=>by cases e));cases q with
    |ok=>cases h2
    |itr=>cases h2
    |pan=>cases h2
    | val vs K1 =>
     dsimp only at h2;obtain⟨Z',ow',h',vcs,e,b2,b3,b4,_,_⟩:=k1;split at h2
     . rename_i he
       cases h2;have he:K1.os=[]:=zqr.1 he;rw[he]at b2 b4;obtain⟨r1,r2,r3,r4⟩:=Zr s b2 (fun e he=>by cases he) b3.nx b3.zz b3.zn (fun id hi=>b3.un id hi rfl) (fun id L ho=>Nat.le_of_not_lt fun hl=>b3.uo id L ho hl rfl);rw[zql]at r1 r2;obtain⟨l0,f1,f2⟩:=b3.th;refine⟨Z',_,h',vcs,e,r1,r2,fun b=>⟨b3.nx,b3.zz,b3.zn,fun id hl _=>b3.un id hl rfl,fun id L ho hl he=>?_,⟨l0,f1,fun id hi=>.inl ((f2 id hi).resolve_right fun⟨r,t,hh,_⟩=>by cases hh)⟩,fun id r t ho hr=>.inl ⟨t,by unfold Al;rw[ho]⟩,fun r hr _=>hr,rfl,fun j hj c hr=>(r4 c j [] (by omega)).symm,fun j hj hr=>hr⟩,b4.ren (fun _ hz=>⟨hz,rfl⟩) (fun id j _ hi=>by cases hi)⟩;unfold Al at ho;rw[he]at ho;simp only at ho;cases e1:ow' id with
       |none=>rw[e1]at ho;cases ho
       |some M=>exact b3.uo id M e1 hl rfl
     . cases h2
 | body f args K =>
  intro Z ow h argc s hx hl;dsimp only at hr;cases hf:P.fn f with
  |none=>rw[hf]at hr;cases hr
  | some p =>
   rw[hf]at hr;dsimp only at hr;split at hr
   . rename_i hn
     have F:=hP.fn f p hf;obtain⟨q,h1,h2⟩:=F2 hr;obtain⟨rc,er,k1⟩:∃rc,callω P.E f argc h=M0 P.E p.rs rc/\D1 Z ow h K p.nt rc q:=by
      have hen:=Ou hl hn F.nt;have hok:=F.ok;have hfn:=F.fn;rcases bodyJ_or p.code with⟨x,a,g,c,e⟩|⟨x,d,d2,c,e⟩|⟨e1,e2⟩
      . rw[e]at h1;exact(ih _ _ h1).elim
      . rw[e]at h1;exact(ih _ _ h1).elim
      . rw[e1]at h1
        exact⟨_,wW e2 F.gc F.told F.dlf F.srt F.fn (by rw[hl.1];exact hn),ih _ _ h1 p.nt Z ow h _ s hx hen hok⟩
     rw[er];cases q with
     |val=>cases h2
     |itr=>cases h2
     | pan v K' =>
      cases h2;obtain⟨Z',ow',h',vc,e,b2,b3,b4,b5⟩:=k1;rw[e];exact⟨Z',ow',h',vc,rfl,b2,b4,b3,b5⟩
     | ok e fr' K' =>
      obtain ⟨Z',ow',h',frc',e1,b2,b3,b4,b5,b6⟩:=k1;rw[e1];have fin:(∀q,resP P.E p.rs fr' K'=some q->r=.val q.1 q.2)->resP P.E p.rs fr' K'≠none->nX Z ow h K (Pm (J5 P.E p.rs frc' h') h') r:=fun hq hne=>by
       cases hv:resP P.E p.rs fr' K' with
       |none=>exact absurd hv hne
       | some q =>
        obtain⟨vs,K2⟩:=q;obtain rfl:=hq _ hv;obtain⟨vcs,c1,c2,c3,c4,c5⟩:=dD p.rs b2 b5 b3 hv;rw[c1];exact⟨Z',ow',h',vcs,rfl,c2,b4.trans s c4,c5,b6.trans (c3.e (by rw[<-b4.ex];exact b5)),Wo b5 c3 c4.ex⟩
      cases e with
      |exit i=>cases h2
      | normal =>
       dsimp only at h2;cases hv:resP P.E p.rs fr' K' with
       |none=>rw[hv]at h2;cases h2
       |some q=>rw[hv]at h2;cases h2;exact fin (fun q' hq'=>by rw[hv]at hq';cases hq';rfl) (by rw[hv];intro e;cases e)
      | ret =>
       dsimp only at h2;cases hv:resP P.E p.rs fr' K' with
       |none=>rw[hv]at h2;cases h2
       |some q=>rw[hv]at h2;cases h2;exact fin (fun q' hq'=>by rw[hv]at hq';cases hq';rfl) (by rw[hv];intro e;cases e)
   . cases hr
end
section
variable {E:Env}{P:PE}{R:AV->AV->Prop}{Z Z' Z1:Nat->Prop}{ow ow' ow1:Nat->Option (List Nat)}{h h' h1:Heap}{K K' K1:PK}{os os' ps:List PO}{x y xc yc v k:AV}{L M:List Nat}
noncomputable def Y1(c r:AV)(os:List PO):AV×List PO:=match c with
 | .nilsl=>(match ownOf r with|some (0,[],sz)=>(.msl os.length 0 0 sz,os++[.row 0 [] sz])|_=>(c,os))
 |_=>(c,os)
noncomputable def N6:List AV->List AV->List PO->List AV×List PO
 |[],_,os=>([],os)
 |c::cs,[],os=>(c::cs,os)
 |c::cs,r::rs,os=>((Y1 c r os).1::(N6 cs rs (Y1 c r os).2).1,(N6 cs rs (Y1 c r os).2).2)
noncomputable def l7(v r:AV)(os:List PO):AV×List PO:=(O7 v (N6 v.cells r.cells os).1,(N6 v.cells r.cells os).2)
noncomputable def U5:List AV->List AV->List PO->List AV×List PO
 |[],_,os=>([],os)
 |c::cs,[],os=>(c::cs,os)
 |c::cs,r::rs,os=>((l7 c r os).1::(U5 cs rs (l7 c r os).2).1,(U5 cs rs (l7 c r os).2).2)
structure backOk(vs rs:List AV)(os:List PO):Prop where
 nd:(refsL (U5 vs rs os).1).Nodup
 vl:renL (posOf (refsL (U5 vs rs os).1)) (U5 vs rs os).1=(openTs 0 rs).1
 ol:(refsL (U5 vs rs os).1).map (fun id=>renPO (posOf (refsL (U5 vs rs os).1)) (entryAt (U5 vs rs os).2 id))=(openTs 0 rs).2
theorem rG(s:I4 Z ow h os)(sz:Nat):I4 Z ow h (os++[.row 0 [] sz])/\Keep' ow os ow (os++[.row 0 [] sz])/\VR Z ow h (os++[.row 0 [] sz]) .nilsl (.msl os.length 0 0 sz):=by
 have hno:∀c t,ow c≠some (os.length::t):=fun c t e=>by
  obtain⟨_,_,r,t',h1,h2⟩:=s.live c _ e;cases h1;exact absurd (X2 h2) (Nat.lt_irrefl _)
 have hk:Keep' ow os ow (os++[.row 0 [] sz]):=Mj s.sb fun _ _ _ _ _=>.rfl
 have hpt:PT (VR Z ow h os) Z ow h (os++[.row 0 [] sz]):=s.new (.row 0 [] sz) (zqu _) (fun _ _=>rfl) (fun _ _ _=>rfl) (fun _ _ _=>.rfl) (fun a b t ha _=>absurd ha (hno a t)) (fun d t hd=>absurd hd (hno d t))
  (by simp_all[isRt])
  (fun es z e=>by cases e;exact⟨.nilsl,.nil (.inl rfl) (fun c t=>hno c t)⟩) (by grind) (fun es e=>by cases e)
 refine⟨I4.to hpt (fun _ hz=>⟨hz,rfl⟩) hk,hk,.mnil (.inl rfl) (fun L hL c hc=>?_) (by simp)⟩;grind[loP]
theorem rH(s:I4 Z ow h os)(a:VR Z ow h os x y)(r:AV):I4 Z ow h (Y1 y r os).2/\Keep' ow os ow (Y1 y r os).2/\VR Z ow h (Y1 y r os).2 x (Y1 y r os).1:=by
 have same:∀q:AV×List PO,q=(y,os)->I4 Z ow h q.2/\Keep' ow os ow q.2/\VR Z ow h q.2 x q.1:=fun q e=>by subst e;exact⟨s,.refl _ _,a⟩
 unfold Y1;split
 . split
   . rename_i sz _
     rw[a.isN];exact rG s sz
   grind
 grind
theorem Kk:∀(ys xs rs:List AV)(os:List PO),I4 Z ow h os->VL Z ow h os xs ys->I4 Z ow h (N6 ys rs os).2/\Keep' ow os ow (N6 ys rs os).2/\VL Z ow h (N6 ys rs os).2 xs (N6 ys rs os).1
 |[],xs,rs,os,s,l=>⟨s,.refl _ _,l⟩
 |c::cs,xs,[],os,s,l=>⟨s,.refl _ _,l⟩
 |c::cs,[],r::rs,os,s,l=>by cases l.1
 | c::cs,x::xs,r::rs,os,s,l=>by
  obtain⟨l1,l2⟩:=l.inv;obtain⟨a1,a2,a3⟩:=rH s l1 r;obtain⟨b1,b2,b3⟩:=Kk cs xs rs (Y1 c r os).2 a1 (l2.keep (fun _ hz=>⟨hz,rfl⟩) a2);exact⟨b1,a2.trans b2,.cons (a3.keep (fun _ hz=>⟨hz,rfl⟩) b2) b3⟩
theorem Qo:∀(ys rs:List AV)(os:List PO),(N6 ys rs os).1.length=ys.length
 |[],rs,os=>rfl
 |c::cs,[],os=>rfl
 |c::cs,r::rs,os=>congrArg (· + 1) (Qo cs rs _)
theorem rI(s:I4 Z ow h os)(a:VR Z ow h os x y)(r:AV):I4 Z ow h (l7 y r os).2/\Keep' ow os ow (l7 y r os).2/\VR Z ow h (l7 y r os).2 x (l7 y r os).1:=by
 unfold l7;cases hy:isAg y with
 | true =>
  cases y<;>first|(cases hy;done)|skip
  obtain⟨xs,rfl,l⟩:=a.agI;obtain⟨b1,b2,b3⟩:=Kk _ xs r.cells os s l;exact⟨b1,b2,.agL b3⟩
 | false =>
  obtain⟨b1,b2,b3⟩:=Kk y.cells [x] r.cells os s (by rw[D8 hy];exact .cons a .nil);refine⟨b1,b2,?_⟩;have hl:=Qo y.cells r.cells os;rw[D8 hy]at hl b3|-;obtain⟨c,hc⟩:=zqq.1 hl
  have:O7 y (N6 [y] r.cells os).1=c:=by
   rw[hc];cases y<;>first|rfl|cases hy
  rw[this];rw[hc]at b3;exact b3.inv.1
theorem Zw:∀(ys xs rs:List AV)(os:List PO),I4 Z ow h os->VL Z ow h os xs ys->I4 Z ow h (U5 ys rs os).2/\Keep' ow os ow (U5 ys rs os).2/\VL Z ow h (U5 ys rs os).2 xs (U5 ys rs os).1
 |[],xs,rs,os,s,l=>⟨s,.refl _ _,l⟩
 |c::cs,xs,[],os,s,l=>⟨s,.refl _ _,l⟩
 |c::cs,[],r::rs,os,s,l=>by cases l.1
 | c::cs,x::xs,r::rs,os,s,l=>by
  obtain⟨l1,l2⟩:=l.inv;obtain⟨a1,a2,a3⟩:=rI s l1 r;obtain⟨b1,b2,b3⟩:=Zw cs xs rs (l7 c r os).2 a1 (l2.keep (fun _ hz=>⟨hz,rfl⟩) a2);exact⟨b1,a2.trans b2,.cons (a3.keep (fun _ hz=>⟨hz,rfl⟩) b2) b3⟩
theorem AA(s:I4 Z ow h os){vcs vs rs:List AV}(l:VL Z ow h os vcs vs)(b:backOk vs rs os):∃ow',I4 Z ow' h (openTs 0 rs).2/\VL Z ow' h (openTs 0 rs).2 vcs (openTs 0 rs).1/\∀id L,ow' id=some L->ow id≠none:=by
 obtain⟨a1,a2,a3⟩:=Zw vs vcs rs os s l;obtain⟨c1,c2⟩:=iQ a1 b.nd (f:=id) (fun e=>.inl rfl) (os':=(openTs 0 rs).2) b.ol.symm;refine⟨_,c1,?_,fun d M hd e=>?_⟩
 . rw[<-b.vl];exact a3.ren (fun _ hz=>⟨hz,rfl⟩) c2
 grind[Z8]
def K0:PK:=⟨[],0,[]⟩
theorem MD(hb:∀id,Z id->id<h.next):I4 Z (fun _=>none) h [] where
 row r es sz hr:=by simp at hr
 raw r k es sz hr:=by simp at hr
 map r es hr:=by simp at hr
 inj a b L ha:=by cases ha
 live a L ha:=by cases ha
 zb:=hb
 sb j p i o hj:=by simp at hj
def refine1(y:AV):List AV:=match y with | .fsl [] true=>[.nilsl,.fsl [] false]|y=>[y]
theorem Fz.refine(f:Fz Z h x y):∃y'∈refine1 y,Fz Z h x y':=by
 have same:∀{y:AV},refine1 y=[y]->Fz Z h x y->∃y'∈refine1 y,Fz Z h x y':=(by grind)
 cases f with
 | emp e =>
  cases e with
  |nil=>exact⟨.nilsl,.head _,.nilsl⟩
  |fsl=>exact⟨.fsl [] false,.tail _ (.head _),.fsl rfl (fun i x y hx=>by simp at hx) rfl⟩
 | fsl h1 h2 h3 =>
  rename_i es es' f f';cases es' with
  | nil=>cases f' with
   |true=>exact⟨.fsl [] false,.tail _ (.head _),.fsl h1 h2 h3⟩
   |false=>exact same rfl (.fsl h1 h2 h3)
  |cons=>exact same rfl (.fsl h1 h2 h3)
 | view h1 h2 h3 h4 h5 h6 =>
  rename_i id off n sz row es' f';cases es' with
  | nil=>cases f' with
   |true=>exact⟨.fsl [] false,.tail _ (.head _),.view h1 h2 h3 h4 h5 h6⟩
   |false=>exact same rfl (.view h1 h2 h3 h4 h5 h6)
  |cons=>exact same rfl (.view h1 h2 h3 h4 h5 h6)
 |int k n=>exact same rfl (.int k n)
 |bool b=>exact same rfl (.bool b)
 |str b=>exact same rfl (.str b)
 |nilsl=>exact same rfl .nilsl
 |nilptr=>exact same rfl .nilptr
 |nilmap=>exact same rfl .nilmap
 |nilfn=>exact same rfl .nilfn
 |niliface=>exact same rfl .niliface
 |agg h1 h2 h3=>exact same rfl (.agg h1 h2 h3)
 |fptr o f=>exact same rfl (.fptr o f)
 |pview h1 h2 h3 f=>exact same rfl (.pview h1 h2 h3 f)
def Comes(P:PE)(f:Nat)(args rs:List AV):Prop:=∃vs K1,evP P (.body f args K0)=some (.val vs K1)/\backOk vs rs K1.os
theorem Gs(hP:PEok P){f:Nat}{args rs:List AV}(H:Comes P f args rs){xs:List AV}(hl:xs.length=args.length)(hz:∀(i:Nat) x y,xs[i]?=some x->args[i]?=some y->Fz Z h x y)(hb:∀id,Z id->id<h.next):
 ∃(vcs:List AV)(h1:Heap)(Z1:Nat->Prop)(ow1:Nat->Option (List Nat)),callω P.E f xs h=.ok (oneOrTup vcs) h1/\I4 Z1 ow1 h1 (openTs 0 rs).2/\VL Z1 ow1 h1 (openTs 0 rs).2 vcs (openTs 0 rs).1/\
 h.next<=h1.next/\(∀id,Z id->Z1 id/\h1.get id=h.get id)/\(∀id,Z1 id->Z id\/h.next<=id)/\(∀id,id<h.next->h1.get id=h.get id)/\(∀id L,ow1 id=some L->h.next<=id)/\∃l,h1.tch=l++h.tch/\∀id∈l,h.next<=id:=by
 obtain⟨vs,K1,e,bk⟩:=H;obtain⟨Z',ow',h',vcs,e1,b2,b3,b4,_,_⟩:=MC hP _ _ e Z (fun _=>none) h xs (MD hb) (zqu _) ⟨hl,fun i x y hx hy=>.fz (hz i x y hx hy)⟩;obtain⟨ow2,c1,c2,c3⟩:=AA b2 b4 bk;refine⟨vcs,h',Z',ow2,e1,c1,c2,b3.nx,b3.zz,b3.zn,fun id hl=>b3.un id hl rfl,fun id L ho=>?_,?_⟩
 . by_cases hlt:id<h.next
   . cases e2:ow' id with
     |none=>grind
     |some M=>exact absurd rfl (b3.uo id M e2 hlt)
   . omega
 . obtain⟨l,q1,q2⟩:=b3.th
   grind
theorem ME(hP:PEok P){f:Nat}{g:List AV->Option (List AV)}(H:∀args rs,g args=some rs->Comes P f args rs):TC P.E f g:=
 fun args rs hg Z h xs hl hz hb=>Gs hP (H args rs hg) hl hz hb
theorem xA(hP:PEok P){f:Nat}{g:List AV->Option (List AV)}(H:∀a args rs,g (a::args)=some rs->∀a'∈refine1 a,Comes P f (a'::args) rs)(H0:g []=none):TC P.E f g:=by
 intro args rs hg Z h xs hl hz hb;cases args with
 |nil=>grind
 | cons a args =>
  cases xs with
  |nil=>cases hl
  | cons x xs =>
   obtain⟨a',h1,h2⟩:=(hz 0 x a rfl rfl).refine;refine Gs hP (H a args rs hg a' h1) hl (fun i u w hu hw=>?_) hb;grind
end
noncomputable section
variable {E:Env}{T:Nat->Option (List AV->Option (List AV))}{F:Nat->Option PFn}{fr:PF}{K K':PK}{v:AV}{vs:List AV}
def xB(P:PE)(b:PC)(r:Option PR):Option PR:=match r with
 |some (.ok .normal fr K)=>evP P (.code b fr K)
 |some (.val _ _)=>none
 |some (.itr _ _ _ _)=>none
 |r=>r
theorem seqP_normal(P:PE)(b:PC):xB P b (some (.ok .normal fr K))=evP P (.code b fr K):=rfl
theorem seqP_exit(P:PE)(b:PC)(i:Nat):xB P b (some (.ok (.exit i) fr K))=some (.ok (.exit i) fr K):=rfl
theorem seqP_ret(P:PE)(b:PC):xB P b (some (.ok .ret fr K))=some (.ok .ret fr K):=rfl
theorem e_seq(P:PE)(a b:PC):evP P (.code (.seq a b) fr K)=xB P b (evP P (.code a fr K)):=by
 rw[evP];cases evP P (.code a fr K)with
 |none=>rfl
 | some r=>cases r with
  |ok e fr K=>cases e<;>rfl
  |val=>rfl
  |pan=>rfl
  |itr=>rfl
theorem e_skip(P:PE):evP P (.code .skip fr K)=some (.ok .normal fr K):=by rw[evP]
theorem e_exit(P:PE)(i:Nat):evP P (.code (.exit i) fr K)=some (.ok (.exit i) fr K):=by rw[evP]
theorem e_ret(P:PE):evP P (.code .ret fr K)=some (.ok .ret fr K):=by rw[evP]
theorem e_reg(P:PE)(l:List XOp):evP P (.code (.reg false l) fr K)=evP P (.ops l fr K):=by rw[evP]
theorem e_regD(P:PE)(l:List XOp):evP P (.code (.reg true l) fr K)=evP P (.opsD l fr K):=by rw[evP]
theorem e_pre(P:PE)(k:List Nat)(c:PC):evP P (.code (.pre k c) fr K)=evP P (.code c (N0 k fr K).1 (N0 k fr K).2):=by rw[evP]
def xC(P:PE)(a b:PC)(x:AV)(fr:PF)(K:PK):Option PR:=match x with | .bool true=>evP P (.code a fr K) | .bool false=>evP P (.code b fr K)|_=>none
theorem e_cond(P:PE)(c:Operand)(a b:PC):evP P (.code (.cond c a b) fr K)=xC P a b (opvP P.E c fr) fr K:=by rw[evP];rfl
theorem condP_true(P:PE)(a b:PC):xC P a b (.bool true) fr K=evP P (.code a fr K):=rfl
theorem condP_false(P:PE)(a b:PC):xC P a b (.bool false) fr K=evP P (.code b fr K):=rfl
def AB(i:Nat)(r:Option PR):Option PR:=match r with
 |some (.ok (.exit j) fr K)=>if j=i then some (.ok .normal fr K)else some (.ok (.exit j) fr K)
 |some (.val _ _)=>none
 |some (.itr _ _ _ _)=>none
 |r=>r
theorem blkP_normal(i:Nat):AB i (some (.ok .normal fr K))=some (.ok .normal fr K):=rfl
theorem blkP_exit(i j:Nat):AB i (some (.ok (.exit j) fr K))=if j=i then some (.ok .normal fr K)else some (.ok (.exit j) fr K):=rfl
theorem blkP_ret(i:Nat):AB i (some (.ok .ret fr K))=some (.ok .ret fr K):=rfl
theorem e_block(P:PE)(i:Nat)(c:PC):evP P (.code (.block i c) fr K)=AB i (evP P (.code c fr K)):=by
 rw[evP];cases evP P (.code c fr K)with
 |none=>rfl
 | some r=>cases r with
  |ok e fr K=>cases e<;>rfl
  |val=>rfl
  |pan=>rfl
  |itr=>rfl
def nZ(k:List Nat)(r:Option PR):Option PR:=match r with
 |some (.ok .normal fr K)=>some (.ok .normal (N0 k fr K).1 (N0 k fr K).2)
 |some (.val _ _)=>none
 |some (.itr _ _ _ _)=>none
 |some (.pan v K)=>some (.pan (lookP (N0 [0] [(0,v)] K).1 0) (N0 [0] [(0,v)] K).2)
 |r=>r
theorem postP_normal(k:List Nat):nZ k (some (.ok .normal fr K))=some (.ok .normal (N0 k fr K).1 (N0 k fr K).2):=rfl
theorem postP_exit(k:List Nat)(i:Nat):nZ k (some (.ok (.exit i) fr K))=some (.ok (.exit i) fr K):=rfl
theorem postP_ret(k:List Nat):nZ k (some (.ok .ret fr K))=some (.ok .ret fr K):=rfl
theorem e_post(P:PE)(k:List Nat)(c:PC):evP P (.code (.post k c) fr K)=nZ k (evP P (.code c fr K)):=by
 rw[evP];cases evP P (.code c fr K)with
 |none=>rfl
 | some r=>cases r with
  |ok e fr K=>cases e<;>rfl
  |val=>rfl
  |pan=>rfl
  |itr=>rfl
theorem lY(P:PE)(c:PC):evP P (.code (.loop c) fr K)=xB P (.loop c) (evP P (.code c fr K)):=by
 rw[evP];cases evP P (.code c fr K)with
 |none=>rfl
 | some r=>cases r with
  |ok e fr K=>cases e<;>rfl
  |val=>rfl
  |pan=>rfl
  |itr=>rfl
theorem loop_more{P:PE}{c:PC}{fr':PF}{K':PK}(h:evP P (.code c fr K)=some (.ok .normal fr' K')):evP P (.code (.loop c) fr K)=evP P (.code (.loop c) fr' K'):=by rw[lY,h];rfl
theorem B3{P:PE}{c:PC}{i:Nat}{fr':PF}{K':PK}(h:evP P (.code c fr K)=some (.ok (.exit i) fr' K')):evP P (.code (.loop c) fr K)=some (.ok (.exit i) fr' K'):=by rw[lY,h];rfl
theorem L6{P:PE}{c:PC}{fr':PF}{K':PK}(h:evP P (.code c fr K)=some (.ok .ret fr' K')):evP P (.code (.loop c) fr K)=some (.ok .ret fr' K'):=by rw[lY,h];rfl
def oC(P:PE)(d:Option Tmp)(l:List XOp)(fr:PF)(r:Option PR):Option PR:=match r with
 |some (.val vs K)=>evP P (.ops l (setP d (oneOrTup vs) fr) K)
 |some (.pan v K)=>some (.pan v K)
 |_=>none
def MF(P:PE)(d:Option Tmp)(l:List XOp)(fr:PF)(K:PK)(o:OpS):Option PR:=match o with
 | .val v K=>evP P (.ops l (setP d v fr) K)
 | .call f args=>oC P d l fr (evP P (.call f args K))
 | .pan v=>some (.pan v K)
 | .bad=>none
theorem callK_val(P:PE)(d:Option Tmp)(l:List XOp):oC P d l fr (some (.val vs K))=evP P (.ops l (setP d (oneOrTup vs) fr) K):=rfl
theorem doP_val(P:PE)(d:Option Tmp)(l:List XOp):MF P d l fr K (.val v K')=evP P (.ops l (setP d v fr) K'):=rfl
theorem doP_call(P:PE)(d:Option Tmp)(l:List XOp)(f:Nat)(args:List AV):MF P d l fr K (.call f args)=oC P d l fr (evP P (.call f args K)):=rfl
theorem e_nil(P:PE):evP P (.ops [] fr K)=some (.ok .normal fr K):=by rw[evP]
theorem lZ(P:PE)(o:XOp)(l:List XOp){b:Bool}(hg:guardP o.gd fr=some b):evP P (.ops (o::l) fr K)=bif b then MF P o.dst l fr K (prim P.E o.op fr K)else evP P (.ops l (setP o.dst skipped fr) K):=by
 rw[evP,hg];cases b with
 |false=>rfl
 | true =>
  dsimp only[cond_true];cases prim P.E o.op fr K with
  | call f args =>
   show _=oC P o.dst l fr (evP P (.call f args K))
   dsimp only;cases evP P (.call f args K)with
   |none=>rfl
   |some r=>cases r<;>rfl
  |_=>rfl
theorem e_op(d:Option Tmp)(op:Op)(q:Bool)(s:List Bool)(c:Bool)(l:List XOp):evP ⟨E,T,F⟩ (.ops (⟨d,op,none,q,s,c⟩::l) fr K)=MF ⟨E,T,F⟩ d l fr K (prim E op fr K):=lZ (fr:=fr) (K:=K) (b:=true) ⟨E,T,F⟩ ⟨d,op,none,q,s,c⟩ l rfl
theorem e_opS{d:Option Tmp}{op:Op}{t:Tmp}{w q:Bool}{s:List Bool}{c:Bool}{l:List XOp}(hg:j2 w (lookP fr t)=some false):evP ⟨E,T,F⟩ (.ops (⟨d,op,some (some t,w),q,s,c⟩::l) fr K)=evP ⟨E,T,F⟩ (.ops l (setP d skipped fr) K):=lZ (fr:=fr) (K:=K) (b:=false) ⟨E,T,F⟩ ⟨d,op,some (some t,w),q,s,c⟩ l hg
theorem e_opY{d:Option Tmp}{op:Op}{t:Tmp}{w q:Bool}{s:List Bool}{c:Bool}{l:List XOp}(hg:j2 w (lookP fr t)=some true):evP ⟨E,T,F⟩ (.ops (⟨d,op,some (some t,w),q,s,c⟩::l) fr K)=MF ⟨E,T,F⟩ d l fr K (prim E op fr K):=lZ (fr:=fr) (K:=K) (b:=true) ⟨E,T,F⟩ ⟨d,op,some (some t,w),q,s,c⟩ l hg
def Dy(P:PE)(d:Option Tmp)(s:List Bool)(l:List XOp)(fr:PF)(K:PK)(r:Option PR):Option PR:=match r with
 |some (.val vs K)=>evP P (.opsD l (setP d (oneOrTup vs) fr) K)
 |some (.pan v K1)=>if Vu P.E l s (setP d skipped fr) K=true then some (.pan v K1)else none
 |_=>none
def MG(P:PE)(d:Option Tmp)(s:List Bool)(l:List XOp)(fr:PF)(K:PK)(o:OpS):Option PR:=match o with
 | .val v K=>evP P (.opsD l (setP d v fr) K)
 | .call f args=>Dy P d s l fr K (evP P (.call f args K))
 | .pan v=>if Vu P.E l s (setP d skipped fr) K=true then some (.pan v K)else none
 | .bad=>none
def oD(P:PE)(d:Option Tmp)(s:List Bool)(l:List XOp)(fr:PF)(K:PK)(r:Option PR):Option PR:=match r with
 |some (.pan v K1)=>if Vu P.E l s (setP d skipped fr) K=true then some (.pan v {K1 with tch:=K1.tch++K.tch})else none
 |some (.val vs K1)=>if Cn K.os.length l K1=true then evP P (.opsD l (setP d (oneOrTup vs) fr) {K1 with tch:=K1.tch++K.tch})else evP P (.opsS [⟨K.os,0,K1.tch⟩] l (setP d (oneOrTup vs) fr) {K1 with tch:=K1.tch++K.tch})
 |_=>none
def MH(P:PE)(d:Option Tmp)(s:List Bool)(l:List XOp)(fr:PF)(K:PK)(o:OpS):Option PR:=match o with
 | .val v K1=>if Cn K.os.length l K1=true then evP P (.opsD l (setP d v fr) {K1 with tch:=K1.tch++K.tch})else evP P (.opsS [⟨K.os,0,K1.tch⟩] l (setP d v fr) {K1 with tch:=K1.tch++K.tch})
 | .call f args=>oD P d s l fr K (evP P (.call f args {K with tch:=[]}))
 |_=>none
theorem callD_val(P:PE)(d:Option Tmp)(s:List Bool)(l:List XOp):Dy P d s l fr K' (some (.val vs K))=evP P (.opsD l (setP d (oneOrTup vs) fr) K):=rfl
theorem doD_val(P:PE)(d:Option Tmp)(s:List Bool)(l:List XOp):MG P d s l fr K (.val v K')=evP P (.opsD l (setP d v fr) K'):=rfl
theorem doD_call(P:PE)(d:Option Tmp)(s:List Bool)(l:List XOp)(f:Nat)(args:List AV):MG P d s l fr K (.call f args)=Dy P d s l fr K (evP P (.call f args K)):=rfl
theorem callQ_val(P:PE)(d:Option Tmp)(s:List Bool)(l:List XOp)(ht:Cn K.os.length l K'=true):oD P d s l fr K (some (.val vs K'))=evP P (.opsD l (setP d (oneOrTup vs) fr) {K' with tch:=K'.tch++K.tch}):=if_pos ht
theorem doQ_sep(P:PE)(d:Option Tmp)(s:List Bool)(l:List XOp)(h:Cn K.os.length l K'=false):MH P d s l fr K (.val v K')=evP P (.opsS [⟨K.os,0,K'.tch⟩] l (setP d v fr) {K' with tch:=K'.tch++K.tch}):=if_neg (by rw[h];intro e;cases e)
def CX(P:PE)(S:List PK)(d:Option Tmp)(l:List XOp)(fr:PF)(r:Option PR):Option PR:=match r with
 |some (.val vs K)=>evP P (.opsS S l (setP d (oneOrTup vs) fr) K)
 |_=>none
def OY(P:PE)(S:List PK)(d:Option Tmp)(l:List XOp)(fr:PF)(o:OpS)(K:PK):Option PR:=match o with
 | .val v K=>evP P (.opsS S l (setP d v fr) K)
 | .call f args=>CX P S d l fr (evP P (.call f args K))
 |_=>none
theorem doS_val(P:PE)(S:List PK)(d:Option Tmp)(l:List XOp):OY P S d l fr (.val v K') K=evP P (.opsS S l (setP d v fr) K'):=rfl
theorem s_nil(P:PE)(S:List PK):evP P (.opsS S [] fr K)=some (.ok .normal fr K):=by rw[evP]
theorem CY(S:List PK)(d:Option Tmp)(op:Op)(s:List Bool)(l:List XOp){c:Bool}(h:cX E S K fr ⟨d,op,none,false,s,c⟩=true):evP ⟨E,T,F⟩ (.opsS S (⟨d,op,none,false,s,c⟩::l) fr K)=OY ⟨E,T,F⟩ S d l fr (prim E op fr K) K:=by
 rw[evP];show(if cX E S K fr ⟨d,op,none,false,s,c⟩=true then _ else none)=_
 rw[if_pos h];dsimp only;cases prim E op fr K with
 | call f args =>
  show _=CX ⟨E,T,F⟩ S d l fr (evP ⟨E,T,F⟩ (.call f args K))
  dsimp only;cases evP ⟨E,T,F⟩ (.call f args K)with
  |none=>rfl
  |some r=>cases r<;>rfl
 |_=>rfl
theorem s_op(S:List PK)(d:Option Tmp)(op:Op)(s:List Bool)(l:List XOp):evP ⟨E,T,F⟩ (.opsS S (⟨d,op,none,false,s,false⟩::l) fr K)=OY ⟨E,T,F⟩ S d l fr (prim E op fr K) K:=CY S d op s l (zqf.2 fun _ _=>rfl)
def dI(os:List PO)(S:List PK)(v:AV):Bool:=S.all fun s=>iD os s v
theorem cvs_nil{os:List PO}{v:AV}:dI os [] v=true:=rfl
theorem cvs_cons{os:List PO}{s:PK}{S:List PK}{v:AV}:dI os (s::S) v=(iD os s v&&dI os S v):=rfl
theorem s_ld(S:List PK)(d:Option Tmp)(t:Nat)(a:Operand)(s:List Bool)(l:List XOp)(h:dI K.os S (opvP E a fr)=true):evP ⟨E,T,F⟩ (.opsS S (⟨d,.load t a,none,false,s,true⟩::l) fr K)=OY ⟨E,T,F⟩ S d l fr (prim E (.load t a) fr K) K:=CY S d _ s l h
theorem cv_ptr{os:List PO}{S:PK}{id i off:Nat}:iD os S (.ptr id i off)=(CS S.os id&&(!S.tch.contains id&&CS os id)):=rfl
theorem doQ_call(P:PE)(d:Option Tmp)(s:List Bool)(l:List XOp)(f:Nat)(args:List AV):MH P d s l fr K (.call f args)=oD P d s l fr K (evP P (.call f args {K with tch:=[]})):=rfl
theorem e_nilD(P:PE):evP P (.opsD [] fr K)=some (.ok .normal fr K):=by rw[evP]
theorem Mv(P:PE)(o:XOp)(l:List XOp){b:Bool}(hg:guardP o.gd fr=some b):evP P (.opsD (o::l) fr K)=bif b then(bif o.quiet then MH P o.dst o.late l fr K (prim P.E o.op fr {K with tch:=[]})else MG P o.dst o.late l fr K (prim P.E o.op fr K))else evP P (.opsD l (setP o.dst skipped fr) K):=by
 rw[evP,hg];cases b with
 |false=>rfl
 | true =>
  dsimp only[cond_true];cases o.quiet with
  | true =>
   dsimp only[cond_true,cond_false];cases prim P.E o.op fr {K with tch:=[]}with
   | call f args =>
    show _=oD P o.dst o.late l fr K (evP P (.call f args {K with tch:=[]}))
    dsimp only;cases evP P (.call f args {K with tch:=[]})with
    |none=>rfl
    |some r=>cases r<;>rfl
   |_=>rfl
  | false =>
   dsimp only[cond_true,cond_false];cases prim P.E o.op fr K with
   | call f args =>
    show _=Dy P o.dst o.late l fr K (evP P (.call f args K))
    dsimp only;cases evP P (.call f args K)with
    |none=>rfl
    |some r=>cases r<;>rfl
   |_=>rfl
theorem d_op(d:Option Tmp)(op:Op)(s:List Bool)(c:Bool)(l:List XOp):evP ⟨E,T,F⟩ (.opsD (⟨d,op,none,false,s,c⟩::l) fr K)=MG ⟨E,T,F⟩ d s l fr K (prim E op fr K):=Mv (fr:=fr) (K:=K) (b:=true) ⟨E,T,F⟩ ⟨d,op,none,false,s,c⟩ l rfl
theorem d_opQ(d:Option Tmp)(op:Op)(s:List Bool)(c:Bool)(l:List XOp):evP ⟨E,T,F⟩ (.opsD (⟨d,op,none,true,s,c⟩::l) fr K)=MH ⟨E,T,F⟩ d s l fr K (prim E op fr ⟨K.os,K.ext,[]⟩):=Mv (fr:=fr) (K:=K) (b:=true) ⟨E,T,F⟩ ⟨d,op,none,true,s,c⟩ l rfl
theorem d_opS{d:Option Tmp}{op:Op}{t:Tmp}{w q:Bool}{s:List Bool}{c:Bool}{l:List XOp}(hg:j2 w (lookP fr t)=some false):evP ⟨E,T,F⟩ (.opsD (⟨d,op,some (some t,w),q,s,c⟩::l) fr K)=evP ⟨E,T,F⟩ (.opsD l (setP d skipped fr) K):=Mv (fr:=fr) (K:=K) (b:=false) ⟨E,T,F⟩ ⟨d,op,some (some t,w),q,s,c⟩ l hg
theorem d_opY{d:Option Tmp}{op:Op}{t:Tmp}{w:Bool}{s:List Bool}{c:Bool}{l:List XOp}(hg:j2 w (lookP fr t)=some true):evP ⟨E,T,F⟩ (.opsD (⟨d,op,some (some t,w),false,s,c⟩::l) fr K)=MG ⟨E,T,F⟩ d s l fr K (prim E op fr K):=Mv (fr:=fr) (K:=K) (b:=true) ⟨E,T,F⟩ ⟨d,op,some (some t,w),false,s,c⟩ l hg
theorem d_opYQ{d:Option Tmp}{op:Op}{t:Tmp}{w:Bool}{s:List Bool}{c:Bool}{l:List XOp}(hg:j2 w (lookP fr t)=some true):evP ⟨E,T,F⟩ (.opsD (⟨d,op,some (some t,w),true,s,c⟩::l) fr K)=MH ⟨E,T,F⟩ d s l fr K (prim E op fr ⟨K.os,K.ext,[]⟩):=Mv (fr:=fr) (K:=K) (b:=true) ⟨E,T,F⟩ ⟨d,op,some (some t,w),true,s,c⟩ l hg
def xD(E:Env)(rs:List ResultVar)(r:Option PR):Option PR:=match r with
 |some (.ok .normal fr K)=>(match resP E rs fr K with|some (vs,K)=>some (.val vs K)|none=>none)
 |some (.ok .ret fr K)=>(match resP E rs fr K with|some (vs,K)=>some (.val vs K)|none=>none)
 |some (.pan v K)=>some (.pan v K)
 |_=>none
theorem A6{f:Nat}{args:List AV}{c:PC}{nt:Nat}{rs:List ResultVar}{b:Bool}(hf:F f=some ⟨c,nt,rs,b⟩)(hn:args.length<=nt)(hj:bodyJ c=PJ.code c:=by rfl):evP ⟨E,T,F⟩ (.body f args K)=xD E rs (evP ⟨E,T,F⟩ (.code c (enterP 0 args) K)):=by
 rw[evP];show(match F f with|some p=>_|none=>_)=_
 rw[hf];dsimp only;rw[if_pos hn,hj];cases evP ⟨E,T,F⟩ (.code c (enterP 0 args) K)with
 |none=>rfl
 | some r=>cases r with
  |ok e fr K=>cases e<;>rfl
  |val=>rfl
  |pan=>rfl
  |itr=>rfl
variable {fr1 fr2 fr3:PF}{K1 K2 K3:PK}{P:PE}
theorem B8{f:Nat}{args:List AV}{g:List AV->Option (List AV)}{as1 rs:List AV}(ht:T f=some g)(hv:viewAs K.os args=some as1)(hg:g as1=some rs)(hok:(okRs rs&&((refsL args).isEmpty||noFL rs))=true):evP ⟨E,T,F⟩ (.call f args K)=some (.val (openTs K.os.length rs).1 ⟨K.os++(openTs K.os.length rs).2,K.ext,K.tch⟩):=by
 rw[evP];show(match T f with|some g=>_|none=>_)=_
 rw[ht];dsimp only;unfold tcall viewX;rw[hv];dsimp only;rw[hg];dsimp only;rw[if_pos hok]
end
noncomputable section
variable {E:Env}{T:Nat->Option (List AV->Option (List AV))}{F:Nat->Option PFn}{fr:PF}{K K':PK}{v:AV}{vs:List AV}
def MI(fr:PF)(K:PK)(r:Option PR):Option PR:=match r with
 |some (.itr .normal p _ K1)=>some (.ok (rL p) fr ⟨K1.os,K.ext,K1.tch++K.tch⟩)
 |some (.itr .ret p _ K1)=>some (.ok (rL p) fr ⟨K1.os,K.ext,K1.tch++K.tch⟩)
 |_=>none
theorem xE(p:Option Ex)(fr1:PF):MI fr K (some (.itr .normal p fr1 K'))=some (.ok (rL p) fr ⟨K'.os,K.ext,K'.tch++K.tch⟩):=rfl
theorem CZ{g:Operand}{ps:List Tmp}{a b ic:PC}{x:XC}{n nt:Nat}{caps:List AV}{rs:List ResultVar}{i:Bool}(hg:opvP E g fr=.fn (.func n) [] caps)(hf:F n=some ⟨.itf x ic,nt,rs,i⟩)(hn:caps.length+1<=nt):
 evP ⟨E,T,F⟩ (.code (.rfn g ps a b) fr K)=MI fr K (evP ⟨E,T,F⟩ (.iter ⟨ps,a,b,fr⟩ itMax ic none (enterP 0 (.any::caps)) ⟨K.os,K.os.length,[]⟩)):=by
 rw[evP];show(match opvP E g fr with | .fn (.func n) [] caps=>(match itOf (F n)with|some (nt,ic)=>_|none=>none)|_=>none)=_
 rw[hg];dsimp only;rw[hf];dsimp only[itOf];rw[if_pos hn];cases evP ⟨E,T,F⟩ (.iter ⟨ps,a,b,fr⟩ itMax ic none (enterP 0 (.any::caps)) ⟨K.os,K.os.length,[]⟩)with
 |none=>rfl
 | some r=>cases r with
  |itr e p fr1 K1=>cases e<;>rfl
  |_=>rfl
def MJ(P:PE)(b:PC)(r:Option PR):Option PR:=match r with
 |some (.ok .normal fr K)=>evP P (.code b fr K)
 |_=>none
theorem Kl(P:PE)(b:PC):MJ P b (some (.ok .normal fr K))=evP P (.code b fr K):=rfl
theorem Sg{P:PE}{ps:List Tmp}{a b:PC}{args:List AV}(hn:args.length=ps.length):evP P (.round ⟨ps,a,b,fr⟩ args K)=MJ P b (evP P (.code a (setPs' ps args fr) K)):=by
 rw[evP];dsimp only;rw[if_pos hn];cases evP P (.code a (setPs' ps args fr) K)with
 |none=>rfl
 | some r=>cases r with
  |ok e fr1 K1=>cases e<;>rfl
  |_=>rfl
theorem l8(l:List AV):setPs' [] l fr=fr:=by cases l<;>rfl
theorem Y2(p:Tmp)(ps:List Tmp)(v:AV)(l:List AV):setPs' (p::ps) (v::l) fr=setPs' ps l ((p,v)::fr):=rfl
variable {P:PE}{c:RC}{m:Nat}{p:Option Ex}
def iX(P:PE)(c:RC)(m:Nat)(b:PC)(r:Option PR):Option PR:=match r with
 |some (.itr .normal p fr K)=>evP P (.iter c m b p fr K)
 |some (.itr (.exit i) p fr K)=>some (.itr (.exit i) p fr K)
 |some (.itr .ret p fr K)=>some (.itr .ret p fr K)
 |_=>none
theorem Ht(b:PC):iX P c m b (some (.itr .normal p fr K))=evP P (.iter c m b p fr K):=rfl
theorem Hu(b:PC)(i:Nat):iX P c m b (some (.itr (.exit i) p fr K))=some (.itr (.exit i) p fr K):=rfl
theorem Hv(b:PC):iX P c m b (some (.itr .ret p fr K))=some (.itr .ret p fr K):=rfl
theorem Zx(a b:PC):evP P (.iter c (m+1) (.seq a b) p fr K)=iX P c m b (evP P (.iter c m a p fr K)):=by
 rw[evP];cases evP P (.iter c m a p fr K)with
 |none=>rfl
 | some r=>cases r with
  |itr e p fr K=>cases e<;>rfl
  |_=>rfl
theorem dJ(a:PC):evP P (.iter c (m+1) (.loop a) p fr K)=iX P c m (.loop a) (evP P (.iter c m a p fr K)):=by
 rw[evP];cases evP P (.iter c m a p fr K)with
 |none=>rfl
 | some r=>cases r with
  |itr e p fr K=>cases e<;>rfl
  |_=>rfl
def DA(p:Option Ex)(r:Option PR):Option PR:=match r with
 |some (.ok .normal fr K)=>some (.itr .normal p fr K)
 |_=>none
theorem Hw:DA p (some (.ok .normal fr K))=some (.itr .normal p fr K):=rfl
theorem Zy(d:Bool)(l:List XOp):evP P (.iter c (m+1) (.reg d l) p fr K)=DA p (evP P (.code (.reg d l) fr K)):=by
 rw[evP];cases evP P (.code (.reg d l) fr K)with
 |none=>rfl
 | some r=>cases r with
  |ok e fr K=>cases e<;>rfl
  |_=>rfl
def mA(P:PE)(c:RC)(m:Nat)(a b:PC)(x:AV)(p:Option Ex)(fr:PF)(K:PK):Option PR:=match x with | .bool true=>evP P (.iter c m a p fr K) | .bool false=>evP P (.iter c m b p fr K)|_=>none
theorem Cp(a b:PC):mA P c m a b (.bool true) p fr K=evP P (.iter c m a p fr K):=rfl
theorem Cq(a b:PC):mA P c m a b (.bool false) p fr K=evP P (.iter c m b p fr K):=rfl
theorem Ox(x:Operand)(a b:PC):evP P (.iter c (m+1) (.cond x a b) p fr K)=mA P c m a b (opvP P.E x fr) p fr K:=by rw[evP];rfl
def oE(i:Nat)(r:Option PR):Option PR:=match r with
 |some (.itr .normal p fr K)=>some (.itr .normal p fr K)
 |some (.itr (.exit j) p fr K)=>if j=i then some (.itr .normal p fr K)else some (.itr (.exit j) p fr K)
 |some (.itr .ret p fr K)=>some (.itr .ret p fr K)
 |_=>none
theorem Hx(i:Nat):oE i (some (.itr .normal p fr K))=some (.itr .normal p fr K):=rfl
theorem Hy(i j:Nat):oE i (some (.itr (.exit j) p fr K))=if j=i then some (.itr .normal p fr K)else some (.itr (.exit j) p fr K):=rfl
theorem Hz(i:Nat):oE i (some (.itr .ret p fr K))=some (.itr .ret p fr K):=rfl
theorem Ia(i:Nat)(a:PC):evP P (.iter c (m+1) (.block i a) p fr K)=oE i (evP P (.iter c m a p fr K)):=by
 rw[evP];cases evP P (.iter c m a p fr K)with
 |none=>rfl
 | some r=>cases r with
  |itr e p fr K=>cases e<;>rfl
  |_=>rfl
theorem Oy:evP P (.iter c (m+1) .skip p fr K)=some (.itr .normal p fr K):=by rw[evP]
theorem Oz(i:Nat):evP P (.iter c (m+1) (.exit i) p fr K)=some (.itr (.exit i) p fr K):=by rw[evP]
theorem Zz:evP P (.iter c (m+1) .ret p fr K)=some (.itr .ret p fr K):=by rw[evP]
def OZ(e:Ex)(r:Option PR):Option PR:=match r with
 |some (.ok .normal fr K)=>some (.itr .normal (Ok e) fr K)
 |_=>none
def oF(P:PE)(p2:PC)(yd:Tmp)(fr:PF)(K:PK)(r:Option PR):Option PR:=match r with
 |some (.ok e _ K1)=>OZ e (evP P (.code p2 ((yd,.bool (wentOn e))::fr) ⟨K1.os,K.ext,K1.tch++K.tch⟩))
 |_=>none
def PA(P:PE)(c:RC)(gd:Option (Option Tmp×Bool))(yd:Tmp)(args:List Operand)(p2:PC)(r:Option PR):Option PR:=match r with
 | some (.ok .normal fr K)=>(match guardP gd fr with
  |some true=>oF P p2 yd fr K (evP P (.round c (opvL P.E args fr) ⟨K.os,K.os.length,[]⟩))
  |_=>none)
 |_=>none
def y0K(P:PE)(c:RC)(gd:Option (Option Tmp×Bool))(yt:Tmp)(p1:PC)(yd:Tmp)(args:List Operand)(p2:PC)(r:Option PR):Option PR:=match r with
 | some (.ok .normal fr K)=>(match guardP gd fr with
  |some true=>PA P c gd yd args p2 (evP P (.code p1 ((yt,.any)::fr) K))
  |_=>none)
 |_=>none
theorem aA(e:Ex):OZ e (some (.ok .normal fr K))=some (.itr .normal (Ok e) fr K):=rfl
theorem Cr(p2:PC)(yd:Tmp)(e:Ex)(fr1:PF):oF P p2 yd fr K (some (.ok e fr1 K'))=OZ e (evP P (.code p2 ((yd,.bool (wentOn e))::fr) ⟨K'.os,K.ext,K'.tch++K.tch⟩)):=rfl
theorem aB(yd:Tmp)(args:List Operand)(p2:PC):PA P c none yd args p2 (some (.ok .normal fr K))=oF P p2 yd fr K (evP P (.round c (opvL P.E args fr) ⟨K.os,K.os.length,[]⟩)):=rfl
theorem aC(yt:Tmp)(p1:PC)(yd:Tmp)(args:List Operand)(p2:PC):y0K P c none yt p1 yd args p2 (some (.ok .normal fr K))=PA P c none yd args p2 (evP P (.code p1 ((yt,.any)::fr) K)):=rfl
theorem Pa(p0:PC)(yt:Tmp)(p1:PC)(yd:Tmp)(args:List Operand)(p2:PC):evP P (.iter c (m+1) (.yreg p0 none yt p1 yd args p2) none fr K)=y0K P c none yt p1 yd args p2 (evP P (.code p0 fr K)):=by
 rw[evP];cases evP P (.code p0 fr K)with
 |none=>rfl
 | some r => cases r with
  | ok e fr K =>
   cases e with
   | normal =>
    show(evP P (.code p1 ((yt,.any)::fr) K) >>= _)=PA P c none yd args p2 (evP P (.code p1 ((yt,.any)::fr) K))
    cases evP P (.code p1 ((yt,.any)::fr) K)with
    |none=>rfl
    | some r => cases r with
     | ok e fr K =>
      cases e with
      | normal =>
       show(evP P (.round c (opvL P.E args fr) ⟨K.os,K.os.length,[]⟩) >>= _)=oF P p2 yd fr K (evP P (.round c (opvL P.E args fr) ⟨K.os,K.os.length,[]⟩))
       cases evP P (.round c (opvL P.E args fr) ⟨K.os,K.os.length,[]⟩)with
       |none=>rfl
       | some r=>cases r with
        | ok e fr1 K1 =>
         show(evP P (.code p2 ((yd,.bool (wentOn e))::fr) ⟨K1.os,K.ext,K1.tch++K.tch⟩) >>= _)=OZ e (evP P (.code p2 ((yd,.bool (wentOn e))::fr) ⟨K1.os,K.ext,K1.tch++K.tch⟩))
         cases evP P (.code p2 ((yd,.bool (wentOn e))::fr) ⟨K1.os,K.ext,K1.tch++K.tch⟩)with
         |none=>rfl
         | some r=>cases r with
          |ok e fr K=>cases e<;>rfl
          |_=>rfl
        |_=>rfl
      |_=>rfl
     |_=>rfl
   |_=>rfl
  |_=>rfl
end
end Go.AM
