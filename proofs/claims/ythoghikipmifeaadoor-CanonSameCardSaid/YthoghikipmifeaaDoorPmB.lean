/- The tree machine: code as trees, memory by kept numbers, and that it says what the machine does. Conditions: none. -/
import Derived.Test.YthoghikipmifeaaDoorPmA
set_option linter.unusedVariables false
set_option linter.unusedSimpArgs false
set_option linter.unusedSectionVars false
set_option linter.defProp false
set_option maxHeartbeats 4000000
open List renaming mem_of_getElem?→zqa,getElem?_eq_getElem→zqb,getElem?_eq_some_iff→zqc,replicate→zqd,getElem?_of_mem→zqe,all_eq_true→zqf,getElem?_map→zqg,mem_cons_self→zqh,mem_cons→zqi,eq_nil_of_length_eq_zero→zqj,mem_append→zqk,append_nil→zql,getElem?_append_left→zqm,mem_map→zqn,getElem_mem→zqo,mem_replicate→zqp,mem_cons_of_mem→zqq,mem_filter→zqr,mem_singleton→zqs,append_eq_nil_iff→zqt,getElem?_take→zqu,nodup_cons→zqv,getElem?_append_right→zqw,getElem?_drop→zqx,mem_append_left→zqy,getD_eq_getElem?_getD→zqz,length_eq_one_iff→zka
open Nat renaming le_refl→zkb,lt_of_lt_of_le→zkc,ble_eq_true_of_le→zkd,beq_refl→zke,le_trans→zkf,eq_of_beq_eq_true→zkg
open Bool renaming and_eq_true_iff→zkh,and_eq_true→zki,or_eq_true_iff→zkj
namespace Go.AM
section
variable {E:Env}{R:AV->AV->Prop}{Z Z':Nat->Prop}{ow ow' ow1 ow2:Nat->Option (List Nat)}{h h':Heap}{K K':PK}{os os' os1 os2:List PO}{x y xc yc v:AV}{L M:List Nat}
def VO(Z:Nat->Prop)(ow:Nat->Option (List Nat))(h:Heap)(os:List PO)(a b:Option AV):Prop:=(a=none/\b=none)\/∃x y,a=some x/\b=some y/\VR Z ow h os x y
theorem bH(hg:uU E){nt:Nat}{frc:Tr}{fr:PF}(a:FrR Z ow h os nt frc fr)(o:Option Operand):VO Z ow h os (Kx E o frc) (bA E o fr):=by
 cases o with
 |none=>exact .inl ⟨rfl,rfl⟩
 |some o=>exact .inr ⟨_,_,rfl,rfl,Bz hg a o⟩
theorem F5{a b:Option AV}{d n:Nat}(hv:VO Z ow h os a b)(e:D6 b d=some n):D6 a d=some n:=by
 rcases hv with⟨rfl,rfl⟩|⟨x,y,rfl,rfl,hv⟩
 . exact e
 . exact m6 hv e
theorem VO.isS{a b:Option AV}(hv:VO Z ow h os a b):a.isSome=b.isSome/\a.isNone=b.isNone:=by
 rcases hv with⟨rfl,rfl⟩|⟨x,y,rfl,rfl,hv⟩<;>exact⟨rfl,rfl⟩
theorem Ab{a b:Nat}:Nat.ble a b=true↔a<=b:=(by simp_all)
def AT(mx:Option AV)(f:Bool)(m r n:Nat):Bool:=match mx with|some _=>Nat.beq m r|none=>f&&Nat.beq r n
theorem fH{sz:Nat}{es:List AV}{f:Bool}{lo hi mx:Option AV}(e:Gg sz es f lo hi mx=some v):∃l r m,D6 lo 0=some l/\D6 hi es.length=some r/\D6 mx es.length=some m/\l<=r/\r<=m/\m<=es.length/\Y2 sz es=true/\v=.fsl ((es.drop l).take (r-l)) (AT mx f m r es.length):=by
 unfold Gg at e;obtain⟨l,h1,e⟩:=A0 e;obtain⟨r,h2,e⟩:=A0 e;obtain⟨m,h3,e⟩:=A0 e;obtain⟨h4,e⟩:=A7 e;rw[A5]at h2 h3 h4 e;simp only[zki,Ab]at h4;rw[G3,G2]at e;cases e;exact⟨l,r,m,h1,h2,h3,h4.1.1.1,h4.1.1.2,h4.1.2,h4.2,rfl⟩
theorem pL{sz:Nat}{es:List AV}{f:Bool}{lo hi mx:Option AV}{l r m:Nat}(h1:D6 lo 0=some l)(h2:D6 hi es.length=some r)(h3:D6 mx es.length=some m)(h4:l<=r)(h5:r<=m)(h6:m<=es.length)(h7:Y2 sz es=true):Gg sz es f lo hi mx=some (.fsl ((es.drop l).take (r-l)) (AT mx f m r es.length)):=by
 unfold Gg;rw[h1];show A4 (D6 hi (lenL es)) _=_
 rw[A5,h2];show A4 (D6 mx es.length) _=_
 rw[h3];show A9 (Nat.ble l r&&Nat.ble r m&&Nat.ble m es.length&&Y2 sz es) _=_
 rw[Ab.2 h4,Ab.2 h5,Ab.2 h6,h7,G3,G2];rfl
theorem fI{ts id off n sz:Nat}{lo hi mx:Option AV}(e:Kv ts id off n sz lo hi mx=some v):∃l r m,D6 lo 0=some l/\D6 hi n=some r/\D6 mx n=some m/\l<=r/\r<=m/\m<=n/\sz=ts/\v=.msl id (off+l) (r-l) sz:=by
 unfold Kv at e;obtain⟨l,h1,e⟩:=A0 e;obtain⟨r,h2,e⟩:=A0 e;obtain⟨m,h3,e⟩:=A0 e;obtain⟨h4,e⟩:=A7 e;simp only[zki,Ab]at h4;rw[B7,B7]at e;simp_all
theorem Xq{ts id off n:Nat}{lo hi mx:Option AV}{l r m:Nat}(h1:D6 lo 0=some l)(h2:D6 hi n=some r)(h3:D6 mx n=some m)(h4:l<=r)(h5:r<=m)(h6:m<=n):Kv ts id off n ts lo hi mx=some (.msl id (off+l) (r-l) ts):=by
 unfold Kv;rw[h1];show A4 (D6 hi n) _=_
 rw[h2];show A4 (D6 mx n) _=_
 rw[h3];show A9 (Nat.ble l r&&Nat.ble r m&&Nat.ble m n&&Nat.beq ts ts) _=_
 rw[Ab.2 h4,Ab.2 h5,Ab.2 h6,zke,B7,B7];rfl
theorem jJ{d:TD}{lo hi mx lo' hi' mx':Option AV}(hlo:VO Z ow h os lo' lo)(hhi:VO Z ow h os hi' hi)(hmx:VO Z ow h os mx' mx)(hx:VR Z ow h os xc x)(e:aY E d lo hi mx x=some v):∃vc,sliceA E d lo' hi' mx' xc=some vc/\VR Z ow h os vc v:=by
 have str:∀{s:List UInt8}{v:AV},Cs s lo hi mx=some v->Cs s lo' hi' mx'=some v/\∃s',v=.str s':=fun{s v} e=>by
  unfold Cs at e|-;obtain⟨l,h1,e⟩:=A0 e;obtain⟨r,h2,e⟩:=A0 e;obtain⟨h3,e⟩:=A7 e;rw[F5 hlo h1];show A4 (D6 hi' (j1 s)) _=_/\_
  rw[F5 hhi h2];show A9 (Nat.ble l r&&Nat.ble r (j1 s)&&mx'.isNone) _=_/\_
  rw[hmx.isS.2,h3];cases e;exact⟨rfl,_,rfl⟩
 have msl:∀{id off n sz},x=.msl id off n sz->sliceA E d lo hi mx x=some v->∃vc,sliceA E d lo' hi' mx' xc=some vc/\VR Z ow h os vc v:=fun{id off n sz} hxe e=>by
  subst hxe;cases d with
  |string=>cases e
  | slice el =>
   have e:onTI E el none (fun te=>Kw te.size lo hi mx (.msl id off n sz))=some v:=e;show ∃vc,onTI E el none (fun te=>Kw te.size lo' hi' mx' xc)=some vc/\_
   unfold onTI at e|-;cases ht:E.ti el with
   |none=>rw[ht]at e;cases e
   | some te =>
    rw[ht]at e;simp only at e|-;have e:Kv te.size id off n sz lo hi mx=some v:=e;obtain⟨l,r,m,h1,h2,h3,h4,h5,h6,rfl,rfl⟩:=fI e;cases hx with
    |fz z=>cases z
    | mnil em hn hi0 =>
     have q1:=F5 hlo h1;have q2:=F5 hhi h2;have q3:=F5 hmx h3;obtain rfl:m=0:=by omega
     obtain rfl:r=0:=by omega
     obtain rfl:l=0:=by omega
     rcases em with rfl|rfl
     all_goals
      refine⟨.nilsl,?_,.mnil (.inl rfl) hn hi0⟩;show Yh lo' hi' mx'=some .nilsl
      unfold Yh;rw[q1];show A4 (D6 hi' 0) _=_
      rw[q2];show A4 (D6 mx' 0) _=_
      rw[q3];rfl
    | msl a b =>
     refine⟨_,Xq (F5 hlo h1) (F5 hhi h2) (F5 hmx h3) h4 h5 h6,?_⟩;exact .msl a b
  |_=>cases e
 cases x with
 |nilsl=>cases e
 | msl id off n sz =>
  exact msl rfl e
 | fsl es f =>
  have e:(if es.isEmpty||mx.isSome then none else(sliceA E d lo hi mx (.fsl es f)).map fun y=>match y with | .fsl l _=>.fsl l l.isEmpty|y=>y)=some v:=e;split at e
  . cases e
  . rename_i hne
    cases hq:sliceA E d lo hi mx (.fsl es f)with
    |none=>rw[hq]at e;cases e
    | some w =>
     rw[hq]at e;cases d with
     |string=>cases hq
     | slice el =>
      have hq:onTI E el none (fun te=>Kw te.size lo hi mx (.fsl es f))=some w:=hq;show ∃vc,onTI E el none (fun te=>Kw te.size lo' hi' mx' xc)=some vc/\_
      unfold onTI at hq|-;cases ht:E.ti el with
      |none=>rw[ht]at hq;cases hq
      | some te =>
       rw [ht]at hq;simp only at hq|-;have hq:Gg te.size es f lo hi mx=some w:=hq;obtain⟨l,r,m,h1,h2,h3,h4,h5,h6,h7,rfl⟩:=fH hq;cases e;obtain⟨u,us,rfl⟩:∃u us,es=u::us:=by cases es with
        |nil=>grind
        |cons u us=>grind
       have hmn:mx'=none:=by
        cases hm:mx' with
        |none=>rfl
        | some q =>
         have h8:=hmx.isS.1;grind
       have hu:u.cells.length=te.size:=by
        have h7:Nat.beq (lenL u.cells) te.size=true:=h7;grind[A5,zkg]
       cases hx with
       | fz z =>
        cases z with
        | fsl g1 g2 g3 =>
         rename_i es0 f0;obtain⟨u0,us0,rfl⟩:∃u us,es0=u::us:=by cases es0 with
          |nil=>simp at g1
          |cons u us=>grind
         have hu0:=(g2 0 u0 u rfl rfl).shape.1;refine⟨_,pL (sz:=te.size) (es:=u0::us0) (f:=f0) (F5 hlo h1) (F5 hhi (by grind)) (F5 hmx (by grind)) h4 h5 (by grind) (by show Nat.beq (lenL u0.cells) te.size=true;simp_all[A5]),?_⟩;refine .fz (.fsl (by grind) (fun i x y hx hy=>?_) (by rw[hmn,g3];rfl));grind
        | view g1 g2 g3 g4 g5 g6 =>
         rename_i id off n sz row;have hl0:off<row.length:=by grind
         have hz0:=g5 0 _ u (zqb hl0) rfl;have hsz:sz=te.size:=by rw[<-g6 0 _ (by grind) (zqb hl0),hz0.shape.1,hu]
         subst hsz;rw[g4]at h2 h3 h6;refine⟨_,Xq (id:=id) (off:=off) (F5 hlo h1) (F5 hhi h2) (F5 hmx h3) h4 h5 h6,?_⟩;refine .fz (.view (row:=row) g1 g2 (by omega) (by grind) (fun i x y hx hy=>?_) (fun i x hi hx=>g6 (l+i) x (by omega) (by grind)));grind
     |_=>cases hq
 | str s =>
  cases d with
  | string =>
   rw[hx.isS];obtain⟨h1,s',rfl⟩:=str (show Cs s lo hi mx=some v from e);exact⟨_,h1,.fz (.str s')⟩
  | slice el =>
   have e:onTI E el none (fun te=>Kw te.size lo hi mx (.str s))=some v:=e;unfold onTI at e;cases ht:E.ti el with
   |none=>simp_all
   |some te=>rw[ht]at e;cases e
  |_=>cases e
 | _ =>
  cases d with
  | slice el =>
   have e:onTI E el none (fun te=>none)=some v:=e;unfold onTI at e;cases ht:E.ti el with
   |none=>simp_all
   |some te=>simp_all
  |_=>cases e
theorem KZ(s:F6 Z ow h K.os){id:Nat}{es:List (AV×AV)}(hm:K.os[id]?=some (.mapo es))(hx:VR Z ow h K.os xc (.map id)):∃c ces,xc=.map c/\MapR Z ow h id es c ces:=by
 obtain⟨c0,ces,g⟩:=s.map id es hm;cases hx with
 |fz z=>cases z
 | map a b =>
  have h1:=a [id] (by grind[loP])
  have:=s.inj _ _ _ h1 g.o
  grind
theorem vB{α:Type}{h:Heap}{id:Nat}{es:List (AV×AV)}{d:α}{f:List (AV×AV)->α}(hg:h.get id=some (.mapo es)):h.onMapo id d f=f es:=by
 grind[Heap.onMapo]
theorem vC(s:F6 Z ow h K.os){d:TD}{n:Nat}(hx:VR Z ow h K.os xc x)(e:DU d x K=some n):gL d xc h=some n:=by
 cases d with
 |string=>obtain⟨s',rfl,e1⟩:=I9 (show x.onStr none (fun s=>some (j1 s))=some n from e);rw[hx.isS];exact e
 | slice el =>
  have e:cH x=some n:=e;show cH xc=some n
  cases x with
  |nilsl=>rw[hx.isN];exact e
  | fsl es f =>
   have e:some (lenL es)=some n:=e;rw[A5]at e;cases e;cases hx with
   | fz z =>
    cases z with
    |emp em=>cases em<;>rfl
    |fsl h1 _ _=>show some (lenL _)=_;rw[A5,h1]
    |view _ _ _ h4 _ _=>show some _=some _;rw[h4]
  | msl id off m sz =>
   cases e;cases hx with
   |fz z=>cases z
   |mnil em _ _=>rcases em with rfl|rfl<;>rfl
   |msl=>rfl
  |_=>cases e
 | map a b =>
  show qJ xc h=some n
  cases x with
  |nilmap=>cases hx with|fz z=>cases z;exact e
  | map id =>
   have e:(match K.os[id]? with|some (.mapo es)=>some (nD es)|_=>none)=some n:=e;cases hm:K.os[id]? with
   |none=>grind
   | some q =>
    rw[hm]at e;cases q with
    | mapo es =>
     obtain⟨c,ces,rfl,g⟩:=KZ s hm hx;show h.onMapo c none (fun es=>some (nD es))=some n
     rw[vB g.get,Pe,g.len,<-Pe];exact e
    |_=>cases e
  |_=>cases e
 |_=>cases e
theorem fJ:∀(l lc:List AV)(x xc v:AV),VL Z ow h os lc l->VR Z ow h os xc x->Ku l x=some v->∃vc,Ku lc xc=some vc/\VR Z ow h os vc v
 | [],lc,x,xc,v,hl,hx,e=>by
  have:lc=[]:=zqj hl.1
  subst this;cases e;exact⟨xc,rfl,hx⟩
 |y::l,[],x,xc,v,hl,hx,e=>by have:=hl.1;simp at this
 | y::l,yc::lc,x,xc,v,hl,hx,e=>by
  have e:(x.onInt none fun k a=>y.onInt none fun _ b=>Ku l (.int k (bif intLe b a then a else b)))=some v:=e;obtain⟨k,a,rfl,e1⟩:=B4 e;obtain⟨_,b,rfl,e2⟩:=B4 e1;rw[hx.isI,hl.inv.1.isI];exact fJ l lc _ _ v hl.inv.2 (.i _ _) e2
theorem fK:∀(l lc:List AV)(x xc v:AV),VL Z ow h os lc l->VR Z ow h os xc x->Ns l x=some v->∃vc,Ns lc xc=some vc/\VR Z ow h os vc v
 | [],lc,x,xc,v,hl,hx,e=>by
  have:lc=[]:=zqj hl.1
  subst this;cases e;exact⟨xc,rfl,hx⟩
 |y::l,[],x,xc,v,hl,hx,e=>by have:=hl.1;simp at this
 | y::l,yc::lc,x,xc,v,hl,hx,e=>by
  have e:(x.onInt none fun k a=>y.onInt none fun _ b=>Ns l (.int k (bif intLe a b then a else b)))=some v:=e;obtain⟨k,a,rfl,e1⟩:=B4 e;obtain⟨_,b,rfl,e2⟩:=B4 e1;rw[hx.isI,hl.inv.1.isI];exact fK l lc _ _ v hl.inv.2 (.i _ _) e2
def VQ(Z:Nat->Prop)(ow:Nat->Option (List Nat))(h:Heap)(os:List PO)(ps qs:List (Nat×AV)):Prop:=ps.length=qs.length/\∀(i:Nat) p q,ps[i]?=some p->qs[i]?=some q->p.1=q.1/\VR Z ow h os p.2 q.2
theorem Kl(hg:uU E){nt:Nat}{frc:Tr}{fr:PF}(a:FrR Z ow h os nt frc fr):∀l:List (Nat×Operand),VQ Z ow h os (opvps E l frc) (aZ E l fr)
 |[]=>⟨rfl,fun i p q hp=>by cases i<;>cases hp⟩
 | o::l=>⟨congrArg Nat.succ (Kl hg a l).1,fun i p q hp hq=>by
  cases i with
  |zero=>cases hp;cases hq;exact⟨rfl,Bz hg a o.2⟩
  |succ i=>exact(Kl hg a l).2 i p q hp hq⟩
theorem VQ.inv{p q:Nat×AV}{ps qs:List (Nat×AV)}(v:VQ Z ow h os (p::ps) (q::qs)):(p.1=q.1/\VR Z ow h os p.2 q.2)/\VQ Z ow h os ps qs:=⟨v.2 0 p q rfl rfl,by have:=v.1;grind,fun i p q hp hq=>v.2 (i+1) p q hp hq⟩
theorem jK{xs ys us vs:List AV}{off:Nat}(a:VL Z ow h os xs ys)(b:VL Z ow h os us vs):VL Z ow h os (M5 xs off us) (M5 ys off vs):=by
 rw[Q9,Q9];grind[lsplice,VL]
theorem yT{v vc:AV}(hv:VR Z ow h os vc v)(ho:D3 v.cells=true):D3 vc.cells=true/\vc.cells.length=v.cells.length/\VL Z ow h os vc.cells v.cells:=by
 rw[F9]at ho;have hne:v≠.und:=fun e=>by subst e;exact absurd (ho .und (zqh ..)) (by decide)
 have hl:=hv.cells hne;refine⟨(F9 _).2 fun c hc=>?_,hl.1,hl⟩;obtain⟨i,hi⟩:=zqe hc;have hlt:i<v.cells.length:=by rw[<-hl.1];grind
 have hok:=ho _ (zqo hlt);refine(hl.2 i c _ hi (zqb hlt)).okc ?_
 revert hok
 cases v.cells[i]<;>intro hok<;>first|rfl|cases hok
theorem Mc(place:Nat->Option (Nat×Nat)):∀(ps qs:List (Nat×AV))(xs ys zs:List AV),VQ Z ow h os ps qs->VL Z ow h os xs ys->M2 place qs ys=some zs->∃ws,M2 place ps xs=some ws/\VL Z ow h os ws zs
 |[],[],xs,ys,zs,_,hl,e=>by cases e;exact⟨xs,rfl,hl⟩
 |[],q::qs,xs,ys,zs,hv,hl,e=>by have:=hv.1;simp at this
 |p::ps,[],xs,ys,zs,hv,hl,e=>by have:=hv.1;simp at this
 | p::ps,q::qs,xs,ys,zs,hv,hl,e=>by
  have e:A4 (place q.1) (fun w=>A9 (Nat.beq (lenL q.2.cells) w.2&&Nat.ble (Nat.add w.1 w.2) (lenL ys)&&D3 q.2.cells) (M2 place qs (M5 ys w.1 q.2.cells)))=some zs:=e;obtain⟨w,h1,e⟩:=A0 e;obtain⟨h2,e⟩:=A7 e;rw[zki,zki]at h2;obtain⟨⟨h3,h4⟩,h5⟩:=h2;obtain⟨⟨h6,h7⟩,h8⟩:=hv.inv;obtain⟨g1,g2,g3⟩:=yT h7 h5;obtain⟨ws,h9,h10⟩:=Mc place ps qs _ _ zs h8 (jK (off:=w.1) hl g3) e;refine⟨ws,?_,h10⟩;show A4 (place p.1) (fun w=>A9 (Nat.beq (lenL p.2.cells) w.2&&Nat.ble (Nat.add w.1 w.2) (lenL xs)&&D3 p.2.cells) (M2 place ps (M5 xs w.1 p.2.cells)))=some ws
  rw[h6,h1];show A9 (Nat.beq (lenL p.2.cells) w.2&&Nat.ble (Nat.add w.1 w.2) (lenL xs)&&D3 p.2.cells) _=_
  rw[A5,g2,<-A5,h3,A5,hl.1,<-A5,h4,g1];exact h9
theorem jL(hT:DZ E){t:Nat}{ti:TI}(ht:E.ti t=some ti){ps qs:List (Nat×AV)}(hv:VQ Z ow h os ps qs)(e:M7 E ti qs=some v):∃vc,M7 E ti ps=some vc/\VR Z ow h os vc v:=by
 have hz:VL Z ow h os ti.zero.cells ti.zero.cells:=⟨rfl,fun i x y hx hy=>.fz (((hT t ti ht).1 Z h).cell hx hy).1⟩
 unfold M7 at e|-;cases hd:ti.desc with
 | struct fields f =>
  rw[hd]at e;simp only at e|-;cases hq:M2 (fun i=>A4 (Ic fields i) fun f=>onTI E f.1 none fun g=>some (f.2,g.size)) qs ti.zero.cells with
  |none=>grind
  | some zs =>
   rw[hq]at e;cases e;obtain⟨ws,h1,h2⟩:=Mc _ ps qs _ _ zs hv hz hq;rw[h1];exact⟨_,rfl,.agL h2⟩
 | array len el =>
  rw[hd]at e;simp only at e|-;unfold onTI at e|-;cases ht:E.ti el with
  |none=>simp_all
  | some te =>
   rw[ht]at e;simp only at e|-;cases hq:M2 (fun i=>some (Nat.mul i te.size,te.size)) qs ti.zero.cells with
   |none=>grind
   | some zs =>
    rw[hq]at e;cases e;obtain⟨ws,h1,h2⟩:=Mc _ ps qs _ _ zs hv hz hq;rw[h1];exact⟨_,rfl,.agL h2⟩
 |_=>grind
end
section
variable {E:Env}{R:AV->AV->Prop}{Z Z':Nat->Prop}{ow ow' ow1 ow2:Nat->Option (List Nat)}{h h':Heap}{K K':PK}{os os' os1 os2:List PO}{x y xc yc v k:AV}{L M:List Nat}
theorem withAll{v e:AV}(ha:isAg v=isAg e)(hl:v.cells.length=e.cells.length)(hok:∀c∈v.cells,isAg c=false):e.withCells 0 v.cells=v:=by
 cases hv:isAg v with
 | true =>
  rw[hv]at ha;cases v with
  | agg vs =>
   cases e with
   | agg es =>
    show AV.agg (M5 es 0 vs)=.agg vs
    rw[Q9];unfold lsplice;have hl:vs.length=es.length:=hl;grind
   |_=>cases ha
  |_=>cases hv
 | false =>
  rw[hv]at ha;rw[C4 hv];cases e<;>first|rfl|cases ha
theorem F6.congr(s:F6 Z ow h os)(hn:h'.next=h.next)(hg:∀d,h'.get d=h.get d):F6 Z ow h' os:=by
 have hz:∀d,Z d->Z d/\h'.get d=h.get d:=fun d hd=>⟨hd,hg d⟩
 have key:PT (VR Z ow h os) Z ow h' os:=by
  refine⟨fun r es sz hr=>?_,fun r k es sz hr hk=>?_,fun r es hr=>?_,s.inj,fun a M ha=>?_,fun a ha=>by rw[hn];exact s.zb a ha,s.sb⟩
  . obtain⟨x,hx⟩:=s.row r es sz hr
    exact⟨x,hx.reloc (Nat.le_of_eq hn.symm) hz (fun _ _=>.rfl) (fun d _ _=>hg d)⟩
  . obtain⟨c,ces,g⟩:=s.raw r k es sz hr hk
    exact⟨c,ces,g.o,by rw[hn];exact g.lt,(hg c).trans g.get,g.sh,g.vr,g.okp,g.no⟩
  . obtain⟨c,ces,g⟩:=s.map r es hr
    exact⟨c,ces,g.o,by rw[hn];exact g.lt,(hg c).trans g.get,g.len,fun i x y hx hy=>⟨(g.kv i x y hx hy).1,(g.kv i x y hx hy).2.mono hz⟩,g.no⟩
  . obtain⟨h1,h2⟩:=s.live a M ha
    grind
 exact F6.to key hz (.refl _ _)
end
section
variable {E:Env}{R:AV->AV->Prop}{Z Z':Nat->Prop}{ow ow' ow1 ow2:Nat->Option (List Nat)}{h h':Heap}{K K':PK}{os os' os1 os2:List PO}{x y xc yc v k:AV}{L M:List Nat}
theorem fL(v:AV):Jx v=isAg v:=by cases v<;>rfl
theorem jM{t:TI}{c i off sz:Nat}{es:List AV}(hg:h.get c=some (.row es sz))(e:Bj t (.ptr c i off) v h=some h'):∃old,es[i]?=some old/\v.cells.length=t.size/\D3 v.cells=true/\h'=h.set c (.row (es.set i (old.withCells off v.cells)) sz):=by
 have e:h.onRow c none (Qc t c i off v.cells h)=some h':=e;rw[Eu hg]at e;obtain⟨old,h1,e⟩:=A0 e;obtain⟨h2,e⟩:=A7 e;rw[O6]at h1;rw[zki,zki,zki]at h2;simp only[x6]at e;cases e;refine⟨old,h1,?_,h2.2,rfl⟩;grind[zkg,A5]
theorem pM{t:TI}{p x:AV}(hs:storeP t p x K=some K'):x≠.und:=fun e=>by
 subst e;unfold storeP at hs;cases p with
 | ptr n i off =>
  simp only at hs;cases hr:rowOf K.os 6 n with
  |none=>grind
  | some t' =>
   obtain⟨k,es,sz⟩:=t';rw[hr]at hs;simp only at hs;cases hi:es[i]? with
   |none=>grind
   | some u =>
    rw[hi]at hs;simp only at hs;split at hs
    . cases hraw:rawAt K.os n with
      | true =>
       rw[hraw]at hs;simp only at hs;split at hs
       . rename_i hok;exact absurd hok (by decide)
       . cases hs
      | false =>
       rw[hraw]at hs;simp only at hs;have e1:(AV.und.cells.all clo&&((u.cells.drop off).take t.size).all clo)=false:=rfl;rw[e1]at hs;simp only[Bool.false_eq_true,if_false]at hs;cases hq:setRow (killP K.os (rootOf K.os 6 n) (chainOf K.os 6 n)) 6 n (es.set i (u.withCells off (zqd t.size .und)))with
       |none=>grind
       | some os0 =>
        rw[hq]at hs;simp only at hs;have e2:sealC K.ext (rootOf K.os 6 n) n i off os0 AV.und.cells=none:=rfl;grind
    . cases hs
 |_=>cases hs
theorem Xr{te:TI}{n c:Nat}:∀(qs ps:List (Nat×AV))(K K':PK)(ow:Nat->Option (List Nat))(h:Heap)(ces:List AV),F6 Z ow h K.os->VQ Z ow h K.os ps qs->(∀i,VR Z ow h K.os (.ptr c i 0) (.ptr n i 0))->h.get c=some (.row ces te.size)->(∀e∈ces,isAg e=isAg te.zero/\e.cells.length=te.size)->placeP te n qs K=some K' ->
 ∃ces' h' ow',placeL te.size ps ces=some ces'/\F6 Z ow' h' K'.os/\Keep' ow K.os ow' K'.os/\Stp K.ext Z ow h K Z ow' h' K'/\h'.get c=some (.row ces' te.size)/\(∀d,d≠c->h'.get d=h.get d)/\h'.next=h.next
 | [],ps,K,K',ow,h,ces,s,hv,hp,hg,hsh,e=>by
  have:ps=[]:=zqj hv.1
  subst this;cases e;exact⟨ces,h,ow,rfl,s,.refl _ _,.refl _ _ _ _ _,hg,fun _ _=>rfl,rfl⟩
 |q::qs,[],K,K',ow,h,ces,s,hv,hp,hg,hsh,e=>by have:=hv.1;simp at this
 | q :: qs,p::ps,K,K',ow,h,ces,s,hv,hp,hg,hsh,e=>by
  obtain⟨⟨hi,hvr⟩,hvs⟩:=hv.inv;obtain⟨i,qv⟩:=q;obtain⟨i',pv⟩:=p;have hi:i'=i:=hi;subst hi;unfold placeP at e;split at e
  . rename_i hag
    rw[fL,fL]at hag;cases hs:storeP te (.ptr n i' 0) qv K with
    |none=>rw[hs]at e;cases e
    | some K1 =>
     rw[hs]at e;simp only at e;obtain⟨h1,ow1,g1,g2,g3,g4⟩:=Xo s (hp i') hvr hs;obtain⟨old,o1,o2,o3,rfl⟩:=jM hg g1;have hne:qv≠.und:=pM hs;have hsv:=hvr.shape hne;have hol:=hsh old (zqa o1);have hokc:=(F9 _).1 o3;have hwa:old.withCells 0 pv.cells=pv:=(by grind[Go.AM.withAll,Go.AM.okCell_nag])
     rw[hwa]at g1 g2 g4;have hlt:i'<ces.length:=(zqc.1 o1).1;have hz1:∀d,Z d->Z d/\(h.set c (.row (ces.set i' pv) te.size)).get d=h.get d:=fun d hd=>(g4 0).zz d hd
     obtain ⟨ces',h2,ow2,a1,a2,a3,a4,a5,a6,a7⟩:=Xr qs ps K1 K' ow1 (h.set c (.row (ces.set i' pv) te.size)) (ces.set i' pv) g2 ⟨hvs.1,fun j p q hp hq=>⟨(hvs.2 j p q hp hq).1,(hvs.2 j p q hp hq).2.keep hz1 g3⟩⟩ (fun j=>(hp j).keep hz1 g3) (Heap.get_set_eq _ _ hg) (fun e he=>by
      rcases List.mem_or_eq_of_mem_set he with h|h
      . exact hsh e h
      . subst h;exact⟨by rw[hsv.2,hag],o2⟩) e
     refine⟨ces',h2,ow2,?_,a2,g3.trans a3,(g4 K.ext).trans s (by grind),a5,(by grind[Go.AM.Heap.get_set_ne]),a7⟩;show A9 (Nat.blt i' (lenL ces)&&Nat.beq (lenL pv.cells) te.size&&D3 pv.cells) (placeL te.size ps (setL ces i' pv))=some ces'
     rw[A5,A5,o2,zke,o3,x6]
     have:Nat.blt i' ces.length=true:=zkd hlt
     rw[this];exact a1
  . cases e
theorem yU{t n:Nat}{ps:Array (Nat×Operand)}{ti te:TI}{fr:Tr}{es:List AV}(ht:E.ti t=some ti)(hte:elemOfT E ti.desc=some te)(h1:n*te.size<=65536)(h2:0<te.size)(hp:placeL te.size (opvps E ps.toList fr) (zqd n te.zero)=some es):J9 E t n ps fr h=.ok (.msl h.next 0 n te.size) (h.push (.row es te.size)):=by
 unfold J9 onTI;rw[ht];simp only;rw[hte];show(bif Nat.ble (Nat.mul n te.size) 65536&&Nat.blt 0 te.size then(match placeL te.size (opvps E ps.toList fr) (repL n te.zero)with|none=>Res.bad|some es=>.ok (.msl h.next 0 n te.size) (h.push (.row es te.size)))else .bad)=_
 have e1:Nat.ble (Nat.mul n te.size) 65536=true:=zkd h1;grind[Nat.blt,zkd,d8]
theorem Ue{sz:Nat}:∀(qs ps:List (Nat×AV))(ys xs zs:List AV),VQ Z ow h os ps qs->xs.length=ys.length->(∀(i:Nat) x y,xs[i]?=some x->ys[i]?=some y->VR Z ow h os x y/\y.cells.length=sz/\∀b∈y.cells,Eb b=true)->placeR sz qs ys=some zs->∃ws,placeL sz ps xs=some ws/\ws.length=zs.length/\zs.length=ys.length/\∀(i:Nat) x y,ws[i]?=some x->zs[i]?=some y->VR Z ow h os x y/\y.cells.length=sz/\∀b∈y.cells,Eb b=true
 | [],ps,ys,xs,zs,hv,hl,hr,e=>by
  have:ps=[]:=zqj hv.1
  subst this;cases e;exact⟨xs,rfl,hl,rfl,hr⟩
 |q::qs,[],ys,xs,zs,hv,hl,hr,e=>by have:=hv.1;simp at this
 | q :: qs,p::ps,ys,xs,zs,hv,hl,hr,e=>by
  obtain⟨⟨hi,hvr⟩,hvs⟩:=hv.inv;obtain⟨i,qv⟩:=q;obtain⟨i',pv⟩:=p;have hi:i'=i:=hi;subst hi;unfold placeR at e;split at e
  . rename_i hc
    obtain⟨h1,h2,h3⟩:=hc;rw[zqf]at h3;have hne:qv≠.und:=fun e=>by subst e;exact absurd (h3 .und (zqh ..)) (by decide)
    have hvl:=hvr.cells hne;have hok:D3 pv.cells=true:=(F9 _).2 fun c hc=>by
     obtain⟨j,hj⟩:=zqe hc;have hjl:j<qv.cells.length:=by rw[<-hvl.1];grind
     exact(hvl.2 j c _ hj (zqb hjl)).okc (h3 _ (zqo hjl))
    obtain⟨ws,a1,a2,a3,a4⟩:=Ue qs ps (ys.set i' qv) (xs.set i' pv) zs hvs (by simp[hl]) (by grind) e;refine⟨ws,?_,a2,by grind,a4⟩;show A9 (Nat.blt i' (lenL xs)&&Nat.beq (lenL pv.cells) sz&&D3 pv.cells) (placeL sz ps (setL xs i' pv))=some ws
    rw[A5,A5,hvl.1,h2,zke,hok,x6]
    have:Nat.blt i' xs.length=true:=zkd (by omega)
    rw[this];exact a1
  . cases e
theorem jN(hT:DZ E)(s:F6 Z ow h K.os)(hx:K.ext<=K.os.length){n e:Nat}{te:TI}(hte:E.ti e=some te){ps qs:List (Nat×AV)}(hv:VQ Z ow h K.os ps qs)(e:Ba te n qs K=some (v,K')):
 n*te.size<=65536/\0<te.size/\∃es ow',placeL te.size ps (zqd n te.zero)=some es/\F6 Z ow' (h.push (.row es te.size)) K'.os/\Keep' ow K.os ow' K'.os/\VR Z ow' (h.push (.row es te.size)) K'.os (.msl h.next 0 n te.size) v/\∀b,Stp b Z ow h K Z ow' (h.push (.row es te.size)) K':=by
 have hz:=hT _ _ hte;have hgl:∀ob d,d<h.next->(h.push ob).get d=h.get d:=fun ob d hd=>Heap.get_push_ne h _ (by omega)
 unfold Ba at e;split at e
 . rename_i hc
   refine⟨hc.1,hc.2,?_⟩;have hrep:∀{i:Nat}{x:AV},(zqd n te.zero)[i]?=some x->x=te.zero:=fun{i x} h=>(zqp.1 (zqa h)).2
   cases hp:placeP te K.os.length qs (newRow 0 (zqd n te.zero) te.size K)with
   | some K1 =>
    rw[hp]at e;cases e;obtain⟨z1,z2,z3,z4⟩:=fC (n:=n) s hx hz.1 hz.2;have hzz:∀d,Z d->Z d/\(h.push (.row (zqd n te.zero) te.size)).get d=h.get d:=fun d hd=>⟨hd,hgl _ d (s.zb d hd)⟩
    have hpt:∀i,VR Z (X7 ow h.next [K.os.length]) (h.push (.row (zqd n te.zero) te.size)) (newRow 0 (zqd n te.zero) te.size K).os (.ptr h.next i 0) (.ptr K.os.length i 0):=fun i=>.ptr (fun L hL=>by
     have hL:loP (K.os++[PO.row 0 (zqd n te.zero) te.size]) 6 K.os.length=some L:=hL;rw[Mb _ (.inl ⟨_,_,_,rfl⟩)]at hL;cases hL;exact R3 _ _ _) (by show _<(K.os++[PO.row 0 (zqd n te.zero) te.size]).length;simp)
    obtain⟨es,h2,ow2,a1,a2,a3,a4,a5,a6,a7⟩:=Xr qs ps _ _ _ _ (zqd n te.zero) z1 ⟨hv.1,fun i p q hp hq=>⟨(hv.2 i p q hp hq).1,(hv.2 i p q hp hq).2.keep hzz z2⟩⟩ hpt (Heap.get_push_eq h _) (fun e he=>by rw[(zqp.1 he).2];exact⟨rfl,hz.2⟩) hp;have hge:∀d,(h.push (.row es te.size)).get d=h2.get d:=(by grind[Go.AM.Heap.get_push_eq,Go.AM.Heap.get_push_ne])
    have hn2:(h.push (.row es te.size)).next=h2.next:=a7.symm;have st:=(z4 K.ext).trans s a4;have hkk:=z2.trans a3;refine⟨es,ow2,a1,a2.congr hn2 hge,hkk,(z3.keep (Z':=Z) (h':=h2) (fun d hd=>a4.zz d hd) a3).keep (fun d hd=>⟨hd,hge d⟩) (.refl _ _),fun b=>⟨Nat.le_succ _,fun d hd=>⟨hd,hgl _ d (s.zb d hd)⟩,fun _ hd=>.inl hd,fun d hd _=>hgl _ d hd,st.uo,⟨[],rfl,fun d hd=>by cases hd⟩,st.mv,st.tm,st.ex,st.xk,st.rd⟩⟩
   | none =>
    rw[hp]at e;simp only at e;cases hr:placeR te.size qs (zqd n te.zero)with
    |none=>grind
    | some zs =>
     rw [hr]at e;cases e;have hzc:∀b∈te.zero.cells,Eb b=true:=fun b hb=>by
      obtain⟨i,hi⟩:=zqe hb;exact clo_okP ((hz.1 Z h).cell hi hi).2
     obtain⟨ws,a1,a2,a3,a4⟩:=Ue qs ps (zqd n te.zero) (zqd n te.zero) zs hv rfl (fun i x y hx hy=>by rw[hrep hx,hrep hy];exact⟨.fz (hz.1 Z h),hz.2,hzc⟩) hr;have hne:∀y:AV,(∀b∈y.cells,Eb b=true)->y≠.und:=fun y hy e=>by subst e;exact absurd (hy .und (zqh ..)) (by decide)
     have he:(∃k es z',PO.row 2 zs te.size=.row k es z')\/∃es,PO.row 2 zs te.size=.mapo es:=.inl ⟨_,_,_,rfl⟩;have key:=PT.lay (ob:=.row ws te.size) s (e:=.row 2 zs te.size) (Bb _ he) (fun es z e=>by cases e) (fun k es z e hk=>by
      cases e;refine⟨h.next,ws,R3 _ _ _,Nat.lt_succ_self _,Pr h _,⟨a2,fun i x y hx hy=>?_⟩,fun i x y hx hy o a b ha hb=>?_,fun i y hy b hb=>?_,Kk s⟩
      . obtain⟨b1,b2,b3⟩:=a4 i x y hx hy
        have:=b1.shape (hne y b3)
        grind
      . obtain⟨b1,b2,b3⟩:=a4 i x y hx hy
        exact(b1.cells (hne y b3)).2 o a b ha hb
      grind) (fun es e=>by cases e)
     refine⟨ws,_,a1,F6.to key.1 (fun d hd=>⟨hd,hgl _ d (s.zb d hd)⟩) key.2,key.2,.msl (fun L hL=>?_) (by show _<(K.os++[PO.row 2 zs te.size]).length;simp),fun b=>Stp.lay s hx⟩;have hL:loP (K.os++[PO.row 2 zs te.size]) 6 K.os.length=some L:=hL;grind[Mb,R3]
 . cases e
end
section
variable {E:Env}{R:AV->AV->Prop}{Z Z':Nat->Prop}{ow ow' ow1 ow2:Nat->Option (List Nat)}{h h':Heap}{K K':PK}{os os' os1 os2:List PO}{x y xc yc v k:AV}{L M:List Nat}
def XW(Z:Nat->Prop)(h:Heap)(sz:Nat)(a b:AV):Prop:=(a.cells.length=sz/\b.cells.length=sz/\isAg a=isAg b)/\∀(o:Nat) u w,a.cells[o]?=some u->b.cells[o]?=some w->Fz Z h u w/\clo w=true
theorem Bc{es:List AV}(hf:Az es=true){i:Nat}{b:AV}(hb:es[i]?=some b){o:Nat}{w:AV}(hw:b.cells[o]?=some w):clo w=true:=
 zqf.1 (zqf.1 hf b (zqa hb)) w (zqa hw)
theorem vD{u w:AV}(c:CR Z ow h L u w)(hw:clo w=true):Fz Z h u w/\pV ow L:=by
 cases c with
 |val f _ n=>grind
 |und=>cases hw
 |nil=>cases hw
 |own=>cases hw
theorem jO{te:TI}{xs:List AV}{ext:Nat}(p:F6 Z ow h os)(hv:VR Z ow h os xc x)(ht:takeE te x ext [] os=some (xs,os2))(hf:Az xs=true):
 ∃xcs,elems xc h=some xcs/\F1 te.size xcs=true/\xcs.length=xs.length/\∀(i:Nat) a b,xcs[i]?=some a->xs[i]?=some b->XW Z h te.size a b:=by
 obtain⟨ow2,xcs,h1,h2,t⟩:=fF p hv ht;refine⟨xcs,h1,h2,t.ln,fun i a b ha hb=>?_⟩;rcases t.alt with⟨_,hz⟩|⟨q,c0,_,_,hs,_,hc,_⟩
 . obtain⟨f,hl⟩:=hz i a b ha hb
   have hne:b≠.und:=fun e=>by subst e;have:=Bc hf hb (o:=0) (w:=.und) rfl;cases this
   have hv:VR Z ow h os a b:=.fz f;refine⟨⟨(hv.shape hne).1.trans hl,hl,(hv.shape hne).2⟩,fun o u w hu hw=>?_⟩;have hw':=Bc hf hb hw;exact⟨((hv.cells hne).2 o u w hu hw).fzc hw',hw'⟩
 . refine⟨hs.2 i a b ha hb,fun o u w hu hw=>?_⟩
   have hw':=Bc hf hb hw;exact⟨(vD (hc i a b ha hb o u w hu hw) hw').1,hw'⟩
theorem Stp.more{b r:Nat}(s:Stp b Z ow h K Z' ow' h' K'):Stp b Z ow h K Z' ow' h' {K' with tch:=r::K'.tch}:=by
 obtain⟨l,e,f⟩:=s.th;refine⟨s.nx,s.zz,s.zn,s.un,s.uo,⟨l,e,fun id hi=>?_⟩,fun id r t ho hr=>?_,fun r hr hl=>zqq _ (s.tm r hr hl),s.ex,s.xk,s.rd⟩
 . grind
 . rcases s.mv id r t ho hr with h|h
   . exact .inl h
   grind
theorem yV{te:TI}{dc:AV}{id off n:Nat}{q:List AV×List PO}(s:F6 Z ow h K.os)(hd:VR Z ow h K.os dc (.msl id off n te.size))(hx:VR Z ow h K.os xc x)(hq:takeE te x K.ext [] K.os=some q)(e:lU te.size id off n q.1 K=some (v,K')):
 ∃xcs,elems xc h=some xcs/\F1 te.size xcs=true/\∃h',cI te dc xcs h=some (v,h')/\F6 Z ow h' K'.os/\Keep' ow K.os ow K'.os/\(∀b,Stp b Z ow h K Z ow h' K')/\VR Z ow h' K'.os v v:=by
 obtain⟨xs,os2⟩:=q;unfold lU at e;split at e
 . rename_i es z hro
   split at e
   . rename_i hc
     obtain ⟨rfl,hle,hfe,hfx⟩:=hc;obtain⟨xcs,g1,g2,g3,g4⟩:=jO s hx hq hfx;refine⟨xcs,g1,g2,?_⟩;have hlo:loP K.os 6 id=some [id]:=by
      show(match K.os[id]? with|some (.row _ _ _)=>some [id]|some (.mapo _)=>some [id]|some (.sub p i o)=>(loP K.os 5 p).map (· ++ [i,o])|_=>none)=_
      rw[hro]
     have hr:rowOf K.os 6 id=some (0,es,te.size):=by
      show(match K.os[id]? with|some (.row k es sz)=>some (k,es,sz)|some (.sub p i o)=>_|_=>none)=_
      rw[hro]
     have hraw:rawAt K.os id=false:=by unfold rawAt;rw[hro];rfl
     obtain⟨x0,hcr⟩:=s.row id es te.size hro;generalize hy:AV.msl id off n te.size=y at hd;cases hd with
     |fz f=>cases f<;>cases hy
     | mnil e1 h1 _ =>
      cases hy;rcases hcr.inv with⟨_,rfl,_,_⟩|⟨c0,_,_,h4,_⟩
      . simp only[List.take_nil,Nat.zero_min,List.take_zero,List.drop_nil,zql]at e
        cases e;have hos:K.os.set id (.row 0 [] te.size)=K.os:=by
         apply List.ext_getElem?;intro j;rw[List.getElem?_set];split
         . rename_i hj;subst hj;exact hro.symm
         . rfl
        refine⟨h,?_,?_,?_,fun b=>?_,.i _ _⟩
        . rcases e1 with rfl|rfl<;>rfl
        . show F6 Z ow h (K.os.set id (.row 0 [] te.size));rw[hos];exact s
        . grind[Keep']
        . have:=(Stp.refl b Z ow h K).more (r:=id)
          grind
      grind
     | @msl id' c off' n' sz' h2 h3 =>
      cases hy;have hoc:=h2 _ hlo;rcases hcr.inv with⟨_,_,_,h4⟩|⟨c0,ces,_,h4,h5,h6,h7,h8,h9⟩
      . exact absurd (by grind) (h4 c [])
      . have:c=c0:=s.inj _ _ _ hoc h4
        subst this;cases e;generalize hk:min n xs.length=kk;have hlc:=h7.1;have hkn:kk<=n:=by omega
        have hkx:kk<=xs.length:=by omega
        have hsp:∀{l a:List AV},off+n<=l.length->kk<=a.length->∀i,(l.take off++(a.take kk++l.drop (off+kk)))[i]?=if off<=i/\i<off+kk then a[i-off]? else l[i]?:=fun{l a} hl ha i=>by
         have hla:(a.take kk).length=kk:=by grind
         have:=X6 (l:=l) (us:=a.take kk) (p:=off) (j:=i) (by omega)
         unfold lsplice at this;rw[hla]at this;rw[this];split
         . rw[zqu,if_pos (by omega)]
         . rfl
        have hold:∀(i:Nat) a b,ces[i]?=some a->es[i]?=some b->XW Z h te.size a b:=fun i a b ha hb=>⟨h7.2 i a b ha hb,fun o u w hu hw=>by
         have hw':=Bc hfe hb hw;exact⟨(vD (h9 i a b ha hb o u w hu hw) hw').1,hw'⟩⟩
        have hrt:isRt K.os id=true:=by
         obtain⟨_,_,r,t,e,h⟩:=s.live _ _ hoc;cases e;exact h
        have hno:∀i o,i<es.length->o<te.size->pV ow ([id]++[i,o]):=fun i o hi ho=>by
         have ha:=zqb (show i<ces.length by omega);have hb:=zqb hi;have hsh:=h7.2 i _ _ ha hb;have hu:=zqb (show o<(ces[i]).cells.length by omega);have hw:=zqb (show o<(es[i]).cells.length by omega);exact(vD (h9 i _ _ ha hb o _ _ hu hw) (Bc hfe hb hw)).2
        generalize hce:ces.take off++(xcs.take kk++ces.drop (off+kk))=ces';generalize hee:es.take off++(xs.take kk++es.drop (off+kk))=es';have hcel:ces'.length=ces.length:=by grind
        have heel:es'.length=es.length:=by grind
        have hnew:∀(i:Nat) a b,ces'[i]?=some a->es'[i]?=some b->XW Z h te.size a b:=(by grind)
        have hca:cI te (.msl c off n te.size) xcs h=some (.int .i64 (Int.ofNat kk),h.set c (.row ces' te.size)):=by
         show h.onRow c none (Ia te c off n xcs h)=_
         rw [Eu h6];unfold Ia;rw[B7];have hk2:(bif Nat.ble n (lenL xcs)then n else lenL xcs)=kk:=by
          grind[A5,Nat.le_of_ble_eq_true,zkd]
         rw[hk2,A5,zkd (show Nat.add off n<=ces.length by show off+n<=_;omega),zke];show some (AV.int .i64 (Int.ofNat kk),h.set c (.row (appL (takeL ces off) (appL (takeL xcs kk) (dropL ces (Nat.add off kk)))) te.size))=_
         grind[K4,G3,G2]
        have hzc:∀ob d,Z d->Z d/\(h.set c ob).get d=h.get d:=fun ob d hd=>⟨hd,Heap.get_set_ne _ _ fun e=>by subst e;exact(s.live _ _ hoc).2.1 hd⟩
        have d:Dl Z ow h Z ow (h.set c (.row ces' te.size)) [id]:=⟨zkb _,hzc _,fun _ _ _=>.rfl,fun d M hd hM=>Heap.get_set_ne _ _ fun e=>by subst e;rw[hoc]at hd;cases hd;exact hM (.refl _)⟩
        have hset:setRow K.os 6 id es'=some (K.os.set id (.row 0 es' te.size)):=by
         show(match K.os[id]? with|some (.row k _ sz)=>some (K.os.set id (.row k es' sz))|some (.sub p i o)=>_|_=>none)=_
         rw[hro]
        have hk':Keep' ow K.os ow (K.os.set id (.row 0 es' te.size)):=⟨by simp,fun j _ L' hl=>⟨L',by grind[Aa],fun _=>.rfl⟩⟩
        refine⟨_,hca,F6.to (s.set d s.inj s.live s.zb (fun _ _ _ _ _ _ hi=>hi) 6 id 0 es te.size es' _ [id] [] (by simp) hr hlo hraw hset fun x1 hx1=>?_) (hzc _) hk',hk',fun b=>Stp.store s (r:=id) (t:=[]) (c:=c) hoc hrt (by grind) (fun d q t ho _=>.inl ⟨t,ho⟩) (fun j _ c _=>.rfl) (by grind[Go.AM.isRt_set]),.i _ _⟩;rcases hx1.inv with⟨_,_,_,n4⟩|⟨c1,ces1,rfl,n4,_⟩
        . exact absurd (by grind) (n4 c [])
        . have:c=c1:=s.inj _ _ _ hoc n4
          subst this;rw[<-heel];refine .own hoc h5 (Heap.get_set_eq _ _ h6) (by omega) (by grind) (fun i a b ha hb=>(hnew i a b ha hb).1) fun i a b ha hb o u w hu hw=>?_
          obtain⟨q1,q2⟩:=(hnew i a b ha hb).2 o u w hu hw;refine .val (q1.mono (hzc _)) q2 (hno i o ?_ ?_)
          . grind
          . rw[<-(hnew i a b ha hb).1.2.1];grind
     |_=>cases hy
   . cases e
 . cases e
end
section
variable {E:Env}{R:AV->AV->Prop}{Z Z':Nat->Prop}{ow ow' ow1 ow2:Nat->Option (List Nat)}{h h':Heap}{K K':PK}{os os' os1 os2:List PO}{x y xc yc v k:AV}{L M:List Nat}
theorem Ps{o:Option (AV×PK)}(e:Jy o=.val v K'):o=some (v,K'):=by
 cases o with
 |none=>cases e
 |some p=>cases e;rfl
theorem U1{o:Option AV}(e:z8 o K=.val v K'):o=some v/\K'=K:=by
 cases o with
 |none=>cases e
 |some p=>cases e;grind
theorem K8{t:Nat}{f:TI->OpS}(e:V9 E t f=.val v K'):∃ti,E.ti t=some ti/\f ti=.val v K':=by
 unfold V9 at e;grind
structure Did'(Z:Nat->Prop)(ow:Nat->Option (List Nat))(h:Heap)(K:PK)(r:Res)(v:AV)(K':PK)(ow':Nat->Option (List Nat))(vc:AV)(h':Heap):Prop where
 r:r=.ok vc h'
 st:F6 Z ow' h' K'.os
 kp:Keep' ow K.os ow' K'.os
 vr:VR Z ow' h' K'.os vc v
 sp:∀b,Stp b Z ow h K Z ow' h' K'
theorem Did'.same(s:F6 Z ow h K.os){r:Res}{vc:AV}(hr:r=.ok vc h)(hv:VR Z ow h K.os vc v):Did' Z ow h K r v K ow vc h:=⟨hr,s,.refl _ _,hv,fun b=>.refl _ _ _ _ _⟩
theorem M1{α:Type}{t:Nat}{ti:TI}(ht:E.ti t=some ti)(d:α)(f:TI->α):onTI E t d f=f ti:=by unfold onTI;rw[ht]
theorem jP(hT:DZ E)(s:F6 Z ow h K.os)(hx:K.ext<=K.os.length){b:Builtin}{ts:List TypeId}{args argc:List AV}(hl:VL Z ow h K.os argc args)(e:E9 E b ts args K=some (v,K')):∃ow' vc h',Did' Z ow h K (lift2 (E5 E b ts argc h)) v K' ow' vc h':=by
 have hres:∀{vc:AV},E5 E b ts argc h=some (vc,h)->VR Z ow h K.os vc v->K'=K->∃ow' vc h',Did' Z ow h K (lift2 (E5 E b ts argc h)) v K' ow' vc h':=fun{vc} e1 e2 e3=>by
  subst e3;rw[e1];exact⟨ow,vc,h,.same s rfl e2⟩
 unfold E9 at e;split at e
 . -- len
   rename_i t _ x _;cases ht:E.ti t with
   |none=>rw[ht]at e;cases e
   | some ti =>
    rw[ht]at e;simp only at e;cases hn:DU ti.desc x K with
    |none=>rw[hn]at e;cases e
    | some n =>
     rw [hn]at e;cases e;obtain⟨xc,lc,rfl⟩:∃xc lc,argc=xc::lc:=by
      cases argc with
      |nil=>have:=hl.1;simp at this
      |cons a l=>exact⟨a,l,rfl⟩
     refine hres (vc:=.int .i64 (Int.ofNat n)) ?_ (.i _ _) rfl;show onTI E t none (fun ti=>A4 (gL ti.desc xc h) fun n=>K9 n fun n=>some (AV.int .i64 (Int.ofNat n),h))=_
     rw[M1 ht,vC s hl.inv.1 hn];exact B7 n (fun n=>some (AV.int .i64 (Int.ofNat n),h))
 . -- append
   rename_i t tx tr sl x _;cases ht:E.ti t with
   |none=>rw[ht]at e;cases e
   | some ti =>
    cases htx:E.ti tx with
    |none=>rw[ht,htx]at e;cases e
    | some tix =>
     rw[ht,htx]at e;simp only at e;cases hte:elemOfT E ti.desc with
     |none=>rw[hte]at e;cases e
     | some te =>
      rw[hte]at e;simp only at e;split at e
      . rename_i hsz
        obtain ⟨sc,xc,lc,rfl⟩:∃sc xc lc,argc=sc::xc::lc:=by
         cases argc with
         |nil=>have:=hl.1;simp at this
         | cons a l=>cases l with
          |nil=>have:=hl.1;simp at this
          |cons b l=>exact⟨a,b,l,rfl⟩
        have hvs:=hl.inv.1;have hvx:=hl.inv.2.inv.1;have hb:E5 E .append (t::tx::tr) (sc::xc::lc) h=(match tix.desc with
         | .int _=>A4 (asNat xc) fun n=>A9 (Nat.ble (Nat.mul n te.bytes) 140737488355328) (G9 te sc (repL n te.zero) h)
         |_=>A4 (elems xc h) fun xs=>A9 (F1 te.size xs) (G9 te sc xs h)):=by
         show onTI E t none (fun ti=>A4 (elemOfT E ti.desc) fun te=>A9 (Nat.blt 0 te.size) (onTI E tx none fun tix=>match tix.desc with
          | .int _=>A4 (asNat xc) fun n=>A9 (Nat.ble (Nat.mul n te.bytes) 140737488355328) (G9 te sc (repL n te.zero) h)
          |_=>A4 (elems xc h) fun xs=>A9 (F1 te.size xs) (G9 te sc xs h)))=_
         rw[M1 ht,hte];show A9 (Nat.blt 0 te.size) _=_
         have:Nat.blt 0 te.size=true:=zkd hsz
         rw[this];show onTI E tx none _=_
         rw[M1 htx]
        have hz:(∀Z h,Fz Z h te.zero te.zero)/\te.zero.cells.length=te.size:=by
         unfold elemOfT at hte;cases hd:ti.desc with
         |slice el=>rw[hd]at hte;exact hT _ _ hte
         |_=>rw[hd]at hte;cases hte
        have app:∀{x:AV}{xcs xs:List AV},True:=fun{_ _ _}=>trivial
        have hplain:(∀k,tix.desc≠.int k)->X3 te sl x K=some (v,K')->∃ow' vc h',Did' Z ow h K (lift2 (E5 E .append (t::tx::tr) (sc::xc::lc) h)) v K' ow' vc h':=fun hni e=>by
         unfold X3 at e;cases htb:takeB te sl K.os with
         |none=>rw[htb]at e;cases e
         | some q =>
          obtain⟨base,os1,tc⟩:=q;rw[htb]at e;simp only at e;cases hte':takeE te x K.ext tc os1 with
          |none=>rw[hte']at e;cases e
          | some q =>
           obtain⟨xs,os2⟩:=q;rw[hte']at e;simp only at e;split at e
           . rename_i hw
             obtain⟨ow1,tb⟩:=fE s hvs htb;obtain⟨ow2,xcs,g1,g2,tk⟩:=fF tb.pt (hvx.keep (fun _ hz=>⟨hz,rfl⟩) tb.keep) hte';obtain⟨vc,h',owf,a1,a2,a3,a4,a5⟩:=lZ s hx tb tk hw e;refine⟨owf,vc,h',?_,a2,a3,a4,a5⟩
             have:E5 E .append (t::tx::tr) (sc::xc::lc) h=some (vc,h'):=by
              rw [hb];have e2:(A4 (elems xc h) fun xs=>A9 (F1 te.size xs) (G9 te sc xs h))=some (vc,h'):=by
               rw[g1];show A9 (F1 te.size xcs) (G9 te sc xcs h)=_
               rw[g2];exact a1
              cases hd:tix.desc with
              |int k=>exact absurd hd (hni k)
              |_=>exact e2
             rw[this];rfl
           . cases e
        split at e
        . rename_i kk hd
          cases hn:asNat x with
          |none=>rw[hn]at e;cases e
          | some n =>
           rw[hn]at e;simp only at e;split at e
           . rename_i hbnd
             unfold lT at e;cases htb:takeB te sl K.os with
             |none=>rw[htb]at e;cases e
             | some q =>
              obtain⟨base,os1,tc⟩:=q;rw[htb]at e;simp only at e;split at e
              . rename_i hw
                obtain⟨ow1,tb⟩:=fE s hvs htb;have hrep:∀{i:Nat}{x:AV},(zqd n te.zero)[i]?=some x->x=te.zero:=fun{i x} h=>(zqp.1 (zqa h)).2
                have tk:TkE (VR Z ow h K.os) Z ow1 h os1 K.ext tc te (zqd n te.zero) (zqd n te.zero) os1 ow1:=.closed tb.pt rfl fun i a b ha hb=>by rw[hrep ha,hrep hb];exact⟨hz.1 Z h,hz.2⟩
                have hw':(!(zqd n te.zero).isEmpty||wholeP sl K.os)=true:=by
                 cases n with
                 |zero=>simpa using hw
                 |succ n=>rfl
                obtain⟨vc,h',owf,a1,a2,a3,a4,a5⟩:=lZ s hx tb tk hw' e;refine⟨owf,vc,h',?_,a2,a3,a4,a5⟩
                have:E5 E .append (t::tx::tr) (sc::xc::lc) h=some (vc,h'):=by
                 rw[hb,hd];show A4 (asNat xc) (fun n=>A9 (Nat.ble (Nat.mul n te.bytes) 140737488355328) (G9 te sc (repL n te.zero) h))=_
                 rw[m6 hvx hn];show A9 (Nat.ble (Nat.mul n te.bytes) 140737488355328) (G9 te sc (repL n te.zero) h)=_
                 have:Nat.ble (Nat.mul n te.bytes) 140737488355328=true:=zkd hbnd
                 rw[this,d8];exact a1
                rw[this];rfl
              . cases e
           . cases e
        . rename_i hni
          exact hplain (fun k hk=>hni k hk) e
      . cases e
 . -- copy
   rename_i t tr id off n z x xr;cases ht:E.ti t with
   |none=>rw[ht]at e;cases e
   | some ti =>
    rw[ht]at e;dsimp only at e;cases hte:elemOfT E ti.desc with
    |none=>rw[hte]at e;cases e
    | some te =>
     rw[hte]at e;dsimp only at e;split at e
     . rename_i hz
       subst hz;split at e
       . rename_i q hq
         obtain ⟨dc,xc,lc,rfl⟩:∃sc xc lc,argc=sc::xc::lc:=by
          cases argc with
          |nil=>have:=hl.1;simp at this
          | cons a l=>cases l with
           |nil=>have:=hl.1;simp at this
           |cons b l=>exact⟨a,b,l,rfl⟩
         obtain⟨xcs,g1,g2,h',a1,a2,a3,a4,a5⟩:=yV s hl.inv.1 hl.inv.2.inv.1 hq e;refine⟨ow,v,h',?_,a2,a3,a5,a4⟩
         have:E5 E .copy (t::tr) (dc::xc::lc) h=some (v,h'):=by
          show onTI E t none (fun ti=>A4 (elemOfT E ti.desc) fun te=>A4 (elems xc h) fun xs=>A9 (F1 te.size xs) (cI te dc xs h))=_
          rw[M1 ht,hte];show A4 (elems xc h) _=_
          rw[g1];show A9 (F1 te.size xcs) _=_
          rw[g2];exact a1
         rw[this];rfl
       . cases e
     . cases e
 . -- max
   rename_i _ x l;obtain⟨xc,lc,rfl⟩:∃xc lc,argc=xc::lc:=by
    cases argc with
    |nil=>have:=hl.1;simp at this
    |cons a l=>exact⟨a,l,rfl⟩
   cases hm:Ku l x with
   |none=>rw[hm]at e;cases e
   | some w =>
    rw[hm]at e;cases e;obtain⟨vc,h1,h2⟩:=fJ l lc x xc v hl.inv.2 hl.inv.1 hm;exact hres (vc:=vc) (show(Ku lc xc).map (·,h)=_ by rw[h1];rfl) h2 rfl
 . rename_i _ x l
   obtain ⟨xc,lc,rfl⟩:∃xc lc,argc=xc::lc:=by
    cases argc with
    |nil=>have:=hl.1;simp at this
    |cons a l=>exact⟨a,l,rfl⟩
   cases hm:Ns l x with
   |none=>rw[hm]at e;cases e
   | some w =>
    rw[hm]at e;cases e;obtain⟨vc,h1,h2⟩:=fK l lc x xc v hl.inv.2 hl.inv.1 hm;exact hres (vc:=vc) (show(Ns lc xc).map (·,h)=_ by rw[h1];rfl) h2 rfl
 . cases e
end
section
variable {E:Env}{R:AV->AV->Prop}{Z Z':Nat->Prop}{ow ow' ow1 ow2:Nat->Option (List Nat)}{h h':Heap}{K K':PK}{os os' os1 os2:List PO}{x y xc yc v k:AV}{L M:List Nat}{nt:Nat}{frc:Tr}{fr:PF}
theorem Bd(hg:uU E)(hT:DZ E)(s:F6 Z ow h K.os)(hx:K.ext<=K.os.length)(a:FrR Z ow h K.os nt frc fr){op:Op}(e:prim E op fr K=.val v K')(call:D1):∃ow' vc h',Did' Z ow h K (evOp E call op frc h) v K' ow' vc h':=by
 have V:=Bz hg a;cases op with
 |move x=>cases e;exact⟨ow,_,h,.same s rfl (V x)⟩
 |assign x=>cases e;exact⟨ow,_,h,.same s rfl (V x)⟩
 | pick c p q =>
  have e:Jz (opvP E c fr) (opvP E p fr) (opvP E q fr) K=.val v K':=e;have Vc:=V c;cases hc:opvP E c fr with
  | bool b =>
   rw[hc]at e Vc;have hcc:=Vc.isB;cases b with
   |true=>cases e;exact⟨ow,_,h,.same s (show(opv E c frc).onBool Res.bad (fun t=>match t with|true=>.ok (opv E p frc) h|false=>.ok (opv E q frc) h)=_ by rw[hcc];rfl) (V p)⟩
   |false=>cases e;exact⟨ow,_,h,.same s (show(opv E c frc).onBool Res.bad (fun t=>match t with|true=>.ok (opv E p frc) h|false=>.ok (opv E q frc) h)=_ by rw[hcc];rfl) (V q)⟩
  |_=>rw[hc]at e;cases e
 | alloc t =>
  obtain ⟨ti,ht,e⟩:=K8 e;cases e;have hz:=hT t ti ht;obtain⟨b1,b2,b3,b4⟩:=lY s hx (.fz (hz.1 Z h)) hz.2 (fun b hb=>by
   obtain⟨i,hi⟩:=zqe hb;exact clo_okP ((hz.1 Z h).cell hi hi).2)
  exact⟨_,_,_,show onTI E t Res.bad (fun ti=>gM ti.size ti.zero h)=_ by rw[M1 ht];rfl,b1,b2,b3,b4⟩
 | box t x =>
  obtain⟨ti,ht,e⟩:=K8 e;have e:(if(opvP E x fr).cells.length=ti.size/\(opvP E x fr).cells.all Eb=true then OpS.val (.ptr K.os.length 0 0) (newRow 1 [opvP E x fr] ti.size K)else .bad)=.val v K':=e;split at e
  . rename_i hc
    cases e;have hok:=zqf.1 hc.2;obtain⟨b1,b2,b3,b4⟩:=lY s hx (V x) hc.1 hok;have hne:opvP E x fr≠.und:=fun e=>by
     have:=hok .und (by rw[e];exact zqh ..)
     cases this
    have hvl:=(V x).cells hne;have hokc:D3 (opv E x frc).cells=true:=(F9 _).2 fun c hc'=>by
     obtain⟨j,hj⟩:=zqe hc';have hjl:j<(opvP E x fr).cells.length:=by rw[<-hvl.1];exact(zqc.1 hj).1
     exact(hvl.2 j c _ hj (zqb hjl)).okc (hok _ (zqo hjl))
    refine⟨_,_,_,?_,b1,b2,b3,b4⟩;show onTI E t Res.bad (fun ti=>bif Nat.beq (lenL (opv E x frc).cells) ti.size&&D3 (opv E x frc).cells then gM ti.size (opv E x frc) h else .bad)=_
    rw[M1 ht,A5,hvl.1,hc.1,zke,hokc];rfl
  . cases e
 | build t ps =>
  obtain⟨ti,ht,e⟩:=K8 e;obtain⟨e',rfl⟩:=U1 e;have e:=e';obtain⟨vc,h1,h2⟩:=jL hT ht (Kl hg a ps.toList) e;exact⟨ow,vc,h,.same s (show onTI E t Res.bad (fun ti=>lift (M7 E ti (opvps E ps.toList frc)) h)=_ by rw[M1 ht,h1];rfl) h2⟩
 | buildSlice t n ps =>
  obtain⟨ti,ht,e⟩:=K8 e;cases hte:elemOfT E ti.desc with
  |none=>simp only[hte]at e;cases e
  | some te =>
   simp only[hte]at e;have e:=Ps e;obtain⟨el,hel⟩:∃el,E.ti el=some te:=by
    unfold elemOfT at hte;cases hd:ti.desc with
    |slice el=>rw[hd]at hte;exact⟨el,hte⟩
    |_=>rw[hd]at hte;cases hte
   obtain⟨g1,g2,es,ow',g3,b1,b2,b3,b4⟩:=jN (e:=el) hT s hx hel (Kl hg a ps.toList) e;exact⟨ow',_,_,yU ht hte g1 g2 g3,b1,b2,b3,b4⟩
 |insert t m k x=>cases e
 | load t p =>
  obtain⟨ti,ht,e⟩:=K8 e;obtain⟨vc,h1,h2,h3,h4,h5,h6,ps,h7,h8⟩:=fB s (V p) (Ps e);refine⟨ow,vc,h,show onTI E t Res.bad (fun ti=>lift (Ct ti (opv E p frc) h) h)=_ by rw[M1 ht,h1];rfl,h2,h3,h4,fun b=>⟨zkb _,fun _ hz=>⟨hz,rfl⟩,fun _ hz=>.inl hz,fun _ _ _=>rfl,fun d M ho _ e=>(by rw[ho]at e;cases e),⟨[],rfl,fun d hd=>(by cases hd)⟩,fun d r t ho _=>.inl ⟨t,ho⟩,fun r hr _=>(by rw[h6];exact hr),h5,fun j _ c _=>.rfl,fun j hj hr=>?_⟩⟩;unfold isRt at hr|-;rw[h7,zqm (by omega)]at hr;exact hr
 | store t p x =>
  obtain⟨ti,ht,e⟩:=K8 e;have e:=Ps e;cases hs:storeP ti (opvP E p fr) (opvP E x fr) K with
  |none=>rw[hs]at e;cases e
  | some K1 =>
   rw[hs]at e;cases e;obtain⟨h',ow',g1,g2,g3,g4⟩:=Xo s (V p) (V x) hs;exact⟨ow',.und,h',show onTI E t Res.bad (fun ti=>liftH (Bj ti (opv E p frc) (opv E x frc) h))=_ by rw[M1 ht,g1];rfl,g2,g3,.und,g4⟩
 | nilCheck x =>
  obtain⟨e',rfl⟩:=U1 e;have e:=e';obtain⟨vc,h1,h2⟩:=bG (V x) e;exact⟨ow,vc,h,.same s (show lift (Y3 (opv E x frc)) h=_ by rw[h1];rfl) h2⟩
 | binOp op t x y u =>
  have e:(if Ma (opvP E x fr)=true/\Ma (opvP E y fr)=true then z8 (I6 op (L6 E t) (opvP E x fr) (opvP E y fr)) K else .bad)=.val v K':=e;split at e
  . rename_i hc
    obtain ⟨e',rfl⟩:=U1 e;have e:=e';obtain⟨h1,h2⟩:=jI (V x) (V y) hc.1 hc.2 e;have h3:qL E op t (opv E x frc) (opv E y frc)=none:=by
     have h4:Gi E t (opv E x frc) (opv E y frc)=none\/(op≠.eql/\op≠.neq):=by
      by_cases ho:op=.eql\/op=.neq
      . left
        have hne:∀i k o i' k' o',opv E x frc=.ptr i k o->opv E y frc≠.ptr i' k' o':=fun i k o i' k' o' hx hy=>by
         rw[hx,hy]at h1;rcases ho with rfl|rfl
         . have h1:A4 (Cr (L6 E t) (.ptr i k o) (.ptr i' k' o')) E3=some v:=h1
           cases hk:L6 E t<;>rw[hk]at h1<;>cases h1
         . have h1:A4 (Cr (L6 E t) (.ptr i k o) (.ptr i' k' o')) (fun b=>E3 (!b))=some v:=h1
           cases hk:L6 E t<;>rw[hk]at h1<;>cases h1
        unfold Gi;cases hxv:opv E x frc with
        | ptr i k o =>
         cases hyv:opv E y frc with
         |ptr i' k' o'=>exact absurd hyv (hne _ _ _ _ _ _ hxv)
         |_=>rfl
        |_=>rfl
      . exact .inr ⟨fun e=>ho (.inl e),fun e=>ho (.inr e)⟩
     rcases h4 with h4|⟨h4,h5⟩
     . unfold qL
       rw[h4];cases op<;>rfl
     . cases op<;>first|rfl|exact absurd rfl h4|exact absurd rfl h5
    refine⟨ow,v,h,.same s ?_ (Ud h2)⟩;show lift (OW (qL E op t (opv E x frc) (opv E y frc)) (I6 op (L6 E t) (opv E x frc) (opv E y frc))) h=_
    rw[h3,h1];rfl
  . cases e
 | unOp op t x =>
  obtain⟨e',rfl⟩:=U1 e;have e:=e';obtain⟨h1,h2⟩:=pJ (V x) e;exact⟨ow,v,h,.same s (show lift (Hy op (opv E x frc)) h=_ by rw[h1];rfl) (Ud h2)⟩
 | convert t d x =>
  obtain⟨ti,ht,e⟩:=K8 e;obtain⟨td,htd,e⟩:=K8 e;obtain⟨e',rfl⟩:=U1 e;have e:=e';obtain⟨h1,h2⟩:=bF (V x) e;exact⟨ow,v,h,.same s (show onTI E t Res.bad (fun _=>onTI E d .bad fun td=>lift (O8 td.desc (opv E x frc)) h)=_ by rw[M1 ht,M1 htd,h1];rfl) (Ud h2)⟩
 | makeInterface t x =>
  obtain⟨ti,ht,e⟩:=K8 e;cases hp:R7 ti.desc with
  |false=>rw[hp]at e;cases e
  | true =>
   rw[hp]at e;cases e;exact⟨ow,_,h,.same s (show onTI E t Res.bad (fun ti=>bif R7 ti.desc then .ok (.iface t (opv E x frc)) h else .bad)=_ by rw[M1 ht,hp];rfl) (.iface (V x))⟩
 | makeFunc f fs cs =>
  cases e;have v1:=Ke hg a fs.toList;have v2:=Ke hg a cs.toList;exact⟨ow,_,h,.same s rfl (.fn v1.1 v1.2 v2.1 v2.2)⟩
 | makeMap t r =>
  cases r with
  |some r=>cases e
  | none =>
   cases e;obtain⟨b1,b2,b3,b4⟩:=pH s hx;exact⟨_,_,_,rfl,b1,b2,b3,b4⟩
 | makeSlice t l c =>
  obtain⟨ti,ht,e⟩:=K8 e;unfold Ka at e;cases hte:elemOfT E ti.desc with
  |none=>rw[hte]at e;cases e
  | some te =>
   cases hl:asNat (opvP E l fr)with
   |none=>rw[hte,hl]at e;cases e
   | some n =>
    cases hc:asNat (opvP E c fr)with
    |none=>rw[hte,hl,hc]at e;cases e
    | some m =>
     rw[hte,hl,hc]at e;simp only at e;split at e
     . rename_i hcond
       cases e;have hz:(∀Z h,Fz Z h te.zero te.zero)/\te.zero.cells.length=te.size:=by
        unfold elemOfT at hte;cases hd:ti.desc with
        |slice el=>rw[hd]at hte;exact hT _ _ hte
        |_=>rw[hd]at hte;cases hte
       obtain⟨b1,b2,b3,b4⟩:=fC (n:=n) s hx hz.1 hz.2;refine⟨_,_,_,?_,b1,b2,b3,b4⟩;show M3 E t l c frc h=_
       unfold M3;rw[M1 ht];simp only[hte,m6 (V l) hl,m6 (V c) hc];have e1:Nat.ble n m=true:=zkd hcond.1;have e2:Nat.ble (Nat.mul m te.bytes) 140737488355328=true:=zkd hcond.2.1;have e3:Nat.blt 0 te.size=true:=zkd hcond.2.2;rw[e1,e2,e3,d8];rfl
     . cases e
 | slice t x lo hi mx =>
  obtain⟨ti,ht,e⟩:=K8 e;cases hb:(hi.isNone&&mx.isSome)with
  |true=>rw[hb]at e;cases e
  | false =>
   rw[hb]at e;obtain⟨e',rfl⟩:=U1 e;have e:=e';obtain⟨vc,h1,h2⟩:=jJ (bH hg a lo) (bH hg a hi) (bH hg a mx) (V x) e;exact⟨ow,vc,h,.same s (show onTI E t Res.bad (fun ti=>bif hi.isNone&&mx.isSome then .bad else lift (sliceA E ti.desc (Kx E lo frc) (Kx E hi frc) (Kx E mx frc) (opv E x frc)) h)=_ by rw[M1 ht,hb,h1];rfl) h2⟩
 | fieldAddr t x f =>
  obtain⟨ti,ht,e⟩:=K8 e;obtain⟨e',rfl⟩:=U1 e;have e:=e';unfold F4 at e;cases hf:fieldAt E ti f with
  |none=>rw[hf]at e;cases e
  | some p =>
   rw[hf]at e;simp only at e;split at e
   . rename_i hsz
     obtain⟨vc,h1,h2⟩:=No (V x) e;refine⟨ow,vc,h,.same s ?_ h2⟩;show onTI E t Res.bad (fun ti=>lift (A4 (fieldAt E ti f) fun p=>A9 (Nat.blt 0 p.1.size) (B0 (opv E x frc) p.2)) h)=_
     rw[M1 ht,hf];show lift (A9 (Nat.blt 0 p.1.size) (B0 (opv E x frc) p.2)) h=_
     have:Nat.blt 0 p.1.size=true:=zkd hsz
     rw[this,h1];rfl
   . cases e
 | field t x f =>
  obtain⟨ti,ht,e⟩:=K8 e;obtain⟨e',rfl⟩:=U1 e;have e:=e';unfold KY at e;cases hf:fieldAt E ti f with
  |none=>rw[hf]at e;cases e
  | some p =>
   rw[hf]at e;have Vx:=V x;cases hxv:opvP E x fr with
   | agg cs =>
    rw[hxv]at Vx;simp only[hxv]at e;obtain⟨xs,hxs,hl⟩:=Vx.agI;obtain⟨vc,h1,h2⟩:=hl.part e;refine⟨ow,vc,h,.same s ?_ h2⟩;show onTI E t Res.bad (fun ti=>lift (A4 (fieldAt E ti f) fun p=>(opv E x frc).onAgg none fun cs=>partOf p.1 cs p.2) h)=_
    rw[M1 ht,hf,hxs];show lift (partOf p.1 xs p.2) h=_
    rw[h1];rfl
   |_=>simp only[hxv]at e;cases e
 | indexAddr t x i =>
  obtain⟨ti,ht,e⟩:=K8 e;obtain⟨e',rfl⟩:=U1 e;have e:=e';unfold Ec at e;cases hn:asNat (opvP E i fr)with
  |none=>rw[hn]at e;cases e
  | some n =>
   rw[hn]at e;obtain⟨vc,h1,h2⟩:=Vt (V x) e;refine⟨ow,vc,h,.same s ?_ h2⟩;show onTI E t Res.bad (fun ti=>lift (A4 (asNat (opv E i frc)) fun i=>O9 E ti.desc i (opv E x frc)) h)=_
   rw[M1 ht,m6 (V i) hn];show lift (O9 E ti.desc n (opv E x frc)) h=_
   rw[h1];rfl
 | index t x i =>
  obtain⟨ti,ht,e⟩:=K8 e;obtain⟨e',rfl⟩:=U1 e;have e:=e';unfold yM at e;cases hn:asNat (opvP E i fr)with
  |none=>rw[hn]at e;cases e
  | some n =>
   rw[hn]at e;obtain⟨vc,h1,h2⟩:=pK (V x) e;refine⟨ow,vc,h,.same s ?_ h2⟩;show onTI E t Res.bad (fun ti=>lift (A4 (asNat (opv E i frc)) fun i=>Cu E ti.desc i (opv E x frc)) h)=_
   rw[M1 ht,m6 (V i) hn];show lift (Cu E ti.desc n (opv E x frc)) h=_
   rw[h1];rfl
 |lookup t m k ok=>obtain⟨ti,ht,e⟩:=K8 e;cases e
 |mapUpdate t m k x=>cases e
 | typeAssert x t0 t ok =>
  obtain⟨ti,ht,e⟩:=K8 e;cases hb:(R7 ti.desc && !ok)with
  |false=>rw[hb]at e;cases e
  | true =>
   rw[hb]at e;obtain⟨e',rfl⟩:=U1 e;have e:=e';have Vx:=V x;cases hxv:opvP E x fr with
   | iface u w =>
    rw[hxv]at e Vx;have e:(bif Nat.beq u t then some w else none)=some v:=e;cases hut:Nat.beq u t with
    |false=>rw[hut]at e;cases e
    | true =>
     rw[hut]at e;cases e;generalize hq:opv E x frc=q at Vx;cases Vx with
     |fz z=>cases z
     | iface vw =>
      refine⟨ow,_,h,.same s ?_ vw⟩;show onTI E t Res.bad (fun ti=>bif R7 ti.desc && !ok then lift (Ie t (opv E x frc)) h else .bad)=_
      rw[M1 ht,hb,hq];show lift (bif Nat.beq u t then some _ else none) h=_
      rw[hut];rfl
   |_=>rw[hxv]at e;cases e
 | extract x i =>
  have e:(match opvP E x fr with | .tup vs=>z8 vs[i]? K|_=>.bad)=.val v K':=e;have Vx:=V x;cases hxv:opvP E x fr with
  | tup vs =>
   rw[hxv]at e Vx;obtain⟨e',rfl⟩:=U1 e;have e:=e';generalize hq:opv E x frc=q at Vx;cases Vx with
   |fz z=>cases z
   | tup h1 h2 =>
    rename_i xs;have hl:i<xs.length:=by rw[h1];exact(zqc.1 e).1
    refine⟨ow,xs[i],h,.same s ?_ (h2 i _ v (zqb hl) e)⟩;show(opv E x frc).onTup Res.bad (fun vs=>lift (Cq vs i) h)=_
    rw[hq];show lift (Cq xs i) h=_
    rw[O6,zqb hl];rfl
  |_=>rw[hxv]at e;cases e
 | call c =>
  obtain⟨callee,args,ts⟩:=c;cases callee with
  |builtin b=>exact jP hT s hx (Ke hg a args.toList) (Ps e)
  | value g =>
   have e:Kb (opvP E g fr) (Ck E args.toList fr)=.val v K':=e;unfold Kb at e;cases hgv:opvP E g fr with
   |fn f fs cs=>rw[hgv]at e;cases f<;>cases e
   |_=>rw[hgv]at e;cases e
  |invoke=>cases e
 | panic x =>
  have e:(match opvP E x fr with | .iface t v=>OpS.pan (.iface t v)|_=>.bad)=.val v K':=e;split at e<;>cases e
 |_=>cases e
theorem Ey(hg:uU E)(a:FrR Z ow h K.os nt frc fr){op:Op}{f:Nat}{args:List AV}(e:prim E op fr K=.call f args):∃argc,VL Z ow h K.os argc args/\∀call:D1,evOp E call op frc h=call f argc h:=by
 have V:=Bz hg a;have noT:∀{t:Nat}{g:TI->OpS},(∀ti,g ti≠.call f args)->V9 E t g≠.call f args:=fun{t g} hn e=>by
  unfold V9 at e;cases ht:E.ti t with
  |none=>rw[ht]at e;cases e
  |some ti=>rw[ht]at e;exact hn ti e
 have noV:∀{o:Option AV},z8 o K≠.call f args:=fun{o} e=>by cases o<;>cases e
 have noO:∀{o:Option (AV×PK)},Jy o≠.call f args:=fun{o} e=>by cases o<;>cases e
 cases op with
 | call c =>
  obtain⟨callee,ar,ts⟩:=c;cases callee with
  |builtin b=>exact absurd e noO
  |invoke=>cases e
  | value g =>
   have e:Kb (opvP E g fr) (Ck E ar.toList fr)=.call f args:=e;unfold Kb at e;have Vg:=V g;cases hgv:opvP E g fr with
   | fn f' fs cs =>
    rw[hgv]at e Vg;cases f' with
    | func n =>
     cases e;generalize hq:opv E g frc=q at Vg;cases Vg with
     |fz z=>cases z
     | fn h1 h2 h3 h4 =>
      rename_i fs' cs';refine⟨fs'++(opvs E ar.toList frc++cs'),VL.app ⟨h1,h2⟩ (VL.app (Ke hg a ar.toList) ⟨h3,h4⟩),fun call=>?_⟩;show W4 call (opv E g frc) (opvs E ar.toList frc) h=_
      rw[hq];show call f (appL fs' (appL (opvs E ar.toList frc) cs')) h=_
      rw[K4,K4]
    |_=>cases e
   |_=>rw[hgv]at e;cases e
 |move|assign|makeFunc=>cases e
 | pick c p q =>
  have e:Jz (opvP E c fr) (opvP E p fr) (opvP E q fr) K=.call f args:=e;unfold Jz at e;split at e<;>cases e
 |alloc t=>exact absurd e (noT fun ti e=>by cases e)
 |box t x=>exact absurd e (noT fun ti e=>by unfold uS at e;split at e<;>cases e)
 |build t ps=>exact absurd e (noT fun ti=>noV)
 |buildSlice t n ps=>exact absurd e (noT fun ti e=>by split at e<;>first|exact noO e|cases e)
 |insert=>cases e
 |load=>exact absurd e (noT fun ti=>noO)
 |store=>exact absurd e (noT fun ti=>noO)
 |nilCheck=>exact absurd e noV
 | binOp op t x y u =>
  have e:N4 E op t (opvP E x fr) (opvP E y fr) K=.call f args:=e;unfold N4 at e;split at e
  . exact absurd e noV
  . cases e
 |unOp=>exact absurd e noV
 |convert=>exact absurd e (noT fun ti=>noT fun td=>noV)
 |makeInterface t x=>exact absurd e (noT fun ti e=>by cases hp:R7 ti.desc<;>rw[hp]at e<;>cases e)
 |makeMap t r=>cases r<;>cases e
 |makeSlice=>exact absurd e (noT fun ti e=>by unfold Ka at e;split at e<;>first|cases e|(split at e<;>cases e))
 | slice t x lo hi mx=>exact absurd e (noT fun ti e=>by
  cases hb:(hi.isNone&&mx.isSome)with
  |true=>rw[hb]at e;cases e
  |false=>rw[hb]at e;exact noV e)
 |fieldAddr=>exact absurd e (noT fun ti=>noV)
 |field=>exact absurd e (noT fun ti=>noV)
 |indexAddr=>exact absurd e (noT fun ti=>noV)
 |index=>exact absurd e (noT fun ti=>noV)
 |lookup=>exact absurd e (noT fun ti=>noV)
 |mapUpdate=>cases e
 | typeAssert x t0 t ok=>exact absurd e (noT fun ti e=>by
  cases hb:(R7 ti.desc && !ok)with
  |false=>rw[hb]at e;cases e
  |true=>rw[hb]at e;exact noV e)
 | extract x i =>
  have e:(match opvP E x fr with | .tup vs=>z8 vs[i]? K|_=>.bad)=.call f args:=e;split at e
  . exact absurd e noV
  . cases e
 | panic x =>
  have e:(match opvP E x fr with | .iface t v=>OpS.pan (.iface t v)|_=>.bad)=.call f args:=e;split at e<;>cases e
 |_=>cases e
theorem fM(hg:uU E)(a:FrR Z ow h K.os nt frc fr){op:Op}(e:prim E op fr K=.pan v):∃vc,VR Z ow h K.os vc v/\∀call:D1,evOp E call op frc h=.pan vc h:=by
 have V:=Bz hg a;have noT:∀{t:Nat}{g:TI->OpS},(∀ti,g ti≠.pan v)->V9 E t g≠.pan v:=fun{t g} hn e=>by
  unfold V9 at e;cases ht:E.ti t with
  |none=>rw[ht]at e;cases e
  |some ti=>rw[ht]at e;exact hn ti e
 have noV:∀{o:Option AV},z8 o K≠.pan v:=fun{o} e=>by cases o<;>cases e
 have noO:∀{o:Option (AV×PK)},Jy o≠.pan v:=fun{o} e=>by cases o<;>cases e
 cases op with
 | panic x =>
  have e:(match opvP E x fr with | .iface t v=>OpS.pan (.iface t v)|_=>.bad)=.pan v:=e;have Vx:=V x;cases hxv:opvP E x fr with
  | iface t w =>
   rw[hxv]at e Vx;cases e;generalize hq:opv E x frc=q at Vx;cases Vx with
   |fz z=>cases z
   |iface vw=>exact⟨_,.iface vw,fun call=>by show nI (opv E x frc) h=_;rw[hq];rfl⟩
  |_=>rw[hxv]at e;cases e
 | call c =>
  obtain⟨callee,ar,ts⟩:=c;cases callee with
  |builtin b=>exact absurd e noO
  |invoke=>cases e
  | value g =>
   have e:Kb (opvP E g fr) (Ck E ar.toList fr)=.pan v:=e;unfold Kb at e;split at e
   . split at e<;>cases e
   . cases e
 |move|assign|makeFunc=>cases e
 | pick c p q =>
  have e:Jz (opvP E c fr) (opvP E p fr) (opvP E q fr) K=.pan v:=e;unfold Jz at e;split at e<;>cases e
 |alloc t=>exact absurd e (noT fun ti e=>by cases e)
 |box t x=>exact absurd e (noT fun ti e=>by unfold uS at e;split at e<;>cases e)
 |build t ps=>exact absurd e (noT fun ti=>noV)
 |buildSlice t n ps=>exact absurd e (noT fun ti e=>by split at e<;>first|exact noO e|cases e)
 |insert=>cases e
 |load=>exact absurd e (noT fun ti=>noO)
 |store=>exact absurd e (noT fun ti=>noO)
 |nilCheck=>exact absurd e noV
 | binOp op t x y u =>
  have e:N4 E op t (opvP E x fr) (opvP E y fr) K=.pan v:=e;unfold N4 at e;split at e
  . exact absurd e noV
  . cases e
 |unOp=>exact absurd e noV
 |convert=>exact absurd e (noT fun ti=>noT fun td=>noV)
 |makeInterface t x=>exact absurd e (noT fun ti e=>by cases hp:R7 ti.desc<;>rw[hp]at e<;>cases e)
 |makeMap t r=>cases r<;>cases e
 |makeSlice=>exact absurd e (noT fun ti e=>by unfold Ka at e;split at e<;>first|cases e|(split at e<;>cases e))
 | slice t x lo hi mx=>exact absurd e (noT fun ti e=>by
  cases hb:(hi.isNone&&mx.isSome)with
  |true=>rw[hb]at e;cases e
  |false=>rw[hb]at e;exact noV e)
 |fieldAddr=>exact absurd e (noT fun ti=>noV)
 |field=>exact absurd e (noT fun ti=>noV)
 |indexAddr=>exact absurd e (noT fun ti=>noV)
 |index=>exact absurd e (noT fun ti=>noV)
 |lookup=>exact absurd e (noT fun ti=>noV)
 |mapUpdate=>cases e
 | typeAssert x t0 t ok=>exact absurd e (noT fun ti e=>by
  cases hb:(R7 ti.desc && !ok)with
  |false=>rw[hb]at e;cases e
  |true=>rw[hb]at e;exact noV e)
 | extract x i =>
  have e:(match opvP E x fr with | .tup vs=>z8 vs[i]? K|_=>.bad)=.pan v:=e;split at e
  . exact absurd e noV
  . cases e
 |_=>cases e
end
section
variable {E:Env}{R:AV->AV->Prop}{Z Z':Nat->Prop}{ow ow' ow1 ow2:Nat->Option (List Nat)}{h h':Heap}{K K':PK}{os os' os1 os2:List PO}{x y xc yc v k:AV}{L M:List Nat}{nt:Nat}{frc:Tr}{fr:PF}{σ:Nat->Option Nat}
theorem renL_eq(σ:Nat->Option Nat):∀l:List AV,renL σ l=l.map (F7 σ)
 |[]=>rfl
 |v::l=>by rw[renL,renL_eq σ l];rfl
theorem fN{c:AV}(h:clo c=true):F7 σ c=c:=by cases c<;>first|rfl|cases h
theorem yW(f:Fz Z h x y):F7 σ y=y:=by
 cases f with
 | agg h1 h2 h3 =>
  rename_i xs ys;show AV.agg (renL σ ys)=.agg ys
  rw[renL_eq]
  have:ys.map (F7 σ)=ys:=by
   conv=>rhs;rw[<-List.map_id ys]
   grind[List.map_congr_left,fN]
  rw[this]
 |_=>rfl
theorem mC(v:AV):isAg (F7 σ v)=isAg v:=by
 cases v with
 |msl id off n sz=>unfold F7;cases σ id<;>rfl
 |ptr id i o=>unfold F7;cases σ id<;>rfl
 |map id=>unfold F7;cases σ id<;>rfl
 |_=>rfl
theorem Hn(v:AV):(F7 σ v).cells=v.cells.map (F7 σ)/\isAg (F7 σ v)=isAg v:=by
 refine⟨?_,mC v⟩;cases hv:isAg v with
 |false=>grind[C4,mC]
 | true =>
  cases v with
  |agg cs=>show renL σ cs=_;rw[renL_eq];rfl
  |_=>cases hv
theorem vE{c:AV}(h:Eb c=true\/c=.und):Eb (F7 σ c)=true\/F7 σ c=.und:=by
 rcases h with h|rfl
 . cases c with
   |msl id off n sz=>unfold F7;cases σ id<;>first|exact .inl rfl|grind
   |ptr id i o=>unfold F7;cases σ id<;>first|exact .inl rfl|grind
   |map id=>unfold F7;cases σ id<;>first|exact .inl rfl|grind
   |agg=>cases h
   |tup=>cases h
   |any=>exact .inr rfl
   |und=>exact .inr rfl
   |_=>exact .inl rfl
 . exact .inr rfl
def Ren(σ:Nat->Option Nat)(ow:Nat->Option (List Nat))(os:List PO)(ow':Nat->Option (List Nat))(os':List PO):Prop:=∀id j,σ id=some j->id<os.length->j<os'.length/\∀L',loP os' 6 j=some L'->∃L,loP os 6 id=some L/\∀c,ow c=some L↔ow' c=some L'
theorem VR.ren(v:VR Z ow h os x y)(hZ:∀id,Z id->Z' id/\h'.get id=h.get id)(hr:Ren σ ow os ow' os'):VR Z' ow' h' os' x (F7 σ y):=by
 have pw:∀{xs ys:List AV},xs.length=ys.length->(∀(i:Nat) x y,xs[i]?=some x->ys[i]?=some y->VR Z' ow' h' os' x (F7 σ y))->xs.length=(renL σ ys).length/\∀(i:Nat) x y,xs[i]?=some x->(renL σ ys)[i]?=some y->VR Z' ow' h' os' x y:=(by grind[Go.AM.renL_eq])
 induction v with
 |fz f=>rw[yW f];exact .fz (f.mono hZ)
 |und=>exact .und
 |any=>exact .und
 | @msl id c off n sz h1 h2 =>
  unfold F7;cases hs:σ id with
  |none=>exact .und
  | some j =>
   obtain⟨a,b⟩:=hr id j hs h2;exact .msl (by grind) a
 | @mnil x id sz e h1 h2 =>
  unfold F7;cases hs:σ id with
  |none=>exact .und
  | some j =>
   obtain⟨a,b⟩:=hr id j hs h2;exact .mnil e (by grind) a
 | @ptr id c i off h1 h2 =>
  unfold F7;cases hs:σ id with
  |none=>exact .und
  | some j =>
   obtain⟨a,b⟩:=hr id j hs h2;exact .ptr (by grind) a
 | @map id c h1 h2 =>
  unfold F7;cases hs:σ id with
  |none=>exact .und
  | some j =>
   obtain⟨a,b⟩:=hr id j hs h2;exact .map (by grind) a
 |agg h1 _ ih=>obtain⟨a,b⟩:=pw h1 ih;exact .agg a b
 |tup h1 _ ih=>obtain⟨a,b⟩:=pw h1 ih;exact .tup a b
 |fn h1 _ h3 _ ih1 ih2=>obtain⟨a,b⟩:=pw h1 ih1;obtain⟨c,d⟩:=pw h3 ih2;exact .fn a b c d
 |iface _ ih=>exact .iface ih
theorem VL.ren{xs ys:List AV}(v:VL Z ow h os xs ys)(hZ:∀id,Z id->Z' id/\h'.get id=h.get id)(hr:Ren σ ow os ow' os'):VL Z' ow' h' os' xs (renL σ ys):=by
 rw[renL_eq];refine⟨by simpa using v.1,fun i x y hx hy=>?_⟩;rw[zqg]at hy;cases hq:ys[i]? with
 |none=>grind
 |some q=>rw[hq]at hy;cases hy;exact(v.2 i x q hx hq).ren hZ hr
theorem RawR.ren{r j c sz:Nat}{es ces:List AV}(g:RawR (VR Z ow h os) ow h r es sz c ces)(hZ:∀id,Z id->Z' id/\h'.get id=h.get id)(hr:Ren σ ow os ow' os')(ho:ow' c=some [j])(hn:h.next<=h'.next)(hg:h'.get c=h.get c)(hno:∀a t,ow' a=some (j::t)->t=[]):RawR (VR Z' ow' h' os') ow' h' j (renL σ es) sz c ces:=by
 refine⟨ho,zkc g.lt hn,hg.trans g.get,?_,fun i x y hx hy o a b ha hb=>?_,fun i y hy b hb=>?_,hno⟩
 . rw [renL_eq]
   refine⟨by simpa using g.sh.1,fun i x y hx hy=>?_⟩;rw[zqg]at hy;cases hq:es[i]? with
   |none=>grind
   | some q =>
    rw[hq]at hy;cases hy
    have:=g.sh.2 i x q hx hq
    grind[Hn]
 . rw [renL_eq,zqg]at hy
   cases hq:es[i]? with
   |none=>grind
   | some q =>
    rw[hq]at hy;cases hy;rw[(Hn q).1,zqg]at hb;cases hw:q.cells[o]? with
    |none=>grind
    |some w=>rw[hw]at hb;cases hb;exact(g.vr i x q hx hq o a w ha hw).ren hZ hr
 . rw [renL_eq,zqg]at hy
   cases hq:es[i]? with
   |none=>grind
   | some q =>
    rw[hq]at hy;cases hy;rw[(Hn q).1]at hb;obtain⟨w,hw,rfl⟩:=zqn.1 hb;exact vE (g.okp i q hq w hw)
theorem posOf_some:∀(l:List Nat)(id j:Nat),posOf l id=some j->l[j]?=some id
 |[],_,_,e=>by cases e
 | a :: l,id,j,e=>by
  unfold posOf at e;split at e
  . grind
  . cases hp:posOf l id with
    |none=>grind
    |some m=>rw[hp]at e;cases e;exact posOf_some l id m hp
theorem H5:∀(l:List Nat)(id j:Nat),l.Nodup->l[j]?=some id->posOf l id=some j
 |[],_,_,_,e=>by simp at e
 |a::l,id,0,_,e=>by cases e;unfold posOf;grind
 | a::l,id,j+1,hn,e=>by
  have hn:=zqv.1 hn;have hne:a≠id:=(by grind)
  unfold posOf;rw[if_neg hne,H5 l id j hn.2 (by grind)];rfl
theorem Ac(s:Nat->List Nat):∀(n:Nat)(todo acc:List Nat),acc.Nodup->(X4 s n todo acc).Nodup/\∃m,X4 s n todo acc=acc++m
 |0,_,acc,h=>⟨h,[],by simp[X4]⟩
 |n+1,[],acc,h=>⟨h,[],by simp[X4]⟩
 | n + 1,id::todo,acc,h=>by
  unfold X4;split
  . exact Ac s n todo acc h
  . rename_i hm
    have h1:(acc++[id]).Nodup:=(by grind)
    obtain⟨a,m,b⟩:=Ac s n (todo++s id) (acc++[id]) h1;grind
def rown(σ:Nat->Option Nat)(ow:Nat->Option (List Nat)):Nat->Option (List Nat):=fun d=>match ow d with
 |some (r::t)=>(match σ r with|some j=>some (j::t)|none=>none)
 |_=>none
theorem D5{d:Nat}{M:List Nat}:rown σ ow d=some M↔∃r j t,ow d=some (r::t)/\σ r=some j/\M=j::t:=by
 unfold rown;grind
theorem entryAt_eq(os:List PO)(id:Nat):(os[id]?=some (entryAt os id))\/(os[id]?=none/\entryAt os id=.dead):=by
 unfold entryAt;grind
theorem Uf(s:F6 Z ow h os){ids:List Nat}(hn:ids.Nodup){f:PO->PO}(hf:∀e,f e=e\/((∃p i o,e=.sub p i o)/\f e=.dead))(hos:os'=ids.map fun id=>f (renPO (posOf ids) (entryAt os id))):
 F6 Z (rown (posOf ids) ow) h os'/\Ren (posOf ids) ow os (rown (posOf ids) ow) os':=by
 have hget:∀(j:Nat) e,os'[j]?=some e->∃id,ids[j]?=some id/\e=f (renPO (posOf ids) (entryAt os id)):=(by grind)
 have hrw:∀(j:Nat) k es sz,os'[j]?=some (.row k es sz)->∃id es0,ids[j]?=some id/\os[id]?=some (.row k es0 sz)/\((k=0/\es=es0)\/(k≠0/\es=renL (posOf ids) es0)):=fun j k es sz hj=>by
  obtain ⟨id,h1,h2⟩:=hget j _ hj;have h3:renPO (posOf ids) (entryAt os id)=.row k es sz:=by
   grind
  rcases entryAt_eq os id with h4|⟨_,h4⟩
  . cases he:entryAt os id with
    | row k' es' sz' =>
     rw[he]at h3 h4;cases k' with
     |zero=>cases h3;grind
     |succ k'=>cases h3;grind
    |mapo=>rw[he]at h3;cases h3
    |sub p i o=>grind[renPO]
    |dead=>rw[he]at h3;cases h3
  . rw[h4]at h3;cases h3
 have hmp:∀(j:Nat) es,os'[j]?=some (.mapo es)->∃id,ids[j]?=some id/\os[id]?=some (.mapo es):=fun j es hj=>by
  obtain ⟨id,h1,h2⟩:=hget j _ hj;have h3:renPO (posOf ids) (entryAt os id)=.mapo es:=by
   grind
  rcases entryAt_eq os id with h4|⟨_,h4⟩
  . cases he:entryAt os id with
    |row k' es' sz'=>rw[he]at h3;cases k'<;>cases h3
    |mapo=>rw[he]at h3 h4;cases h3;grind
    |sub p i o=>grind[renPO]
    |dead=>rw[he]at h3;cases h3
  . rw[h4]at h3;cases h3
 have hsb:∀(j:Nat) p i o,os'[j]?=some (.sub p i o)->∃id p0,ids[j]?=some id/\os[id]?=some (.sub p0 i o)/\posOf ids p0=some p:=fun j p i o hj=>by
  obtain ⟨id,h1,h2⟩:=hget j _ hj;have h3:renPO (posOf ids) (entryAt os id)=.sub p i o:=by
   grind
  rcases entryAt_eq os id with h4|⟨_,h4⟩
  . cases he:entryAt os id with
    |row k' es' sz'=>rw[he]at h3;cases k'<;>cases h3
    |mapo=>rw[he]at h3;cases h3
    | sub p0 i0 o0 =>
     grind[renPO]
    |dead=>rw[he]at h3;cases h3
  . rw[h4]at h3;cases h3
 have hlen:os'.length=ids.length:=by grind
 have ho:∀d (j id:Nat) t,ids[j]?=some id->(rown (posOf ids) ow d=some (j::t)↔ow d=some (id::t)):=fun d j id t hj=>by
  rw[D5]
  constructor
  . rintro⟨r,j',t',h1,h2,h3⟩
    cases h3
    have:=posOf_some ids r _ h2
    grind
  . exact fun h1=>⟨id,j,t,h1,H5 ids id j hn hj,rfl⟩
 have hlo:∀(n j:Nat)(L':List Nat),loP os' n j=some L'->∃id r q t,ids[j]?=some id/\loP os n id=some (r::t)/\posOf ids r=some q/\L'=q::t:=fun n=>by
  induction n with
  |zero=>exact fun j L' e=>by cases e
  | succ n ih =>
   intro j L' e;unfold loP at e;cases hj:os'[j]? with
   |none=>grind
   | some en =>
    rw[hj]at e;cases en with
    | row k es sz =>
     cases e;obtain⟨id,es0,h1,h2,_⟩:=hrw j k es sz hj;exact⟨id,id,j,[],h1,by grind[loP],H5 ids id j hn h1,rfl⟩
    | mapo es =>
     cases e;obtain⟨id,h1,h2⟩:=hmp j es hj;exact⟨id,id,j,[],h1,by grind[loP],H5 ids id j hn h1,rfl⟩
    |dead=>cases e
    | sub p i o =>
     simp only at e;cases hp:loP os' n p with
     |none=>grind
     | some Lp =>
      rw[hp]at e;cases e;obtain⟨id,p0,h1,h2,h3⟩:=hsb j p i o hj;obtain⟨id',r,q,t,h4,h5,h6,rfl⟩:=ih p Lp hp
      have:id'=p0:=by
       have:=posOf_some ids p0 p h3
       grind
      subst this;exact⟨id,r,q,t++[i,o],h1,by grind[loP],h6,by simp⟩
 have hR:Ren (posOf ids) ow os (rown (posOf ids) ow) os':=fun id j hj _=>by
  have hj':=posOf_some ids id j hj;refine⟨by grind,fun L' hL'=>?_⟩;obtain⟨id',r,q,t,h1,h2,h3,rfl⟩:=hlo 6 j L' hL';grind[posOf_some]
 refine⟨⟨fun j es sz hj=>?_,fun j k es sz hj hk=>?_,fun j es hj=>?_,fun a b M ha hb=>?_,fun a M ha=>?_,s.zb,fun j p i o hj=>?_⟩,hR⟩
 . obtain ⟨id,es0,h1,h2,h3⟩:=hrw j 0 es sz hj
   rcases h3 with⟨_,rfl⟩|⟨h3,_⟩
   . obtain⟨x,hx⟩:=s.row id es sz h2
     exact⟨x,hx.reloc (zkb _) (fun _ hz=>⟨hz,rfl⟩) (fun d t=>ho d j id t h1) (fun _ _ _=>rfl)⟩
   grind
 . obtain ⟨id,es0,h1,h2,h3⟩:=hrw j k es sz hj
   rcases h3 with⟨h3,_⟩|⟨_,rfl⟩
   . grind
   . obtain⟨c,ces,g⟩:=s.raw id k es0 sz h2 hk
     exact⟨c,ces,g.ren (fun _ hz=>⟨hz,rfl⟩) hR ((ho c j id [] h1).2 g.o) (zkb _) rfl (fun a t ha=>g.no a t ((ho a j id t h1).1 ha))⟩
 . obtain⟨id,h1,h2⟩:=hmp j es hj
   obtain⟨c,ces,g⟩:=s.map id es h2;exact⟨c,ces,(ho c j id [] h1).2 g.o,g.lt,g.get,g.len,g.kv,fun a t ha=>g.no a t ((ho a j id t h1).1 ha)⟩
 . obtain⟨r,j,t,h1,h2,rfl⟩:=D5.1 ha
   obtain⟨r',j',t',h3,h4,h5⟩:=D5.1 hb;cases h5;have e1:=posOf_some ids r j h2;have e2:=posOf_some ids r' _ h4;rw[e1]at e2;cases e2;exact s.inj _ _ _ h1 h3
 . obtain ⟨r,j,t,h1,h2,rfl⟩:=D5.1 ha
   obtain⟨h3,h4,r',t',h5,h6⟩:=s.live a _ h1;cases h5;refine⟨h3,h4,j,t,rfl,?_⟩;have hj:=posOf_some ids r j h2;unfold isRt at h6|-;rw[hos,zqg,hj];show(match some (f (renPO (posOf ids) (entryAt os r)))with|some (.row _ _ _)=>true|some (.mapo _)=>true|_=>false)=true
   unfold entryAt;cases he:os[r]? with
   |none=>grind
   | some e =>
    rw[he]at h6;cases e with
    | row k es sz =>
     have:f (renPO (posOf ids) (.row k es sz))=renPO (posOf ids) (.row k es sz):=by
      grind[renPO]
     simp only[this];cases k<;>rfl
    | mapo es =>
     grind[renPO]
    |sub=>cases h6
    |dead=>cases h6
 . obtain⟨id,p0,h1,h2,h3⟩:=hsb j p i o hj
   rw[hlen];exact(zqc.1 (posOf_some ids p0 p h3)).1
theorem vF{keep:List Nat}:(markIds keep fr K).Nodup/\∀j,j<K.ext->(markIds keep fr K)[j]?=some j:=by
 grind[markIds,Ac]
theorem look_keep(σ:Nat->Option Nat)(fr:PF):∀(keep:List Nat)(i:Nat),lookP (keep.map fun i=>(i,F7 σ (lookP fr i))) i=F7 σ (lookP fr i)\/lookP (keep.map fun i=>(i,F7 σ (lookP fr i))) i=.und
 |[],i=>.inr rfl
 | k::keep,i=>by
  show(if k=i then F7 σ (lookP fr k)else lookP (keep.map fun i=>(i,F7 σ (lookP fr i))) i)=_\/(if k=i then F7 σ (lookP fr k)else lookP (keep.map fun i=>(i,F7 σ (lookP fr i))) i)=_
  by_cases e:k=i
  . grind
  . rw[if_neg e];exact look_keep σ fr keep i
theorem vG{ids:List Nat}{j:Nat}(hj:ids[j]?=some j){ext:Nat}{tch:List Nat}:isRt (DV ids K ext tch).os j=true->isRt K.os j=true:=by
 intro hr;unfold isRt at hr|-
 have:(DV ids K ext tch).os[j]?=some (renPO (posOf ids) (entryAt K.os j)):=by
  show(ids.map fun id=>renPO (posOf ids) (entryAt K.os id))[j]?=_
  grind
 rw[this]at hr;unfold entryAt at hr;cases he:K.os[j]? with
 |none=>rw[he]at hr;cases hr
 | some e =>
  rw[he]at hr;cases e with
  |row=>rfl
  |mapo=>rfl
  |dead=>cases hr
  | sub p i o =>
   grind[renPO]
theorem bI(s:F6 Z ow h K.os)(a:FrR Z ow h K.os nt frc fr)(keep:List Nat):∃ow',F6 Z ow' h (M4 keep fr K).2.os/\FrR Z ow' h (M4 keep fr K).2.os nt frc (M4 keep fr K).1/\Stp K.ext Z ow h K Z ow' h (M4 keep fr K).2/\K.ext<=(M4 keep fr K).2.os.length/\∀id,id<K.ext->id<K.os.length->∀L',loP (M4 keep fr K).2.os 6 id=some L'->∃L,loP K.os 6 id=some L/\∀c,ow c=some L↔ow' c=some L':=by
 obtain⟨hn,hx⟩:=vF (fr:=fr) (K:=K) (keep:=keep);obtain⟨h1,h2⟩:=Uf s hn (f:=id) (fun e=>.inl rfl) (os':=(M4 keep fr K).2.os) rfl;have hp:∀j,j<K.ext->posOf (markIds keep fr K) j=some j:=fun j hj=>H5 _ _ _ hn (hx j hj)
 have hlen:(M4 keep fr K).2.os.length=(markIds keep fr K).length:=by show((markIds keep fr K).map _).length=_;simp
 refine⟨_,h1,⟨fun i=>?_,a.has⟩,⟨zkb _,fun _ hz=>⟨hz,rfl⟩,fun _ hz=>.inl hz,fun _ _ _=>rfl,fun d M hd _ e=>?_,⟨[],rfl,fun d hd=>by cases hd⟩,fun d r t ho hr=>?_,fun r hr hl=>?_,rfl,fun j hj c hr=>?_,fun j hj hr=>vG (hx j hj) hr⟩,?_,fun id hi hl=>(h2 id id (hp id hi) hl).2⟩
 . rcases look_keep (posOf (markIds keep fr K)) fr keep i with e|e
   . show VR _ _ _ _ _ (lookP (keep.map fun i=>(i,F7 (posOf (markIds keep fr K)) (lookP fr i))) i)
     rw[e];exact(a.v i).ren (fun _ hz=>⟨hz,rfl⟩) h2
   . show VR _ _ _ _ _ (lookP (keep.map fun i=>(i,F7 (posOf (markIds keep fr K)) (lookP fr i))) i)
     rw[e];exact .und
 . grind[D5]
 . exact .inl ⟨t,D5.2 ⟨r,r,t,ho,hp r hr,rfl⟩⟩
 . exact zqr.2 ⟨hr,by grind⟩
 . rw[D5]
   constructor
   . grind
   grind[posOf_some]
 grind
end
section
variable {E:Env}{R:AV->AV->Prop}{Z Z' Z1:Nat->Prop}{ow ow' ow1 ow2:Nat->Option (List Nat)}{h h' h1:Heap}{K K' K1:PK}{os os' os1 os2:List PO}{x y xc yc v k:AV}{L M:List Nat}{nt:Nat}{frc:Tr}{fr:PF}{σ:Nat->Option Nat}
theorem Md(os:List PO)(ids:List Nat):∀(l:List PO)(n j:Nat),(killU os ids n l)[j]?=(l[j]?).map fun e=>match e with | .sub p i o=>if ids.contains (n+j)||(chainOf os 6 p).any (fun q=>ids.contains q)then .dead else .sub p i o|e=>e
 |[],n,j=>by simp[killU]
 |e::l,n,0=>rfl
 | e::l,n,j+1=>by
  show(killU os ids (n+1) l)[j]?=(l[j]?).map _
  rw[Md os ids l (n+1) j,show n+1+j=n+(j+1) by omega]
theorem Xs(os:List PO)(ids:List Nat):∀(l:List PO)(n:Nat),(killU os ids n l).length=l.length
 |[],_=>rfl
 |e::l,n=>congrArg Nat.succ (Xs os ids l (n+1))
theorem vH(os:List PO)(ids:List Nat):Wk os (killU os ids 0 os):=by
 refine⟨Xs _ _ _ _,fun j=>?_⟩;rw[Md];grind
theorem Xt{ids:List Nat}{j p i o:Nat}(e:(killU os ids 0 os)[j]?=some (.sub p i o)):(∀q∈chainOf os 6 p,¬q∈ids)/\¬j∈ids:=by
 rw[Md]at e;grind
theorem Ug:∀(n id:Nat),rootOf os n id∈chainOf os n id
 |0,id=>zqs.2 rfl
 | n+1,id=>by
  unfold rootOf chainOf;cases os[id]? with
  |none=>grind
  | some e =>
   cases e with
   |sub p i o=>exact zqq _ (Ug n p)
   |_=>grind
theorem EB{n m id:Nat}(hm:n<=m)(e:loP os n id=some L):loP os m id=some L:=by
 induction hm with
 |refl=>exact e
 |step _ ih=>exact Kh _ _ _ ih
def OB(ρ:Nat->Option Nat)(os os':List PO)(id:Nat)(e:PO):Prop:=
 (∃k es sz k' es' sz',os[id]?=some (.row k es sz)/\e=.row k' es' sz'/\os'[id]?=some (renPO ρ e))\/(∃k es sz,os[id]?=some (.row k es sz)/\e=.dead/\os'[id]?=some .dead)\/(∃es es',os[id]?=some (.mapo es)/\e=.mapo es'/\os'[id]?=some (.mapo es'))\/(isRt os id=false/\e=.dead/\os'[id]?=os[id]?)
theorem X8{ρ:Nat->Option Nat}:∀(ids:List Nat)(l os os':List PO),putBack ρ ids l os=some os'->ids.Nodup->os'.length=os.length/\(∀r,¬r∈ids->os'[r]?=os[r]?)/\∀(j id:Nat),ids[j]?=some id->∃e,l[j]?=some e/\OB ρ os os' id e
 |[],l,os,os',e,_=>by cases e;grind
 |id::ids,[],os,os',e,_=>by cases e
 | id :: ids,a::l,os,os',e,hn=>by
  have hn:=zqv.1 hn;have step:∀{e0:PO},id<os.length->putBack ρ ids l (os.set id e0)=some os'->os'.length=os.length/\(∀r,¬r∈id::ids->os'[r]?=os[r]?)/\os'[id]?=some e0/\∀(j id':Nat),ids[j]?=some id'->∃e,l[j]?=some e/\OB ρ os os' id' e:=fun{e0} hl hp=>by
   obtain⟨h1,h2,h3⟩:=X8 ids l _ os' hp hn.2;refine⟨by grind,fun r hr=>?_,?_,fun j id' hj=>?_⟩
   . grind
   . grind
   . obtain⟨e,h4,h5⟩:=h3 j id' hj
     grind[OB,isRt]
  unfold putBack at e;cases he:os[id]? with
  | none =>
   rw[he]at e;simp only at e;cases a with
   | dead =>
    obtain⟨h1,h2,h3⟩:=X8 ids l os os' e hn.2;refine⟨h1,(by grind),fun j id' hj=>?_⟩;cases j with
    |zero=>cases hj;exact⟨.dead,rfl,.inr (.inr (.inr ⟨by grind[isRt],rfl,h2 _ hn.1⟩))⟩
    |succ j=>grind
   |_=>cases e
  | some b =>
   have hl:id<os.length:=(zqc.1 he).1;rw[he]at e;cases b with
   | row k es sz =>
    simp only at e;cases a with
    | row k' es' sz' =>
     obtain⟨h1,h2,h3,h4⟩:=step hl e;refine⟨h1,h2,fun j id' hj=>?_⟩;cases j with
     |zero=>cases hj;exact⟨_,rfl,.inl ⟨_,_,_,_,_,_,he,rfl,h3⟩⟩
     |succ j=>grind
    | dead =>
     obtain⟨h1,h2,h3,h4⟩:=step hl e;refine⟨h1,h2,fun j id' hj=>?_⟩;cases j with
     |zero=>cases hj;exact⟨_,rfl,.inr (.inl ⟨_,_,_,he,rfl,h3⟩)⟩
     |succ j=>grind
    |_=>cases e
   | mapo es =>
    simp only at e;cases a with
    | mapo es' =>
     obtain⟨h1,h2,h3,h4⟩:=step hl e;refine⟨h1,h2,fun j id' hj=>?_⟩;cases j with
     |zero=>cases hj;exact⟨_,rfl,.inr (.inr (.inl ⟨_,_,he,rfl,h3⟩))⟩
     |succ j=>grind
    |_=>cases e
   | sub p i o =>
    simp only at e;cases a with
    | dead =>
     obtain⟨h1,h2,h3⟩:=X8 ids l os os' e hn.2;refine⟨h1,(by grind),fun j id' hj=>?_⟩;cases j with
     |zero=>cases hj;exact⟨.dead,rfl,.inr (.inr (.inr ⟨by grind[isRt],rfl,h2 _ hn.1⟩))⟩
     |succ j=>grind
    |_=>cases e
   | dead =>
    simp only at e;cases a with
    | dead =>
     obtain⟨h1,h2,h3⟩:=X8 ids l os os' e hn.2;refine⟨h1,(by grind),fun j id' hj=>?_⟩;cases j with
     |zero=>cases hj;exact⟨.dead,rfl,.inr (.inr (.inr ⟨by grind[isRt],rfl,h2 _ hn.1⟩))⟩
     |succ j=>grind
    |_=>cases e
theorem fO(s:F6 Z ow h K.os)(hx:K.ext<=K.os.length){ids:List Nat}(hn:ids.Nodup)(s1:F6 Z1 ow1 h1 K1.os)(st:Stp ids.length Z (rown (posOf ids) ow) h (focusK ids K) Z1 ow1 h1 K1)(hm:mergeK ids K K1=some K'):
 ∃ow',F6 Z1 ow' h1 K'.os/\Keep' ow K.os ow' K'.os/\(∀b,Stp b Z ow h K Z1 ow' h1 K')/\Ren (backN ids K.os.length) ow1 K1.os ow' K'.os:=by
 unfold mergeK at hm;split at hm
 rotate_left
 . cases hm
 rename_i hall;have hidl:∀i∈ids,i<K.os.length:=fun i hi=>by simpa using zqf.1 hall i hi
 cases hp:putBack (backN ids K.os.length) ids K1.os (killU K.os ids 0 K.os)with
 |none=>rw[hp]at hm;cases hm
 | some osb =>
  rw [hp]at hm;cases hm;have w:=vH K.os ids;obtain⟨p1,p2,p3⟩:=X8 ids K1.os _ osb hp hn;have hbl:osb.length=K.os.length:=p1.trans w.1;have hext:(focusK ids K).ext=ids.length:=rfl;have hf0:∀(j id:Nat),ids[j]?=some id->isRt (focusK ids K).os j=isRt K.os id:=fun j id hj=>by
   unfold isRt
   have:(focusK ids K).os[j]?=some (cutPO (renPO (posOf ids) (entryAt K.os id))):=by
    show(ids.map fun id=>cutPO (renPO (posOf ids) (entryAt K.os id)))[j]?=_
    rw[zqg,hj];rfl
   rw[this];unfold entryAt;cases he:K.os[id]? with
   |none=>rfl
   | some e =>
    cases e with
    |row k es sz=>cases k<;>rfl
    |mapo=>rfl
    |dead=>rfl
    | sub p i o =>
     show(match some (cutPO (match posOf ids p with|some q=>PO.sub q i o|none=>.dead))with|some (.row _ _ _)=>true|some (.mapo _)=>true|_=>false)=false
     cases posOf ids p<;>rfl
  have hkind:∀(j id:Nat),ids[j]?=some id->isRt K1.os j=true->isRt K.os id=true/\id<K.os.length:=fun j id hj hr=>by
   have hjl:j<ids.length:=(zqc.1 hj).1
   have:=st.rd j hjl hr
   rw[hf0 j id hj]at this;exact⟨this,isRt_lt this⟩
  have hb1:∀(j id:Nat),ids[j]?=some id->backN ids K.os.length j=some id:=fun j id hj=>by unfold backN;rw[hj]
  have hb2:∀j,ids.length<=j->backN ids K.os.length j=some (K.os.length+(j-ids.length)):=fun j hj=>by
   unfold backN;rw[List.getElem?_eq_none hj]
  have hbk:∀j r,backN ids K.os.length j=some r->ids[j]?=some r\/(ids.length<=j/\r=K.os.length+(j-ids.length)):=fun j r hr=>by
   unfold backN at hr;cases hq:ids[j]? with
   |some id=>rw[hq]at hr;cases hr;exact .inl rfl
   |none=>rw[hq]at hr;cases hr;exact .inr ⟨by simpa using hq,rfl⟩
  let ow':Nat->Option (List Nat):=fun d=>match rown (backN ids K.os.length) ow1 d with
   |some M=>some M
   |none=>if d<h.next/\(rown (posOf ids) ow d).isNone=true then ow d else none
  have hoi:∀d r t,ow' d=some (r::t)↔(∃j,ow1 d=some (j::t)/\backN ids K.os.length j=some r)\/(rown (posOf ids) ow d=none/\d<h.next/\ow d=some (r::t)):=fun d r t=>by
   show (match rown (backN ids K.os.length) ow1 d with
    |some M=>some M
    |none=>if d<h.next/\(rown (posOf ids) ow d).isNone=true then ow d else none)=some (r::t)↔_
   cases hq:rown (backN ids K.os.length) ow1 d with
   | some M =>
    simp only;obtain⟨r',j,t',a1,a2,a3⟩:=D5.1 hq
    constructor
    . intro e;cases e;cases a3;exact .inl ⟨r',a1,a2⟩
    . rintro (⟨j',b1,b2⟩|⟨b1,b2,b3⟩)
      . rw[a1]at b1;cases b1
        rw[a2]at b2;cases b2;rw[a3]
      . exact absurd b1 (st.uo d _ a1 b2)
   | none =>
    simp only
    constructor
    . intro e
      split at e
      . rename_i hc
        refine .inr ⟨?_,hc.1,e⟩;cases h2:rown (posOf ids) ow d with
        |none=>rfl
        |some M=>rw[h2]at hc;cases hc.2
      . cases e
    . rintro(⟨j',b1,b2⟩|⟨b1,b2,b3⟩)
      . rw[D5.2 ⟨j',r,t,b1,b2,rfl⟩]at hq;cases hq
      . rw[if_pos ⟨b2,by rw[b1];rfl⟩];exact b3
  have hoc:∀d M,ow' d=some M->∃r t,M=r::t:=fun d M hd=>by
   have hd:(match rown (backN ids K.os.length) ow1 d with
    |some M=>some M
    |none=>if d<h.next/\(rown (posOf ids) ow d).isNone=true then ow d else none)=some M:=hd
   cases hq:rown (backN ids K.os.length) ow1 d with
   | some N =>
    rw[hq]at hd;cases hd;obtain⟨_,j,t,_,_,a3⟩:=D5.1 hq;exact⟨j,t,a3⟩
   | none =>
    rw[hq]at hd;simp only at hd;split at hd
    . obtain⟨_,_,r,t,a,_⟩:=s.live d M hd;exact⟨r,t,a⟩
    . cases hd
  have hhead:∀d r t,ow d=some (r::t)->r<K.os.length:=fun d r t hd=>by
   obtain⟨_,_,r',t',a,b⟩:=s.live d _ hd;cases a;exact isRt_lt b
  have hnone:∀d r t,ow d=some (r::t)->¬r∈ids->rown (posOf ids) ow d=none:=fun d r t hd hr=>by
   cases hq:rown (posOf ids) ow d with
   |none=>rfl
   | some M =>
    obtain⟨r',j,t',a1,a2,_⟩:=D5.1 hq;rw[hd]at a1;cases a1;exact absurd (zqa (posOf_some ids r j a2)) hr
  have hB:∀d r t,¬r∈ids->r<K.os.length->(ow' d=some (r::t)↔ow d=some (r::t)):=fun d r t hr hl=>by
   rw[hoi]
   constructor
   . grind
   . exact fun hd=>.inr ⟨hnone d r t hd hr,(s.live d _ hd).1,hd⟩
  have hC:∀d (j r:Nat) t,ids[j]?=some r->r<K.os.length->(ow' d=some (r::t)↔ow1 d=some (j::t)):=fun d j r t hj hl=>by
   rw[hoi]
   constructor
   . rintro (⟨j',b1,b2⟩|⟨b1,_,b3⟩)
     . rcases hbk j' r b2 with c|⟨_,c⟩
       . have:=H5 ids r j' hn c
         rw[H5 ids r j hn hj]at this;grind
       . omega
     . rw[D5.2 ⟨r,j,t,b3,H5 ids r j hn hj,rfl⟩]at b1;cases b1
   grind
  have hD:∀d j t,ids.length<=j->(ow' d=some ((K.os.length+(j-ids.length))::t)↔ow1 d=some (j::t)):=fun d j t hj=>by
   rw[hoi];grind
  have hz:∀d,Z d->Z1 d/\h1.get d=h.get d:=st.zz;have hgo:∀d r t,ow d=some (r::t)->¬r∈ids->h1.get d=h.get d:=fun d r t hd hr=>st.un d (s.live d _ hd).1 (hnone d r t hd hr)
  have hget:∀{r:Nat}{e:PO},(osb++(K1.os.drop ids.length).map (renPO (backN ids K.os.length)))[r]?=some e->(¬r∈ids/\r<K.os.length/\(killU K.os ids 0 K.os)[r]?=some e)\/(∃j e1,ids[j]?=some r/\r<K.os.length/\K1.os[j]?=some e1/\OB (backN ids K.os.length) (killU K.os ids 0 K.os) osb r e1/\osb[r]?=some e)\/∃j e1,ids.length<=j/\r=K.os.length+(j-ids.length)/\K1.os[j]?=some e1/\e=renPO (backN ids K.os.length) e1:=fun{r e} hr=>by
   rw[List.getElem?_append]at hr;split at hr
   . rename_i hl
     by_cases hm:r∈ids
     . obtain⟨j,hj⟩:=zqe hm
       obtain⟨e1,q1,q2⟩:=p3 j r hj;exact .inr (.inl ⟨j,e1,hj,by omega,q1,q2,hr⟩)
     grind
   grind
  have hrenrow:∀{e1:PO}{k es sz},renPO (backN ids K.os.length) e1=.row k es sz->∃es0,e1=.row k es0 sz/\((k=0/\es=es0)\/(k≠0/\es=renL (backN ids K.os.length) es0)):=fun{e1 k es sz} he=>by
   cases e1 with
   | row k' es' sz' =>
    cases k' with
    |zero=>cases he;grind
    |succ k'=>cases he;grind
   |mapo=>cases he
   |dead=>cases he
   |sub p i o=>unfold renPO at he;simp only at he;cases hq:backN ids K.os.length p<;>rw[hq]at he<;>cases he
  have hloc:∀{r:Nat}{e:PO},(osb++(K1.os.drop ids.length).map (renPO (backN ids K.os.length)))[r]?=some e->(¬r∈ids/\r<K.os.length/\(killU K.os ids 0 K.os)[r]?=some e)\/(∃j e1,K1.os[j]?=some e1/\e=renPO (backN ids K.os.length) e1/\(∀d t,ow' d=some (r::t)↔ow1 d=some (j::t))/\backN ids K.os.length j=some r/\((ids[j]?=some r/\isRt K.os r=true)\/ids.length<=j))\/e=.dead:=fun{r e} hr=>by
   rcases hget hr with a|⟨j,e1,b1,b2,b3,b4,b5⟩|⟨j,e1,c1,c2,c3,c4⟩
   . exact .inl a
   . rcases b4 with⟨k,es,sz,k',es',sz',d1,d2,d3⟩|⟨k,es,sz,d1,d2,d3⟩|⟨es,es',d1,d2,d3⟩|⟨d1,d2,d3⟩
     . rw[d3]at b5;cases b5
       exact .inr (.inl ⟨j,e1,b3,rfl,fun d t=>hC d j r t b1 b2,hb1 j r b1,(by grind[Go.AM.isRt])⟩)
     . grind
     . rw[d3]at b5;cases b5
       exact .inr (.inl ⟨j,e1,b3,by rw[d2];rfl,fun d t=>hC d j r t b1 b2,hb1 j r b1,(by grind[Go.AM.isRt])⟩)
     . rw [d3]at b5
       unfold isRt at d1;rw[b5]at d1;cases e with
       |row=>cases d1
       |mapo=>cases d1
       |dead=>grind
       | sub p i o =>
        grind[Xt]
   grind
  have hlolt:∀(n id:Nat)(L:List Nat),n<=6->id<K.os.length->loP (osb++(K1.os.drop ids.length).map (renPO (backN ids K.os.length))) n id=some L->loP K.os n id=some L/\(∀r t,L=r::t->t≠[]->¬r∈ids):=fun n=>by
   induction n with
   |zero=>exact fun id L _ _ e=>by cases e
   | succ n ih =>
    intro id L h6n hl e;unfold loP at e;cases hj:(osb++(K1.os.drop ids.length).map (renPO (backN ids K.os.length)))[id]? with
    |none=>grind
    | some en =>
     rw[hj]at e;have hosb:osb[id]?=some en:=by grind
     cases en with
     | row k es sz =>
      cases e;refine⟨?_,(by grind)⟩;unfold loP;by_cases hm:id∈ids
      . grind[isRt]
      . rw[p2 id hm]at hosb
        rw[w.row.1 hosb]
     | mapo es =>
      cases e;refine⟨?_,(by grind)⟩;unfold loP;by_cases hm:id∈ids
      . grind[isRt]
      . rw[p2 id hm]at hosb
        rw[w.map.1 hosb]
     |dead=>cases e
     | sub p i o =>
      simp only at e;cases hp:loP (osb++(K1.os.drop ids.length).map (renPO (backN ids K.os.length))) n p with
      |none=>rw[hp]at e;cases e
      | some Lp =>
       rw [hp]at e;cases e;have hkill:(killU K.os ids 0 K.os)[id]?=some (.sub p i o):=by
        by_cases hm:id∈ids
        . obtain⟨j,hj'⟩:=zqe hm
          obtain⟨e1,q1,q2⟩:=p3 j id hj';rcases q2 with⟨k',es',sz',k2,es2,sz2,d1,d2,d3⟩|⟨k',es',sz',d1,_,d3⟩|⟨es',_,d1,_,d3⟩|⟨d1,d2,d3⟩
          . rw[d3,d2]at hosb;cases k2<;>cases hosb
          . grind
          . grind
          grind
        grind
       have horig:K.os[id]?=some (.sub p i o):=by
        rcases w.2 id with e1|⟨_,_,_,_,e2⟩
        . grind
        grind
       obtain⟨g1,g2⟩:=ih p Lp (by omega) (s.sb id p i o horig) hp;refine⟨by grind[loP],fun r t e ht=>?_⟩;obtain⟨t1,g3,_⟩:=J1 n p Lp g1;have hch:=Xt hkill
       have:r=rootOf K.os n p:=by grind
       have h6:rootOf K.os 6 p=rootOf K.os n p:=by
        obtain⟨t6,g4,_⟩:=J1 6 p Lp (EB (by omega) g1);grind
       rw[this,<-h6];exact hch.1 _ (Ug 6 p)
  have hkeep:Keep' ow K.os ow' (osb++(K1.os.drop ids.length).map (renPO (backN ids K.os.length))):=by
   refine⟨by simp;omega,fun id hl L' hL'=>?_⟩;obtain⟨g1,g2⟩:=hlolt 6 id L' (zkb _) hl hL';refine⟨L',g1,fun c=>?_⟩;obtain⟨t,g3,g4,_⟩:=J1 6 id L' g1;have hrl:=isRt_lt g4;by_cases hm:rootOf K.os 6 id∈ids
   . -- a root that the call came to
     have ht:t=[]:=Classical.byContradiction fun ht=>g2 _ t g3 ht hm
     subst ht;have hid:rootOf K.os 6 id=id:=by
      grind
     rw [hid]at hm g3;obtain⟨j,hj⟩:=zqe hm;have hrt':isRt (osb++(K1.os.drop ids.length).map (renPO (backN ids K.os.length))) id=true:=by
      grind[J1]
     have hjl:j<ids.length:=(zqc.1 hj).1;have hrt1:isRt K1.os j=true:=by
      unfold isRt at hrt';cases hq:(osb++(K1.os.drop ids.length).map (renPO (backN ids K.os.length)))[id]? with
      |none=>grind
      | some e =>
       rw[hq]at hrt';obtain⟨e1,q1,q2⟩:=p3 j id hj;have hosb:osb[id]?=some e:=by grind
       unfold isRt;rw[q1];rcases q2 with⟨k',es',sz',k2,es2,sz2,d1,d2,d3⟩|⟨k',es',sz',d1,_,d3⟩|⟨es',_,d1,d2,d3⟩|⟨d1,d2,d3⟩
       . rw[d2]
       . grind
       . rw[d2]
       grind[isRt]
     have hxk:=st.xk j hjl c hrt1;rw[g3,hC c j id [] hj (by omega),<-hxk,D5]
     constructor
     . exact fun hd=>⟨id,j,[],hd,H5 ids id j hn hj,rfl⟩
     grind[posOf_some]
   grind
  have hren:Ren (backN ids K.os.length) ow1 K1.os ow' (osb++(K1.os.drop ids.length).map (renPO (backN ids K.os.length))):=by
   have hlen:(osb++(K1.os.drop ids.length).map (renPO (backN ids K.os.length))).length=K.os.length+(K1.os.length-ids.length):=by simp;omega
   have key : ∀(n j r:Nat)(L':List Nat),backN ids K.os.length j=some r->loP (osb++(K1.os.drop ids.length).map (renPO (backN ids K.os.length))) n r=some L'->∃L,loP K1.os n j=some L/\∀c,ow1 c=some L↔ow' c=some L':=fun n=>by
    have main:∀(n j r:Nat)(L':List Nat),backN ids K.os.length j=some r->loP (osb++(K1.os.drop ids.length).map (renPO (backN ids K.os.length))) n r=some L'->∃j0 r0 t,loP K1.os n j=some (j0::t)/\L'=r0::t/\∀c t,ow1 c=some (j0::t)↔ow' c=some (r0::t):=fun n=>by
     induction n with
     |zero=>exact fun j r L' _ e=>by cases e
     | succ n ih =>
      intro j r L' hb e;unfold loP at e;cases hj:(osb++(K1.os.drop ids.length).map (renPO (backN ids K.os.length)))[r]? with
      |none=>grind
      | some en =>
       rw[hj]at e;rcases hloc hj with⟨a1,a2,_⟩|⟨j',e1,b1,b2,b3,b4,b5⟩|rfl
       . grind
       . have hjj:j'=j:=by
          rcases hbk j r hb with c|⟨c,c'⟩
          . rcases hbk j' r b4 with d|⟨_,d⟩
            . have:=H5 ids r j hn c
              rw[H5 ids r j' hn d]at this;grind
            grind
          grind
         subst hjj;unfold loP;rw[b1];cases e1 with
         | row k es sz =>
          have:∃es',en=.row k es' sz:=by rw[b2];cases k<;>exact⟨_,rfl⟩
          grind
         |mapo es=>rw[b2]at e;cases e;grind
         |dead=>rw[b2]at e;cases e
         | sub p i o =>
          rw[b2]at e;rw[show renPO (backN ids K.os.length) (.sub p i o)=(match backN ids K.os.length p with|some q=>PO.sub q i o|none=>.dead)from rfl]at e;simp only at e|-;cases hq:backN ids K.os.length p with
          |none=>grind
          | some p' =>
           rw[hq]at e;simp only at e;cases hL:loP (osb++(K1.os.drop ids.length).map (renPO (backN ids K.os.length))) n p' with
           |none=>grind
           | some Lp =>
            grind
       . cases e
    grind
   intro j r hj hjl;grind
  have hzk:∀d,Z d->Z1 d/\h1.get d=h.get d:=hz;refine⟨ow',⟨fun r es sz hr=>?_,fun r k es sz hr hk=>?_,fun r es hr=>?_,fun a b M ha hb=>?_,fun a M ha=>?_,s1.zb,fun j p i o hj=>?_⟩,hkeep,fun b=>⟨st.nx,hz,st.zn,fun d hd ho=>?_,fun d M hd hl=>?_,?_,fun d r t ho hr=>?_,fun r hr hl=>?_,rfl,fun j hj c hr=>?_,fun j hj hr=>?_⟩,hren⟩
  . rcases hloc hr with⟨a1,a2,a3⟩|⟨j,e1,b1,b2,b3,_,_⟩|h
    . obtain⟨x,hx⟩:=s.row r es sz (w.row.1 a3)
      exact⟨x,hx.reloc st.nx hz (fun d t=>hB d r t a1 a2) (fun d t hd=>hgo d r t hd a1)⟩
    . obtain ⟨es0,rfl,h3⟩:=hrenrow b2.symm
      rcases h3 with⟨_,rfl⟩|⟨h3,_⟩
      . obtain⟨x,hx⟩:=s1.row j _ sz b1
        exact⟨x,hx.reloc (zkb _) (fun _ hz=>⟨hz,rfl⟩) (fun d t=>b3 d t) (fun _ _ _=>rfl)⟩
      grind
    . cases h
  . rcases hloc hr with⟨a1,a2,a3⟩|⟨j,e1,b1,b2,b3,_,_⟩|h
    . obtain⟨c,ces,g⟩:=s.raw r k es sz (w.row.1 a3) hk
      refine⟨c,ces,(hB c r [] a1 a2).2 g.o,zkc g.lt st.nx,(hgo c r [] g.o a1).trans g.get,g.sh,fun i x y hx hy o a b ha hb=>(g.vr i x y hx hy o a b ha hb).keep hz hkeep,g.okp,fun a t ha=>g.no a t ((hB a r t a1 a2).1 ha)⟩
    . obtain ⟨es0,rfl,h3⟩:=hrenrow b2.symm
      rcases h3 with⟨h3,_⟩|⟨_,rfl⟩
      . grind
      . obtain⟨c,ces,g⟩:=s1.raw j k es0 sz b1 hk
        exact⟨c,ces,g.ren (fun _ hz=>⟨hz,rfl⟩) hren ((b3 c []).2 g.o) (zkb _) rfl (fun a t ha=>g.no a t ((b3 a t).1 ha))⟩
    . cases h
  . rcases hloc hr with⟨a1,a2,a3⟩|⟨j,e1,b1,b2,b3,_,_⟩|h
    . obtain⟨c,ces,g⟩:=s.map r es (w.map.1 a3)
      exact⟨c,ces,(hB c r [] a1 a2).2 g.o,zkc g.lt st.nx,(hgo c r [] g.o a1).trans g.get,g.len,fun i x y hx hy=>⟨(g.kv i x y hx hy).1,(g.kv i x y hx hy).2.mono hz⟩,fun a t ha=>g.no a t ((hB a r t a1 a2).1 ha)⟩
    . have:e1=.mapo es:=by
       cases e1 with
       |mapo=>cases b2;rfl
       |row k _ _=>cases k<;>cases b2
       |dead=>cases b2
       |sub p i o=>unfold renPO at b2;simp only at b2;cases hq:backN ids K.os.length p<;>rw[hq]at b2<;>cases b2
      subst this;obtain⟨c,ces,g⟩:=s1.map j es b1;exact⟨c,ces,(b3 c []).2 g.o,g.lt,g.get,g.len,g.kv,fun a t ha=>g.no a t ((b3 a t).1 ha)⟩
    . cases h
  . obtain ⟨r,t,rfl⟩:=hoc a M ha
    rcases(hoi a r t).1 ha with⟨j,a1,a2⟩|⟨a1,a2,a3⟩
    . rcases (hoi b r t).1 hb with⟨j',b1,b2⟩|⟨b1,b2,b3⟩
      . have hjj:j'=j:=by
         rcases hbk j r a2 with c|⟨c,c'⟩
         . rcases hbk j' r b2 with d|⟨_,d⟩
           . have:=H5 ids r j hn c
             rw[H5 ids r j' hn d]at this;cases this;rfl
           . have:=hidl r (zqa c);omega
         . rcases hbk j' r b2 with d|⟨_,d⟩
           . have:=hidl r (zqa d);omega
           . omega
        subst hjj;exact s1.inj _ _ _ a1 b1
      . rcases hbk j r a2 with c|⟨_,c⟩
        . rw[D5.2 ⟨r,j,t,b3,H5 ids r j hn c,rfl⟩]at b1;cases b1
        . have:=hhead b r t b3;omega
    . rcases (hoi b r t).1 hb with⟨j',b1,b2⟩|⟨b1,b2,b3⟩
      . rcases hbk j' r b2 with c|⟨_,c⟩
        . rw[D5.2 ⟨r,j',t,a3,H5 ids r j' hn c,rfl⟩]at a1;cases a1
        . have:=hhead a r t a3;omega
      . exact s.inj _ _ _ a3 b3
  . obtain ⟨r,t,rfl⟩:=hoc a M ha
    rcases(hoi a r t).1 ha with⟨j,a1,a2⟩|⟨a1,a2,a3⟩
    . obtain ⟨c1,c2,r',t',c3,c4⟩:=s1.live a _ a1
      cases c3;refine⟨c1,c2,r,t,rfl,?_⟩;rcases hbk j r a2 with c|⟨c,rfl⟩
      . obtain⟨e1,q1,q2⟩:=p3 j r c
        have hrl:=hidl r (zqa c);unfold isRt at c4|-;rw[zqm (by omega)];rw[q1]at c4;rcases q2 with⟨k',es',sz',k2,es2,sz2,d1,d2,d3⟩|⟨k',es',sz',d1,d2,d3⟩|⟨es',_,d1,d2,d3⟩|⟨d1,d2,d3⟩
        . rw[d3,d2];cases k2<;>rfl
        . rw[d2]at c4;cases c4
        . rw[d3]
        . rw[d2]at c4;cases c4
      . unfold isRt at c4|-
        rw[zqw (by omega),zqg,zqx,show ids.length+(K.os.length+(j-ids.length)-osb.length)=j by omega];cases hq:K1.os[j]? with
        |none=>rw[hq]at c4;cases c4
        | some e =>
         rw[hq]at c4;cases e with
         |row k es sz=>cases k<;>rfl
         |mapo=>rfl
         |sub=>cases c4
         |dead=>cases c4
    . obtain ⟨c1,c2,r',t',c3,c4⟩:=s.live a _ a3
      cases c3;have hrl:=isRt_lt c4;have hnr:¬r∈ids:=fun hm=>by
       obtain⟨j,hj⟩:=zqe hm;rw[D5.2 ⟨r,j,t,a3,H5 ids r j hn hj,rfl⟩]at a1;cases a1
      refine⟨zkc c1 st.nx,fun hz1=>?_,r,t,rfl,?_⟩
      . rcases st.zn a hz1 with h|h
        . exact c2 h
        . omega
      . have:=w.rt r
        unfold isRt at this c4|-;rw[zqm (by omega),p2 r hnr,this];exact c4
  . rcases hloc hj with⟨a1,a2,a3⟩|⟨j',e1,b1,b2,_,_,_⟩|h
    . have horig:K.os[j]?=some (.sub p i o):=by
       rcases w.2 j with e1|⟨_,_,_,_,e2⟩
       . rw[<-e1];exact a3
       . rw[e2]at a3;cases a3
      have:=s.sb j p i o horig
      simp;omega
    . cases e1 with
      | sub p0 i0 o0 =>
       unfold renPO at b2;simp only at b2;cases hq:backN ids K.os.length p0 with
       |none=>rw[hq]at b2;cases b2
       | some p' =>
        rw[hq]at b2;cases b2;have hpl:=s1.sb j' p0 i o b1;simp;rcases hbk p0 p hq with c|⟨_,c⟩
        . have:=hidl p (zqa c);omega
        . omega
      |row k _ _=>cases k<;>cases b2
      |mapo=>cases b2
      |dead=>cases b2
    . cases h
  . exact st.un d hd (by
     cases hq:rown (posOf ids) ow d with
     |none=>rfl
     | some M =>
      obtain⟨_,_,_,a1,_⟩:=D5.1 hq;rw[ho]at a1;cases a1)
  . obtain⟨r,t,rfl⟩:=hoc d M hd
    intro e;rcases(hoi d r t).1 hd with⟨j,a1,a2⟩|⟨_,_,a3⟩
    . have:=st.uo d _ a1 hl
      exact this (by
       cases hq:rown (posOf ids) ow d with
       |none=>rfl
       | some M =>
        obtain⟨_,_,_,a1,_⟩:=D5.1 hq;rw[e]at a1;cases a1)
    . rw[e]at a3;cases a3
  . obtain ⟨l,l1,l2⟩:=st.th
    refine⟨l,l1,fun d hd=>?_⟩;rcases l2 d hd with h|⟨j,t,h3,h4⟩
    . exact .inl h
    . obtain⟨r,j',t',a1,a2,a3⟩:=D5.1 h3
      cases a3;have hj:=posOf_some ids r j a2;have hjl:j<ids.length:=(zqc.1 hj).1;refine .inr ⟨r,t,a1,fun _=>zqy _ (zqn.2 ⟨j,zqr.2 ⟨h4 hjl,by simpa using hjl⟩,?_⟩)⟩;rw[zqz,hj];rfl
  . by_cases hm:r∈ids
    . obtain⟨j,hj⟩:=zqe hm
      have hjl:j<ids.length:=(zqc.1 hj).1;have h3:=D5.2 ⟨r,j,t,ho,H5 ids r j hn hj,rfl⟩;rcases st.mv d j t h3 hjl with⟨t',h4⟩|h4
      . exact .inl ⟨t',(hC d j r t' hj (hidl r hm)).2 h4⟩
      . exact .inr (zqy _ (zqn.2 ⟨j,zqr.2 ⟨h4,by simpa using hjl⟩,by rw[zqz,hj];rfl⟩))
    . exact .inl ⟨t,(hB d r t hm (hhead d r t ho)).2 ho⟩
  . exact List.mem_append_right _ hr
  . have hl:j<K.os.length:=by omega
    have hrl:loP (osb++(K1.os.drop ids.length).map (renPO (backN ids K.os.length))) 6 j=some [j]:=by
     unfold isRt at hr;unfold loP;have hr:(match(osb++(K1.os.drop ids.length).map (renPO (backN ids K.os.length)))[j]? with|some (.row _ _ _)=>true|some (.mapo _)=>true|_=>false)=true:=hr;cases hq:(osb++(K1.os.drop ids.length).map (renPO (backN ids K.os.length)))[j]? with
     |none=>rw[hq]at hr;cases hr
     |some e=>rw[hq]at hr;cases e<;>first|rfl|cases hr
    obtain⟨L,g1,g2⟩:=hkeep.2 j hl [j] hrl;obtain⟨g3,_⟩:=hlolt 6 j [j] (zkb _) hl hrl;rw[g1]at g3;cases g3;exact g2 c
  . have hl:j<K.os.length:=by omega
    have hr:(match(osb++(K1.os.drop ids.length).map (renPO (backN ids K.os.length)))[j]? with|some (.row _ _ _)=>true|some (.mapo _)=>true|_=>false)=true:=hr;cases hq:(osb++(K1.os.drop ids.length).map (renPO (backN ids K.os.length)))[j]? with
    |none=>rw[hq]at hr;cases hr
    | some e =>
     rcases hloc hq with⟨a1,a2,a3⟩|⟨j',e1,b1,b2,b3,b4,b5⟩|rfl
     . rw[<-w.rt];unfold isRt;rw[a3];rw[hq]at hr;exact hr
     . rcases b5 with⟨_,h⟩|h
       . exact h
       . rcases hbk j' j b4 with c|⟨_,c⟩
         . have:=(zqc.1 c).1;omega
         . omega
     . rw[hq]at hr;cases hr
end
section
variable {E:Env}{R:AV->AV->Prop}{Z Z' Z1:Nat->Prop}{ow ow' ow1:Nat->Option (List Nat)}{h h' h1:Heap}{K K':PK}{os os' ps:List PO}{x y xc yc v k:AV}{L M:List Nat}
theorem u6{a:Option AV}{l:Option (List AV)}{r:List AV}(e:consO a l=some r):∃v t,a=some v/\l=some t/\r=v::t:=by
 unfold consO at e;grind
theorem Ca:∀(l l':List AV),frzL l=some l'->l'.length=l.length/\∀(i:Nat) y y',l[i]?=some y->l'[i]?=some y'->frzC y=some y'
 |[],l',e=>by cases e;grind
 | v::l,l',e=>by
  unfold frzL at e;obtain⟨a,t,h1,h2,rfl⟩:=u6 e;obtain⟨h3,h4⟩:=Ca l t h2;grind
theorem fP:∀(l l':List AV),viewL os l=some l'->l'.length=l.length/\∀(i:Nat) y y',l[i]?=some y->l'[i]?=some y'->viewV os y=some y'
 |[],l',e=>by cases e;grind
 | v::l,l',e=>by
  unfold viewL at e;obtain⟨a,t,h1,h2,rfl⟩:=u6 e;obtain⟨h3,h4⟩:=fP l t h2;grind
theorem Me:∀(l l':List AV),viewAs os l=some l'->l'.length=l.length/\∀(i:Nat) y y',l[i]?=some y->l'[i]?=some y'->viewA os y=some y'
 |[],l',e=>by cases e;grind
 | v::l,l',e=>by
  unfold viewAs at e;obtain⟨a,t,h1,h2,rfl⟩:=u6 e;obtain⟨h3,h4⟩:=Me l t h2;grind
theorem Km{c c':AV}(e:frzC c=some c')(hc:isAg c=false):clo c'=true:=by
 cases c<;>unfold frzC at e<;>first|(cases e;done)|(cases e;rfl)|skip
 . cases hc
 . rename_i cs
   cases cs with
   |nil=>cases e
   | cons a es =>
    cases a<;>try (cases e;done)
    rename_i i j z;cases j with
    |succ=>cases e
    | zero =>
     simp only at e;cases hf:frzL es with
     |none=>grind
     | some es' =>
      rw[hf]at e;simp only at e;split at e
      . split at e
        . cases e;rfl
        . cases e
      . cases e;rfl
 . rename_i es f
   cases hf:frzL es with
   |none=>grind
   |some es'=>rw[hf]at e;cases e;rfl
 . rename_i v o
   cases hf:frzC v with
   |none=>grind
   |some es'=>rw[hf]at e;cases e;rfl
theorem Fz.frz(f:Fz Z h x y):∀y',frzC y=some y'->Fz Z h x y':=by
 have fsl:∀{x:AV}{es es':List AV},(∀es'':List AV,frzL es=some es''->Fz Z h x (fslN es''))->∀{f:Bool} y',frzC (.fsl es f)=some y'->Fz Z h x y':=(by grind[Go.AM.frzC])
 induction f with
 |int=>intro y' e;cases e;exact .int _ _
 |bool=>intro y' e;cases e;exact .bool _
 |str=>intro y' e;cases e;exact .str _
 |nilsl=>intro y' e;cases e;exact .emp .nil
 |nilptr=>intro y' e;cases e;exact .nilptr
 |nilmap=>intro y' e;cases e;exact .nilmap
 |nilfn=>intro y' e;cases e;exact .nilfn
 |niliface=>intro y' e;cases e;exact .niliface
 | agg h1 h2 h3 ih =>
  rename_i xs ys;intro y' e;unfold frzC at e;cases hf:frzL ys with
  |none=>grind
  | some ys' =>
   rw[hf]at e;cases e;obtain⟨g1,g2⟩:=Ca _ _ hf;refine .agg (h1.trans g1.symm) (fun i a b ha hb=>?_) (zqf.2 fun b hb=>?_)
   . grind
   . obtain⟨i,hi⟩:=zqe hb
     obtain⟨c,hc⟩:∃c,ys[i]?=some c:=(by grind)
     refine Km (g2 i c b hc hi) ?_
     have:=zqf.1 h3 c (zqa hc)
     cases c<;>first|rfl|cases this
 |emp e=>intro y' e';cases e';exact .emp e
 | fsl h1 h2 h3 ih =>
  rename_i es es' f f';refine fsl (es':=es') fun es'' hf=>?_
  obtain⟨g1,g2⟩:=Ca _ _ hf;unfold fslN;refine .fsl (h1.trans g1.symm) (fun i a b ha hb=>?_) h3;grind
 | view h1 h2 h3 h4 h5 h6 ih =>
  rename_i es' f';refine fsl (es':=es') fun es'' hf=>?_
  obtain⟨g1,g2⟩:=Ca _ _ hf;refine .view h1 h2 h3 (g1.trans h4) (fun i a b ha hb=>?_) h6;grind
 | fptr o _ ih =>
  rename_i v v' _;intro y' e;unfold frzC at e;cases hf:frzC v' with
  |none=>grind
  |some w=>rw[hf]at e;cases e;exact .fptr o (ih w hf)
 | pview h1 h2 h3 _ ih =>
  rename_i v v' row _;intro y' e;unfold frzC at e;cases hf:frzC v' with
  |none=>grind
  |some w=>rw[hf]at e;cases e;exact .pview h1 h2 h3 (ih w hf)
theorem Fz.elem{a b b':AV}(hs:a.cells.length=b.cells.length/\isAg a=isAg b)(H:∀(o:Nat) u w,a.cells[o]?=some u->b.cells[o]?=some w->∀w',frzC w=some w'->Fz Z h u w'/\AM.clo w'=true)(e:frzC b=some b'):Fz Z h a b':=by
 cases hb:isAg b with
 | false =>
  have ha:=hs.2.trans hb;exact(H 0 a b (by rw[C4 ha];rfl) (by rw[C4 hb];rfl) b' e).1
 | true =>
  have ha:=hs.2.trans hb;cases b<;>first|(cases hb;done)|skip
  cases a<;>first|(cases ha;done)|skip
  rename_i ys xs;unfold frzC at e;cases hf:frzL ys with
  |none=>grind
  | some ys' =>
   rw[hf]at e;cases e;obtain⟨g1,g2⟩:=Ca _ _ hf;have hl:xs.length=ys.length:=hs.1;refine .agg (hl.trans g1.symm) (fun i u w hu hw=>?_) (zqf.2 fun w hw=>?_)
   . obtain⟨c,hc⟩:∃c,ys[i]?=some c:=(by grind)
     exact(H i u c hu hc w (g2 i c w hc hw)).1
   . obtain⟨i,hi⟩:=zqe hw
     obtain⟨c,hc⟩:∃c,ys[i]?=some c:=(by grind)
     obtain⟨u,hu⟩:∃u,xs[i]?=some u:=(by grind)
     exact(H i u c hu hc w (g2 i c w hc hi)).2
def Zv(Z:Nat->Prop)(ow:Nat->Option (List Nat))(id:Nat):Prop:=Z id\/ow id≠none
theorem Fz.zv(f:Fz Z h x y):Fz (Zv Z ow) h x y:=f.mono fun _ hz=>⟨.inl hz,rfl⟩
theorem CR.frz(c:CR Z ow h L x y):∀y',frzC y=some y'->Fz (Zv Z ow) h x y'/\clo y'=true:=by
 induction c with
 |val f e n=>exact fun y' hy=>⟨(f.frz y' hy).zv,Km hy (by rename_i y;cases y<;>first|rfl|cases e)⟩
 |und=>intro y' e;cases e
 | nil e n =>
  intro y' hy;cases hy;refine⟨.emp ?_,rfl⟩;rcases e with rfl|rfl
  . exact .nil
  . exact .nil
 | own h1 h2 h3 h4 h5 h6 _ ih =>
  rename_i L k id sz ces es _;intro y' e;have hag:isAg (ownd k sz es)=false:=rfl;refine⟨?_,Km e hag⟩;unfold ownd frzC at e;simp only at e;cases hf:frzL es with
  |none=>grind
  | some es' =>
   rw [hf]at e;simp only at e;obtain⟨g1,g2⟩:=Ca _ _ hf;have hel:∀(i:Nat) a b,ces[i]?=some a->es'[i]?=some b->Fz (Zv Z ow) h a b:=fun i a b ha hb=>by
    obtain⟨c,hc⟩:∃c,es[i]?=some c:=(by grind)
    obtain⟨q1,q2,q3⟩:=h6 i a c ha hc;exact .elem ⟨q1.trans q2.symm,q3⟩ (fun o u w hu hw w' hw'=>ih i a c ha hc o u w hu hw w' hw') (g2 i c b hc hb)
   have hz:Zv Z ow id:=.inr (by grind);split at e
   . split at e
     . rename_i v
       cases e;have hl:ces.length=1:=by grind
       obtain⟨a,ha⟩:∃a,ces[0]?=some a:=⟨_,zqb (by omega)⟩
       exact .pview hz h3 ha (hel 0 a v ha rfl)
     . cases e
   . rename_i hk
     cases e
     have:refK k id es.length sz=.msl id 0 es.length sz:=by
      unfold refK;grind
     rw[this];refine .view hz h3 (by omega) g1 (by grind) (fun i a hi ha=>?_);grind
end
section
variable {E:Env}{R:AV->AV->Prop}{Z Z' Z1:Nat->Prop}{ow ow' ow1:Nat->Option (List Nat)}{h h' h1:Heap}{K K':PK}{os os' ps:List PO}{x y xc yc v k:AV}{L M:List Nat}{r0 sz0 c0:Nat}{es0 ces0:List AV}
theorem VR.view(s:F6 Z ow h os)(a:VR Z ow h os x y){w:AV}(e:viewV os y=some w):Fz (Zv Z ow) h x w/\clo w=true/\(I4 y=[]->Fz Z h x w):=by
 have el:∀{id:Nat}{es:List AV}{sz:Nat},rowOf os 6 id=some (0,es,sz)->∀{c:Nat},(∀L,loP os 6 id=some L->ow c=some L)->∃ces,h.get c=some (.row ces sz)/\bS sz ces es/\(ow c≠none)/\∀(i:Nat) a b b',ces[i]?=some a->es[i]?=some b->frzC b=some b'->Fz (Zv Z ow) h a b':=fun{id es sz} hr {c} hc=>by
  obtain ⟨L,hL,h1⟩:=s.get 6 id 0 es sz hr;have ho:=hc L hL;have fin:∀{x':AV},CR Z ow h L x' (ownd 0 sz es)->∃ces,h.get c=some (.row ces sz)/\bS sz ces es/\(ow c≠none)/\∀(i:Nat) a b b',ces[i]?=some a->es[i]?=some b->frzC b=some b'->Fz (Zv Z ow) h a b':=fun{x'} hx=>by
   rcases hx.inv with⟨_,_,_,n⟩|⟨id',ces,_,g2,_,g4,g5,_,g7⟩
   . exact absurd (by rw[zql];exact ho) (n c [])
   . obtain rfl:=s.inj c id' L ho g2
     refine⟨ces,g4,g5,(by grind),fun i a b b' ha hb hf=>?_⟩;obtain⟨q1,q2,q3⟩:=g5.2 i a b ha hb;exact .elem ⟨q1.trans q2.symm,q3⟩ (fun o u w hu hw w' hw'=>(g7 i a b ha hb o u w hu hw).frz w' hw') hf
  rcases h1 with⟨_,rfl,c',ces',g⟩|⟨_,x',hx⟩
  . obtain rfl:=s.inj c c' _ ho g.o
    refine ⟨ces',g.get,g.sh,(by grind),fun i a b b' ha hb hf=>?_⟩;obtain⟨q1,q2,q3⟩:=g.sh.2 i a b ha hb;refine .elem ⟨q1.trans q2.symm,q3⟩ (fun o u w hu hw w' hw'=>?_) hf;have v:=g.vr i a b ha hb o u w hu hw;have hok:=g.okp i b hb w (zqa hw);have hz:Fz Z h u w:=by
     cases v with
     |fz f=>exact f
     |und=>cases hw'
     |any=>cases hw'
     |msl=>cases hw'
     |mnil=>cases hw'
     |ptr=>cases hw'
     |map=>cases hw'
     |agg=>rcases hok with hok|hok<;>cases hok
     |tup=>rcases hok with hok|hok<;>cases hok
     |fn=>cases hw'
     |iface=>cases hw'
    refine⟨(hz.frz w' hw').zv,Km hw' ?_⟩;cases w<;>first|rfl|(rcases hok with hok|hok<;>cases hok)
  grind
 have plain:isAg y=false->frzC y=some w->(∀cs,y≠.tup cs)->Fz (Zv Z ow) h x w/\clo w=true/\(I4 y=[]->Fz Z h x w):=fun hy hf ht=>by
  have hz:Fz Z h x y:=by
   cases a with
   |fz f=>exact f
   |und=>cases hf
   |any=>cases hf
   |msl=>cases hf
   |mnil=>cases hf
   |ptr=>cases hf
   |map=>cases hf
   |agg=>cases hy
   |tup=>grind
   |fn=>cases hf
   |iface=>cases hf
  exact⟨(hz.frz w hf).zv,Km hf hy,fun _=>hz.frz w hf⟩
 unfold viewV at e;split at e
 . rename_i id off n sz
   cases hr:rowOf os 6 id with
   |none=>grind
   | some q =>
    obtain⟨k,es,z⟩:=q;rw[hr]at e;simp only at e;split at e
    . rename_i hc
      obtain⟨rfl,rfl,hn⟩:=hc;cases hf:frzL ((es.drop off).take n)with
      |none=>grind
      | some es' =>
       rw[hf]at e;cases e;refine⟨?_,rfl,fun h0=>by cases h0⟩;obtain⟨g1,g2⟩:=Ca _ _ hf;have hlen:((es.drop off).take n).length=n:=by simp;omega
       cases a with
       |fz f=>cases f
       | msl h1 h2 =>
        rename_i c;obtain⟨ces,q1,q2,q3,q4⟩:=el hr h1;refine .view (.inr q3) q1 (by have:=q2.1;omega) (g1.trans hlen) (fun i u w hu hw=>?_) (fun i u hi hu=>?_)
        . grind
        . obtain⟨b,hb⟩:∃b,es[off+i]?=some b:=(by grind)
          exact(q2.2 (off+i) u b hu hb).1
       | mnil h1 h2 h3 =>
        have:es'=[]:=(by grind)
        subst this;refine .emp ?_;rcases h1 with rfl|rfl
        . exact .nil
        . exact .nil
    . cases e
 . rename_i id i off
   cases hr:rowOf os 6 id with
   |none=>grind
   | some q =>
    obtain⟨k,es,z⟩:=q;rw[hr]at e;simp only at e;split at e
    . rename_i hk;subst hk
      cases hi:es[i]? with
      |none=>grind
      | some v =>
       rw[hi]at e;simp only at e;cases hf:frzC v with
       |none=>grind
       | some v' =>
        rw[hf]at e;cases e;refine⟨?_,rfl,fun h0=>by cases h0⟩;cases a with
        |fz f=>cases f
        | ptr h1 h2 =>
         obtain⟨ces,q1,q2,q3,q4⟩:=el hr h1;obtain⟨u,hu⟩:∃u,ces[i]?=some u:=⟨_,zqb (by have:=(zqc.1 hi).1;have:=q2.1;omega)⟩
         exact .pview (.inr q3) q1 hu (q4 i u v v' hu hi hf)
    . cases e
 . cases e
 . cases e
 . rename_i h1 h2 h3 h4
   refine plain ?_ e (fun cs he=>h3 cs he);cases y<;>first|rfl|grind
theorem VR.viewA(s:F6 Z ow h os)(a:VR Z ow h os x y){w:AV}(e:viewA os y=some w):Fz (Zv Z ow) h x w/\(I4 y=[]->Fz Z h x w):=by
 cases hy:isAg y with
 | false =>
  have e':viewV os y=some w:=by cases y<;>first|exact e|cases hy
  exact⟨(a.view s e').1,(a.view s e').2.2⟩
 | true =>
  cases y<;>first|(cases hy;done)|skip
  rename_i ys;unfold AM.viewA at e;simp only at e;cases hf:viewL os ys with
  |none=>grind
  | some ys' =>
   rw [hf]at e;cases e;obtain⟨g1,g2⟩:=fP _ _ hf;obtain⟨xs,rfl,l⟩:=a.agI;have key:∀(i:Nat) u w,xs[i]?=some u->ys'[i]?=some w->∃c,ys[i]?=some c/\VR Z ow h os u c/\viewV os c=some w:=fun i u w hu hw=>by
    obtain⟨c,hc⟩:∃c,ys[i]?=some c:=(by grind)
    exact⟨c,hc,l.2 i u c hu hc,g2 i c w hc hw⟩
   have hcl:ys'.all clo=true:=zqf.2 fun w hw=>by
    obtain⟨i,hi⟩:=zqe hw;obtain⟨u,hu⟩:∃u,xs[i]?=some u:=⟨_,zqb (by have:=(zqc.1 hi).1;have:=l.1;omega)⟩
    obtain⟨c,_,hv,he⟩:=key i u w hu hi;exact(hv.view s he).2.1
   refine⟨.agg (l.1.trans g1.symm) (fun i u w hu hw=>?_) hcl,fun h0=>.agg (l.1.trans g1.symm) (fun i u w hu hw=>?_) hcl⟩
   . obtain⟨c,_,hv,he⟩:=key i u w hu hw
     exact(hv.view s he).1
   . obtain ⟨c,hc,hv,he⟩:=key i u w hu hw
     refine(hv.view s he).2.2 ?_
     have:∀(ys:List AV)(i:Nat),refsL ys=[]->ys[i]?=some c->I4 c=[]:=fun ys=>by
      induction ys with
      |nil=>grind
      | cons a l ih =>
       grind[refsL,zqt]
     exact this ys i h0 hc
theorem VR.elemR(g:RawR (VR Z ow h os) ow h r0 es0 sz0 c0 ces0){i:Nat}{a b:AV}(ha:ces0[i]?=some a)(hb:es0[i]?=some b):VR Z ow h os a b:=by
 obtain⟨q1,q2,q3⟩:=g.sh.2 i a b ha hb;have v:=g.vr i a b ha hb;cases b with
 | agg ys=>cases a with
  |agg xs=>exact .agg (q1.trans q2.symm) fun o u w hu hw=>v o u w hu hw
  |_=>cases q3
 | _=>cases a with
  |agg xs=>cases q3
  |_=>exact v 0 _ _ rfl rfl
theorem VR.viewW(s:F6 Z ow h os)(a:VR Z ow h os x y){w:AV}(e:viewW os y=some w):Fz (Zv Z ow) h x w/\clo w=true/\(I4 y=[]->Fz Z h x w):=by
 unfold AM.viewW at e;cases hv:viewV os y with
 |some w'=>rw[hv]at e;cases e;exact a.view s hv
 | none =>
  rw[hv]at e;cases y with
  | msl id off n sz =>
   dsimp only at e;cases hra:rawAt os id with
   |false=>rw[hra]at e;cases e
   | true =>
    rw[hra]at e;dsimp only at e;split at e
    . rename_i k es z hro
      split at e
      . rename_i hc
        obtain⟨rfl,hn⟩:=hc;cases hf:viewAs os ((es.drop off).take n)with
        |none=>rw[hf]at e;cases e
        | some es' =>
         rw[hf]at e;cases e;refine⟨?_,rfl,fun h0=>by cases h0⟩;obtain⟨g1,g2⟩:=Me _ _ hf;have hlen:((es.drop off).take n).length=n:=by simp;omega
         obtain⟨L,hL,h1⟩:=s.get 6 id k es sz (by unfold rowOf;rw[hro]);rcases h1 with⟨_,rfl,c',ces,g⟩|⟨hh,_⟩
         . cases a with
           |fz f=>cases f
           |mnil em hno _=>exact absurd g.o (hno _ hL c')
           | msl h2 h3 =>
            rename_i c;obtain rfl:=s.inj c c' _ (h2 _ hL) g.o;refine .view (.inr (by rw[g.o];intro e;cases e)) g.get (by have:=g.sh.1;omega) (g1.trans hlen) (fun i u w hu hw=>?_) (fun i u hi hu=>?_)
            . obtain ⟨b,hb⟩:∃b,((es.drop off).take n)[i]?=some b:=⟨_,zqb (by have:=(zqc.1 hw).1;omega)⟩
              have hb2:es[off+i]?=some b:=by
               rw[zqu]at hb;split at hb
               . rw[zqx]at hb;exact hb
               . cases hb
              exact((VR.elemR g hu hb2).viewA s (g2 i b w hb hw)).1
            . exact(g.sh.2 (off+i) u _ hu (zqb (by have:=(zqc.1 hu).1;have:=g.sh.1;omega))).1
         . rw[hra]at hh;cases hh
      . cases e
    . cases e
  |_=>cases e
theorem Xu:∀(l l':List AV),viewWL os l=some l'->l'.length=l.length/\∀(i:Nat) y y',l[i]?=some y->l'[i]?=some y'->viewW os y=some y'
 |[],l',e=>by cases e;exact⟨rfl,fun i y y' hy=>by simp at hy⟩
 | v::l,l',e=>by
  unfold viewWL at e;obtain⟨a,t,h1,h2,rfl⟩:=u6 e;obtain⟨h3,h4⟩:=Xu l t h2;refine⟨by simp[h3],fun i y y' hy hy'=>?_⟩;cases i with
  |zero=>cases hy;cases hy';exact h1
  |succ i=>exact h4 i y y' hy hy'
theorem VR.viewWA(s:F6 Z ow h os)(a:VR Z ow h os x y){w:AV}(e:viewWA os y=some w):Fz (Zv Z ow) h x w/\(I4 y=[]->Fz Z h x w):=by
 cases hy:isAg y with
 | false =>
  have e':AM.viewW os y=some w:=by cases y<;>first|exact e|cases hy
  exact⟨(a.viewW s e').1,(a.viewW s e').2.2⟩
 | true =>
  cases y<;>first|(cases hy;done)|skip
  rename_i ys;unfold AM.viewWA at e;simp only at e;cases hf:viewWL os ys with
  |none=>rw[hf]at e;cases e
  | some ys' =>
   rw [hf]at e;cases e;obtain⟨g1,g2⟩:=Xu _ _ hf;obtain⟨xs,rfl,l⟩:=a.agI;have key:∀(i:Nat) u w,xs[i]?=some u->ys'[i]?=some w->∃c,ys[i]?=some c/\VR Z ow h os u c/\AM.viewW os c=some w:=fun i u w hu hw=>by
    obtain⟨c,hc⟩:∃c,ys[i]?=some c:=⟨_,zqb (by have:=(zqc.1 hw).1;omega)⟩
    exact⟨c,hc,l.2 i u c hu hc,g2 i c w hc hw⟩
   have hcl:ys'.all clo=true:=zqf.2 fun w hw=>by
    obtain⟨i,hi⟩:=zqe hw;obtain⟨u,hu⟩:∃u,xs[i]?=some u:=⟨_,zqb (by have:=(zqc.1 hi).1;have:=l.1;omega)⟩
    obtain⟨c,_,hv,he⟩:=key i u w hu hi;exact(hv.viewW s he).2.1
   refine⟨.agg (l.1.trans g1.symm) (fun i u w hu hw=>?_) hcl,fun h0=>.agg (l.1.trans g1.symm) (fun i u w hu hw=>?_) hcl⟩
   . obtain⟨c,_,hv,he⟩:=key i u w hu hw
     exact(hv.viewW s he).1
   . obtain ⟨c,hc,hv,he⟩:=key i u w hu hw
     refine(hv.viewW s he).2.2 ?_
     have:∀(ys:List AV)(i:Nat),refsL ys=[]->ys[i]?=some c->I4 c=[]:=fun ys=>by
      induction ys with
      |nil=>intro i _ hc;simp at hc
      | cons a l ih =>
       intro i h0 hc;have h0:I4 a++refsL l=[]:=h0;obtain⟨h1,h2⟩:=zqt.1 h0;cases i with
       |zero=>cases hc;exact h1
       |succ i=>exact ih i h2 hc
     exact this ys i h0 hc
theorem Uh:∀(l l':List AV),Pq os l=some l'->l'.length=l.length/\∀(i:Nat) y y',l[i]?=some y->l'[i]?=some y'->viewWA os y=some y'
 |[],l',e=>by cases e;exact⟨rfl,fun i y y' hy=>by simp at hy⟩
 | v::l,l',e=>by
  unfold Pq at e;obtain⟨a,t,h1,h2,rfl⟩:=u6 e;obtain⟨h3,h4⟩:=Uh l t h2;refine⟨by simp[h3],fun i y y' hy hy'=>?_⟩;cases i with
  |zero=>cases hy;cases hy';exact h1
  |succ i=>exact h4 i y y' hy hy'
theorem vI(s:F6 Z ow h os){l l' xs:List AV}(v:VL Z ow h os xs l)(e:viewX os l=some l'):l'.length=l.length/\∀(i:Nat) x y y',xs[i]?=some x->l[i]?=some y->l'[i]?=some y'->Fz (Zv Z ow) h x y'/\(I4 y=[]->Fz Z h x y'):=by
 unfold viewX at e;cases hv:viewAs os l with
 | some as1 =>
  rw[hv]at e;cases e;obtain⟨g1,g2⟩:=Me _ _ hv;exact⟨g1,fun i x y y' hx hy hy'=>(v.2 i x y hx hy).viewA s (g2 i y y' hy hy')⟩
 | none =>
  rw[hv]at e;obtain⟨g1,g2⟩:=Uh _ _ e;exact⟨g1,fun i x y y' hx hy hy'=>(v.2 i x y hx hy).viewWA s (g2 i y y' hy hy')⟩
def TC(E:Env)(f:Nat)(g:List AV->Option (List AV)):Prop:=∀args rs,g args=some rs->∀(Z:Nat->Prop)(h:Heap)(xs:List AV),xs.length=args.length->(∀(i:Nat) x y,xs[i]?=some x->args[i]?=some y->Fz Z h x y)->(∀id,Z id->id<h.next) ->
 ∃ (vcs:List AV) (h1:Heap) (Z1:Nat->Prop) (ow1:Nat->Option (List Nat)),callω E f xs h=.ok (oneOrTup vcs) h1/\F6 Z1 ow1 h1 (openTs 0 rs).2/\VL Z1 ow1 h1 (openTs 0 rs).2 vcs (openTs 0 rs).1/\
   h.next<=h1.next/\(∀id,Z id->Z1 id/\h1.get id=h.get id)/\(∀id,Z1 id->Z id\/h.next<=id)/\(∀id,id<h.next->h1.get id=h.get id)/\(∀id L,ow1 id=some L->h.next<=id)/\∃l,h1.tch=l++h.tch/\∀id∈l,h.next<=id
theorem Ho:∀(n:Nat)(l:List AV)(e:PO),e∈(openT n l).2->∃es sz,e=.row 0 es sz/\∃k,ownd k sz es∈l
 |n,[],e,h=>by cases h
 | n,c::r,e,h=>by
  unfold openT at h;cases ho:ownOf c with
  | none =>
   rw[ho]at h;obtain⟨es,sz,h1,k,h2⟩:=Ho n r e h;grind
  | some q =>
   obtain⟨k,es,sz⟩:=q;rw[ho]at h;rcases zqi.1 h with rfl|h
   . exact⟨es,sz,rfl,k,by grind[u5]⟩
   . obtain⟨es,sz,h1,k,h2⟩:=Ho (n+1) r e h
     grind
theorem Ef:∀(n:Nat)(l:List AV)(e:PO),e∈(openTs n l).2->∃es sz,e=.row 0 es sz/\∃k,∃v∈l,ownd k sz es∈v.cells
 |n,[],e,h=>by cases h
 | n,v::r,e,h=>by
  unfold openTs at h;rcases zqk.1 h with h|h
  . grind[Ho]
  . obtain⟨es,sz,h1,k,u,hu,h2⟩:=Ef _ r e h
    grind
theorem Kn:∀(l:List AV)(n m:Nat),(openT n l).2=(openT m l).2
 |[],n,m=>rfl
 | c::r,n,m=>by
  unfold openT;cases ownOf c with
  |none=>exact Kn r n m
  |some q=>exact congrArg (List.cons (PO.row 0 q.2.1 q.2.2)) (Kn r (n+1) (m+1))
theorem Xv:∀(l:List AV)(n m:Nat),(openTs n l).2=(openTs m l).2
 |[],n,m=>rfl
 | v::r,n,m=>by
  unfold openTs;rw[Kn v.cells n m];exact congrArg (List.append _) (Xv r _ _)
theorem Ui(b:Nat):∀(l:List AV)(n:Nat),(l.all fun c=>(ownOf c).isSome||clo c)=true->(openT (b+n) l).1=renL (fun id=>some (b+id)) (openT n l).1
 |[],n,_=>rfl
 | c::r,n,hk=>by
  obtain⟨h1,h2⟩:((ownOf c).isSome||clo c)=true/\(r.all fun c=>(ownOf c).isSome||clo c)=true:=by grind
  unfold openT;cases ho:ownOf c with
  | none =>
   rw[ho]at h1;have hc:clo c=true:=by grind
   show c::(openT (b+n) r).1=F7 _ c::renL _ (openT n r).1
   rw[fN hc,Ui b r n h2]
  | some q =>
   obtain⟨k,es,sz⟩:=q;show _::(openT (b+n+1) r).1=F7 _ _::renL _ (openT (n+1) r).1
   rw[show b+n+1=b+(n+1) by omega,Ui b r (n+1) h2]
   congr 1
   split<;>rfl
theorem Xw(b:Nat):∀(l:List AV)(n:Nat),okRs l=true->(openTs (b+n) l).1=renL (fun id=>some (b+id)) (openTs n l).1
 |[],n,_=>rfl
 | v::r,n,hk=>by
  obtain⟨h1,h2⟩:(v.cells.all fun c=>(ownOf c).isSome||clo c)=true/\okRs r=true:=by grind[okRs]
  unfold openTs;show _::_=F7 _ _::renL _ _
  rw[Kn v.cells (b+n) n,show b+n+(openT n v.cells).2.length=b+(n+(openT n v.cells).2.length) by omega,Xw b r _ h2,Ui b v.cells n h1]
  congr 1
  unfold N7;split
  . rfl
  . cases (openT n v.cells).1<;>rfl
end
section
variable {E:Env}{R:AV->AV->Prop}{Z Z' Z1:Nat->Prop}{ow ow' ow1:Nat->Option (List Nat)}{h h' h1:Heap}{K K':PK}{os os' ps:List PO}{x y xc yc v k:AV}{L M:List Nat}
theorem Ez{v:AV}(e:noF v=true):∀c∈v.cells,noF c=true:=by
 have hl:∀(l:List AV),noFL l=true->∀c∈l,noF c=true:=fun l=>by
  induction l with
  |nil=>grind
  | cons a l ih =>
   intro hk c hc;have hk:(noF a&&noFL l)=true:=hk;grind
 intro c hc;cases v with
 |agg cs=>exact hl cs e c hc
 |_=>rw[C4 rfl]at hc;grind
theorem fQ{l:List AV}(e:noFL l=true):∀c∈l,noF c=true:=fun c hc=>Ez (v:=.agg l) e c hc
theorem Fz.noF(f:Fz Z h x y)(hc:AM.clo y=true)(e:AM.noF y=true)(Z':Nat->Prop)(h':Heap):Fz Z' h' x y:=by
 cases f with
 |int=>exact .int _ _
 |bool=>exact .bool _
 |str=>exact .str _
 |nilsl=>exact .nilsl
 |nilptr=>exact .nilptr
 |nilmap=>exact .nilmap
 |nilfn=>exact .nilfn
 |niliface=>exact .niliface
 |agg=>cases hc
 |_=>cases e
theorem CR.noF(c:CR Z ow h L x y)(e:AM.noF y=true)(Z':Nat->Prop):CR Z' ow h L x y:=by
 induction c with
 |val f hc n=>exact .val (f.noF hc e Z' h) hc n
 |und=>exact .und
 |nil e' n=>exact .nil e' n
 | own h1 h2 h3 h4 h5 h6 h7 ih =>
  refine .own h1 h2 h3 h4 h5 h6 fun i a b ha hb o u w hu hw=>ih i a b ha hb o u w hu hw ?_
  have e:noFL _=true:=e;exact Ez (fQ e b (zqa hb)) w (zqa hw)
def LA(c:AV):Prop:=(clo c=true/\noF c=true)\/(∃a b d e,c=.msl a b d e)\/∃a b d,c=.ptr a b d
theorem VR.noF(a:VR Z ow h os x y)(e:LA y)(Z':Nat->Prop):VR Z' ow h os x y:=by
 rcases e with⟨h1,h2⟩|⟨i,j,k,l,rfl⟩|⟨i,j,k,rfl⟩
 . exact .fz ((a.fzc h1).noF h1 h2 Z' h)
 . cases a with
   |fz f=>cases f
   |msl h1 h2=>exact .msl h1 h2
   |mnil h1 h2 h3=>exact .mnil h1 h2 h3
 . cases a with
   |fz f=>cases f
   |ptr h1 h2=>exact .ptr h1 h2
theorem Mf:∀(l:List AV)(n:Nat),(l.all fun c=>(ownOf c).isSome||clo c)=true->(∀c∈l,noF c=true)->∀c∈(openT n l).1,LA c
 |[],n,_,_,c,hc=>by cases hc
 | a :: r,n,hk,hf,c,hc=>by
  obtain⟨h1,h2⟩:((ownOf a).isSome||clo a)=true/\(r.all fun c=>(ownOf c).isSome||clo c)=true:=by grind
  unfold openT at hc;cases ho:ownOf a with
  | none =>
   rw[ho]at hc h1;rcases zqi.1 hc with rfl|hc
   . exact .inl (by grind)
   . exact Mf r n h2 (by grind) c hc
  | some q =>
   obtain⟨k,es,sz⟩:=q;rw[ho]at hc;rcases zqi.1 hc with rfl|hc
   . split
     . exact .inr (.inr ⟨_,_,_,rfl⟩)
     . exact .inr (.inl ⟨_,_,_,_,rfl⟩)
   . exact Mf r (n+1) h2 (by grind) c hc
theorem Mg:∀(l:List AV)(n:Nat),(openT n l).1.length=l.length
 |[],n=>rfl
 | a::r,n=>by
  unfold openT;cases ownOf a with
  |none=>exact congrArg (· + 1) (Mg r n)
  |some q=>exact congrArg (· + 1) (Mg r (n+1))
theorem VR.open_noF{n:Nat}{v:AV}(a:VR Z ow h os x (N7 v (openT n v.cells).1))(hk:(v.cells.all fun c=>(ownOf c).isSome||clo c)=true)(hf:AM.noF v=true)(Z':Nat->Prop):VR Z' ow h os x (N7 v (openT n v.cells).1):=by
 have hn:=Mf v.cells n hk (Ez hf);cases hv:isAg v with
 | true =>
  cases v<;>first|(cases hv;done)|skip
  obtain⟨xs,rfl,l⟩:=a.agI;exact .agg l.1 fun i u w hu hw=>(l.2 i u w hu hw).noF (hn w (zqa hw)) Z'
 | false =>
  have hl:(openT n v.cells).1.length=1:=by rw[Mg,C4 hv];rfl
  have:N7 v (openT n v.cells).1∈(openT n v.cells).1:=by
   obtain⟨c,hc⟩:=zka.1 hl;rw[hc]
   have:N7 v [c]=c:=by cases v<;>first|rfl|cases hv
   grind
  exact a.noF (hn _ this) Z'
theorem VL.open_noF:∀(rs:List AV)(n:Nat)(xs:List AV),VL Z ow h os xs (openTs n rs).1->okRs rs=true->noFL rs=true->∀Z':Nat->Prop,VL Z' ow h os xs (openTs n rs).1
 | [],n,xs,a,_,_,Z'=>by
  cases xs with
  |nil=>exact .nil
  |cons u xs=>cases a.1
 | v::r,n,xs,a,hk,hf,Z'=>by
  obtain⟨h1,h2⟩:(v.cells.all fun c=>(ownOf c).isSome||clo c)=true/\okRs r=true:=by grind[okRs]
  obtain⟨h3,h4⟩:noF v=true/\noFL r=true:=zkh.1 (show(noF v&&noFL r)=true from hf);unfold openTs at a|-;cases xs with
  |nil=>cases a.1
  | cons u xs =>
   obtain⟨b1,b2⟩:=a.inv;exact .cons (b1.open_noF h1 h3 Z') (VL.open_noF r _ xs b2 h2 h4 Z')
theorem PT.noF{ps:List PO}(s:F6 Z ow h ps)(hp:∀e∈ps,∃es sz,e=.row 0 es sz/\noFL es=true)(hZ:∀a,Z' a->a<h.next/\ow a=none):F6 Z' ow h ps where
 row r es sz hr:=by
  obtain⟨x,hx⟩:=s.row r es sz hr;obtain⟨es',sz',h1,h2⟩:=hp _ (zqa hr);cases h1;exact⟨x,hx.noF h2 Z'⟩
 raw r k es sz hr hk:=by
  obtain⟨es',sz',h1,h2⟩:=hp _ (zqa hr);grind
 map r es hr:=by
  obtain⟨es',sz',h1,h2⟩:=hp _ (zqa hr);cases h1
 inj:=s.inj
 live a L ho:=by
  obtain⟨h1,h2,h3⟩:=s.live a L ho;grind
 zb a hz:=(hZ a hz).1
 sb:=s.sb
def Be(n:Nat)(ow ow1:Nat->Option (List Nat)):Nat->Option (List Nat):=fun d=>match ow d with
 |some L=>some L
 | none=>match ow1 d with
  |some (r::t)=>some ((n+r)::t)
  |_=>none
theorem pN(s:F6 Z ow h os)(s1:F6 Z1 ow1 h1 ps)(hp:∀e∈ps,∃es sz,e=.row 0 es sz)(hn:h.next<=h1.next)(hz:∀id,Z id->Z1 id/\h1.get id=h.get id)(hzn:∀id,Z1 id->Z id\/h.next<=id)(un:∀id,id<h.next->h1.get id=h.get id)(hnew:∀id L,ow1 id=some L->h.next<=id):
 F6 Z1 (Be os.length ow ow1) h1 (os++ps)/\Keep' ow os (Be os.length ow ow1) (os++ps)/\Ren (fun id=>some (os.length+id)) ow1 ps (Be os.length ow ow1) (os++ps)/\∀d r t,r<os.length->(Be os.length ow ow1 d=some (r::t)↔ow d=some (r::t)):=by
 have hold:∀d,h.next<=d->ow d=none:=fun d hd=>by
  cases e:ow d with
  |none=>rfl
  |some L=>exact absurd (s.live d L e).1 (by omega)
 have hA:∀d r t,r<os.length->(Be os.length ow ow1 d=some (r::t)↔ow d=some (r::t)):=fun d r t hr=>by
  unfold Be;cases e:ow d with
  |some L=>exact .rfl
  | none =>
   simp only
   constructor
   . intro h0
     cases e1:ow1 d with
     |none=>rw[e1]at h0;cases h0
     | some M =>
      rw[e1]at h0;cases M with
      |nil=>cases h0
      |cons r' t'=>cases h0;omega
   . intro h0;cases h0
 have hB:∀d r t,Be os.length ow ow1 d=some ((os.length+r)::t)↔ow1 d=some (r::t):=fun d r t=>by
  unfold Be
  constructor
  . intro h0
    cases e:ow d with
    | some L =>
     rw[e]at h0;cases h0;obtain⟨_,_,r',t',h3,h4⟩:=s.live d _ e;cases h3
     have:=isRt_lt h4;omega
    | none =>
     rw[e]at h0;simp only at h0;cases e1:ow1 d with
     |none=>rw[e1]at h0;cases h0
     | some M =>
      rw[e1]at h0;cases M with
      |nil=>cases h0
      | cons r' t' =>
       simp only[Option.some.injEq,List.cons.injEq]at h0;obtain⟨h5,rfl⟩:=h0;obtain rfl:r'=r:=by omega
       rfl
  grind
 have hC:∀d L,Be os.length ow ow1 d=some L->(∃r t,L=r::t/\r<os.length/\ow d=some L)\/∃r t,L=(os.length+r)::t/\ow1 d=some (r::t):=fun d L h0=>by
  unfold Be at h0;cases e:ow d with
  | some L' =>
   rw[e]at h0;cases h0;obtain⟨_,_,r',t',h3,h4⟩:=s.live d _ e;exact .inl ⟨r',t',h3,isRt_lt h4,rfl⟩
  | none =>
   grind
 have hkeep:Keep' ow os (Be os.length ow ow1) (os++ps):=Kd s.sb fun id hid L hL c=>by
  obtain⟨t,rfl,hr,_⟩:=J1 6 id L hL;grind[isRt_lt]
 have hgo:∀d L,ow d=some L->h1.get d=h.get d:=fun d L ho=>un d (s.live d L ho).1
 have hps:∀(r:Nat) e,ps[r]?=some e->isRt (os++ps) (os.length+r)=true:=fun r e hr=>by
  unfold isRt;rw[zqw (by omega),Nat.add_sub_cancel_left,hr];obtain⟨es,sz,rfl⟩:=hp e (zqa hr);rfl
 have hspl:∀{r:Nat}{e:PO},(os++ps)[r]?=some e->(r<os.length/\os[r]?=some e)\/∃q,r=os.length+q/\ps[q]?=some e:=(by grind)
 refine⟨⟨fun r es sz hr=>?_,fun r k es sz hr hk=>?_,fun r es hr=>?_,fun a b M ha hb=>?_,fun a M ha=>?_,s1.zb,fun j p i o hj=>?_⟩,hkeep,fun id j hj hid=>?_,hA⟩
 . rcases hspl hr with⟨hl,hr⟩|⟨q,rfl,hq⟩
   . obtain⟨x,hx⟩:=s.row r es sz hr
     exact⟨x,hx.reloc hn hz (fun d t=>hA d r t hl) (fun d t hd=>hgo d _ hd)⟩
   . obtain⟨x,hx⟩:=s1.row q es sz hq
     exact⟨x,hx.reloc (zkb _) (fun d hd=>⟨hd,rfl⟩) (fun d t=>hB d q t) (fun d t hd=>rfl)⟩
 . rcases hspl hr with⟨hl,hr⟩|⟨q,rfl,hq⟩
   . obtain⟨c,ces,g⟩:=s.raw r k es sz hr hk
     exact⟨c,ces,(hA c r [] hl).2 g.o,zkc g.lt hn,(hgo c _ g.o).trans g.get,g.sh,fun i a b ha hb o u w hu hw=>(g.vr i a b ha hb o u w hu hw).keep hz hkeep,g.okp,fun a t ha=>g.no a t ((hA a r t hl).1 ha)⟩
   . obtain⟨es',sz',h3⟩:=hp _ (zqa hq)
     grind
 . rcases hspl hr with⟨hl,hr⟩|⟨q,rfl,hq⟩
   . obtain⟨c,ces,g⟩:=s.map r es hr
     exact⟨c,ces,(hA c r [] hl).2 g.o,zkc g.lt hn,(hgo c _ g.o).trans g.get,g.len,fun i a b ha hb=>⟨(g.kv i a b ha hb).1,(g.kv i a b ha hb).2.mono hz⟩,fun a t ha=>g.no a t ((hA a r t hl).1 ha)⟩
   . obtain⟨es',sz',h3⟩:=hp _ (zqa hq)
     cases h3
 . rcases hC a M ha with⟨r,t,rfl,h3,h4⟩|⟨r,t,rfl,h4⟩
   . exact s.inj a b _ h4 ((hA b r t h3).1 hb)
   . exact s1.inj a b _ h4 ((hB b r t).1 hb)
 . rcases hC a M ha with⟨r,t,rfl,h3,h4⟩|⟨r,t,rfl,h4⟩
   . obtain⟨q1,q2,r',t',q3,q4⟩:=s.live a _ h4
     cases q3;refine⟨zkc q1 hn,fun hz1=>?_,r,t,rfl,Tv q4⟩;grind
   . obtain⟨q1,q2,r',t',q3,q4⟩:=s1.live a _ h4
     cases q3;obtain⟨e,he⟩:∃e,ps[r]?=some e:=⟨_,zqb (isRt_lt q4)⟩
     grind
 . rcases hspl hj with⟨hl,hj⟩|⟨q,rfl,hq⟩
   . have:=s.sb j p i o hj;simp;omega
   . obtain⟨es',sz',h3⟩:=hp _ (zqa hq)
     cases h3
 . cases hj
   obtain⟨e,he⟩:∃e,ps[id]?=some e:=⟨_,zqb hid⟩
   refine⟨by simp;omega,fun L' hL'=>?_⟩;have h3:(os++ps)[os.length+id]?=some e:=by grind
   obtain⟨es,sz,rfl⟩:=hp e (zqa he);grind[loP]
theorem vJ{f:Nat}{g:List AV->Option (List AV)}(tc:TC E f g)(s:F6 Z ow h K.os)(hx:K.ext<=K.os.length){args argc vs:List AV}(l:VL Z ow h K.os argc args)(e:tcall g args K=some (vs,K')):
 ∃Z' ow' h' vcs,callω E f argc h=.ok (oneOrTup vcs) h'/\F6 Z' ow' h' K'.os/\Keep' ow K.os ow' K'.os/\(∀b,Stp b Z ow h K Z' ow' h' K')/\VL Z' ow' h' K'.os vcs vs:=by
 unfold tcall at e;cases ha:viewX K.os args with
 |none=>rw[ha]at e;cases e
 | some as1 =>
  rw[ha]at e;simp only at e;cases hg:g as1 with
  |none=>rw[hg]at e;cases e
  | some rs =>
   rw[hg]at e;simp only at e;split at e
   . rename_i hc
     obtain⟨hok,hc⟩:=zkh.1 hc;cases e;obtain⟨g1,g2⟩:=vI s l ha;have hrow:∀e∈(openTs 0 rs).2,∃es sz,e=.row 0 es sz:=fun e he=>let⟨es,sz,h1,_⟩:=Ef 0 rs e he;⟨es,sz,h1⟩
     have key:∃(Z':Nat->Prop)(h1:Heap)(ow1:Nat->Option (List Nat))(vcs:List AV),callω E f argc h=.ok (oneOrTup vcs) h1/\F6 Z' ow1 h1 (openTs 0 rs).2/\VL Z' ow1 h1 (openTs 0 rs).2 vcs (openTs 0 rs).1/\
      h.next<=h1.next/\(∀id,Z id->Z' id/\h1.get id=h.get id)/\(∀id,Z' id->Z id\/h.next<=id)/\(∀id,id<h.next->h1.get id=h.get id)/\(∀id L,ow1 id=some L->h.next<=id)/\∃l,h1.tch=l++h.tch/\∀id∈l,h.next<=id:=by
      have hfz:∀(i:Nat) x y,argc[i]?=some x->as1[i]?=some y->∃c,args[i]?=some c/\Fz (Zv Z ow) h x y/\(I4 c=[]->Fz Z h x y):=fun i x y hx hy=>by
       obtain⟨c,hc⟩:∃c,args[i]?=some c:=⟨_,zqb (by have:=(zqc.1 hy).1;omega)⟩
       exact⟨c,hc,g2 i x c y hx hc hy⟩
      by_cases hr:refsL args=[]
      . have hm:∀(args:List AV)(i:Nat) c,refsL args=[]->args[i]?=some c->I4 c=[]:=fun ys=>by
         induction ys with
         |nil=>intro i c _ hc;simp at hc
         | cons a l ih =>
          intro i c h0 hc;have h0:I4 a++refsL l=[]:=h0;obtain⟨h1,h2⟩:=zqt.1 h0;cases i with
          |zero=>cases hc;exact h1
          |succ i=>exact ih i c h2 hc
        obtain ⟨vcs,h1,Z1,ow1,q1,q2,q3,q4,q5,q6,q7,q8,q9⟩:=tc as1 rs hg Z h argc (l.1.trans g1.symm) (fun i x y hx hy=>by
         obtain⟨c,hc,_,h4⟩:=hfz i x y hx hy;exact h4 (hm args i c hr hc)) s.zb
        exact⟨Z1,h1,ow1,vcs,q1,q2,q3,q4,q5,q6,q7,q8,q9⟩
      . have hnf:noFL rs=true:=by
         rcases zkj.1 hc with h|h
         . exact absurd (List.isEmpty_iff.1 h) hr
         . exact h
        have hzb:∀id,Zv Z ow id->id<h.next:=fun id hz=>by
         rcases hz with hz|hz
         . exact s.zb id hz
         . cases e:ow id with
           |none=>exact absurd e hz
           |some L=>exact(s.live id L e).1
        obtain ⟨vcs,h1,Z1,ow1,q1,q2,q3,q4,q5,q6,q7,q8,q9⟩:=tc as1 rs hg (Zv Z ow) h argc (l.1.trans g1.symm) (fun i x y hx hy=>by
         obtain⟨c,hc,h4,_⟩:=hfz i x y hx hy;exact h4) hzb
        refine⟨Z,h1,ow1,vcs,q1,q2.noF (fun e he=>?_) (fun a hz=>⟨zkc (s.zb a hz) q4,?_⟩),q3.open_noF rs 0 vcs hok hnf Z,q4,fun id hz=>⟨hz,q7 id (s.zb id hz)⟩,fun id hz=>.inl hz,q7,q8,q9⟩
        . obtain⟨es,sz,h3,k,v,hv,h4⟩:=Ef 0 rs e he
          exact⟨es,sz,h3,Ez (fQ hnf v hv) _ h4⟩
        . cases e:ow1 a with
          |none=>rfl
          |some L=>have:=q8 a L e;have:=s.zb a hz;omega
     obtain⟨Z',h1,ow1,vcs,q1,q2,q3,q4,q5,q6,q7,q8,l0,q9,q10⟩:=key;obtain⟨r1,r2,r3,r4⟩:=pN s q2 hrow q4 q5 q6 q7 q8;rw[Xv rs K.os.length 0];refine⟨Z',_,h1,vcs,q1,r1,r2,fun b=>⟨q4,q5,q6,fun id hl _=>q7 id hl,fun id L ho hl e=>?_,⟨l0,q9,fun id hi=>.inl (q10 id hi)⟩,fun id r t ho hr=>.inl ⟨t,?_⟩,fun r hr _=>hr,rfl,fun j hj c hr=>?_,fun j hj hr=>?_⟩,?_⟩
     . unfold Be at ho
       rw[e]at ho;simp only at ho;cases e1:ow1 id with
       |none=>rw[e1]at ho;cases ho
       |some M=>have:=q8 id M e1;omega
     . unfold Be;rw[ho]
     . exact(r4 c j [] (by omega)).symm
     . unfold isRt at hr|-
       rw[zqm (by omega)]at hr;exact hr
     . have:=Xw K.os.length rs 0 hok
       rw[Nat.add_zero]at this;rw[this];exact q3.ren (fun id hz=>⟨hz,rfl⟩) r3
   . cases e
end
section
variable {E:Env}{P:PE}{R:AV->AV->Prop}{Z Z' Z1:Nat->Prop}{ow ow' ow1:Nat->Option (List Nat)}{h h' h1:Heap}{K K' K1:PK}{os os' ps:List PO}{x y xc yc v k:AV}{L M:List Nat}{nt:Nat}{frc:Tr}{fr:PF}
def Uj(nt:Nat)(l:List XOp):Bool:=l.all fun o=>match o.dst with|none=>true|some t=>decide (t<nt)
def I1(nt:Nat):PC->Bool
 | .skip=>true
 | .reg _ l=>Uj nt l
 | .seq a b=>I1 nt a&&I1 nt b
 | .cond _ a b=>I1 nt a&&I1 nt b
 | .block _ c=>I1 nt c
 | .loop c=>I1 nt c
 | .scope c=>I1 nt c
 | .exit _=>true
 | .ret=>true
 | .pre _ c=>I1 nt c
 | .post _ c=>I1 nt c
 | .rfn _ ps a b=>ps.all (fun p=>decide (p<nt))&&(I1 nt a&&I1 nt b)
 | .itf _ c=>I1 nt c
 | .yreg p0 _ yt p1 yd _ p2=>(decide (yt<nt)&&decide (yd<nt))&&(I1 nt p0&&(I1 nt p1&&I1 nt p2))
 | .dfr _ a _ c=>I1 nt a&&I1 nt c
 | .rcv _ d d2 c=>(decide (d<nt)&&decide (d2<nt))&&I1 nt c
def fS:PC->FM
 | .itf _ c=>.itf c.eri
 | .dfr _ a g c=>.dfr a.pieces g c.er
 | .rcv _ d d2 c=>.rcv d d2 c.er
 |_=>.plain
structure FnOk(E:Env)(f:Nat)(p:PFn):Prop where
 gc:E.gc f=false
 told:E.told f=false
 dlf:E.dlf f=none
 srt:∀args h,srtA E f args h=none
 fn:E.fn f=some ⟨p.code.er,p.nt,p.rs,fS p.code⟩
 nt:p.nt<1048576
 ok:I1 p.nt p.code=true
structure PEok(P:PE):Prop where
 gl:uU P.E
 ti:DZ P.E
 T:∀f g,P.T f=some g->TC P.E f g
 fn:∀f p,P.fn f=some p->FnOk P.E f p
def Y0(b:Nat)(ow:Nat->Option (List Nat))(os:List PO)(ow':Nat->Option (List Nat))(os':List PO):Prop:=∀id,id<b->∀L',loP os' 6 id=some L'->∃L,loP os 6 id=some L/\∀c,ow c=some L↔ow' c=some L'
theorem Y0.refl(b:Nat)(ow:Nat->Option (List Nat))(os:List PO):Y0 b ow os ow os:=fun id _ L' hl=>⟨L',hl,fun _=>.rfl⟩
theorem Y0.trans{b:Nat}{ow2:Nat->Option (List Nat)}{os2:List PO}(a:Y0 b ow os ow' os')(c:Y0 b ow' os' ow2 os2):Y0 b ow os ow2 os2:=fun id hi L2 hl=>by
 obtain⟨L1,h1,h2⟩:=c id hi L2 hl;obtain⟨L0,h3,h4⟩:=a id hi L1 h1;grind
theorem Keep'.e{b:Nat}(a:Keep' ow os ow' os')(hb:b<=os.length):Y0 b ow os ow' os':=fun id hi=>a.2 id (zkc hi hb)
def C1(Z:Nat->Prop)(ow:Nat->Option (List Nat))(h:Heap)(K:PK)(nt:Nat)(r:CRes)(p:PR):Prop:=match p with
 | .ok e fr' K'=>∃Z' ow' h' frc',r=.ok e frc' h'/\F6 Z' ow' h' K'.os/\FrR Z' ow' h' K'.os nt frc' fr'/\Stp K.ext Z ow h K Z' ow' h' K'/\K'.ext<=K'.os.length/\Y0 K.ext ow K.os ow' K'.os
 | .pan v K'=>∃Z' ow' h' vc,r=.pan vc h'/\F6 Z' ow' h' K'.os/\VR Z' ow' h' K'.os vc v/\Stp K.ext Z ow h K Z' ow' h' K'/\K'.ext<=K'.os.length/\Y0 K.ext ow K.os ow' K'.os
 | .val _ _=>True
 | .itr _ _ _ _=>True
theorem C1.trans{r:CRes}{p:PR}(s:F6 Z ow h K.os)(st:Stp K.ext Z ow h K Z' ow' h' K')(hk:Y0 K.ext ow K.os ow' K'.os)(c:C1 Z' ow' h' K' nt r p):C1 Z ow h K nt r p:=by
 cases p with
 |ok e fr' K2=>obtain⟨Z2,ow2,h2,frc2,a1,a2,a3,a4,a5,a6⟩:=c;exact⟨Z2,ow2,h2,frc2,a1,a2,a3,st.trans s a4,a5,hk.trans (by rw[st.ex]at a6;exact a6)⟩
 |pan v K2=>obtain⟨Z2,ow2,h2,vc,a1,a2,a3,a4,a5,a6⟩:=c;exact⟨Z2,ow2,h2,vc,a1,a2,a3,st.trans s a4,a5,hk.trans (by rw[st.ex]at a6;exact a6)⟩
 |val=>trivial
 |itr=>trivial
def yX(Z:Nat->Prop)(ow:Nat->Option (List Nat))(h:Heap)(K:PK)(r:Res)(p:PR):Prop:=match p with
 | .val vs K'=>∃Z' ow' h' vcs,r=.ok (oneOrTup vcs) h'/\F6 Z' ow' h' K'.os/\Keep' ow K.os ow' K'.os/\(∀b,Stp b Z ow h K Z' ow' h' K')/\VL Z' ow' h' K'.os vcs vs
 | .pan v K'=>∃Z' ow' h' vc,r=.pan vc h'/\F6 Z' ow' h' K'.os/\(∀b,Stp b Z ow h K Z' ow' h' K')/\VR Z' ow' h' K'.os vc v/\K'.ext<=K'.os.length/\Keep' ow K.os ow' K'.os
 | .ok _ _ _=>True
 | .itr _ _ _ _=>True
def mD(Z:Nat->Prop)(ow:Nat->Option (List Nat))(h:Heap)(K:PK)(r:Res)(p:PR):Prop:=match p with
 | .val vs K'=>∃Z' ow' h' vcs,r=.ok (oneOrTup vcs) h'/\F6 Z' ow' h' K'.os/\Stp K.ext Z ow h K Z' ow' h' K'/\VL Z' ow' h' K'.os vcs vs/\Y0 K.ext ow K.os ow' K'.os/\K'.ext<=K'.os.length
 | .pan v K'=>∃Z' ow' h' vc,r=.pan vc h'/\F6 Z' ow' h' K'.os/\Stp K.ext Z ow h K Z' ow' h' K'/\VR Z' ow' h' K'.os vc v/\K'.ext<=K'.os.length/\Y0 K.ext ow K.os ow' K'.os
 | .ok _ _ _=>True
 | .itr _ _ _ _=>True
theorem VL.one{xs ys:List AV}(l:VL Z ow h os xs ys):VR Z ow h os (oneOrTup xs) (oneOrTup ys):=by
 have hl:=l.1
 match xs,ys with
 |[],[]=>exact .tup rfl (fun i x y hx=>by simp at hx)
 |[x],[y]=>exact l.2 0 x y rfl rfl
 |x::x'::xs,y::y'::ys=>exact .tup l.1 l.2
 |[],_::_=>cases hl
 |_::_,[]=>cases hl
 |[_],_::_::_=>simp at hl
 |_::_::_,[_]=>simp at hl
theorem Eg(hx:K.ext<=K.os.length)(hk:Keep' ow K.os ow' K'.os)(he:K'.ext=K.ext):K'.ext<=K'.os.length:=by rw[he];exact zkf hx hk.1
theorem FrR.setd(a:FrR Z ow h os nt frc fr){d:Option Tmp}(hd:(match d with|none=>true|some t=>decide (t<nt))=true)(v:VR Z ow h os x y):FrR Z ow h os nt (setDst d x frc) (setP d y fr):=by
 cases d with
 |none=>exact a
 |some t=>exact a.set (by grind) v
theorem vr_skipped:VR Z ow h os skipped skipped:=.tup rfl (fun i x y hx=>by simp at hx)
theorem jQ{w b:Bool}(v:VR Z ow h os x y)(e:Y4 w y=some b):Y4 w x=some b:=by
 cases y with
 |bool c=>rw[v.isB];exact e
 | tup cs =>
  cases cs with
  | nil=>cases v with
   |fz f=>cases f
   |tup hl _=>grind
  |cons=>cases e
 |_=>cases e
theorem Fa{g:Option (Option Tmp×Bool)}{b:Bool}(a:FrR Z ow h os nt frc fr)(e:guardP g fr=some b):guardOk g frc=some b:=by
 cases g with
 |none=>exact e
 | some p =>
  obtain⟨t,w⟩:=p;cases t with
  |none=>exact e
  |some t=>exact jQ (a.v t) e
theorem Uk:∀(l:List AV)(i:Nat)(t:Tr)(j:Nat),(∀j,j<i+l.length->t.has j=true)->(Tr.setAll l i t).get j=if i<=j then(match l[j-i]? with|some v=>v|none=>t.get j)else t.get j
 | [],i,t,j,_=>by
  show t.get j=_
  grind
 | v :: l,i,t,j,hh=>by
  show(Tr.setAll l (i+1) (t.set i v)).get j=_
  rw[Uk l (i+1) (t.set i v) j (by grind[Go.AM.Tr.has_set])];by_cases e:i=j
  . subst e
    rw[if_neg (by omega),if_pos (zkb _),Nat.sub_self,Tr.get_set_eq,hh i (by simp),if_pos rfl];rfl
  . rw[Tr.get_set_ne _ _ _ _ e]
    grind
theorem Ul:∀(l:List AV)(i j:Nat),lookP (enterP i l) j=if i<=j then(match l[j-i]? with|some v=>v|none=>.und)else .und
 |[],i,j=>by show AV.und=_;grind
 | v::l,i,j=>by
  show(if i=j then v else lookP (enterP (i+1) l) j)=_
  rw[Ul l (i+1) j];grind
theorem Mh{args argc:List AV}(l:VL Z ow h os argc args)(hn:args.length<=nt)(hb:nt<1048576):FrR Z ow h os nt (Tr.enter nt argc) (enterP 0 args):=by
 have hh:∀j,j<0+argc.length->(Tr.mk 20 nt).has j=true:=fun j hj=>by rw[Tr.has_mk' 20 nt j hb];have:=l.1;simp;omega
 refine⟨fun i=>?_,fun i hi=>?_⟩
 . show VR Z ow h os ((Tr.setAll argc 0 (Tr.mk 20 nt)).get i) _
   rw[Uk argc 0 _ i hh,Ul args 0 i,if_pos (Nat.zero_le _),if_pos (Nat.zero_le _),Nat.sub_zero];cases hy:args[i]? with
   |none=>exact .und
   | some y =>
    obtain⟨x,hx⟩:∃x,argc[i]?=some x:=⟨_,zqb (by have:=(zqc.1 hy).1;have:=l.1;omega)⟩
    rw[hx];exact l.2 i x y hx hy
 . have:∀(l:List AV)(i:Nat)(t:Tr)(j:Nat),(Tr.setAll l i t).has j=t.has j:=fun l=>by
    induction l with
    |nil=>intro i t j;rfl
    |cons v l ih=>simp_all[Tr.setAll,Tr.has_set]
   show(Tr.setAll argc 0 (Tr.mk 20 nt)).has i=true
   grind[Tr.has_mk']
theorem Stp.subs(s:F6 Z ow h K.os)(hx:K.ext<=K.os.length){K':PK}(he:K'.ext=K.ext)(ht:K'.tch=K.tch){ps:List PO}(ho:K'.os=K.os++ps)(hp:∀e∈ps,∃a b c,e=.sub a b c)(b:Nat):Stp b Z ow h K Z ow h K':=by
 refine⟨zkb _,fun id hz=>⟨hz,rfl⟩,fun id hz=>.inl hz,fun _ _ _=>rfl,(by grind),(by simp_all),fun id r t ho _=>.inl ⟨t,ho⟩,fun r hr _=>by grind,he,fun j _ c _=>.rfl,fun j hj hr=>?_⟩;grind[isRt]
theorem bJ:∀(rs:List ResultVar){K:PK}{vs:List AV}{K':PK},F6 Z ow h K.os->K.ext<=K.os.length->FrR Z ow h K.os nt frc fr->resP E rs fr K=some (vs,K') ->
 ∃vcs,E8 E rs frc h=some vcs/\F6 Z ow h K'.os/\Keep' ow K.os ow K'.os/\Stp K.ext Z ow h K Z ow h K'/\VL Z ow h K'.os vcs vs
 |[],K,vs,K',s,hx,a,e=>by cases e;exact⟨[],rfl,s,.refl _ _,.refl _ _ _ _ _,.nil⟩
 | .tmp t::l,K,vs,K',s,hx,a,e=>by
  unfold resP at e;cases hr:resP E l fr K with
  |none=>grind
  | some q =>
   obtain⟨us,K2⟩:=q;rw[hr]at e;cases e;obtain⟨vcs,a1,a2,a3,a4,a5⟩:=bJ l s hx a hr;refine⟨frc.get t::vcs,?_,a2,a3,a4,.cons ((a.v t).keep (fun _ hz=>⟨hz,rfl⟩) a3) a5⟩;simp_all[A4,E8]
 | .cell c t::l,K,vs,K',s,hx,a,e=>by
  unfold resP at e;cases ht:E.ti t with
  |none=>grind
  | some ti =>
   rw[ht]at e;simp only at e;cases hl:loadP ti (lookP fr c) K with
   |none=>grind
   | some q =>
    obtain⟨v,K1⟩:=q;rw[hl]at e;simp only at e;obtain⟨vc,b1,b2,b3,b4,b5,b6,ps,b7,b8⟩:=fB s (a.v c) hl;cases hr:resP E l fr K1 with
    |none=>grind
    | some q =>
     obtain⟨us,K2⟩:=q;rw[hr]at e;cases e;obtain⟨vcs,a1,a2,a3,a4,a5⟩:=bJ l b2 (Eg hx b3 b5) (a.keep (fun _ hz=>⟨hz,rfl⟩) b3) hr;refine⟨vc::vcs,?_,a2,b3.trans a3,(Stp.subs s hx b5 b6 b7 b8 _).trans s a4,.cons (b4.keep (fun _ hz=>⟨hz,rfl⟩) a3) a5⟩;simp_all[A4,E8,M1]
end
section
variable {E:Env}
theorem Um{R:Type}{bad:R}{t:Bool}{a:Nat->R}{x:R}(ha:Lim bad a x):Lim bad (fun n=>bif t then a n else bad) (bif t then x else bad):=by
 cases t;exact .const;exact ha
theorem Un(x p:AV)(h:Heap):Lim .bad (fun n=>Ce E (ev E n) x p h) (Ce E (evω E) x p h):=by
 unfold Ce;cases x with
 | fn f first caps =>
  cases f with
  | func n =>
   refine Um ?_;unfold Qd;cases E.fn n with
   |none=>exact .const
   | some fi =>
    refine Um ?_;cases fi.mode with
    |rcv d d2 c=>exact Um ((ev_lim c _ h).bind (k:=fun _ r=>rcvEnd r) (s:=rcvEnd) (fun _=>rfl) rfl (fun _=>.const))
    |_=>exact .const
  |_=>exact .const
 |_=>exact .const
theorem Hp(rs:List ResultVar)(fr:Tr){g:Nat->Res}{r:Res}(hg:Lim .bad g r):Lim .bad (fun n=>Y5 E rs fr (g n)) (Y5 E rs fr r):=
 hg.bind (k:=fun _ r=>Y5 E rs fr r) (s:=Y5 E rs fr) (fun _=>rfl) rfl (fun _=>.const)
theorem jR(x:AV)(rs:List ResultVar)(fr:Tr){g:Nat->CRes}{r:CRes}(hg:Lim .bad g r):Lim .bad (fun n=>H8 E (ev E n) x rs fr (g n)) (H8 E (evω E) x rs fr r):=
 hg.bind (k:=fun n r=>H8 E (ev E n) x rs fr r) (s:=H8 E (evω E) x rs fr) (fun _=>rfl) rfl (fun _=>by
  cases r with
  | ok e fr2 h=>cases e with
   |normal=>exact Hp rs fr2 (Un x _ h)
   |ret=>exact Hp rs fr2 (Un x _ h)
   |exit=>exact .const
  |pan v h=>exact Hp rs fr (Un x v h)
  |bad=>exact .const)
theorem fT(g:Operand)(c:XC)(rs:List ResultVar):∀(pre:List XC)(fr:Tr)(h:Heap),Lim .bad (fun n=>j4 E (ev E n) g c rs pre fr h) (j4 E (evω E) g c rs pre fr h)
 |[],fr,h=>jR (opv E g fr) rs fr (ev_lim c fr h)
 | p::pre,fr,h=>(ev_lim p fr h).bind (k:=fun n r=>x5 (j4 E (ev E n) g c rs pre) r) (s:=fun r=>x5 (j4 E (evω E) g c rs pre) r) (fun _=>rfl) rfl (fun _=>by
  cases ho:evω E p fr h with
  | ok e fr2 h2=>cases e with
   |normal=>exact fT g c rs pre fr2 h2
   |_=>exact .const
  |_=>exact .const)
theorem vK{f:Nat}{args:List AV}{h:Heap}{c:XC}{n:Nat}{rs:List ResultVar}{m:FM}(hm:m=.plain\/∃ic,m=.itf ic)(hg:E.gc f=false)(ht:E.told f=false)(hd:E.dlf f=none)(hs:∀args h,srtA E f args h=none)(hf:E.fn f=some ⟨c,n,rs,m⟩)(hn:args.length<=n):
 callω E f args h=H7 E rs (evω E c (Tr.enter n args) h):=by
 refine (Ax (E:=E) f args h).unique ?_;have e:∀k,F8 E (ev E k) f args h=H7 E rs (ev E k c (Tr.enter n args) h):=fun k=>by
  unfold F8;rw[hg];show M9 E (ev E k) f args h=_
  unfold M9;rw[ht,hd,hs,hf];show(bif Nat.ble (lenL args) n then Mr E (ev E k) ⟨c,n,rs,m⟩ args h else .bad)=_
  rw[A5,zkd hn];rcases hm with rfl|⟨ic,rfl⟩<;>rfl
 simp only[e];exact(ev_lim (E:=E) c (Tr.enter n args) h).bind (k:=fun _ r=>H7 E rs r) (s:=H7 E rs) (fun _=>rfl) rfl (fun _=>.const)
theorem vL{f:Nat}{args:List AV}{h:Heap}{c x:XC}{n:Nat}{rs:List ResultVar}{pre:List XC}{g:Operand}(hg:E.gc f=false)(ht:E.told f=false)(hd:E.dlf f=none)(hs:∀args h,srtA E f args h=none)(hf:E.fn f=some ⟨x,n,rs,.dfr pre g c⟩)(hn:args.length<=n):
 callω E f args h=j4 E (evω E) g c rs pre (Tr.enter n args) h:=by
 refine(Ax (E:=E) f args h).unique ?_;grind[F8,M9,Mr,A5,zkd,fT]
end
section
variable {E:Env}{P:PE}{R:AV->AV->Prop}{Z Z' Z1:Nat->Prop}{ow ow' ow1:Nat->Option (List Nat)}{h h' h1:Heap}{K K' K1:PK}{os os' ps:List PO}{x y xc yc v k:AV}{L M:List Nat}{nt:Nat}{frc:Tr}{fr:PF}
theorem H6{a:Option PR}{f:PR->Option PR}{r:PR}(e:(a >>= f)=some r):∃q,a=some q/\f q=some r:=by
 cases a with
 |none=>cases e
 |some q=>grind
def a8(l:List XOp):Bool:=l.all fun o=>!o.careful
def FrB(b:Nat)(Z:Nat->Prop)(ow:Nat->Option (List Nat))(h:Heap)(os:List PO)(nt:Nat)(frc:Tr)(fr:PF):Prop:=∃Z0 ow0 h0 os0,List.length os0=b/\FrR Z0 ow0 h0 os0 nt frc fr/\(∀id,Z0 id->Z id/\h.get id=h0.get id)/\Y0 b ow0 os0 ow os
theorem fU(s:F6 Z ow h K.os)(hx:K.ext<=K.os.length)(sb:Stp K.os.length Z ow h ⟨K.os,K.os.length,[]⟩ Z' ow' h' K1)(b:Nat):Stp b Z ow h K Z' ow' h' ⟨K1.os,K.ext,K1.tch++K.tch⟩:=by
 obtain⟨l0,f1,f2⟩:=sb.th;refine⟨sb.nx,sb.zz,sb.zn,sb.un,sb.uo,⟨l0,f1,fun id hi=>?_⟩,fun id r t ho hr=>?_,(by grind),rfl,fun j hj=>sb.xk j (zkc hj hx),fun j hj=>sb.rd j (zkc hj hx)⟩
 . rcases f2 id hi with h|⟨r,t,q1,q2⟩
   . exact .inl h
   . obtain⟨_,_,r',t',q3,q4⟩:=s.live id _ q1
     grind[isRt_lt]
 . rcases sb.mv id r t ho (zkc hr hx)with h|h
   . exact .inl h
   grind
theorem Mi(e1:K1.ext=K.os.length)(e2:K1.ext<=K1.os.length)(e3:Y0 K.os.length ow K.os ow' K1.os):Keep' ow K.os ow' K1.os:=⟨by grind,e3⟩
def LB(nt:Nat)(c:RC):Bool:=c.ps.all (fun p=>decide (p<nt))&&(I1 nt c.a&&I1 nt c.b)
theorem Xx:∀(ps:List Tmp){argc args:List AV}{frc:Tr}{fr:PF},VL Z ow h os argc args->ps.all (fun p=>decide (p<nt))=true->FrR Z ow h os nt frc fr->FrR Z ow h os nt (setPs ps argc frc) (setPs' ps args fr)
 |[],_,_,_,_,_,_,a=>a
 |p::ps,[],[],_,_,_,_,a=>a
 | p::ps,x::xs,y::ys,frc,fr,l,hp,a=>by
  obtain⟨h1,h2⟩:=zkh.1 hp;exact Xx ps l.inv.2 h2 (a.set (by grind) l.inv.1)
 |p::ps,[],y::ys,_,_,l,_,_=>by have:=l.1;simp at this
 |p::ps,x::xs,[],_,_,l,_,_=>by have:=l.1;simp at this
def yY(Z:Nat->Prop)(ow:Nat->Option (List Nat))(h:Heap)(K:PK)(nt:Nat)(r:IRes)(p:PR):Prop:=match p with
 | .itr e q fr' K'=>∃Z' ow' h' frc',r=.ok e q frc' h'/\F6 Z' ow' h' K'.os/\FrR Z' ow' h' K'.os nt frc' fr'/\Stp K.ext Z ow h K Z' ow' h' K'/\K'.ext<=K'.os.length/\Y0 K.ext ow K.os ow' K'.os
 | .ok _ _ _=>True
 | .val _ _=>True
 | .pan _ _=>True
theorem EC{n:Nat}{caps:List AV}(v:VR Z ow h os x (.fn (.func n) [] caps)):∃capc,x=.fn (.func n) [] capc/\VL Z ow h os capc caps:=by
 cases v with
 |fz f=>cases f
 | fn h1 _ h3 h4 =>
  rename_i as1 bs _
  have:as1=[]:=zqj h1
  subst this;exact⟨_,rfl,h3,h4⟩
def yZ(d:List Nat)(ws:List (PK×(Nat->Option (List Nat)))):Prop:=∀c,pS c d=true->∃p∈ws,∃r t,p.2 c=some (r::t)/\r∈p.1.tch
def ED(Z:Nat->Prop)(ow:Nat->Option (List Nat))(h:Heap)(K:PK)(r:Res)(p:PR):Prop:=match p with
 | .ok _ _ K'=>∃Z' ow' h',r=.ok .und h'/\F6 Z' ow' h' K'.os/\Stp K.ext Z ow h K Z' ow' h' K'/\K'.ext<=K'.os.length/\Y0 K.ext ow K.os ow' K'.os
 |_=>False
theorem vM{o:Option PFn}{n:Nat}{d d2:Tmp}{c:PC}(e:rcOf o=some (n,d,d2,c)):∃x i,o=some ⟨.rcv x d d2 c,n,[],i⟩:=by
 unfold rcOf at e;grind
theorem jS(g:Operand)(c:XC)(rs:List ResultVar):∀(a:PC){frc frc':Tr}{h h':Heap},evω E a.er frc h=.ok .normal frc' h'->j4 E (evω E) g c rs a.pieces frc h=H8 E (evω E) (opv E g frc') rs frc' (evω E c frc' h'):=by
 intro a;have one:∀(x:XC){frc frc':Tr}{h h':Heap},evω E x frc h=.ok .normal frc' h'->j4 E (evω E) g c rs [x] frc h=H8 E (evω E) (opv E g frc') rs frc' (evω E c frc' h'):=fun x frc frc' h h' e=>by
  show x5 _ (evω E x frc h)=_
  rw[e];rfl
 induction a with
 | seq a b _ ihb =>
  intro frc frc' h h' e;have e:evω E (.seq a.er b.er) frc h=.ok .normal frc' h':=e;rw[AP]at e;show x5 (j4 E (evω E) g c rs b.pieces) (evω E a.er frc h)=_
  cases ho:evω E a.er frc h with
  |bad=>rw[ho]at e;cases e
  |pan=>rw[ho]at e;cases e
  | ok x fr1 h1 =>
   rw[ho]at e;cases x with
   |normal=>exact ihb e
   |exit=>cases e
   |ret=>cases e
 |_=>exact fun e=>one _ e
theorem bodyJ_or(c:PC):(∃x a g d,c=.dfr x a g d)\/(∃x d d2 b,c=.rcv x d d2 b)\/((∀fr K,bodyJ c fr K=.code c fr K)/\(fS c=.plain\/∃ic,fS c=.itf ic)):=by
 cases c<;>first|exact .inl ⟨_,_,_,_,rfl⟩|exact .inr (.inl ⟨_,_,_,_,rfl⟩)|exact .inr (.inr ⟨fun _ _=>rfl,.inl rfl⟩)|exact .inr (.inr ⟨fun _ _=>rfl,.inr ⟨_,rfl⟩⟩)
def LC(P:PE):PJ->PR->Prop
 | .code c fr K,r=>∀nt Z ow h frc,F6 Z ow h K.os->K.ext<=K.os.length->FrR Z ow h K.os nt frc fr->I1 nt c=true->C1 Z ow h K nt (evω P.E c.er frc h) r
 | .ops l fr K,r=>∀nt Z ow h frc,F6 Z ow h K.os->K.ext<=K.os.length->FrR Z ow h K.os nt frc fr->Uj nt l=true->C1 Z ow h K nt (H1 P.E (callω P.E) l frc h) r
 | .opsD l fr K,r=>∀nt Z ow h frc d,F6 Z ow h K.os->K.ext<=K.os.length->FrR Z ow h K.os nt frc fr->Uj nt l=true->(d=[]\/a8 l=true)->C1 Z ow h K nt (evOpsD P.E (callω P.E) l frc h d) r
 | .opsS S l fr K,r=>∀nt Z ow h frc d ws,F6 Z ow h K.os->K.ext<=K.os.length->FrR Z ow h K.os nt frc fr->Uj nt l=true->ws.map Prod.fst=S->yZ d ws->(∀p∈ws,Keep' p.2 p.1.os ow K.os)->C1 Z ow h K nt (evOpsD P.E (callω P.E) l frc h d) r
 | .call f args K,r=>∀Z ow h argc,F6 Z ow h K.os->K.ext<=K.os.length->VL Z ow h K.os argc args->yX Z ow h K (callω P.E f argc h) r
 | .body f args K,r=>∀Z ow h argc,F6 Z ow h K.os->K.ext<=K.os.length->VL Z ow h K.os argc args->mD Z ow h K (callω P.E f argc h) r
 | .iter c m ic p fr K,r=>∀nt nt0 Z ow h frc frc0,F6 Z ow h K.os->K.ext<=K.os.length->FrR Z ow h K.os nt frc fr->FrB K.ext Z ow h K.os nt0 frc0 c.fr->I1 nt ic=true->LB nt0 c=true->yY Z ow h K nt (evI P.E (evω P.E) nt (qN (evω P.E) c.ps c.a.er c.b.er frc0) m ic.eri p frc h) r
 | .dfc a g c fr K,r=>∀nt Z ow h frc,F6 Z ow h K.os->K.ext<=K.os.length->FrR Z ow h K.os nt frc fr->(I1 nt a&&I1 nt c)=true->∃rc,(∀rs,j4 P.E (evω P.E) g c.er rs a.pieces frc h=H7 P.E rs rc)/\C1 Z ow h K nt rc r
 | .rcv x v K,r=>∀Z ow h xc vc,F6 Z ow h K.os->K.ext<=K.os.length->VR Z ow h K.os xc x->VR Z ow h K.os vc v->ED Z ow h K (Ce P.E (evω P.E) xc vc h) r
 | .round c args K,r=>∀nt0 Z ow h frc0 argc,F6 Z ow h K.os->K.ext<=K.os.length->FrR Z ow h K.os nt0 frc0 c.fr->VL Z ow h K.os argc args->LB nt0 c=true->C1 Z ow h K nt0 (qN (evω P.E) c.ps c.a.er c.b.er frc0 argc h) r
theorem jT(call:D1)(o:XOp)(l:List XOp)(frc:Tr)(h:Heap):H1 E call (o::l) frc h=onOB (guardOk o.gd frc) .bad (U2 o.dst (H1 E call l) frc (evOp E call o.op frc h)) (H1 E call l (setDst o.dst skipped frc) h):=rfl
theorem Np(call:D1)(o:XOp)(l:List XOp)(frc:Tr)(h:Heap)(d:List Nat):evOpsD E call (o::l) frc h d=onOB (guardOk o.gd frc) .bad (M8 o.dst (evOpsD E call l) (virtD E call l o.late (setDst o.dst skipped frc) h d) frc (evOpD E call o frc h d)) (evOpsD E call l (setDst o.dst skipped frc) h d):=rfl
structure Did2(Z:Nat->Prop)(ow:Nat->Option (List Nat))(h:Heap)(K:PK)(r:Res)(v:AV)(K':PK)(Z':Nat->Prop)(ow':Nat->Option (List Nat))(vc:AV)(h':Heap):Prop where
 r:r=.ok vc h'
 st:F6 Z' ow' h' K'.os
 kp:Keep' ow K.os ow' K'.os
 vr:VR Z' ow' h' K'.os vc v
 sp:∀b,Stp b Z ow h K Z' ow' h' K'
theorem Did'.two{r:Res}{vc:AV}(a:Did' Z ow h K r v K' ow' vc h'):Did2 Z ow h K r v K' Z ow' vc h':=⟨a.r,a.st,a.kp,a.vr,a.sp⟩
theorem dst_cons{o:XOp}{l:List XOp}(e:Uj nt (o::l)=true):(match o.dst with|none=>true|some t=>decide (t<nt))=true/\Uj nt l=true:=by
 exact zkh.1 e
theorem Bf{o:XOp}{l:List XOp}(e:a8 (o::l)=true):o.careful=false/\a8 l=true:=by
 grind[a8]
theorem jU(r:Option Nat):readOk r []=true:=by cases r<;>rfl
theorem fV{call:D1}{o:XOp}{d:List Nat}{l:List XOp}(hq:o.quiet=false)(hd:d=[]\/a8 (o::l)=true):evOpD E call o frc h d=k8 d (evOp E call o.op frc h):=by
 unfold evOpD;rw[hq];show(bif o.careful then _ else _)=_
 cases hc:o.careful with
 |false=>rfl
 | true =>
  rcases hd with rfl|hd
  . rw[jU];rfl
  . rw[(Bf hd).1]at hc;cases hc
theorem Mj{b:Nat}(sb:Stp b Z ow {h with tch:=[]} {K with tch:=[]} Z' ow' h1 K1):Stp b Z ow h K Z' ow' {h1 with tch:=Ad (H2 h.next h1.tch) h.tch} {K1 with tch:=K1.tch++K.tch}:=by
 obtain⟨l0,f1,f2⟩:=sb.th;refine⟨sb.nx,sb.zz,sb.zn,sb.un,sb.uo,⟨H2 h.next h1.tch,by grind[Ej],fun id hi=>?_⟩,fun id r t ho hr=>?_,(by grind),sb.ex,sb.xk,sb.rd⟩
 . grind[Y8]
 . rcases sb.mv id r t ho hr with h|h
   . exact .inl h
   grind
theorem Xy{call:D1}{o:XOp}{d:List Nat}{l:List XOp}(hq:o.quiet=true)(s:F6 Z ow h K.os)(hd:d=[]\/a8 (o::l)=true){r:AV}{Z':Nat->Prop}{ow':Nat->Option (List Nat)}{vc:AV}{h1:Heap}
 (a:Did2 Z ow {h with tch:=[]} {K with tch:=[]} (evOp E call o.op frc {h with tch:=[]}) v K1 Z' ow' vc h1)(ht:u4 K.os.length l K1=true):
 ∃h2 d2,evOpD E call o frc h d=.ok vc h2 d2/\Did2 Z ow h K (.ok vc h2) v {K1 with tch:=K1.tch++K.tch} Z' ow' vc h2/\(d2=[]\/a8 l=true):=by
 have e:evOpD E call o frc h d=.ok vc {h1 with tch:=Ad (H2 h.next h1.tch) h.tch} (Ad (H2 h.next h1.tch) d):=by
  unfold evOpD;rw[hq];show n7 h.next h.tch d (evOp E call o.op frc {h with tch:=[]})=_
  rw[a.r];rfl
 refine⟨_,_,e,⟨rfl,a.st.congr rfl (fun _=>rfl),a.kp,a.vr.keep (fun _ hz=>⟨hz,rfl⟩) (.refl _ _),fun b=>?_⟩,?_⟩
 . exact Mj (a.sp b)
 . unfold u4 at ht
   rcases zkj.1 ht with ht|ht
   . rcases hd with rfl|hd
     . left
       obtain⟨l0,f1,f2⟩:=(a.sp K.os.length).th
       have:H2 h.next h1.tch=[]:=Nm fun i hi=>by
        rw[f1]at hi;have hi:i∈l0:=by grind
        rcases f2 i hi with h|⟨r,t,q1,q2⟩
        . exact h
        . obtain⟨_,_,r',t',q3,q4⟩:=s.live i _ q1
          grind[isRt_lt]
       rw[this];rfl
     . exact .inr (Bf hd).2
   . exact .inr ht
theorem Fb(gl:uU E)(ti:DZ E){call:D1}:∀(l:List XOp){s:List Bool}{Z:Nat->Prop}{ow:Nat->Option (List Nat)}{h:Heap}{K:PK}{frc:Tr}{fr:PF}{d:List Nat},F6 Z ow h K.os->K.ext<=K.os.length->FrR Z ow h K.os nt frc fr->Uj nt l=true->(d=[]\/a8 l=true)->X5 E l s fr K=true->virtD E call l s frc h d=true
 |[],_,_,_,_,_,_,_,_,_,_,_,_,_,_=>rfl
 |o::l,[],_,_,_,_,_,_,_,_,_,_,_,_,e=>by cases e
 |o::l,true::s,Z,ow,h,K,frc,fr,d,p,hx,a,hd,hdd,e=>Fb gl ti l p hx (a.setd (dst_cons hd).1 vr_skipped) (dst_cons hd).2 (hdd.imp id fun e=>(Bf e).2) e
 | o :: l,false::s,Z,ow,h,K,frc,fr,d,p,hx,a,hd,hdd,e=>by
  obtain⟨hd1,hd2⟩:=dst_cons hd;have hdd2:d=[]\/a8 l=true:=hdd.imp id fun e=>(Bf e).2
  unfold X5 at e;show onOB (guardOk o.gd frc) false (virtThen o.dst (virtD E call l s) frc (evOpD E call o frc h d)) (virtD E call l s (setDst o.dst skipped frc) h d)=true
  cases hg:guardP o.gd fr with
  |none=>grind
  | some b =>
   rw[hg]at e;rw[Fa a hg];cases b with
   |false=>exact Fb gl ti l p hx (a.setd hd1 vr_skipped) hd2 hdd2 e
   | true =>
    obtain⟨hq,e⟩:=zkh.1 e;show virtThen o.dst (virtD E call l s) frc (evOpD E call o frc h d)=true
    rw[fV (by grind) hdd];cases hp:prim E o.op fr K with
    | val v K' =>
     rw[hp]at e;obtain⟨ow',vc,h',dd⟩:=Bd gl ti p hx a hp call;rw[dd.r];exact Fb gl ti l dd.st (Eg hx dd.kp (dd.sp 0).ex) ((a.keep (dd.sp 0).zz dd.kp).setd hd1 dd.vr) hd2 hdd2 e
    |_=>grind
theorem bK{os:List PO}{id:Nat}(h:AQ os id=true):loP os 6 id=some [id]:=by
 grind[AQ,loP]
theorem zA{id i off:Nat}(v:VR Z ow h os x (.ptr id i off)):∃c,x=.ptr c i off/\∀L,loP os 6 id=some L->ow c=some L:=by
 cases v with
 |fz f=>cases f
 |ptr h1 h2=>grind
theorem bL{i:Nat}:∀{l:List Nat},pS i l=true->i∈l
 |[],h=>by cases h
 | j::l,h=>by
  have h:(bif Nat.beq j i then true else pS i l)=true:=h;cases e:Nat.beq j i with
  |true=>simp_all
  |false=>rw[e]at h;exact zqi.2 (.inr (bL h))
theorem bM{i:Nat}:∀{l:List Nat},i∈l->pS i l=true
 | j :: l,h=>by
  show(bif Nat.beq j i then true else pS i l)=true
  rcases zqi.1 h with rfl|h
  . rw[zke];rfl
  . cases Nat.beq j i with
    |true=>rfl
    |false=>exact bM h
theorem Hq{call:D1}{o:XOp}{d:List Nat}{l:List XOp}(hq:o.quiet=true)(s:F6 Z ow h K.os)(hd:d=[]\/a8 (o::l)=true){r:AV}{Z':Nat->Prop}{ow':Nat->Option (List Nat)}{vc:AV}{h1:Heap}
 (a:Did2 Z ow {h with tch:=[]} {K with tch:=[]} (evOp E call o.op frc {h with tch:=[]}) v K1 Z' ow' vc h1):
 ∃h2 d2,evOpD E call o frc h d=.ok vc h2 d2/\Did2 Z ow h K (.ok vc h2) v {K1 with tch:=K1.tch++K.tch} Z' ow' vc h2/\(d=[]->∀c,pS c d2=true->∃r t,ow c=some (r::t)/\r∈K1.tch):=by
 have e:evOpD E call o frc h d=.ok vc {h1 with tch:=Ad (H2 h.next h1.tch) h.tch} (Ad (H2 h.next h1.tch) d):=by
  unfold evOpD;rw[hq];show n7 h.next h.tch d (evOp E call o.op frc {h with tch:=[]})=_
  rw[a.r];rfl
 refine⟨_,_,e,⟨rfl,a.st.congr rfl (fun _=>rfl),a.kp,a.vr.keep (fun _ hz=>⟨hz,rfl⟩) (.refl _ _),fun b=>?_⟩,?_⟩
 . exact Mj (a.sp b)
 . rintro rfl c hc
   have hc:=bL hc;rw[Ej,zql]at hc;obtain⟨hc1,hc2⟩:=Y8.1 hc;obtain⟨_,_,r',t',q3,q4⟩:c<h.next/\¬Z c/\∃r t,(∃L,ow c=some L/\L=r::t)/\isRt K.os r=true:=by
    obtain⟨l0,f1,f2⟩:=(a.sp 0).th;rw[f1]at hc1;have hc1:c∈l0:=by grind
    rcases f2 c hc1 with h|⟨r,t,h1,_⟩
    . grind
    . obtain⟨p1,p2,r',t',p3,p4⟩:=s.live c _ h1
      grind
   obtain⟨L,q5,rfl⟩:=q3;obtain⟨l0,f1,f2⟩:=(a.sp K.os.length).th;grind[isRt_lt]
theorem fW{n:Nat}{l:List XOp}{K1:PK}(ht:¬u4 n l K1=true):¬a8 l=true:=fun e=>ht (zkj.2 (.inr e))
theorem vN(gl:uU E){call:D1}{o:XOp}{d:List Nat}{ws:List (PK×(Nat->Option (List Nat)))}(a:FrR Z ow h K.os nt frc fr)(hq:o.quiet=false)(sf:yZ d ws)(kp:∀p∈ws,Keep' p.2 p.1.os ow K.os)(hc:bC E (ws.map Prod.fst) K fr o=true):evOpD E call o frc h d=k8 d (evOp E call o.op frc h):=by
 unfold evOpD;rw[hq];show(bif o.careful then _ else _)=_
 cases hcf:o.careful with
 |false=>rfl
 | true =>
  have:readOk (readO E o.op frc) d=true:=by
   cases hro:readO E o.op frc with
   |none=>rfl
   | some c =>
    show(!(pS c d))=true
    cases hin:pS c d with
    |false=>rfl
    | true =>
     obtain⟨p,hp,r0,t0,e1,e2⟩:=sf c hin;have hc:=zqf.1 hc p.1 (zqn.2 ⟨p,hp,rfl⟩);have kp:=kp p hp;unfold AR at hc;rw[hcf]at hc;dsimp only at hc;cases hop:o.op<;>rw[hop]at hc hro<;>first|(cases hc;done)|skip
     rename_i t x
     change fA K.os p.1 (opvP E x fr)=true at hc
     have hv:=Bz gl a x;cases hox:opvP E x fr<;>rw[hox]at hc hv<;>first|(cases hc;done)|skip
     rename_i id i off;obtain⟨k1,k2⟩:=zkh.1 hc;obtain⟨k2,k3⟩:=zkh.1 k2;have k2:¬id∈p.1.tch:=by simpa using k2
     obtain⟨c',hcc,how⟩:=zA hv
     change f9 (opv E x frc)=some c at hro
     rw [hcc]at hro;cases hro;have hlt:id<p.1.os.length:=by
      unfold AQ at k1;split at k1
      . rename_i e;exact(zqc.1 e).1
      . cases k1
     obtain⟨L,q1,q2⟩:=kp.2 id hlt [id] (bK k3);rw[bK k1]at q1;cases q1;have w0:=(q2 c).2 (how [id] (bK k3));rw[w0]at e1;cases e1;exact absurd e2 k2
  rw[this];rfl
theorem jV{call:D1}{o:XOp}{d:List Nat}{ws:List (PK×(Nat->Option (List Nat)))}(hq:o.quiet=true)(s:F6 Z ow h K.os)(sf:yZ d ws){Z':Nat->Prop}{ow':Nat->Option (List Nat)}{vc:AV}{h1:Heap}
 (a:Did2 Z ow {h with tch:=[]} {K with tch:=[]} (evOp E call o.op frc {h with tch:=[]}) v K1 Z' ow' vc h1):
 ∃h2 d2,evOpD E call o frc h d=.ok vc h2 d2/\Did2 Z ow h K (.ok vc h2) v {K1 with tch:=K1.tch++K.tch} Z' ow' vc h2/\yZ d2 ((⟨K.os,0,K1.tch⟩,ow)::ws):=by
 have e:evOpD E call o frc h d=.ok vc {h1 with tch:=Ad (H2 h.next h1.tch) h.tch} (Ad (H2 h.next h1.tch) d):=by
  unfold evOpD;rw[hq];show n7 h.next h.tch d (evOp E call o.op frc {h with tch:=[]})=_
  rw[a.r];rfl
 have e0:evOpD E call o frc h []=.ok vc {h1 with tch:=Ad (H2 h.next h1.tch) h.tch} (Ad (H2 h.next h1.tch) []):=by
  unfold evOpD;rw[hq];show n7 h.next h.tch [] (evOp E call o.op frc {h with tch:=[]})=_
  rw[a.r];rfl
 obtain⟨h2,d2,e2,dd,hr⟩:=Hq (l:=[]) hq s (.inl rfl) (r:=v) a;rw[e0]at e2;cases e2;refine⟨_,_,e,dd,fun c hc=>?_⟩;have hc:=bL hc;rw[Ej]at hc;rcases zqk.1 hc with hc|hc
 . obtain⟨r,t,k1,k2⟩:=hr rfl c (by rw[Ej,zql];exact bM hc)
   exact⟨_,zqh ..,r,t,k1,k2⟩
 . obtain⟨p,hp,k⟩:=sf c (bM hc)
   exact⟨p,zqq _ hp,k⟩
theorem C1.next{r:CRes}{p:PR}(s:F6 Z ow h K.os)(hx:K.ext<=K.os.length){r0:Res}{vc:AV}(a:Did2 Z ow h K r0 v K' Z' ow' vc h')(H:F6 Z' ow' h' K'.os->K'.ext<=K'.os.length->C1 Z' ow' h' K' nt r p):C1 Z ow h K nt r p:=
 (H a.st (Eg hx a.kp (a.sp 0).ex)).trans s (a.sp _) (a.kp.e hx)
theorem LD(hP:PEok P):∀(j:PJ)(r:PR),evP P j=some r->LC P j r:=by
 refine evP.partial_correctness P (LC P) fun ev ih j r hr=>?_
 cases j with
 | code c fr K =>
  intro nt Z ow h frc s hx a hc;cases c with
  |skip=>cases hr;exact⟨Z,ow,h,frc,DM,s,a,.refl _ _ _ _ _,hx,.refl _ _ _⟩
  |exit i=>cases hr;exact⟨Z,ow,h,frc,DN i,s,a,.refl _ _ _ _ _,hx,.refl _ _ _⟩
  |ret=>cases hr;exact⟨Z,ow,h,frc,KN,s,a,.refl _ _ _ _ _,hx,.refl _ _ _⟩
  | reg d l =>
   cases d with
   |false=>show C1 _ _ _ _ _ (evω P.E (.reg false l) frc h) r;rw[KO];exact ih (.ops l fr K) r hr nt Z ow h frc s hx a hc
   |true=>show C1 _ _ _ _ _ (evω P.E (.reg true l) frc h) r;rw[DO];exact ih (.opsD l fr K) r hr nt Z ow h frc [] s hx a hc (.inl rfl)
  | seq c1 c2 =>
   obtain⟨hc1,hc2⟩:=zkh.1 hc;obtain⟨q,h1,h2⟩:=H6 hr;have k1:=ih _ _ h1 nt Z ow h frc s hx a hc1;show C1 _ _ _ _ _ (evω P.E (.seq c1.er c2.er) frc h) r
   rw[AP];cases q with
   |val=>cases h2
   |itr=>cases h2
   |pan v K'=>cases h2;obtain⟨Z',ow',h',vc,e,b2,b3,b4,b5⟩:=k1;rw[e];exact⟨Z',ow',h',vc,rfl,b2,b3,b4,b5⟩
   | ok e fr' K' =>
    obtain⟨Z',ow',h',frc',e1,b2,b3,b4,b5,b6⟩:=k1;rw[e1];cases e with
    |normal=>exact(ih _ _ h2 nt Z' ow' h' frc' b2 b5 b3 hc2).trans s b4 b6
    |exit i=>cases h2;exact⟨Z',ow',h',frc',rfl,b2,b3,b4,b5,b6⟩
    |ret=>cases h2;exact⟨Z',ow',h',frc',rfl,b2,b3,b4,b5,b6⟩
  | cond x c1 c2 =>
   obtain⟨hc1,hc2⟩:=zkh.1 hc;show C1 _ _ _ _ _ (evω P.E (.cond x c1.er c2.er) frc h) r
   rw[DQ];have hv:=Bz hP.gl a x
   change (match opvP P.E x fr with | .bool true=>ev (.code c1 fr K) | .bool false=>ev (.code c2 fr K)|_=>none)=some r at hr
   cases ho:opvP P.E x fr<;>rw[ho]at hr hv<;>first|(cases hr;done)|skip
   rename_i b;rw[hv.isB];cases b with
   |true=>exact ih _ _ hr nt Z ow h frc s hx a hc1
   |false=>exact ih _ _ hr nt Z ow h frc s hx a hc2
  | block i c =>
   obtain⟨q,h1,h2⟩:=H6 hr;have k1:=ih _ _ h1 nt Z ow h frc s hx a hc;show C1 _ _ _ _ _ (evω P.E (.block i c.er) frc h) r
   rw[yK];cases q with
   |val=>cases h2
   |itr=>cases h2
   |pan v K'=>cases h2;obtain⟨Z',ow',h',vc,e,b2,b3,b4,b5⟩:=k1;rw[e];exact⟨Z',ow',h',vc,rfl,b2,b3,b4,b5⟩
   | ok e fr' K' =>
    obtain⟨Z',ow',h',frc',e1,b2,b3,b4,b5,b6⟩:=k1;rw[e1];cases e with
    |normal=>cases h2;exact⟨Z',ow',h',frc',rfl,b2,b3,b4,b5,b6⟩
    | exit j =>
     change (if j=i then pure (PR.ok .normal fr' K')else pure (PR.ok (.exit j) fr' K'))=some r at h2
     show C1 _ _ _ _ _ (bif Nat.beq j i then .ok .normal frc' h' else .ok (.exit j) frc' h') r
     by_cases e:j=i
     . rw[if_pos e]at h2;cases h2
       rw[e,zke];exact⟨Z',ow',h',frc',rfl,b2,b3,b4,b5,b6⟩
     . rw[if_neg e]at h2;cases h2
       rw[show Nat.beq j i=false from(by cases hb:Nat.beq j i with|false=>rfl|true=>exact absurd (zkg hb) e)];exact⟨Z',ow',h',frc',rfl,b2,b3,b4,b5,b6⟩
    |ret=>cases h2;exact⟨Z',ow',h',frc',rfl,b2,b3,b4,b5,b6⟩
  | loop c =>
   obtain⟨q,h1,h2⟩:=H6 hr;have k1:=ih _ _ h1 nt Z ow h frc s hx a hc;show C1 _ _ _ _ _ (evω P.E (.loop c.er) frc h) r
   rw[DR];cases q with
   |val=>cases h2
   |itr=>cases h2
   |pan v K'=>cases h2;obtain⟨Z',ow',h',vc,e,b2,b3,b4,b5⟩:=k1;rw[e];exact⟨Z',ow',h',vc,rfl,b2,b3,b4,b5⟩
   | ok e fr' K' =>
    obtain⟨Z',ow',h',frc',e1,b2,b3,b4,b5,b6⟩:=k1;rw[e1];cases e with
    |normal=>exact(ih _ _ h2 nt Z' ow' h' frc' b2 b5 b3 hc).trans s b4 b6
    |exit i=>cases h2;exact⟨Z',ow',h',frc',rfl,b2,b3,b4,b5,b6⟩
    |ret=>cases h2;exact⟨Z',ow',h',frc',rfl,b2,b3,b4,b5,b6⟩
  |scope c=>show C1 _ _ _ _ _ (evω P.E (.scope c.er) frc h) r;rw[yL];exact ih _ _ hr nt Z ow h frc s hx a hc
  | pre keep c =>
   obtain⟨ow',b1,b2,b3,b4,b5⟩:=bI s a keep;exact(ih _ _ hr nt Z ow' h frc b1 b4 b2 hc).trans s b3 (fun id hi=>b5 id hi (zkc hi hx))
  | post keep c =>
   obtain⟨q,h1,h2⟩:=H6 hr;have k1:=ih _ _ h1 nt Z ow h frc s hx a hc;show C1 _ _ _ _ _ (evω P.E c.er frc h) r
   cases q with
   |val=>cases h2
   |itr=>cases h2
   | pan v K' =>
    cases h2;obtain⟨Z',ow',h',vc,e1,b2,b3,b4,b5,b6⟩:=k1;obtain⟨ow2,c1,c2,c3,c4,c5⟩:=bI b2 (Mh (nt:=1) (.cons b3 .nil) (zkb _) (by decide)) [0];exact⟨Z',ow2,h',vc,e1,c1,c2.v 0,b4.trans s c3,c4,b6.trans (fun id hi=>c5 id (by rw[b4.ex];exact hi) (zkc (by rw[b4.ex];exact hi) b5))⟩
   | ok e fr' K' =>
    cases e with
    | normal =>
     cases h2;obtain⟨Z',ow',h',frc',e1,b2,b3,b4,b5,b6⟩:=k1;obtain⟨ow2,c1,c2,c3,c4,c5⟩:=bI b2 b3 keep;exact⟨Z',ow2,h',frc',e1,c1,c2,b4.trans s c3,c4,b6.trans (fun id hi=>c5 id (by rw[b4.ex];exact hi) (zkc (by rw[b4.ex];exact hi) b5))⟩
    |exit i=>cases h2;exact k1
    |ret=>cases h2;exact k1
  |itf=>cases hr
  |yreg=>cases hr
  |dfr=>cases hr
  |rcv=>cases hr
  |rfn=>cases hr
 | rcv x v K =>
  intro Z ow h xc vc s hx vx vv;dsimp only at hr;split at hr
  . rename_i n caps
    obtain⟨capc,rfl,hl⟩:=EC vx;split at hr
    . rename_i nt d d2 c hrc
      obtain⟨x0,i,hf⟩:=vM hrc;have F:=hP.fn n _ hf;obtain⟨hdd,hcc⟩:=zkh.1 F.ok;obtain⟨hd1,hd2⟩:=zkh.1 hdd;have hd1:decide (d<nt)=true:=hd1;have hd2:decide (d2<nt)=true:=hd2;split at hr
      . rename_i hlen
        obtain ⟨q,h1,h2⟩:=H6 hr;have k1:=ih _ _ h1 nt Z ow h _ s hx (Xx [d,d2] (.cons vv (.cons vv .nil)) (by show(decide (d<nt)&&(decide (d2<nt)&&true))=true;rw[hd1,hd2];rfl) (Mh hl hlen F.nt)) hcc;have e0:Ce P.E (evω P.E) (.fn (.func n) [] capc) vc h=rcvEnd (evω P.E c.er (setPs [d,d2] [vc,vc] (Tr.enter nt capc)) h):=by
         show Qd P.E (evω P.E) n capc vc h=_
         unfold Qd;rw[F.fn];show(bif Nat.ble (lenL capc) nt&&true then(bif Nat.blt d nt then _ else _)else _)=_
         rw[A5,hl.1,zkd hlen,show Nat.blt d nt=true from zkd (Nat.succ_le_of_lt (of_decide_eq_true hd1))];rfl
        rw[e0];cases q with
        |val=>cases h2
        |pan=>cases h2
        |itr=>cases h2
        | ok e fr' K' =>
         obtain⟨Z',ow',h',frc',e1,b2,b3,b4,b5,b6⟩:=k1;rw[e1];cases e with
         |exit=>cases h2
         |normal=>cases h2;exact⟨Z',ow',h',rfl,b2,b4,b5,b6⟩
         |ret=>cases h2;exact⟨Z',ow',h',rfl,b2,b4,b5,b6⟩
      . cases hr
    . cases hr
  . cases hr
 | dfc a g c fr K =>
  intro nt Z ow h frc s hx fR hc;obtain⟨hca,hcc⟩:=zkh.1 hc;obtain⟨q,h1,h2⟩:=H6 hr;have k1:=ih _ _ h1 nt Z ow h frc s hx fR hca;cases q with
  |val=>cases h2
  |pan=>cases h2
  |itr=>cases h2
  | ok e fr1 K1 =>
   cases e with
   |exit=>cases h2
   |ret=>cases h2
   | normal =>
    obtain⟨Z1,ow1,hh1,frc1,e1,b2,b3,b4,b5,b6⟩:=k1;obtain⟨q2,h3,h4⟩:=H6 h2;have k2:=ih _ _ h3 nt Z1 ow1 hh1 frc1 b2 (zkb _) b3 hcc;have e0:∀rs,j4 P.E (evω P.E) g c.er rs a.pieces frc h=H8 P.E (evω P.E) (opv P.E g frc1) rs frc1 (evω P.E c.er frc1 hh1):=fun rs=>jS g c.er rs a e1
    have hv:=Bz hP.gl b3 g;have fin:∀{Z2:Nat->Prop}{ow2:Nat->Option (List Nat)}{hh2:Heap}{K2:PK}{frc2:Tr}{fr2:PF}{v vc:AV}{r:PR},F6 Z2 ow2 hh2 K2.os->Stp K1.os.length Z1 ow1 hh1 ⟨K1.os,K1.os.length,[]⟩ Z2 ow2 hh2 K2->K2.ext<=K2.os.length->Y0 K1.os.length ow1 K1.os ow2 K2.os->FrR Z2 ow2 hh2 K2.os nt frc2 fr2->VR Z2 ow2 hh2 K2.os vc v ->
     (∀rs,H8 P.E (evω P.E) (opv P.E g frc1) rs frc1 (evω P.E c.er frc1 hh1)=Y5 P.E rs frc2 (Ce P.E (evω P.E) (opv P.E g frc1) vc hh2))->(∃q,ev (.rcv (opvP P.E g fr1) v ⟨K2.os,K2.os.length,[]⟩)=some q/\(match q with | .ok _ _ K3=>some (.ok .ret fr2 ⟨K3.os,K1.ext,K3.tch++(K2.tch++K1.tch)⟩)|_=>none)=some r) ->
     ∃rc,(∀rs,j4 P.E (evω P.E) g c.er rs a.pieces frc h=H7 P.E rs rc)/\C1 Z ow h K nt rc r:=fun{Z2 ow2 hh2 K2 frc2 fr2 v vc r} c2 c4 c5 c6 c3 cv ce cq=>by
     obtain⟨q3,h5,h6⟩:=cq;have kp:Keep' ow1 K1.os ow2 K2.os:=Mi c4.ex c5 c6;have k3:=ih _ _ h5 Z2 ow2 hh2 _ vc c2 (zkb _) (hv.keep c4.zz kp) cv;cases q3 with
     |val=>cases h6
     |pan=>cases h6
     |itr=>cases h6
     | ok e3 fr3 K3 =>
      cases h6;obtain⟨Z3,ow3,hh3,d1,d2,d3,d4,d5⟩:=k3;have kp2:Keep' ow2 K2.os ow3 K3.os:=Mi d3.ex d4 d5;refine⟨.ok .ret frc2 hh3,fun rs=>?_,Z3,ow3,hh3,frc2,rfl,d2,c3.keep d3.zz kp2,?_,?_,?_⟩
      . rw[e0,ce,d1];rfl
      . have s1:=fU b2 b5 c4 K1.ext
        have hx2:(⟨K2.os,K1.ext,K2.tch++K1.tch⟩:PK).ext<=(⟨K2.os,K1.ext,K2.tch++K1.tch⟩:PK).os.length:=zkf b5 kp.1;have s2:=fU (K:=⟨K2.os,K1.ext,K2.tch++K1.tch⟩) c2 hx2 d3 K1.ext
        have:=b4.trans s (s1.trans b2 s2)
        exact this
      . exact zkf b5 (zkf kp.1 kp2.1)
      . have:=b6.trans (by rw[b4.ex.symm];exact(kp.trans kp2).e b5)
        exact this
    cases q2 with
    |val=>cases h4
    |itr=>cases h4
    | pan v K2 =>
     obtain⟨Z2,ow2,hh2,vc,f1,f2,f3,f4,f5,f6⟩:=k2;exact fin f2 f4 f5 f6 (b3.keep f4.zz (Mi f4.ex f5 f6)) f3 (fun rs=>by rw[f1];rfl) (H6 h4)
    | ok e2 fr2 K2 =>
     obtain⟨Z2,ow2,hh2,frc2,f1,f2,f3,f4,f5,f6⟩:=k2;cases e2 with
     |exit=>cases h4
     |normal=>exact fin f2 f4 f5 f6 f3 (.fz .niliface) (fun rs=>by rw[f1];rfl) (H6 h4)
     |ret=>exact fin f2 f4 f5 f6 f3 (.fz .niliface) (fun rs=>by rw[f1];rfl) (H6 h4)
 |round=>cases hr
 |iter=>cases hr
 | ops l fr K =>
  intro nt Z ow h frc s hx a hd;cases l with
  |nil=>cases hr;exact⟨Z,ow,h,frc,rfl,s,a,.refl _ _ _ _ _,hx,.refl _ _ _⟩
  | cons o l =>
   obtain⟨hd1,hd2⟩:=dst_cons hd;rw[jT];dsimp only at hr;cases hg:guardP o.gd fr with
   |none=>rw[hg]at hr;cases hr
   | some b =>
    rw[hg]at hr;rw[Fa a hg];cases b with
    |false=>exact ih _ _ hr nt Z ow h _ s hx (a.setd hd1 vr_skipped) hd2
    | true =>
     dsimp only at hr;show C1 _ _ _ _ _ (U2 o.dst (H1 P.E (callω P.E) l) frc (evOp P.E (callω P.E) o.op frc h)) r
     cases hp:prim P.E o.op fr K with
     |bad=>rw[hp]at hr;cases hr
     | val v K' =>
      rw[hp]at hr;obtain⟨ow',vc,h',d⟩:=Bd hP.gl hP.ti s hx a hp (callω P.E);rw[d.r];refine C1.next s hx (v:=v) d.two fun s' hx'=>?_
      exact ih _ _ hr nt Z ow' h' _ s' hx' ((a.keep (d.sp 0).zz d.kp).setd hd1 d.vr) hd2
     | pan v =>
      rw[hp]at hr;cases hr;obtain⟨vc,hv,e⟩:=fM hP.gl a hp;rw[e];exact⟨Z,ow,h,vc,rfl,s,hv,.refl _ _ _ _ _,hx,.refl _ _ _⟩
     | call f args =>
      rw[hp]at hr;obtain⟨argc,hl,e⟩:=Ey hP.gl a hp;rw[e];obtain⟨q,h1,h2⟩:=H6 hr;have k1:=ih _ _ h1 Z ow h argc s hx hl;cases q with
      |ok=>cases h2
      |itr=>cases h2
      | pan v K' =>
       cases h2;obtain⟨Z',ow',h',vc,e,b2,b3,b4,b5,b6⟩:=k1;rw[e];exact⟨Z',ow',h',vc,rfl,b2,b4,b3 _,b5,b6.e hx⟩
      | val vs K' =>
       obtain⟨Z',ow',h',vcs,e,b2,b3,b4,b5⟩:=k1;rw[e];refine C1.next s hx (v:=oneOrTup vs) ⟨rfl,b2,b3,b5.one,b4⟩ fun s' hx'=>?_
       exact ih _ _ h2 nt Z' ow' h' _ s' hx' ((a.keep (b4 0).zz b3).setd hd1 b5.one) hd2
 | opsD l fr K =>
  intro nt Z ow h frc d s hx a hd hdd;cases l with
  |nil=>cases hr;exact⟨Z,ow,h,frc,rfl,s,a,.refl _ _ _ _ _,hx,.refl _ _ _⟩
  | cons o l =>
   obtain⟨hd1,hd2⟩:=dst_cons hd;have hdd2:d=[]\/a8 l=true:=hdd.imp id fun e=>(Bf e).2
   rw[Np];dsimp only at hr;cases hg:guardP o.gd fr with
   |none=>rw[hg]at hr;cases hr
   | some b =>
    rw[hg]at hr;rw[Fa a hg];cases b with
    |false=>exact ih _ _ hr nt Z ow h _ d s hx (a.setd hd1 vr_skipped) hd2 hdd2
    | true =>
     dsimp only at hr;show C1 _ _ _ _ _ (M8 o.dst (evOpsD P.E (callω P.E) l) (virtD P.E (callω P.E) l o.late (setDst o.dst skipped frc) h d) frc (evOpD P.E (callω P.E) o frc h d)) r
     cases hq:o.quiet with
     | false =>
      rw[hq]at hr;dsimp only at hr;rw[fV hq hdd];cases hp:prim P.E o.op fr K with
      |bad=>rw[hp]at hr;cases hr
      | val v K' =>
       rw[hp]at hr;obtain⟨ow',vc,h',dd⟩:=Bd hP.gl hP.ti s hx a hp (callω P.E);rw[dd.r];refine C1.next s hx (v:=v) dd.two fun s' hx'=>?_
       exact ih _ _ hr nt Z ow' h' _ d s' hx' ((a.keep (dd.sp 0).zz dd.kp).setd hd1 dd.vr) hd2 hdd2
      | pan v =>
       rw[hp]at hr;dsimp only at hr;split at hr
       . rename_i hlt
         cases hr;obtain⟨vc,hv,e⟩:=fM hP.gl a hp;rw[e,Fb hP.gl hP.ti l s hx (a.setd hd1 vr_skipped) hd2 hdd2 hlt];exact⟨Z,ow,h,vc,rfl,s,hv,.refl _ _ _ _ _,hx,.refl _ _ _⟩
       . cases hr
      | call f args =>
       rw[hp]at hr;obtain⟨argc,hl,e⟩:=Ey hP.gl a hp;rw[e];obtain⟨q,h1,h2⟩:=H6 hr;have k1:=ih _ _ h1 Z ow h argc s hx hl;cases q with
       |ok=>cases h2
       |itr=>cases h2
       | pan v K' =>
        dsimp only at h2;split at h2
        . rename_i hlt
          cases h2;obtain⟨Z',ow',h',vc,e,b2,b3,b4,b5,b6⟩:=k1;rw[e,Fb hP.gl hP.ti l s hx (a.setd hd1 vr_skipped) hd2 hdd2 hlt];exact⟨Z',ow',h',vc,rfl,b2,b4,b3 _,b5,b6.e hx⟩
        . cases h2
       | val vs K' =>
        obtain⟨Z',ow',h',vcs,e,b2,b3,b4,b5⟩:=k1;rw[e];refine C1.next s hx (v:=oneOrTup vs) ⟨rfl,b2,b3,b5.one,b4⟩ fun s' hx'=>?_
        exact ih _ _ h2 nt Z' ow' h' _ d s' hx' ((a.keep (b4 0).zz b3).setd hd1 b5.one) hd2 hdd2
     | true =>
      rw[hq]at hr;dsimp only at hr;have s0:F6 Z ow {h with tch:=[]} ({K with tch:=[]}:PK).os:=s.congr rfl (fun _=>rfl);have a0:FrR Z ow {h with tch:=[]} ({K with tch:=[]}:PK).os nt frc fr:=a.keep (fun _ hz=>⟨hz,rfl⟩) (.refl _ _);have hx0:({K with tch:=[]}:PK).ext<=({K with tch:=[]}:PK).os.length:=hx;cases hp:prim P.E o.op fr {K with tch:=[]}with
      |bad=>rw[hp]at hr;cases hr
      |pan v=>rw[hp]at hr;cases hr
      | val v K1 =>
       rw[hp]at hr;dsimp only at hr;obtain⟨ow',vc,h',dd⟩:=Bd hP.gl hP.ti s0 hx0 a0 hp (callω P.E);split at hr
       . rename_i ht
         obtain⟨h2,d2,e,dd2,hd3⟩:=Xy hq s hdd (r:=v) dd.two ht;rw[e];refine C1.next s hx (v:=v) dd2 fun s' hx'=>?_
         exact ih _ _ hr nt Z ow' h2 _ d2 s' hx' ((a.keep (dd2.sp 0).zz dd2.kp).setd hd1 dd2.vr) hd2 hd3
       . rename_i ht
         obtain⟨h2,d2,e,dd2,hrd⟩:=Hq (l:=l) hq s hdd (r:=v) dd.two;rw[e];have hd0:d=[]\/a8 l=true:=hdd2;refine C1.next s hx (v:=v) dd2 fun s' hx'=>?_
         exact ih _ _ hr nt Z ow' h2 _ d2 [(⟨K.os,0,K1.tch⟩,ow)] s' hx' ((a.keep (dd2.sp 0).zz dd2.kp).setd hd1 dd2.vr) hd2 rfl (fun c hc=>⟨_,zqh ..,hrd (hd0.resolve_right (fW ht)) c hc⟩) (fun p hp=>by rw[zqs.1 hp];exact dd2.kp)
      | call f args =>
       rw[hp]at hr;obtain⟨argc,hl,e⟩:=Ey hP.gl a0 hp;obtain⟨q,h1,h2⟩:=H6 hr;have k1:=ih _ _ h1 Z ow {h with tch:=[]} argc s0 hx0 hl;cases q with
       |ok=>cases h2
       |itr=>cases h2
       | pan v K1 =>
        dsimp only at h2;split at h2
        . rename_i hlt
          cases h2;obtain⟨Z',ow',h',vc,e1,b2,b3,b4,b5,b6⟩:=k1;have e2:evOpD P.E (callω P.E) o frc h d=.pan vc {h' with tch:=Ad (H2 h.next h'.tch) h.tch}:=by
           unfold evOpD;rw[hq];show n7 h.next h.tch d (evOp P.E (callω P.E) o.op frc {h with tch:=[]})=_
           rw[e,e1];rfl
          rw[e2,Fb hP.gl hP.ti l s hx (a.setd hd1 vr_skipped) hd2 hdd2 hlt];exact⟨Z',ow',_,vc,rfl,b2.congr rfl (fun _=>rfl),b4.keep (fun _ hz=>⟨hz,rfl⟩) (.refl _ _),Mj (b3 _),b5,b6.e hx⟩
        . cases h2
       | val vs K1 =>
        dsimp only at h2;obtain⟨Z',ow',h',vcs,e1,b2,b3,b4,b5⟩:=k1;split at h2
        . rename_i ht
          obtain⟨h3,d2,e2,dd2,hd3⟩:=Xy hq s hdd (r:=oneOrTup vs) (v:=oneOrTup vs) ⟨(e (callω P.E)).trans e1,b2,b3,b5.one,b4⟩ ht;rw[e2];refine C1.next s hx (v:=oneOrTup vs) dd2 fun s' hx'=>?_
          exact ih _ _ h2 nt Z' ow' h3 _ d2 s' hx' ((a.keep (dd2.sp 0).zz dd2.kp).setd hd1 dd2.vr) hd2 hd3
        . rename_i ht
          obtain⟨h3,d2,e2,dd2,hrd⟩:=Hq (l:=l) hq s hdd (r:=oneOrTup vs) (v:=oneOrTup vs) ⟨(e (callω P.E)).trans e1,b2,b3,b5.one,b4⟩;rw[e2];refine C1.next s hx (v:=oneOrTup vs) dd2 fun s' hx'=>?_
          exact ih _ _ h2 nt Z' ow' h3 _ d2 [(⟨K.os,0,K1.tch⟩,ow)] s' hx' ((a.keep (dd2.sp 0).zz dd2.kp).setd hd1 dd2.vr) hd2 rfl (fun c hc=>⟨_,zqh ..,hrd (hdd2.resolve_right (fW ht)) c hc⟩) (fun p hp=>by rw[zqs.1 hp];exact dd2.kp)
 | opsS S l fr K =>
  intro nt Z ow h frc d ws s hx a hd hws sf kp0;subst hws;cases l with
  |nil=>cases hr;exact⟨Z,ow,h,frc,rfl,s,a,.refl _ _ _ _ _,hx,.refl _ _ _⟩
  | cons o l =>
   obtain⟨hd1,hd2⟩:=dst_cons hd;rw[Np];dsimp only at hr;cases hg:guardP o.gd fr with
   |none=>rw[hg]at hr;cases hr
   | some b =>
    rw[hg]at hr;rw[Fa a hg];cases b with
    |false=>exact ih _ _ hr nt Z ow h _ d ws s hx (a.setd hd1 vr_skipped) hd2 rfl sf kp0
    | true =>
     dsimp only at hr;show C1 _ _ _ _ _ (M8 o.dst (evOpsD P.E (callω P.E) l) (virtD P.E (callω P.E) l o.late (setDst o.dst skipped frc) h d) frc (evOpD P.E (callω P.E) o frc h d)) r
     cases hq:o.quiet with
     | true =>
      rw[hq]at hr;dsimp only at hr;have s0:F6 Z ow {h with tch:=[]} ({K with tch:=[]}:PK).os:=s.congr rfl (fun _=>rfl);have a0:FrR Z ow {h with tch:=[]} ({K with tch:=[]}:PK).os nt frc fr:=a.keep (fun _ hz=>⟨hz,rfl⟩) (.refl _ _);have hx0:({K with tch:=[]}:PK).ext<=({K with tch:=[]}:PK).os.length:=hx;cases hp:prim P.E o.op fr {K with tch:=[]}with
      |bad=>rw[hp]at hr;cases hr
      |pan v=>rw[hp]at hr;cases hr
      |call f args=>rw[hp]at hr;cases hr
      | val v K1 =>
       rw[hp]at hr;dsimp only at hr;obtain⟨ow',vc,h',dd⟩:=Bd hP.gl hP.ti s0 hx0 a0 hp (callω P.E);obtain⟨h2,d2,e,dd2,sf2⟩:=jV hq s sf dd.two;rw[e];refine C1.next s hx (v:=v) dd2 fun s' hx'=>?_
       exact ih _ _ hr nt Z ow' h2 _ d2 ((⟨K.os,0,K1.tch⟩,ow)::ws) s' hx' ((a.keep (dd2.sp 0).zz dd2.kp).setd hd1 dd2.vr) hd2 rfl sf2 (fun p hp=>by
        rcases zqi.1 hp with rfl|hp
        . exact dd2.kp
        . exact(kp0 p hp).trans dd2.kp)
     |false =>
     rw[hq]at hr;dsimp only at hr;split at hr
     . rename_i hcare
       rw[vN hP.gl a hq sf kp0 hcare];cases hp:prim P.E o.op fr K with
       |bad=>rw[hp]at hr;cases hr
       |pan=>rw[hp]at hr;cases hr
       | val v K' =>
        rw[hp]at hr;obtain⟨ow',vc,h',dd⟩:=Bd hP.gl hP.ti s hx a hp (callω P.E);rw[dd.r];refine C1.next s hx (v:=v) dd.two fun s' hx'=>?_
        exact ih _ _ hr nt Z ow' h' _ d ws s' hx' ((a.keep (dd.sp 0).zz dd.kp).setd hd1 dd.vr) hd2 rfl sf (fun p hp=>(kp0 p hp).trans dd.kp)
       | call f args =>
        rw[hp]at hr;obtain⟨argc,hl,e⟩:=Ey hP.gl a hp;rw[e];obtain⟨q,h1,h2⟩:=H6 hr;have k1:=ih _ _ h1 Z ow h argc s hx hl;cases q with
        |ok=>cases h2
        |itr=>cases h2
        |pan=>cases h2
        | val vs K' =>
         obtain⟨Z',ow',h',vcs,e,b2,b3,b4,b5⟩:=k1;rw[e];refine C1.next s hx (v:=oneOrTup vs) ⟨rfl,b2,b3,b5.one,b4⟩ fun s' hx'=>?_
         exact ih _ _ h2 nt Z' ow' h' _ d ws s' hx' ((a.keep (b4 0).zz b3).setd hd1 b5.one) hd2 rfl sf (fun p hp=>(kp0 p hp).trans b3)
     . cases hr
 | call f args K =>
  intro Z ow h argc s hx hl;dsimp only at hr;cases hT:P.T f with
  | some g =>
   rw[hT]at hr;dsimp only at hr;cases ht:tcall g args K with
   |none=>rw[ht]at hr;cases hr
   | some q =>
    obtain⟨vs,K'⟩:=q;rw[ht]at hr;cases hr;exact vJ (hP.T f g hT) s hx hl ht
  | none =>
   rw[hT]at hr;dsimp only at hr;cases hin:inpOf (P.fn f)with
   | true =>
    rw [hin]at hr;obtain⟨q,h1,h2⟩:=H6 hr;have k1:=ih _ _ h1 Z ow h argc s (zkb _) hl;have stp:∀{Z':Nat->Prop}{ow':Nat->Option (List Nat)}{h':Heap}{K1:PK},Stp K.os.length Z ow h ⟨K.os,K.os.length,[]⟩ Z' ow' h' K1->∀b,Stp b Z ow h K Z' ow' h' ⟨K1.os,K.ext,K1.tch++K.tch⟩:=fun{Z' ow' h' K1} sb b=>by
     obtain⟨l0,f1,f2⟩:=sb.th;refine⟨sb.nx,sb.zz,sb.zn,sb.un,sb.uo,⟨l0,f1,fun id hi=>?_⟩,fun id r t ho hr=>?_,fun r hr _=>zqk.2 (.inr hr),rfl,fun j hj=>sb.xk j (zkc hj hx),fun j hj=>sb.rd j (zkc hj hx)⟩
     . rcases f2 id hi with h|⟨r,t,q1,q2⟩
       . exact .inl h
       . obtain⟨_,_,r',t',q3,q4⟩:=s.live id _ q1
         cases q3;exact .inr ⟨r,t,q1,fun _=>zqk.2 (.inl (q2 (isRt_lt q4)))⟩
     . rcases sb.mv id r t ho (zkc hr hx)with h|h
       . exact .inl h
       . exact .inr (zqk.2 (.inl h))
    have kp:∀{ow':Nat->Option (List Nat)}{K1:PK},K1.ext=K.os.length->K1.ext<=K1.os.length->Y0 K.os.length ow K.os ow' K1.os->Keep' ow K.os ow' K1.os:=fun{ow' K1} e1 e2 e3=>⟨by rw[<-e1];exact e2,e3⟩
    cases q with
    |ok=>cases h2
    |itr=>cases h2
    | val vs K1 =>
     cases h2;obtain⟨Z',ow',h',vcs,e,b2,b3,b4,b5,b6⟩:=k1;exact⟨Z',ow',h',vcs,e,b2,kp (K1:=K1) b3.ex b6 b5,stp b3,b4⟩
    | pan v K1 =>
     cases h2;obtain⟨Z',ow',h',vc,e,b2,b3,b4,b5,b6⟩:=k1;exact⟨Z',ow',h',vc,e,b2,stp b3,b4,zkf hx (by have:=b3.ex;show K.os.length<=K1.os.length;have h0:K1.ext=K.os.length:=this;omega),kp (K1:=K1) b3.ex b5 b6⟩
   | false =>
    rw [hin]at hr;obtain⟨q,h1,h2⟩:=H6 hr;have hn:(focusIds args K).Nodup:=(Ac (fun id=>bB K.os[id]?) 64 (refsL args) [] List.nodup_nil).1;obtain⟨s1,hren⟩:=Uf s hn (f:=cutPO) (os':=(focusK (focusIds args K) K).os) (fun e=>by
     cases e with
     |sub p i o=>exact .inr ⟨⟨p,i,o,rfl⟩,rfl⟩
     |_=>exact .inl rfl) rfl
    have hx1:(focusK (focusIds args K) K).ext<=(focusK (focusIds args K) K).os.length:=by
     show(focusIds args K).length<=((focusIds args K).map _).length
     simp
    have k1:=ih _ _ h1 Z _ h argc s1 hx1 (hl.ren (fun _ hz=>⟨hz,rfl⟩) hren);cases q with
    |ok=>cases h2
    |itr=>cases h2
    | val vs K1 =>
     dsimp only at h2;obtain⟨Z',ow',h',vcs,e,b2,b3,b4,_,_⟩:=k1;cases hm:mergeK (focusIds args K) K K1 with
     |none=>rw[hm]at h2;cases h2
     | some K' =>
      rw[hm]at h2;cases h2;obtain⟨ow2,c1,c2,c3,c4⟩:=fO s hx hn b2 b3 hm;exact⟨Z',ow2,h',vcs,e,c1,c2,c3,b4.ren (fun _ hz=>⟨hz,rfl⟩) c4⟩
    | pan v K1 =>
     dsimp only at h2;obtain⟨Z',ow',h',vc,e,b2,b3,b4,_⟩:=k1;cases hm:mergeK (focusIds args K) K K1 with
     |none=>rw[hm]at h2;cases h2
     | some K' =>
      rw[hm]at h2;cases h2;obtain⟨ow2,c1,c2,c3,c4⟩:=fO s hx hn b2 b3 hm;exact⟨Z',ow2,h',vc,e,c1,c3,b4.ren (fun _ hz=>⟨hz,rfl⟩) c4,Eg hx c2 (c3 0).ex,c2⟩
 | body f args K =>
  intro Z ow h argc s hx hl;dsimp only at hr;cases hf:P.fn f with
  |none=>rw[hf]at hr;cases hr
  | some p =>
   rw[hf]at hr;dsimp only at hr;split at hr
   . rename_i hn
     have F:=hP.fn f p hf;obtain⟨q,h1,h2⟩:=H6 hr;obtain⟨rc,er,k1⟩:∃rc,callω P.E f argc h=H7 P.E p.rs rc/\C1 Z ow h K p.nt rc q:=by
      have hen:=Mh hl hn F.nt;have hok:=F.ok;have hfn:=F.fn;rcases bodyJ_or p.code with⟨x,a,g,c,e⟩|⟨x,d,d2,c,e⟩|⟨e1,e2⟩
      . rw[e]at h1 hok hfn
        obtain⟨rc,k1,k2⟩:=ih _ _ h1 p.nt Z ow h _ s hx hen hok;exact⟨rc,(vL F.gc F.told F.dlf F.srt hfn (by rw[hl.1];exact hn)).trans (k1 _),k2⟩
      . rw[e]at h1
        have k1:=ih _ _ h1 Z ow h .und .und s hx .und .und;cases q with
        |ok _ _ K'=>obtain⟨_,_,_,k2,_⟩:=k1;cases k2
        |_=>cases k1
      . rw[e1]at h1
        exact⟨_,vK e2 F.gc F.told F.dlf F.srt F.fn (by rw[hl.1];exact hn),ih _ _ h1 p.nt Z ow h _ s hx hen hok⟩
     rw[er];cases q with
     |val=>cases h2
     |itr=>cases h2
     | pan v K' =>
      cases h2;obtain⟨Z',ow',h',vc,e,b2,b3,b4,b5⟩:=k1;rw[e];exact⟨Z',ow',h',vc,rfl,b2,b4,b3,b5⟩
     | ok e fr' K' =>
      obtain ⟨Z',ow',h',frc',e1,b2,b3,b4,b5,b6⟩:=k1;rw[e1];have fin:(∀q,resP P.E p.rs fr' K'=some q->r=.val q.1 q.2)->resP P.E p.rs fr' K'≠none->mD Z ow h K (Ig (E8 P.E p.rs frc' h') h') r:=fun hq hne=>by
       cases hv:resP P.E p.rs fr' K' with
       |none=>exact absurd hv hne
       | some q =>
        obtain⟨vs,K2⟩:=q;obtain rfl:=hq _ hv;obtain⟨vcs,c1,c2,c3,c4,c5⟩:=bJ p.rs b2 b5 b3 hv;rw[c1];exact⟨Z',ow',h',vcs,rfl,c2,b4.trans s c4,c5,b6.trans (c3.e (by rw[<-b4.ex];exact b5)),Eg b5 c3 c4.ex⟩
      cases e with
      |exit i=>cases h2
      | normal =>
       dsimp only at h2;cases hv:resP P.E p.rs fr' K' with
       |none=>rw[hv]at h2;cases h2
       |some q=>rw[hv]at h2;cases h2;exact fin (fun q' hq'=>by rw[hv]at hq';cases hq';rfl) (by rw[hv];intro e;cases e)
      | ret =>
       dsimp only at h2;cases hv:resP P.E p.rs fr' K' with
       |none=>rw[hv]at h2;cases h2
       |some q=>rw[hv]at h2;cases h2;exact fin (fun q' hq'=>by rw[hv]at hq';cases hq';rfl) (by rw[hv];intro e;cases e)
   . cases hr
end
section
variable {E:Env}{P:PE}{R:AV->AV->Prop}{Z Z' Z1:Nat->Prop}{ow ow' ow1:Nat->Option (List Nat)}{h h' h1:Heap}{K K' K1:PK}{os os' ps:List PO}{x y xc yc v k:AV}{L M:List Nat}
noncomputable def S3(c r:AV)(os:List PO):AV×List PO:=match c with
 | .nilsl=>(match ownOf r with|some (0,[],sz)=>(.msl os.length 0 0 sz,os++[.row 0 [] sz])|_=>(c,os))
 |_=>(c,os)
noncomputable def L4:List AV->List AV->List PO->List AV×List PO
 |[],_,os=>([],os)
 |c::cs,[],os=>(c::cs,os)
 |c::cs,r::rs,os=>((S3 c r os).1::(L4 cs rs (S3 c r os).2).1,(L4 cs rs (S3 c r os).2).2)
noncomputable def b9(v r:AV)(os:List PO):AV×List PO:=(N7 v (L4 v.cells r.cells os).1,(L4 v.cells r.cells os).2)
noncomputable def Q5:List AV->List AV->List PO->List AV×List PO
 |[],_,os=>([],os)
 |c::cs,[],os=>(c::cs,os)
 |c::cs,r::rs,os=>((b9 c r os).1::(Q5 cs rs (b9 c r os).2).1,(Q5 cs rs (b9 c r os).2).2)
structure backOk(vs rs:List AV)(os:List PO):Prop where
 nd:(refsL (Q5 vs rs os).1).Nodup
 vl:renL (posOf (refsL (Q5 vs rs os).1)) (Q5 vs rs os).1=(openTs 0 rs).1
 ol:(refsL (Q5 vs rs os).1).map (fun id=>renPO (posOf (refsL (Q5 vs rs os).1)) (entryAt (Q5 vs rs os).2 id))=(openTs 0 rs).2
theorem pO(s:F6 Z ow h os)(sz:Nat):F6 Z ow h (os++[.row 0 [] sz])/\Keep' ow os ow (os++[.row 0 [] sz])/\VR Z ow h (os++[.row 0 [] sz]) .nilsl (.msl os.length 0 0 sz):=by
 have hno:∀c t,ow c≠some (os.length::t):=fun c t e=>by
  obtain⟨_,_,r,t',h1,h2⟩:=s.live c _ e;cases h1;exact absurd (isRt_lt h2) (Nat.lt_irrefl _)
 have hk:Keep' ow os ow (os++[.row 0 [] sz]):=Kd s.sb fun _ _ _ _ _=>.rfl
 have hpt:PT (VR Z ow h os) Z ow h (os++[.row 0 [] sz]):=s.new (.row 0 [] sz) (zkb _) (fun _ _=>rfl) (fun _ _ _=>rfl) (fun _ _ _=>.rfl) (fun a b t ha _=>absurd ha (hno a t)) (fun d t hd=>absurd hd (hno d t))
  (by simp_all[isRt])
  (fun es z e=>by cases e;exact⟨.nilsl,.nil (.inl rfl) (fun c t=>hno c t)⟩) (by grind) (fun es e=>by cases e)
 refine⟨F6.to hpt (fun _ hz=>⟨hz,rfl⟩) hk,hk,.mnil (.inl rfl) (fun L hL c hc=>?_) (by simp)⟩;grind[loP]
theorem pP(s:F6 Z ow h os)(a:VR Z ow h os x y)(r:AV):F6 Z ow h (S3 y r os).2/\Keep' ow os ow (S3 y r os).2/\VR Z ow h (S3 y r os).2 x (S3 y r os).1:=by
 have same:∀q:AV×List PO,q=(y,os)->F6 Z ow h q.2/\Keep' ow os ow q.2/\VR Z ow h q.2 x q.1:=fun q e=>by subst e;exact⟨s,.refl _ _,a⟩
 unfold S3;split
 . split
   . rename_i sz _
     rw[a.isN];exact pO s sz
   grind
 grind
theorem Hr:∀(ys xs rs:List AV)(os:List PO),F6 Z ow h os->VL Z ow h os xs ys->F6 Z ow h (L4 ys rs os).2/\Keep' ow os ow (L4 ys rs os).2/\VL Z ow h (L4 ys rs os).2 xs (L4 ys rs os).1
 |[],xs,rs,os,s,l=>⟨s,.refl _ _,l⟩
 |c::cs,xs,[],os,s,l=>⟨s,.refl _ _,l⟩
 |c::cs,[],r::rs,os,s,l=>by cases l.1
 | c::cs,x::xs,r::rs,os,s,l=>by
  obtain⟨l1,l2⟩:=l.inv;obtain⟨a1,a2,a3⟩:=pP s l1 r;obtain⟨b1,b2,b3⟩:=Hr cs xs rs (S3 c r os).2 a1 (l2.keep (fun _ hz=>⟨hz,rfl⟩) a2);exact⟨b1,a2.trans b2,.cons (a3.keep (fun _ hz=>⟨hz,rfl⟩) b2) b3⟩
theorem Nq:∀(ys rs:List AV)(os:List PO),(L4 ys rs os).1.length=ys.length
 |[],rs,os=>rfl
 |c::cs,[],os=>rfl
 |c::cs,r::rs,os=>congrArg (· + 1) (Nq cs rs _)
theorem pQ(s:F6 Z ow h os)(a:VR Z ow h os x y)(r:AV):F6 Z ow h (b9 y r os).2/\Keep' ow os ow (b9 y r os).2/\VR Z ow h (b9 y r os).2 x (b9 y r os).1:=by
 unfold b9;cases hy:isAg y with
 | true =>
  cases y<;>first|(cases hy;done)|skip
  obtain⟨xs,rfl,l⟩:=a.agI;obtain⟨b1,b2,b3⟩:=Hr _ xs r.cells os s l;exact⟨b1,b2,.agL b3⟩
 | false =>
  obtain⟨b1,b2,b3⟩:=Hr y.cells [x] r.cells os s (by rw[C4 hy];exact .cons a .nil);refine⟨b1,b2,?_⟩;have hl:=Nq y.cells r.cells os;rw[C4 hy]at hl b3|-;obtain⟨c,hc⟩:=zka.1 hl
  have:N7 y (L4 [y] r.cells os).1=c:=by
   rw[hc];cases y<;>first|rfl|cases hy
  rw[this];rw[hc]at b3;exact b3.inv.1
theorem Xz:∀(ys xs rs:List AV)(os:List PO),F6 Z ow h os->VL Z ow h os xs ys->F6 Z ow h (Q5 ys rs os).2/\Keep' ow os ow (Q5 ys rs os).2/\VL Z ow h (Q5 ys rs os).2 xs (Q5 ys rs os).1
 |[],xs,rs,os,s,l=>⟨s,.refl _ _,l⟩
 |c::cs,xs,[],os,s,l=>⟨s,.refl _ _,l⟩
 |c::cs,[],r::rs,os,s,l=>by cases l.1
 | c::cs,x::xs,r::rs,os,s,l=>by
  obtain⟨l1,l2⟩:=l.inv;obtain⟨a1,a2,a3⟩:=pQ s l1 r;obtain⟨b1,b2,b3⟩:=Xz cs xs rs (b9 c r os).2 a1 (l2.keep (fun _ hz=>⟨hz,rfl⟩) a2);exact⟨b1,a2.trans b2,.cons (a3.keep (fun _ hz=>⟨hz,rfl⟩) b2) b3⟩
theorem zB(s:F6 Z ow h os){vcs vs rs:List AV}(l:VL Z ow h os vcs vs)(b:backOk vs rs os):∃ow',F6 Z ow' h (openTs 0 rs).2/\VL Z ow' h (openTs 0 rs).2 vcs (openTs 0 rs).1/\∀id L,ow' id=some L->ow id≠none:=by
 obtain⟨a1,a2,a3⟩:=Xz vs vcs rs os s l;obtain⟨c1,c2⟩:=Uf a1 b.nd (f:=id) (fun e=>.inl rfl) (os':=(openTs 0 rs).2) b.ol.symm;refine⟨_,c1,?_,fun d M hd e=>?_⟩
 . rw[<-b.vl];exact a3.ren (fun _ hz=>⟨hz,rfl⟩) c2
 grind[D5]
def K0:PK:=⟨[],0,[]⟩
theorem LF(hb:∀id,Z id->id<h.next):F6 Z (fun _=>none) h [] where
 row r es sz hr:=by simp at hr
 raw r k es sz hr:=by simp at hr
 map r es hr:=by simp at hr
 inj a b L ha:=by cases ha
 live a L ha:=by cases ha
 zb:=hb
 sb j p i o hj:=by simp at hj
def refine1(y:AV):List AV:=match y with | .fsl [] true=>[.nilsl,.fsl [] false]|y=>[y]
theorem Fz.refine(f:Fz Z h x y):∃y'∈refine1 y,Fz Z h x y':=by
 have same:∀{y:AV},refine1 y=[y]->Fz Z h x y->∃y'∈refine1 y,Fz Z h x y':=(by grind)
 cases f with
 | emp e =>
  cases e with
  |nil=>exact⟨.nilsl,.head _,.nilsl⟩
  |fsl=>exact⟨.fsl [] false,.tail _ (.head _),.fsl rfl (fun i x y hx=>by simp at hx) rfl⟩
 | fsl h1 h2 h3 =>
  rename_i es es' f f';cases es' with
  | nil=>cases f' with
   |true=>exact⟨.fsl [] false,.tail _ (.head _),.fsl h1 h2 h3⟩
   |false=>exact same rfl (.fsl h1 h2 h3)
  |cons=>exact same rfl (.fsl h1 h2 h3)
 | view h1 h2 h3 h4 h5 h6 =>
  rename_i id off n sz row es' f';cases es' with
  | nil=>cases f' with
   |true=>exact⟨.fsl [] false,.tail _ (.head _),.view h1 h2 h3 h4 h5 h6⟩
   |false=>exact same rfl (.view h1 h2 h3 h4 h5 h6)
  |cons=>exact same rfl (.view h1 h2 h3 h4 h5 h6)
 |int k n=>exact same rfl (.int k n)
 |bool b=>exact same rfl (.bool b)
 |str b=>exact same rfl (.str b)
 |nilsl=>exact same rfl .nilsl
 |nilptr=>exact same rfl .nilptr
 |nilmap=>exact same rfl .nilmap
 |nilfn=>exact same rfl .nilfn
 |niliface=>exact same rfl .niliface
 |agg h1 h2 h3=>exact same rfl (.agg h1 h2 h3)
 |fptr o f=>exact same rfl (.fptr o f)
 |pview h1 h2 h3 f=>exact same rfl (.pview h1 h2 h3 f)
def Comes(P:PE)(f:Nat)(args rs:List AV):Prop:=∃vs K1,evP P (.body f args K0)=some (.val vs K1)/\backOk vs rs K1.os
theorem Eh(hP:PEok P){f:Nat}{args rs:List AV}(H:Comes P f args rs){xs:List AV}(hl:xs.length=args.length)(hz:∀(i:Nat) x y,xs[i]?=some x->args[i]?=some y->Fz Z h x y)(hb:∀id,Z id->id<h.next):
 ∃(vcs:List AV)(h1:Heap)(Z1:Nat->Prop)(ow1:Nat->Option (List Nat)),callω P.E f xs h=.ok (oneOrTup vcs) h1/\F6 Z1 ow1 h1 (openTs 0 rs).2/\VL Z1 ow1 h1 (openTs 0 rs).2 vcs (openTs 0 rs).1/\
 h.next<=h1.next/\(∀id,Z id->Z1 id/\h1.get id=h.get id)/\(∀id,Z1 id->Z id\/h.next<=id)/\(∀id,id<h.next->h1.get id=h.get id)/\(∀id L,ow1 id=some L->h.next<=id)/\∃l,h1.tch=l++h.tch/\∀id∈l,h.next<=id:=by
 obtain⟨vs,K1,e,bk⟩:=H;obtain⟨Z',ow',h',vcs,e1,b2,b3,b4,_,_⟩:=LD hP _ _ e Z (fun _=>none) h xs (LF hb) (zkb _) ⟨hl,fun i x y hx hy=>.fz (hz i x y hx hy)⟩;obtain⟨ow2,c1,c2,c3⟩:=zB b2 b4 bk;refine⟨vcs,h',Z',ow2,e1,c1,c2,b3.nx,b3.zz,b3.zn,fun id hl=>b3.un id hl rfl,fun id L ho=>?_,?_⟩
 . by_cases hlt:id<h.next
   . cases e2:ow' id with
     |none=>grind
     |some M=>exact absurd rfl (b3.uo id M e2 hlt)
   . omega
 . obtain⟨l,q1,q2⟩:=b3.th
   grind
theorem LG(hP:PEok P){f:Nat}{g:List AV->Option (List AV)}(H:∀args rs,g args=some rs->Comes P f args rs):TC P.E f g:=
 fun args rs hg Z h xs hl hz hb=>Eh hP (H args rs hg) hl hz hb
theorem EE(hP:PEok P){f:Nat}{g:List AV->Option (List AV)}(H:∀a args rs,g (a::args)=some rs->∀a'∈refine1 a,Comes P f (a'::args) rs)(H0:g []=none):TC P.E f g:=by
 intro args rs hg Z h xs hl hz hb;cases args with
 |nil=>grind
 | cons a args =>
  cases xs with
  |nil=>cases hl
  | cons x xs =>
   obtain⟨a',h1,h2⟩:=(hz 0 x a rfl rfl).refine;refine Eh hP (H a args rs hg a' h1) hl (fun i u w hu hw=>?_) hb;grind
end
noncomputable section
variable {E:Env}{T:Nat->Option (List AV->Option (List AV))}{F:Nat->Option PFn}{fr:PF}{K K':PK}{v:AV}{vs:List AV}
def pR(P:PE)(b:PC)(r:Option PR):Option PR:=match r with
 |some (.ok .normal fr K)=>evP P (.code b fr K)
 |some (.val _ _)=>none
 |some (.itr _ _ _ _)=>none
 |r=>r
theorem seqP_normal(P:PE)(b:PC):pR P b (some (.ok .normal fr K))=evP P (.code b fr K):=rfl
theorem seqP_exit(P:PE)(b:PC)(i:Nat):pR P b (some (.ok (.exit i) fr K))=some (.ok (.exit i) fr K):=rfl
theorem seqP_ret(P:PE)(b:PC):pR P b (some (.ok .ret fr K))=some (.ok .ret fr K):=rfl
theorem seqP_pan(P:PE)(b:PC):pR P b (some (.pan v K))=some (.pan v K):=rfl
theorem e_seq(P:PE)(a b:PC):evP P (.code (.seq a b) fr K)=pR P b (evP P (.code a fr K)):=by
 rw[evP];cases evP P (.code a fr K)with
 |none=>rfl
 | some r=>cases r with
  |ok e fr K=>cases e<;>rfl
  |val=>rfl
  |pan=>rfl
  |itr=>rfl
theorem e_skip(P:PE):evP P (.code .skip fr K)=some (.ok .normal fr K):=by rw[evP]
theorem e_exit(P:PE)(i:Nat):evP P (.code (.exit i) fr K)=some (.ok (.exit i) fr K):=by rw[evP]
theorem e_ret(P:PE):evP P (.code .ret fr K)=some (.ok .ret fr K):=by rw[evP]
theorem e_reg(P:PE)(l:List XOp):evP P (.code (.reg false l) fr K)=evP P (.ops l fr K):=by rw[evP]
theorem e_regD(P:PE)(l:List XOp):evP P (.code (.reg true l) fr K)=evP P (.opsD l fr K):=by rw[evP]
theorem e_pre(P:PE)(k:List Nat)(c:PC):evP P (.code (.pre k c) fr K)=evP P (.code c (M4 k fr K).1 (M4 k fr K).2):=by rw[evP]
def vO(P:PE)(a b:PC)(x:AV)(fr:PF)(K:PK):Option PR:=match x with | .bool true=>evP P (.code a fr K) | .bool false=>evP P (.code b fr K)|_=>none
theorem e_cond(P:PE)(c:Operand)(a b:PC):evP P (.code (.cond c a b) fr K)=vO P a b (opvP P.E c fr) fr K:=by rw[evP];rfl
theorem condP_true(P:PE)(a b:PC):vO P a b (.bool true) fr K=evP P (.code a fr K):=rfl
theorem condP_false(P:PE)(a b:PC):vO P a b (.bool false) fr K=evP P (.code b fr K):=rfl
def vP(i:Nat)(r:Option PR):Option PR:=match r with
 |some (.ok (.exit j) fr K)=>if j=i then some (.ok .normal fr K)else some (.ok (.exit j) fr K)
 |some (.val _ _)=>none
 |some (.itr _ _ _ _)=>none
 |r=>r
theorem blkP_normal(i:Nat):vP i (some (.ok .normal fr K))=some (.ok .normal fr K):=rfl
theorem blkP_exit(i j:Nat):vP i (some (.ok (.exit j) fr K))=if j=i then some (.ok .normal fr K)else some (.ok (.exit j) fr K):=rfl
theorem blkP_ret(i:Nat):vP i (some (.ok .ret fr K))=some (.ok .ret fr K):=rfl
theorem blkP_pan(i:Nat):vP i (some (.pan v K))=some (.pan v K):=rfl
theorem e_block(P:PE)(i:Nat)(c:PC):evP P (.code (.block i c) fr K)=vP i (evP P (.code c fr K)):=by
 rw[evP];cases evP P (.code c fr K)with
 |none=>rfl
 | some r=>cases r with
  |ok e fr K=>cases e<;>rfl
  |val=>rfl
  |pan=>rfl
  |itr=>rfl
def fX(k:List Nat)(r:Option PR):Option PR:=match r with
 |some (.ok .normal fr K)=>some (.ok .normal (M4 k fr K).1 (M4 k fr K).2)
 |some (.val _ _)=>none
 |some (.itr _ _ _ _)=>none
 |some (.pan v K)=>some (.pan (lookP (M4 [0] [(0,v)] K).1 0) (M4 [0] [(0,v)] K).2)
 |r=>r
theorem postP_normal(k:List Nat):fX k (some (.ok .normal fr K))=some (.ok .normal (M4 k fr K).1 (M4 k fr K).2):=rfl
theorem postP_exit(k:List Nat)(i:Nat):fX k (some (.ok (.exit i) fr K))=some (.ok (.exit i) fr K):=rfl
theorem postP_ret(k:List Nat):fX k (some (.ok .ret fr K))=some (.ok .ret fr K):=rfl
theorem postP_pan(k:List Nat):fX k (some (.pan v K))=some (.pan (lookP (M4 [0] [(0,v)] K).1 0) (M4 [0] [(0,v)] K).2):=rfl
theorem e_post(P:PE)(k:List Nat)(c:PC):evP P (.code (.post k c) fr K)=fX k (evP P (.code c fr K)):=by
 rw[evP];cases evP P (.code c fr K)with
 |none=>rfl
 | some r=>cases r with
  |ok e fr K=>cases e<;>rfl
  |val=>rfl
  |pan=>rfl
  |itr=>rfl
theorem bN(P:PE)(c:PC):evP P (.code (.loop c) fr K)=pR P (.loop c) (evP P (.code c fr K)):=by
 rw[evP];cases evP P (.code c fr K)with
 |none=>rfl
 | some r=>cases r with
  |ok e fr K=>cases e<;>rfl
  |val=>rfl
  |pan=>rfl
  |itr=>rfl
theorem loop_more{P:PE}{c:PC}{fr':PF}{K':PK}(h:evP P (.code c fr K)=some (.ok .normal fr' K')):evP P (.code (.loop c) fr K)=evP P (.code (.loop c) fr' K'):=by rw[bN,h];rfl
theorem C6{P:PE}{c:PC}{i:Nat}{fr':PF}{K':PK}(h:evP P (.code c fr K)=some (.ok (.exit i) fr' K')):evP P (.code (.loop c) fr K)=some (.ok (.exit i) fr' K'):=by rw[bN,h];rfl
theorem u7{P:PE}{c:PC}{fr':PF}{K':PK}(h:evP P (.code c fr K)=some (.ok .ret fr' K')):evP P (.code (.loop c) fr K)=some (.ok .ret fr' K'):=by rw[bN,h];rfl
def fY(P:PE)(d:Option Tmp)(l:List XOp)(fr:PF)(r:Option PR):Option PR:=match r with
 |some (.val vs K)=>evP P (.ops l (setP d (oneOrTup vs) fr) K)
 |some (.pan v K)=>some (.pan v K)
 |_=>none
def FA(P:PE)(d:Option Tmp)(l:List XOp)(fr:PF)(K:PK)(o:OpS):Option PR:=match o with
 | .val v K=>evP P (.ops l (setP d v fr) K)
 | .call f args=>fY P d l fr (evP P (.call f args K))
 | .pan v=>some (.pan v K)
 | .bad=>none
theorem callK_val(P:PE)(d:Option Tmp)(l:List XOp):fY P d l fr (some (.val vs K))=evP P (.ops l (setP d (oneOrTup vs) fr) K):=rfl
theorem callK_pan(P:PE)(d:Option Tmp)(l:List XOp):fY P d l fr (some (.pan v K))=some (.pan v K):=rfl
theorem doP_val(P:PE)(d:Option Tmp)(l:List XOp):FA P d l fr K (.val v K')=evP P (.ops l (setP d v fr) K'):=rfl
theorem doP_call(P:PE)(d:Option Tmp)(l:List XOp)(f:Nat)(args:List AV):FA P d l fr K (.call f args)=fY P d l fr (evP P (.call f args K)):=rfl
theorem doP_pan(P:PE)(d:Option Tmp)(l:List XOp):FA P d l fr K (.pan v)=some (.pan v K):=rfl
theorem e_nil(P:PE):evP P (.ops [] fr K)=some (.ok .normal fr K):=by rw[evP]
theorem jW(P:PE)(o:XOp)(l:List XOp){b:Bool}(hg:guardP o.gd fr=some b):evP P (.ops (o::l) fr K)=bif b then FA P o.dst l fr K (prim P.E o.op fr K)else evP P (.ops l (setP o.dst skipped fr) K):=by
 rw[evP,hg];cases b with
 |false=>rfl
 | true =>
  dsimp only[cond_true];cases prim P.E o.op fr K with
  | call f args =>
   show _=fY P o.dst l fr (evP P (.call f args K))
   dsimp only;cases evP P (.call f args K)with
   |none=>rfl
   |some r=>cases r<;>rfl
  |_=>rfl
theorem e_op(d:Option Tmp)(op:Op)(q:Bool)(s:List Bool)(c:Bool)(l:List XOp):evP ⟨E,T,F⟩ (.ops (⟨d,op,none,q,s,c⟩::l) fr K)=FA ⟨E,T,F⟩ d l fr K (prim E op fr K):=jW (fr:=fr) (K:=K) (b:=true) ⟨E,T,F⟩ ⟨d,op,none,q,s,c⟩ l rfl
theorem e_opS{d:Option Tmp}{op:Op}{t:Tmp}{w q:Bool}{s:List Bool}{c:Bool}{l:List XOp}(hg:Y4 w (lookP fr t)=some false):evP ⟨E,T,F⟩ (.ops (⟨d,op,some (some t,w),q,s,c⟩::l) fr K)=evP ⟨E,T,F⟩ (.ops l (setP d skipped fr) K):=jW (fr:=fr) (K:=K) (b:=false) ⟨E,T,F⟩ ⟨d,op,some (some t,w),q,s,c⟩ l hg
theorem e_opY{d:Option Tmp}{op:Op}{t:Tmp}{w q:Bool}{s:List Bool}{c:Bool}{l:List XOp}(hg:Y4 w (lookP fr t)=some true):evP ⟨E,T,F⟩ (.ops (⟨d,op,some (some t,w),q,s,c⟩::l) fr K)=FA ⟨E,T,F⟩ d l fr K (prim E op fr K):=jW (fr:=fr) (K:=K) (b:=true) ⟨E,T,F⟩ ⟨d,op,some (some t,w),q,s,c⟩ l hg
def y7(P:PE)(d:Option Tmp)(s:List Bool)(l:List XOp)(fr:PF)(K:PK)(r:Option PR):Option PR:=match r with
 |some (.val vs K)=>evP P (.opsD l (setP d (oneOrTup vs) fr) K)
 |some (.pan v K1)=>if X5 P.E l s (setP d skipped fr) K=true then some (.pan v K1)else none
 |_=>none
def LH(P:PE)(d:Option Tmp)(s:List Bool)(l:List XOp)(fr:PF)(K:PK)(o:OpS):Option PR:=match o with
 | .val v K=>evP P (.opsD l (setP d v fr) K)
 | .call f args=>y7 P d s l fr K (evP P (.call f args K))
 | .pan v=>if X5 P.E l s (setP d skipped fr) K=true then some (.pan v K)else none
 | .bad=>none
def Ya(P:PE)(d:Option Tmp)(s:List Bool)(l:List XOp)(fr:PF)(K:PK)(r:Option PR):Option PR:=match r with
 |some (.pan v K1)=>if X5 P.E l s (setP d skipped fr) K=true then some (.pan v {K1 with tch:=K1.tch++K.tch})else none
 |some (.val vs K1)=>if u4 K.os.length l K1=true then evP P (.opsD l (setP d (oneOrTup vs) fr) {K1 with tch:=K1.tch++K.tch})else evP P (.opsS [⟨K.os,0,K1.tch⟩] l (setP d (oneOrTup vs) fr) {K1 with tch:=K1.tch++K.tch})
 |_=>none
def FB(P:PE)(d:Option Tmp)(s:List Bool)(l:List XOp)(fr:PF)(K:PK)(o:OpS):Option PR:=match o with
 | .val v K1=>if u4 K.os.length l K1=true then evP P (.opsD l (setP d v fr) {K1 with tch:=K1.tch++K.tch})else evP P (.opsS [⟨K.os,0,K1.tch⟩] l (setP d v fr) {K1 with tch:=K1.tch++K.tch})
 | .call f args=>Ya P d s l fr K (evP P (.call f args {K with tch:=[]}))
 |_=>none
theorem callD_val(P:PE)(d:Option Tmp)(s:List Bool)(l:List XOp):y7 P d s l fr K' (some (.val vs K))=evP P (.opsD l (setP d (oneOrTup vs) fr) K):=rfl
theorem callD_pan(P:PE)(d:Option Tmp){s:List Bool}{l:List XOp}(h:X5 P.E l s (setP d skipped fr) K=true):y7 P d s l fr K (some (.pan v K'))=some (.pan v K'):=if_pos h
theorem callQ_pan(P:PE)(d:Option Tmp){s:List Bool}{l:List XOp}(h:X5 P.E l s (setP d skipped fr) K=true):Ya P d s l fr K (some (.pan v K'))=some (.pan v ⟨K'.os,K'.ext,K'.tch++K.tch⟩):=if_pos h
def XX(d:Option Tmp)(s:List Bool)(l:List XOp)(fr:PF)(o:OpS):Bool:=match o with | .val v K=>X5 E l s (setP d v fr) K|_=>false
theorem v_nil(s:List Bool):X5 E [] s fr K=true:=by cases s<;>rfl
theorem v_late(o:XOp)(l:List XOp)(s:List Bool):X5 E (o::l) (true::s) fr K=X5 E l s (setP o.dst skipped fr) K:=rfl
theorem v_op(d:Option Tmp)(op:Op)(s t:List Bool)(c:Bool)(l:List XOp):X5 E (⟨d,op,none,false,t,c⟩::l) (false::s) fr K=XX (E:=E) d s l fr (prim E op fr K):=by
 show(!false&&_)=_
 grind[XX]
theorem doV_val(d:Option Tmp)(s:List Bool)(l:List XOp):XX (E:=E) d s l fr (.val v K)=X5 E l s (setP d v fr) K:=rfl
theorem doD_val(P:PE)(d:Option Tmp)(s:List Bool)(l:List XOp):LH P d s l fr K (.val v K')=evP P (.opsD l (setP d v fr) K'):=rfl
theorem doD_call(P:PE)(d:Option Tmp)(s:List Bool)(l:List XOp)(f:Nat)(args:List AV):LH P d s l fr K (.call f args)=y7 P d s l fr K (evP P (.call f args K)):=rfl
theorem callQ_val(P:PE)(d:Option Tmp)(s:List Bool)(l:List XOp)(ht:u4 K.os.length l K'=true):Ya P d s l fr K (some (.val vs K'))=evP P (.opsD l (setP d (oneOrTup vs) fr) {K' with tch:=K'.tch++K.tch}):=if_pos ht
theorem doQ_val(P:PE)(d:Option Tmp)(s:List Bool)(l:List XOp)(ht:u4 K.os.length l K'=true):FB P d s l fr K (.val v K')=evP P (.opsD l (setP d v fr) {K' with tch:=K'.tch++K.tch}):=if_pos ht
theorem doQ_sep(P:PE)(d:Option Tmp)(s:List Bool)(l:List XOp)(h:u4 K.os.length l K'=false):FB P d s l fr K (.val v K')=evP P (.opsS [⟨K.os,0,K'.tch⟩] l (setP d v fr) {K' with tch:=K'.tch++K.tch}):=if_neg (by rw[h];intro e;cases e)
theorem callQ_sep(P:PE)(d:Option Tmp)(s:List Bool)(l:List XOp)(h:u4 K.os.length l K'=false):Ya P d s l fr K (some (.val vs K'))=evP P (.opsS [⟨K.os,0,K'.tch⟩] l (setP d (oneOrTup vs) fr) {K' with tch:=K'.tch++K.tch}):=if_neg (by rw[h];intro e;cases e)
def AU(P:PE)(S:List PK)(d:Option Tmp)(l:List XOp)(fr:PF)(r:Option PR):Option PR:=match r with
 |some (.val vs K)=>evP P (.opsS S l (setP d (oneOrTup vs) fr) K)
 |_=>none
def OC(P:PE)(S:List PK)(d:Option Tmp)(l:List XOp)(fr:PF)(o:OpS)(K:PK):Option PR:=match o with
 | .val v K=>evP P (.opsS S l (setP d v fr) K)
 | .call f args=>AU P S d l fr (evP P (.call f args K))
 |_=>none
theorem doS_val(P:PE)(S:List PK)(d:Option Tmp)(l:List XOp):OC P S d l fr (.val v K') K=evP P (.opsS S l (setP d v fr) K'):=rfl
theorem s_nil(P:PE)(S:List PK):evP P (.opsS S [] fr K)=some (.ok .normal fr K):=by rw[evP]
theorem AW(S:List PK)(d:Option Tmp)(op:Op)(s:List Bool)(l:List XOp){c:Bool}(h:bC E S K fr ⟨d,op,none,false,s,c⟩=true):evP ⟨E,T,F⟩ (.opsS S (⟨d,op,none,false,s,c⟩::l) fr K)=OC ⟨E,T,F⟩ S d l fr (prim E op fr K) K:=by
 rw[evP];show(if bC E S K fr ⟨d,op,none,false,s,c⟩=true then _ else none)=_
 rw[if_pos h];dsimp only;cases prim E op fr K with
 | call f args =>
  show _=AU ⟨E,T,F⟩ S d l fr (evP ⟨E,T,F⟩ (.call f args K))
  dsimp only;cases evP ⟨E,T,F⟩ (.call f args K)with
  |none=>rfl
  |some r=>cases r<;>rfl
 |_=>rfl
theorem s_op(S:List PK)(d:Option Tmp)(op:Op)(s:List Bool)(l:List XOp):evP ⟨E,T,F⟩ (.opsS S (⟨d,op,none,false,s,false⟩::l) fr K)=OC ⟨E,T,F⟩ S d l fr (prim E op fr K) K:=AW S d op s l (zqf.2 fun _ _=>rfl)
def bO(os:List PO)(S:List PK)(v:AV):Bool:=S.all fun s=>fA os s v
theorem cvs_nil{os:List PO}{v:AV}:bO os [] v=true:=rfl
theorem cvs_cons{os:List PO}{s:PK}{S:List PK}{v:AV}:bO os (s::S) v=(fA os s v&&bO os S v):=rfl
def LI(P:PE)(S:List PK)(d:Option Tmp)(l:List XOp)(fr:PF)(K:PK)(o:OpS):Option PR:=match o with
 | .val v K1=>evP P (.opsS (⟨K.os,0,K1.tch⟩::S) l (setP d v fr) {K1 with tch:=K1.tch++K.tch})
 |_=>none
theorem doSQ_val(P:PE)(S:List PK)(d:Option Tmp)(l:List XOp):LI P S d l fr K (.val v K')=evP P (.opsS (⟨K.os,0,K'.tch⟩::S) l (setP d v fr) {K' with tch:=K'.tch++K.tch}):=rfl
theorem s_opQ(S:List PK)(d:Option Tmp)(op:Op)(s:List Bool)(c:Bool)(l:List XOp):evP ⟨E,T,F⟩ (.opsS S (⟨d,op,none,true,s,c⟩::l) fr K)=LI ⟨E,T,F⟩ S d l fr K (prim E op fr ⟨K.os,K.ext,[]⟩):=by
 rw[evP];show(match prim E op fr ⟨K.os,K.ext,[]⟩with | .val v K1=>_|_=>none)=_
 cases prim E op fr ⟨K.os,K.ext,[]⟩<;>rfl
theorem s_ld(S:List PK)(d:Option Tmp)(t:Nat)(a:Operand)(s:List Bool)(l:List XOp)(h:bO K.os S (opvP E a fr)=true):evP ⟨E,T,F⟩ (.opsS S (⟨d,.load t a,none,false,s,true⟩::l) fr K)=OC ⟨E,T,F⟩ S d l fr (prim E (.load t a) fr K) K:=AW S d _ s l h
theorem cv_ptr{os:List PO}{S:PK}{id i off:Nat}:fA os S (.ptr id i off)=(AQ S.os id&&(!S.tch.contains id&&AQ os id)):=rfl
theorem doQ_call(P:PE)(d:Option Tmp)(s:List Bool)(l:List XOp)(f:Nat)(args:List AV):FB P d s l fr K (.call f args)=Ya P d s l fr K (evP P (.call f args {K with tch:=[]})):=rfl
theorem e_nilD(P:PE):evP P (.opsD [] fr K)=some (.ok .normal fr K):=by rw[evP]
theorem Ko(P:PE)(o:XOp)(l:List XOp){b:Bool}(hg:guardP o.gd fr=some b):evP P (.opsD (o::l) fr K)=bif b then(bif o.quiet then FB P o.dst o.late l fr K (prim P.E o.op fr {K with tch:=[]})else LH P o.dst o.late l fr K (prim P.E o.op fr K))else evP P (.opsD l (setP o.dst skipped fr) K):=by
 rw[evP,hg];cases b with
 |false=>rfl
 | true =>
  dsimp only[cond_true];cases o.quiet with
  | true =>
   dsimp only[cond_true,cond_false];cases prim P.E o.op fr {K with tch:=[]}with
   | call f args =>
    show _=Ya P o.dst o.late l fr K (evP P (.call f args {K with tch:=[]}))
    dsimp only;cases evP P (.call f args {K with tch:=[]})with
    |none=>rfl
    |some r=>cases r<;>rfl
   |_=>rfl
  | false =>
   dsimp only[cond_true,cond_false];cases prim P.E o.op fr K with
   | call f args =>
    show _=y7 P o.dst o.late l fr K (evP P (.call f args K))
    dsimp only;cases evP P (.call f args K)with
    |none=>rfl
    |some r=>cases r<;>rfl
   |_=>rfl
theorem d_op(d:Option Tmp)(op:Op)(s:List Bool)(c:Bool)(l:List XOp):evP ⟨E,T,F⟩ (.opsD (⟨d,op,none,false,s,c⟩::l) fr K)=LH ⟨E,T,F⟩ d s l fr K (prim E op fr K):=Ko (fr:=fr) (K:=K) (b:=true) ⟨E,T,F⟩ ⟨d,op,none,false,s,c⟩ l rfl
theorem d_opQ(d:Option Tmp)(op:Op)(s:List Bool)(c:Bool)(l:List XOp):evP ⟨E,T,F⟩ (.opsD (⟨d,op,none,true,s,c⟩::l) fr K)=FB ⟨E,T,F⟩ d s l fr K (prim E op fr ⟨K.os,K.ext,[]⟩):=Ko (fr:=fr) (K:=K) (b:=true) ⟨E,T,F⟩ ⟨d,op,none,true,s,c⟩ l rfl
theorem d_opS{d:Option Tmp}{op:Op}{t:Tmp}{w q:Bool}{s:List Bool}{c:Bool}{l:List XOp}(hg:Y4 w (lookP fr t)=some false):evP ⟨E,T,F⟩ (.opsD (⟨d,op,some (some t,w),q,s,c⟩::l) fr K)=evP ⟨E,T,F⟩ (.opsD l (setP d skipped fr) K):=Ko (fr:=fr) (K:=K) (b:=false) ⟨E,T,F⟩ ⟨d,op,some (some t,w),q,s,c⟩ l hg
theorem d_opY{d:Option Tmp}{op:Op}{t:Tmp}{w:Bool}{s:List Bool}{c:Bool}{l:List XOp}(hg:Y4 w (lookP fr t)=some true):evP ⟨E,T,F⟩ (.opsD (⟨d,op,some (some t,w),false,s,c⟩::l) fr K)=LH ⟨E,T,F⟩ d s l fr K (prim E op fr K):=Ko (fr:=fr) (K:=K) (b:=true) ⟨E,T,F⟩ ⟨d,op,some (some t,w),false,s,c⟩ l hg
theorem d_opYQ{d:Option Tmp}{op:Op}{t:Tmp}{w:Bool}{s:List Bool}{c:Bool}{l:List XOp}(hg:Y4 w (lookP fr t)=some true):evP ⟨E,T,F⟩ (.opsD (⟨d,op,some (some t,w),true,s,c⟩::l) fr K)=FB ⟨E,T,F⟩ d s l fr K (prim E op fr ⟨K.os,K.ext,[]⟩):=Ko (fr:=fr) (K:=K) (b:=true) ⟨E,T,F⟩ ⟨d,op,some (some t,w),true,s,c⟩ l hg
def Nr(E:Env)(rs:List ResultVar)(r:Option PR):Option PR:=match r with
 |some (.ok .normal fr K)=>(match resP E rs fr K with|some (vs,K)=>some (.val vs K)|none=>none)
 |some (.ok .ret fr K)=>(match resP E rs fr K with|some (vs,K)=>some (.val vs K)|none=>none)
 |some (.pan v K)=>some (.pan v K)
 |_=>none
theorem A3{f:Nat}{args:List AV}{c:PC}{nt:Nat}{rs:List ResultVar}{b:Bool}(hf:F f=some ⟨c,nt,rs,b⟩)(hn:args.length<=nt)(hj:bodyJ c=PJ.code c:=by rfl):evP ⟨E,T,F⟩ (.body f args K)=Nr E rs (evP ⟨E,T,F⟩ (.code c (enterP 0 args) K)):=by
 rw[evP];show(match F f with|some p=>_|none=>_)=_
 rw[hf];dsimp only;rw[if_pos hn,hj];cases evP ⟨E,T,F⟩ (.code c (enterP 0 args) K)with
 |none=>rfl
 | some r=>cases r with
  |ok e fr K=>cases e<;>rfl
  |val=>rfl
  |pan=>rfl
  |itr=>rfl
theorem mE{f:Nat}{args:List AV}{x:XC}{a c:PC}{g:Operand}{nt:Nat}{rs:List ResultVar}{b:Bool}(hf:F f=some ⟨.dfr x a g c,nt,rs,b⟩)(hn:args.length<=nt):evP ⟨E,T,F⟩ (.body f args K)=Nr E rs (evP ⟨E,T,F⟩ (.dfc a g c (enterP 0 args) K)):=by
 conv=>lhs;rw[evP]
 show(match F f with|some p=>_|none=>_)=_
 rw[hf];dsimp only;rw[if_pos hn];show _=Nr E rs (evP ⟨E,T,F⟩ (bodyJ (.dfr x a g c) (enterP 0 args) K))
 cases evP ⟨E,T,F⟩ (bodyJ (.dfr x a g c) (enterP 0 args) K)with
 |none=>rfl
 | some r=>cases r with
  |ok e fr K=>cases e<;>rfl
  |val=>rfl
  |pan=>rfl
  |itr=>rfl
variable {fr1 fr2 fr3:PF}{K1 K2 K3:PK}{P:PE}
theorem LJ{a c:PC}{g:Operand}(h1:evP P (.code a fr K)=some (.ok .normal fr1 K1))(h2:evP P (.code c fr1 ⟨K1.os,K1.os.length,[]⟩)=some (.ok .ret fr2 K2))(h3:evP P (.rcv (opvP P.E g fr1) .niliface ⟨K2.os,K2.os.length,[]⟩)=some (.ok .normal fr3 K3)):
 evP P (.dfc a g c fr K)=some (.ok .ret fr2 ⟨K3.os,K1.ext,K3.tch++(K2.tch++K1.tch)⟩):=by
 grind[evP]
theorem EF{a c:PC}{g:Operand}(h1:evP P (.code a fr K)=some (.ok .normal fr1 K1))(h2:evP P (.code c fr1 ⟨K1.os,K1.os.length,[]⟩)=some (.pan v K2))(h3:evP P (.rcv (opvP P.E g fr1) v ⟨K2.os,K2.os.length,[]⟩)=some (.ok .normal fr3 K3)):
 evP P (.dfc a g c fr K)=some (.ok .ret fr1 ⟨K3.os,K1.ext,K3.tch++(K2.tch++K1.tch)⟩):=by
 grind[evP]
theorem AX{n:Nat}{caps:List AV}{x:XC}{d d2:Tmp}{c:PC}{nt:Nat}{b:Bool}(hf:F n=some ⟨.rcv x d d2 c,nt,[],b⟩)(hn:caps.length<=nt)(h:evP ⟨E,T,F⟩ (.code c (setPs' [d,d2] [v,v] (enterP 0 caps)) K)=some (.ok .normal fr K')):evP ⟨E,T,F⟩ (.rcv (.fn (.func n) [] caps) v K)=some (.ok .normal fr K'):=by
 simp_all[evP,rcOf]
theorem B3{f:Nat}{args:List AV}{g:List AV->Option (List AV)}{as1 rs:List AV}(ht:T f=some g)(hv:viewAs K.os args=some as1)(hg:g as1=some rs)(hok:(okRs rs&&((refsL args).isEmpty||noFL rs))=true):evP ⟨E,T,F⟩ (.call f args K)=some (.val (openTs K.os.length rs).1 ⟨K.os++(openTs K.os.length rs).2,K.ext,K.tch⟩):=by
 rw[evP];show(match T f with|some g=>_|none=>_)=_
 rw[ht];dsimp only;unfold tcall viewX;rw[hv];dsimp only;rw[hg];dsimp only;rw[if_pos hok]
theorem mF{f:Nat}{args:List AV}{g:List AV->Option (List AV)}{as1 rs:List AV}(ht:T f=some g)(hv:viewX K.os args=some as1)(hg:g as1=some rs)(hok:(okRs rs&&((refsL args).isEmpty||noFL rs))=true):evP ⟨E,T,F⟩ (.call f args K)=some (.val (openTs K.os.length rs).1 ⟨K.os++(openTs K.os.length rs).2,K.ext,K.tch⟩):=by
 rw[evP];show(match T f with|some g=>_|none=>_)=_
 rw[ht];dsimp only;unfold tcall;rw[hv];dsimp only;rw[hg];dsimp only;rw[if_pos hok]
end
noncomputable section
variable {E:Env}{fr:PF}{K K':PK}{v w x y:AV}{vs:List AV}
theorem lk_hit(i:Nat)(r:PF):lookP ((i,v)::r) i=v:=by show(if i=i then v else _)=v;grind
theorem lk_cons(i j:Nat)(r:PF):lookP ((i,v)::r) j=if i=j then v else lookP r j:=rfl
theorem st_some(t:Nat):setP (some t) v fr=(t,v)::fr:=rfl
theorem st_none:setP none v fr=fr:=rfl
theorem ov_tmp(t:Nat):opvP E (.tmp t) fr=lookP fr t:=rfl
theorem ov_int(k:IntKind)(n:Int):opvP E (.const (.int k n)) fr=.int k n:=rfl
theorem ov_bool(b:Bool):opvP E (.const (.bool b)) fr=.bool b:=rfl
theorem ov_str(s:List UInt8):opvP E (.const (.string ⟨⟨s⟩⟩)) fr=.str s:=rfl
theorem ov_nsl:opvP E (.const (.slice none 0 0)) fr=.nilsl:=rfl
theorem ov_npt:opvP E (.const (.pointer none)) fr=.nilptr:=rfl
theorem ov_func(f:Nat):opvP E (.func f) fr=.fn (.func f) [] []:=rfl
theorem ol_nil:Ck E [] fr=[]:=rfl
theorem ol_cons(x:Operand)(l:List Operand):Ck E (x::l) fr=opvP E x fr::Ck E l fr:=rfl
theorem oq_nil:aZ E [] fr=[]:=rfl
theorem oq_cons(i:Nat)(x:Operand)(l:List (Nat×Operand)):aZ E ((i,x)::l) fr=(i,opvP E x fr)::aZ E l fr:=rfl
theorem oo_none:bA E none fr=none:=rfl
theorem oo_some(x:Operand):bA E (some x) fr=some (opvP E x fr):=rfl
theorem en_nil(i:Nat):enterP i []=[]:=rfl
theorem en_cons(i:Nat)(l:List AV):enterP i (v::l)=(i,v)::enterP (i+1) l:=rfl
theorem one_1(v:AV):oneOrTup [v]=v:=rfl
theorem one_2(v w:AV):oneOrTup [v,w]=.tup [v,w]:=rfl
theorem one_0:oneOrTup []=.tup []:=rfl
theorem ofV_some(v:AV):z8 (some v) K=.val v K:=rfl
theorem ofO_some(v:AV)(K':PK):Jy (some (v,K'))=.val v K':=rfl
def LK(x:AV)(i:Nat)(K:PK):OpS:=match x with | .tup vs=>z8 vs[i]? K|_=>.bad
theorem exP_tup(vs:List AV)(i:Nat):LK (.tup vs) i K=z8 vs[i]? K:=rfl
theorem pr_move(x:Operand):prim E (.move x) fr K=.val (opvP E x fr) K:=rfl
theorem pr_assign(x:Operand):prim E (.assign x) fr K=.val (opvP E x fr) K:=rfl
theorem pr_pick(c a b:Operand):prim E (.pick c a b) fr K=Jz (opvP E c fr) (opvP E a fr) (opvP E b fr) K:=rfl
theorem pick_true(a b:AV):Jz (.bool true) a b K=.val a K:=rfl
theorem pick_false(a b:AV):Jz (.bool false) a b K=.val b K:=rfl
theorem pr_alloc(t:Nat):prim E (.alloc t) fr K=V9 E t fun ti=>.val (.ptr K.os.length 0 0) (newRow 1 [ti.zero] ti.size K):=rfl
theorem pr_box(t:Nat)(x:Operand):prim E (.box t x) fr K=V9 E t fun ti=>uS ti (opvP E x fr) K:=rfl
theorem pr_build(t:Nat)(ps:Array (Nat×Operand)):prim E (.build t ps) fr K=V9 E t fun ti=>z8 (M7 E ti (aZ E ps.toList fr)) K:=rfl
theorem pr_buildSl(t n:Nat)(ps:Array (Nat×Operand)):prim E (.buildSlice t n ps) fr K=V9 E t fun ti=>match elemOfT E ti.desc with|some te=>Jy (Ba te n (aZ E ps.toList fr) K)|none=>.bad:=rfl
theorem pr_load(t:Nat)(a:Operand):prim E (.load t a) fr K=V9 E t fun ti=>Jy (loadP ti (opvP E a fr) K):=rfl
theorem pr_store(t:Nat)(a x:Operand):prim E (.store t a x) fr K=V9 E t fun ti=>Jy ((storeP ti (opvP E a fr) (opvP E x fr) K).map fun K=>(.und,K)):=rfl
theorem pr_nil(x:Operand):prim E (.nilCheck x) fr K=z8 (Y3 (opvP E x fr)) K:=rfl
theorem pr_bin(op:BinOp)(t u:Nat)(x y:Operand):prim E (.binOp op t x y u) fr K=N4 E op t (opvP E x fr) (opvP E y fr) K:=rfl
theorem pr_un(op:UnOp)(t:Nat)(x:Operand):prim E (.unOp op t x) fr K=z8 (Hy op (opvP E x fr)) K:=rfl
theorem pr_conv(s d:Nat)(x:Operand):prim E (.convert s d x) fr K=V9 E s fun _=>V9 E d fun td=>z8 (O8 td.desc (opvP E x fr)) K:=rfl
theorem pr_fn(f:Fn)(a c:Array Operand):prim E (.makeFunc f a c) fr K=.val (.fn f (Ck E a.toList fr) (Ck E c.toList fr)) K:=rfl
theorem pr_slice(t:Nat)(x:Operand)(lo hi mx:Option Operand):prim E (.slice t x lo hi mx) fr K=V9 E t fun ti=>bif hi.isNone&&mx.isSome then .bad else z8 (aY E ti.desc (bA E lo fr) (bA E hi fr) (bA E mx fr) (opvP E x fr)) K:=rfl
theorem pr_fa(t:Nat)(x:Operand)(f:Nat):prim E (.fieldAddr t x f) fr K=V9 E t fun ti=>z8 (F4 E ti f (opvP E x fr)) K:=rfl
theorem pr_ia(t:Nat)(x i:Operand):prim E (.indexAddr t x i) fr K=V9 E t fun ti=>z8 (Ec E ti (opvP E x fr) (opvP E i fr)) K:=rfl
theorem pr_ix(t:Nat)(x i:Operand):prim E (.index t x i) fr K=V9 E t fun ti=>z8 (yM E ti (opvP E x fr) (opvP E i fr)) K:=rfl
theorem pr_ex(t:Operand)(i:Nat):prim E (.extract t i) fr K=LK (opvP E t fr) i K:=rfl
theorem pr_bui(b:Builtin)(args:Array Operand)(ts:Array TypeId):prim E (.call ⟨.builtin b,args,ts⟩) fr K=Jy (E9 E b ts.toList (Ck E args.toList fr) K):=rfl
theorem pr_call(f:Nat)(args:Array Operand)(ts:Array TypeId):prim E (.call ⟨.value (.func f),args,ts⟩) fr K=.call f (Ck E args.toList fr):=by
 show OpS.call f ([]++(Ck E args.toList fr++[]))=_
 grind
theorem pr_callv(t:Nat)(args:Array Operand)(ts:Array TypeId):prim E (.call ⟨.value (.tmp t),args,ts⟩) fr K=Kb (lookP fr t) (Ck E args.toList fr):=rfl
theorem callP_fn(f:Nat)(a c l:List AV):Kb (.fn (.func f) a c) l=.call f (a++(l++c)):=rfl
theorem bp(op:BinOp)(t:Nat)(hx:Ma x=true)(hy:Ma y=true):N4 E op t x y K=z8 (I6 op (L6 E t) x y) K:=if_pos ⟨hx,hy⟩
theorem bp_add(t:Nat)(k:IntKind)(a b:Int):N4 E .add t (.int k a) (.int k b) K=.val (.int k (k.wrap (a+b))) K:=by rw[bp _ _ rfl rfl,KP];rfl
theorem bp_sub(t:Nat)(k:IntKind)(a b:Int):N4 E .sub t (.int k a) (.int k b) K=.val (.int k (k.wrap (a-b))) K:=by rw[bp _ _ rfl rfl,KQ];rfl
theorem bp_mul(t:Nat)(k:IntKind)(a b:Int):N4 E .mul t (.int k a) (.int k b) K=.val (.int k (k.wrap (a*b))) K:=by rw[bp _ _ rfl rfl,KR];rfl
theorem bp_eql(t:Nat)(k:IntKind)(a b:Int):N4 E .eql t (.int k a) (.int k b) K=.val (.bool (decide (a=b))) K:=by rw[bp _ _ rfl rfl,KS];rfl
theorem bp_neq(t:Nat)(k:IntKind)(a b:Int):N4 E .neq t (.int k a) (.int k b) K=.val (.bool (!decide (a=b))) K:=by rw[bp _ _ rfl rfl,KT];rfl
theorem bp_lss(t:Nat)(k:IntKind)(a b:Int):N4 E .lss t (.int k a) (.int k b) K=.val (.bool (decide (a<b))) K:=by rw[bp _ _ rfl rfl,KU];rfl
theorem bp_leq(t:Nat)(k:IntKind)(a b:Int):N4 E .leq t (.int k a) (.int k b) K=.val (.bool (decide (a<=b))) K:=by rw[bp _ _ rfl rfl,KV];rfl
theorem bp_gtr(t:Nat)(k:IntKind)(a b:Int):N4 E .gtr t (.int k a) (.int k b) K=.val (.bool (decide (b<a))) K:=by rw[bp _ _ rfl rfl,KW];rfl
theorem bp_geq(t:Nat)(k:IntKind)(a b:Int):N4 E .geq t (.int k a) (.int k b) K=.val (.bool (decide (b<=a))) K:=by rw[bp _ _ rfl rfl,KX];rfl
theorem bp_eqlS(t:Nat)(a b:List UInt8):N4 E .eql t (.str a) (.str b) K=.val (.bool (decide (a=b))) K:=by rw[bp _ _ rfl rfl,DS];rfl
theorem bp_neqS(t:Nat)(a b:List UInt8):N4 E .neq t (.str a) (.str b) K=.val (.bool (!decide (a=b))) K:=by rw[bp _ _ rfl rfl,DT];rfl
theorem wt_true(b:Bool):Y4 true (.bool b)=some b:=rfl
theorem wt_false(b:Bool):Y4 false (.bool b)=some (!b):=rfl
theorem wt_skip(w:Bool):Y4 w skipped=some false:=rfl
theorem as_nat(k:IntKind)(n:Nat):asNat (.int k (n:Int))=some n:=rfl
theorem B2{i:Nat}(h:i<9223372036854775807):IntKind.i64.wrap ((i:Int)+1)=((i+1:Nat):Int):=by
 rw[IntKind.wrap_i64];omega
def AY(x:AV)(K:PK):Option (AV×PK):=(cH x).map fun n=>(.int .i64 (Int.ofNat n),K)
theorem ln_fsl(es:List AV)(f:Bool):Jy (AY (.fsl es f) K)=.val (.int .i64 (es.length:Int)) K:=by
 show Jy ((some (lenL es)).map _)=_;rw[A5];rfl
theorem ln_msl(id off n sz:Nat):Jy (AY (.msl id off n sz) K)=.val (.int .i64 (n:Int)) K:=rfl
def Hs(te:TI)(x i:AV):Option AV:=match asNat i with|some n=>cL te n x|none=>none
theorem ix_fsl{te:TI}{k:IntKind}{i:Nat}{es:List AV}{f:Bool}(h:es[i]?=some v)(hs:v.cells.length=te.size):Hs te (.fsl es f) (.int k (i:Int))=some (.fptr v 0):=by
 show A4 (Cq es i) (fun v=>A9 (Nat.beq (lenL v.cells) te.size) (some (AV.fptr v 0)))=_
 rw[O6,h];show A9 (Nat.beq (lenL v.cells) te.size) (some (AV.fptr v 0))=_
 rw[A5,hs,zke];rfl
theorem ix_msl{te:TI}{k:IntKind}{i id off n sz:Nat}(h:i<n)(hs:sz=te.size):Hs te (.msl id off n sz) (.int k (i:Int))=some (.ptr id (off+i) 0):=by
 show A9 (Nat.blt i n&&Nat.beq sz te.size) (K9 (Nat.add off i) fun o=>some (AV.ptr id o 0))=_
 rw[B7,hs,zke,show Nat.blt i n=true from zkd h];rfl
theorem ld_f(t:TI)(v:AV)(off:Nat):Jy (loadP t (.fptr v off) K)=z8 (partOf t v.cells off) K:=by
 show Jy ((partOf t v.cells off).map (·,K))=_
 cases partOf t v.cells off<;>rfl
def OD(id i off:Nat)(K:PK)(w:Option AV):OpS:=match w with|some w=>.val (Tq id i off w K).1 (Tq id i off w K).2|none=>.bad
def OE(t:TI)(id i off:Nat)(K:PK)(v:Option AV):OpS:=match v with|some v=>OD id i off K (partOf t v.cells off)|none=>.bad
def ldR(t:TI)(id i off:Nat)(K:PK)(r:Option (Nat×List AV×Nat)):OpS:=match r with|some (_,es,_)=>OE t id i off K es[i]?|none=>.bad
theorem ld_p(t:TI)(id i off:Nat):Jy (loadP t (.ptr id i off) K)=ldR t id i off K (rowOf K.os 6 id):=by
 show Jy (match rowOf K.os 6 id with|some (_,es,_)=>_|none=>none)=_
 cases rowOf K.os 6 id with
 |none=>rfl
 | some q =>
  obtain⟨k,es,z⟩:=q;show Jy (match es[i]? with|some v=>_|none=>none)=OE t id i off K es[i]?
  cases es[i]? with
  |none=>rfl
  | some v =>
   show Jy (match partOf t v.cells off with|some w=>_|none=>none)=OD id i off K (partOf t v.cells off)
   cases partOf t v.cells off<;>rfl
theorem ldR_some(t:TI)(id i off k z:Nat)(es:List AV):ldR t id i off K (some (k,es,z))=OE t id i off K es[i]?:=rfl
theorem ldE_some(t:TI)(id i off:Nat):OE t id i off K (some v)=OD id i off K (partOf t v.cells off):=rfl
end
noncomputable section
variable {E:Env}{fr:PF}{K K':PK}{v w x y:AV}{vs es:List AV}{te:TI}{os:List PO}
theorem tb_nil:takeB te .nilsl os=some ([],os,[]):=rfl
def XY(te:TI)(id off n sz:Nat)(os:List PO)(e:Option PO):Option (List AV×List PO×List Nat):=match e with
 |some (.row k es z)=>if k=0/\z=te.size/\sz=z/\off+n<=es.length then some ((es.drop off).take n,(killP os id []).set id .dead,[id])else none
 |some (.sub p i o)=>takeB te (.msl id off n sz) os
 |_=>none
theorem tb_eq(id off n sz:Nat):takeB te (.msl id off n sz) os=XY te id off n sz os os[id]?:=by
 cases h:os[id]? with
 | none =>
  unfold takeB
  have:rowOf os 6 id=none:=by unfold rowOf;rw[h]
  simp only[this];rfl
 | some e =>
  cases e with
  | row k es z =>
   unfold takeB
   have:rowOf os 6 id=some (k,es,z):=by unfold rowOf;rw[h]
   simp only[this,h];rfl
  | mapo m =>
   unfold takeB
   have:rowOf os 6 id=none:=by unfold rowOf;rw[h]
   simp only[this];rfl
  | dead =>
   unfold takeB
   have:rowOf os 6 id=none:=by unfold rowOf;rw[h]
   simp only[this];rfl
  |sub p i o=>rfl
theorem tbE_row{id n sz z:Nat}(h1:z=te.size)(h2:sz=z)(h3:n=es.length):XY te id 0 n sz os (some (.row 0 es z))=some (es,(killP os id []).set id .dead,[id]):=by
 simp_all[XY]
def FC(te:TI)(id n sz ext:Nat)(tc:List Nat)(os:List PO)(e:Option PO)(d:Option (List AV×List PO)):Option (List AV×List PO):=match e with
 | some (.row 0 es z)=>if z=te.size/\sz=z/\n=es.length then(match flatT te with
  |true=>if Az es=true then some (es,os)else none
  |false=>if ext<=id/\¬id∈tc then some (es,(killP os id []).set id .dead)else none)else d
 |_=>d
def teD(te:TI)(id n sz ext:Nat)(tc:List Nat)(os:List PO):Option (List AV×List PO):=takeE te (.msl id 0 n sz) ext tc os
theorem te_eq(id n sz ext:Nat)(tc:List Nat):takeE te (.msl id 0 n sz) ext tc os=FC te id n sz ext tc os os[id]? (teD te id n sz ext tc os):=by
 unfold FC;split
 . rename_i es z h
   split
   . grind[rowOf,takeE]
   . rfl
 . rfl
theorem teE_flat{id n sz z ext:Nat}{tc:List Nat}{d:Option (List AV×List PO)}(hf:flatT te=true)(h1:z=te.size)(h2:sz=z)(h3:n=es.length)(he:Az es=true):FC te id n sz ext tc os (some (.row 0 es z)) d=some (es,os):=by
 simp_all[FC]
theorem teE_row{id n sz z ext:Nat}{tc:List Nat}{d:Option (List AV×List PO)}(hf:flatT te=false)(h1:z=te.size)(h2:sz=z)(h3:n=es.length)(hx:ext<=id)(hc:¬id∈tc):FC te id n sz ext tc os (some (.row 0 es z)) d=some (es,(killP os id []).set id .dead):=by
 simp_all[FC]
theorem te_fsl{f:Bool}{ext:Nat}{tc:List Nat}(h:F1 te.size es=true):takeE te (.fsl es f) ext tc os=some (es,os):=if_pos h
def EG(te:TI)(s:AV)(K:PK)(base:List AV)(tc:List Nat)(r:Option (List AV×List PO)):Option (AV×PK):=match r with
 |some (xs,os2)=>if(!xs.isEmpty||wholeP s K.os)=true then joinP te base xs os2 tc K else none
 |none=>none
def XZ(te:TI)(s x:AV)(K:PK)(r:Option (List AV×List PO×List Nat)):Option (AV×PK):=match r with
 |some (base,os1,tc)=>EG te s K base tc (takeE te x K.ext tc os1)
 |none=>none
theorem ap_eq(s x:AV):X3 te s x K=XZ te s x K (takeB te s K.os):=by
 grind[X3,XZ,EG]
theorem ap1_some{s x:AV}(base:List AV)(os1:List PO)(tc:List Nat):XZ te s x K (some (base,os1,tc))=EG te s K base tc (takeE te x K.ext tc os1):=rfl
theorem ap2_some{s:AV}{base xs:List AV}{os2:List PO}{tc:List Nat}(h0:xs.isEmpty=false)(hz:(base.length+xs.length)*te.bytes<=140737488355328):
 EG te s K base tc (some (xs,os2))=some (.msl os2.length 0 (base.length+xs.length) te.size,⟨os2++[.row 0 (base++xs) te.size],K.ext,os2.length::tc++K.tch⟩):=by
 unfold EG;simp only[h0];rw[if_pos (by rfl)];exact if_pos hz
end
end Go.AM
