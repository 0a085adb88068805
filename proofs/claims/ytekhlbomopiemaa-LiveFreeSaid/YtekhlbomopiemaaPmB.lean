/- The tree machine: code as trees, memory by kept numbers, and that it says what the machine does. Conditions: none. -/
import Derived.Test.YtekhlbomopiemaaPmA
set_option linter.unusedVariables false
set_option linter.unusedSimpArgs false
set_option linter.unusedSectionVars false
set_option linter.defProp false
set_option maxHeartbeats 4000000
open Option renaming some→zsq,none→znq
open Bool renaming true→zt,false→zf
open List renaming mem_of_getElem?→zqa,getElem?_eq_getElem→zqb,getElem?_eq_some_iff→zqc,replicate→zqd,getElem?_of_mem→zqe,all_eq_true→zqf,getElem?_map→zqg,mem_cons_self→zqh,mem_cons→zqi,eq_nil_of_length_eq_zero→zqj,mem_append→zqk,append_nil→zql,mem_map→zqm,getElem_mem→zqn,mem_replicate→zqo,mem_cons_of_mem→zqp,getElem?_append_left→zqq,mem_filter→zqr,mem_singleton→zqs,append_eq_nil_iff→zqt,getElem?_take→zqu,nodup_cons→zqv,getElem?_append_right→zqw,getElem?_drop→zqx,mem_append_left→zqy,getD_eq_getElem?_getD→zqz,length_eq_one_iff→zka
open Bool renaming and_eq_true_iff→zkb,and_eq_true→zkc,or_eq_true_iff→zkd
open Nat renaming le_refl→zke,lt_of_lt_of_le→zkf,ble_eq_true_of_le→zkg,beq_refl→zkh,le_trans→zki,eq_of_beq_eq_true→zkj
namespace Go.AM
section
variable {E:Env}{R:AV->AV->Prop}{Z Z':Nat->Prop}{ow ow' ow1 ow2:Nat->Option (List Nat)}{h h':Heap}{K K':PK}{os os' os1 os2:List PO}{x y xc yc v:AV}{L M:List Nat}
def VO(Z:Nat->Prop)(ow:Nat->Option (List Nat))(h:Heap)(os:List PO)(a b:Option AV):Prop:=(a=znq/\b=znq)\/∃x y,a=zsq x/\b=zsq y/\VR Z ow h os x y
theorem eH(hg:BG E){nt:Nat}{frc:Tr}{fr:PF}(a:r7 Z ow h os nt frc fr)(o:Option Operand):VO Z ow h os (Nk E o frc) (eB E o fr):=by
 cases o with
 |none=>exact .inl ⟨rfl,rfl⟩
 |some o=>exact .inr ⟨_,_,rfl,rfl,Ae hg a o⟩
theorem G3{a b:Option AV}{d n:Nat}(A:VO Z ow h os a b)(e:D8 b d=zsq n):D8 a d=zsq n:=by
 rcases A with⟨rfl,rfl⟩|⟨x,y,rfl,rfl,A⟩
 . exact e
 . exact x5 A e
theorem VO.isS{a b:Option AV}(A:VO Z ow h os a b):a.isSome=b.isSome/\a.isNone=b.isNone:=by
 rcases A with⟨rfl,rfl⟩|⟨x,y,rfl,rfl,A⟩<;>exact⟨rfl,rfl⟩
theorem Bf{a b:Nat}:Nat.ble a b=zt↔a<=b:=(by simp_all)
def GV(mx:Option AV)(f:Bool)(m r n:Nat):Bool:=match mx with|some _=>Nat.beq m r|none=>f&&Nat.beq r n
theorem jY{sz:Nat}{es:List AV}{f:Bool}{lo hi mx:Option AV}(e:Ja sz es f lo hi mx=zsq v):∃l r m,D8 lo 0=zsq l/\D8 hi es.length=zsq r/\D8 mx es.length=zsq m/\l<=r/\r<=m/\m<=es.length/\j6 sz es=zt/\v=.fsl ((es.drop l).take (r-l)) (GV mx f m r es.length):=by
 unfold Ja at e;obtain⟨l,h1,e⟩:=A1 e;obtain⟨r,B,e⟩:=A1 e;obtain⟨m,C,e⟩:=A1 e;obtain⟨A,e⟩:=A7 e;rw[A5]at B C A e;simp only[zkc,Bf]at A;rw[G8,G7]at e;cases e;exact⟨l,r,m,h1,B,C,A.1.1.1,A.1.1.2,A.1.2,A.2,rfl⟩
theorem uI{sz:Nat}{es:List AV}{f:Bool}{lo hi mx:Option AV}{l r m:Nat}(h1:D8 lo 0=zsq l)(A:D8 hi es.length=zsq r)(B:D8 mx es.length=zsq m)(C:l<=r)(D:r<=m)(G:m<=es.length)(H:j6 sz es=zt):Ja sz es f lo hi mx=zsq (.fsl ((es.drop l).take (r-l)) (GV mx f m r es.length)):=by
 unfold Ja;rw[h1];show A6 (D8 hi (lenL es)) _=_
 rw[A5,A];show A6 (D8 mx es.length) _=_
 rw[B];show B3 (Nat.ble l r&&Nat.ble r m&&Nat.ble m es.length&&j6 sz es) _=_
 rw[Bf.2 C,Bf.2 D,Bf.2 G,H,G8,G7];rfl
theorem jZ{ts id off n sz:Nat}{lo hi mx:Option AV}(e:Jb ts id off n sz lo hi mx=zsq v):∃l r m,D8 lo 0=zsq l/\D8 hi n=zsq r/\D8 mx n=zsq m/\l<=r/\r<=m/\m<=n/\sz=ts/\v=.msl id (off+l) (r-l) sz:=by
 unfold Jb at e;obtain⟨l,h1,e⟩:=A1 e;obtain⟨r,h2,e⟩:=A1 e;obtain⟨m,h3,e⟩:=A1 e;obtain⟨A,e⟩:=A7 e;simp only[zkc,Bf]at A;rw[B6,B6]at e;simp_all
theorem Om{ts id off n:Nat}{lo hi mx:Option AV}{l r m:Nat}(h1:D8 lo 0=zsq l)(A:D8 hi n=zsq r)(B:D8 mx n=zsq m)(C:l<=r)(D:r<=m)(G:m<=n):Jb ts id off n ts lo hi mx=zsq (.msl id (off+l) (r-l) ts):=by
 unfold Jb;rw[h1];show A6 (D8 hi n) _=_
 rw[A];show A6 (D8 mx n) _=_
 rw[B];show B3 (Nat.ble l r&&Nat.ble r m&&Nat.ble m n&&Nat.beq ts ts) _=_
 rw[Bf.2 C,Bf.2 D,Bf.2 G,zkh,B6,B6];rfl
theorem nH{d:TD}{lo hi mx C B A:Option AV}(I:VO Z ow h os C lo)(J:VO Z ow h os B hi)(G:VO Z ow h os A mx)(V:VR Z ow h os xc x)(e:Oj E d lo hi mx x=zsq v):∃vc,sliceA E d C B A xc=zsq vc/\VR Z ow h os vc v:=by
 have str:∀{s:List UInt8}{v:AV},Eu s lo hi mx=zsq v->Eu s C B A=zsq v/\∃s',v=.str s':=fun{s v} e=>by
  unfold Eu at e|-;obtain⟨l,h1,e⟩:=A1 e;obtain⟨r,Q,e⟩:=A1 e;obtain⟨U,e⟩:=A7 e;rw[G3 I h1];show A6 (D8 B (s5 s)) _=_/\_
  rw[G3 J Q];show B3 (Nat.ble l r&&Nat.ble r (s5 s)&&A.isNone) _=_/\_
  rw[G.isS.2,U];cases e;exact⟨rfl,_,rfl⟩
 have msl:∀{id off n sz},x=.msl id off n sz->sliceA E d lo hi mx x=zsq v->∃vc,sliceA E d C B A xc=zsq vc/\VR Z ow h os vc v:=fun{id off n sz} aa e=>by
  subst aa;cases d with
  |string=>cases e
  |slice H=>
   have e:onTI E H znq (fun te=>Nj te.size lo hi mx (.msl id off n sz))=zsq v:=e;show ∃vc,onTI E H znq (fun te=>Nj te.size C B A xc)=zsq vc/\_
   unfold onTI at e|-;cases N:E.ti H with
   |none=>rw[N]at e;cases e
   |some te=>
    rw[N]at e;simp only at e|-;have e:Jb te.size id off n sz lo hi mx=zsq v:=e;obtain⟨l,r,m,h1,Q,U,Y,h5,h6,rfl,rfl⟩:=jZ e;cases V with
    |fz z=>cases z
    |mnil em hn ae=>
     have q1:=G3 I h1;have q2:=G3 J Q;have q3:=G3 G U;obtain rfl:m=0:=by omega
     obtain rfl:r=0:=by omega
     obtain rfl:l=0:=by omega
     rcases em with rfl|rfl
     all_goals
      refine⟨.nilsl,?_,.mnil (.inl rfl) hn ae⟩;show bN C B A=zsq .nilsl
      unfold bN;rw[q1];show A6 (D8 B 0) _=_
      rw[q2];show A6 (D8 A 0) _=_
      rw[q3];rfl
    |msl a b=>
     refine⟨_,Om (G3 I h1) (G3 J Q) (G3 G U) Y h5 h6,?_⟩;exact .msl a b
  |_=>cases e
 cases x with
 |nilsl=>cases e
 |msl id off n sz=>
  exact msl rfl e
 |fsl es f=>
  have e:(if es.isEmpty||mx.isSome then znq else(sliceA E d lo hi mx (.fsl es f)).map fun y=>match y with | .fsl l _=>.fsl l l.isEmpty|y=>y)=zsq v:=e;split at e
  . cases e
  . rename_i hne
    cases D:sliceA E d lo hi mx (.fsl es f)with
    |none=>rw[D]at e;cases e
    |some w=>
     rw[D]at e;cases d with
     |string=>cases D
     |slice H=>
      have D:onTI E H znq (fun te=>Nj te.size lo hi mx (.fsl es f))=zsq w:=D;show ∃vc,onTI E H znq (fun te=>Nj te.size C B A xc)=zsq vc/\_
      unfold onTI at D|-;cases N:E.ti H with
      |none=>rw[N]at D;cases D
      |some te=>
       rw [N]at D;simp only at D|-;have D:Ja te.size es f lo hi mx=zsq w:=D;obtain⟨l,r,m,h1,Q,U,Y,h5,h6,h7,rfl⟩:=jY D;cases e;obtain⟨u,us,rfl⟩:∃u us,es=u::us:=by cases es with
        |_=>grind
       have ab:A=znq:=by
        cases hm:A with
        |none=>rfl
        |some q=>
         have h8:=G.isS.1;grind
       have hu:u.cells.length=te.size:=by
        have h7:Nat.beq (lenL u.cells) te.size=zt:=h7;grind[A5,zkj]
       cases V with
       |fz z=>
        cases z with
        |fsl g1 g2 g3=>
         rename_i es0 f0;obtain⟨u0,ad,rfl⟩:∃u us,es0=u::us:=by cases es0 with
          |nil=>simp at g1
          |cons u us=>grind
         have hu0:=(g2 0 u0 u rfl rfl).shape.1;refine⟨_,uI (sz:=te.size) (es:=u0::ad) (f:=f0) (G3 I h1) (G3 J (by grind)) (G3 G (by grind)) Y h5 (by grind) (by show Nat.beq (lenL u0.cells) te.size=zt;simp_all[A5]),?_⟩;refine .fz (.fsl (by grind) (fun i x y V hy=>?_) (by rw[ab,g3];rfl));grind
        |view g1 g2 g3 g4 g5 g6=>
         rename_i id off n sz row;have X:off<row.length:=by grind
         have ac:=g5 0 _ u (zqb X) rfl;have hsz:sz=te.size:=by rw[<-g6 0 _ (by grind) (zqb X),ac.shape.1,hu]
         subst hsz;rw[g4]at Q U h6;refine⟨_,Om (id:=id) (off:=off) (G3 I h1) (G3 J Q) (G3 G U) Y h5 h6,?_⟩;refine .fz (.view (row:=row) g1 g2 (by omega) (by grind) (fun i x y V hy=>?_) (fun i x hi V=>g6 (l+i) x (by omega) (by grind)));grind
     |_=>cases D
 |str s=>
  cases d with
  |string=>
   rw[V.isS];obtain⟨h1,s',rfl⟩:=str (show Eu s lo hi mx=zsq v from e);exact⟨_,h1,.fz (.str s')⟩
  |slice H=>
   have e:onTI E H znq (fun te=>Nj te.size lo hi mx (.str s))=zsq v:=e;unfold onTI at e;cases N:E.ti H with
   |none=>simp_all
   |some te=>rw[N]at e;cases e
  |_=>cases e
 |_=>
  cases d with
  |slice H=>
   have e:onTI E H znq (fun te=>znq)=zsq v:=e;unfold onTI at e;cases N:E.ti H with
   |_=>simp_all
  |_=>cases e
theorem RX(s:G2 Z ow h K.os){id:Nat}{es:List (AV×AV)}(A:K.os[id]?=zsq (.mapo es))(B:VR Z ow h K.os xc (.map id)):∃c ces,xc=.map c/\MapR Z ow h id es c ces:=by
 obtain⟨c0,ces,g⟩:=s.map id es A;cases B with
 |fz z=>cases z
 |map a b=>
  have h1:=a [id] (by grind[loP])
  have:=s.inj _ _ _ h1 g.o
  grind
theorem AC{α:Type}{h:Heap}{id:Nat}{es:List (AV×AV)}{d:α}{f:List (AV×AV)->α}(hg:h.get id=zsq (.mapo es)):h.onMapo id d f=f es:=by
 grind[Heap.onMapo]
theorem AD(s:G2 Z ow h K.os){d:TD}{n:Nat}(A:VR Z ow h K.os xc x)(e:KJ d x K=zsq n):lF d xc h=zsq n:=by
 cases d with
 |string=>obtain⟨s',rfl,e1⟩:=J5 (show x.onStr znq (fun s=>zsq (s5 s))=zsq n from e);rw[A.isS];exact e
 |slice el=>
  have e:fH x=zsq n:=e;show fH xc=zsq n
  cases x with
  |nilsl=>rw[A.isN];exact e
  |fsl es f=>
   have e:zsq (lenL es)=zsq n:=e;rw[A5]at e;cases e;cases A with
   |fz z=>
    cases z with
    |emp B=>cases B<;>rfl
    |fsl h1 _ _=>show zsq (lenL _)=_;rw[A5,h1]
    |view _ _ _ D _ _=>show zsq _=zsq _;rw[D]
  |msl id off m sz=>
   cases e;cases A with
   |fz z=>cases z
   |mnil B _ _=>rcases B with rfl|rfl<;>rfl
   |msl=>rfl
  |_=>cases e
 |map a b=>
  show vN xc h=zsq n
  cases x with
  |nilmap=>cases A with|fz z=>cases z;exact e
  |map id=>
   have e:(match K.os[id]? with|some (.mapo es)=>zsq (sE es)|_=>znq)=zsq n:=e;cases C:K.os[id]? with
   |none=>grind
   |some q=>
    rw[C]at e;cases q with
    |mapo es=>
     obtain⟨c,ces,rfl,g⟩:=RX s C A;show h.onMapo c znq (fun es=>zsq (sE es))=zsq n
     rw[AC g.get,Ri,g.len,<-Ri];exact e
    |_=>cases e
  |_=>cases e
 |_=>cases e
theorem kA:∀(l A:List AV)(x xc v:AV),VL Z ow h os A l->VR Z ow h os xc x->Ni l x=zsq v->∃vc,Ni A xc=zsq vc/\VR Z ow h os vc v
 |[],A,x,xc,v,hl,hx,e=>by
  have:A=[]:=zqj hl.1
  subst this;cases e;exact⟨xc,rfl,hx⟩
 |y::l,[],x,xc,v,hl,hx,e=>by have:=hl.1;simp at this
 |y::l,yc::A,x,xc,v,hl,hx,e=>by
  have e:(x.onInt znq fun k a=>y.onInt znq fun _ b=>Ni l (.int k (bif intLe b a then a else b)))=zsq v:=e;obtain⟨k,a,rfl,e1⟩:=B5 e;obtain⟨_,b,rfl,e2⟩:=B5 e1;rw[hx.isI,hl.inv.1.isI];exact kA l A _ _ v hl.inv.2 (.i _ _) e2
theorem kB:∀(l A:List AV)(x xc v:AV),VL Z ow h os A l->VR Z ow h os xc x->Qg l x=zsq v->∃vc,Qg A xc=zsq vc/\VR Z ow h os vc v
 |[],A,x,xc,v,hl,hx,e=>by
  have:A=[]:=zqj hl.1
  subst this;cases e;exact⟨xc,rfl,hx⟩
 |y::l,[],x,xc,v,hl,hx,e=>by have:=hl.1;simp at this
 |y::l,yc::A,x,xc,v,hl,hx,e=>by
  have e:(x.onInt znq fun k a=>y.onInt znq fun _ b=>Qg l (.int k (bif intLe a b then a else b)))=zsq v:=e;obtain⟨k,a,rfl,e1⟩:=B5 e;obtain⟨_,b,rfl,e2⟩:=B5 e1;rw[hx.isI,hl.inv.1.isI];exact kB l A _ _ v hl.inv.2 (.i _ _) e2
def VQ(Z:Nat->Prop)(ow:Nat->Option (List Nat))(h:Heap)(os:List PO)(ps qs:List (Nat×AV)):Prop:=ps.length=qs.length/\∀(i:Nat) p q,ps[i]?=zsq p->qs[i]?=zsq q->p.1=q.1/\VR Z ow h os p.2 q.2
theorem My(hg:BG E){nt:Nat}{frc:Tr}{fr:PF}(a:r7 Z ow h os nt frc fr):∀l:List (Nat×Operand),VQ Z ow h os (opvps E l frc) (eA E l fr)
 |[]=>⟨rfl,fun i p q A=>by cases i<;>cases A⟩
 |o::l=>⟨congrArg Nat.succ (My hg a l).1,fun i p q A B=>by
  cases i with
  |zero=>cases A;cases B;exact⟨rfl,Ae hg a o.2⟩
  |succ i=>exact(My hg a l).2 i p q A B⟩
theorem VQ.inv{p q:Nat×AV}{ps qs:List (Nat×AV)}(v:VQ Z ow h os (p::ps) (q::qs)):(p.1=q.1/\VR Z ow h os p.2 q.2)/\VQ Z ow h os ps qs:=⟨v.2 0 p q rfl rfl,by have:=v.1;grind,fun i p q A B=>v.2 (i+1) p q A B⟩
theorem nI{xs ys us vs:List AV}{off:Nat}(a:VL Z ow h os xs ys)(b:VL Z ow h os us vs):VL Z ow h os (O4 xs off us) (O4 ys off vs):=by
 rw[U1,U1];grind[lsplice,VL]
theorem EG{v vc:AV}(D:VR Z ow h os vc v)(ho:D5 v.cells=zt):D5 vc.cells=zt/\vc.cells.length=v.cells.length/\VL Z ow h os vc.cells v.cells:=by
 rw[G5]at ho;have C:v≠.und:=fun e=>by subst e;exact absurd (ho .und (zqh ..)) (by decide)
 have hl:=D.cells C;refine⟨(G5 _).2 fun c hc=>?_,hl.1,hl⟩;obtain⟨i,hi⟩:=zqe hc;have B:i<v.cells.length:=by rw[<-hl.1];grind
 have A:=ho _ (zqn B);refine(hl.2 i c _ hi (zqb B)).okc ?_
 revert A
 cases v.cells[i]<;>intro A<;>first|rfl|cases A
theorem On(place:Nat->Option (Nat×Nat)):∀(ps qs:List (Nat×AV))(xs ys zs:List AV),VQ Z ow h os ps qs->VL Z ow h os xs ys->R2 place qs ys=zsq zs->∃ws,R2 place ps xs=zsq ws/\VL Z ow h os ws zs
 |[],[],xs,ys,zs,_,hl,e=>by cases e;exact⟨xs,rfl,hl⟩
 |[],q::qs,xs,ys,zs,hv,hl,e=>by have:=hv.1;simp at this
 |p::ps,[],xs,ys,zs,hv,hl,e=>by have:=hv.1;simp at this
 |p::ps,q::qs,xs,ys,zs,hv,hl,e=>by
  have e:A6 (place q.1) (fun w=>B3 (Nat.beq (lenL q.2.cells) w.2&&Nat.ble (Nat.add w.1 w.2) (lenL ys)&&D5 q.2.cells) (R2 place qs (O4 ys w.1 q.2.cells)))=zsq zs:=e;obtain⟨w,h1,e⟩:=A1 e;obtain⟨B,e⟩:=A7 e;rw[zkc,zkc]at B;obtain⟨⟨C,D⟩,G⟩:=B;obtain⟨⟨H,I⟩,J⟩:=hv.inv;obtain⟨N,Q,U⟩:=EG I G;obtain⟨ws,V,A⟩:=On place ps qs _ _ zs J (nI (off:=w.1) hl U) e;refine⟨ws,?_,A⟩;show A6 (place p.1) (fun w=>B3 (Nat.beq (lenL p.2.cells) w.2&&Nat.ble (Nat.add w.1 w.2) (lenL xs)&&D5 p.2.cells) (R2 place ps (O4 xs w.1 p.2.cells)))=zsq ws
  rw[H,h1];show B3 (Nat.beq (lenL p.2.cells) w.2&&Nat.ble (Nat.add w.1 w.2) (lenL xs)&&D5 p.2.cells) _=_
  rw[A5,Q,<-A5,C,A5,hl.1,<-A5,D,N];exact V
theorem nJ(hT:KO E){t:Nat}{ti:TI}(B:E.ti t=zsq ti){ps qs:List (Nat×AV)}(D:VQ Z ow h os ps qs)(e:R9 E ti qs=zsq v):∃vc,R9 E ti ps=zsq vc/\VR Z ow h os vc v:=by
 have hz:VL Z ow h os ti.zero.cells ti.zero.cells:=⟨rfl,fun i x y H I=>.fz (((hT t ti B).1 Z h).cell H I).1⟩
 unfold R9 at e|-;cases G:ti.desc with
 |struct fields f=>
  rw[G]at e;simp only at e|-;cases A:R2 (fun i=>A6 (Qh fields i) fun f=>onTI E f.1 znq fun g=>zsq (f.2,g.size)) qs ti.zero.cells with
  |none=>grind
  |some zs=>
   rw[A]at e;cases e;obtain⟨ws,h1,C⟩:=On _ ps qs _ _ zs D hz A;rw[h1];exact⟨_,rfl,.agL C⟩
 |array len J=>
  rw[G]at e;simp only at e|-;unfold onTI at e|-;cases B:E.ti J with
  |none=>simp_all
  |some te=>
   rw[B]at e;simp only at e|-;cases A:R2 (fun i=>zsq (Nat.mul i te.size,te.size)) qs ti.zero.cells with
   |none=>grind
   |some zs=>
    rw[A]at e;cases e;obtain⟨ws,h1,C⟩:=On _ ps qs _ _ zs D hz A;rw[h1];exact⟨_,rfl,.agL C⟩
 |_=>grind
end
section
variable {E:Env}{R:AV->AV->Prop}{Z Z':Nat->Prop}{ow ow' ow1 ow2:Nat->Option (List Nat)}{h h':Heap}{K K':PK}{os os' os1 os2:List PO}{x y xc yc v k:AV}{L M:List Nat}
theorem withAll{v e:AV}(ha:isAg v=isAg e)(hl:v.cells.length=e.cells.length)(hok:∀c∈v.cells,isAg c=zf):e.withCells 0 v.cells=v:=by
 cases A:isAg v with
 |true=>
  rw[A]at ha;cases v with
  |agg vs=>
   cases e with
   |agg es=>
    show AV.agg (O4 es 0 vs)=.agg vs
    rw[U1];unfold lsplice;have hl:vs.length=es.length:=hl;grind
   |_=>cases ha
  |_=>cases A
 |false=>
  rw[A]at ha;rw[C8 A];cases e<;>first|rfl|cases ha
theorem G2.congr(s:G2 Z ow h os)(hn:h'.next=h.next)(hg:∀d,h'.get d=h.get d):G2 Z ow h' os:=by
 have hz:∀d,Z d->Z d/\h'.get d=h.get d:=fun d G=>⟨G,hg d⟩
 have C:PT (VR Z ow h os) Z ow h' os:=by
  refine⟨fun r es sz A=>?_,fun r k es sz A H=>?_,fun r es A=>?_,s.inj,fun a M ha=>?_,fun a ha=>by rw[hn];exact s.zb a ha,s.sb⟩
  . obtain⟨x,B⟩:=s.row r es sz A
    exact⟨x,B.reloc (Nat.le_of_eq hn.symm) hz (fun _ _=>.rfl) (fun d _ _=>hg d)⟩
  . obtain⟨c,ces,g⟩:=s.raw r k es sz A H
    exact⟨c,ces,g.o,by rw[hn];exact g.lt,(hg c).trans g.get,g.sh,g.vr,g.okp,g.no⟩
  . obtain⟨c,ces,g⟩:=s.map r es A
    exact⟨c,ces,g.o,by rw[hn];exact g.lt,(hg c).trans g.get,g.len,fun i x y B D=>⟨(g.kv i x y B D).1,(g.kv i x y B D).2.mono hz⟩,g.no⟩
  . obtain⟨h1,h2⟩:=s.live a M ha
    grind
 exact G2.to C hz (.refl _ _)
end
section
variable {E:Env}{R:AV->AV->Prop}{Z Z':Nat->Prop}{ow ow' ow1 ow2:Nat->Option (List Nat)}{h h':Heap}{K K':PK}{os os' os1 os2:List PO}{x y xc yc v k:AV}{L M:List Nat}
theorem kC(v:AV):Gc v=isAg v:=by cases v<;>rfl
theorem nK{t:TI}{c i off sz:Nat}{es:List AV}(hg:h.get c=zsq (.row es sz))(e:Cw t (.ptr c i off) v h=zsq h'):∃old,es[i]?=zsq old/\v.cells.length=t.size/\D5 v.cells=zt/\h'=h.set c (.row (es.set i (old.withCells off v.cells)) sz):=by
 have e:h.onRow c znq (Sl t c i off v.cells h)=zsq h':=e;rw[Gz hg]at e;obtain⟨old,h1,e⟩:=A1 e;obtain⟨A,e⟩:=A7 e;rw[R3]at h1;rw[zkc,zkc,zkc]at A;simp only[At]at e;cases e;refine⟨old,h1,?_,A.2,rfl⟩;grind[zkj,A5]
theorem uJ{t:TI}{p x:AV}(A:storeP t p x K=zsq K'):x≠.und:=fun e=>by
 subst e;unfold storeP at A;cases p with
 |ptr n i off=>
  simp only at A;cases G:rowOf K.os 6 n with
  |none=>grind
  |some t'=>
   obtain⟨k,es,sz⟩:=t';rw[G]at A;simp only at A;cases hi:es[i]? with
   |none=>grind
   |some u=>
    rw[hi]at A;simp only at A;split at A
    . cases B:rawAt K.os n with
      |true=>
       rw[B]at A;simp only at A;split at A
       . rename_i C;exact absurd C (by decide)
       . cases A
      |false=>
       rw[B]at A;simp only at A;have e1:(AV.und.cells.all clo&&((u.cells.drop off).take t.size).all clo)=zf:=rfl;rw[e1]at A;simp only[Bool.false_eq_true,if_false]at A;cases H:setRow (killP K.os (rootOf K.os 6 n) (chainOf K.os 6 n)) 6 n (es.set i (u.withCells off (zqd t.size .und)))with
       |none=>grind
       |some D=>
        rw[H]at A;simp only at A;have e2:sealC K.ext (rootOf K.os 6 n) n i off D AV.und.cells=znq:=rfl;grind
    . cases A
 |_=>cases A
theorem aQ{te:TI}{n c:Nat}:∀(qs ps:List (Nat×AV))(K K':PK)(ow:Nat->Option (List Nat))(h:Heap)(ces:List AV),G2 Z ow h K.os->VQ Z ow h K.os ps qs->(∀i,VR Z ow h K.os (.ptr c i 0) (.ptr n i 0))->h.get c=zsq (.row ces te.size)->(∀e∈ces,isAg e=isAg te.zero/\e.cells.length=te.size)->placeP te n qs K=zsq K' ->
 ∃A h' ow',placeL te.size ps ces=zsq A/\G2 Z ow' h' K'.os/\Keep' ow K.os ow' K'.os/\Stp K.ext Z ow h K Z ow' h' K'/\h'.get c=zsq (.row A te.size)/\(∀d,d≠c->h'.get d=h.get d)/\h'.next=h.next
 |[],ps,K,K',ow,h,ces,s,hv,B,hg,hsh,e=>by
  have:ps=[]:=zqj hv.1
  subst this;cases e;exact⟨ces,h,ow,rfl,s,.refl _ _,.refl _ _ _ _ _,hg,fun _ _=>rfl,rfl⟩
 |q::qs,[],K,K',ow,h,ces,s,hv,B,hg,hsh,e=>by have:=hv.1;simp at this
 |q :: qs,p::ps,K,K',ow,h,ces,s,hv,B,hg,hsh,e=>by
  obtain⟨⟨hi,H⟩,C⟩:=hv.inv;obtain⟨i,qv⟩:=q;obtain⟨i',pv⟩:=p;have hi:i'=i:=hi;subst hi;unfold placeP at e;split at e
  . rename_i D
    rw[kC,kC]at D;cases I:storeP te (.ptr n i' 0) qv K with
    |none=>rw[I]at e;cases e
    |some K1=>
     rw[I]at e;simp only at e;obtain⟨h1,ow1,g1,g2,V,X⟩:=aO s (B i') H I;obtain⟨old,o1,o2,o3,rfl⟩:=nK hg g1;have J:qv≠.und:=uJ I;have N:=H.shape J;have hol:=hsh old (zqa o1);have hokc:=(G5 _).1 o3;have Q:old.withCells 0 pv.cells=pv:=(by grind[Go.AM.withAll,Go.AM.okCell_nag])
     rw[Q]at g1 g2 X;have U:i'<ces.length:=(zqc.1 o1).1;have G:∀d,Z d->Z d/\(h.set c (.row (ces.set i' pv) te.size)).get d=h.get d:=fun d hd=>(X 0).zz d hd
     obtain ⟨A,h2,ow2,a1,a2,a3,a4,a5,a6,a7⟩:=aQ qs ps K1 K' ow1 (h.set c (.row (ces.set i' pv) te.size)) (ces.set i' pv) g2 ⟨C.1,fun j p q B Y=>⟨(C.2 j p q B Y).1,(C.2 j p q B Y).2.keep G V⟩⟩ (fun j=>(B j).keep G V) (Heap.get_set_eq _ _ hg) (fun e he=>by
      rcases List.mem_or_eq_of_mem_set he with h|h
      . exact hsh e h
      . subst h;exact⟨by rw[N.2,D],o2⟩) e
     refine⟨A,h2,ow2,?_,a2,V.trans a3,(X K.ext).trans s (by grind),a5,(by grind[Go.AM.Heap.get_set_ne]),a7⟩;show B3 (Nat.blt i' (lenL ces)&&Nat.beq (lenL pv.cells) te.size&&D5 pv.cells) (placeL te.size ps (setL ces i' pv))=zsq A
     rw[A5,A5,o2,zkh,o3,At]
     have:Nat.blt i' ces.length=zt:=zkg U
     rw[this];exact a1
  . cases e
theorem EH{t n:Nat}{ps:Array (Nat×Operand)}{ti te:TI}{fr:Tr}{es:List AV}(B:E.ti t=zsq ti)(A:elemOfT E ti.desc=zsq te)(h1:n*te.size<=65536)(h2:0<te.size)(hp:placeL te.size (opvps E ps.toList fr) (zqd n te.zero)=zsq es):L6 E t n ps fr h=.ok (.msl h.next 0 n te.size) (h.push (.row es te.size)):=by
 unfold L6 onTI;rw[B];simp only;rw[A];show(bif Nat.ble (Nat.mul n te.size) 65536&&Nat.blt 0 te.size then(match placeL te.size (opvps E ps.toList fr) (repL n te.zero)with|none=>Res.bad|some es=>.ok (.msl h.next 0 n te.size) (h.push (.row es te.size)))else .bad)=_
 have e1:Nat.ble (Nat.mul n te.size) 65536=zt:=zkg h1;grind[Nat.blt,zkg,m9]
theorem Ws{sz:Nat}:∀(qs ps:List (Nat×AV))(ys xs zs:List AV),VQ Z ow h os ps qs->xs.length=ys.length->(∀(i:Nat) x y,xs[i]?=zsq x->ys[i]?=zsq y->VR Z ow h os x y/\y.cells.length=sz/\∀b∈y.cells,Eh b=zt)->placeR sz qs ys=zsq zs->∃ws,placeL sz ps xs=zsq ws/\ws.length=zs.length/\zs.length=ys.length/\∀(i:Nat) x y,ws[i]?=zsq x->zs[i]?=zsq y->VR Z ow h os x y/\y.cells.length=sz/\∀b∈y.cells,Eh b=zt
 |[],ps,ys,xs,zs,hv,hl,hr,e=>by
  have:ps=[]:=zqj hv.1
  subst this;cases e;exact⟨xs,rfl,hl,rfl,hr⟩
 |q::qs,[],ys,xs,zs,hv,hl,hr,e=>by have:=hv.1;simp at this
 |q :: qs,p::ps,ys,xs,zs,hv,hl,hr,e=>by
  obtain⟨⟨hi,G⟩,H⟩:=hv.inv;obtain⟨i,I⟩:=q;obtain⟨i',pv⟩:=p;have hi:i'=i:=hi;subst hi;unfold placeR at e;split at e
  . rename_i hc
    obtain⟨h1,N,J⟩:=hc;rw[zqf]at J;have C:I≠.und:=fun e=>by subst e;exact absurd (J .und (zqh ..)) (by decide)
    have A:=G.cells C;have D:D5 pv.cells=zt:=(G5 _).2 fun c hc=>by
     obtain⟨j,Q⟩:=zqe hc;have B:j<I.cells.length:=by rw[<-A.1];grind
     exact(A.2 j c _ Q (zqb B)).okc (J _ (zqn B))
    obtain⟨ws,U,a2,a3,V⟩:=Ws qs ps (ys.set i' I) (xs.set i' pv) zs H (by simp[hl]) (by grind) e;refine⟨ws,?_,a2,by grind,V⟩;show B3 (Nat.blt i' (lenL xs)&&Nat.beq (lenL pv.cells) sz&&D5 pv.cells) (placeL sz ps (setL xs i' pv))=zsq ws
    rw[A5,A5,A.1,N,zkh,D,At]
    have:Nat.blt i' xs.length=zt:=zkg (by omega)
    rw[this];exact U
  . cases e
theorem nL(hT:KO E)(s:G2 Z ow h K.os)(C:K.ext<=K.os.length){n e:Nat}{te:TI}(U:E.ti e=zsq te){ps qs:List (Nat×AV)}(Q:VQ Z ow h K.os ps qs)(e:Cj te n qs K=zsq (v,K')):
 n*te.size<=65536/\0<te.size/\∃es ow',placeL te.size ps (zqd n te.zero)=zsq es/\G2 Z ow' (h.push (.row es te.size)) K'.os/\Keep' ow K.os ow' K'.os/\VR Z ow' (h.push (.row es te.size)) K'.os (.msl h.next 0 n te.size) v/\∀b,Stp b Z ow h K Z ow' (h.push (.row es te.size)) K':=by
 have hz:=hT _ _ U;have B:∀ob d,d<h.next->(h.push ob).get d=h.get d:=fun ob d A=>Heap.get_push_ne h _ (by omega)
 unfold Cj at e;split at e
 . rename_i hc
   refine⟨hc.1,hc.2,?_⟩;have hrep:∀{i:Nat}{x:AV},(zqd n te.zero)[i]?=zsq x->x=te.zero:=fun{i x} h=>(zqo.1 (zqa h)).2
   cases H:placeP te K.os.length qs (newRow 0 (zqd n te.zero) te.size K)with
   |some K1=>
    rw[H]at e;cases e;obtain⟨z1,z2,z3,z4⟩:=jV (n:=n) s C hz.1 hz.2;have X:∀d,Z d->Z d/\(h.push (.row (zqd n te.zero) te.size)).get d=h.get d:=fun d A=>⟨A,B _ d (s.zb d A)⟩
    have Y:∀i,VR Z (j3 ow h.next [K.os.length]) (h.push (.row (zqd n te.zero) te.size)) (newRow 0 (zqd n te.zero) te.size K).os (.ptr h.next i 0) (.ptr K.os.length i 0):=fun i=>.ptr (fun L hL=>by
     have hL:loP (K.os++[PO.row 0 (zqd n te.zero) te.size]) 6 K.os.length=zsq L:=hL;rw[Ol _ (.inl ⟨_,_,_,rfl⟩)]at hL;cases hL;exact U7 _ _ _) (by show _<(K.os++[PO.row 0 (zqd n te.zero) te.size]).length;simp)
    obtain⟨es,h2,ow2,a1,a2,a3,N,a5,a6,a7⟩:=aQ qs ps _ _ _ _ (zqd n te.zero) z1 ⟨Q.1,fun i p q H hq=>⟨(Q.2 i p q H hq).1,(Q.2 i p q H hq).2.keep X z2⟩⟩ Y (Heap.get_push_eq h _) (fun e V=>by rw[(zqo.1 V).2];exact⟨rfl,hz.2⟩) H;have I:∀d,(h.push (.row es te.size)).get d=h2.get d:=(by grind[Go.AM.Heap.get_push_eq,Go.AM.Heap.get_push_ne])
    have aa:(h.push (.row es te.size)).next=h2.next:=a7.symm;have st:=(z4 K.ext).trans s N;have ab:=z2.trans a3;refine⟨es,ow2,a1,a2.congr aa I,ab,(z3.keep (Z':=Z) (h':=h2) (fun d A=>N.zz d A) a3).keep (fun d A=>⟨A,I d⟩) (.refl _ _),fun b=>⟨Nat.le_succ _,fun d A=>⟨A,B _ d (s.zb d A)⟩,fun _ A=>.inl A,fun d A _=>B _ d A,st.uo,⟨[],rfl,fun d A=>by cases A⟩,st.mv,st.tm,st.ex,st.xk,st.rd⟩⟩
   |none=>
    rw[H]at e;simp only at e;cases hr:placeR te.size qs (zqd n te.zero)with
    |none=>grind
    |some zs=>
     rw [hr]at e;cases e;have ac:∀b∈te.zero.cells,Eh b=zt:=fun b hb=>by
      obtain⟨i,hi⟩:=zqe hb;exact clo_okP ((hz.1 Z h).cell hi hi).2
     obtain⟨ws,a1,a2,a3,N⟩:=Ws qs ps (zqd n te.zero) (zqd n te.zero) zs Q rfl (fun i x y C D=>by rw[hrep C,hrep D];exact⟨.fz (hz.1 Z h),hz.2,ac⟩) hr;have J:∀y:AV,(∀b∈y.cells,Eh b=zt)->y≠.und:=fun y D e=>by subst e;exact absurd (D .und (zqh ..)) (by decide)
     have V:(∃k es z',PO.row 2 zs te.size=.row k es z')\/∃es,PO.row 2 zs te.size=.mapo es:=.inl ⟨_,_,_,rfl⟩;have G:=PT.lay (ob:=.row ws te.size) s (e:=.row 2 zs te.size) (Ck _ V) (fun es z e=>by cases e) (fun k es z e hk=>by
      cases e;refine⟨h.next,ws,U7 _ _ _,Nat.lt_succ_self _,Rw h _,⟨a2,fun i x y C D=>?_⟩,fun i x y C D o a b ha hb=>?_,fun i y D b hb=>?_,Mx s⟩
      . obtain⟨b1,b2,b3⟩:=N i x y C D
        have:=b1.shape (J y b3)
        grind
      . obtain⟨b1,b2,b3⟩:=N i x y C D
        exact(b1.cells (J y b3)).2 o a b ha hb
      grind) (fun es e=>by cases e)
     refine⟨ws,_,a1,G2.to G.1 (fun d A=>⟨A,B _ d (s.zb d A)⟩) G.2,G.2,.msl (fun L hL=>?_) (by show _<(K.os++[PO.row 2 zs te.size]).length;simp),fun b=>Stp.lay s C⟩;have hL:loP (K.os++[PO.row 2 zs te.size]) 6 K.os.length=zsq L:=hL;grind[Ol,U7]
 . cases e
end
section
variable {E:Env}{R:AV->AV->Prop}{Z Z':Nat->Prop}{ow ow' ow1 ow2:Nat->Option (List Nat)}{h h':Heap}{K K':PK}{os os' os1 os2:List PO}{x y xc yc v k:AV}{L M:List Nat}
def ClR(Z:Nat->Prop)(h:Heap)(sz:Nat)(a b:AV):Prop:=(a.cells.length=sz/\b.cells.length=sz/\isAg a=isAg b)/\∀(o:Nat) u w,a.cells[o]?=zsq u->b.cells[o]?=zsq w->Fz Z h u w/\clo w=zt
theorem Cl{es:List AV}(hf:Ci es=zt){i:Nat}{b:AV}(hb:es[i]?=zsq b){o:Nat}{w:AV}(A:b.cells[o]?=zsq w):clo w=zt:=
 zqf.1 (zqf.1 hf b (zqa hb)) w (zqa A)
theorem AE{u w:AV}(c:CR Z ow h L u w)(A:clo w=zt):Fz Z h u w/\uU ow L:=by
 cases c with
 |val f _ n=>grind
 |_=>cases A
theorem nM{te:TI}{xs:List AV}{ext:Nat}(p:G2 Z ow h os)(C:VR Z ow h os xc x)(H:takeE te x ext [] os=zsq (xs,os2))(hf:Ci xs=zt):
 ∃xcs,elems xc h=zsq xcs/\F7 te.size xcs=zt/\xcs.length=xs.length/\∀(i:Nat) a b,xcs[i]?=zsq a->xs[i]?=zsq b->ClR Z h te.size a b:=by
 obtain⟨ow2,xcs,h1,I,t⟩:=jX p C H;refine⟨xcs,h1,I,t.ln,fun i a b ha hb=>?_⟩;rcases t.alt with⟨_,hz⟩|⟨q,c0,_,_,J,hc,_⟩
 . obtain⟨f,hl⟩:=hz i a b ha hb
   have B:b≠.und:=fun e=>by subst e;have:=Cl hf hb (o:=0) (w:=.und) rfl;cases this
   have C:VR Z ow h os a b:=.fz f;refine⟨⟨(C.shape B).1.trans hl,hl,(C.shape B).2⟩,fun o u w G D=>?_⟩;have A:=Cl hf hb D;exact⟨((C.cells B).2 o u w G D).fzc A,A⟩
 . refine⟨J.2 i a b ha hb,fun o u w G D=>?_⟩
   have A:=Cl hf hb D;exact⟨(AE (hc i a b ha hb o u w G D) A).1,A⟩
theorem Stp.more{b r:Nat}(s:Stp b Z ow h K Z' ow' h' K'):Stp b Z ow h K Z' ow' h' {K' with tch:=r::K'.tch}:=by
 obtain⟨l,e,f⟩:=s.th;refine⟨s.nx,s.zz,s.zn,s.un,s.uo,⟨l,e,fun id hi=>?_⟩,fun id r t ho A=>?_,fun r A hl=>zqp _ (s.tm r A hl),s.ex,s.xk,s.rd⟩
 . grind
 . rcases s.mv id r t ho A with h|h
   . exact .inl h
   grind
theorem EI{te:TI}{dc:AV}{id off n:Nat}{q:List AV×List PO}(s:G2 Z ow h K.os)(H:VR Z ow h K.os dc (.msl id off n te.size))(hx:VR Z ow h K.os xc x)(hq:takeE te x K.ext [] K.os=zsq q)(e:qR te.size id off n q.1 K=zsq (v,K')):
 ∃xcs,elems xc h=zsq xcs/\F7 te.size xcs=zt/\∃h',fI te dc xcs h=zsq (v,h')/\G2 Z ow h' K'.os/\Keep' ow K.os ow K'.os/\(∀b,Stp b Z ow h K Z ow h' K')/\VR Z ow h' K'.os v v:=by
 obtain⟨xs,os2⟩:=q;unfold qR at e;split at e
 . rename_i es z D
   split at e
   . rename_i hc
     obtain ⟨rfl,hle,ab,ak⟩:=hc;obtain⟨xcs,g1,g2,g3,g4⟩:=nM s hx hq ak;refine⟨xcs,g1,g2,?_⟩;have Q:loP K.os 6 id=zsq [id]:=by
      show(match K.os[id]? with|some (.row _ _ _)=>zsq [id]|some (.mapo _)=>zsq [id]|some (.sub p i o)=>(loP K.os 5 p).map (· ++ [i,o])|_=>znq)=_
      rw[D]
     have hr:rowOf K.os 6 id=zsq (0,es,te.size):=by
      show(match K.os[id]? with|some (.row k es sz)=>zsq (k,es,sz)|some (.sub p i o)=>_|_=>znq)=_
      rw[D]
     have U:rawAt K.os id=zf:=by unfold rawAt;rw[D];rfl
     obtain⟨x0,ac⟩:=s.row id es te.size D;generalize hy:AV.msl id off n te.size=y at H;cases H with
     |fz f=>cases f<;>cases hy
     |mnil e1 h1 _=>
      cases hy;rcases ac.inv with⟨_,rfl,_,_⟩|⟨c0,_,_,h4,_⟩
      . simp only[List.take_nil,Nat.zero_min,List.take_zero,List.drop_nil,zql]at e
        cases e;have ae:K.os.set id (.row 0 [] te.size)=K.os:=by
         apply List.ext_getElem?;intro j;rw[List.getElem?_set];split
         . rename_i hj;subst hj;exact D.symm
         . rfl
        refine⟨h,?_,?_,?_,fun b=>?_,.i _ _⟩
        . rcases e1 with rfl|rfl<;>rfl
        . show G2 Z ow h (K.os.set id (.row 0 [] te.size));rw[ae];exact s
        . grind[Keep']
        . have:=(Stp.refl b Z ow h K).more (r:=id)
          grind
      grind
     |@msl id' c off' n' sz' h2 h3=>
      cases hy;have B:=h2 _ Q;rcases ac.inv with⟨_,_,_,h4⟩|⟨c0,ces,_,h4,h5,h6,h7,h8,h9⟩
      . exact absurd (by grind) (h4 c [])
      . have:c=c0:=s.inj _ _ _ B h4
        subst this;cases e;generalize hk:min n xs.length=A;have hlc:=h7.1;have hkn:A<=n:=by omega
        have hkx:A<=xs.length:=by omega
        have hsp:∀{l a:List AV},off+n<=l.length->A<=a.length->∀i,(l.take off++(a.take A++l.drop (off+A)))[i]?=if off<=i/\i<off+A then a[i-off]? else l[i]?:=fun{l a} hl ha i=>by
         have af:(a.take A).length=A:=by grind
         have:=j2 (l:=l) (us:=a.take A) (p:=off) (j:=i) (by omega)
         unfold lsplice at this;rw[af]at this;rw[this];split
         . rw[zqu,if_pos (by omega)]
         . rfl
        have hold:∀(i:Nat) a b,ces[i]?=zsq a->es[i]?=zsq b->ClR Z h te.size a b:=fun i a b ha hb=>⟨h7.2 i a b ha hb,fun o u w N I=>by
         have V:=Cl ab hb I;exact⟨(AE (h9 i a b ha hb o u w N I) V).1,V⟩⟩
        have ag:isRt K.os id=zt:=by
         obtain⟨_,_,r,t,e,h⟩:=s.live _ _ B;cases e;exact h
        have ah:∀i o,i<es.length->o<te.size->uU ow ([id]++[i,o]):=fun i o hi ho=>by
         have ha:=zqb (show i<ces.length by omega);have hb:=zqb hi;have hsh:=h7.2 i _ _ ha hb;have N:=zqb (show o<(ces[i]).cells.length by omega);have I:=zqb (show o<(es[i]).cells.length by omega);exact(AE (h9 i _ _ ha hb o _ _ N I) (Cl ab hb I)).2
        generalize hce:ces.take off++(xcs.take A++ces.drop (off+A))=C;generalize hee:es.take off++(xs.take A++es.drop (off+A))=es';have hcel:C.length=ces.length:=by grind
        have X:es'.length=es.length:=by grind
        have G:∀(i:Nat) a b,C[i]?=zsq a->es'[i]?=zsq b->ClR Z h te.size a b:=(by grind)
        have ai:fI te (.msl c off n te.size) xcs h=zsq (.int .i64 (Int.ofNat A),h.set c (.row C te.size)):=by
         show h.onRow c znq (Kr te c off n xcs h)=_
         rw [Gz h6];unfold Kr;rw[B6];have aj:(bif Nat.ble n (lenL xcs)then n else lenL xcs)=A:=by
          grind[A5,Nat.le_of_ble_eq_true,zkg]
         rw[aj,A5,zkg (show Nat.add off n<=ces.length by show off+n<=_;omega),zkh];show zsq (AV.int .i64 (Int.ofNat A),h.set c (.row (appL (takeL ces off) (appL (takeL xcs A) (dropL ces (Nat.add off A)))) te.size))=_
         grind[L7,G8,G7]
        have J:∀ob d,Z d->Z d/\(h.set c ob).get d=h.get d:=fun ob d H=>⟨H,Heap.get_set_ne _ _ fun e=>by subst e;exact(s.live _ _ B).2.1 H⟩
        have d:Dl Z ow h Z ow (h.set c (.row C te.size)) [id]:=⟨zke _,J _,fun _ _ _=>.rfl,fun d M H hM=>Heap.get_set_ne _ _ fun e=>by subst e;rw[B]at H;cases H;exact hM (.refl _)⟩
        have Y:setRow K.os 6 id es'=zsq (K.os.set id (.row 0 es' te.size)):=by
         show(match K.os[id]? with|some (.row k _ sz)=>zsq (K.os.set id (.row k es' sz))|some (.sub p i o)=>_|_=>znq)=_
         rw[D]
        have aa:Keep' ow K.os ow (K.os.set id (.row 0 es' te.size)):=⟨by simp,fun j _ L' hl=>⟨L',by grind[Be],fun _=>.rfl⟩⟩
        refine⟨_,ai,G2.to (s.set d s.inj s.live s.zb (fun _ _ _ _ _ _ hi=>hi) 6 id 0 es te.size es' _ [id] [] (by simp) hr Q U Y fun x1 ad=>?_) (J _) aa,aa,fun b=>Stp.store s (r:=id) (t:=[]) (c:=c) B ag (by grind) (fun d q t ho _=>.inl ⟨t,ho⟩) (fun j _ c _=>.rfl) (by grind[Go.AM.isRt_set]),.i _ _⟩;rcases ad.inv with⟨_,_,_,n4⟩|⟨c1,ces1,rfl,n4,_⟩
        . exact absurd (by grind) (n4 c [])
        . have:c=c1:=s.inj _ _ _ B n4
          subst this;rw[<-X];refine .own B h5 (Heap.get_set_eq _ _ h6) (by omega) (by grind) (fun i a b ha hb=>(G i a b ha hb).1) fun i a b ha hb o u w N I=>?_
          obtain⟨q1,q2⟩:=(G i a b ha hb).2 o u w N I;refine .val (q1.mono (J _)) q2 (ah i o ?_ ?_)
          . grind
          . rw[<-(G i a b ha hb).1.2.1];grind
     |_=>cases hy
   . cases e
 . cases e
end
section
variable {E:Env}{R:AV->AV->Prop}{Z Z':Nat->Prop}{ow ow' ow1 ow2:Nat->Option (List Nat)}{h h':Heap}{K K':PK}{os os' os1 os2:List PO}{x y xc yc v k:AV}{L M:List Nat}
theorem Ry{o:Option (AV×PK)}(e:Mo o=.val v K'):o=zsq (v,K'):=by
 cases o with
 |none=>cases e
 |some p=>cases e;rfl
theorem X2{o:Option AV}(e:Bp o K=.val v K'):o=zsq v/\K'=K:=by
 cases o with
 |none=>cases e
 |some p=>cases e;grind
theorem M5{t:Nat}{f:TI->OpS}(e:X8 E t f=.val v K'):∃ti,E.ti t=zsq ti/\f ti=.val v K':=by
 unfold X8 at e;grind
structure Did'(Z:Nat->Prop)(ow:Nat->Option (List Nat))(h:Heap)(K:PK)(r:Res)(v:AV)(K':PK)(ow':Nat->Option (List Nat))(vc:AV)(h':Heap):Prop where
 r:r=.ok vc h'
 st:G2 Z ow' h' K'.os
 kp:Keep' ow K.os ow' K'.os
 vr:VR Z ow' h' K'.os vc v
 sp:∀b,Stp b Z ow h K Z ow' h' K'
theorem Did'.same(s:G2 Z ow h K.os){r:Res}{vc:AV}(A:r=.ok vc h)(B:VR Z ow h K.os vc v):Did' Z ow h K r v K ow vc h:=⟨A,s,.refl _ _,B,fun b=>.refl _ _ _ _ _⟩
theorem N8{α:Type}{t:Nat}{ti:TI}(A:E.ti t=zsq ti)(d:α)(f:TI->α):onTI E t d f=f ti:=by unfold onTI;rw[A]
theorem nN(hT:KO E)(s:G2 Z ow h K.os)(hx:K.ext<=K.os.length){b:Builtin}{ts:List TypeId}{args A:List AV}(hl:VL Z ow h K.os A args)(e:E0 E b ts args K=zsq (v,K')):∃ow' vc h',Did' Z ow h K (lift2 (E9 E b ts A h)) v K' ow' vc h':=by
 have I:∀{vc:AV},E9 E b ts A h=zsq (vc,h)->VR Z ow h K.os vc v->K'=K->∃ow' vc h',Did' Z ow h K (lift2 (E9 E b ts A h)) v K' ow' vc h':=fun{vc} e1 e2 e3=>by
  subst e3;rw[e1];exact⟨ow,vc,h,.same s rfl e2⟩
 unfold E0 at e;split at e
 . -- len
   rename_i t _ x _;cases G:E.ti t with
   |none=>rw[G]at e;cases e
   |some ti=>
    rw[G]at e;simp only at e;cases hn:KJ ti.desc x K with
    |none=>rw[hn]at e;cases e
    |some n=>
     rw [hn]at e;cases e;obtain⟨xc,C,rfl⟩:∃xc C,A=xc::C:=by
      cases A with
      |nil=>have:=hl.1;simp at this
      |cons a l=>exact⟨a,l,rfl⟩
     refine I (vc:=.int .i64 (Int.ofNat n)) ?_ (.i _ _) rfl;show onTI E t znq (fun ti=>A6 (lF ti.desc xc h) fun n=>M6 n fun n=>zsq (AV.int .i64 (Int.ofNat n),h))=_
     rw[N8 G,AD s hl.inv.1 hn];exact B6 n (fun n=>zsq (AV.int .i64 (Int.ofNat n),h))
 . -- append
   rename_i t tx tr sl x _;cases G:E.ti t with
   |none=>rw[G]at e;cases e
   |some ti=>
    cases U:E.ti tx with
    |none=>rw[G,U]at e;cases e
    |some H=>
     rw[G,U]at e;simp only at e;cases B:elemOfT E ti.desc with
     |none=>rw[B]at e;cases e
     |some te=>
      rw[B]at e;simp only at e;split at e
      . rename_i hsz
        obtain ⟨sc,xc,C,rfl⟩:∃sc xc C,A=sc::xc::C:=by
         cases A with
         |nil=>have:=hl.1;simp at this
         | cons a l=>cases l with
          |nil=>have:=hl.1;simp at this
          |cons b l=>exact⟨a,b,l,rfl⟩
        have ab:=hl.inv.1;have ac:=hl.inv.2.inv.1;have hb:E9 E .append (t::tx::tr) (sc::xc::C) h=(match H.desc with
         |.int _=>A6 (asNat xc) fun n=>B3 (Nat.ble (Nat.mul n te.bytes) 140737488355328) (H4 te sc (repL n te.zero) h)
         |_=>A6 (elems xc h) fun xs=>B3 (F7 te.size xs) (H4 te sc xs h)):=by
         show onTI E t znq (fun ti=>A6 (elemOfT E ti.desc) fun te=>B3 (Nat.blt 0 te.size) (onTI E tx znq fun H=>match H.desc with
          |.int _=>A6 (asNat xc) fun n=>B3 (Nat.ble (Nat.mul n te.bytes) 140737488355328) (H4 te sc (repL n te.zero) h)
          |_=>A6 (elems xc h) fun xs=>B3 (F7 te.size xs) (H4 te sc xs h)))=_
         rw[N8 G,B];show B3 (Nat.blt 0 te.size) _=_
         have:Nat.blt 0 te.size=zt:=zkg hsz
         rw[this];show onTI E tx znq _=_
         rw[N8 U]
        have hz:(∀Z h,Fz Z h te.zero te.zero)/\te.zero.cells.length=te.size:=by
         unfold elemOfT at B;cases X:ti.desc with
         |slice el=>rw[X]at B;exact hT _ _ B
         |_=>rw[X]at B;cases B
        have app:∀{x:AV}{xcs xs:List AV},True:=fun{_ _ _}=>trivial
        have N:(∀k,H.desc≠.int k)->U5 te sl x K=zsq (v,K')->∃ow' vc h',Did' Z ow h K (lift2 (E9 E .append (t::tx::tr) (sc::xc::C) h)) v K' ow' vc h':=fun Q e=>by
         unfold U5 at e;cases D:takeB te sl K.os with
         |none=>rw[D]at e;cases e
         |some q=>
          obtain⟨base,os1,tc⟩:=q;rw[D]at e;simp only at e;cases J:takeE te x K.ext tc os1 with
          |none=>rw[J]at e;cases e
          |some q=>
           obtain⟨xs,os2⟩:=q;rw[J]at e;simp only at e;split at e
           . rename_i hw
             obtain⟨ow1,Y⟩:=Wq s ab D;obtain⟨ow2,xcs,g1,g2,tk⟩:=jX Y.pt (ac.keep (fun _ hz=>⟨hz,rfl⟩) Y.keep) J;obtain⟨vc,h',owf,a1,a2,a3,a4,a5⟩:=qW s hx Y tk hw e;refine⟨owf,vc,h',?_,a2,a3,a4,a5⟩
             have:E9 E .append (t::tx::tr) (sc::xc::C) h=zsq (vc,h'):=by
              rw [hb];have e2:(A6 (elems xc h) fun xs=>B3 (F7 te.size xs) (H4 te sc xs h))=zsq (vc,h'):=by
               rw[g1];show B3 (F7 te.size xcs) (H4 te sc xcs h)=_
               rw[g2];exact a1
              cases X:H.desc with
              |int k=>exact absurd X (Q k)
              |_=>exact e2
             rw[this];rfl
           . cases e
        split at e
        . rename_i kk X
          cases hn:asNat x with
          |none=>rw[hn]at e;cases e
          |some n=>
           rw[hn]at e;simp only at e;split at e
           . rename_i aa
             unfold qQ at e;cases D:takeB te sl K.os with
             |none=>rw[D]at e;cases e
             |some q=>
              obtain⟨base,os1,tc⟩:=q;rw[D]at e;simp only at e;split at e
              . rename_i hw
                obtain⟨ow1,Y⟩:=Wq s ab D;have hrep:∀{i:Nat}{x:AV},(zqd n te.zero)[i]?=zsq x->x=te.zero:=fun{i x} h=>(zqo.1 (zqa h)).2
                have tk:TkE (VR Z ow h K.os) Z ow1 h os1 K.ext tc te (zqd n te.zero) (zqd n te.zero) os1 ow1:=.closed Y.pt rfl fun i a b ha hb=>by rw[hrep ha,hrep hb];exact⟨hz.1 Z h,hz.2⟩
                have ad:(!(zqd n te.zero).isEmpty||wholeP sl K.os)=zt:=by
                 cases n with
                 |zero=>simpa using hw
                 |succ n=>rfl
                obtain⟨vc,h',owf,a1,a2,a3,a4,a5⟩:=qW s hx Y tk ad e;refine⟨owf,vc,h',?_,a2,a3,a4,a5⟩
                have:E9 E .append (t::tx::tr) (sc::xc::C) h=zsq (vc,h'):=by
                 rw[hb,X];show A6 (asNat xc) (fun n=>B3 (Nat.ble (Nat.mul n te.bytes) 140737488355328) (H4 te sc (repL n te.zero) h))=_
                 rw[x5 ac hn];show B3 (Nat.ble (Nat.mul n te.bytes) 140737488355328) (H4 te sc (repL n te.zero) h)=_
                 have:Nat.ble (Nat.mul n te.bytes) 140737488355328=zt:=zkg aa
                 rw[this,m9];exact a1
                rw[this];rfl
              . cases e
           . cases e
        . rename_i Q
          exact N (fun k hk=>Q k hk) e
      . cases e
 . -- copy
   rename_i t tr id off n z x xr;cases G:E.ti t with
   |none=>rw[G]at e;cases e
   |some ti=>
    rw[G]at e;dsimp only at e;cases B:elemOfT E ti.desc with
    |none=>rw[B]at e;cases e
    |some te=>
     rw[B]at e;dsimp only at e;split at e
     . rename_i hz
       subst hz;split at e
       . rename_i q hq
         obtain ⟨dc,xc,C,rfl⟩:∃sc xc C,A=sc::xc::C:=by
          cases A with
          |nil=>have:=hl.1;simp at this
          | cons a l=>cases l with
           |nil=>have:=hl.1;simp at this
           |cons b l=>exact⟨a,b,l,rfl⟩
         obtain⟨xcs,g1,g2,h',a1,a2,a3,a4,a5⟩:=EI s hl.inv.1 hl.inv.2.inv.1 hq e;refine⟨ow,v,h',?_,a2,a3,a5,a4⟩
         have:E9 E .copy (t::tr) (dc::xc::C) h=zsq (v,h'):=by
          show onTI E t znq (fun ti=>A6 (elemOfT E ti.desc) fun te=>A6 (elems xc h) fun xs=>B3 (F7 te.size xs) (fI te dc xs h))=_
          rw[N8 G,B];show A6 (elems xc h) _=_
          rw[g1];show B3 (F7 te.size xcs) _=_
          rw[g2];exact a1
         rw[this];rfl
       . cases e
     . cases e
 . -- max
   rename_i _ x l;obtain⟨xc,C,rfl⟩:∃xc C,A=xc::C:=by
    cases A with
    |nil=>have:=hl.1;simp at this
    |cons a l=>exact⟨a,l,rfl⟩
   cases V:Ni l x with
   |none=>rw[V]at e;cases e
   |some w=>
    rw[V]at e;cases e;obtain⟨vc,h1,h2⟩:=kA l C x xc v hl.inv.2 hl.inv.1 V;exact I (vc:=vc) (show(Ni C xc).map (·,h)=_ by rw[h1];rfl) h2 rfl
 . rename_i _ x l
   obtain ⟨xc,C,rfl⟩:∃xc C,A=xc::C:=by
    cases A with
    |nil=>have:=hl.1;simp at this
    |cons a l=>exact⟨a,l,rfl⟩
   cases V:Qg l x with
   |none=>rw[V]at e;cases e
   |some w=>
    rw[V]at e;cases e;obtain⟨vc,h1,h2⟩:=kB l C x xc v hl.inv.2 hl.inv.1 V;exact I (vc:=vc) (show(Qg C xc).map (·,h)=_ by rw[h1];rfl) h2 rfl
 . cases e
end
section
variable {E:Env}{R:AV->AV->Prop}{Z Z':Nat->Prop}{ow ow' ow1 ow2:Nat->Option (List Nat)}{h h':Heap}{K K':PK}{os os' os1 os2:List PO}{x y xc yc v k:AV}{L M:List Nat}{nt:Nat}{frc:Tr}{fr:PF}
theorem Cm(hg:BG E)(hT:KO E)(s:G2 Z ow h K.os)(Y:K.ext<=K.os.length)(a:r7 Z ow h K.os nt frc fr){op:Op}(e:prim E op fr K=.val v K')(call:D4):∃ow' vc h',Did' Z ow h K (evOp E call op frc h) v K' ow' vc h':=by
 have V:=Ae hg a;cases op with
 |move x=>cases e;exact⟨ow,_,h,.same s rfl (V x)⟩
 |assign x=>cases e;exact⟨ow,_,h,.same s rfl (V x)⟩
 |pick c p q=>
  have e:Mp (opvP E c fr) (opvP E p fr) (opvP E q fr) K=.val v K':=e;have Vc:=V c;cases hc:opvP E c fr with
  |bool b=>
   rw[hc]at e Vc;have ae:=Vc.isB;cases b with
   |true=>cases e;exact⟨ow,_,h,.same s (show(opv E c frc).onBool Res.bad (fun t=>match t with|true=>.ok (opv E p frc) h|false=>.ok (opv E q frc) h)=_ by rw[ae];rfl) (V p)⟩
   |false=>cases e;exact⟨ow,_,h,.same s (show(opv E c frc).onBool Res.bad (fun t=>match t with|true=>.ok (opv E p frc) h|false=>.ok (opv E q frc) h)=_ by rw[ae];rfl) (V q)⟩
  |_=>rw[hc]at e;cases e
 |alloc t=>
  obtain ⟨ti,B,e⟩:=M5 e;cases e;have hz:=hT t ti B;obtain⟨J,N,Q,U⟩:=qV s Y (.fz (hz.1 Z h)) hz.2 (fun b hb=>by
   obtain⟨i,hi⟩:=zqe hb;exact clo_okP ((hz.1 Z h).cell hi hi).2)
  exact⟨_,_,_,show onTI E t Res.bad (fun ti=>lG ti.size ti.zero h)=_ by rw[N8 B];rfl,J,N,Q,U⟩
 |box t x=>
  obtain⟨ti,B,e⟩:=M5 e;have e:(if(opvP E x fr).cells.length=ti.size/\(opvP E x fr).cells.all Eh=zt then OpS.val (.ptr K.os.length 0 0) (newRow 1 [opvP E x fr] ti.size K)else .bad)=.val v K':=e;split at e
  . rename_i hc
    cases e;have aa:=zqf.1 hc.2;obtain⟨J,N,Q,U⟩:=qV s Y (V x) hc.1 aa;have ab:opvP E x fr≠.und:=fun e=>by
     have:=aa .und (by rw[e];exact zqh ..)
     cases this
    have ac:=(V x).cells ab;have af:D5 (opv E x frc).cells=zt:=(G5 _).2 fun c ai=>by
     obtain⟨j,hj⟩:=zqe ai;have ag:j<(opvP E x fr).cells.length:=by rw[<-ac.1];exact(zqc.1 hj).1
     exact(ac.2 j c _ hj (zqb ag)).okc (aa _ (zqn ag))
    refine⟨_,_,_,?_,J,N,Q,U⟩;show onTI E t Res.bad (fun ti=>bif Nat.beq (lenL (opv E x frc).cells) ti.size&&D5 (opv E x frc).cells then lG ti.size (opv E x frc) h else .bad)=_
    rw[N8 B,A5,ac.1,hc.1,zkh,af];rfl
  . cases e
 |build t ps=>
  obtain⟨ti,B,e⟩:=M5 e;obtain⟨C,rfl⟩:=X2 e;have e:=C;obtain⟨vc,h1,D⟩:=nJ hT B (My hg a ps.toList) e;exact⟨ow,vc,h,.same s (show onTI E t Res.bad (fun ti=>lift (R9 E ti (opvps E ps.toList frc)) h)=_ by rw[N8 B,h1];rfl) D⟩
 |buildSlice t n ps=>
  obtain⟨ti,B,e⟩:=M5 e;cases A:elemOfT E ti.desc with
  |none=>simp only[A]at e;cases e
  |some te=>
   simp only[A]at e;have e:=Ry e;obtain⟨el,aj⟩:∃el,E.ti el=zsq te:=by
    unfold elemOfT at A;cases hd:ti.desc with
    |slice el=>rw[hd]at A;exact⟨el,A⟩
    |_=>rw[hd]at A;cases A
   obtain⟨g1,g2,es,ow',g3,J,N,Q,U⟩:=nL (e:=el) hT s Y aj (My hg a ps.toList) e;exact⟨ow',_,_,EH B A g1 g2 g3,J,N,Q,U⟩
 |insert t m k x=>cases e
 |load t p=>
  obtain⟨ti,B,e⟩:=M5 e;obtain⟨vc,h1,D,h3,h4,h5,h6,ps,h7,h8⟩:=jU s (V p) (Ry e);refine⟨ow,vc,h,show onTI E t Res.bad (fun ti=>lift (Ev ti (opv E p frc) h) h)=_ by rw[N8 B,h1];rfl,D,h3,h4,fun b=>⟨zke _,fun _ hz=>⟨hz,rfl⟩,fun _ hz=>.inl hz,fun _ _ _=>rfl,fun d M ho _ e=>(by rw[ho]at e;cases e),⟨[],rfl,fun d hd=>(by cases hd)⟩,fun d r t ho _=>.inl ⟨t,ho⟩,fun r hr _=>(by rw[h6];exact hr),h5,fun j _ c _=>.rfl,fun j hj hr=>?_⟩⟩;unfold isRt at hr|-;rw[h7,zqq (by omega)]at hr;exact hr
 |store t p x=>
  obtain⟨ti,B,e⟩:=M5 e;have e:=Ry e;cases hs:storeP ti (opvP E p fr) (opvP E x fr) K with
  |none=>rw[hs]at e;cases e
  |some K1=>
   rw[hs]at e;cases e;obtain⟨h',ow',g1,g2,g3,g4⟩:=aO s (V p) (V x) hs;exact⟨ow',.und,h',show onTI E t Res.bad (fun ti=>liftH (Cw ti (opv E p frc) (opv E x frc) h))=_ by rw[N8 B,g1];rfl,g2,g3,.und,g4⟩
 |nilCheck x=>
  obtain⟨C,rfl⟩:=X2 e;have e:=C;obtain⟨vc,h1,D⟩:=eG (V x) e;exact⟨ow,vc,h,.same s (show lift (j7 (opv E x frc)) h=_ by rw[h1];rfl) D⟩
 |binOp op t x y u=>
  have e:(if Oi (opvP E x fr)=zt/\Oi (opvP E y fr)=zt then Bp (J1 op (N2 E t) (opvP E x fr) (opvP E y fr)) K else .bad)=.val v K':=e;split at e
  . rename_i hc
    obtain ⟨C,rfl⟩:=X2 e;have e:=C;obtain⟨h1,D⟩:=nG (V x) (V y) hc.1 hc.2 e;have h3:vP E op t (opv E x frc) (opv E y frc)=znq:=by
     have h4:Jd E t (opv E x frc) (opv E y frc)=znq\/(op≠.eql/\op≠.neq):=by
      by_cases ho:op=.eql\/op=.neq
      . left
        have ab:∀i k o i' k' o',opv E x frc=.ptr i k o->opv E y frc≠.ptr i' k' o':=fun i k o i' k' o' Y hy=>by
         rw[Y,hy]at h1;rcases ho with rfl|rfl
         . have h1:A6 (Et (N2 E t) (.ptr i k o) (.ptr i' k' o')) F3=zsq v:=h1
           cases hk:N2 E t<;>rw[hk]at h1<;>cases h1
         . have h1:A6 (Et (N2 E t) (.ptr i k o) (.ptr i' k' o')) (fun b=>F3 (!b))=zsq v:=h1
           cases hk:N2 E t<;>rw[hk]at h1<;>cases h1
        unfold Jd;cases G:opv E x frc with
        |ptr i k o=>
         cases am:opv E y frc with
         |ptr i' k' o'=>exact absurd am (ab _ _ _ _ _ _ G)
         |_=>rfl
        |_=>rfl
      . exact .inr ⟨fun e=>ho (.inl e),fun e=>ho (.inr e)⟩
     rcases h4 with h4|⟨h4,h5⟩
     . unfold vP
       rw[h4];cases op<;>rfl
     . cases op<;>first|rfl|exact absurd rfl h4|exact absurd rfl h5
    refine⟨ow,v,h,.same s ?_ (Wr D)⟩;show lift (WH (vP E op t (opv E x frc) (opv E y frc)) (J1 op (N2 E t) (opv E x frc) (opv E y frc))) h=_
    rw[h3,h1];rfl
  . cases e
 |unOp op t x=>
  obtain⟨C,rfl⟩:=X2 e;have e:=C;obtain⟨h1,D⟩:=uG (V x) e;exact⟨ow,v,h,.same s (show lift (Kp op (opv E x frc)) h=_ by rw[h1];rfl) (Wr D)⟩
 |convert t d x=>
  obtain⟨ti,B,e⟩:=M5 e;obtain⟨td,ak,e⟩:=M5 e;obtain⟨C,rfl⟩:=X2 e;have e:=C;obtain⟨h1,D⟩:=eF (V x) e;exact⟨ow,v,h,.same s (show onTI E t Res.bad (fun _=>onTI E d .bad fun td=>lift (R8 td.desc (opv E x frc)) h)=_ by rw[N8 B,N8 ak,h1];rfl) (Wr D)⟩
 |makeInterface t x=>
  obtain⟨ti,B,e⟩:=M5 e;cases hp:V0 ti.desc with
  |false=>rw[hp]at e;cases e
  |true=>
   rw[hp]at e;cases e;exact⟨ow,_,h,.same s (show onTI E t Res.bad (fun ti=>bif V0 ti.desc then .ok (.iface t (opv E x frc)) h else .bad)=_ by rw[N8 B,hp];rfl) (.iface (V x))⟩
 |makeFunc f fs cs=>
  cases e;have v1:=Gy hg a fs.toList;have v2:=Gy hg a cs.toList;exact⟨ow,_,h,.same s rfl (.fn v1.1 v1.2 v2.1 v2.2)⟩
 |makeMap t r=>
  cases r with
  |some r=>cases e
  |none=>
   cases e;obtain⟨J,N,Q,U⟩:=uE s Y;exact⟨_,_,_,rfl,J,N,Q,U⟩
 |makeSlice t l c=>
  obtain⟨ti,B,e⟩:=M5 e;unfold Qb at e;cases A:elemOfT E ti.desc with
  |none=>rw[A]at e;cases e
  |some te=>
   cases hl:asNat (opvP E l fr)with
   |none=>rw[A,hl]at e;cases e
   |some n=>
    cases hc:asNat (opvP E c fr)with
    |none=>rw[A,hl,hc]at e;cases e
    |some m=>
     rw[A,hl,hc]at e;simp only at e;split at e
     . rename_i H
       cases e;have hz:(∀Z h,Fz Z h te.zero te.zero)/\te.zero.cells.length=te.size:=by
        unfold elemOfT at A;cases hd:ti.desc with
        |slice el=>rw[hd]at A;exact hT _ _ A
        |_=>rw[hd]at A;cases A
       obtain⟨J,N,Q,U⟩:=jV (n:=n) s Y hz.1 hz.2;refine⟨_,_,_,?_,J,N,Q,U⟩;show O0 E t l c frc h=_
       unfold O0;rw[N8 B];simp only[A,x5 (V l) hl,x5 (V c) hc];have e1:Nat.ble n m=zt:=zkg H.1;have e2:Nat.ble (Nat.mul m te.bytes) 140737488355328=zt:=zkg H.2.1;have e3:Nat.blt 0 te.size=zt:=zkg H.2.2;rw[e1,e2,e3,m9];rfl
     . cases e
 |slice t x lo hi mx=>
  obtain⟨ti,B,e⟩:=M5 e;cases hb:(hi.isNone&&mx.isSome)with
  |true=>rw[hb]at e;cases e
  |false=>
   rw[hb]at e;obtain⟨C,rfl⟩:=X2 e;have e:=C;obtain⟨vc,h1,D⟩:=nH (eH hg a lo) (eH hg a hi) (eH hg a mx) (V x) e;exact⟨ow,vc,h,.same s (show onTI E t Res.bad (fun ti=>bif hi.isNone&&mx.isSome then .bad else lift (sliceA E ti.desc (Nk E lo frc) (Nk E hi frc) (Nk E mx frc) (opv E x frc)) h)=_ by rw[N8 B,hb,h1];rfl) D⟩
 |fieldAddr t x f=>
  obtain⟨ti,B,e⟩:=M5 e;obtain⟨C,rfl⟩:=X2 e;have e:=C;unfold E6 at e;cases hf:fieldAt E ti f with
  |none=>rw[hf]at e;cases e
  |some p=>
   rw[hf]at e;simp only at e;split at e
   . rename_i hsz
     obtain⟨vc,h1,D⟩:=Qd (V x) e;refine⟨ow,vc,h,.same s ?_ D⟩;show onTI E t Res.bad (fun ti=>lift (A6 (fieldAt E ti f) fun p=>B3 (Nat.blt 0 p.1.size) (B0 (opv E x frc) p.2)) h)=_
     rw[N8 B,hf];show lift (B3 (Nat.blt 0 p.1.size) (B0 (opv E x frc) p.2)) h=_
     have:Nat.blt 0 p.1.size=zt:=zkg hsz
     rw[this,h1];rfl
   . cases e
 |field t x f=>
  obtain⟨ti,B,e⟩:=M5 e;obtain⟨C,rfl⟩:=X2 e;have e:=C;unfold RV at e;cases hf:fieldAt E ti f with
  |none=>rw[hf]at e;cases e
  |some p=>
   rw[hf]at e;have I:=V x;cases G:opvP E x fr with
   |agg cs=>
    rw[G]at I;simp only[G]at e;obtain⟨xs,al,hl⟩:=I.agI;obtain⟨vc,h1,D⟩:=hl.part e;refine⟨ow,vc,h,.same s ?_ D⟩;show onTI E t Res.bad (fun ti=>lift (A6 (fieldAt E ti f) fun p=>(opv E x frc).onAgg znq fun cs=>partOf p.1 cs p.2) h)=_
    rw[N8 B,hf,al];show lift (partOf p.1 xs p.2) h=_
    rw[h1];rfl
   |_=>simp only[G]at e;cases e
 |indexAddr t x i=>
  obtain⟨ti,B,e⟩:=M5 e;obtain⟨C,rfl⟩:=X2 e;have e:=C;unfold Gd at e;cases hn:asNat (opvP E i fr)with
  |none=>rw[hn]at e;cases e
  |some n=>
   rw[hn]at e;obtain⟨vc,h1,D⟩:=Ym (V x) e;refine⟨ow,vc,h,.same s ?_ D⟩;show onTI E t Res.bad (fun ti=>lift (A6 (asNat (opv E i frc)) fun i=>S3 E ti.desc i (opv E x frc)) h)=_
   rw[N8 B,x5 (V i) hn];show lift (S3 E ti.desc n (opv E x frc)) h=_
   rw[h1];rfl
 |index t x i=>
  obtain⟨ti,B,e⟩:=M5 e;obtain⟨C,rfl⟩:=X2 e;have e:=C;unfold RW at e;cases hn:asNat (opvP E i fr)with
  |none=>rw[hn]at e;cases e
  |some n=>
   rw[hn]at e;obtain⟨vc,h1,D⟩:=uH (V x) e;refine⟨ow,vc,h,.same s ?_ D⟩;show onTI E t Res.bad (fun ti=>lift (A6 (asNat (opv E i frc)) fun i=>Ew E ti.desc i (opv E x frc)) h)=_
   rw[N8 B,x5 (V i) hn];show lift (Ew E ti.desc n (opv E x frc)) h=_
   rw[h1];rfl
 |lookup t m k ok=>obtain⟨ti,B,e⟩:=M5 e;cases e
 |mapUpdate t m k x=>cases e
 |typeAssert x t0 t ok=>
  obtain⟨ti,B,e⟩:=M5 e;cases hb:(V0 ti.desc && !ok)with
  |false=>rw[hb]at e;cases e
  |true=>
   rw[hb]at e;obtain⟨C,rfl⟩:=X2 e;have e:=C;have I:=V x;cases G:opvP E x fr with
   |iface u w=>
    rw[G]at e I;have e:(bif Nat.beq u t then zsq w else znq)=zsq v:=e;cases ad:Nat.beq u t with
    |false=>rw[ad]at e;cases e
    |true=>
     rw[ad]at e;cases e;generalize hq:opv E x frc=q at I;cases I with
     |fz z=>cases z
     |iface vw=>
      refine⟨ow,_,h,.same s ?_ vw⟩;show onTI E t Res.bad (fun ti=>bif V0 ti.desc && !ok then lift (Kt t (opv E x frc)) h else .bad)=_
      rw[N8 B,hb,hq];show lift (bif Nat.beq u t then zsq _ else znq) h=_
      rw[ad];rfl
   |_=>rw[G]at e;cases e
 |extract x i=>
  have e:(match opvP E x fr with | .tup vs=>Bp vs[i]? K|_=>.bad)=.val v K':=e;have I:=V x;cases G:opvP E x fr with
  |tup vs=>
   rw[G]at e I;obtain⟨C,rfl⟩:=X2 e;have e:=C;generalize hq:opv E x frc=q at I;cases I with
   |fz z=>cases z
   |tup h1 D=>
    rename_i xs;have hl:i<xs.length:=by rw[h1];exact(zqc.1 e).1
    refine⟨ow,xs[i],h,.same s ?_ (D i _ v (zqb hl) e)⟩;show(opv E x frc).onTup Res.bad (fun vs=>lift (Es vs i) h)=_
    rw[hq];show lift (Es xs i) h=_
    rw[R3,zqb hl];rfl
  |_=>rw[G]at e;cases e
 |call c=>
  obtain⟨X,args,ts⟩:=c;cases X with
  |builtin b=>exact nN hT s Y (Gy hg a args.toList) (Ry e)
  |value g=>
   have e:Mq (opvP E g fr) (opvL E args.toList fr)=.val v K':=e;unfold Mq at e;cases ah:opvP E g fr with
   |fn f fs cs=>rw[ah]at e;cases f<;>cases e
   |_=>rw[ah]at e;cases e
  |invoke=>cases e
 |panic x=>
  have e:(match opvP E x fr with | .iface t v=>OpS.pan (.iface t v)|_=>.bad)=.val v K':=e;split at e<;>cases e
 |_=>cases e
theorem Hc(hg:BG E)(a:r7 Z ow h K.os nt frc fr){op:Op}{f:Nat}{args:List AV}(e:prim E op fr K=.call f args):∃G,VL Z ow h K.os G args/\∀call:D4,evOp E call op frc h=call f G h:=by
 have V:=Ae hg a;have A:∀{t:Nat}{g:TI->OpS},(∀ti,g ti≠.call f args)->X8 E t g≠.call f args:=fun{t g} hn e=>by
  unfold X8 at e;cases U:E.ti t with
  |none=>rw[U]at e;cases e
  |some ti=>rw[U]at e;exact hn ti e
 have B:∀{o:Option AV},Bp o K≠.call f args:=fun{o} e=>by cases o<;>cases e
 have C:∀{o:Option (AV×PK)},Mo o≠.call f args:=fun{o} e=>by cases o<;>cases e
 cases op with
 |call c=>
  obtain⟨D,J,ts⟩:=c;cases D with
  |builtin b=>exact absurd e C
  |invoke=>cases e
  |value g=>
   have e:Mq (opvP E g fr) (opvL E J.toList fr)=.call f args:=e;unfold Mq at e;have Q:=V g;cases N:opvP E g fr with
   |fn f' fs cs=>
    rw[N]at e Q;cases f' with
    |func n=>
     cases e;generalize hq:opv E g frc=q at Q;cases Q with
     |fz z=>cases z
     |fn h1 X Y h4=>
      rename_i H I;refine⟨H++(opvs E J.toList frc++I),VL.app ⟨h1,X⟩ (VL.app (Gy hg a J.toList) ⟨Y,h4⟩),fun call=>?_⟩;show c8 call (opv E g frc) (opvs E J.toList frc) h=_
      rw[hq];show call f (appL H (appL (opvs E J.toList frc) I)) h=_
      rw[L7,L7]
    |_=>cases e
   |_=>rw[N]at e;cases e
 |move|assign|makeFunc=>cases e
 |pick c p q=>
  have e:Mp (opvP E c fr) (opvP E p fr) (opvP E q fr) K=.call f args:=e;unfold Mp at e;split at e<;>cases e
 |alloc t=>exact absurd e (A fun ti e=>by cases e)
 |box t x=>exact absurd e (A fun ti e=>by unfold zU at e;split at e<;>cases e)
 |build t ps=>exact absurd e (A fun ti=>B)
 |buildSlice t n ps=>exact absurd e (A fun ti e=>by split at e<;>first|exact C e|cases e)
 |insert=>cases e
 |load=>exact absurd e (A fun ti=>C)
 |store=>exact absurd e (A fun ti=>C)
 |nilCheck=>exact absurd e B
 |binOp op t x y u=>
  have e:Q6 E op t (opvP E x fr) (opvP E y fr) K=.call f args:=e;unfold Q6 at e;split at e
  . exact absurd e B
  . cases e
 |unOp=>exact absurd e B
 |convert=>exact absurd e (A fun ti=>A fun td=>B)
 |makeInterface t x=>exact absurd e (A fun ti e=>by cases hp:V0 ti.desc<;>rw[hp]at e<;>cases e)
 |makeMap t r=>cases r<;>cases e
 |makeSlice=>exact absurd e (A fun ti e=>by unfold Qb at e;split at e<;>first|cases e|(split at e<;>cases e))
 |slice t x lo hi mx=>exact absurd e (A fun ti e=>by
  cases hb:(hi.isNone&&mx.isSome)with
  |true=>rw[hb]at e;cases e
  |false=>rw[hb]at e;exact B e)
 |fieldAddr=>exact absurd e (A fun ti=>B)
 |field=>exact absurd e (A fun ti=>B)
 |indexAddr=>exact absurd e (A fun ti=>B)
 |index=>exact absurd e (A fun ti=>B)
 |lookup=>exact absurd e (A fun ti=>B)
 |mapUpdate=>cases e
 |typeAssert x t0 t ok=>exact absurd e (A fun ti e=>by
  cases hb:(V0 ti.desc && !ok)with
  |false=>rw[hb]at e;cases e
  |true=>rw[hb]at e;exact B e)
 |extract x i=>
  have e:(match opvP E x fr with | .tup vs=>Bp vs[i]? K|_=>.bad)=.call f args:=e;split at e
  . exact absurd e B
  . cases e
 |panic x=>
  have e:(match opvP E x fr with | .iface t v=>OpS.pan (.iface t v)|_=>.bad)=.call f args:=e;split at e<;>cases e
 |_=>cases e
theorem kD(hg:BG E)(a:r7 Z ow h K.os nt frc fr){op:Op}(e:prim E op fr K=.pan v):∃vc,VR Z ow h K.os vc v/\∀call:D4,evOp E call op frc h=.pan vc h:=by
 have V:=Ae hg a;have A:∀{t:Nat}{g:TI->OpS},(∀ti,g ti≠.pan v)->X8 E t g≠.pan v:=fun{t g} hn e=>by
  unfold X8 at e;cases I:E.ti t with
  |none=>rw[I]at e;cases e
  |some ti=>rw[I]at e;exact hn ti e
 have B:∀{o:Option AV},Bp o K≠.pan v:=fun{o} e=>by cases o<;>cases e
 have C:∀{o:Option (AV×PK)},Mo o≠.pan v:=fun{o} e=>by cases o<;>cases e
 cases op with
 |panic x=>
  have e:(match opvP E x fr with | .iface t v=>OpS.pan (.iface t v)|_=>.bad)=.pan v:=e;have H:=V x;cases G:opvP E x fr with
  |iface t w=>
   rw[G]at e H;cases e;generalize hq:opv E x frc=q at H;cases H with
   |fz z=>cases z
   |iface N=>exact⟨_,.iface N,fun call=>by show sJ (opv E x frc) h=_;rw[hq];rfl⟩
  |_=>rw[G]at e;cases e
 |call c=>
  obtain⟨D,J,ts⟩:=c;cases D with
  |builtin b=>exact absurd e C
  |invoke=>cases e
  |value g=>
   have e:Mq (opvP E g fr) (opvL E J.toList fr)=.pan v:=e;unfold Mq at e;split at e
   . split at e<;>cases e
   . cases e
 |move|assign|makeFunc=>cases e
 |pick c p q=>
  have e:Mp (opvP E c fr) (opvP E p fr) (opvP E q fr) K=.pan v:=e;unfold Mp at e;split at e<;>cases e
 |alloc t=>exact absurd e (A fun ti e=>by cases e)
 |box t x=>exact absurd e (A fun ti e=>by unfold zU at e;split at e<;>cases e)
 |build t ps=>exact absurd e (A fun ti=>B)
 |buildSlice t n ps=>exact absurd e (A fun ti e=>by split at e<;>first|exact C e|cases e)
 |insert=>cases e
 |load=>exact absurd e (A fun ti=>C)
 |store=>exact absurd e (A fun ti=>C)
 |nilCheck=>exact absurd e B
 |binOp op t x y u=>
  have e:Q6 E op t (opvP E x fr) (opvP E y fr) K=.pan v:=e;unfold Q6 at e;split at e
  . exact absurd e B
  . cases e
 |unOp=>exact absurd e B
 |convert=>exact absurd e (A fun ti=>A fun td=>B)
 |makeInterface t x=>exact absurd e (A fun ti e=>by cases Q:V0 ti.desc<;>rw[Q]at e<;>cases e)
 |makeMap t r=>cases r<;>cases e
 |makeSlice=>exact absurd e (A fun ti e=>by unfold Qb at e;split at e<;>first|cases e|(split at e<;>cases e))
 |slice t x lo hi mx=>exact absurd e (A fun ti e=>by
  cases hb:(hi.isNone&&mx.isSome)with
  |true=>rw[hb]at e;cases e
  |false=>rw[hb]at e;exact B e)
 |fieldAddr=>exact absurd e (A fun ti=>B)
 |field=>exact absurd e (A fun ti=>B)
 |indexAddr=>exact absurd e (A fun ti=>B)
 |index=>exact absurd e (A fun ti=>B)
 |lookup=>exact absurd e (A fun ti=>B)
 |mapUpdate=>cases e
 |typeAssert x t0 t ok=>exact absurd e (A fun ti e=>by
  cases hb:(V0 ti.desc && !ok)with
  |false=>rw[hb]at e;cases e
  |true=>rw[hb]at e;exact B e)
 |extract x i=>
  have e:(match opvP E x fr with | .tup vs=>Bp vs[i]? K|_=>.bad)=.pan v:=e;split at e
  . exact absurd e B
  . cases e
 |_=>cases e
end
section
variable {E:Env}{R:AV->AV->Prop}{Z Z':Nat->Prop}{ow ow' ow1 ow2:Nat->Option (List Nat)}{h h':Heap}{K K':PK}{os os' os1 os2:List PO}{x y xc yc v k:AV}{L M:List Nat}{nt:Nat}{frc:Tr}{fr:PF}{σ:Nat->Option Nat}
theorem renL_eq(σ:Nat->Option Nat):∀l:List AV,renL σ l=l.map (G6 σ)
 |[]=>rfl
 |v::l=>by rw[renL,renL_eq σ l];rfl
theorem kE{c:AV}(h:clo c=zt):G6 σ c=c:=by cases c<;>first|rfl|cases h
theorem EJ(f:Fz Z h x y):G6 σ y=y:=by
 cases f with
 |agg h1 h2 h3=>
  rename_i xs ys;show AV.agg (renL σ ys)=.agg ys
  rw[renL_eq]
  have:ys.map (G6 σ)=ys:=by
   conv=>rhs;rw[<-List.map_id ys]
   grind[List.map_congr_left,kE]
  rw[this]
 |_=>rfl
theorem qY(v:AV):isAg (G6 σ v)=isAg v:=by
 cases v with
 |msl id off n sz=>unfold G6;cases σ id<;>rfl
 |ptr id i o=>unfold G6;cases σ id<;>rfl
 |map id=>unfold G6;cases σ id<;>rfl
 |_=>rfl
theorem Ke(v:AV):(G6 σ v).cells=v.cells.map (G6 σ)/\isAg (G6 σ v)=isAg v:=by
 refine⟨?_,qY v⟩;cases A:isAg v with
 |false=>grind[C8,qY]
 |true=>
  cases v with
  |agg cs=>show renL σ cs=_;rw[renL_eq];rfl
  |_=>cases A
theorem AF{c:AV}(h:Eh c=zt\/c=.und):Eh (G6 σ c)=zt\/G6 σ c=.und:=by
 rcases h with h|rfl
 . cases c with
   |msl id off n sz=>unfold G6;cases σ id<;>first|exact .inl rfl|grind
   |ptr id i o=>unfold G6;cases σ id<;>first|exact .inl rfl|grind
   |map id=>unfold G6;cases σ id<;>first|exact .inl rfl|grind
   |agg=>cases h
   |tup=>cases h
   |any=>exact .inr rfl
   |und=>exact .inr rfl
   |_=>exact .inl rfl
 . exact .inr rfl
def Ren(σ:Nat->Option Nat)(ow:Nat->Option (List Nat))(os:List PO)(ow':Nat->Option (List Nat))(os':List PO):Prop:=∀id j,σ id=zsq j->id<os.length->j<os'.length/\∀A,loP os' 6 j=zsq A->∃L,loP os 6 id=zsq L/\∀c,ow c=zsq L↔ow' c=zsq A
theorem VR.ren(v:VR Z ow h os x y)(hZ:∀id,Z id->Z' id/\h'.get id=h.get id)(D:Ren σ ow os ow' os'):VR Z' ow' h' os' x (G6 σ y):=by
 have G:∀{xs ys:List AV},xs.length=ys.length->(∀(i:Nat) x y,xs[i]?=zsq x->ys[i]?=zsq y->VR Z' ow' h' os' x (G6 σ y))->xs.length=(renL σ ys).length/\∀(i:Nat) x y,xs[i]?=zsq x->(renL σ ys)[i]?=zsq y->VR Z' ow' h' os' x y:=(by grind[Go.AM.renL_eq])
 induction v with
 |fz f=>rw[EJ f];exact .fz (f.mono hZ)
 |und=>exact .und
 |any=>exact .und
 |@msl id c off n sz h1 A=>
  unfold G6;cases B:σ id with
  |none=>exact .und
  |some j=>
   obtain⟨a,b⟩:=D id j B A;exact .msl (by grind) a
 |@mnil x id sz e h1 A=>
  unfold G6;cases B:σ id with
  |none=>exact .und
  |some j=>
   obtain⟨a,b⟩:=D id j B A;exact .mnil e (by grind) a
 |@ptr id c i off h1 A=>
  unfold G6;cases B:σ id with
  |none=>exact .und
  |some j=>
   obtain⟨a,b⟩:=D id j B A;exact .ptr (by grind) a
 |@map id c h1 A=>
  unfold G6;cases B:σ id with
  |none=>exact .und
  |some j=>
   obtain⟨a,b⟩:=D id j B A;exact .map (by grind) a
 |agg h1 _ C=>obtain⟨a,b⟩:=G h1 C;exact .agg a b
 |tup h1 _ C=>obtain⟨a,b⟩:=G h1 C;exact .tup a b
 |fn h1 _ J _ H I=>obtain⟨a,b⟩:=G h1 H;obtain⟨c,d⟩:=G J I;exact .fn a b c d
 |iface _ C=>exact .iface C
theorem VL.ren{xs ys:List AV}(v:VL Z ow h os xs ys)(hZ:∀id,Z id->Z' id/\h'.get id=h.get id)(C:Ren σ ow os ow' os'):VL Z' ow' h' os' xs (renL σ ys):=by
 rw[renL_eq];refine⟨by simpa using v.1,fun i x y D A=>?_⟩;rw[zqg]at A;cases B:ys[i]? with
 |none=>grind
 |some q=>rw[B]at A;cases A;exact(v.2 i x q D B).ren hZ C
theorem RawR.ren{r j c sz:Nat}{es ces:List AV}(g:RawR (VR Z ow h os) ow h r es sz c ces)(hZ:∀id,Z id->Z' id/\h'.get id=h.get id)(H:Ren σ ow os ow' os')(ho:ow' c=zsq [j])(hn:h.next<=h'.next)(hg:h'.get c=h.get c)(D:∀a t,ow' a=zsq (j::t)->t=[]):RawR (VR Z' ow' h' os') ow' h' j (renL σ es) sz c ces:=by
 refine⟨ho,zkf g.lt hn,hg.trans g.get,?_,fun i x y G A o a b ha hb=>?_,fun i y A b hb=>?_,D⟩
 . rw [renL_eq]
   refine⟨by simpa using g.sh.1,fun i x y G A=>?_⟩;rw[zqg]at A;cases B:es[i]? with
   |none=>grind
   |some q=>
    rw[B]at A;cases A
    have:=g.sh.2 i x q G B
    grind[Ke]
 . rw [renL_eq,zqg]at A
   cases B:es[i]? with
   |none=>grind
   |some q=>
    rw[B]at A;cases A;rw[(Ke q).1,zqg]at hb;cases C:q.cells[o]? with
    |none=>grind
    |some w=>rw[C]at hb;cases hb;exact(g.vr i x q G B o a w ha C).ren hZ H
 . rw [renL_eq,zqg]at A
   cases B:es[i]? with
   |none=>grind
   |some q=>
    rw[B]at A;cases A;rw[(Ke q).1]at hb;obtain⟨w,C,rfl⟩:=zqm.1 hb;exact AF (g.okp i q B w C)
theorem posOf_some:∀(l:List Nat)(id j:Nat),posOf l id=zsq j->l[j]?=zsq id
 |[],_,_,e=>by cases e
 |a :: l,id,j,e=>by
  unfold posOf at e;split at e
  . grind
  . cases A:posOf l id with
    |none=>grind
    |some m=>rw[A]at e;cases e;exact posOf_some l id m A
theorem H8:∀(l:List Nat)(id j:Nat),l.Nodup->l[j]?=zsq id->posOf l id=zsq j
 |[],_,_,_,e=>by simp at e
 |a::l,id,0,_,e=>by cases e;unfold posOf;grind
 |a::l,id,j+1,hn,e=>by
  have hn:=zqv.1 hn;have A:a≠id:=(by grind)
  unfold posOf;rw[if_neg A,H8 l id j hn.2 (by grind)];rfl
theorem Bg(s:Nat->List Nat):∀(n:Nat)(B A:List Nat),A.Nodup->(i7 s n B A).Nodup/\∃m,i7 s n B A=A++m
 |0,_,A,h=>⟨h,[],by simp[i7]⟩
 |n+1,[],A,h=>⟨h,[],by simp[i7]⟩
 |n + 1,id::B,A,h=>by
  unfold i7;split
  . exact Bg s n B A h
  . rename_i hm
    have h1:(A++[id]).Nodup:=(by grind)
    obtain⟨a,m,b⟩:=Bg s n (B++s id) (A++[id]) h1;grind
def rown(σ:Nat->Option Nat)(ow:Nat->Option (List Nat)):Nat->Option (List Nat):=fun d=>match ow d with
 |some (r::t)=>(match σ r with|some j=>zsq (j::t)|none=>znq)
 |_=>znq
theorem D7{d:Nat}{M:List Nat}:rown σ ow d=zsq M↔∃r j t,ow d=zsq (r::t)/\σ r=zsq j/\M=j::t:=by
 unfold rown;grind
theorem entryAt_eq(os:List PO)(id:Nat):(os[id]?=zsq (entryAt os id))\/(os[id]?=znq/\entryAt os id=.dead):=by
 unfold entryAt;grind
theorem Wu(s:G2 Z ow h os){ids:List Nat}(hn:ids.Nodup){f:PO->PO}(hf:∀e,f e=e\/((∃p i o,e=.sub p i o)/\f e=.dead))(aa:os'=ids.map fun id=>f (renPO (posOf ids) (entryAt os id))):
 G2 Z (rown (posOf ids) ow) h os'/\Ren (posOf ids) ow os (rown (posOf ids) ow) os':=by
 have G:∀(j:Nat) e,os'[j]?=zsq e->∃id,ids[j]?=zsq id/\e=f (renPO (posOf ids) (entryAt os id)):=(by grind)
 have I:∀(j:Nat) k es sz,os'[j]?=zsq (.row k es sz)->∃id es0,ids[j]?=zsq id/\os[id]?=zsq (.row k es0 sz)/\((k=0/\es=es0)\/(k≠0/\es=renL (posOf ids) es0)):=fun j k es sz B=>by
  obtain ⟨id,h1,C⟩:=G j _ B;have A:renPO (posOf ids) (entryAt os id)=.row k es sz:=by
   grind
  rcases entryAt_eq os id with D|⟨_,D⟩
  . cases H:entryAt os id with
    |row k' es' X=>
     rw[H]at A D;cases k' with
     |_=>cases A;grind
    |sub p i o=>grind[renPO]
    |_=>rw[H]at A;cases A
  . rw[D]at A;cases A
 have N:∀(j:Nat) es,os'[j]?=zsq (.mapo es)->∃id,ids[j]?=zsq id/\os[id]?=zsq (.mapo es):=fun j es B=>by
  obtain ⟨id,h1,C⟩:=G j _ B;have A:renPO (posOf ids) (entryAt os id)=.mapo es:=by
   grind
  rcases entryAt_eq os id with D|⟨_,D⟩
  . cases H:entryAt os id with
    |row k' es' X=>rw[H]at A;cases k'<;>cases A
    |mapo=>rw[H]at A D;cases A;grind
    |sub p i o=>grind[renPO]
    |dead=>rw[H]at A;cases A
  . rw[D]at A;cases A
 have Q:∀(j:Nat) p i o,os'[j]?=zsq (.sub p i o)->∃id p0,ids[j]?=zsq id/\os[id]?=zsq (.sub p0 i o)/\posOf ids p0=zsq p:=fun j p i o B=>by
  obtain ⟨id,h1,C⟩:=G j _ B;have A:renPO (posOf ids) (entryAt os id)=.sub p i o:=by
   grind
  rcases entryAt_eq os id with D|⟨_,D⟩
  . cases H:entryAt os id with
    |row k' es' X=>rw[H]at A;cases k'<;>cases A
    |sub p0 i0 o0=>
     grind[renPO]
    |_=>rw[H]at A;cases A
  . rw[D]at A;cases A
 have U:os'.length=ids.length:=by grind
 have ho:∀d (j id:Nat) t,ids[j]?=zsq id->(rown (posOf ids) ow d=zsq (j::t)↔ow d=zsq (id::t)):=fun d j id t B=>by
  rw[D7]
  constructor
  . rintro⟨r,j',t',h1,C,A⟩
    cases A
    have:=posOf_some ids r _ C
    grind
  . exact fun h1=>⟨id,j,t,h1,H8 ids id j hn B,rfl⟩
 have ac:∀(n j:Nat)(J:List Nat),loP os' n j=zsq J->∃id r q t,ids[j]?=zsq id/\loP os n id=zsq (r::t)/\posOf ids r=zsq q/\J=q::t:=fun n=>by
  induction n with
  |zero=>exact fun j J e=>by cases e
  |succ n ih=>
   intro j J e;unfold loP at e;cases B:os'[j]? with
   |none=>grind
   |some en=>
    rw[B]at e;cases en with
    |row k es sz=>
     cases e;obtain⟨id,es0,h1,C,_⟩:=I j k es sz B;exact⟨id,id,j,[],h1,by grind[loP],H8 ids id j hn h1,rfl⟩
    |mapo es=>
     cases e;obtain⟨id,h1,C⟩:=N j es B;exact⟨id,id,j,[],h1,by grind[loP],H8 ids id j hn h1,rfl⟩
    |dead=>cases e
    |sub p i o=>
     simp only at e;cases hp:loP os' n p with
     |none=>grind
     |some Lp=>
      rw[hp]at e;cases e;obtain⟨id,p0,h1,C,A⟩:=Q j p i o B;obtain⟨id',r,q,t,D,Y,V,rfl⟩:=ih p Lp hp
      have:id'=p0:=by
       have:=posOf_some ids p0 p A
       grind
      subst this;exact⟨id,r,q,t++[i,o],h1,by grind[loP],V,by simp⟩
 have hR:Ren (posOf ids) ow os (rown (posOf ids) ow) os':=fun id j B _=>by
  have hj':=posOf_some ids id j B;refine⟨by grind,fun J ab=>?_⟩;obtain⟨id',r,q,t,h1,C,A,rfl⟩:=ac 6 j J ab;grind[posOf_some]
 refine⟨⟨fun j es sz B=>?_,fun j k es sz B hk=>?_,fun j es B=>?_,fun a b M ha hb=>?_,fun a M ha=>?_,s.zb,fun j p i o B=>?_⟩,hR⟩
 . obtain ⟨id,es0,h1,C,A⟩:=I j 0 es sz B
   rcases A with⟨_,rfl⟩|⟨A,_⟩
   . obtain⟨x,hx⟩:=s.row id es sz C
     exact⟨x,hx.reloc (zke _) (fun _ hz=>⟨hz,rfl⟩) (fun d t=>ho d j id t h1) (fun _ _ _=>rfl)⟩
   grind
 . obtain ⟨id,es0,h1,C,A⟩:=I j k es sz B
   rcases A with⟨A,_⟩|⟨_,rfl⟩
   . grind
   . obtain⟨c,ces,g⟩:=s.raw id k es0 sz C hk
     exact⟨c,ces,g.ren (fun _ hz=>⟨hz,rfl⟩) hR ((ho c j id [] h1).2 g.o) (zke _) rfl (fun a t ha=>g.no a t ((ho a j id t h1).1 ha))⟩
 . obtain⟨id,h1,C⟩:=N j es B
   obtain⟨c,ces,g⟩:=s.map id es C;exact⟨c,ces,(ho c j id [] h1).2 g.o,g.lt,g.get,g.len,g.kv,fun a t ha=>g.no a t ((ho a j id t h1).1 ha)⟩
 . obtain⟨r,j,t,h1,C,rfl⟩:=D7.1 ha
   obtain⟨r',j',t',A,D,Y⟩:=D7.1 hb;cases Y;have e1:=posOf_some ids r j C;have e2:=posOf_some ids r' _ D;rw[e1]at e2;cases e2;exact s.inj _ _ _ h1 A
 . obtain ⟨r,j,t,h1,C,rfl⟩:=D7.1 ha
   obtain⟨A,D,r',t',Y,V⟩:=s.live a _ h1;cases Y;refine⟨A,D,j,t,rfl,?_⟩;have B:=posOf_some ids r j C;unfold isRt at V|-;rw[aa,zqg,B];show(match zsq (f (renPO (posOf ids) (entryAt os r)))with|some (.row _ _ _)=>zt|some (.mapo _)=>zt|_=>zf)=zt
   unfold entryAt;cases H:os[r]? with
   |none=>grind
   |some e=>
    rw[H]at V;cases e with
    |row k es sz=>
     have:f (renPO (posOf ids) (.row k es sz))=renPO (posOf ids) (.row k es sz):=by
      grind[renPO]
     simp only[this];cases k<;>rfl
    |mapo es=>
     grind[renPO]
    |_=>cases V
 . obtain⟨id,p0,h1,C,A⟩:=Q j p i o B
   rw[U];exact(zqc.1 (posOf_some ids p0 p A)).1
theorem AG{keep:List Nat}:(markIds keep fr K).Nodup/\∀j,j<K.ext->(markIds keep fr K)[j]?=zsq j:=by
 grind[markIds,Bg]
theorem look_keep(σ:Nat->Option Nat)(fr:PF):∀(keep:List Nat)(i:Nat),lookP (keep.map fun i=>(i,G6 σ (lookP fr i))) i=G6 σ (lookP fr i)\/lookP (keep.map fun i=>(i,G6 σ (lookP fr i))) i=.und
 |[],i=>.inr rfl
 |k::keep,i=>by
  show(if k=i then G6 σ (lookP fr k)else lookP (keep.map fun i=>(i,G6 σ (lookP fr i))) i)=_\/(if k=i then G6 σ (lookP fr k)else lookP (keep.map fun i=>(i,G6 σ (lookP fr i))) i)=_
  by_cases e:k=i
  . grind
  . rw[if_neg e];exact look_keep σ fr keep i
theorem AH{ids:List Nat}{j:Nat}(hj:ids[j]?=zsq j){ext:Nat}{tch:List Nat}:isRt (KK ids K ext tch).os j=zt->isRt K.os j=zt:=by
 intro A;unfold isRt at A|-
 have:(KK ids K ext tch).os[j]?=zsq (renPO (posOf ids) (entryAt K.os j)):=by
  show(ids.map fun id=>renPO (posOf ids) (entryAt K.os id))[j]?=_
  grind
 rw[this]at A;unfold entryAt at A;cases B:K.os[j]? with
 |none=>rw[B]at A;cases A
 |some e=>
  rw[B]at A;cases e with
  |dead=>cases A
  |sub p i o=>
   grind[renPO]
  |_=>rfl
theorem Mz(s:G2 Z ow h K.os)(a:r7 Z ow h K.os nt frc fr)(keep:List Nat):∃ow',G2 Z ow' h (J7 keep fr K).2.os/\r7 Z ow' h (J7 keep fr K).2.os nt frc (J7 keep fr K).1/\Stp K.ext Z ow h K Z ow' h (J7 keep fr K).2/\K.ext<=(J7 keep fr K).2.os.length/\∀id,id<K.ext->id<K.os.length->∀C,loP (J7 keep fr K).2.os 6 id=zsq C->∃L,loP K.os 6 id=zsq L/\∀c,ow c=zsq L↔ow' c=zsq C:=by
 obtain⟨hn,H⟩:=AG (fr:=fr) (K:=K) (keep:=keep);obtain⟨h1,I⟩:=Wu s hn (f:=id) (fun e=>.inl rfl) (os':=(J7 keep fr K).2.os) rfl;have G:∀j,j<K.ext->posOf (markIds keep fr K) j=zsq j:=fun j B=>H8 _ _ _ hn (H j B)
 have hlen:(J7 keep fr K).2.os.length=(markIds keep fr K).length:=by show((markIds keep fr K).map _).length=_;simp
 refine⟨_,h1,⟨fun i=>?_,a.has⟩,⟨zke _,fun _ hz=>⟨hz,rfl⟩,fun _ hz=>.inl hz,fun _ _ _=>rfl,fun d M D _ e=>?_,⟨[],rfl,fun d D=>by cases D⟩,fun d r t ho A=>?_,fun r A hl=>?_,rfl,fun j B c A=>?_,fun j B A=>AH (H j B) A⟩,?_,fun id hi hl=>(I id id (G id hi) hl).2⟩
 . rcases look_keep (posOf (markIds keep fr K)) fr keep i with e|e
   . show VR _ _ _ _ _ (lookP (keep.map fun i=>(i,G6 (posOf (markIds keep fr K)) (lookP fr i))) i)
     rw[e];exact(a.v i).ren (fun _ hz=>⟨hz,rfl⟩) I
   . show VR _ _ _ _ _ (lookP (keep.map fun i=>(i,G6 (posOf (markIds keep fr K)) (lookP fr i))) i)
     rw[e];exact .und
 . grind[D7]
 . exact .inl ⟨t,D7.2 ⟨r,r,t,ho,G r A,rfl⟩⟩
 . exact zqr.2 ⟨A,by grind⟩
 . rw[D7]
   constructor
   . grind
   grind[posOf_some]
 grind
end
section
variable {E:Env}{R:AV->AV->Prop}{Z Z' Z1:Nat->Prop}{ow ow' ow1 ow2:Nat->Option (List Nat)}{h h' h1:Heap}{K K' K1:PK}{os os' os1 os2:List PO}{x y xc yc v k:AV}{L M:List Nat}{nt:Nat}{frc:Tr}{fr:PF}{σ:Nat->Option Nat}
theorem Oo(os:List PO)(ids:List Nat):∀(l:List PO)(n j:Nat),(killU os ids n l)[j]?=(l[j]?).map fun e=>match e with | .sub p i o=>if ids.contains (n+j)||(chainOf os 6 p).any (fun q=>ids.contains q)then .dead else .sub p i o|e=>e
 |[],n,j=>by simp[killU]
 |e::l,n,0=>rfl
 |e::l,n,j+1=>by
  show(killU os ids (n+1) l)[j]?=(l[j]?).map _
  rw[Oo os ids l (n+1) j,show n+1+j=n+(j+1) by omega]
theorem aS(os:List PO)(ids:List Nat):∀(l:List PO)(n:Nat),(killU os ids n l).length=l.length
 |[],_=>rfl
 |e::l,n=>congrArg Nat.succ (aS os ids l (n+1))
theorem AI(os:List PO)(ids:List Nat):Wk os (killU os ids 0 os):=by
 refine⟨aS _ _ _ _,fun j=>?_⟩;rw[Oo];grind
theorem aT{ids:List Nat}{j p i o:Nat}(e:(killU os ids 0 os)[j]?=zsq (.sub p i o)):(∀q∈chainOf os 6 p,¬q∈ids)/\¬j∈ids:=by
 rw[Oo]at e;grind
theorem Wv:∀(n id:Nat),rootOf os n id∈chainOf os n id
 |0,id=>zqs.2 rfl
 |n+1,id=>by
  unfold rootOf chainOf;cases os[id]? with
  |none=>grind
  |some e=>
   cases e with
   |sub p i o=>exact zqp _ (Wv n p)
   |_=>grind
theorem KQ{n m id:Nat}(A:n<=m)(e:loP os n id=zsq L):loP os m id=zsq L:=by
 induction A with
 |refl=>exact e
 |step _ B=>exact Mu _ _ _ B
def UZ(ρ:Nat->Option Nat)(os os':List PO)(id:Nat)(e:PO):Prop:=
 (∃k es sz k' es' A,os[id]?=zsq (.row k es sz)/\e=.row k' es' A/\os'[id]?=zsq (renPO ρ e))\/(∃k es sz,os[id]?=zsq (.row k es sz)/\e=.dead/\os'[id]?=zsq .dead)\/(∃es es',os[id]?=zsq (.mapo es)/\e=.mapo es'/\os'[id]?=zsq (.mapo es'))\/(isRt os id=zf/\e=.dead/\os'[id]?=os[id]?)
theorem j4{ρ:Nat->Option Nat}:∀(ids:List Nat)(l os os':List PO),putBack ρ ids l os=zsq os'->ids.Nodup->os'.length=os.length/\(∀r,¬r∈ids->os'[r]?=os[r]?)/\∀(j id:Nat),ids[j]?=zsq id->∃e,l[j]?=zsq e/\UZ ρ os os' id e
 |[],l,os,os',e,_=>by cases e;grind
 |id::ids,[],os,os',e,_=>by cases e
 |id :: ids,a::l,os,os',e,hn=>by
  have hn:=zqv.1 hn;have step:∀{G:PO},id<os.length->putBack ρ ids l (os.set id G)=zsq os'->os'.length=os.length/\(∀r,¬r∈id::ids->os'[r]?=os[r]?)/\os'[id]?=zsq G/\∀(j id':Nat),ids[j]?=zsq id'->∃e,l[j]?=zsq e/\UZ ρ os os' id' e:=fun{G} hl I=>by
   obtain⟨h1,B,C⟩:=j4 ids l _ os' I hn.2;refine⟨by grind,fun r hr=>?_,?_,fun j id' A=>?_⟩
   . grind
   . grind
   . obtain⟨e,H,h5⟩:=C j id' A
     grind[UZ,isRt]
  unfold putBack at e;cases D:os[id]? with
  |none=>
   rw[D]at e;simp only at e;cases a with
   |dead=>
    obtain⟨h1,B,C⟩:=j4 ids l os os' e hn.2;refine⟨h1,(by grind),fun j id' A=>?_⟩;cases j with
    |zero=>cases A;exact⟨.dead,rfl,.inr (.inr (.inr ⟨by grind[isRt],rfl,B _ hn.1⟩))⟩
    |succ j=>grind
   |_=>cases e
  |some b=>
   have hl:id<os.length:=(zqc.1 D).1;rw[D]at e;cases b with
   |row k es sz=>
    simp only at e;cases a with
    |row k' es' sz'=>
     obtain⟨h1,B,C,H⟩:=step hl e;refine⟨h1,B,fun j id' A=>?_⟩;cases j with
     |zero=>cases A;exact⟨_,rfl,.inl ⟨_,_,_,_,_,_,D,rfl,C⟩⟩
     |succ j=>grind
    |dead=>
     obtain⟨h1,B,C,H⟩:=step hl e;refine⟨h1,B,fun j id' A=>?_⟩;cases j with
     |zero=>cases A;exact⟨_,rfl,.inr (.inl ⟨_,_,_,D,rfl,C⟩)⟩
     |succ j=>grind
    |_=>cases e
   |mapo es=>
    simp only at e;cases a with
    |mapo es'=>
     obtain⟨h1,B,C,H⟩:=step hl e;refine⟨h1,B,fun j id' A=>?_⟩;cases j with
     |zero=>cases A;exact⟨_,rfl,.inr (.inr (.inl ⟨_,_,D,rfl,C⟩))⟩
     |succ j=>grind
    |_=>cases e
   |sub p i o=>
    simp only at e;cases a with
    |dead=>
     obtain⟨h1,B,C⟩:=j4 ids l os os' e hn.2;refine⟨h1,(by grind),fun j id' A=>?_⟩;cases j with
     |zero=>cases A;exact⟨.dead,rfl,.inr (.inr (.inr ⟨by grind[isRt],rfl,B _ hn.1⟩))⟩
     |succ j=>grind
    |_=>cases e
   |dead=>
    simp only at e;cases a with
    |dead=>
     obtain⟨h1,B,C⟩:=j4 ids l os os' e hn.2;refine⟨h1,(by grind),fun j id' A=>?_⟩;cases j with
     |zero=>cases A;exact⟨.dead,rfl,.inr (.inr (.inr ⟨by grind[isRt],rfl,B _ hn.1⟩))⟩
     |succ j=>grind
    |_=>cases e
theorem kF(s:G2 Z ow h K.os)(hx:K.ext<=K.os.length){ids:List Nat}(hn:ids.Nodup)(s1:G2 Z1 ow1 h1 K1.os)(st:Stp ids.length Z (rown (posOf ids) ow) h (focusK ids K) Z1 ow1 h1 K1)(Q:mergeK ids K K1=zsq K'):
 ∃ow',G2 Z1 ow' h1 K'.os/\Keep' ow K.os ow' K'.os/\(∀b,Stp b Z ow h K Z1 ow' h1 K')/\Ren (backN ids K.os.length) ow1 K1.os ow' K'.os:=by
 unfold mergeK at Q;split at Q
 rotate_left
 . cases Q
 rename_i au;have ac:∀i∈ids,i<K.os.length:=fun i hi=>by simpa using zqf.1 au i hi
 cases hp:putBack (backN ids K.os.length) ids K1.os (killU K.os ids 0 K.os)with
 |none=>rw[hp]at Q;cases Q
 |some A=>
  rw [hp]at Q;cases Q;have w:=AI K.os ids;obtain⟨p1,p2,p3⟩:=j4 ids K1.os _ A hp hn;have hbl:A.length=K.os.length:=p1.trans w.1;have hext:(focusK ids K).ext=ids.length:=rfl;have a5:∀(j id:Nat),ids[j]?=zsq id->isRt (focusK ids K).os j=isRt K.os id:=fun j id D=>by
   unfold isRt
   have:(focusK ids K).os[j]?=zsq (cutPO (renPO (posOf ids) (entryAt K.os id))):=by
    show(ids.map fun id=>cutPO (renPO (posOf ids) (entryAt K.os id)))[j]?=_
    rw[zqg,D];rfl
   rw[this];unfold entryAt;cases he:K.os[id]? with
   |none=>rfl
   |some e=>
    cases e with
    |row k es sz=>cases k<;>rfl
    |sub p i o=>
     show(match zsq (cutPO (match posOf ids p with|some q=>PO.sub q i o|none=>.dead))with|some (.row _ _ _)=>zt|some (.mapo _)=>zt|_=>zf)=zf
     cases posOf ids p<;>rfl
    |_=>rfl
  have hkind:∀(j id:Nat),ids[j]?=zsq id->isRt K1.os j=zt->isRt K.os id=zt/\id<K.os.length:=fun j id D C=>by
   have aa:j<ids.length:=(zqc.1 D).1
   have:=st.rd j aa C
   rw[a5 j id D]at this;exact⟨this,isRt_lt this⟩
  have av:∀(j id:Nat),ids[j]?=zsq id->backN ids K.os.length j=zsq id:=fun j id D=>by unfold backN;rw[D]
  have hb2:∀j,ids.length<=j->backN ids K.os.length j=zsq (K.os.length+(j-ids.length)):=fun j D=>by
   unfold backN;rw[List.getElem?_eq_none D]
  have V:∀j r,backN ids K.os.length j=zsq r->ids[j]?=zsq r\/(ids.length<=j/\r=K.os.length+(j-ids.length)):=fun j r C=>by
   unfold backN at C;cases H:ids[j]? with
   |some id=>rw[H]at C;cases C;exact .inl rfl
   |none=>rw[H]at C;cases C;exact .inr ⟨by simpa using H,rfl⟩
  let ow':Nat->Option (List Nat):=fun d=>match rown (backN ids K.os.length) ow1 d with
   |some M=>zsq M
   |none=>if d<h.next/\(rown (posOf ids) ow d).isNone=zt then ow d else znq
  have ad:∀d r t,ow' d=zsq (r::t)↔(∃j,ow1 d=zsq (j::t)/\backN ids K.os.length j=zsq r)\/(rown (posOf ids) ow d=znq/\d<h.next/\ow d=zsq (r::t)):=fun d r t=>by
   show (match rown (backN ids K.os.length) ow1 d with
    |some M=>zsq M
    |none=>if d<h.next/\(rown (posOf ids) ow d).isNone=zt then ow d else znq)=zsq (r::t)↔_
   cases H:rown (backN ids K.os.length) ow1 d with
   |some M=>
    simp only;obtain⟨r',j,t',G,a2,a3⟩:=D7.1 H
    constructor
    . intro e;cases e;cases a3;exact .inl ⟨r',G,a2⟩
    . rintro (⟨U,I,B⟩|⟨I,B,Y⟩)
      . rw[G]at I;cases I
        rw[a2]at B;cases B;rw[a3]
      . exact absurd I (st.uo d _ G B)
   |none=>
    simp only
    constructor
    . intro e
      split at e
      . rename_i hc
        refine .inr ⟨?_,hc.1,e⟩;cases h2:rown (posOf ids) ow d with
        |none=>rfl
        |some M=>rw[h2]at hc;cases hc.2
      . cases e
    . rintro(⟨U,I,B⟩|⟨I,B,Y⟩)
      . rw[D7.2 ⟨U,r,t,I,B,rfl⟩]at H;cases H
      . rw[if_pos ⟨B,by rw[I];rfl⟩];exact Y
  have ao:∀d M,ow' d=zsq M->∃r t,M=r::t:=fun d M J=>by
   have J:(match rown (backN ids K.os.length) ow1 d with
    |some M=>zsq M
    |none=>if d<h.next/\(rown (posOf ids) ow d).isNone=zt then ow d else znq)=zsq M:=J
   cases H:rown (backN ids K.os.length) ow1 d with
   |some N=>
    rw[H]at J;cases J;obtain⟨_,j,t,_,_,a3⟩:=D7.1 H;exact⟨j,t,a3⟩
   |none=>
    rw[H]at J;simp only at J;split at J
    . obtain⟨_,_,r,t,a,_⟩:=s.live d M J;exact⟨r,t,a⟩
    . cases J
  have af:∀d r t,ow d=zsq (r::t)->r<K.os.length:=fun d r t J=>by
   obtain⟨_,_,r',t',a,b⟩:=s.live d _ J;cases a;exact isRt_lt b
  have aj:∀d r t,ow d=zsq (r::t)->¬r∈ids->rown (posOf ids) ow d=znq:=fun d r t J C=>by
   cases H:rown (posOf ids) ow d with
   |none=>rfl
   |some M=>
    obtain⟨r',j,t',G,a2,_⟩:=D7.1 H;rw[J]at G;cases G;exact absurd (zqa (posOf_some ids r j a2)) C
  have hB:∀d r t,¬r∈ids->r<K.os.length->(ow' d=zsq (r::t)↔ow d=zsq (r::t)):=fun d r t C hl=>by
   rw[ad]
   constructor
   . grind
   . exact fun J=>.inr ⟨aj d r t J C,(s.live d _ J).1,J⟩
  have hC:∀d (j r:Nat) t,ids[j]?=zsq r->r<K.os.length->(ow' d=zsq (r::t)↔ow1 d=zsq (j::t)):=fun d j r t D hl=>by
   rw[ad]
   constructor
   . rintro (⟨U,I,B⟩|⟨I,_,Y⟩)
     . rcases V U r B with c|⟨_,c⟩
       . have:=H8 ids r U hn c
         rw[H8 ids r j hn D]at this;grind
       . omega
     . rw[D7.2 ⟨r,j,t,Y,H8 ids r j hn D,rfl⟩]at I;cases I
   grind
  have hD:∀d j t,ids.length<=j->(ow' d=zsq ((K.os.length+(j-ids.length))::t)↔ow1 d=zsq (j::t)):=fun d j t D=>by
   rw[ad];grind
  have hz:∀d,Z d->Z1 d/\h1.get d=h.get d:=st.zz;have ap:∀d r t,ow d=zsq (r::t)->¬r∈ids->h1.get d=h.get d:=fun d r t J C=>st.un d (s.live d _ J).1 (aj d r t J C)
  have aw:∀{r:Nat}{e:PO},(A++(K1.os.drop ids.length).map (renPO (backN ids K.os.length)))[r]?=zsq e->(¬r∈ids/\r<K.os.length/\(killU K.os ids 0 K.os)[r]?=zsq e)\/(∃j e1,ids[j]?=zsq r/\r<K.os.length/\K1.os[j]?=zsq e1/\UZ (backN ids K.os.length) (killU K.os ids 0 K.os) A r e1/\A[r]?=zsq e)\/∃j e1,ids.length<=j/\r=K.os.length+(j-ids.length)/\K1.os[j]?=zsq e1/\e=renPO (backN ids K.os.length) e1:=fun{r e} C=>by
   rw[List.getElem?_append]at C;split at C
   . rename_i hl
     by_cases Q:r∈ids
     . obtain⟨j,D⟩:=zqe Q
       obtain⟨e1,q1,q2⟩:=p3 j r D;exact .inr (.inl ⟨j,e1,D,by omega,q1,q2,C⟩)
     grind
   grind
  have ae:∀{e1:PO}{k es sz},renPO (backN ids K.os.length) e1=.row k es sz->∃es0,e1=.row k es0 sz/\((k=0/\es=es0)\/(k≠0/\es=renL (backN ids K.os.length) es0)):=fun{e1 k es sz} he=>by
   cases e1 with
   |row k' es' ai=>
    cases k' with
    |_=>cases he;grind
   |sub p i o=>unfold renPO at he;simp only at he;cases H:backN ids K.os.length p<;>rw[H]at he<;>cases he
   |_=>cases he
  have ab:∀{r:Nat}{e:PO},(A++(K1.os.drop ids.length).map (renPO (backN ids K.os.length)))[r]?=zsq e->(¬r∈ids/\r<K.os.length/\(killU K.os ids 0 K.os)[r]?=zsq e)\/(∃j e1,K1.os[j]?=zsq e1/\e=renPO (backN ids K.os.length) e1/\(∀d t,ow' d=zsq (r::t)↔ow1 d=zsq (j::t))/\backN ids K.os.length j=zsq r/\((ids[j]?=zsq r/\isRt K.os r=zt)\/ids.length<=j))\/e=.dead:=fun{r e} C=>by
   rcases aw C with a|⟨j,e1,I,B,Y,b4,b5⟩|⟨j,e1,c1,c2,c3,c4⟩
   . exact .inl a
   . rcases b4 with⟨k,es,sz,k',es',ai,d1,d2,d3⟩|⟨k,es,sz,d1,d2,d3⟩|⟨es,es',d1,d2,d3⟩|⟨d1,d2,d3⟩
     . rw[d3]at b5;cases b5
       exact .inr (.inl ⟨j,e1,Y,rfl,fun d t=>hC d j r t I B,av j r I,(by grind[Go.AM.isRt])⟩)
     . grind
     . rw[d3]at b5;cases b5
       exact .inr (.inl ⟨j,e1,Y,by rw[d2];rfl,fun d t=>hC d j r t I B,av j r I,(by grind[Go.AM.isRt])⟩)
     . rw [d3]at b5
       unfold isRt at d1;rw[b5]at d1;cases e with
       |dead=>grind
       |sub p i o=>
        grind[aT]
       |_=>cases d1
   grind
  have ak:∀(n id:Nat)(L:List Nat),n<=6->id<K.os.length->loP (A++(K1.os.drop ids.length).map (renPO (backN ids K.os.length))) n id=zsq L->loP K.os n id=zsq L/\(∀r t,L=r::t->t≠[]->¬r∈ids):=fun n=>by
   induction n with
   |zero=>exact fun id L _ _ e=>by cases e
   |succ n ih=>
    intro id L h6n hl e;unfold loP at e;cases D:(A++(K1.os.drop ids.length).map (renPO (backN ids K.os.length)))[id]? with
    |none=>grind
    |some en=>
     rw[D]at e;have X:A[id]?=zsq en:=by grind
     cases en with
     |row k es sz=>
      cases e;refine⟨?_,(by grind)⟩;unfold loP;by_cases Q:id∈ids
      . grind[isRt]
      . rw[p2 id Q]at X
        rw[w.row.1 X]
     |mapo es=>
      cases e;refine⟨?_,(by grind)⟩;unfold loP;by_cases Q:id∈ids
      . grind[isRt]
      . rw[p2 id Q]at X
        rw[w.map.1 X]
     |dead=>cases e
     |sub p i o=>
      simp only at e;cases hp:loP (A++(K1.os.drop ids.length).map (renPO (backN ids K.os.length))) n p with
      |none=>rw[hp]at e;cases e
      |some Lp=>
       rw [hp]at e;cases e;have aq:(killU K.os ids 0 K.os)[id]?=zsq (.sub p i o):=by
        by_cases Q:id∈ids
        . obtain⟨j,ba⟩:=zqe Q
          obtain⟨e1,q1,q2⟩:=p3 j id ba;rcases q2 with⟨k',es',ai,k2,ay,az,d1,d2,d3⟩|⟨k',es',ai,d1,_,d3⟩|⟨es',_,d1,_,d3⟩|⟨d1,d2,d3⟩
          . rw[d3,d2]at X;cases k2<;>cases X
          . grind
          . grind
          grind
        grind
       have ag:K.os[id]?=zsq (.sub p i o):=by
        rcases w.2 id with e1|⟨_,_,_,_,e2⟩
        . grind
        grind
       obtain⟨g1,g2⟩:=ih p Lp (by omega) (s.sb id p i o ag) hp;refine⟨by grind[loP],fun r t e ht=>?_⟩;obtain⟨t1,g3,_⟩:=J8 n p Lp g1;have a6:=aT aq
       have:r=rootOf K.os n p:=by grind
       have h6:rootOf K.os 6 p=rootOf K.os n p:=by
        obtain⟨t6,g4,_⟩:=J8 6 p Lp (KQ (by omega) g1);grind
       rw[this,<-h6];exact a6.1 _ (Wv 6 p)
  have ah:Keep' ow K.os ow' (A++(K1.os.drop ids.length).map (renPO (backN ids K.os.length))):=by
   refine⟨by simp;omega,fun id hl L' a0=>?_⟩;obtain⟨g1,g2⟩:=ak 6 id L' (zke _) hl a0;refine⟨L',g1,fun c=>?_⟩;obtain⟨t,g3,g4,_⟩:=J8 6 id L' g1;have al:=isRt_lt g4;by_cases Q:rootOf K.os 6 id∈ids
   . -- a root that the call came to
     have ht:t=[]:=Classical.byContradiction fun ht=>g2 _ t g3 ht Q
     subst ht;have hid:rootOf K.os 6 id=id:=by
      grind
     rw [hid]at Q g3;obtain⟨j,D⟩:=zqe Q;have am:isRt (A++(K1.os.drop ids.length).map (renPO (backN ids K.os.length))) id=zt:=by
      grind[J8]
     have aa:j<ids.length:=(zqc.1 D).1;have ax:isRt K1.os j=zt:=by
      unfold isRt at am;cases H:(A++(K1.os.drop ids.length).map (renPO (backN ids K.os.length)))[id]? with
      |none=>grind
      |some e=>
       rw[H]at am;obtain⟨e1,q1,q2⟩:=p3 j id D;have X:A[id]?=zsq e:=by grind
       unfold isRt;rw[q1];rcases q2 with⟨k',es',ai,k2,ay,az,d1,d2,d3⟩|⟨k',es',ai,d1,_,d3⟩|⟨es',_,d1,d2,d3⟩|⟨d1,d2,d3⟩
       . rw[d2]
       . grind
       . rw[d2]
       grind[isRt]
     have a7:=st.xk j aa c ax;rw[g3,hC c j id [] D (by omega),<-a7,D7]
     constructor
     . exact fun J=>⟨id,j,[],J,H8 ids id j hn D,rfl⟩
     grind[posOf_some]
   grind
  have an:Ren (backN ids K.os.length) ow1 K1.os ow' (A++(K1.os.drop ids.length).map (renPO (backN ids K.os.length))):=by
   have hlen:(A++(K1.os.drop ids.length).map (renPO (backN ids K.os.length))).length=K.os.length+(K1.os.length-ids.length):=by simp;omega
   have key : ∀(n j r:Nat)(L':List Nat),backN ids K.os.length j=zsq r->loP (A++(K1.os.drop ids.length).map (renPO (backN ids K.os.length))) n r=zsq L'->∃L,loP K1.os n j=zsq L/\∀c,ow1 c=zsq L↔ow' c=zsq L':=fun n=>by
    have main:∀(n j r:Nat)(L':List Nat),backN ids K.os.length j=zsq r->loP (A++(K1.os.drop ids.length).map (renPO (backN ids K.os.length))) n r=zsq L'->∃j0 r0 t,loP K1.os n j=zsq (j0::t)/\L'=r0::t/\∀c t,ow1 c=zsq (j0::t)↔ow' c=zsq (r0::t):=fun n=>by
     induction n with
     |zero=>exact fun j r L' _ e=>by cases e
     |succ n ih=>
      intro j r L' hb e;unfold loP at e;cases D:(A++(K1.os.drop ids.length).map (renPO (backN ids K.os.length)))[r]? with
      |none=>grind
      |some en=>
       rw[D]at e;rcases ab D with⟨G,a2,_⟩|⟨U,e1,I,B,Y,b4,b5⟩|rfl
       . grind
       . have ar:U=j:=by
          rcases V j r hb with c|⟨c,c'⟩
          . rcases V U r b4 with d|⟨_,d⟩
            . have:=H8 ids r j hn c
              rw[H8 ids r U hn d]at this;grind
            grind
          grind
         subst ar;unfold loP;rw[I];cases e1 with
         |row k es sz=>
          have:∃es',en=.row k es' sz:=by rw[B];cases k<;>exact⟨_,rfl⟩
          grind
         |mapo es=>rw[B]at e;cases e;grind
         |dead=>rw[B]at e;cases e
         |sub p i o=>
          rw[B]at e;rw[show renPO (backN ids K.os.length) (.sub p i o)=(match backN ids K.os.length p with|some q=>PO.sub q i o|none=>.dead)from rfl]at e;simp only at e|-;cases H:backN ids K.os.length p with
          |none=>grind
          |some p'=>
           rw[H]at e;simp only at e;cases hL:loP (A++(K1.os.drop ids.length).map (renPO (backN ids K.os.length))) n p' with
           |none=>grind
           |some Lp=>
            grind
       . cases e
    grind
   intro j r D aa;grind
  have hzk:∀d,Z d->Z1 d/\h1.get d=h.get d:=hz;refine⟨ow',⟨fun r es sz C=>?_,fun r k es sz C hk=>?_,fun r es C=>?_,fun a b M ha hb=>?_,fun a M ha=>?_,s1.zb,fun j p i o D=>?_⟩,ah,fun b=>⟨st.nx,hz,st.zn,fun d J ho=>?_,fun d M J hl=>?_,?_,fun d r t ho C=>?_,fun r C hl=>?_,rfl,fun j D c C=>?_,fun j D C=>?_⟩,an⟩
  . rcases ab C with⟨G,a2,a3⟩|⟨j,e1,I,B,Y,_,_⟩|h
    . obtain⟨x,hx⟩:=s.row r es sz (w.row.1 a3)
      exact⟨x,hx.reloc st.nx hz (fun d t=>hB d r t G a2) (fun d t J=>ap d r t J G)⟩
    . obtain ⟨es0,rfl,h3⟩:=ae B.symm
      rcases h3 with⟨_,rfl⟩|⟨h3,_⟩
      . obtain⟨x,hx⟩:=s1.row j _ sz I
        exact⟨x,hx.reloc (zke _) (fun _ hz=>⟨hz,rfl⟩) (fun d t=>Y d t) (fun _ _ _=>rfl)⟩
      grind
    . cases h
  . rcases ab C with⟨G,a2,a3⟩|⟨j,e1,I,B,Y,_,_⟩|h
    . obtain⟨c,ces,g⟩:=s.raw r k es sz (w.row.1 a3) hk
      refine⟨c,ces,(hB c r [] G a2).2 g.o,zkf g.lt st.nx,(ap c r [] g.o G).trans g.get,g.sh,fun i x y hx hy o a b ha hb=>(g.vr i x y hx hy o a b ha hb).keep hz ah,g.okp,fun a t ha=>g.no a t ((hB a r t G a2).1 ha)⟩
    . obtain ⟨es0,rfl,h3⟩:=ae B.symm
      rcases h3 with⟨h3,_⟩|⟨_,rfl⟩
      . grind
      . obtain⟨c,ces,g⟩:=s1.raw j k es0 sz I hk
        exact⟨c,ces,g.ren (fun _ hz=>⟨hz,rfl⟩) an ((Y c []).2 g.o) (zke _) rfl (fun a t ha=>g.no a t ((Y a t).1 ha))⟩
    . cases h
  . rcases ab C with⟨G,a2,a3⟩|⟨j,e1,I,B,Y,_,_⟩|h
    . obtain⟨c,ces,g⟩:=s.map r es (w.map.1 a3)
      exact⟨c,ces,(hB c r [] G a2).2 g.o,zkf g.lt st.nx,(ap c r [] g.o G).trans g.get,g.len,fun i x y hx hy=>⟨(g.kv i x y hx hy).1,(g.kv i x y hx hy).2.mono hz⟩,fun a t ha=>g.no a t ((hB a r t G a2).1 ha)⟩
    . have:e1=.mapo es:=by
       cases e1 with
       |mapo=>cases B;rfl
       |row k _ _=>cases k<;>cases B
       |dead=>cases B
       |sub p i o=>unfold renPO at B;simp only at B;cases H:backN ids K.os.length p<;>rw[H]at B<;>cases B
      subst this;obtain⟨c,ces,g⟩:=s1.map j es I;exact⟨c,ces,(Y c []).2 g.o,g.lt,g.get,g.len,g.kv,fun a t ha=>g.no a t ((Y a t).1 ha)⟩
    . cases h
  . obtain ⟨r,t,rfl⟩:=ao a M ha
    rcases(ad a r t).1 ha with⟨j,G,a2⟩|⟨G,a2,a3⟩
    . rcases (ad b r t).1 hb with⟨U,I,B⟩|⟨I,B,Y⟩
      . have ar:U=j:=by
         rcases V j r a2 with c|⟨c,c'⟩
         . rcases V U r B with d|⟨_,d⟩
           . have:=H8 ids r j hn c
             rw[H8 ids r U hn d]at this;cases this;rfl
           . have:=ac r (zqa c);omega
         . rcases V U r B with d|⟨_,d⟩
           . have:=ac r (zqa d);omega
           . omega
        subst ar;exact s1.inj _ _ _ G I
      . rcases V j r a2 with c|⟨_,c⟩
        . rw[D7.2 ⟨r,j,t,Y,H8 ids r j hn c,rfl⟩]at I;cases I
        . have:=af b r t Y;omega
    . rcases (ad b r t).1 hb with⟨U,I,B⟩|⟨I,B,Y⟩
      . rcases V U r B with c|⟨_,c⟩
        . rw[D7.2 ⟨r,U,t,a3,H8 ids r U hn c,rfl⟩]at G;cases G
        . have:=af a r t a3;omega
      . exact s.inj _ _ _ a3 Y
  . obtain ⟨r,t,rfl⟩:=ao a M ha
    rcases(ad a r t).1 ha with⟨j,G,a2⟩|⟨G,a2,a3⟩
    . obtain ⟨c1,c2,r',t',c3,c4⟩:=s1.live a _ G
      cases c3;refine⟨c1,c2,r,t,rfl,?_⟩;rcases V j r a2 with c|⟨c,rfl⟩
      . obtain⟨e1,q1,q2⟩:=p3 j r c
        have al:=ac r (zqa c);unfold isRt at c4|-;rw[zqq (by omega)];rw[q1]at c4;rcases q2 with⟨k',es',ai,k2,ay,az,d1,d2,d3⟩|⟨k',es',ai,d1,d2,d3⟩|⟨es',_,d1,d2,d3⟩|⟨d1,d2,d3⟩
        . rw[d3,d2];cases k2<;>rfl
        . rw[d2]at c4;cases c4
        . rw[d3]
        . rw[d2]at c4;cases c4
      . unfold isRt at c4|-
        rw[zqw (by omega),zqg,zqx,show ids.length+(K.os.length+(j-ids.length)-A.length)=j by omega];cases H:K1.os[j]? with
        |none=>rw[H]at c4;cases c4
        |some e=>
         rw[H]at c4;cases e with
         |row k es sz=>cases k<;>rfl
         |mapo=>rfl
         |_=>cases c4
    . obtain ⟨c1,c2,r',t',c3,c4⟩:=s.live a _ a3
      cases c3;have al:=isRt_lt c4;have a9:¬r∈ids:=fun Q=>by
       obtain⟨j,D⟩:=zqe Q;rw[D7.2 ⟨r,j,t,a3,H8 ids r j hn D,rfl⟩]at G;cases G
      refine⟨zkf c1 st.nx,fun a4=>?_,r,t,rfl,?_⟩
      . rcases st.zn a a4 with h|h
        . exact c2 h
        . omega
      . have:=w.rt r
        unfold isRt at this c4|-;rw[zqq (by omega),p2 r a9,this];exact c4
  . rcases ab D with⟨G,a2,a3⟩|⟨U,e1,I,B,_,_,_⟩|h
    . have ag:K.os[j]?=zsq (.sub p i o):=by
       rcases w.2 j with e1|⟨_,_,_,_,e2⟩
       . rw[<-e1];exact a3
       . rw[e2]at a3;cases a3
      have:=s.sb j p i o ag
      simp;omega
    . cases e1 with
      |sub p0 i0 o0=>
       unfold renPO at B;simp only at B;cases H:backN ids K.os.length p0 with
       |none=>rw[H]at B;cases B
       |some p'=>
        rw[H]at B;cases B;have hpl:=s1.sb U p0 i o I;simp;rcases V p0 p H with c|⟨_,c⟩
        . have:=ac p (zqa c);omega
        . omega
      |row k _ _=>cases k<;>cases B
      |_=>cases B
    . cases h
  . exact st.un d J (by
     cases H:rown (posOf ids) ow d with
     |none=>rfl
     |some M=>
      obtain⟨_,_,_,G,_⟩:=D7.1 H;rw[ho]at G;cases G)
  . obtain⟨r,t,rfl⟩:=ao d M J
    intro e;rcases(ad d r t).1 J with⟨j,G,a2⟩|⟨_,_,a3⟩
    . have:=st.uo d _ G hl
      exact this (by
       cases H:rown (posOf ids) ow d with
       |none=>rfl
       |some M=>
        obtain⟨_,_,_,G,_⟩:=D7.1 H;rw[e]at G;cases G)
    . rw[e]at a3;cases a3
  . obtain ⟨l,l1,l2⟩:=st.th
    refine⟨l,l1,fun d J=>?_⟩;rcases l2 d J with h|⟨j,t,h3,h4⟩
    . exact .inl h
    . obtain⟨r,U,t',G,a2,a3⟩:=D7.1 h3
      cases a3;have D:=posOf_some ids r j a2;have aa:j<ids.length:=(zqc.1 D).1;refine .inr ⟨r,t,G,fun _=>zqy _ (zqm.2 ⟨j,zqr.2 ⟨h4 aa,by simpa using aa⟩,?_⟩)⟩;rw[zqz,D];rfl
  . by_cases Q:r∈ids
    . obtain⟨j,D⟩:=zqe Q
      have aa:j<ids.length:=(zqc.1 D).1;have h3:=D7.2 ⟨r,j,t,ho,H8 ids r j hn D,rfl⟩;rcases st.mv d j t h3 aa with⟨t',h4⟩|h4
      . exact .inl ⟨t',(hC d j r t' D (ac r Q)).2 h4⟩
      . exact .inr (zqy _ (zqm.2 ⟨j,zqr.2 ⟨h4,by simpa using aa⟩,by rw[zqz,D];rfl⟩))
    . exact .inl ⟨t,(hB d r t Q (af d r t ho)).2 ho⟩
  . exact List.mem_append_right _ C
  . have hl:j<K.os.length:=by omega
    have al:loP (A++(K1.os.drop ids.length).map (renPO (backN ids K.os.length))) 6 j=zsq [j]:=by
     unfold isRt at C;unfold loP;have C:(match(A++(K1.os.drop ids.length).map (renPO (backN ids K.os.length)))[j]? with|some (.row _ _ _)=>zt|some (.mapo _)=>zt|_=>zf)=zt:=C;cases H:(A++(K1.os.drop ids.length).map (renPO (backN ids K.os.length)))[j]? with
     |none=>rw[H]at C;cases C
     |some e=>rw[H]at C;cases e<;>first|rfl|cases C
    obtain⟨L,g1,g2⟩:=ah.2 j hl [j] al;obtain⟨g3,_⟩:=ak 6 j [j] (zke _) hl al;rw[g1]at g3;cases g3;exact g2 c
  . have hl:j<K.os.length:=by omega
    have C:(match(A++(K1.os.drop ids.length).map (renPO (backN ids K.os.length)))[j]? with|some (.row _ _ _)=>zt|some (.mapo _)=>zt|_=>zf)=zt:=C;cases H:(A++(K1.os.drop ids.length).map (renPO (backN ids K.os.length)))[j]? with
    |none=>rw[H]at C;cases C
    |some e=>
     rcases ab H with⟨G,a2,a3⟩|⟨U,e1,I,B,Y,b4,b5⟩|rfl
     . rw[<-w.rt];unfold isRt;rw[a3];rw[H]at C;exact C
     . rcases b5 with⟨_,h⟩|h
       . exact h
       . rcases V U j b4 with c|⟨_,c⟩
         . have:=(zqc.1 c).1;omega
         . omega
     . rw[H]at C;cases C
end
section
variable {E:Env}{R:AV->AV->Prop}{Z Z' Z1:Nat->Prop}{ow ow' ow1:Nat->Option (List Nat)}{h h' h1:Heap}{K K':PK}{os os' ps:List PO}{x y xc yc v k:AV}{L M:List Nat}
theorem Af{a:Option AV}{l:Option (List AV)}{r:List AV}(e:consO a l=zsq r):∃v t,a=zsq v/\l=zsq t/\r=v::t:=by
 unfold consO at e;grind
theorem Dr:∀(l A:List AV),frzL l=zsq A->A.length=l.length/\∀(i:Nat) y B,l[i]?=zsq y->A[i]?=zsq B->frzC y=zsq B
 |[],A,e=>by cases e;grind
 |v::l,A,e=>by
  unfold frzL at e;obtain⟨a,t,h1,C,rfl⟩:=Af e;obtain⟨h3,h4⟩:=Dr l t C;grind
theorem kG:∀(l A:List AV),viewL os l=zsq A->A.length=l.length/\∀(i:Nat) y B,l[i]?=zsq y->A[i]?=zsq B->viewV os y=zsq B
 |[],A,e=>by cases e;grind
 |v::l,A,e=>by
  unfold viewL at e;obtain⟨a,t,h1,C,rfl⟩:=Af e;obtain⟨h3,h4⟩:=kG l t C;grind
theorem Oq:∀(l A:List AV),viewAs os l=zsq A->A.length=l.length/\∀(i:Nat) y B,l[i]?=zsq y->A[i]?=zsq B->viewA os y=zsq B
 |[],A,e=>by cases e;grind
 |v::l,A,e=>by
  unfold viewAs at e;obtain⟨a,t,h1,C,rfl⟩:=Af e;obtain⟨h3,h4⟩:=Oq l t C;grind
theorem Na{c A:AV}(e:frzC c=zsq A)(hc:isAg c=zf):clo A=zt:=by
 cases c<;>unfold frzC at e<;>first|(cases e;done)|(cases e;rfl)|skip
 . cases hc
 . rename_i cs
   cases cs with
   |nil=>cases e
   |cons a es=>
    cases a<;>try (cases e;done)
    rename_i i j z;cases j with
    |succ=>cases e
    |zero=>
     simp only at e;cases hf:frzL es with
     |none=>grind
     |some es'=>
      rw[hf]at e;simp only at e;split at e
      . split at e
        . cases e;rfl
        . cases e
      . cases e;rfl
 . rename_i es f
   cases hf:frzL es with
   |none=>grind
   |some es'=>rw[hf]at e;cases e;rfl
 . rename_i v o
   cases hf:frzC v with
   |none=>grind
   |some es'=>rw[hf]at e;cases e;rfl
theorem Fz.frz(f:Fz Z h x y):∀A,frzC y=zsq A->Fz Z h x A:=by
 have fsl:∀{x:AV}{es es':List AV},(∀B:List AV,frzL es=zsq B->Fz Z h x (fslN B))->∀{f:Bool} A,frzC (.fsl es f)=zsq A->Fz Z h x A:=(by grind[Go.AM.frzC])
 induction f with
 |int=>intro A e;cases e;exact .int _ _
 |bool=>intro A e;cases e;exact .bool _
 |str=>intro A e;cases e;exact .str _
 |nilsl=>intro A e;cases e;exact .emp .nil
 |nilptr=>intro A e;cases e;exact .nilptr
 |nilmap=>intro A e;cases e;exact .nilmap
 |nilfn=>intro A e;cases e;exact .nilfn
 |niliface=>intro A e;cases e;exact .niliface
 |agg h1 H C D=>
  rename_i xs ys;intro A e;unfold frzC at e;cases hf:frzL ys with
  |none=>grind
  |some ys'=>
   rw[hf]at e;cases e;obtain⟨G,I⟩:=Dr _ _ hf;refine .agg (h1.trans G.symm) (fun i a b ha hb=>?_) (zqf.2 fun b hb=>?_)
   . grind
   . obtain⟨i,hi⟩:=zqe hb
     obtain⟨c,hc⟩:∃c,ys[i]?=zsq c:=(by grind)
     refine Na (I i c b hc hi) ?_
     have:=zqf.1 C c (zqa hc)
     cases c<;>first|rfl|cases this
 |emp e=>intro A J;cases J;exact .emp e
 |fsl h1 H C D=>
  rename_i es es' f f';refine fsl (es':=es') fun B hf=>?_
  obtain⟨G,I⟩:=Dr _ _ hf;unfold fslN;refine .fsl (h1.trans G.symm) (fun i a b ha hb=>?_) C;grind
 |view h1 H C N h5 Q D=>
  rename_i es' f';refine fsl (es':=es') fun B hf=>?_
  obtain⟨G,I⟩:=Dr _ _ hf;refine .view h1 H C (G.trans N) (fun i a b ha hb=>?_) Q;grind
 |fptr o _ D=>
  rename_i v v' _;intro A e;unfold frzC at e;cases hf:frzC v' with
  |none=>grind
  |some w=>rw[hf]at e;cases e;exact .fptr o (D w hf)
 |pview h1 H C _ D=>
  rename_i v v' row _;intro A e;unfold frzC at e;cases hf:frzC v' with
  |none=>grind
  |some w=>rw[hf]at e;cases e;exact .pview h1 H C (D w hf)
theorem Fz.elem{a b A:AV}(B:a.cells.length=b.cells.length/\isAg a=isAg b)(H:∀(o:Nat) u w,a.cells[o]?=zsq u->b.cells[o]?=zsq w->∀w',frzC w=zsq w'->Fz Z h u w'/\AM.clo w'=zt)(e:frzC b=zsq A):Fz Z h a A:=by
 cases hb:isAg b with
 |false=>
  have ha:=B.2.trans hb;exact(H 0 a b (by rw[C8 ha];rfl) (by rw[C8 hb];rfl) A e).1
 |true=>
  have ha:=B.2.trans hb;cases b<;>first|(cases hb;done)|skip
  cases a<;>first|(cases ha;done)|skip
  rename_i ys xs;unfold frzC at e;cases hf:frzL ys with
  |none=>grind
  |some ys'=>
   rw[hf]at e;cases e;obtain⟨I,G⟩:=Dr _ _ hf;have hl:xs.length=ys.length:=B.1;refine .agg (hl.trans I.symm) (fun i u w C D=>?_) (zqf.2 fun w D=>?_)
   . obtain⟨c,hc⟩:∃c,ys[i]?=zsq c:=(by grind)
     exact(H i u c C hc w (G i c w hc D)).1
   . obtain⟨i,hi⟩:=zqe D
     obtain⟨c,hc⟩:∃c,ys[i]?=zsq c:=(by grind)
     obtain⟨u,C⟩:∃u,xs[i]?=zsq u:=(by grind)
     exact(H i u c C hc w (G i c w hc hi)).2
def Zv(Z:Nat->Prop)(ow:Nat->Option (List Nat))(id:Nat):Prop:=Z id\/ow id≠znq
theorem Fz.zv(f:Fz Z h x y):Fz (Zv Z ow) h x y:=f.mono fun _ hz=>⟨.inl hz,rfl⟩
theorem CR.frz(c:CR Z ow h L x y):∀A,frzC y=zsq A->Fz (Zv Z ow) h x A/\clo A=zt:=by
 induction c with
 |val f e n=>exact fun A B=>⟨(f.frz A B).zv,Na B (by rename_i y;cases y<;>first|rfl|cases e)⟩
 |und=>intro A e;cases e
 |nil e n=>
  intro A B;cases B;refine⟨.emp ?_,rfl⟩;rcases e with rfl|rfl
  . exact .nil
  . exact .nil
 |own h1 h2 H h4 h5 Y _ ih=>
  rename_i L k id sz ces es _;intro A e;have D:isAg (ownd k sz es)=zf:=rfl;refine⟨?_,Na e D⟩;unfold ownd frzC at e;simp only at e;cases hf:frzL es with
  |none=>grind
  |some es'=>
   rw [hf]at e;simp only at e;obtain⟨N,Q⟩:=Dr _ _ hf;have G:∀(i:Nat) a b,ces[i]?=zsq a->es'[i]?=zsq b->Fz (Zv Z ow) h a b:=fun i a b ha hb=>by
    obtain⟨c,hc⟩:∃c,es[i]?=zsq c:=(by grind)
    obtain⟨U,V,X⟩:=Y i a c ha hc;exact .elem ⟨U.trans V.symm,X⟩ (fun o u w I J w' C=>ih i a c ha hc o u w I J w' C) (Q i c b hc hb)
   have hz:Zv Z ow id:=.inr (by grind);split at e
   . split at e
     . rename_i v
       cases e;have hl:ces.length=1:=by grind
       obtain⟨a,ha⟩:∃a,ces[0]?=zsq a:=⟨_,zqb (by omega)⟩
       exact .pview hz H ha (G 0 a v ha rfl)
     . cases e
   . rename_i hk
     cases e
     have:refK k id es.length sz=.msl id 0 es.length sz:=by
      unfold refK;grind
     rw[this];refine .view hz H (by omega) N (by grind) (fun i a hi ha=>?_);grind
end
section
variable {E:Env}{R:AV->AV->Prop}{Z Z' Z1:Nat->Prop}{ow ow' ow1:Nat->Option (List Nat)}{h h' h1:Heap}{K K':PK}{os os' ps:List PO}{x y xc yc v k:AV}{L M:List Nat}{r0 sz0 c0:Nat}{es0 ces0:List AV}
theorem VR.view(s:G2 Z ow h os)(a:VR Z ow h os x y){w:AV}(e:viewV os y=zsq w):Fz (Zv Z ow) h x w/\clo w=zt/\(J3 y=[]->Fz Z h x w):=by
 have el:∀{id:Nat}{es:List AV}{sz:Nat},rowOf os 6 id=zsq (0,es,sz)->∀{c:Nat},(∀L,loP os 6 id=zsq L->ow c=zsq L)->∃ces,h.get c=zsq (.row ces sz)/\eS sz ces es/\(ow c≠znq)/\∀(i:Nat) a b G,ces[i]?=zsq a->es[i]?=zsq b->frzC b=zsq G->Fz (Zv Z ow) h a G:=fun{id es sz} H {c} hc=>by
  obtain ⟨L,hL,h1⟩:=s.get 6 id 0 es sz H;have ho:=hc L hL;have fin:∀{V:AV},CR Z ow h L V (ownd 0 sz es)->∃ces,h.get c=zsq (.row ces sz)/\eS sz ces es/\(ow c≠znq)/\∀(i:Nat) a b G,ces[i]?=zsq a->es[i]?=zsq b->frzC b=zsq G->Fz (Zv Z ow) h a G:=fun{V} Y=>by
   rcases Y.inv with⟨_,_,_,n⟩|⟨id',ces,_,g2,_,g4,g5,_,g7⟩
   . exact absurd (by rw[zql];exact ho) (n c [])
   . obtain rfl:=s.inj c id' L ho g2
     refine⟨ces,g4,g5,(by grind),fun i a b G ha hb hf=>?_⟩;obtain⟨I,D,J⟩:=g5.2 i a b ha hb;exact .elem ⟨I.trans D.symm,J⟩ (fun o u w C N w' B=>(g7 i a b ha hb o u w C N).frz w' B) hf
  rcases h1 with⟨_,rfl,c',U,g⟩|⟨_,V,Y⟩
  . obtain rfl:=s.inj c c' _ ho g.o
    refine ⟨U,g.get,g.sh,(by grind),fun i a b G ha hb hf=>?_⟩;obtain⟨I,D,J⟩:=g.sh.2 i a b ha hb;refine .elem ⟨I.trans D.symm,J⟩ (fun o u w C N w' B=>?_) hf;have v:=g.vr i a b ha hb o u w C N;have A:=g.okp i b hb w (zqa N);have hz:Fz Z h u w:=by
     cases v with
     |fz f=>exact f
     |agg=>rcases A with A|A<;>cases A
     |tup=>rcases A with A|A<;>cases A
     |_=>cases B
    refine⟨(hz.frz w' B).zv,Na B ?_⟩;cases w<;>first|rfl|(rcases A with A|A<;>cases A)
  grind
 have plain:isAg y=zf->frzC y=zsq w->(∀cs,y≠.tup cs)->Fz (Zv Z ow) h x w/\clo w=zt/\(J3 y=[]->Fz Z h x w):=fun hy hf ht=>by
  have hz:Fz Z h x y:=by
   cases a with
   |fz f=>exact f
   |agg=>cases hy
   |tup=>grind
   |_=>cases hf
  exact⟨(hz.frz w hf).zv,Na hf hy,fun _=>hz.frz w hf⟩
 unfold viewV at e;split at e
 . rename_i id off n sz
   cases H:rowOf os 6 id with
   |none=>grind
   |some q=>
    obtain⟨k,es,z⟩:=q;rw[H]at e;simp only at e;split at e
    . rename_i hc
      obtain⟨rfl,rfl,hn⟩:=hc;cases hf:frzL ((es.drop off).take n)with
      |none=>grind
      |some es'=>
       rw[hf]at e;cases e;refine⟨?_,rfl,fun h0=>by cases h0⟩;obtain⟨g1,g2⟩:=Dr _ _ hf;have Q:((es.drop off).take n).length=n:=by simp;omega
       cases a with
       |fz f=>cases f
       |msl h1 X=>
        rename_i c;obtain⟨ces,I,D,J,q4⟩:=el H h1;refine .view (.inr J) I (by have:=D.1;omega) (g1.trans Q) (fun i u w C N=>?_) (fun i u hi C=>?_)
        . grind
        . obtain⟨b,hb⟩:∃b,es[off+i]?=zsq b:=(by grind)
          exact(D.2 (off+i) u b C hb).1
       |mnil h1 X h3=>
        have:es'=[]:=(by grind)
        subst this;refine .emp ?_;rcases h1 with rfl|rfl
        . exact .nil
        . exact .nil
    . cases e
 . rename_i id i off
   cases H:rowOf os 6 id with
   |none=>grind
   |some q=>
    obtain⟨k,es,z⟩:=q;rw[H]at e;simp only at e;split at e
    . rename_i hk;subst hk
      cases hi:es[i]? with
      |none=>grind
      |some v=>
       rw[hi]at e;simp only at e;cases hf:frzC v with
       |none=>grind
       |some v'=>
        rw[hf]at e;cases e;refine⟨?_,rfl,fun h0=>by cases h0⟩;cases a with
        |fz f=>cases f
        |ptr h1 X=>
         obtain⟨ces,I,D,J,q4⟩:=el H h1;obtain⟨u,C⟩:∃u,ces[i]?=zsq u:=⟨_,zqb (by have:=(zqc.1 hi).1;have:=D.1;omega)⟩
         exact .pview (.inr J) I C (q4 i u v v' C hi hf)
    . cases e
 . cases e
 . cases e
 . rename_i h1 X h3 h4
   refine plain ?_ e (fun cs he=>h3 cs he);cases y<;>first|rfl|grind
theorem VR.viewA(s:G2 Z ow h os)(a:VR Z ow h os x y){w:AV}(e:viewA os y=zsq w):Fz (Zv Z ow) h x w/\(J3 y=[]->Fz Z h x w):=by
 cases Q:isAg y with
 |false=>
  have J:viewV os y=zsq w:=by cases y<;>first|exact e|cases Q
  exact⟨(a.view s J).1,(a.view s J).2.2⟩
 |true=>
  cases y<;>first|(cases Q;done)|skip
  rename_i ys;unfold AM.viewA at e;simp only at e;cases hf:viewL os ys with
  |none=>grind
  |some I=>
   rw [hf]at e;cases e;obtain⟨N,U⟩:=kG _ _ hf;obtain⟨xs,rfl,l⟩:=a.agI;have C:∀(i:Nat) u w,xs[i]?=zsq u->I[i]?=zsq w->∃c,ys[i]?=zsq c/\VR Z ow h os u c/\viewV os c=zsq w:=fun i u w A B=>by
    obtain⟨c,hc⟩:∃c,ys[i]?=zsq c:=(by grind)
    exact⟨c,hc,l.2 i u c A hc,U i c w hc B⟩
   have D:I.all clo=zt:=zqf.2 fun w B=>by
    obtain⟨i,hi⟩:=zqe B;obtain⟨u,A⟩:∃u,xs[i]?=zsq u:=⟨_,zqb (by have:=(zqc.1 hi).1;have:=l.1;omega)⟩
    obtain⟨c,_,G,H⟩:=C i u w A hi;exact(G.view s H).2.1
   refine⟨.agg (l.1.trans N.symm) (fun i u w A B=>?_) D,fun h0=>.agg (l.1.trans N.symm) (fun i u w A B=>?_) D⟩
   . obtain⟨c,_,G,H⟩:=C i u w A B
     exact(G.view s H).1
   . obtain ⟨c,hc,G,H⟩:=C i u w A B
     refine(G.view s H).2.2 ?_
     have:∀(ys:List AV)(i:Nat),G9 ys=[]->ys[i]?=zsq c->J3 c=[]:=fun ys=>by
      induction ys with
      |nil=>grind
      |cons a l ih=>
       grind[G9,zqt]
     exact this ys i h0 hc
theorem VR.elemR(g:RawR (VR Z ow h os) ow h r0 es0 sz0 c0 ces0){i:Nat}{a b:AV}(ha:ces0[i]?=zsq a)(hb:es0[i]?=zsq b):VR Z ow h os a b:=by
 obtain⟨D,G,A⟩:=g.sh.2 i a b ha hb;have v:=g.vr i a b ha hb;cases b with
 | agg ys=>cases a with
  |agg xs=>exact .agg (D.trans G.symm) fun o u w B C=>v o u w B C
  |_=>cases A
 | _=>cases a with
  |agg xs=>cases A
  |_=>exact v 0 _ _ rfl rfl
theorem VR.viewW(s:G2 Z ow h os)(a:VR Z ow h os x y){w:AV}(e:viewW os y=zsq w):Fz (Zv Z ow) h x w/\clo w=zt/\(J3 y=[]->Fz Z h x w):=by
 unfold AM.viewW at e;cases I:viewV os y with
 |some w'=>rw[I]at e;cases e;exact a.view s I
 |none=>
  rw[I]at e;cases y with
  |msl id off n sz=>
   dsimp only at e;cases A:rawAt os id with
   |false=>rw[A]at e;cases e
   |true=>
    rw[A]at e;dsimp only at e;split at e
    . rename_i k es z D
      split at e
      . rename_i hc
        obtain⟨rfl,hn⟩:=hc;cases hf:viewAs os ((es.drop off).take n)with
        |none=>rw[hf]at e;cases e
        |some es'=>
         rw[hf]at e;cases e;refine⟨?_,rfl,fun h0=>by cases h0⟩;obtain⟨Q,U⟩:=Oq _ _ hf;have B:((es.drop off).take n).length=n:=by simp;omega
         obtain⟨L,hL,h1⟩:=s.get 6 id k es sz (by unfold rowOf;rw[D]);rcases h1 with⟨_,rfl,N,ces,g⟩|⟨hh,_⟩
         . cases a with
           |fz f=>cases f
           |mnil em H _=>exact absurd g.o (H _ hL N)
           |msl V h3=>
            rename_i c;obtain rfl:=s.inj c N _ (V _ hL) g.o;refine .view (.inr (by rw[g.o];intro e;cases e)) g.get (by have:=g.sh.1;omega) (Q.trans B) (fun i u w C J=>?_) (fun i u hi C=>?_)
            . obtain ⟨b,hb⟩:∃b,((es.drop off).take n)[i]?=zsq b:=⟨_,zqb (by have:=(zqc.1 J).1;omega)⟩
              have G:es[off+i]?=zsq b:=by
               rw[zqu]at hb;split at hb
               . rw[zqx]at hb;exact hb
               . cases hb
              exact((VR.elemR g C G).viewA s (U i b w hb J)).1
            . exact(g.sh.2 (off+i) u _ C (zqb (by have:=(zqc.1 C).1;have:=g.sh.1;omega))).1
         . rw[A]at hh;cases hh
      . cases e
    . cases e
  |_=>cases e
theorem aU:∀(l A:List AV),viewWL os l=zsq A->A.length=l.length/\∀(i:Nat) y B,l[i]?=zsq y->A[i]?=zsq B->viewW os y=zsq B
 |[],A,e=>by cases e;exact⟨rfl,fun i y B D=>by simp at D⟩
 |v::l,A,e=>by
  unfold viewWL at e;obtain⟨a,t,h1,G,rfl⟩:=Af e;obtain⟨H,I⟩:=aU l t G;refine⟨by simp[H],fun i y B D C=>?_⟩;cases i with
  |zero=>cases D;cases C;exact h1
  |succ i=>exact I i y B D C
theorem VR.viewWA(s:G2 Z ow h os)(a:VR Z ow h os x y){w:AV}(e:viewWA os y=zsq w):Fz (Zv Z ow) h x w/\(J3 y=[]->Fz Z h x w):=by
 cases Q:isAg y with
 |false=>
  have J:AM.viewW os y=zsq w:=by cases y<;>first|exact e|cases Q
  exact⟨(a.viewW s J).1,(a.viewW s J).2.2⟩
 |true=>
  cases y<;>first|(cases Q;done)|skip
  rename_i ys;unfold AM.viewWA at e;simp only at e;cases hf:viewWL os ys with
  |none=>rw[hf]at e;cases e
  |some I=>
   rw [hf]at e;cases e;obtain⟨N,U⟩:=aU _ _ hf;obtain⟨xs,rfl,l⟩:=a.agI;have C:∀(i:Nat) u w,xs[i]?=zsq u->I[i]?=zsq w->∃c,ys[i]?=zsq c/\VR Z ow h os u c/\AM.viewW os c=zsq w:=fun i u w B A=>by
    obtain⟨c,hc⟩:∃c,ys[i]?=zsq c:=⟨_,zqb (by have:=(zqc.1 A).1;omega)⟩
    exact⟨c,hc,l.2 i u c B hc,U i c w hc A⟩
   have D:I.all clo=zt:=zqf.2 fun w A=>by
    obtain⟨i,hi⟩:=zqe A;obtain⟨u,B⟩:∃u,xs[i]?=zsq u:=⟨_,zqb (by have:=(zqc.1 hi).1;have:=l.1;omega)⟩
    obtain⟨c,_,G,H⟩:=C i u w B hi;exact(G.viewW s H).2.1
   refine⟨.agg (l.1.trans N.symm) (fun i u w B A=>?_) D,fun h0=>.agg (l.1.trans N.symm) (fun i u w B A=>?_) D⟩
   . obtain⟨c,_,G,H⟩:=C i u w B A
     exact(G.viewW s H).1
   . obtain ⟨c,hc,G,H⟩:=C i u w B A
     refine(G.viewW s H).2.2 ?_
     have:∀(ys:List AV)(i:Nat),G9 ys=[]->ys[i]?=zsq c->J3 c=[]:=fun ys=>by
      induction ys with
      |nil=>intro i _ hc;simp at hc
      |cons a l X=>
       intro i h0 hc;have h0:J3 a++G9 l=[]:=h0;obtain⟨h1,V⟩:=zqt.1 h0;cases i with
       |zero=>cases hc;exact h1
       |succ i=>exact X i V hc
     exact this ys i h0 hc
theorem Ww:∀(l A:List AV),Rv os l=zsq A->A.length=l.length/\∀(i:Nat) y B,l[i]?=zsq y->A[i]?=zsq B->viewWA os y=zsq B
 |[],A,e=>by cases e;exact⟨rfl,fun i y B D=>by simp at D⟩
 |v::l,A,e=>by
  unfold Rv at e;obtain⟨a,t,h1,G,rfl⟩:=Af e;obtain⟨H,I⟩:=Ww l t G;refine⟨by simp[H],fun i y B D C=>?_⟩;cases i with
  |zero=>cases D;cases C;exact h1
  |succ i=>exact I i y B D C
theorem AJ(s:G2 Z ow h os){l D xs:List AV}(v:VL Z ow h os xs l)(e:viewX os l=zsq D):D.length=l.length/\∀(i:Nat) x y A,xs[i]?=zsq x->l[i]?=zsq y->D[i]?=zsq A->Fz (Zv Z ow) h x A/\(J3 y=[]->Fz Z h x A):=by
 unfold viewX at e;cases J:viewAs os l with
 |some as1=>
  rw[J]at e;cases e;obtain⟨H,I⟩:=Oq _ _ J;exact⟨H,fun i x y A G C B=>(v.2 i x y G C).viewA s (I i y A C B)⟩
 |none=>
  rw[J]at e;obtain⟨H,I⟩:=Ww _ _ e;exact⟨H,fun i x y A G C B=>(v.2 i x y G C).viewWA s (I i y A C B)⟩
def TC(E:Env)(f:Nat)(g:List AV->Option (List AV)):Prop:=∀args rs,g args=zsq rs->∀(Z:Nat->Prop)(h:Heap)(xs:List AV),xs.length=args.length->(∀(i:Nat) x y,xs[i]?=zsq x->args[i]?=zsq y->Fz Z h x y)->(∀id,Z id->id<h.next) ->
 ∃ (A:List AV) (h1:Heap) (Z1:Nat->Prop) (ow1:Nat->Option (List Nat)),callω E f xs h=.ok (oneOrTup A) h1/\G2 Z1 ow1 h1 (openTs 0 rs).2/\VL Z1 ow1 h1 (openTs 0 rs).2 A (openTs 0 rs).1/\
   h.next<=h1.next/\(∀id,Z id->Z1 id/\h1.get id=h.get id)/\(∀id,Z1 id->Z id\/h.next<=id)/\(∀id,id<h.next->h1.get id=h.get id)/\(∀id L,ow1 id=zsq L->h.next<=id)/\∃l,h1.tch=l++h.tch/\∀id∈l,h.next<=id
theorem Kg:∀(n:Nat)(l:List AV)(e:PO),e∈(openT n l).2->∃es sz,e=.row 0 es sz/\∃k,ownd k sz es∈l
 |n,[],e,h=>by cases h
 |n,c::r,e,h=>by
  unfold openT at h;cases ho:ownOf c with
  |none=>
   rw[ho]at h;obtain⟨es,sz,h1,k,A⟩:=Kg n r e h;grind
  |some q=>
   obtain⟨k,es,sz⟩:=q;rw[ho]at h;rcases zqi.1 h with rfl|h
   . exact⟨es,sz,rfl,k,by grind[Ad]⟩
   . obtain⟨es,sz,h1,k,A⟩:=Kg (n+1) r e h
     grind
theorem Gg:∀(n:Nat)(l:List AV)(e:PO),e∈(openTs n l).2->∃es sz,e=.row 0 es sz/\∃k,∃v∈l,ownd k sz es∈v.cells
 |n,[],e,h=>by cases h
 |n,v::r,e,h=>by
  unfold openTs at h;rcases zqk.1 h with h|h
  . grind[Kg]
  . obtain⟨es,sz,h1,k,u,hu,h2⟩:=Gg _ r e h
    grind
theorem Nb:∀(l:List AV)(n m:Nat),(openT n l).2=(openT m l).2
 |[],n,m=>rfl
 |c::r,n,m=>by
  unfold openT;cases ownOf c with
  |none=>exact Nb r n m
  |some q=>exact congrArg (List.cons (PO.row 0 q.2.1 q.2.2)) (Nb r (n+1) (m+1))
theorem aV:∀(l:List AV)(n m:Nat),(openTs n l).2=(openTs m l).2
 |[],n,m=>rfl
 |v::r,n,m=>by
  unfold openTs;rw[Nb v.cells n m];exact congrArg (List.append _) (aV r _ _)
theorem Wx(b:Nat):∀(l:List AV)(n:Nat),(l.all fun c=>(ownOf c).isSome||clo c)=zt->(openT (b+n) l).1=renL (fun id=>zsq (b+id)) (openT n l).1
 |[],n,_=>rfl
 |c::r,n,hk=>by
  obtain⟨h1,A⟩:((ownOf c).isSome||clo c)=zt/\(r.all fun c=>(ownOf c).isSome||clo c)=zt:=by grind
  unfold openT;cases ho:ownOf c with
  |none=>
   rw[ho]at h1;have hc:clo c=zt:=by grind
   show c::(openT (b+n) r).1=G6 _ c::renL _ (openT n r).1
   rw[kE hc,Wx b r n A]
  |some q=>
   obtain⟨k,es,sz⟩:=q;show _::(openT (b+n+1) r).1=G6 _ _::renL _ (openT (n+1) r).1
   rw[show b+n+1=b+(n+1) by omega,Wx b r (n+1) A]
   congr 1
   split<;>rfl
theorem aW(b:Nat):∀(l:List AV)(n:Nat),okRs l=zt->(openTs (b+n) l).1=renL (fun id=>zsq (b+id)) (openTs n l).1
 |[],n,_=>rfl
 |v::r,n,hk=>by
  obtain⟨h1,A⟩:(v.cells.all fun c=>(ownOf c).isSome||clo c)=zt/\okRs r=zt:=by grind[okRs]
  unfold openTs;show _::_=G6 _ _::renL _ _
  rw[Nb v.cells (b+n) n,show b+n+(openT n v.cells).2.length=b+(n+(openT n v.cells).2.length) by omega,aW b r _ A,Wx b v.cells n h1]
  congr 1
  unfold N7;split
  . rfl
  . cases (openT n v.cells).1<;>rfl
end
section
variable {E:Env}{R:AV->AV->Prop}{Z Z' Z1:Nat->Prop}{ow ow' ow1:Nat->Option (List Nat)}{h h' h1:Heap}{K K':PK}{os os' ps:List PO}{x y xc yc v k:AV}{L M:List Nat}
theorem Hd{v:AV}(e:noF v=zt):∀c∈v.cells,noF c=zt:=by
 have hl:∀(l:List AV),noFL l=zt->∀c∈l,noF c=zt:=fun l=>by
  induction l with
  |nil=>grind
  |cons a l ih=>
   intro A c hc;have A:(noF a&&noFL l)=zt:=A;grind
 intro c hc;cases v with
 |agg cs=>exact hl cs e c hc
 |_=>rw[C8 rfl]at hc;grind
theorem kH{l:List AV}(e:noFL l=zt):∀c∈l,noF c=zt:=fun c hc=>Hd (v:=.agg l) e c hc
theorem Fz.noF(f:Fz Z h x y)(hc:AM.clo y=zt)(e:AM.noF y=zt)(Z':Nat->Prop)(h':Heap):Fz Z' h' x y:=by
 cases f with
 |int=>exact .int _ _
 |bool=>exact .bool _
 |str=>exact .str _
 |nilsl=>exact .nilsl
 |nilptr=>exact .nilptr
 |nilmap=>exact .nilmap
 |nilfn=>exact .nilfn
 |niliface=>exact .niliface
 |agg=>cases hc
 |_=>cases e
theorem CR.noF(c:CR Z ow h L x y)(e:AM.noF y=zt)(Z':Nat->Prop):CR Z' ow h L x y:=by
 induction c with
 |val f hc n=>exact .val (f.noF hc e Z' h) hc n
 |und=>exact .und
 |nil C n=>exact .nil C n
 |own h1 D G H I J h7 N=>
  refine .own h1 D G H I J fun i a b ha hb o u w B A=>N i a b ha hb o u w B A ?_
  have e:noFL _=zt:=e;exact Hd (kH e b (zqa hb)) w (zqa A)
def RY(c:AV):Prop:=(clo c=zt/\noF c=zt)\/(∃a b d e,c=.msl a b d e)\/∃a b d,c=.ptr a b d
theorem VR.noF(a:VR Z ow h os x y)(e:RY y)(Z':Nat->Prop):VR Z' ow h os x y:=by
 rcases e with⟨h1,A⟩|⟨i,j,k,l,rfl⟩|⟨i,j,k,rfl⟩
 . exact .fz ((a.fzc h1).noF h1 A Z' h)
 . cases a with
   |fz f=>cases f
   |msl h1 A=>exact .msl h1 A
   |mnil h1 A B=>exact .mnil h1 A B
 . cases a with
   |fz f=>cases f
   |ptr h1 A=>exact .ptr h1 A
theorem Ot:∀(l:List AV)(n:Nat),(l.all fun c=>(ownOf c).isSome||clo c)=zt->(∀c∈l,noF c=zt)->∀c∈(openT n l).1,RY c
 |[],n,_,_,c,hc=>by cases hc
 |a :: r,n,hk,hf,c,hc=>by
  obtain⟨h1,A⟩:((ownOf a).isSome||clo a)=zt/\(r.all fun c=>(ownOf c).isSome||clo c)=zt:=by grind
  unfold openT at hc;cases ho:ownOf a with
  |none=>
   rw[ho]at hc h1;rcases zqi.1 hc with rfl|hc
   . exact .inl (by grind)
   . exact Ot r n A (by grind) c hc
  |some q=>
   obtain⟨k,es,sz⟩:=q;rw[ho]at hc;rcases zqi.1 hc with rfl|hc
   . split
     . exact .inr (.inr ⟨_,_,_,rfl⟩)
     . exact .inr (.inl ⟨_,_,_,_,rfl⟩)
   . exact Ot r (n+1) A (by grind) c hc
theorem Ou:∀(l:List AV)(n:Nat),(openT n l).1.length=l.length
 |[],n=>rfl
 |a::r,n=>by
  unfold openT;cases ownOf a with
  |none=>exact congrArg (· + 1) (Ou r n)
  |some q=>exact congrArg (· + 1) (Ou r (n+1))
theorem VR.open_noF{n:Nat}{v:AV}(a:VR Z ow h os x (N7 v (openT n v.cells).1))(C:(v.cells.all fun c=>(ownOf c).isSome||clo c)=zt)(hf:AM.noF v=zt)(Z':Nat->Prop):VR Z' ow h os x (N7 v (openT n v.cells).1):=by
 have hn:=Ot v.cells n C (Hd hf);cases A:isAg v with
 |true=>
  cases v<;>first|(cases A;done)|skip
  obtain⟨xs,rfl,l⟩:=a.agI;exact .agg l.1 fun i u w D B=>(l.2 i u w D B).noF (hn w (zqa B)) Z'
 |false=>
  have hl:(openT n v.cells).1.length=1:=by rw[Ou,C8 A];rfl
  have:N7 v (openT n v.cells).1∈(openT n v.cells).1:=by
   obtain⟨c,hc⟩:=zka.1 hl;rw[hc]
   have:N7 v [c]=c:=by cases v<;>first|rfl|cases A
   grind
  exact a.noF (hn _ this) Z'
theorem VL.open_noF:∀(rs:List AV)(n:Nat)(xs:List AV),VL Z ow h os xs (openTs n rs).1->okRs rs=zt->noFL rs=zt->∀Z':Nat->Prop,VL Z' ow h os xs (openTs n rs).1
 |[],n,xs,a,_,_,Z'=>by
  cases xs with
  |nil=>exact .nil
  |cons u xs=>cases a.1
 |v::r,n,xs,a,hk,hf,Z'=>by
  obtain⟨h1,A⟩:(v.cells.all fun c=>(ownOf c).isSome||clo c)=zt/\okRs r=zt:=by grind[okRs]
  obtain⟨B,C⟩:noF v=zt/\noFL r=zt:=zkb.1 (show(noF v&&noFL r)=zt from hf);unfold openTs at a|-;cases xs with
  |nil=>cases a.1
  |cons u xs=>
   obtain⟨D,G⟩:=a.inv;exact .cons (D.open_noF h1 B Z') (VL.open_noF r _ xs G A C Z')
theorem PT.noF{ps:List PO}(s:G2 Z ow h ps)(C:∀e∈ps,∃es sz,e=.row 0 es sz/\noFL es=zt)(hZ:∀a,Z' a->a<h.next/\ow a=znq):G2 Z' ow h ps where
 row r es sz hr:=by
  obtain⟨x,D⟩:=s.row r es sz hr;obtain⟨es',A,h1,B⟩:=C _ (zqa hr);cases h1;exact⟨x,D.noF B Z'⟩
 raw r k es sz hr hk:=by
  obtain⟨es',A,h1,B⟩:=C _ (zqa hr);grind
 map r es hr:=by
  obtain⟨es',A,h1,B⟩:=C _ (zqa hr);cases h1
 inj:=s.inj
 live a L ho:=by
  obtain⟨h1,B,h3⟩:=s.live a L ho;grind
 zb a hz:=(hZ a hz).1
 sb:=s.sb
def Dz(n:Nat)(ow ow1:Nat->Option (List Nat)):Nat->Option (List Nat):=fun d=>match ow d with
 |some L=>zsq L
 | none=>match ow1 d with
  |some (r::t)=>zsq ((n+r)::t)
  |_=>znq
theorem uK(s:G2 Z ow h os)(Y:G2 Z1 ow1 h1 ps)(Q:∀e∈ps,∃es sz,e=.row 0 es sz)(hn:h.next<=h1.next)(hz:∀id,Z id->Z1 id/\h1.get id=h.get id)(hzn:∀id,Z1 id->Z id\/h.next<=id)(un:∀id,id<h.next->h1.get id=h.get id)(hnew:∀id L,ow1 id=zsq L->h.next<=id):
 G2 Z1 (Dz os.length ow ow1) h1 (os++ps)/\Keep' ow os (Dz os.length ow ow1) (os++ps)/\Ren (fun id=>zsq (os.length+id)) ow1 ps (Dz os.length ow ow1) (os++ps)/\∀d r t,r<os.length->(Dz os.length ow ow1 d=zsq (r::t)↔ow d=zsq (r::t)):=by
 have hold:∀d,h.next<=d->ow d=znq:=fun d U=>by
  cases e:ow d with
  |none=>rfl
  |some L=>exact absurd (s.live d L e).1 (by omega)
 have H:∀d r t,r<os.length->(Dz os.length ow ow1 d=zsq (r::t)↔ow d=zsq (r::t)):=fun d r t A=>by
  unfold Dz;cases e:ow d with
  |some L=>exact .rfl
  |none=>
   simp only
   constructor
   . intro h0
     cases e1:ow1 d with
     |none=>rw[e1]at h0;cases h0
     |some M=>
      rw[e1]at h0;cases M with
      |nil=>cases h0
      |cons J t'=>cases h0;omega
   . intro h0;cases h0
 have hB:∀d r t,Dz os.length ow ow1 d=zsq ((os.length+r)::t)↔ow1 d=zsq (r::t):=fun d r t=>by
  unfold Dz
  constructor
  . intro h0
    cases e:ow d with
    |some L=>
     rw[e]at h0;cases h0;obtain⟨_,_,J,t',C,G⟩:=s.live d _ e;cases C
     have:=isRt_lt G;omega
    |none=>
     rw[e]at h0;simp only at h0;cases e1:ow1 d with
     |none=>rw[e1]at h0;cases h0
     |some M=>
      rw[e1]at h0;cases M with
      |nil=>cases h0
      |cons J t'=>
       simp only[Option.some.injEq,List.cons.injEq]at h0;obtain⟨h5,rfl⟩:=h0;obtain rfl:J=r:=by omega
       rfl
  grind
 have hC:∀d L,Dz os.length ow ow1 d=zsq L->(∃r t,L=r::t/\r<os.length/\ow d=zsq L)\/∃r t,L=(os.length+r)::t/\ow1 d=zsq (r::t):=fun d L h0=>by
  unfold Dz at h0;cases e:ow d with
  |some L'=>
   rw[e]at h0;cases h0;obtain⟨_,_,J,t',C,G⟩:=s.live d _ e;exact .inl ⟨J,t',C,isRt_lt G,rfl⟩
  |none=>
   grind
 have D:Keep' ow os (Dz os.length ow ow1) (os++ps):=Ms s.sb fun id hid L hL c=>by
  obtain⟨t,rfl,A,_⟩:=J8 6 id L hL;grind[isRt_lt]
 have I:∀d L,ow d=zsq L->h1.get d=h.get d:=fun d L ho=>un d (s.live d L ho).1
 have hps:∀(r:Nat) e,ps[r]?=zsq e->isRt (os++ps) (os.length+r)=zt:=fun r e A=>by
  unfold isRt;rw[zqw (by omega),Nat.add_sub_cancel_left,A];obtain⟨es,sz,rfl⟩:=Q e (zqa A);rfl
 have B:∀{r:Nat}{e:PO},(os++ps)[r]?=zsq e->(r<os.length/\os[r]?=zsq e)\/∃q,r=os.length+q/\ps[q]?=zsq e:=(by grind)
 refine⟨⟨fun r es sz A=>?_,fun r k es sz A hk=>?_,fun r es A=>?_,fun a b M ha hb=>?_,fun a M ha=>?_,Y.zb,fun j p i o V=>?_⟩,D,fun id j V hid=>?_,H⟩
 . rcases B A with⟨hl,A⟩|⟨q,rfl,N⟩
   . obtain⟨x,hx⟩:=s.row r es sz A
     exact⟨x,hx.reloc hn hz (fun d t=>H d r t hl) (fun d t U=>I d _ U)⟩
   . obtain⟨x,hx⟩:=Y.row q es sz N
     exact⟨x,hx.reloc (zke _) (fun d U=>⟨U,rfl⟩) (fun d t=>hB d q t) (fun d t U=>rfl)⟩
 . rcases B A with⟨hl,A⟩|⟨q,rfl,N⟩
   . obtain⟨c,ces,g⟩:=s.raw r k es sz A hk
     exact⟨c,ces,(H c r [] hl).2 g.o,zkf g.lt hn,(I c _ g.o).trans g.get,g.sh,fun i a b ha hb o u w hu hw=>(g.vr i a b ha hb o u w hu hw).keep hz D,g.okp,fun a t ha=>g.no a t ((H a r t hl).1 ha)⟩
   . obtain⟨es',X,C⟩:=Q _ (zqa N)
     grind
 . rcases B A with⟨hl,A⟩|⟨q,rfl,N⟩
   . obtain⟨c,ces,g⟩:=s.map r es A
     exact⟨c,ces,(H c r [] hl).2 g.o,zkf g.lt hn,(I c _ g.o).trans g.get,g.len,fun i a b ha hb=>⟨(g.kv i a b ha hb).1,(g.kv i a b ha hb).2.mono hz⟩,fun a t ha=>g.no a t ((H a r t hl).1 ha)⟩
   . obtain⟨es',X,C⟩:=Q _ (zqa N)
     cases C
 . rcases hC a M ha with⟨r,t,rfl,C,G⟩|⟨r,t,rfl,G⟩
   . exact s.inj a b _ G ((H b r t C).1 hb)
   . exact Y.inj a b _ G ((hB b r t).1 hb)
 . rcases hC a M ha with⟨r,t,rfl,C,G⟩|⟨r,t,rfl,G⟩
   . obtain⟨q1,q2,J,t',q3,q4⟩:=s.live a _ G
     cases q3;refine⟨zkf q1 hn,fun hz1=>?_,r,t,rfl,Wh q4⟩;grind
   . obtain⟨q1,q2,J,t',q3,q4⟩:=Y.live a _ G
     cases q3;obtain⟨e,he⟩:∃e,ps[r]?=zsq e:=⟨_,zqb (isRt_lt q4)⟩
     grind
 . rcases B V with⟨hl,V⟩|⟨q,rfl,N⟩
   . have:=s.sb j p i o V;simp;omega
   . obtain⟨es',X,C⟩:=Q _ (zqa N)
     cases C
 . cases V
   obtain⟨e,he⟩:∃e,ps[id]?=zsq e:=⟨_,zqb hid⟩
   refine⟨by simp;omega,fun L' hL'=>?_⟩;have C:(os++ps)[os.length+id]?=zsq e:=by grind
   obtain⟨es,sz,rfl⟩:=Q e (zqa he);grind[loP]
theorem AK{f:Nat}{g:List AV->Option (List AV)}(tc:TC E f g)(s:G2 Z ow h K.os)(C:K.ext<=K.os.length){args B vs:List AV}(l:VL Z ow h K.os B args)(e:tcall g args K=zsq (vs,K')):
 ∃Z' ow' h' A,callω E f B h=.ok (oneOrTup A) h'/\G2 Z' ow' h' K'.os/\Keep' ow K.os ow' K'.os/\(∀b,Stp b Z ow h K Z' ow' h' K')/\VL Z' ow' h' K'.os A vs:=by
 unfold tcall at e;cases ha:viewX K.os args with
 |none=>rw[ha]at e;cases e
 |some as1=>
  rw[ha]at e;simp only at e;cases hg:g as1 with
  |none=>rw[hg]at e;cases e
  |some rs=>
   rw[hg]at e;simp only at e;split at e
   . rename_i hc
     obtain⟨U,hc⟩:=zkb.1 hc;cases e;obtain⟨g1,g2⟩:=AJ s l ha;have J:∀e∈(openTs 0 rs).2,∃es sz,e=.row 0 es sz:=fun e he=>let⟨es,sz,h1,_⟩:=Gg 0 rs e he;⟨es,sz,h1⟩
     have aa:∃(Z':Nat->Prop)(h1:Heap)(ow1:Nat->Option (List Nat))(A:List AV),callω E f B h=.ok (oneOrTup A) h1/\G2 Z' ow1 h1 (openTs 0 rs).2/\VL Z' ow1 h1 (openTs 0 rs).2 A (openTs 0 rs).1/\
      h.next<=h1.next/\(∀id,Z id->Z' id/\h1.get id=h.get id)/\(∀id,Z' id->Z id\/h.next<=id)/\(∀id,id<h.next->h1.get id=h.get id)/\(∀id L,ow1 id=zsq L->h.next<=id)/\∃l,h1.tch=l++h.tch/\∀id∈l,h.next<=id:=by
      have N:∀(i:Nat) x y,B[i]?=zsq x->as1[i]?=zsq y->∃c,args[i]?=zsq c/\Fz (Zv Z ow) h x y/\(J3 c=[]->Fz Z h x y):=fun i x y C D=>by
       obtain⟨c,hc⟩:∃c,args[i]?=zsq c:=⟨_,zqb (by have:=(zqc.1 D).1;omega)⟩
       exact⟨c,hc,g2 i x c y C hc D⟩
      by_cases G:G9 args=[]
      . have hm:∀(args:List AV)(i:Nat) c,G9 args=[]->args[i]?=zsq c->J3 c=[]:=fun ys=>by
         induction ys with
         |nil=>intro i c _ hc;simp at hc
         |cons a l ih=>
          intro i c h0 hc;have h0:J3 a++G9 l=[]:=h0;obtain⟨h1,h2⟩:=zqt.1 h0;cases i with
          |zero=>cases hc;exact h1
          |succ i=>exact ih i c h2 hc
        obtain ⟨A,h1,Z1,ow1,Y,q2,q3,H,q5,q6,I,V,q9⟩:=tc as1 rs hg Z h B (l.1.trans g1.symm) (fun i x y C D=>by
         obtain⟨c,hc,_,X⟩:=N i x y C D;exact X (hm args i c G hc)) s.zb
        grind
      . have Q:noFL rs=zt:=by
         grind
        have ab:∀id,Zv Z ow id->id<h.next:=fun id hz=>by
         rcases hz with hz|hz
         . exact s.zb id hz
         . cases e:ow id with
           |none=>grind
           |some L=>exact(s.live id L e).1
        obtain ⟨A,h1,Z1,ow1,Y,q2,q3,H,q5,q6,I,V,q9⟩:=tc as1 rs hg (Zv Z ow) h B (l.1.trans g1.symm) (fun i x y C D=>by
         obtain⟨c,hc,X,_⟩:=N i x y C D;exact X) ab
        refine⟨Z,h1,ow1,A,Y,q2.noF (fun e he=>?_) (fun a hz=>⟨zkf (s.zb a hz) H,?_⟩),q3.open_noF rs 0 A U Q Z,H,fun id hz=>⟨hz,I id (s.zb id hz)⟩,fun id hz=>.inl hz,I,V,q9⟩
        . obtain⟨es,sz,h3,k,v,hv,X⟩:=Gg 0 rs e he
          exact⟨es,sz,h3,Hd (kH Q v hv) _ X⟩
        . cases e:ow1 a with
          |none=>rfl
          |some L=>have:=V a L e;have:=s.zb a hz;omega
     obtain⟨Z',h1,ow1,A,Y,q2,q3,H,q5,q6,I,V,l0,q9,q10⟩:=aa;obtain⟨r1,r2,r3,r4⟩:=uK s q2 J H q5 q6 I V;rw[aV rs K.os.length 0];refine⟨Z',_,h1,A,Y,r1,r2,fun b=>⟨H,q5,q6,fun id hl _=>I id hl,fun id L ho hl e=>?_,(by grind),fun id r t ho G=>.inl ⟨t,?_⟩,fun r G _=>G,rfl,fun j hj c G=>?_,fun j hj G=>?_⟩,?_⟩
     . grind[Dz]
     . grind
     . grind
     . grind[isRt]
     . have:=aW K.os.length rs 0 U
       rw[Nat.add_zero]at this;rw[this];exact q3.ren (fun id hz=>⟨hz,rfl⟩) r3
   . cases e
end
section
variable {E:Env}{P:PE}{R:AV->AV->Prop}{Z Z' Z1:Nat->Prop}{ow ow' ow1:Nat->Option (List Nat)}{h h' h1:Heap}{K K' K1:PK}{os os' ps:List PO}{x y xc yc v k:AV}{L M:List Nat}{nt:Nat}{frc:Tr}{fr:PF}
def Wy(nt:Nat)(l:List XOp):Bool:=l.all fun o=>match o.dst with|none=>zt|some t=>decide (t<nt)
def I8(nt:Nat):PC->Bool
 |.skip=>zt
 |.reg _ l=>Wy nt l
 |.seq a b=>I8 nt a&&I8 nt b
 |.cond _ a b=>I8 nt a&&I8 nt b
 |.block _ c=>I8 nt c
 |.loop c=>I8 nt c
 |.scope c=>I8 nt c
 |.exit _=>zt
 |.ret=>zt
 |.pre _ c=>I8 nt c
 |.post _ c=>I8 nt c
 |.rfn _ ps a b=>ps.all (fun p=>decide (p<nt))&&(I8 nt a&&I8 nt b)
 |.itf _ c=>I8 nt c
 |.yreg p0 _ yt p1 yd _ p2=>(decide (yt<nt)&&decide (yd<nt))&&(I8 nt p0&&(I8 nt p1&&I8 nt p2))
 |.dfr _ a _ c=>I8 nt a&&I8 nt c
 | .rcv _ d d2 c=>(decide (d<nt)&&decide (d2<nt))&&I8 nt c
def Wz:PC->FM
 |.itf _ c=>.itf c.eri
 |.dfr _ a g c=>.dfr a.pieces g c.er
 |.rcv _ d d2 c=>.rcv d d2 c.er
 |_=>.plain
structure FnOk(E:Env)(f:Nat)(p:PFn):Prop where
 gc:E.gc f=zf
 told:E.told f=zf
 dlf:E.dlf f=znq
 srt:∀args h,srtA E f args h=znq
 fn:E.fn f=zsq ⟨p.code.er,p.nt,p.rs,Wz p.code⟩
 nt:p.nt<1048576
 ok:I8 p.nt p.code=zt
structure PEok(P:PE):Prop where
 gl:BG P.E
 ti:KO P.E
 T:∀f g,P.T f=zsq g->TC P.E f g
 fn:∀f p,P.fn f=zsq p->FnOk P.E f p
def W6(b:Nat)(ow:Nat->Option (List Nat))(os:List PO)(ow':Nat->Option (List Nat))(os':List PO):Prop:=∀id,id<b->∀A,loP os' 6 id=zsq A->∃L,loP os 6 id=zsq L/\∀c,ow c=zsq L↔ow' c=zsq A
theorem W6.refl(b:Nat)(ow:Nat->Option (List Nat))(os:List PO):W6 b ow os ow os:=fun id _ A hl=>⟨A,hl,fun _=>.rfl⟩
theorem W6.trans{b:Nat}{ow2:Nat->Option (List Nat)}{os2:List PO}(a:W6 b ow os ow' os')(c:W6 b ow' os' ow2 os2):W6 b ow os ow2 os2:=fun id hi A hl=>by
 obtain⟨B,h1,h2⟩:=c id hi A hl;obtain⟨L0,h3,h4⟩:=a id hi B h1;grind
theorem Keep'.e{b:Nat}(a:Keep' ow os ow' os')(hb:b<=os.length):W6 b ow os ow' os':=fun id hi=>a.2 id (zkf hi hb)
def B9(Z:Nat->Prop)(ow:Nat->Option (List Nat))(h:Heap)(K:PK)(nt:Nat)(r:CRes)(p:PR):Prop:=match p with
 |.ok e fr' K'=>∃Z' ow' h' A,r=.ok e A h'/\G2 Z' ow' h' K'.os/\r7 Z' ow' h' K'.os nt A fr'/\Stp K.ext Z ow h K Z' ow' h' K'/\K'.ext<=K'.os.length/\W6 K.ext ow K.os ow' K'.os
 |.pan v K'=>∃Z' ow' h' vc,r=.pan vc h'/\G2 Z' ow' h' K'.os/\VR Z' ow' h' K'.os vc v/\Stp K.ext Z ow h K Z' ow' h' K'/\K'.ext<=K'.os.length/\W6 K.ext ow K.os ow' K'.os
 |.val _ _=>True
 | .itr _ _ _ _=>True
theorem B9.trans{r:CRes}{p:PR}(s:G2 Z ow h K.os)(st:Stp K.ext Z ow h K Z' ow' h' K')(J:W6 K.ext ow K.os ow' K'.os)(c:B9 Z' ow' h' K' nt r p):B9 Z ow h K nt r p:=by
 cases p with
 |ok e fr' K2=>obtain⟨C,ow2,D,A,G,a2,a3,H,I,B⟩:=c;exact⟨C,ow2,D,A,G,a2,a3,st.trans s H,I,J.trans (by rw[st.ex]at B;exact B)⟩
 |pan v K2=>obtain⟨C,ow2,D,vc,G,a2,a3,H,I,B⟩:=c;exact⟨C,ow2,D,vc,G,a2,a3,st.trans s H,I,J.trans (by rw[st.ex]at B;exact B)⟩
 |_=>trivial
def EK(Z:Nat->Prop)(ow:Nat->Option (List Nat))(h:Heap)(K:PK)(r:Res)(p:PR):Prop:=match p with
 |.val vs K'=>∃Z' ow' h' A,r=.ok (oneOrTup A) h'/\G2 Z' ow' h' K'.os/\Keep' ow K.os ow' K'.os/\(∀b,Stp b Z ow h K Z' ow' h' K')/\VL Z' ow' h' K'.os A vs
 |.pan v K'=>∃Z' ow' h' vc,r=.pan vc h'/\G2 Z' ow' h' K'.os/\(∀b,Stp b Z ow h K Z' ow' h' K')/\VR Z' ow' h' K'.os vc v/\K'.ext<=K'.os.length/\Keep' ow K.os ow' K'.os
 |.ok _ _ _=>True
 | .itr _ _ _ _=>True
def qZ(Z:Nat->Prop)(ow:Nat->Option (List Nat))(h:Heap)(K:PK)(r:Res)(p:PR):Prop:=match p with
 |.val vs K'=>∃Z' ow' h' A,r=.ok (oneOrTup A) h'/\G2 Z' ow' h' K'.os/\Stp K.ext Z ow h K Z' ow' h' K'/\VL Z' ow' h' K'.os A vs/\W6 K.ext ow K.os ow' K'.os/\K'.ext<=K'.os.length
 |.pan v K'=>∃Z' ow' h' vc,r=.pan vc h'/\G2 Z' ow' h' K'.os/\Stp K.ext Z ow h K Z' ow' h' K'/\VR Z' ow' h' K'.os vc v/\K'.ext<=K'.os.length/\W6 K.ext ow K.os ow' K'.os
 |.ok _ _ _=>True
 | .itr _ _ _ _=>True
theorem VL.one{xs ys:List AV}(l:VL Z ow h os xs ys):VR Z ow h os (oneOrTup xs) (oneOrTup ys):=by
 have hl:=l.1
 match xs,ys with
 |[],[]=>exact .tup rfl (fun i x y A=>by simp at A)
 |[x],[y]=>exact l.2 0 x y rfl rfl
 |x::x'::xs,y::y'::ys=>exact .tup l.1 l.2
 |[],_::_=>cases hl
 |_::_,[]=>cases hl
 |[_],_::_::_=>simp at hl
 |_::_::_,[_]=>simp at hl
theorem Gh(A:K.ext<=K.os.length)(B:Keep' ow K.os ow' K'.os)(C:K'.ext=K.ext):K'.ext<=K'.os.length:=by rw[C];exact zki A B.1
theorem r7.setd(a:r7 Z ow h os nt frc fr){d:Option Tmp}(hd:(match d with|none=>zt|some t=>decide (t<nt))=zt)(v:VR Z ow h os x y):r7 Z ow h os nt (setDst d x frc) (setP d y fr):=by
 cases d with
 |none=>exact a
 |some t=>exact a.set (by grind) v
theorem vr_skipped:VR Z ow h os skipped skipped:=.tup rfl (fun i x y A=>by simp at A)
theorem nO{w b:Bool}(v:VR Z ow h os x y)(e:j8 w y=zsq b):j8 w x=zsq b:=by
 cases y with
 |bool c=>rw[v.isB];exact e
 |tup cs=>
  cases cs with
  | nil=>cases v with
   |fz f=>cases f
   |tup hl _=>grind
  |cons=>cases e
 |_=>cases e
theorem m4{g:Option (Option Tmp×Bool)}{b:Bool}(a:r7 Z ow h os nt frc fr)(e:guardP g fr=zsq b):guardOk g frc=zsq b:=by
 cases g with
 |none=>exact e
 |some p=>
  obtain⟨t,w⟩:=p;cases t with
  |none=>exact e
  |some t=>exact nO (a.v t) e
theorem Xa:∀(l:List AV)(i:Nat)(t:Tr)(j:Nat),(∀j,j<i+l.length->t.has j=zt)->(Tr.setAll l i t).get j=if i<=j then(match l[j-i]? with|some v=>v|none=>t.get j)else t.get j
 |[],i,t,j,_=>by
  show t.get j=_
  grind
 |v :: l,i,t,j,hh=>by
  show(Tr.setAll l (i+1) (t.set i v)).get j=_
  rw[Xa l (i+1) (t.set i v) j (by grind[Go.AM.Tr.has_set])];by_cases e:i=j
  . subst e
    rw[if_neg (by omega),if_pos (zke _),Nat.sub_self,Tr.get_set_eq,hh i (by simp),if_pos rfl];rfl
  . rw[Tr.get_set_ne _ _ _ _ e]
    grind
theorem Xb:∀(l:List AV)(i j:Nat),lookP (enterP i l) j=if i<=j then(match l[j-i]? with|some v=>v|none=>.und)else .und
 |[],i,j=>by show AV.und=_;grind
 |v::l,i,j=>by
  show(if i=j then v else lookP (enterP (i+1) l) j)=_
  rw[Xb l (i+1) j];grind
theorem He{args A:List AV}(l:VL Z ow h os A args)(hn:args.length<=nt)(hb:nt<1048576):r7 Z ow h os nt (Tr.enter nt A) (enterP 0 args):=by
 have hh:∀j,j<0+A.length->(Tr.mk 20 nt).has j=zt:=fun j hj=>by rw[Tr.has_mk' 20 nt j hb];have:=l.1;simp;omega
 refine⟨fun i=>?_,fun i hi=>?_⟩
 . show VR Z ow h os ((Tr.setAll A 0 (Tr.mk 20 nt)).get i) _
   rw[Xa A 0 _ i hh,Xb args 0 i,if_pos (Nat.zero_le _),if_pos (Nat.zero_le _),Nat.sub_zero];cases C:args[i]? with
   |none=>exact .und
   |some y=>
    obtain⟨x,B⟩:∃x,A[i]?=zsq x:=⟨_,zqb (by have:=(zqc.1 C).1;have:=l.1;omega)⟩
    rw[B];exact l.2 i x y B C
 . have:∀(l:List AV)(i:Nat)(t:Tr)(j:Nat),(Tr.setAll l i t).has j=t.has j:=fun l=>by
    induction l with
    |nil=>intro i t j;rfl
    |cons v l ih=>simp_all[Tr.setAll,Tr.has_set]
   show(Tr.setAll A 0 (Tr.mk 20 nt)).has i=zt
   grind[Tr.has_mk']
theorem Stp.subs(s:G2 Z ow h K.os)(hx:K.ext<=K.os.length){K':PK}(A:K'.ext=K.ext)(ht:K'.tch=K.tch){ps:List PO}(ho:K'.os=K.os++ps)(hp:∀e∈ps,∃a b c,e=.sub a b c)(b:Nat):Stp b Z ow h K Z ow h K':=by
 refine⟨zke _,fun id hz=>⟨hz,rfl⟩,fun id hz=>.inl hz,fun _ _ _=>rfl,(by grind),(by simp_all),fun id r t ho _=>.inl ⟨t,ho⟩,fun r B _=>by grind,A,fun j _ c _=>.rfl,fun j hj B=>?_⟩;grind[isRt]
theorem eI:∀(rs:List ResultVar){K:PK}{vs:List AV}{K':PK},G2 Z ow h K.os->K.ext<=K.os.length->r7 Z ow h K.os nt frc fr->resP E rs fr K=zsq (vs,K') ->
 ∃A,F6 E rs frc h=zsq A/\G2 Z ow h K'.os/\Keep' ow K.os ow K'.os/\Stp K.ext Z ow h K Z ow h K'/\VL Z ow h K'.os A vs
 |[],K,vs,K',s,hx,a,e=>by cases e;exact⟨[],rfl,s,.refl _ _,.refl _ _ _ _ _,.nil⟩
 |.tmp t::l,K,vs,K',s,hx,a,e=>by
  unfold resP at e;cases B:resP E l fr K with
  |none=>grind
  |some q=>
   obtain⟨us,K2⟩:=q;rw[B]at e;cases e;obtain⟨A,I,a2,a3,C,D⟩:=eI l s hx a B;refine⟨frc.get t::A,?_,a2,a3,C,.cons ((a.v t).keep (fun _ hz=>⟨hz,rfl⟩) a3) D⟩;simp_all[A6,F6]
 |.cell c t::l,K,vs,K',s,hx,a,e=>by
  unfold resP at e;cases X:E.ti t with
  |none=>grind
  |some ti=>
   rw[X]at e;simp only at e;cases hl:loadP ti (lookP fr c) K with
   |none=>grind
   |some q=>
    obtain⟨v,K1⟩:=q;rw[hl]at e;simp only at e;obtain⟨vc,b1,J,G,N,H,Q,ps,U,V⟩:=jU s (a.v c) hl;cases B:resP E l fr K1 with
    |none=>grind
    |some q=>
     obtain⟨us,K2⟩:=q;rw[B]at e;cases e;obtain⟨A,I,a2,a3,C,D⟩:=eI l J (Gh hx G H) (a.keep (fun _ hz=>⟨hz,rfl⟩) G) B;refine⟨vc::A,?_,a2,G.trans a3,(Stp.subs s hx H Q U V _).trans s C,.cons (N.keep (fun _ hz=>⟨hz,rfl⟩) a3) D⟩;simp_all[A6,F6,N8]
end
section
variable {E:Env}
theorem Z9{g:Nat->CRes}{r:CRes}{k:Nat->Tr->Heap->IRes}{s:Tr->Heap->IRes}(hg:Lim .bad g r)(A:∀fr h,Lim .bad (fun n=>k n fr h) (s fr h)):Lim .bad (fun n=>I0 (k n) (g n)) (I0 s r):=
 hg.bind (k:=fun n r=>I0 (k n) r) (s:=fun r=>I0 s r) (fun _=>rfl) rfl (fun _=>by
  cases r with
  | ok e fr h=>cases e with
   |normal=>exact A fr h
   |_=>exact .const
  |_=>exact .const)
theorem uL{g:Nat->CRes}{r:CRes}{k:Nat->Tr->Heap->CRes}{s:Tr->Heap->CRes}(hg:Lim .bad g r)(A:∀fr h,Lim .bad (fun n=>k n fr h) (s fr h)):Lim .bad (fun n=>Dt (k n) (g n)) (Dt s r):=
 hg.bind (k:=fun n r=>Dt (k n) r) (s:=fun r=>Dt s r) (fun _=>rfl) rfl (fun _=>by
  cases r with
  | ok e fr h=>cases e with
   |normal=>exact A fr h
   |_=>exact .const
  |_=>exact .const)
theorem Xc{R:Type}{bad:R}{o:Option Bool}{a b:Nat->R}{x y:R}(ha:Lim bad a x)(hb:Lim bad b y):Lim bad (fun n=>onOB o bad (a n) (b n)) (onOB o bad x y):=by
 cases o with
 |none=>exact .const
 |some t=>cases t;exact hb;exact ha
theorem Ag{R:Type}{bad:R}{t:Bool}{a:Nat->R}{x:R}(ha:Lim bad a x):Lim bad (fun n=>bif t then a n else bad) (bif t then x else bad):=by
 cases t;exact .const;exact ha
theorem AL(p2:XC)(yd:Tmp)(fr:Tr){g:Nat->CRes}{r:CRes}(hg:Lim .bad g r):Lim .bad (fun n=>Hq (ev E n) p2 yd fr (g n)) (Hq (evω E) p2 yd fr r):=
 hg.bind (k:=fun n r=>Hq (ev E n) p2 yd fr r) (s:=fun r=>Hq (evω E) p2 yd fr r) (fun _=>rfl) rfl (fun _=>by
  cases r with
  | ok e fr' h=>cases e with
   |_=>exact Z9 (ev_lim _ _ _) (fun _ _=>.const)
  |_=>exact .const)
theorem kI{g:Nat->IRes}{r:IRes}{k:Nat->Option Ex->Tr->Heap->IRes}{s:Option Ex->Tr->Heap->IRes}(hg:Lim .bad g r)(A:∀p fr h,Lim .bad (fun n=>k n p fr h) (s p fr h)):Lim .bad (fun n=>Kx (k n) (g n)) (Kx s r):=
 hg.bind (k:=fun n r=>Kx (k n) r) (s:=fun r=>Kx s r) (fun _=>rfl) rfl (fun _=>by
  cases r with
  | ok e p fr h=>cases e with
   |normal=>exact A p fr h
   |_=>exact .const
  |_=>exact .const)
theorem rA{Y:Nat->List AV->Heap->CRes}{B:List AV->Heap->CRes}(C:∀l h,Lim .bad (fun n=>Y n l h) (B l h))(nt:Nat):∀(m:Nat)(c:IC)(p:Option Ex)(fr:Tr)(h:Heap),Lim .bad (fun n=>evI E (ev E n) nt (Y n) m c p fr h) (evI E (evω E) nt B m c p fr h)
 |0,c,p,fr,h=>.const
 |m + 1,c,p,fr,h=>by
  have A:=rA C nt m;show Lim .bad (fun n=>fM E (ev E n) nt (Y n) (evI E (ev E n) nt (Y n) m) c p fr h) (fM E (evω E) nt B (evI E (evω E) nt B m) c p fr h)
  cases c with
  |reg x=>exact Z9 (ev_lim x fr h) (fun _ _=>.const)
  |yreg p0 gd yt p1 yd args p2=>
   refine Z9 (ev_lim p0 fr h) fun fr h=>Xc ?_ ?_
   . cases p with
     |some _=>exact .const
     |none=>exact Ag (Z9 (ev_lim p1 _ h) fun fr h=>Xc (AL p2 yd fr (C _ h)) .const)
   . exact Z9 (ev_lim p1 _ h) fun fr h=>Xc .const (Z9 (ev_lim p2 _ h) fun _ _=>.const)
  |seq a b=>exact kI (A a p fr h) (fun p fr h=>A b p fr h)
  |cond x a b=>
   show Lim .bad (fun n=>(opv E x fr).onBool .bad fun t=>match t with|true=>evI E (ev E n) nt (Y n) m a p fr h|false=>evI E (ev E n) nt (Y n) m b p fr h) ((opv E x fr).onBool .bad fun t=>match t with|true=>evI E (evω E) nt B m a p fr h|false=>evI E (evω E) nt B m b p fr h)
   cases opv E x fr with
   |bool t=>cases t;exact A b p fr h;exact A a p fr h
   |_=>exact .const
  |block id c=>exact(A c p fr h).bind (k:=fun _ r=>Je id r) (s:=fun r=>Je id r) (fun _=>rfl) rfl (fun _=>.const)
  |loop c=>exact kI (A c p fr h) (fun p fr h=>A (.loop c) p fr h)
  |_=>exact .const
theorem nP(ps:List Tmp)(a b:XC)(fr:Tr)(args:List AV)(h:Heap):Lim .bad (fun n=>roundY (ev E n) ps a b fr args h) (roundY (evω E) ps a b fr args h):=
 Ag (uL (ev_lim a _ h) fun fr h=>ev_lim b fr h)
theorem RZ{fr:Tr}{h:Heap}(g:Operand)(ps:List Tmp)(a b:XC):evω E (.rfn g ps a b) fr h=rfnA E (evω E) ps a b fr h (opv E g fr):=i6 (by
 show Lim .bad (fun n=>rfnA E (ev E n) ps a b fr h (opv E g fr)) _
 cases opv E g fr with
 |fn f first caps=>
  cases f with
  |func n=>
   refine Ag ?_;refine Lim.bind (bad:=.bad) (g:=fun n'=>itF E (ev E n') n caps (roundY (ev E n') ps a b fr) h) (k:=fun _ r=>backA fr r) (s:=fun r=>backA fr r) ?_ (fun _=>rfl) rfl (fun _=>.const);unfold itF;cases E.fn n with
   |none=>exact .const
   |some A=>
    refine Ag ?_;cases A.mode with
    |itf c=>exact(rA (nP ps a b fr) A.ntmps itMax c znq _ h).bind (k:=fun _ r=>finI r) (s:=fun r=>finI r) (fun _=>rfl) rfl (fun _=>.const)
    |_=>exact .const
  |_=>exact .const
 |_=>exact .const)
theorem Xd(x p:AV)(h:Heap):Lim .bad (fun n=>Ea E (ev E n) x p h) (Ea E (evω E) x p h):=by
 unfold Ea;cases x with
 |fn f first caps=>
  cases f with
  |func n=>
   refine Ag ?_;unfold Sm;cases E.fn n with
   |none=>exact .const
   |some A=>
    refine Ag ?_;cases A.mode with
    |rcv d d2 c=>exact Ag ((ev_lim c _ h).bind (k:=fun _ r=>rcvEnd r) (s:=rcvEnd) (fun _=>rfl) rfl (fun _=>.const))
    |_=>exact .const
  |_=>exact .const
 |_=>exact .const
theorem Kh(rs:List ResultVar)(fr:Tr){g:Nat->Res}{r:Res}(hg:Lim .bad g r):Lim .bad (fun n=>j9 E rs fr (g n)) (j9 E rs fr r):=
 hg.bind (k:=fun _ r=>j9 E rs fr r) (s:=j9 E rs fr) (fun _=>rfl) rfl (fun _=>.const)
theorem nQ(x:AV)(rs:List ResultVar)(fr:Tr){g:Nat->CRes}{r:CRes}(hg:Lim .bad g r):Lim .bad (fun n=>I4 E (ev E n) x rs fr (g n)) (I4 E (evω E) x rs fr r):=
 hg.bind (k:=fun n r=>I4 E (ev E n) x rs fr r) (s:=I4 E (evω E) x rs fr) (fun _=>rfl) rfl (fun _=>by
  cases r with
  | ok e fr2 h=>cases e with
   |exit=>exact .const
   |_=>exact Kh rs fr2 (Xd x _ h)
  |pan v h=>exact Kh rs fr (Xd x v h)
  |bad=>exact .const)
theorem kJ(g:Operand)(c:XC)(rs:List ResultVar):∀(pre:List XC)(fr:Tr)(h:Heap),Lim .bad (fun n=>t7 E (ev E n) g c rs pre fr h) (t7 E (evω E) g c rs pre fr h)
 |[],fr,h=>nQ (opv E g fr) rs fr (ev_lim c fr h)
 |p::pre,fr,h=>(ev_lim p fr h).bind (k:=fun n r=>As (t7 E (ev E n) g c rs pre) r) (s:=fun r=>As (t7 E (evω E) g c rs pre) r) (fun _=>rfl) rfl (fun _=>by
  cases ho:evω E p fr h with
  | ok e fr2 A=>cases e with
   |normal=>exact kJ g c rs pre fr2 A
   |_=>exact .const
  |_=>exact .const)
theorem AN{f:Nat}{args:List AV}{h:Heap}{c:XC}{n:Nat}{rs:List ResultVar}{m:FM}(A:m=.plain\/∃ic,m=.itf ic)(hg:E.gc f=zf)(B:E.told f=zf)(C:E.dlf f=znq)(D:∀args h,srtA E f args h=znq)(hf:E.fn f=zsq ⟨c,n,rs,m⟩)(hn:args.length<=n):
 callω E f args h=H9 E rs (evω E c (Tr.enter n args) h):=by
 refine (Cg (E:=E) f args h).unique ?_;have e:∀k,G4 E (ev E k) f args h=H9 E rs (ev E k c (Tr.enter n args) h):=fun k=>by
  unfold G4;rw[hg];show O7 E (ev E k) f args h=_
  unfold O7;rw[B,C,D,hf];show(bif Nat.ble (lenL args) n then Pj E (ev E k) ⟨c,n,rs,m⟩ args h else .bad)=_
  rw[A5,zkg hn];rcases A with rfl|⟨ic,rfl⟩<;>rfl
 simp only[e];exact(ev_lim (E:=E) c (Tr.enter n args) h).bind (k:=fun _ r=>H9 E rs r) (s:=H9 E rs) (fun _=>rfl) rfl (fun _=>.const)
theorem AO{f:Nat}{args:List AV}{h:Heap}{c x:XC}{n:Nat}{rs:List ResultVar}{pre:List XC}{g:Operand}(hg:E.gc f=zf)(ht:E.told f=zf)(hd:E.dlf f=znq)(hs:∀args h,srtA E f args h=znq)(hf:E.fn f=zsq ⟨x,n,rs,.dfr pre g c⟩)(hn:args.length<=n):
 callω E f args h=t7 E (evω E) g c rs pre (Tr.enter n args) h:=by
 refine(Cg (E:=E) f args h).unique ?_;grind[G4,O7,Pj,A5,zkg,kJ]
end
section
variable {E:Env}{P:PE}{R:AV->AV->Prop}{Z Z' Z1:Nat->Prop}{ow ow' ow1:Nat->Option (List Nat)}{h h' h1:Heap}{K K' K1:PK}{os os' ps:List PO}{x y xc yc v k:AV}{L M:List Nat}{nt:Nat}{frc:Tr}{fr:PF}
theorem C6{a:Option PR}{f:PR->Option PR}{r:PR}(e:(a >>= f)=zsq r):∃q,a=zsq q/\f q=zsq r:=by
 cases a with
 |none=>cases e
 |some q=>grind
def m5(l:List XOp):Bool:=l.all fun o=>!o.careful
def GW(b:Nat)(Z:Nat->Prop)(ow:Nat->Option (List Nat))(h:Heap)(os:List PO)(nt:Nat)(frc:Tr)(fr:PF):Prop:=∃C B h0 A,List.length A=b/\r7 C B h0 A nt frc fr/\(∀id,C id->Z id/\h.get id=h0.get id)/\W6 b B A ow os
theorem GW.now{b:Nat}(a:GW b Z ow h os nt frc fr)(hb:b<=os.length):r7 Z ow h os nt frc fr:=by
 obtain⟨Z0,ow0,h0,os0,rfl,A,a2,a3⟩:=a;exact A.keep a2 ⟨hb,a3⟩
theorem GW.step{b:Nat}(a:GW b Z ow h os nt frc fr)(hz:∀id,Z id->Z' id/\h'.get id=h.get id)(C:W6 b ow os ow' os'):GW b Z' ow' h' os' nt frc fr:=by
 obtain⟨D,A,h0,B,e,G,a2,a3⟩:=a;exact⟨D,A,h0,B,e,G,(by grind),a3.trans C⟩
theorem Nc(s:G2 Z ow h K.os)(A:K.ext<=K.os.length)(sb:Stp K.os.length Z ow h ⟨K.os,K.os.length,[]⟩ Z' ow' h' K1)(b:Nat):Stp b Z ow h K Z' ow' h' ⟨K1.os,K.ext,K1.tch++K.tch⟩:=by
 obtain⟨D,G,H⟩:=sb.th;refine⟨sb.nx,sb.zz,sb.zn,sb.un,sb.uo,⟨D,G,fun id hi=>?_⟩,fun id r t ho C=>?_,(by grind),rfl,fun j B=>sb.xk j (zkf B A),fun j B=>sb.rd j (zkf B A)⟩
 . rcases H id hi with h|⟨r,t,I,q2⟩
   . exact .inl h
   . obtain⟨_,_,r',t',q3,q4⟩:=s.live id _ I
     grind[isRt_lt]
 . rcases sb.mv id r t ho (zkf C A)with h|h
   . exact .inl h
   grind
theorem Cn(e1:K1.ext=K.os.length)(e2:K1.ext<=K1.os.length)(A:W6 K.os.length ow K.os ow' K1.os):Keep' ow K.os ow' K1.os:=⟨by grind,A⟩
def SA(nt:Nat)(c:RC):Bool:=c.ps.all (fun p=>decide (p<nt))&&(I8 nt c.a&&I8 nt c.b)
theorem Ov:∀(ps:List Tmp){A args:List AV}{frc:Tr}{fr:PF},VL Z ow h os A args->ps.all (fun p=>decide (p<nt))=zt->r7 Z ow h os nt frc fr->r7 Z ow h os nt (setPs ps A frc) (setPs' ps args fr)
 |[],_,_,_,_,_,_,a=>a
 |p::ps,[],[],_,_,_,_,a=>a
 |p::ps,x::xs,y::ys,frc,fr,l,hp,a=>by
  obtain⟨h1,B⟩:=zkb.1 hp;exact Ov ps l.inv.2 B (a.set (by grind) l.inv.1)
 |p::ps,[],y::ys,_,_,l,_,_=>by have:=l.1;simp at this
 |p::ps,x::xs,[],_,_,l,_,_=>by have:=l.1;simp at this
def F8(Z:Nat->Prop)(ow:Nat->Option (List Nat))(h:Heap)(K:PK)(nt:Nat)(r:IRes)(p:PR):Prop:=match p with
 |.itr e q fr' K'=>∃Z' ow' h' A,r=.ok e q A h'/\G2 Z' ow' h' K'.os/\r7 Z' ow' h' K'.os nt A fr'/\Stp K.ext Z ow h K Z' ow' h' K'/\K'.ext<=K'.os.length/\W6 K.ext ow K.os ow' K'.os
 |.ok _ _ _=>True
 |.val _ _=>True
 | .pan _ _=>True
theorem F8.trans{r:IRes}{p:PR}(s:G2 Z ow h K.os)(st:Stp K.ext Z ow h K Z' ow' h' K')(C:W6 K.ext ow K.os ow' K'.os)(c:F8 Z' ow' h' K' nt r p):F8 Z ow h K nt r p:=by
 cases p with
 |itr e q fr' K2=>obtain⟨D,ow2,G,A,H,a2,a3,I,J,B⟩:=c;exact⟨D,ow2,G,A,H,a2,a3,st.trans s I,J,C.trans (by rw[st.ex]at B;exact B)⟩
 |_=>trivial
theorem AP{o:Option PFn}{n:Nat}{ic:PC}(e:itOf o=zsq (n,ic)):∃x rs i,o=zsq ⟨.itf x ic,n,rs,i⟩:=by
 unfold itOf at e;grind
theorem AQ{n:Nat}{caps:List AV}(v:VR Z ow h os x (.fn (.func n) [] caps)):∃A,x=.fn (.func n) [] A/\VL Z ow h os A caps:=by
 cases v with
 |fz f=>cases f
 |fn h1 _ B C=>
  rename_i as1 bs _
  have:as1=[]:=zqj h1
  subst this;exact⟨_,rfl,B,C⟩
def EL(d:List Nat)(ws:List (PK×(Nat->Option (List Nat)))):Prop:=∀c,uR c d=zt->∃p∈ws,∃r t,p.2 c=zsq (r::t)/\r∈p.1.tch
def KR(Z:Nat->Prop)(ow:Nat->Option (List Nat))(h:Heap)(K:PK)(r:Res)(p:PR):Prop:=match p with
 |.ok _ _ K'=>∃Z' ow' h',r=.ok .und h'/\G2 Z' ow' h' K'.os/\Stp K.ext Z ow h K Z' ow' h' K'/\K'.ext<=K'.os.length/\W6 K.ext ow K.os ow' K'.os
 |_=>False
theorem AR{o:Option PFn}{n:Nat}{d d2:Tmp}{c:PC}(e:rcOf o=zsq (n,d,d2,c)):∃x i,o=zsq ⟨.rcv x d d2 c,n,[],i⟩:=by
 unfold rcOf at e;grind
theorem nR(g:Operand)(c:XC)(rs:List ResultVar):∀(a:PC){frc A:Tr}{h h':Heap},evω E a.er frc h=.ok .normal A h'->t7 E (evω E) g c rs a.pieces frc h=I4 E (evω E) (opv E g A) rs A (evω E c A h'):=by
 intro a;have one:∀(x:XC){frc A:Tr}{h h':Heap},evω E x frc h=.ok .normal A h'->t7 E (evω E) g c rs [x] frc h=I4 E (evω E) (opv E g A) rs A (evω E c A h'):=fun x frc A h h' e=>by
  show As _ (evω E x frc h)=_
  rw[e];rfl
 induction a with
 |seq a b _ B=>
  intro frc A h h' e;have e:evω E (.seq a.er b.er) frc h=.ok .normal A h':=e;rw[GR]at e;show As (t7 E (evω E) g c rs b.pieces) (evω E a.er frc h)=_
  cases ho:evω E a.er frc h with
  |ok x fr1 h1=>
   rw[ho]at e;cases x with
   |normal=>exact B e
   |_=>cases e
  |_=>rw[ho]at e;cases e
 |_=>exact fun e=>one _ e
theorem bodyJ_or(c:PC):(∃x a g d,c=.dfr x a g d)\/(∃x d d2 b,c=.rcv x d d2 b)\/((∀fr K,bodyJ c fr K=.code c fr K)/\(Wz c=.plain\/∃ic,Wz c=.itf ic)):=by
 cases c<;>first|exact .inl ⟨_,_,_,_,rfl⟩|exact .inr (.inl ⟨_,_,_,_,rfl⟩)|exact .inr (.inr ⟨fun _ _=>rfl,.inl rfl⟩)|exact .inr (.inr ⟨fun _ _=>rfl,.inr ⟨_,rfl⟩⟩)
def SB(P:PE):PJ->PR->Prop
 |.code c fr K,r=>∀nt Z ow h frc,G2 Z ow h K.os->K.ext<=K.os.length->r7 Z ow h K.os nt frc fr->I8 nt c=zt->B9 Z ow h K nt (evω P.E c.er frc h) r
 |.ops l fr K,r=>∀nt Z ow h frc,G2 Z ow h K.os->K.ext<=K.os.length->r7 Z ow h K.os nt frc fr->Wy nt l=zt->B9 Z ow h K nt (H5 P.E (callω P.E) l frc h) r
 |.opsD l fr K,r=>∀nt Z ow h frc d,G2 Z ow h K.os->K.ext<=K.os.length->r7 Z ow h K.os nt frc fr->Wy nt l=zt->(d=[]\/m5 l=zt)->B9 Z ow h K nt (evOpsD P.E (callω P.E) l frc h d) r
 |.opsS S l fr K,r=>∀nt Z ow h frc d ws,G2 Z ow h K.os->K.ext<=K.os.length->r7 Z ow h K.os nt frc fr->Wy nt l=zt->ws.map Prod.fst=S->EL d ws->(∀p∈ws,Keep' p.2 p.1.os ow K.os)->B9 Z ow h K nt (evOpsD P.E (callω P.E) l frc h d) r
 |.call f args K,r=>∀Z ow h A,G2 Z ow h K.os->K.ext<=K.os.length->VL Z ow h K.os A args->EK Z ow h K (callω P.E f A h) r
 |.body f args K,r=>∀Z ow h A,G2 Z ow h K.os->K.ext<=K.os.length->VL Z ow h K.os A args->qZ Z ow h K (callω P.E f A h) r
 |.iter c m ic p fr K,r=>∀nt C Z ow h frc B,G2 Z ow h K.os->K.ext<=K.os.length->r7 Z ow h K.os nt frc fr->GW K.ext Z ow h K.os C B c.fr->I8 nt ic=zt->SA C c=zt->F8 Z ow h K nt (evI P.E (evω P.E) nt (roundY (evω P.E) c.ps c.a.er c.b.er B) m ic.eri p frc h) r
 |.dfc a g c fr K,r=>∀nt Z ow h frc,G2 Z ow h K.os->K.ext<=K.os.length->r7 Z ow h K.os nt frc fr->(I8 nt a&&I8 nt c)=zt->∃D,(∀rs,t7 P.E (evω P.E) g c.er rs a.pieces frc h=H9 P.E rs D)/\B9 Z ow h K nt D r
 |.rcv x v K,r=>∀Z ow h xc vc,G2 Z ow h K.os->K.ext<=K.os.length->VR Z ow h K.os xc x->VR Z ow h K.os vc v->KR Z ow h K (Ea P.E (evω P.E) xc vc h) r
 | .round c args K,r=>∀C Z ow h B A,G2 Z ow h K.os->K.ext<=K.os.length->r7 Z ow h K.os C B c.fr->VL Z ow h K.os A args->SA C c=zt->B9 Z ow h K C (roundY (evω P.E) c.ps c.a.er c.b.er B A h) r
theorem nS(call:D4)(o:XOp)(l:List XOp)(frc:Tr)(h:Heap):H5 E call (o::l) frc h=onOB (guardOk o.gd frc) .bad (X4 o.dst (H5 E call l) frc (evOp E call o.op frc h)) (H5 E call l (setDst o.dst skipped frc) h):=rfl
theorem Qe(call:D4)(o:XOp)(l:List XOp)(frc:Tr)(h:Heap)(d:List Nat):evOpsD E call (o::l) frc h d=onOB (guardOk o.gd frc) .bad (O6 o.dst (evOpsD E call l) (virtD E call l o.late (setDst o.dst skipped frc) h d) frc (evOpD E call o frc h d)) (evOpsD E call l (setDst o.dst skipped frc) h d):=rfl
structure Did2(Z:Nat->Prop)(ow:Nat->Option (List Nat))(h:Heap)(K:PK)(r:Res)(v:AV)(K':PK)(Z':Nat->Prop)(ow':Nat->Option (List Nat))(vc:AV)(h':Heap):Prop where
 r:r=.ok vc h'
 st:G2 Z' ow' h' K'.os
 kp:Keep' ow K.os ow' K'.os
 vr:VR Z' ow' h' K'.os vc v
 sp:∀b,Stp b Z ow h K Z' ow' h' K'
theorem Did'.two{r:Res}{vc:AV}(a:Did' Z ow h K r v K' ow' vc h'):Did2 Z ow h K r v K' Z ow' vc h':=⟨a.r,a.st,a.kp,a.vr,a.sp⟩
theorem dst_cons{o:XOp}{l:List XOp}(e:Wy nt (o::l)=zt):(match o.dst with|none=>zt|some t=>decide (t<nt))=zt/\Wy nt l=zt:=by
 exact zkb.1 e
theorem Co{o:XOp}{l:List XOp}(e:m5 (o::l)=zt):o.careful=zf/\m5 l=zt:=by
 grind[m5]
theorem nT(r:Option Nat):readOk r []=zt:=by cases r<;>rfl
theorem kK{call:D4}{o:XOp}{d:List Nat}{l:List XOp}(B:o.quiet=zf)(A:d=[]\/m5 (o::l)=zt):evOpD E call o frc h d=v6 d (evOp E call o.op frc h):=by
 unfold evOpD;rw[B];show(bif o.careful then _ else _)=_
 cases hc:o.careful with
 |false=>rfl
 |true=>
  rcases A with rfl|A
  . rw[nT];rfl
  . rw[(Co A).1]at hc;cases hc
theorem Ow{b:Nat}(sb:Stp b Z ow {h with tch:=[]} {K with tch:=[]} Z' ow' h1 K1):Stp b Z ow h K Z' ow' {h1 with tch:=Bj (H6 h.next h1.tch) h.tch} {K1 with tch:=K1.tch++K.tch}:=by
 obtain⟨l0,f1,f2⟩:=sb.th;refine⟨sb.nx,sb.zz,sb.zn,sb.un,sb.uo,⟨H6 h.next h1.tch,by grind[Gl],fun id hi=>?_⟩,fun id r t ho A=>?_,(by grind),sb.ex,sb.xk,sb.rd⟩
 . grind[l7]
 . rcases sb.mv id r t ho A with h|h
   . exact .inl h
   grind
theorem aX{call:D4}{o:XOp}{d:List Nat}{l:List XOp}(D:o.quiet=zt)(s:G2 Z ow h K.os)(B:d=[]\/m5 (o::l)=zt){r:AV}{Z':Nat->Prop}{ow':Nat->Option (List Nat)}{vc:AV}{h1:Heap}
 (a:Did2 Z ow {h with tch:=[]} {K with tch:=[]} (evOp E call o.op frc {h with tch:=[]}) v K1 Z' ow' vc h1)(A:r8 K.os.length l K1=zt):
 ∃C d2,evOpD E call o frc h d=.ok vc C d2/\Did2 Z ow h K (.ok vc C) v {K1 with tch:=K1.tch++K.tch} Z' ow' vc C/\(d2=[]\/m5 l=zt):=by
 have e:evOpD E call o frc h d=.ok vc {h1 with tch:=Bj (H6 h.next h1.tch) h.tch} (Bj (H6 h.next h1.tch) d):=by
  unfold evOpD;rw[D];show x9 h.next h.tch d (evOp E call o.op frc {h with tch:=[]})=_
  rw[a.r];rfl
 refine⟨_,_,e,⟨rfl,a.st.congr rfl (fun _=>rfl),a.kp,a.vr.keep (fun _ hz=>⟨hz,rfl⟩) (.refl _ _),fun b=>?_⟩,?_⟩
 . exact Ow (a.sp b)
 . unfold r8 at A
   rcases zkd.1 A with A|A
   . rcases B with rfl|B
     . left
       obtain⟨G,H,I⟩:=(a.sp K.os.length).th
       have:H6 h.next h1.tch=[]:=Qa fun i hi=>by
        rw[H]at hi;have hi:i∈G:=by grind
        rcases I i hi with h|⟨r,t,J,q2⟩
        . exact h
        . obtain⟨_,_,r',t',q3,q4⟩:=s.live i _ J
          grind[isRt_lt]
       rw[this];rfl
     . exact .inr (Co B).2
   . exact .inr A
theorem Hf(gl:BG E)(ti:KO E){call:D4}:∀(l:List XOp){s:List Bool}{Z:Nat->Prop}{ow:Nat->Option (List Nat)}{h:Heap}{K:PK}{frc:Tr}{fr:PF}{d:List Nat},G2 Z ow h K.os->K.ext<=K.os.length->r7 Z ow h K.os nt frc fr->Wy nt l=zt->(d=[]\/m5 l=zt)->j1 E l s fr K=zt->virtD E call l s frc h d=zt
 |[],_,_,_,_,_,_,_,_,_,_,_,_,_,_=>rfl
 |o::l,[],_,_,_,_,_,_,_,_,_,_,_,_,e=>by cases e
 |o::l,zt::s,Z,ow,h,K,frc,fr,d,p,hx,a,hd,hdd,e=>Hf gl ti l p hx (a.setd (dst_cons hd).1 vr_skipped) (dst_cons hd).2 (hdd.imp id fun e=>(Co e).2) e
 |o :: l,zf::s,Z,ow,h,K,frc,fr,d,p,hx,a,hd,hdd,e=>by
  obtain⟨B,C⟩:=dst_cons hd;have A:d=[]\/m5 l=zt:=hdd.imp id fun e=>(Co e).2
  unfold j1 at e;show onOB (guardOk o.gd frc) zf (virtThen o.dst (virtD E call l s) frc (evOpD E call o frc h d)) (virtD E call l s (setDst o.dst skipped frc) h d)=zt
  cases hg:guardP o.gd fr with
  |none=>grind
  |some b=>
   rw[hg]at e;rw[m4 a hg];cases b with
   |false=>exact Hf gl ti l p hx (a.setd B vr_skipped) C A e
   |true=>
    obtain⟨hq,e⟩:=zkb.1 e;show virtThen o.dst (virtD E call l s) frc (evOpD E call o frc h d)=zt
    rw[kK (by grind) hdd];cases D:prim E o.op fr K with
    |val v K'=>
     rw[D]at e;obtain⟨ow',vc,h',dd⟩:=Cm gl ti p hx a D call;rw[dd.r];exact Hf gl ti l dd.st (Gh hx dd.kp (dd.sp 0).ex) ((a.keep (dd.sp 0).zz dd.kp).setd B dd.vr) C A e
    |_=>grind
theorem eJ{os:List PO}{id:Nat}(h:GS os id=zt):loP os 6 id=zsq [id]:=by
 grind[GS,loP]
theorem EM{id i off:Nat}(v:VR Z ow h os x (.ptr id i off)):∃c,x=.ptr c i off/\∀L,loP os 6 id=zsq L->ow c=zsq L:=by
 cases v with
 |fz f=>cases f
 |ptr h1 h2=>grind
theorem eK{i:Nat}:∀{l:List Nat},uR i l=zt->i∈l
 |[],h=>by cases h
 |j::l,h=>by
  have h:(bif Nat.beq j i then zt else uR i l)=zt:=h;cases e:Nat.beq j i with
  |true=>simp_all
  |false=>rw[e]at h;exact zqi.2 (.inr (eK h))
theorem eL{i:Nat}:∀{l:List Nat},i∈l->uR i l=zt
 |j :: l,h=>by
  show(bif Nat.beq j i then zt else uR i l)=zt
  rcases zqi.1 h with rfl|h
  . rw[zkh];rfl
  . cases Nat.beq j i with
    |true=>rfl
    |false=>exact eL h
theorem Ki{call:D4}{o:XOp}{d:List Nat}{l:List XOp}(H:o.quiet=zt)(s:G2 Z ow h K.os)(hd:d=[]\/m5 (o::l)=zt){r:AV}{Z':Nat->Prop}{ow':Nat->Option (List Nat)}{vc:AV}{h1:Heap}
 (a:Did2 Z ow {h with tch:=[]} {K with tch:=[]} (evOp E call o.op frc {h with tch:=[]}) v K1 Z' ow' vc h1):
 ∃B d2,evOpD E call o frc h d=.ok vc B d2/\Did2 Z ow h K (.ok vc B) v {K1 with tch:=K1.tch++K.tch} Z' ow' vc B/\(d=[]->∀c,uR c d2=zt->∃r t,ow c=zsq (r::t)/\r∈K1.tch):=by
 have e:evOpD E call o frc h d=.ok vc {h1 with tch:=Bj (H6 h.next h1.tch) h.tch} (Bj (H6 h.next h1.tch) d):=by
  unfold evOpD;rw[H];show x9 h.next h.tch d (evOp E call o.op frc {h with tch:=[]})=_
  rw[a.r];rfl
 refine⟨_,_,e,⟨rfl,a.st.congr rfl (fun _=>rfl),a.kp,a.vr.keep (fun _ hz=>⟨hz,rfl⟩) (.refl _ _),fun b=>?_⟩,?_⟩
 . exact Ow (a.sp b)
 . rintro rfl c hc
   have hc:=eK hc;rw[Gl,zql]at hc;obtain⟨A,hc2⟩:=l7.1 hc;obtain⟨_,_,I,t',J,q4⟩:c<h.next/\¬Z c/\∃r t,(∃L,ow c=zsq L/\L=r::t)/\isRt K.os r=zt:=by
    obtain⟨C,D,G⟩:=(a.sp 0).th;rw[D]at A;have A:c∈C:=by grind
    rcases G c A with h|⟨r,t,h1,_⟩
    . grind
    . obtain⟨p1,p2,I,t',p3,p4⟩:=s.live c _ h1
      grind
   obtain⟨L,q5,rfl⟩:=J;obtain⟨C,D,G⟩:=(a.sp K.os.length).th;grind[isRt_lt]
theorem kL{n:Nat}{l:List XOp}{K1:PK}(A:¬r8 n l K1=zt):¬m5 l=zt:=fun e=>A (zkd.2 (.inr e))
theorem AS(gl:BG E){call:D4}{o:XOp}{d:List Nat}{ws:List (PK×(Nat->Option (List Nat)))}(a:r7 Z ow h K.os nt frc fr)(hq:o.quiet=zf)(sf:EL d ws)(kp:∀p∈ws,Keep' p.2 p.1.os ow K.os)(hc:eD E (ws.map Prod.fst) K fr o=zt):evOpD E call o frc h d=v6 d (evOp E call o.op frc h):=by
 unfold evOpD;rw[hq];show(bif o.careful then _ else _)=_
 cases I:o.careful with
 |false=>rfl
 |true=>
  have:readOk (readO E o.op frc) d=zt:=by
   cases A:readO E o.op frc with
   |none=>rfl
   |some c=>
    show(!(uR c d))=zt
    cases J:uR c d with
    |false=>rfl
    |true=>
     obtain⟨p,V,r0,t0,e1,e2⟩:=sf c J;have hc:=zqf.1 hc p.1 (zqm.2 ⟨p,V,rfl⟩);have kp:=kp p V;unfold GT at hc;rw[I]at hc;dsimp only at hc;cases N:o.op<;>rw[N]at hc A<;>first|(cases hc;done)|skip
     rename_i t x
     change jT K.os p.1 (opvP E x fr)=zt at hc
     have U:=Ae gl a x;cases Q:opvP E x fr<;>rw[Q]at hc U<;>first|(cases hc;done)|skip
     rename_i id i off;obtain⟨C,B⟩:=zkb.1 hc;obtain⟨B,X⟩:=zkb.1 B;have B:¬id∈p.1.tch:=by simpa using B
     obtain⟨c',G,H⟩:=EM U
     change o6 (opv E x frc)=zsq c at A
     rw [G]at A;cases A;have D:id<p.1.os.length:=by
      unfold GS at C;split at C
      . rename_i e;exact(zqc.1 e).1
      . cases C
     obtain⟨L,Y,q2⟩:=kp.2 id D [id] (eJ X);rw[eJ C]at Y;cases Y;have w0:=(q2 c).2 (H [id] (eJ X));rw[w0]at e1;cases e1;exact absurd e2 B
  grind
theorem nU{call:D4}{o:XOp}{d:List Nat}{ws:List (PK×(Nat->Option (List Nat)))}(B:o.quiet=zt)(s:G2 Z ow h K.os)(C:EL d ws){Z':Nat->Prop}{ow':Nat->Option (List Nat)}{vc:AV}{h1:Heap}
 (a:Did2 Z ow {h with tch:=[]} {K with tch:=[]} (evOp E call o.op frc {h with tch:=[]}) v K1 Z' ow' vc h1):
 ∃A d2,evOpD E call o frc h d=.ok vc A d2/\Did2 Z ow h K (.ok vc A) v {K1 with tch:=K1.tch++K.tch} Z' ow' vc A/\EL d2 ((⟨K.os,0,K1.tch⟩,ow)::ws):=by
 have e:evOpD E call o frc h d=.ok vc {h1 with tch:=Bj (H6 h.next h1.tch) h.tch} (Bj (H6 h.next h1.tch) d):=by
  unfold evOpD;rw[B];show x9 h.next h.tch d (evOp E call o.op frc {h with tch:=[]})=_
  rw[a.r];rfl
 have D:evOpD E call o frc h []=.ok vc {h1 with tch:=Bj (H6 h.next h1.tch) h.tch} (Bj (H6 h.next h1.tch) []):=by
  unfold evOpD;rw[B];show x9 h.next h.tch [] (evOp E call o.op frc {h with tch:=[]})=_
  rw[a.r];rfl
 obtain⟨A,d2,e2,dd,G⟩:=Ki (l:=[]) B s (.inl rfl) (r:=v) a;rw[D]at e2;cases e2;refine⟨_,_,e,dd,fun c hc=>?_⟩;have hc:=eK hc;rw[Gl]at hc;rcases zqk.1 hc with hc|hc
 . obtain⟨r,t,H,I⟩:=G rfl c (by rw[Gl,zql];exact eL hc)
   exact⟨_,zqh ..,r,t,H,I⟩
 . obtain⟨p,J,k⟩:=C c (eL hc)
   exact⟨p,zqp _ J,k⟩
theorem B9.next{r:CRes}{p:PR}(s:G2 Z ow h K.os)(A:K.ext<=K.os.length){r0:Res}{vc:AV}(a:Did2 Z ow h K r0 v K' Z' ow' vc h')(H:G2 Z' ow' h' K'.os->K'.ext<=K'.os.length->B9 Z' ow' h' K' nt r p):B9 Z ow h K nt r p:=
 (H a.st (Gh A a.kp (a.sp 0).ex)).trans s (a.sp _) (a.kp.e A)
theorem SC(hP:PEok P):∀(j:PJ)(r:PR),evP P j=zsq r->SB P j r:=by
 refine evP.partial_correctness P (SB P) fun ev X j r A=>?_
 unfold evG at A;cases j with
 |code c fr K=>
  intro nt Z ow h frc s I a hc;cases c with
  |skip=>cases A;exact⟨Z,ow,h,frc,KC,s,a,.refl _ _ _ _ _,I,.refl _ _ _⟩
  |exit i=>cases A;exact⟨Z,ow,h,frc,KD i,s,a,.refl _ _ _ _ _,I,.refl _ _ _⟩
  |ret=>cases A;exact⟨Z,ow,h,frc,RK,s,a,.refl _ _ _ _ _,I,.refl _ _ _⟩
  |reg d l=>
   cases d with
   |false=>show B9 _ _ _ _ _ (evω P.E (.reg zf l) frc h) r;rw[RL];exact X (.ops l fr K) r A nt Z ow h frc s I a hc
   |true=>show B9 _ _ _ _ _ (evω P.E (.reg zt l) frc h) r;rw[KE];exact X (.opsD l fr K) r A nt Z ow h frc [] s I a hc (.inl rfl)
  |seq c1 c2=>
   obtain⟨al,ah⟩:=zkb.1 hc;obtain⟨q,h1,C⟩:=C6 A;have V:=X _ _ h1 nt Z ow h frc s I a al;show B9 _ _ _ _ _ (evω P.E (.seq c1.er c2.er) frc h) r
   rw[GR];cases q with
   |pan v K'=>cases C;obtain⟨Z',ow',h',vc,e,N,J,G,Q⟩:=V;rw[e];exact⟨Z',ow',h',vc,rfl,N,J,G,Q⟩
   |ok e fr' K'=>
    obtain⟨Z',ow',h',D,e1,N,J,G,Q,b6⟩:=V;rw[e1];cases e with
    |normal=>exact(X _ _ C nt Z' ow' h' D N Q J ah).trans s G b6
    |_=>cases C;exact⟨Z',ow',h',D,rfl,N,J,G,Q,b6⟩
   |_=>cases C
  |cond x c1 c2=>
   obtain⟨al,ah⟩:=zkb.1 hc;show B9 _ _ _ _ _ (evω P.E (.cond x c1.er c2.er) frc h) r
   rw[KF];have hv:=Ae hP.gl a x
   change (match opvP P.E x fr with | .bool zt=>ev (.code c1 fr K) | .bool zf=>ev (.code c2 fr K)|_=>znq)=zsq r at A
   cases ho:opvP P.E x fr<;>rw[ho]at A hv<;>first|(cases A;done)|skip
   rename_i b;rw[hv.isB];cases b with
   |true=>exact X _ _ A nt Z ow h frc s I a al
   |false=>exact X _ _ A nt Z ow h frc s I a ah
  |block i c=>
   obtain⟨q,h1,C⟩:=C6 A;have V:=X _ _ h1 nt Z ow h frc s I a hc;show B9 _ _ _ _ _ (evω P.E (.block i c.er) frc h) r
   rw[DY];cases q with
   |pan v K'=>cases C;obtain⟨Z',ow',h',vc,e,N,J,G,Q⟩:=V;rw[e];exact⟨Z',ow',h',vc,rfl,N,J,G,Q⟩
   |ok e fr' K'=>
    obtain⟨Z',ow',h',D,e1,N,J,G,Q,b6⟩:=V;rw[e1];cases e with
    |exit j=>
     change (if j=i then pure (PR.ok .normal fr' K')else pure (PR.ok (.exit j) fr' K'))=zsq r at C
     show B9 _ _ _ _ _ (bif Nat.beq j i then .ok .normal D h' else .ok (.exit j) D h') r
     by_cases e:j=i
     . rw[if_pos e]at C;cases C
       rw[e,zkh];exact⟨Z',ow',h',D,rfl,N,J,G,Q,b6⟩
     . rw[if_neg e]at C;cases C
       rw[show Nat.beq j i=zf from(by cases hb:Nat.beq j i with|false=>rfl|true=>exact absurd (zkj hb) e)];exact⟨Z',ow',h',D,rfl,N,J,G,Q,b6⟩
    |_=>cases C;exact⟨Z',ow',h',D,rfl,N,J,G,Q,b6⟩
   |_=>cases C
  |loop c=>
   obtain⟨q,h1,C⟩:=C6 A;have V:=X _ _ h1 nt Z ow h frc s I a hc;show B9 _ _ _ _ _ (evω P.E (.loop c.er) frc h) r
   rw[KG];cases q with
   |pan v K'=>cases C;obtain⟨Z',ow',h',vc,e,N,J,G,Q⟩:=V;rw[e];exact⟨Z',ow',h',vc,rfl,N,J,G,Q⟩
   |ok e fr' K'=>
    obtain⟨Z',ow',h',D,e1,N,J,G,Q,b6⟩:=V;rw[e1];cases e with
    |normal=>exact(X _ _ C nt Z' ow' h' D N Q J hc).trans s G b6
    |_=>cases C;exact⟨Z',ow',h',D,rfl,N,J,G,Q,b6⟩
   |_=>cases C
  |scope c=>show B9 _ _ _ _ _ (evω P.E (.scope c.er) frc h) r;rw[DZ];exact X _ _ A nt Z ow h frc s I a hc
  |pre keep c=>
   obtain⟨ow',b1,N,J,G,Q⟩:=Mz s a keep;exact(X _ _ A nt Z ow' h frc b1 G N hc).trans s J (fun id hi=>Q id hi (zkf hi I))
  |post keep c=>
   obtain⟨q,h1,C⟩:=C6 A;have V:=X _ _ h1 nt Z ow h frc s I a hc;show B9 _ _ _ _ _ (evω P.E c.er frc h) r
   cases q with
   |pan v K'=>
    cases C;obtain⟨Z',ow',h',vc,e1,N,J,G,Q,b6⟩:=V;obtain⟨ow2,c1,c2,c3,c4,c5⟩:=Mz N (He (nt:=1) (.cons J .nil) (zke _) (by decide)) [0];exact⟨Z',ow2,h',vc,e1,c1,c2.v 0,G.trans s c3,c4,b6.trans (fun id hi=>c5 id (by rw[G.ex];exact hi) (zkf (by rw[G.ex];exact hi) Q))⟩
   |ok e fr' K'=>
    cases e with
    |normal=>
     cases C;obtain⟨Z',ow',h',D,e1,N,J,G,Q,b6⟩:=V;obtain⟨ow2,c1,c2,c3,c4,c5⟩:=Mz N J keep;exact⟨Z',ow2,h',D,e1,c1,c2,G.trans s c3,c4,b6.trans (fun id hi=>c5 id (by rw[G.ex];exact hi) (zkf (by rw[G.ex];exact hi) Q))⟩
    |_=>cases C;exact V
   |_=>cases C
  |rfn g ps x y=>
   obtain⟨bi,ah⟩:=zkb.1 hc;show B9 _ _ _ _ _ (evω P.E (.rfn g ps x.er y.er) frc h) r
   rw[RZ];dsimp only at A;have hv:=Ae hP.gl a g;split at A
   . rename_i n caps ho
     rw[ho]at hv;obtain⟨af,bw,hl⟩:=AQ hv;rw[bw];split at A
     . rename_i nf ic bo
       obtain⟨xc,rs,ii,hf⟩:=AP bo;have F:=hP.fn n _ hf;split at A
       . rename_i ak
         obtain ⟨q,h1,C⟩:=C6 A;have hl':VL Z ow h K.os (.any::af) (.any::caps):=.cons .any hl;have V:=X _ _ h1 nf nt Z ow h _ frc s (zke _) (He hl' (by simpa using ak) F.nt) ⟨Z,ow,h,K.os,rfl,a,fun _ hz=>⟨hz,rfl⟩,.refl _ _ _⟩ F.ok hc;have e0:rfnA P.E (evω P.E) ps x.er y.er frc h (.fn (.func n) [] af)=backA frc (finI (evI P.E (evω P.E) nf (roundY (evω P.E) ps x.er y.er frc) itMax ic.eri znq (Tr.enter nf (.any::af)) h)):=by
          show backA frc (itF P.E (evω P.E) n af (roundY (evω P.E) ps x.er y.er frc) h)=_
          unfold itF;rw[F.fn];show backA frc (bif Nat.ble (Nat.succ (lenL af)) nf then _ else _)=_
          rw[A5,hl.1,zkg ak];rfl
         rw [e0];have aq:∀{e:Ex}{p:Option Ex}{fr1:PF}{K1:PK},e=.normal\/e=.ret->F8 Z ow h ⟨K.os,K.os.length,[]⟩ nf (evI P.E (evω P.E) nf (roundY (evω P.E) ps x.er y.er frc) itMax ic.eri znq (Tr.enter nf (.any::af)) h) (.itr e p fr1 K1)->B9 Z ow h K nt (backA frc (finI (evI P.E (evω P.E) nf (roundY (evω P.E) ps x.er y.er frc) itMax ic.eri znq (Tr.enter nf (.any::af)) h))) (.ok (uS p) fr ⟨K1.os,K.ext,K1.tch++K.tch⟩):=fun{e p fr1 K1} he o=>by
          obtain⟨Z',ow',h',D,e1,N,J,G,Q,b6⟩:=o;have kp:Keep' ow K.os ow' K1.os:=Cn G.ex Q b6;refine⟨Z',ow',h',frc,?_,N,a.keep G.zz kp,Nc s I G _,zki I kp.1,kp.e I⟩;rw[e1];rcases he with rfl|rfl<;>rfl
         cases q with
         |itr e p fr1 K1=>
          cases e with
          |exit=>cases C
          |normal=>cases C;exact aq (.inl rfl) V
          |ret=>cases C;exact aq (.inr rfl) V
         |_=>cases C
       . cases A
     . cases A
   . cases A
  |_=>cases A
 |rcv x v K=>
  intro Z ow h xc vc s I vx vv;dsimp only at A;split at A
  . rename_i n caps
    obtain⟨af,rfl,hl⟩:=AQ vx;split at A
    . rename_i nt d d2 c aj
      obtain⟨x0,i,hf⟩:=AR aj;have F:=hP.fn n _ hf;obtain⟨ap,bc⟩:=zkb.1 F.ok;obtain⟨aa,ab⟩:=zkb.1 ap;have aa:decide (d<nt)=zt:=aa;have ab:decide (d2<nt)=zt:=ab;split at A
      . rename_i ak
        obtain ⟨q,h1,C⟩:=C6 A;have V:=X _ _ h1 nt Z ow h _ s I (Ov [d,d2] (.cons vv (.cons vv .nil)) (by show(decide (d<nt)&&(decide (d2<nt)&&zt))=zt;rw[aa,ab];rfl) (He hl ak F.nt)) bc;have e0:Ea P.E (evω P.E) (.fn (.func n) [] af) vc h=rcvEnd (evω P.E c.er (setPs [d,d2] [vc,vc] (Tr.enter nt af)) h):=by
         show Sm P.E (evω P.E) n af vc h=_
         unfold Sm;rw[F.fn];show(bif Nat.ble (lenL af) nt&&zt then(bif Nat.blt d nt then _ else _)else _)=_
         rw[A5,hl.1,zkg ak,show Nat.blt d nt=zt from zkg (Nat.succ_le_of_lt (of_decide_eq_true aa))];rfl
        rw[e0];cases q with
        |ok e fr' K'=>
         obtain⟨Z',ow',h',D,e1,N,J,G,Q,b6⟩:=V;rw[e1];cases e with
         |exit=>cases C
         |_=>cases C;exact⟨Z',ow',h',rfl,N,G,Q,b6⟩
        |_=>cases C
      . cases A
    . cases A
  . cases A
 |dfc a g c fr K=>
  intro nt Z ow h frc s I fR hc;obtain⟨bd,bc⟩:=zkb.1 hc;obtain⟨q,h1,C⟩:=C6 A;have V:=X _ _ h1 nt Z ow h frc s I fR bd;cases q with
  |ok e fr1 K1=>
   cases e with
   |normal=>
    obtain⟨Z1,ow1,a7,ac,e1,N,J,G,Q,b6⟩:=V;obtain⟨q2,h3,h4⟩:=C6 C;have k2:=X _ _ h3 nt Z1 ow1 a7 ac N (zke _) J bc;have e0:∀rs,t7 P.E (evω P.E) g c.er rs a.pieces frc h=I4 P.E (evω P.E) (opv P.E g ac) rs ac (evω P.E c.er ac a7):=fun rs=>nR g c.er rs a e1
    have hv:=Ae hP.gl J g;have aq:∀{Z2:Nat->Prop}{ow2:Nat->Option (List Nat)}{am:Heap}{K2:PK}{U:Tr}{fr2:PF}{v vc:AV}{r:PR},G2 Z2 ow2 am K2.os->Stp K1.os.length Z1 ow1 a7 ⟨K1.os,K1.os.length,[]⟩ Z2 ow2 am K2->K2.ext<=K2.os.length->W6 K1.os.length ow1 K1.os ow2 K2.os->r7 Z2 ow2 am K2.os nt U fr2->VR Z2 ow2 am K2.os vc v ->
     (∀rs,I4 P.E (evω P.E) (opv P.E g ac) rs ac (evω P.E c.er ac a7)=j9 P.E rs U (Ea P.E (evω P.E) (opv P.E g ac) vc am))->(∃q,ev (.rcv (opvP P.E g fr1) v ⟨K2.os,K2.os.length,[]⟩)=zsq q/\(match q with | .ok _ _ K3=>zsq (.ok .ret fr2 ⟨K3.os,K1.ext,K3.tch++(K2.tch++K1.tch)⟩)|_=>znq)=zsq r) ->
     ∃rc,(∀rs,t7 P.E (evω P.E) g c.er rs a.pieces frc h=H9 P.E rs rc)/\B9 Z ow h K nt rc r:=fun{Z2 ow2 am K2 U fr2 v vc r} c2 c4 c5 c6 c3 cv ce cq=>by
     obtain⟨q3,h5,h6⟩:=cq;have kp:Keep' ow1 K1.os ow2 K2.os:=Cn c4.ex c5 c6;have k3:=X _ _ h5 Z2 ow2 am _ vc c2 (zke _) (hv.keep c4.zz kp) cv;cases q3 with
     |ok e3 fr3 K3=>
      cases h6;obtain⟨Z3,au,bj,d1,d2,d3,d4,d5⟩:=k3;have ba:Keep' ow2 K2.os au K3.os:=Cn d3.ex d4 d5;refine⟨.ok .ret U bj,fun rs=>?_,Z3,au,bj,U,rfl,d2,c3.keep d3.zz ba,?_,?_,?_⟩
      . rw[e0,ce,d1];rfl
      . have s1:=Nc N Q c4 K1.ext
        have bt:(⟨K2.os,K1.ext,K2.tch++K1.tch⟩:PK).ext<=(⟨K2.os,K1.ext,K2.tch++K1.tch⟩:PK).os.length:=zki Q kp.1;have s2:=Nc (K:=⟨K2.os,K1.ext,K2.tch++K1.tch⟩) c2 bt d3 K1.ext
        have:=G.trans s (s1.trans N s2)
        exact this
      . exact zki Q (zki kp.1 ba.1)
      . have:=b6.trans (by rw[G.ex.symm];exact(kp.trans ba).e Q)
        exact this
     |_=>cases h6
    cases q2 with
    |pan v K2=>
     obtain⟨Z2,ow2,am,vc,f1,f2,f3,f4,f5,f6⟩:=k2;exact aq f2 f4 f5 f6 (J.keep f4.zz (Cn f4.ex f5 f6)) f3 (fun rs=>by rw[f1];rfl) (C6 h4)
    |ok e2 fr2 K2=>
     obtain⟨Z2,ow2,am,U,f1,f2,f3,f4,f5,f6⟩:=k2;cases e2 with
     |exit=>cases h4
     |_=>exact aq f2 f4 f5 f6 f3 (.fz .niliface) (fun rs=>by rw[f1];rfl) (C6 h4)
    |_=>cases h4
   |_=>cases C
  |_=>cases C
 |round c args K=>
  intro ag Z ow h H ad s I a hl hc;obtain⟨bi,ah⟩:=zkb.1 hc;obtain⟨bd,bx⟩:=zkb.1 ah;dsimp only at A;split at A
  . rename_i ak
    obtain⟨q,h1,C⟩:=C6 A;have V:=X _ _ h1 ag Z ow h _ s I (Ov c.ps hl bi a) bd;unfold roundY;rw[A5,bJ,hl.1,ak,zkh];show B9 _ _ _ _ _ (Dt (evω P.E c.b.er) (evω P.E c.a.er (setPs c.ps ad H) h)) r
    cases q with
    |ok e fr' K'=>
     cases e with
     |normal=>
      obtain⟨Z',ow',h',D,e1,N,J,G,Q,b6⟩:=V;rw[e1];exact(X _ _ C ag Z' ow' h' D N Q J bx).trans s G b6
     |_=>cases C
    |_=>cases C
  . cases A
 |iter c m ic p fr K=>
  intro nt ag Z ow h frc H s I a B hc aj;cases m with
  |zero=>cases A
  |succ m=>
   cases ic with
   |skip=>cases A;exact⟨Z,ow,h,frc,rfl,s,a,.refl _ _ _ _ _,I,.refl _ _ _⟩
   |exit i=>cases A;exact⟨Z,ow,h,frc,rfl,s,a,.refl _ _ _ _ _,I,.refl _ _ _⟩
   |ret=>cases A;exact⟨Z,ow,h,frc,rfl,s,a,.refl _ _ _ _ _,I,.refl _ _ _⟩
   |reg d l=>
    obtain⟨q,h1,C⟩:=C6 A;have V:=X _ _ h1 nt Z ow h frc s I a hc;show F8 _ _ _ _ _ (I0 (o7 p) (evω P.E (.reg d l) frc h)) r
    cases q with
    |ok e fr' K'=>
     cases e with
     |normal=>
      cases C;obtain⟨Z',ow',h',D,e1,N,J,G,Q,b6⟩:=V;have e1:evω P.E (.reg d l) frc h=.ok .normal D h':=e1;rw[e1];exact⟨Z',ow',h',D,rfl,N,J,G,Q,b6⟩
     |_=>cases C
    |_=>cases C
   |seq c1 c2=>
    obtain⟨al,ah⟩:=zkb.1 hc;obtain⟨q,h1,C⟩:=C6 A;have V:=X _ _ h1 nt ag Z ow h frc H s I a B al aj;show F8 _ _ _ _ _ (Kx (evI P.E (evω P.E) nt (roundY (evω P.E) c.ps c.a.er c.b.er H) m c2.eri) (evI P.E (evω P.E) nt (roundY (evω P.E) c.ps c.a.er c.b.er H) m c1.eri p frc h)) r
    cases q with
    |itr e p1 fr' K'=>
     obtain⟨Z',ow',h',D,e1,N,J,G,Q,b6⟩:=V;rw[e1];cases e with
     |normal=>exact(X _ _ C nt ag Z' ow' h' D H N Q J (by rw[G.ex];exact B.step G.zz b6) ah aj).trans s G b6
     |_=>cases C;exact⟨Z',ow',h',D,rfl,N,J,G,Q,b6⟩
    |_=>cases C
   |loop c1=>
    obtain⟨q,h1,C⟩:=C6 A;have V:=X _ _ h1 nt ag Z ow h frc H s I a B hc aj;show F8 _ _ _ _ _ (Kx (evI P.E (evω P.E) nt (roundY (evω P.E) c.ps c.a.er c.b.er H) m (.loop c1.eri)) (evI P.E (evω P.E) nt (roundY (evω P.E) c.ps c.a.er c.b.er H) m c1.eri p frc h)) r
    cases q with
    |itr e p1 fr' K'=>
     obtain⟨Z',ow',h',D,e1,N,J,G,Q,b6⟩:=V;rw[e1];cases e with
     |normal=>exact(X _ _ C nt ag Z' ow' h' D H N Q J (by rw[G.ex];exact B.step G.zz b6) hc aj).trans s G b6
     |_=>cases C;exact⟨Z',ow',h',D,rfl,N,J,G,Q,b6⟩
    |_=>cases C
   |cond x c1 c2=>
    obtain⟨al,ah⟩:=zkb.1 hc;show F8 _ _ _ _ _ ((opv P.E x frc).onBool .bad fun t=>match t with|true=>evI P.E (evω P.E) nt (roundY (evω P.E) c.ps c.a.er c.b.er H) m c1.eri p frc h|false=>evI P.E (evω P.E) nt (roundY (evω P.E) c.ps c.a.er c.b.er H) m c2.eri p frc h) r
    have hv:=Ae hP.gl a x;dsimp only at A;cases ho:opvP P.E x fr<;>rw[ho]at A hv<;>first|(cases A;done)|skip
    rename_i b;rw[hv.isB];cases b with
    |true=>exact X _ _ A nt ag Z ow h frc H s I a B al aj
    |false=>exact X _ _ A nt ag Z ow h frc H s I a B ah aj
   |block i c1=>
    obtain⟨q,h1,C⟩:=C6 A;have V:=X _ _ h1 nt ag Z ow h frc H s I a B hc aj;show F8 _ _ _ _ _ (Je i (evI P.E (evω P.E) nt (roundY (evω P.E) c.ps c.a.er c.b.er H) m c1.eri p frc h)) r
    cases q with
    |itr e p1 fr' K'=>
     obtain⟨Z',ow',h',D,e1,N,J,G,Q,b6⟩:=V;rw[e1];cases e with
     |exit j=>
      change (if j=i then pure (PR.itr .normal p1 fr' K')else pure (PR.itr (.exit j) p1 fr' K'))=zsq r at C
      show F8 _ _ _ _ _ (bif Nat.beq j i then .ok .normal p1 D h' else .ok (.exit j) p1 D h') r
      by_cases e:j=i
      . rw[if_pos e]at C;cases C
        rw[e,zkh];exact⟨Z',ow',h',D,rfl,N,J,G,Q,b6⟩
      . rw[if_neg e]at C;cases C
        rw[show Nat.beq j i=zf from(by cases hb:Nat.beq j i with|false=>rfl|true=>exact absurd (zkj hb) e)];exact⟨Z',ow',h',D,rfl,N,J,G,Q,b6⟩
     |_=>cases C;exact⟨Z',ow',h',D,rfl,N,J,G,Q,b6⟩
    |_=>cases C
   |pre keep c1=>
    obtain⟨ow',b1,N,J,G,Q⟩:=Mz s a keep;have kk:W6 K.ext ow K.os ow' (J7 keep fr K).2.os:=fun id hi=>Q id hi (zkf hi I)
    exact(X _ _ A nt ag Z ow' h frc H b1 G N (B.step (fun _ hz=>⟨hz,rfl⟩) kk) hc aj).trans s J kk
   |post keep c1=>
    obtain⟨q,h1,C⟩:=C6 A;have V:=X _ _ h1 nt ag Z ow h frc H s I a B hc aj;cases q with
    |itr e p1 fr' K'=>
     cases e with
     |normal=>
      cases C;obtain⟨Z',ow',h',D,e1,N,J,G,Q,b6⟩:=V;obtain⟨ow2,c1,c2,c3,c4,c5⟩:=Mz N J keep;exact⟨Z',ow2,h',D,e1,c1,c2,G.trans s c3,c4,b6.trans (fun id hi=>c5 id (by rw[G.ex];exact hi) (zkf (by rw[G.ex];exact hi) Q))⟩
     |_=>cases C;exact V
    |_=>cases C;trivial
   |yreg p0 gd yt p1 yd args p2=>
    obtain⟨hn,hc⟩:=zkb.1 hc;obtain⟨a4,a5⟩:=zkb.1 hn;obtain⟨bz,hc⟩:=zkb.1 hc;obtain⟨al,ah⟩:=zkb.1 hc;have a4:yt<nt:=of_decide_eq_true a4;have a5:yd<nt:=of_decide_eq_true a5;show F8 _ _ _ _ _ (I0 (fun fr h=>onOB (guardOk gd fr) .bad (fL P.E (evω P.E) nt (roundY (evω P.E) c.ps c.a.er c.b.er H) gd yt p1.er yd args p2.er p fr h) (ES (evω P.E) gd yt p1.er yd p2.er p fr h)) (evω P.E p0.er frc h)) r
    obtain⟨q,h1,C⟩:=C6 A;have V:=X _ _ h1 nt Z ow h frc s I a bz;cases q with
    |ok e fr1 K1=>
     cases e with
     |normal=>
      obtain⟨Z1,ow1,ar,ac,e1,N,J,G,Q,b6⟩:=V;rw[e1];refine F8.trans s G b6 ?_;have B1:GW K1.ext Z1 ow1 ar K1.os ag H c.fr:=by rw[G.ex];exact B.step G.zz b6
      show F8 _ _ _ _ _ (onOB (guardOk gd ac) .bad (fL P.E (evω P.E) nt (roundY (evω P.E) c.ps c.a.er c.b.er H) gd yt p1.er yd args p2.er p ac ar) (ES (evω P.E) gd yt p1.er yd p2.er p ac ar)) r
      dsimp only at C;cases hg:guardP gd fr1 with
      |none=>rw[hg]at C;cases C
      |some t=>
       rw[hg]at C;rw[m4 J hg];cases t with
       |false=>
        show F8 _ _ _ _ _ (I0 (fun fr h=>onOB (guardOk gd fr) .bad .bad (I0 (o7 p) (evω P.E p2.er (fr.set yd skipped) h))) (evω P.E p1.er (ac.set yt skipped) ar)) r
        dsimp only at C;obtain⟨q,h3,h4⟩:=C6 C;have k2:=X _ _ h3 nt Z1 ow1 ar _ N Q (J.set a4 vr_skipped) al;cases q with
        |ok e fr2 K2=>
         cases e with
         |normal=>
          obtain⟨Z2,ow2,an,U,e2,d2,d3,d4,d5,d6⟩:=k2;rw[e2];refine F8.trans N d4 d6 ?_;show F8 _ _ _ _ _ (onOB (guardOk gd U) .bad .bad (I0 (o7 p) (evω P.E p2.er (U.set yd skipped) an))) r
          dsimp only at h4;cases av:guardP gd fr2 with
          |none=>rw[av]at h4;cases h4
          |some t=>
           rw[av]at h4;cases t with
           |true=>cases h4
           |false=>
            rw[m4 d3 av];obtain⟨q,h5,h6⟩:=C6 h4;have k3:=X _ _ h5 nt Z2 ow2 an _ d2 d5 (d3.set a5 vr_skipped) ah;cases q with
            |ok e fr3 K3=>
             cases e with
             |normal=>
              cases h6;obtain⟨Z3,au,ax,aw,e3,f2,f3,f4,f5,f6⟩:=k3;show F8 _ _ _ _ _ (I0 (o7 p) (evω P.E p2.er (U.set yd skipped) an)) _
              rw[e3];exact⟨Z3,au,ax,aw,rfl,f2,f3,f4,f5,f6⟩
             |_=>cases h6
            |_=>cases h6
         |_=>cases h4
        |_=>cases h4
       |true=>
        cases p with
        |some _=>cases C
        |none=>
         show F8 _ _ _ _ _ (bif Nat.blt yt nt then I0 (fun fr h=>onOB (guardOk gd fr) .bad (Hq (evω P.E) p2.er yd fr (roundY (evω P.E) c.ps c.a.er c.b.er H (opvs P.E args fr) h)) .bad) (evω P.E p1.er (ac.set yt .any) ar)else .bad) r
         rw[show Nat.blt yt nt=zt from zkg a4];show F8 _ _ _ _ _ (I0 (fun fr h=>onOB (guardOk gd fr) .bad (Hq (evω P.E) p2.er yd fr (roundY (evω P.E) c.ps c.a.er c.b.er H (opvs P.E args fr) h)) .bad) (evω P.E p1.er (ac.set yt .any) ar)) r
         dsimp only at C;obtain⟨q,h3,h4⟩:=C6 C;have k2:=X _ _ h3 nt Z1 ow1 ar _ N Q (J.set a4 .any) al;cases q with
         |ok e fr2 K2=>
          cases e with
          |normal=>
           obtain⟨Z2,ow2,an,U,e2,d2,d3,d4,d5,d6⟩:=k2;rw[e2];refine F8.trans N d4 d6 ?_;have B2:GW K2.ext Z2 ow2 an K2.os ag H c.fr:=by rw[d4.ex];exact B1.step d4.zz d6
           show F8 _ _ _ _ _ (onOB (guardOk gd U) .bad (Hq (evω P.E) p2.er yd U (roundY (evω P.E) c.ps c.a.er c.b.er H (opvs P.E args U) an)) .bad) r
           dsimp only at h4;cases av:guardP gd fr2 with
           |none=>rw[av]at h4;cases h4
           |some t=>
            rw[av]at h4;cases t with
            |false=>cases h4
            |true=>
             rw[m4 d3 av];show F8 _ _ _ _ _ (Hq (evω P.E) p2.er yd U (roundY (evω P.E) c.ps c.a.er c.b.er H (opvs P.E args U) an)) r
             obtain⟨q,h5,h6⟩:=C6 h4;have k3:=X _ _ h5 ag Z2 ow2 an H _ d2 (zke _) (B2.now d5) (Gy hP.gl d3 args) aj;cases q with
             |ok e fr3 K3=>
              obtain⟨q,h7,h8⟩:=C6 h6;obtain⟨Z3,au,ax,aw,e3,f2,f3,f4,f5,f6⟩:=k3;have e3:roundY (evω P.E) c.ps c.a.er c.b.er H (opvs P.E args U) an=.ok e aw ax:=e3;rw[e3];have kp:Keep' ow2 K2.os au K3.os:=Cn f4.ex f5 f6;have st:=Nc d2 d5 f4 K2.ext;refine F8.trans (K':=⟨K3.os,K2.ext,K3.tch++K2.tch⟩) d2 st (kp.e d5) ?_;have k4:=X _ _ h7 nt Z3 au ax _ f2 (zki d5 kp.1) ((d3.keep f4.zz kp).set a5 (.b _)) ah;have ey:Hq (evω P.E) p2.er yd U (.ok e aw ax)=I0 (o7 (Ok e)) (evω P.E p2.er (U.set yd (.bool (wentOn e))) ax):=by cases e<;>rfl
              rw[ey];cases q with
              |ok e4 fr4 K4=>
               cases e4 with
               |normal=>
                cases h8;obtain⟨Z4,b7,b8,bk,e4,g2,g3,g4,g5,g6⟩:=k4;rw[e4];exact⟨Z4,b7,b8,bk,rfl,g2,g3,g4,g5,g6⟩
               |_=>cases h8
              |_=>cases h8
             |_=>cases h6
          |_=>cases h4
         |_=>cases h4
     |_=>cases C
    |_=>cases C
   |_=>cases A
 |ops l fr K=>
  intro nt Z ow h frc s I a hd;cases l with
  |nil=>cases A;exact⟨Z,ow,h,frc,rfl,s,a,.refl _ _ _ _ _,I,.refl _ _ _⟩
  |cons o l=>
   obtain⟨aa,ab⟩:=dst_cons hd;rw[nS];dsimp only at A;cases hg:guardP o.gd fr with
   |none=>rw[hg]at A;cases A
   |some b=>
    rw[hg]at A;rw[m4 a hg];cases b with
    |false=>exact X _ _ A nt Z ow h _ s I (a.setd aa vr_skipped) ab
    |true=>
     dsimp only at A;show B9 _ _ _ _ _ (X4 o.dst (H5 P.E (callω P.E) l) frc (evOp P.E (callω P.E) o.op frc h)) r
     cases hp:prim P.E o.op fr K with
     |bad=>rw[hp]at A;cases A
     |val v K'=>
      rw[hp]at A;obtain⟨ow',vc,h',d⟩:=Cm hP.gl hP.ti s I a hp (callω P.E);rw[d.r];refine B9.next s I (v:=v) d.two fun s' ae=>?_
      exact X _ _ A nt Z ow' h' _ s' ae ((a.keep (d.sp 0).zz d.kp).setd aa d.vr) ab
     |pan v=>
      rw[hp]at A;cases A;obtain⟨vc,hv,e⟩:=kD hP.gl a hp;rw[e];exact⟨Z,ow,h,vc,rfl,s,hv,.refl _ _ _ _ _,I,.refl _ _ _⟩
     |call f args=>
      rw[hp]at A;obtain⟨ad,hl,e⟩:=Hc hP.gl a hp;rw[e];obtain⟨q,h1,C⟩:=C6 A;have V:=X _ _ h1 Z ow h ad s I hl;cases q with
      |pan v K'=>
       cases C;obtain⟨Z',ow',h',vc,e,N,J,G,Q,b6⟩:=V;rw[e];exact⟨Z',ow',h',vc,rfl,N,G,J _,Q,b6.e I⟩
      |val vs K'=>
       obtain⟨Z',ow',h',ao,e,N,J,G,Q⟩:=V;rw[e];refine B9.next s I (v:=oneOrTup vs) ⟨rfl,N,J,Q.one,G⟩ fun s' ae=>?_
       exact X _ _ C nt Z' ow' h' _ s' ae ((a.keep (G 0).zz J).setd aa Q.one) ab
      |_=>cases C
 |opsD l fr K=>
  intro nt Z ow h frc d s I a hd ap;cases l with
  |nil=>cases A;exact⟨Z,ow,h,frc,rfl,s,a,.refl _ _ _ _ _,I,.refl _ _ _⟩
  |cons o l=>
   obtain⟨aa,ab⟩:=dst_cons hd;have ai:d=[]\/m5 l=zt:=ap.imp id fun e=>(Co e).2
   rw[Qe];dsimp only at A;cases hg:guardP o.gd fr with
   |none=>rw[hg]at A;cases A
   |some b=>
    rw[hg]at A;rw[m4 a hg];cases b with
    |false=>exact X _ _ A nt Z ow h _ d s I (a.setd aa vr_skipped) ab ai
    |true=>
     dsimp only at A;show B9 _ _ _ _ _ (O6 o.dst (evOpsD P.E (callω P.E) l) (virtD P.E (callω P.E) l o.late (setDst o.dst skipped frc) h d) frc (evOpD P.E (callω P.E) o frc h d)) r
     cases hq:o.quiet with
     |false=>
      rw[hq]at A;dsimp only at A;rw[kK hq ap];cases hp:prim P.E o.op fr K with
      |bad=>rw[hp]at A;cases A
      |val v K'=>
       rw[hp]at A;obtain⟨ow',vc,h',dd⟩:=Cm hP.gl hP.ti s I a hp (callω P.E);rw[dd.r];refine B9.next s I (v:=v) dd.two fun s' ae=>?_
       exact X _ _ A nt Z ow' h' _ d s' ae ((a.keep (dd.sp 0).zz dd.kp).setd aa dd.vr) ab ai
      |pan v=>
       rw[hp]at A;dsimp only at A;split at A
       . rename_i ay
         cases A;obtain⟨vc,hv,e⟩:=kD hP.gl a hp;rw[e,Hf hP.gl hP.ti l s I (a.setd aa vr_skipped) ab ai ay];exact⟨Z,ow,h,vc,rfl,s,hv,.refl _ _ _ _ _,I,.refl _ _ _⟩
       . cases A
      |call f args=>
       rw[hp]at A;obtain⟨ad,hl,e⟩:=Hc hP.gl a hp;rw[e];obtain⟨q,h1,C⟩:=C6 A;have V:=X _ _ h1 Z ow h ad s I hl;cases q with
       |pan v K'=>
        dsimp only at C;split at C
        . rename_i ay
          cases C;obtain⟨Z',ow',h',vc,e,N,J,G,Q,b6⟩:=V;rw[e,Hf hP.gl hP.ti l s I (a.setd aa vr_skipped) ab ai ay];exact⟨Z',ow',h',vc,rfl,N,G,J _,Q,b6.e I⟩
        . cases C
       |val vs K'=>
        obtain⟨Z',ow',h',ao,e,N,J,G,Q⟩:=V;rw[e];refine B9.next s I (v:=oneOrTup vs) ⟨rfl,N,J,Q.one,G⟩ fun s' ae=>?_
        exact X _ _ C nt Z' ow' h' _ d s' ae ((a.keep (G 0).zz J).setd aa Q.one) ab ai
       |_=>cases C
     |true=>
      rw[hq]at A;dsimp only at A;have s0:G2 Z ow {h with tch:=[]} ({K with tch:=[]}:PK).os:=s.congr rfl (fun _=>rfl);have a0:r7 Z ow {h with tch:=[]} ({K with tch:=[]}:PK).os nt frc fr:=a.keep (fun _ hz=>⟨hz,rfl⟩) (.refl _ _);have a6:({K with tch:=[]}:PK).ext<=({K with tch:=[]}:PK).os.length:=I;cases hp:prim P.E o.op fr {K with tch:=[]}with
      |val v K1=>
       rw[hp]at A;dsimp only at A;obtain⟨ow',vc,h',dd⟩:=Cm hP.gl hP.ti s0 a6 a0 hp (callω P.E);split at A
       . rename_i ht
         obtain⟨C,d2,e,Y,be⟩:=aX hq s ap (r:=v) dd.two ht;rw[e];refine B9.next s I (v:=v) Y fun s' ae=>?_
         exact X _ _ A nt Z ow' C _ d2 s' ae ((a.keep (Y.sp 0).zz Y.kp).setd aa Y.vr) ab be
       . rename_i ht
         obtain⟨C,d2,e,Y,bf⟩:=Ki (l:=l) hq s ap (r:=v) dd.two;rw[e];have bu:d=[]\/m5 l=zt:=ai;refine B9.next s I (v:=v) Y fun s' ae=>?_
         exact X _ _ A nt Z ow' C _ d2 [(⟨K.os,0,K1.tch⟩,ow)] s' ae ((a.keep (Y.sp 0).zz Y.kp).setd aa Y.vr) ab rfl (fun c hc=>⟨_,zqh ..,bf (bu.resolve_right (kL ht)) c hc⟩) (fun p hp=>by rw[zqs.1 hp];exact Y.kp)
      |call f args=>
       rw[hp]at A;obtain⟨ad,hl,e⟩:=Hc hP.gl a0 hp;obtain⟨q,h1,C⟩:=C6 A;have V:=X _ _ h1 Z ow {h with tch:=[]} ad s0 a6 hl;cases q with
       |pan v K1=>
        dsimp only at C;split at C
        . rename_i ay
          cases C;obtain⟨Z',ow',h',vc,e1,N,J,G,Q,b6⟩:=V;have e2:evOpD P.E (callω P.E) o frc h d=.pan vc {h' with tch:=Bj (H6 h.next h'.tch) h.tch}:=by
           unfold evOpD;rw[hq];show x9 h.next h.tch d (evOp P.E (callω P.E) o.op frc {h with tch:=[]})=_
           rw[e,e1];rfl
          rw[e2,Hf hP.gl hP.ti l s I (a.setd aa vr_skipped) ab ai ay];exact⟨Z',ow',_,vc,rfl,N.congr rfl (fun _=>rfl),G.keep (fun _ hz=>⟨hz,rfl⟩) (.refl _ _),Ow (J _),Q,b6.e I⟩
        . cases C
       |val vs K1=>
        dsimp only at C;obtain⟨Z',ow',h',ao,e1,N,J,G,Q⟩:=V;split at C
        . rename_i ht
          obtain⟨h3,d2,e2,Y,be⟩:=aX hq s ap (r:=oneOrTup vs) (v:=oneOrTup vs) ⟨(e (callω P.E)).trans e1,N,J,Q.one,G⟩ ht;rw[e2];refine B9.next s I (v:=oneOrTup vs) Y fun s' ae=>?_
          exact X _ _ C nt Z' ow' h3 _ d2 s' ae ((a.keep (Y.sp 0).zz Y.kp).setd aa Y.vr) ab be
        . rename_i ht
          obtain⟨h3,d2,e2,Y,bf⟩:=Ki (l:=l) hq s ap (r:=oneOrTup vs) (v:=oneOrTup vs) ⟨(e (callω P.E)).trans e1,N,J,Q.one,G⟩;rw[e2];refine B9.next s I (v:=oneOrTup vs) Y fun s' ae=>?_
          exact X _ _ C nt Z' ow' h3 _ d2 [(⟨K.os,0,K1.tch⟩,ow)] s' ae ((a.keep (Y.sp 0).zz Y.kp).setd aa Y.vr) ab rfl (fun c hc=>⟨_,zqh ..,bf (ai.resolve_right (kL ht)) c hc⟩) (fun p hp=>by rw[zqs.1 hp];exact Y.kp)
       |_=>cases C
      |_=>rw[hp]at A;cases A
 |opsS S l fr K=>
  intro nt Z ow h frc d ws s I a hd bq sf az;subst bq;cases l with
  |nil=>cases A;exact⟨Z,ow,h,frc,rfl,s,a,.refl _ _ _ _ _,I,.refl _ _ _⟩
  |cons o l=>
   obtain⟨aa,ab⟩:=dst_cons hd;rw[Qe];dsimp only at A;cases hg:guardP o.gd fr with
   |none=>rw[hg]at A;cases A
   |some b=>
    rw[hg]at A;rw[m4 a hg];cases b with
    |false=>exact X _ _ A nt Z ow h _ d ws s I (a.setd aa vr_skipped) ab rfl sf az
    |true=>
     dsimp only at A;show B9 _ _ _ _ _ (O6 o.dst (evOpsD P.E (callω P.E) l) (virtD P.E (callω P.E) l o.late (setDst o.dst skipped frc) h d) frc (evOpD P.E (callω P.E) o frc h d)) r
     cases hq:o.quiet with
     |true=>
      rw[hq]at A;dsimp only at A;have s0:G2 Z ow {h with tch:=[]} ({K with tch:=[]}:PK).os:=s.congr rfl (fun _=>rfl);have a0:r7 Z ow {h with tch:=[]} ({K with tch:=[]}:PK).os nt frc fr:=a.keep (fun _ hz=>⟨hz,rfl⟩) (.refl _ _);have a6:({K with tch:=[]}:PK).ext<=({K with tch:=[]}:PK).os.length:=I;cases hp:prim P.E o.op fr {K with tch:=[]}with
      |val v K1=>
       rw[hp]at A;dsimp only at A;obtain⟨ow',vc,h',dd⟩:=Cm hP.gl hP.ti s0 a6 a0 hp (callω P.E);obtain⟨C,d2,e,Y,cb⟩:=nU hq s sf dd.two;rw[e];refine B9.next s I (v:=v) Y fun s' ae=>?_
       exact X _ _ A nt Z ow' C _ d2 ((⟨K.os,0,K1.tch⟩,ow)::ws) s' ae ((a.keep (Y.sp 0).zz Y.kp).setd aa Y.vr) ab rfl cb (fun p hp=>by
        rcases zqi.1 hp with rfl|hp
        . exact Y.kp
        . exact(az p hp).trans Y.kp)
      |_=>rw[hp]at A;cases A
     |false =>
     rw[hq]at A;dsimp only at A;split at A
     . rename_i a9
       rw[AS hP.gl a hq sf az a9];cases hp:prim P.E o.op fr K with
       |val v K'=>
        rw[hp]at A;obtain⟨ow',vc,h',dd⟩:=Cm hP.gl hP.ti s I a hp (callω P.E);rw[dd.r];refine B9.next s I (v:=v) dd.two fun s' ae=>?_
        exact X _ _ A nt Z ow' h' _ d ws s' ae ((a.keep (dd.sp 0).zz dd.kp).setd aa dd.vr) ab rfl sf (fun p hp=>(az p hp).trans dd.kp)
       |call f args=>
        rw[hp]at A;obtain⟨ad,hl,e⟩:=Hc hP.gl a hp;rw[e];obtain⟨q,h1,C⟩:=C6 A;have V:=X _ _ h1 Z ow h ad s I hl;cases q with
        |val vs K'=>
         obtain⟨Z',ow',h',ao,e,N,J,G,Q⟩:=V;rw[e];refine B9.next s I (v:=oneOrTup vs) ⟨rfl,N,J,Q.one,G⟩ fun s' ae=>?_
         exact X _ _ C nt Z' ow' h' _ d ws s' ae ((a.keep (G 0).zz J).setd aa Q.one) ab rfl sf (fun p hp=>(az p hp).trans J)
        |_=>cases C
       |_=>rw[hp]at A;cases A
     . cases A
 |call f args K=>
  intro Z ow h ad s I hl;dsimp only at A;cases hT:P.T f with
  |some g=>
   rw[hT]at A;dsimp only at A;cases ht:tcall g args K with
   |none=>rw[ht]at A;cases A
   |some q=>
    obtain⟨vs,K'⟩:=q;rw[ht]at A;cases A;exact AK (hP.T f g hT) s I hl ht
  |none=>
   rw[hT]at A;dsimp only at A;cases bn:inpOf (P.fn f)with
   |true=>
    rw [bn]at A;obtain⟨q,h1,C⟩:=C6 A;have V:=X _ _ h1 Z ow h ad s (zke _) hl;have stp:∀{Z':Nat->Prop}{ow':Nat->Option (List Nat)}{h':Heap}{K1:PK},Stp K.os.length Z ow h ⟨K.os,K.os.length,[]⟩ Z' ow' h' K1->∀b,Stp b Z ow h K Z' ow' h' ⟨K1.os,K.ext,K1.tch++K.tch⟩:=fun{Z' ow' h' K1} sb b=>by
     obtain⟨l0,f1,f2⟩:=sb.th;refine⟨sb.nx,sb.zz,sb.zn,sb.un,sb.uo,⟨l0,f1,fun id hi=>?_⟩,fun id r t ho A=>?_,fun r A _=>zqk.2 (.inr A),rfl,fun j hj=>sb.xk j (zkf hj I),fun j hj=>sb.rd j (zkf hj I)⟩
     . rcases f2 id hi with h|⟨r,t,q1,q2⟩
       . exact .inl h
       . obtain⟨_,_,r',t',q3,q4⟩:=s.live id _ q1
         cases q3;exact .inr ⟨r,t,q1,fun _=>zqk.2 (.inl (q2 (isRt_lt q4)))⟩
     . rcases sb.mv id r t ho (zkf A I)with h|h
       . exact .inl h
       . exact .inr (zqk.2 (.inl h))
    have kp:∀{ow':Nat->Option (List Nat)}{K1:PK},K1.ext=K.os.length->K1.ext<=K1.os.length->W6 K.os.length ow K.os ow' K1.os->Keep' ow K.os ow' K1.os:=fun{ow' K1} e1 e2 e3=>⟨by rw[<-e1];exact e2,e3⟩
    cases q with
    |val vs K1=>
     cases C;obtain⟨Z',ow',h',ao,e,N,J,G,Q,b6⟩:=V;exact⟨Z',ow',h',ao,e,N,kp (K1:=K1) J.ex b6 Q,stp J,G⟩
    |pan v K1=>
     cases C;obtain⟨Z',ow',h',vc,e,N,J,G,Q,b6⟩:=V;exact⟨Z',ow',h',vc,e,N,stp J,G,zki I (by have:=J.ex;show K.os.length<=K1.os.length;have h0:K1.ext=K.os.length:=this;omega),kp (K1:=K1) J.ex Q b6⟩
    |_=>cases C
   |false=>
    rw [bn]at A;obtain⟨q,h1,C⟩:=C6 A;have hn:(focusIds args K).Nodup:=(Bg (fun id=>eC K.os[id]?) 64 (G9 args) [] List.nodup_nil).1;obtain⟨s1,bm⟩:=Wu s hn (f:=cutPO) (os':=(focusK (focusIds args K) K).os) (fun e=>by
     cases e with
     |sub p i o=>exact .inr ⟨⟨p,i,o,rfl⟩,rfl⟩
     |_=>exact .inl rfl) rfl
    have bv:(focusK (focusIds args K) K).ext<=(focusK (focusIds args K) K).os.length:=by
     show(focusIds args K).length<=((focusIds args K).map _).length
     simp
    have V:=X _ _ h1 Z _ h ad s1 bv (hl.ren (fun _ hz=>⟨hz,rfl⟩) bm);cases q with
    |val vs K1=>
     dsimp only at C;obtain⟨Z',ow',h',ao,e,N,J,G,_,_⟩:=V;cases hm:mergeK (focusIds args K) K K1 with
     |none=>rw[hm]at C;cases C
     |some K'=>
      rw[hm]at C;cases C;obtain⟨ow2,c1,c2,c3,c4⟩:=kF s I hn N J hm;exact⟨Z',ow2,h',ao,e,c1,c2,c3,G.ren (fun _ hz=>⟨hz,rfl⟩) c4⟩
    |pan v K1=>
     dsimp only at C;obtain⟨Z',ow',h',vc,e,N,J,G,_⟩:=V;cases hm:mergeK (focusIds args K) K K1 with
     |none=>rw[hm]at C;cases C
     |some K'=>
      rw[hm]at C;cases C;obtain⟨ow2,c1,c2,c3,c4⟩:=kF s I hn N J hm;exact⟨Z',ow2,h',vc,e,c1,c3,G.ren (fun _ hz=>⟨hz,rfl⟩) c4,Gh I c2 (c3 0).ex,c2⟩
    |_=>cases C
 |body f args K=>
  intro Z ow h ad s I hl;dsimp only at A;cases hf:P.fn f with
  |none=>rw[hf]at A;cases A
  |some p=>
   rw[hf]at A;dsimp only at A;split at A
   . rename_i hn
     have F:=hP.fn f p hf;obtain⟨q,h1,C⟩:=C6 A;obtain⟨rc,er,V⟩:∃rc,callω P.E f ad h=H9 P.E p.rs rc/\B9 Z ow h K p.nt rc q:=by
      have bg:=He hl hn F.nt;have bb:=F.ok;have bh:=F.fn;rcases bodyJ_or p.code with⟨x,a,g,c,e⟩|⟨x,d,d2,c,e⟩|⟨e1,e2⟩
      . rw[e]at h1 bb bh
        obtain⟨rc,V,k2⟩:=X _ _ h1 p.nt Z ow h _ s I bg bb;exact⟨rc,(AO F.gc F.told F.dlf F.srt bh (by rw[hl.1];exact hn)).trans (V _),k2⟩
      . rw[e]at h1
        have V:=X _ _ h1 Z ow h .und .und s I .und .und;cases q with
        |ok _ _ K'=>obtain⟨_,_,_,k2,_⟩:=V;cases k2
        |_=>cases V
      . rw[e1]at h1
        exact⟨_,AN e2 F.gc F.told F.dlf F.srt F.fn (by rw[hl.1];exact hn),X _ _ h1 p.nt Z ow h _ s I bg bb⟩
     rw[er];cases q with
     |pan v K'=>
      cases C;obtain⟨Z',ow',h',vc,e,N,J,G,Q⟩:=V;rw[e];exact⟨Z',ow',h',vc,rfl,N,G,J,Q⟩
     |ok e fr' K'=>
      obtain ⟨Z',ow',h',D,e1,N,J,G,Q,b6⟩:=V;rw[e1];have aq:(∀q,resP P.E p.rs fr' K'=zsq q->r=.val q.1 q.2)->resP P.E p.rs fr' K'≠znq->qZ Z ow h K (Kv (F6 P.E p.rs D h') h') r:=fun hq br=>by
       cases hv:resP P.E p.rs fr' K' with
       |none=>exact absurd hv br
       |some q=>
        obtain⟨vs,K2⟩:=q;obtain rfl:=hq _ hv;obtain⟨ao,c1,c2,c3,c4,c5⟩:=eI p.rs N Q J hv;rw[c1];exact⟨Z',ow',h',ao,rfl,c2,G.trans s c4,c5,b6.trans (c3.e (by rw[<-G.ex];exact Q)),Gh Q c3 c4.ex⟩
      cases e with
      |exit i=>cases C
      |normal=>
       dsimp only at C;cases hv:resP P.E p.rs fr' K' with
       |none=>rw[hv]at C;cases C
       |some q=>rw[hv]at C;cases C;exact aq (fun q' a1=>by rw[hv]at a1;cases a1;rfl) (by rw[hv];intro e;cases e)
      |ret=>
       dsimp only at C;cases hv:resP P.E p.rs fr' K' with
       |none=>rw[hv]at C;cases C
       |some q=>rw[hv]at C;cases C;exact aq (fun q' a1=>by rw[hv]at a1;cases a1;rfl) (by rw[hv];intro e;cases e)
     |_=>cases C
   . cases A
end
section
variable {E:Env}{P:PE}{R:AV->AV->Prop}{Z Z' Z1:Nat->Prop}{ow ow' ow1:Nat->Option (List Nat)}{h h' h1:Heap}{K K' K1:PK}{os os' ps:List PO}{x y xc yc v k:AV}{L M:List Nat}
noncomputable def X9(c r:AV)(os:List PO):AV×List PO:=match c with
 |.nilsl=>(match ownOf r with|some (0,[],sz)=>(.msl os.length 0 0 sz,os++[.row 0 [] sz])|_=>(c,os))
 |_=>(c,os)
noncomputable def N0:List AV->List AV->List PO->List AV×List PO
 |[],_,os=>([],os)
 |c::cs,[],os=>(c::cs,os)
 |c::cs,r::rs,os=>((X9 c r os).1::(N0 cs rs (X9 c r os).2).1,(N0 cs rs (X9 c r os).2).2)
noncomputable def m6(v r:AV)(os:List PO):AV×List PO:=(N7 v (N0 v.cells r.cells os).1,(N0 v.cells r.cells os).2)
noncomputable def U0:List AV->List AV->List PO->List AV×List PO
 |[],_,os=>([],os)
 |c::cs,[],os=>(c::cs,os)
 |c::cs,r::rs,os=>((m6 c r os).1::(U0 cs rs (m6 c r os).2).1,(U0 cs rs (m6 c r os).2).2)
structure backOk(vs rs:List AV)(os:List PO):Prop where
 nd:(G9 (U0 vs rs os).1).Nodup
 vl:renL (posOf (G9 (U0 vs rs os).1)) (U0 vs rs os).1=(openTs 0 rs).1
 ol:(G9 (U0 vs rs os).1).map (fun id=>renPO (posOf (G9 (U0 vs rs os).1)) (entryAt (U0 vs rs os).2 id))=(openTs 0 rs).2
theorem uM(s:G2 Z ow h os)(sz:Nat):G2 Z ow h (os++[.row 0 [] sz])/\Keep' ow os ow (os++[.row 0 [] sz])/\VR Z ow h (os++[.row 0 [] sz]) .nilsl (.msl os.length 0 0 sz):=by
 have A:∀c t,ow c≠zsq (os.length::t):=fun c t e=>by
  obtain⟨_,_,r,t',h1,G⟩:=s.live c _ e;cases h1;exact absurd (isRt_lt G) (Nat.lt_irrefl _)
 have C:Keep' ow os ow (os++[.row 0 [] sz]):=Ms s.sb fun _ _ _ _ _=>.rfl
 have B:PT (VR Z ow h os) Z ow h (os++[.row 0 [] sz]):=s.new (.row 0 [] sz) (zke _) (fun _ _=>rfl) (fun _ _ _=>rfl) (fun _ _ _=>.rfl) (fun a b t ha _=>absurd ha (A a t)) (fun d t D=>absurd D (A d t))
  (by simp_all[isRt])
  (fun es z e=>by cases e;exact⟨.nilsl,.nil (.inl rfl) (fun c t=>A c t)⟩) (by grind) (fun es e=>by cases e)
 refine⟨G2.to B (fun _ hz=>⟨hz,rfl⟩) C,C,.mnil (.inl rfl) (fun L hL c hc=>?_) (by simp)⟩;grind[loP]
theorem uN(s:G2 Z ow h os)(a:VR Z ow h os x y)(r:AV):G2 Z ow h (X9 y r os).2/\Keep' ow os ow (X9 y r os).2/\VR Z ow h (X9 y r os).2 x (X9 y r os).1:=by
 have same:∀q:AV×List PO,q=(y,os)->G2 Z ow h q.2/\Keep' ow os ow q.2/\VR Z ow h q.2 x q.1:=fun q e=>by subst e;exact⟨s,.refl _ _,a⟩
 unfold X9;split
 . split
   . rename_i sz _
     rw[a.isN];exact uM s sz
   grind
 grind
theorem Kj:∀(ys xs rs:List AV)(os:List PO),G2 Z ow h os->VL Z ow h os xs ys->G2 Z ow h (N0 ys rs os).2/\Keep' ow os ow (N0 ys rs os).2/\VL Z ow h (N0 ys rs os).2 xs (N0 ys rs os).1
 |[],xs,rs,os,s,l=>⟨s,.refl _ _,l⟩
 |c::cs,xs,[],os,s,l=>⟨s,.refl _ _,l⟩
 |c::cs,[],r::rs,os,s,l=>by cases l.1
 |c::cs,x::xs,r::rs,os,s,l=>by
  obtain⟨B,C⟩:=l.inv;obtain⟨D,a2,a3⟩:=uN s B r;obtain⟨G,A,H⟩:=Kj cs xs rs (X9 c r os).2 D (C.keep (fun _ hz=>⟨hz,rfl⟩) a2);exact⟨G,a2.trans A,.cons (a3.keep (fun _ hz=>⟨hz,rfl⟩) A) H⟩
theorem Qf:∀(ys rs:List AV)(os:List PO),(N0 ys rs os).1.length=ys.length
 |[],rs,os=>rfl
 |c::cs,[],os=>rfl
 |c::cs,r::rs,os=>congrArg (· + 1) (Qf cs rs _)
theorem uO(s:G2 Z ow h os)(a:VR Z ow h os x y)(r:AV):G2 Z ow h (m6 y r os).2/\Keep' ow os ow (m6 y r os).2/\VR Z ow h (m6 y r os).2 x (m6 y r os).1:=by
 unfold m6;cases B:isAg y with
 |true=>
  cases y<;>first|(cases B;done)|skip
  obtain⟨xs,rfl,l⟩:=a.agI;obtain⟨C,D,A⟩:=Kj _ xs r.cells os s l;exact⟨C,D,.agL A⟩
 |false=>
  obtain⟨C,D,A⟩:=Kj y.cells [x] r.cells os s (by rw[C8 B];exact .cons a .nil);refine⟨C,D,?_⟩;have hl:=Qf y.cells r.cells os;rw[C8 B]at hl A|-;obtain⟨c,hc⟩:=zka.1 hl
  have:N7 y (N0 [y] r.cells os).1=c:=by
   rw[hc];cases y<;>first|rfl|cases B
  rw[this];rw[hc]at A;exact A.inv.1
theorem aY:∀(ys xs rs:List AV)(os:List PO),G2 Z ow h os->VL Z ow h os xs ys->G2 Z ow h (U0 ys rs os).2/\Keep' ow os ow (U0 ys rs os).2/\VL Z ow h (U0 ys rs os).2 xs (U0 ys rs os).1
 |[],xs,rs,os,s,l=>⟨s,.refl _ _,l⟩
 |c::cs,xs,[],os,s,l=>⟨s,.refl _ _,l⟩
 |c::cs,[],r::rs,os,s,l=>by cases l.1
 |c::cs,x::xs,r::rs,os,s,l=>by
  obtain⟨B,C⟩:=l.inv;obtain⟨D,a2,a3⟩:=uO s B r;obtain⟨G,A,H⟩:=aY cs xs rs (m6 c r os).2 D (C.keep (fun _ hz=>⟨hz,rfl⟩) a2);exact⟨G,a2.trans A,.cons (a3.keep (fun _ hz=>⟨hz,rfl⟩) A) H⟩
theorem EN(s:G2 Z ow h os){A vs rs:List AV}(l:VL Z ow h os A vs)(b:backOk vs rs os):∃ow',G2 Z ow' h (openTs 0 rs).2/\VL Z ow' h (openTs 0 rs).2 A (openTs 0 rs).1/\∀id L,ow' id=zsq L->ow id≠znq:=by
 obtain⟨B,a2,a3⟩:=aY vs A rs os s l;obtain⟨c1,c2⟩:=Wu B b.nd (f:=id) (fun e=>.inl rfl) (os':=(openTs 0 rs).2) b.ol.symm;refine⟨_,c1,?_,fun d M hd e=>?_⟩
 . rw[<-b.vl];exact a3.ren (fun _ hz=>⟨hz,rfl⟩) c2
 grind[D7]
def K0:PK:=⟨[],0,[]⟩
theorem SD(hb:∀id,Z id->id<h.next):G2 Z (fun _=>znq) h [] where
 row r es sz hr:=by simp at hr
 raw r k es sz hr:=by simp at hr
 map r es hr:=by simp at hr
 inj a b L ha:=by cases ha
 live a L ha:=by cases ha
 zb:=hb
 sb j p i o hj:=by simp at hj
def refine1(y:AV):List AV:=match y with | .fsl [] zt=>[.nilsl,.fsl [] zf]|y=>[y]
theorem Fz.refine(f:Fz Z h x y):∃C∈refine1 y,Fz Z h x C:=by
 have same:∀{y:AV},refine1 y=[y]->Fz Z h x y->∃C∈refine1 y,Fz Z h x C:=(by grind)
 cases f with
 |emp e=>
  cases e with
  |nil=>exact⟨.nilsl,.head _,.nilsl⟩
  |fsl=>exact⟨.fsl [] zf,.tail _ (.head _),.fsl rfl (fun i x y I=>by simp at I) rfl⟩
 |fsl h1 A B=>
  rename_i es es' f f';cases es' with
  | nil=>cases f' with
   |true=>exact⟨.fsl [] zf,.tail _ (.head _),.fsl h1 A B⟩
   |false=>exact same rfl (.fsl h1 A B)
  |cons=>exact same rfl (.fsl h1 A B)
 |view h1 A B D G H=>
  rename_i id off n sz row es' f';cases es' with
  | nil=>cases f' with
   |true=>exact⟨.fsl [] zf,.tail _ (.head _),.view h1 A B D G H⟩
   |false=>exact same rfl (.view h1 A B D G H)
  |cons=>exact same rfl (.view h1 A B D G H)
 |int k n=>exact same rfl (.int k n)
 |bool b=>exact same rfl (.bool b)
 |str b=>exact same rfl (.str b)
 |nilsl=>exact same rfl .nilsl
 |nilptr=>exact same rfl .nilptr
 |nilmap=>exact same rfl .nilmap
 |nilfn=>exact same rfl .nilfn
 |niliface=>exact same rfl .niliface
 |agg h1 A B=>exact same rfl (.agg h1 A B)
 |fptr o f=>exact same rfl (.fptr o f)
 |pview h1 A B f=>exact same rfl (.pview h1 A B f)
def Comes(P:PE)(f:Nat)(args rs:List AV):Prop:=∃vs K1,evP P (.body f args K0)=zsq (.val vs K1)/\backOk vs rs K1.os
theorem Gi(D:PEok P){f:Nat}{args rs:List AV}(H:Comes P f args rs){xs:List AV}(hl:xs.length=args.length)(hz:∀(i:Nat) x y,xs[i]?=zsq x->args[i]?=zsq y->Fz Z h x y)(hb:∀id,Z id->id<h.next):
 ∃(A:List AV)(h1:Heap)(Z1:Nat->Prop)(ow1:Nat->Option (List Nat)),callω P.E f xs h=.ok (oneOrTup A) h1/\G2 Z1 ow1 h1 (openTs 0 rs).2/\VL Z1 ow1 h1 (openTs 0 rs).2 A (openTs 0 rs).1/\
 h.next<=h1.next/\(∀id,Z id->Z1 id/\h1.get id=h.get id)/\(∀id,Z1 id->Z id\/h.next<=id)/\(∀id,id<h.next->h1.get id=h.get id)/\(∀id L,ow1 id=zsq L->h.next<=id)/\∃l,h1.tch=l++h.tch/\∀id∈l,h.next<=id:=by
 obtain⟨vs,K1,e,J⟩:=H;obtain⟨Z',ow',h',A,e1,N,B,Q,_,_⟩:=SC D _ _ e Z (fun _=>znq) h xs (SD hb) (zke _) ⟨hl,fun i x y G I=>.fz (hz i x y G I)⟩;obtain⟨ow2,c1,c2,c3⟩:=EN N Q J;refine⟨A,h',Z',ow2,e1,c1,c2,B.nx,B.zz,B.zn,fun id hl=>B.un id hl rfl,fun id L ho=>?_,?_⟩
 . by_cases C:id<h.next
   . cases e2:ow' id with
     |none=>grind
     |some M=>exact absurd rfl (B.uo id M e2 C)
   . omega
 . obtain⟨l,q1,q2⟩:=B.th
   grind
theorem GX(A:PEok P){f:Nat}{g:List AV->Option (List AV)}(H:∀args rs,g args=zsq rs->Comes P f args rs):TC P.E f g:=
 fun args rs hg Z h xs hl hz hb=>Gi A (H args rs hg) hl hz hb
theorem AT(B:PEok P){f:Nat}{g:List AV->Option (List AV)}(H:∀a args rs,g (a::args)=zsq rs->∀A∈refine1 a,Comes P f (A::args) rs)(H0:g []=znq):TC P.E f g:=by
 intro args rs hg Z h xs hl hz hb;cases args with
 |nil=>grind
 |cons a args=>
  cases xs with
  |nil=>cases hl
  |cons x xs=>
   obtain⟨A,h1,h2⟩:=(hz 0 x a rfl rfl).refine;refine Gi B (H a args rs hg A h1) hl (fun i u w hu hw=>?_) hb;grind
end
noncomputable section
variable {E:Env}{T:Nat->Option (List AV->Option (List AV))}{F:Nat->Option PFn}{fr:PF}{K K':PK}{v:AV}{vs:List AV}
def uP(P:PE)(b:PC)(r:Option PR):Option PR:=match r with
 |some (.ok .normal fr K)=>evP P (.code b fr K)
 |some (.val _ _)=>znq
 |some (.itr _ _ _ _)=>znq
 |r=>r
theorem seqP_normal(P:PE)(b:PC):uP P b (zsq (.ok .normal fr K))=evP P (.code b fr K):=rfl
theorem seqP_exit(P:PE)(b:PC)(i:Nat):uP P b (zsq (.ok (.exit i) fr K))=zsq (.ok (.exit i) fr K):=rfl
theorem seqP_ret(P:PE)(b:PC):uP P b (zsq (.ok .ret fr K))=zsq (.ok .ret fr K):=rfl
theorem seqP_pan(P:PE)(b:PC):uP P b (zsq (.pan v K))=zsq (.pan v K):=rfl
theorem e_seq(P:PE)(a b:PC):evP P (.code (.seq a b) fr K)=uP P b (evP P (.code a fr K)):=by
 rw[evP,evG];cases evP P (.code a fr K)with
 |none=>rfl
 | some r=>cases r with
  |ok e fr K=>cases e<;>rfl
  |_=>rfl
theorem e_skip(P:PE):evP P (.code .skip fr K)=zsq (.ok .normal fr K):=by rw[evP,evG]
theorem e_exit(P:PE)(i:Nat):evP P (.code (.exit i) fr K)=zsq (.ok (.exit i) fr K):=by rw[evP,evG]
theorem e_ret(P:PE):evP P (.code .ret fr K)=zsq (.ok .ret fr K):=by rw[evP,evG]
theorem e_reg(P:PE)(l:List XOp):evP P (.code (.reg zf l) fr K)=evP P (.ops l fr K):=by rw[evP,evG]
theorem e_regD(P:PE)(l:List XOp):evP P (.code (.reg zt l) fr K)=evP P (.opsD l fr K):=by rw[evP,evG]
theorem e_pre(P:PE)(k:List Nat)(c:PC):evP P (.code (.pre k c) fr K)=evP P (.code c (J7 k fr K).1 (J7 k fr K).2):=by rw[evP,evG]
def AU(P:PE)(a b:PC)(x:AV)(fr:PF)(K:PK):Option PR:=match x with | .bool zt=>evP P (.code a fr K) | .bool zf=>evP P (.code b fr K)|_=>znq
theorem e_cond(P:PE)(c:Operand)(a b:PC):evP P (.code (.cond c a b) fr K)=AU P a b (opvP P.E c fr) fr K:=by rw[evP,evG];rfl
theorem condP_true(P:PE)(a b:PC):AU P a b (.bool zt) fr K=evP P (.code a fr K):=rfl
theorem condP_false(P:PE)(a b:PC):AU P a b (.bool zf) fr K=evP P (.code b fr K):=rfl
def AW(i:Nat)(r:Option PR):Option PR:=match r with
 |some (.ok (.exit j) fr K)=>if j=i then zsq (.ok .normal fr K)else zsq (.ok (.exit j) fr K)
 |some (.val _ _)=>znq
 |some (.itr _ _ _ _)=>znq
 |r=>r
theorem blkP_normal(i:Nat):AW i (zsq (.ok .normal fr K))=zsq (.ok .normal fr K):=rfl
theorem blkP_exit(i j:Nat):AW i (zsq (.ok (.exit j) fr K))=if j=i then zsq (.ok .normal fr K)else zsq (.ok (.exit j) fr K):=rfl
theorem blkP_ret(i:Nat):AW i (zsq (.ok .ret fr K))=zsq (.ok .ret fr K):=rfl
theorem blkP_pan(i:Nat):AW i (zsq (.pan v K))=zsq (.pan v K):=rfl
theorem e_block(P:PE)(i:Nat)(c:PC):evP P (.code (.block i c) fr K)=AW i (evP P (.code c fr K)):=by
 rw[evP,evG];cases evP P (.code c fr K)with
 |none=>rfl
 | some r=>cases r with
  |ok e fr K=>cases e<;>rfl
  |_=>rfl
def kN(k:List Nat)(r:Option PR):Option PR:=match r with
 |some (.ok .normal fr K)=>zsq (.ok .normal (J7 k fr K).1 (J7 k fr K).2)
 |some (.val _ _)=>znq
 |some (.itr _ _ _ _)=>znq
 |some (.pan v K)=>zsq (.pan (lookP (J7 [0] [(0,v)] K).1 0) (J7 [0] [(0,v)] K).2)
 |r=>r
theorem postP_normal(k:List Nat):kN k (zsq (.ok .normal fr K))=zsq (.ok .normal (J7 k fr K).1 (J7 k fr K).2):=rfl
theorem postP_exit(k:List Nat)(i:Nat):kN k (zsq (.ok (.exit i) fr K))=zsq (.ok (.exit i) fr K):=rfl
theorem postP_ret(k:List Nat):kN k (zsq (.ok .ret fr K))=zsq (.ok .ret fr K):=rfl
theorem postP_pan(k:List Nat):kN k (zsq (.pan v K))=zsq (.pan (lookP (J7 [0] [(0,v)] K).1 0) (J7 [0] [(0,v)] K).2):=rfl
theorem e_post(P:PE)(k:List Nat)(c:PC):evP P (.code (.post k c) fr K)=kN k (evP P (.code c fr K)):=by
 rw[evP,evG];cases evP P (.code c fr K)with
 |none=>rfl
 | some r=>cases r with
  |ok e fr K=>cases e<;>rfl
  |_=>rfl
theorem eM(P:PE)(c:PC):evP P (.code (.loop c) fr K)=uP P (.loop c) (evP P (.code c fr K)):=by
 rw[evP,evG];cases evP P (.code c fr K)with
 |none=>rfl
 | some r=>cases r with
  |ok e fr K=>cases e<;>rfl
  |_=>rfl
theorem loop_more{P:PE}{c:PC}{fr':PF}{K':PK}(h:evP P (.code c fr K)=zsq (.ok .normal fr' K')):evP P (.code (.loop c) fr K)=evP P (.code (.loop c) fr' K'):=by rw[eM,h];rfl
theorem E3{P:PE}{c:PC}{i:Nat}{fr':PF}{K':PK}(h:evP P (.code c fr K)=zsq (.ok (.exit i) fr' K')):evP P (.code (.loop c) fr K)=zsq (.ok (.exit i) fr' K'):=by rw[eM,h];rfl
theorem Cp{P:PE}{c:PC}{fr':PF}{K':PK}(h:evP P (.code c fr K)=zsq (.ok .ret fr' K')):evP P (.code (.loop c) fr K)=zsq (.ok .ret fr' K'):=by rw[eM,h];rfl
def kO(P:PE)(d:Option Tmp)(l:List XOp)(fr:PF)(r:Option PR):Option PR:=match r with
 |some (.val vs K)=>evP P (.ops l (setP d (oneOrTup vs) fr) K)
 |some (.pan v K)=>zsq (.pan v K)
 |_=>znq
def LO(P:PE)(d:Option Tmp)(l:List XOp)(fr:PF)(K:PK)(o:OpS):Option PR:=match o with
 |.val v K=>evP P (.ops l (setP d v fr) K)
 |.call f args=>kO P d l fr (evP P (.call f args K))
 |.pan v=>zsq (.pan v K)
 | .bad=>znq
theorem callK_val(P:PE)(d:Option Tmp)(l:List XOp):kO P d l fr (zsq (.val vs K))=evP P (.ops l (setP d (oneOrTup vs) fr) K):=rfl
theorem callK_pan(P:PE)(d:Option Tmp)(l:List XOp):kO P d l fr (zsq (.pan v K))=zsq (.pan v K):=rfl
theorem doP_val(P:PE)(d:Option Tmp)(l:List XOp):LO P d l fr K (.val v K')=evP P (.ops l (setP d v fr) K'):=rfl
theorem doP_call(P:PE)(d:Option Tmp)(l:List XOp)(f:Nat)(args:List AV):LO P d l fr K (.call f args)=kO P d l fr (evP P (.call f args K)):=rfl
theorem doP_pan(P:PE)(d:Option Tmp)(l:List XOp):LO P d l fr K (.pan v)=zsq (.pan v K):=rfl
theorem e_nil(P:PE):evP P (.ops [] fr K)=zsq (.ok .normal fr K):=by rw[evP,evG]
theorem nV(P:PE)(o:XOp)(l:List XOp){b:Bool}(hg:guardP o.gd fr=zsq b):evP P (.ops (o::l) fr K)=bif b then LO P o.dst l fr K (prim P.E o.op fr K)else evP P (.ops l (setP o.dst skipped fr) K):=by
 rw[evP,evG,hg];cases b with
 |false=>rfl
 |true=>
  dsimp only[cond_true];cases prim P.E o.op fr K with
  |call f args=>
   show _=kO P o.dst l fr (evP P (.call f args K))
   dsimp only;cases evP P (.call f args K)with
   |none=>rfl
   |some r=>cases r<;>rfl
  |_=>rfl
theorem e_op(d:Option Tmp)(op:Op)(q:Bool)(s:List Bool)(c:Bool)(l:List XOp):evP ⟨E,T,F⟩ (.ops (⟨d,op,znq,q,s,c⟩::l) fr K)=LO ⟨E,T,F⟩ d l fr K (prim E op fr K):=nV (fr:=fr) (K:=K) (b:=zt) ⟨E,T,F⟩ ⟨d,op,znq,q,s,c⟩ l rfl
theorem e_opS{d:Option Tmp}{op:Op}{t:Tmp}{w q:Bool}{s:List Bool}{c:Bool}{l:List XOp}(hg:j8 w (lookP fr t)=zsq zf):evP ⟨E,T,F⟩ (.ops (⟨d,op,zsq (zsq t,w),q,s,c⟩::l) fr K)=evP ⟨E,T,F⟩ (.ops l (setP d skipped fr) K):=nV (fr:=fr) (K:=K) (b:=zf) ⟨E,T,F⟩ ⟨d,op,zsq (zsq t,w),q,s,c⟩ l hg
theorem e_opY{d:Option Tmp}{op:Op}{t:Tmp}{w q:Bool}{s:List Bool}{c:Bool}{l:List XOp}(hg:j8 w (lookP fr t)=zsq zt):evP ⟨E,T,F⟩ (.ops (⟨d,op,zsq (zsq t,w),q,s,c⟩::l) fr K)=LO ⟨E,T,F⟩ d l fr K (prim E op fr K):=nV (fr:=fr) (K:=K) (b:=zt) ⟨E,T,F⟩ ⟨d,op,zsq (zsq t,w),q,s,c⟩ l hg
def Az(P:PE)(d:Option Tmp)(s:List Bool)(l:List XOp)(fr:PF)(K:PK)(r:Option PR):Option PR:=match r with
 |some (.val vs K)=>evP P (.opsD l (setP d (oneOrTup vs) fr) K)
 |some (.pan v K1)=>if j1 P.E l s (setP d skipped fr) K=zt then zsq (.pan v K1)else znq
 |_=>znq
def SE(P:PE)(d:Option Tmp)(s:List Bool)(l:List XOp)(fr:PF)(K:PK)(o:OpS):Option PR:=match o with
 |.val v K=>evP P (.opsD l (setP d v fr) K)
 |.call f args=>Az P d s l fr K (evP P (.call f args K))
 |.pan v=>if j1 P.E l s (setP d skipped fr) K=zt then zsq (.pan v K)else znq
 | .bad=>znq
def aZ(P:PE)(d:Option Tmp)(s:List Bool)(l:List XOp)(fr:PF)(K:PK)(r:Option PR):Option PR:=match r with
 |some (.pan v K1)=>if j1 P.E l s (setP d skipped fr) K=zt then zsq (.pan v {K1 with tch:=K1.tch++K.tch})else znq
 |some (.val vs K1)=>if r8 K.os.length l K1=zt then evP P (.opsD l (setP d (oneOrTup vs) fr) {K1 with tch:=K1.tch++K.tch})else evP P (.opsS [⟨K.os,0,K1.tch⟩] l (setP d (oneOrTup vs) fr) {K1 with tch:=K1.tch++K.tch})
 |_=>znq
def LP(P:PE)(d:Option Tmp)(s:List Bool)(l:List XOp)(fr:PF)(K:PK)(o:OpS):Option PR:=match o with
 |.val v K1=>if r8 K.os.length l K1=zt then evP P (.opsD l (setP d v fr) {K1 with tch:=K1.tch++K.tch})else evP P (.opsS [⟨K.os,0,K1.tch⟩] l (setP d v fr) {K1 with tch:=K1.tch++K.tch})
 |.call f args=>aZ P d s l fr K (evP P (.call f args {K with tch:=[]}))
 |_=>znq
theorem callD_val(P:PE)(d:Option Tmp)(s:List Bool)(l:List XOp):Az P d s l fr K' (zsq (.val vs K))=evP P (.opsD l (setP d (oneOrTup vs) fr) K):=rfl
theorem callD_pan(P:PE)(d:Option Tmp){s:List Bool}{l:List XOp}(h:j1 P.E l s (setP d skipped fr) K=zt):Az P d s l fr K (zsq (.pan v K'))=zsq (.pan v K'):=if_pos h
theorem callQ_pan(P:PE)(d:Option Tmp){s:List Bool}{l:List XOp}(h:j1 P.E l s (setP d skipped fr) K=zt):aZ P d s l fr K (zsq (.pan v K'))=zsq (.pan v ⟨K'.os,K'.ext,K'.tch++K.tch⟩):=if_pos h
def doV(d:Option Tmp)(s:List Bool)(l:List XOp)(fr:PF)(o:OpS):Bool:=match o with | .val v K=>j1 E l s (setP d v fr) K|_=>zf
theorem v_nil(s:List Bool):j1 E [] s fr K=zt:=by cases s<;>rfl
theorem v_late(o:XOp)(l:List XOp)(s:List Bool):j1 E (o::l) (zt::s) fr K=j1 E l s (setP o.dst skipped fr) K:=rfl
theorem v_op(d:Option Tmp)(op:Op)(s t:List Bool)(c:Bool)(l:List XOp):j1 E (⟨d,op,znq,zf,t,c⟩::l) (zf::s) fr K=doV (E:=E) d s l fr (prim E op fr K):=by
 show(!zf&&_)=_
 grind[doV]
theorem doV_val(d:Option Tmp)(s:List Bool)(l:List XOp):doV (E:=E) d s l fr (.val v K)=j1 E l s (setP d v fr) K:=rfl
theorem doD_val(P:PE)(d:Option Tmp)(s:List Bool)(l:List XOp):SE P d s l fr K (.val v K')=evP P (.opsD l (setP d v fr) K'):=rfl
theorem doD_call(P:PE)(d:Option Tmp)(s:List Bool)(l:List XOp)(f:Nat)(args:List AV):SE P d s l fr K (.call f args)=Az P d s l fr K (evP P (.call f args K)):=rfl
theorem callQ_val(P:PE)(d:Option Tmp)(s:List Bool)(l:List XOp)(A:r8 K.os.length l K'=zt):aZ P d s l fr K (zsq (.val vs K'))=evP P (.opsD l (setP d (oneOrTup vs) fr) {K' with tch:=K'.tch++K.tch}):=if_pos A
theorem doQ_val(P:PE)(d:Option Tmp)(s:List Bool)(l:List XOp)(A:r8 K.os.length l K'=zt):LP P d s l fr K (.val v K')=evP P (.opsD l (setP d v fr) {K' with tch:=K'.tch++K.tch}):=if_pos A
theorem doQ_sep(P:PE)(d:Option Tmp)(s:List Bool)(l:List XOp)(h:r8 K.os.length l K'=zf):LP P d s l fr K (.val v K')=evP P (.opsS [⟨K.os,0,K'.tch⟩] l (setP d v fr) {K' with tch:=K'.tch++K.tch}):=if_neg (by grind)
theorem callQ_sep(P:PE)(d:Option Tmp)(s:List Bool)(l:List XOp)(h:r8 K.os.length l K'=zf):aZ P d s l fr K (zsq (.val vs K'))=evP P (.opsS [⟨K.os,0,K'.tch⟩] l (setP d (oneOrTup vs) fr) {K' with tch:=K'.tch++K.tch}):=if_neg (by grind)
def GY(P:PE)(S:List PK)(d:Option Tmp)(l:List XOp)(fr:PF)(r:Option PR):Option PR:=match r with
 |some (.val vs K)=>evP P (.opsS S l (setP d (oneOrTup vs) fr) K)
 |_=>znq
def VA(P:PE)(S:List PK)(d:Option Tmp)(l:List XOp)(fr:PF)(o:OpS)(K:PK):Option PR:=match o with
 |.val v K=>evP P (.opsS S l (setP d v fr) K)
 |.call f args=>GY P S d l fr (evP P (.call f args K))
 |_=>znq
theorem doS_val(P:PE)(S:List PK)(d:Option Tmp)(l:List XOp):VA P S d l fr (.val v K') K=evP P (.opsS S l (setP d v fr) K'):=rfl
theorem s_nil(P:PE)(S:List PK):evP P (.opsS S [] fr K)=zsq (.ok .normal fr K):=by rw[evP,evG]
theorem GZ(S:List PK)(d:Option Tmp)(op:Op)(s:List Bool)(l:List XOp){c:Bool}(h:eD E S K fr ⟨d,op,znq,zf,s,c⟩=zt):evP ⟨E,T,F⟩ (.opsS S (⟨d,op,znq,zf,s,c⟩::l) fr K)=VA ⟨E,T,F⟩ S d l fr (prim E op fr K) K:=by
 rw[evP,evG];show(if eD E S K fr ⟨d,op,znq,zf,s,c⟩=zt then _ else znq)=_
 rw[if_pos h];dsimp only;cases prim E op fr K with
 |call f args=>
  show _=GY ⟨E,T,F⟩ S d l fr (evP ⟨E,T,F⟩ (.call f args K))
  dsimp only;cases evP ⟨E,T,F⟩ (.call f args K)with
  |none=>rfl
  |some r=>cases r<;>rfl
 |_=>rfl
theorem s_op(S:List PK)(d:Option Tmp)(op:Op)(s:List Bool)(l:List XOp):evP ⟨E,T,F⟩ (.opsS S (⟨d,op,znq,zf,s,zf⟩::l) fr K)=VA ⟨E,T,F⟩ S d l fr (prim E op fr K) K:=GZ S d op s l (zqf.2 fun _ _=>rfl)
def eN(os:List PO)(S:List PK)(v:AV):Bool:=S.all fun s=>jT os s v
theorem cvs_nil{os:List PO}{v:AV}:eN os [] v=zt:=rfl
theorem cvs_cons{os:List PO}{s:PK}{S:List PK}{v:AV}:eN os (s::S) v=(jT os s v&&eN os S v):=rfl
theorem s_ld(S:List PK)(d:Option Tmp)(t:Nat)(a:Operand)(s:List Bool)(l:List XOp)(h:eN K.os S (opvP E a fr)=zt):evP ⟨E,T,F⟩ (.opsS S (⟨d,.load t a,znq,zf,s,zt⟩::l) fr K)=VA ⟨E,T,F⟩ S d l fr (prim E (.load t a) fr K) K:=GZ S d _ s l h
theorem cv_ptr{os:List PO}{S:PK}{id i off:Nat}:jT os S (.ptr id i off)=(GS S.os id&&(!S.tch.contains id&&GS os id)):=rfl
theorem doQ_call(P:PE)(d:Option Tmp)(s:List Bool)(l:List XOp)(f:Nat)(args:List AV):LP P d s l fr K (.call f args)=aZ P d s l fr K (evP P (.call f args {K with tch:=[]})):=rfl
theorem e_nilD(P:PE):evP P (.opsD [] fr K)=zsq (.ok .normal fr K):=by rw[evP,evG]
theorem Nd(P:PE)(o:XOp)(l:List XOp){b:Bool}(hg:guardP o.gd fr=zsq b):evP P (.opsD (o::l) fr K)=bif b then(bif o.quiet then LP P o.dst o.late l fr K (prim P.E o.op fr {K with tch:=[]})else SE P o.dst o.late l fr K (prim P.E o.op fr K))else evP P (.opsD l (setP o.dst skipped fr) K):=by
 rw[evP,evG,hg];cases b with
 |false=>rfl
 |true=>
  dsimp only[cond_true];cases o.quiet with
  |true=>
   dsimp only[cond_true,cond_false];cases prim P.E o.op fr {K with tch:=[]}with
   |call f args=>
    show _=aZ P o.dst o.late l fr K (evP P (.call f args {K with tch:=[]}))
    dsimp only;cases evP P (.call f args {K with tch:=[]})with
    |none=>rfl
    |some r=>cases r<;>rfl
   |_=>rfl
  |false=>
   dsimp only[cond_true,cond_false];cases prim P.E o.op fr K with
   |call f args=>
    show _=Az P o.dst o.late l fr K (evP P (.call f args K))
    dsimp only;cases evP P (.call f args K)with
    |none=>rfl
    |some r=>cases r<;>rfl
   |_=>rfl
theorem d_op(d:Option Tmp)(op:Op)(s:List Bool)(c:Bool)(l:List XOp):evP ⟨E,T,F⟩ (.opsD (⟨d,op,znq,zf,s,c⟩::l) fr K)=SE ⟨E,T,F⟩ d s l fr K (prim E op fr K):=Nd (fr:=fr) (K:=K) (b:=zt) ⟨E,T,F⟩ ⟨d,op,znq,zf,s,c⟩ l rfl
theorem d_opQ(d:Option Tmp)(op:Op)(s:List Bool)(c:Bool)(l:List XOp):evP ⟨E,T,F⟩ (.opsD (⟨d,op,znq,zt,s,c⟩::l) fr K)=LP ⟨E,T,F⟩ d s l fr K (prim E op fr ⟨K.os,K.ext,[]⟩):=Nd (fr:=fr) (K:=K) (b:=zt) ⟨E,T,F⟩ ⟨d,op,znq,zt,s,c⟩ l rfl
theorem d_opS{d:Option Tmp}{op:Op}{t:Tmp}{w q:Bool}{s:List Bool}{c:Bool}{l:List XOp}(hg:j8 w (lookP fr t)=zsq zf):evP ⟨E,T,F⟩ (.opsD (⟨d,op,zsq (zsq t,w),q,s,c⟩::l) fr K)=evP ⟨E,T,F⟩ (.opsD l (setP d skipped fr) K):=Nd (fr:=fr) (K:=K) (b:=zf) ⟨E,T,F⟩ ⟨d,op,zsq (zsq t,w),q,s,c⟩ l hg
theorem d_opY{d:Option Tmp}{op:Op}{t:Tmp}{w:Bool}{s:List Bool}{c:Bool}{l:List XOp}(hg:j8 w (lookP fr t)=zsq zt):evP ⟨E,T,F⟩ (.opsD (⟨d,op,zsq (zsq t,w),zf,s,c⟩::l) fr K)=SE ⟨E,T,F⟩ d s l fr K (prim E op fr K):=Nd (fr:=fr) (K:=K) (b:=zt) ⟨E,T,F⟩ ⟨d,op,zsq (zsq t,w),zf,s,c⟩ l hg
theorem d_opYQ{d:Option Tmp}{op:Op}{t:Tmp}{w:Bool}{s:List Bool}{c:Bool}{l:List XOp}(hg:j8 w (lookP fr t)=zsq zt):evP ⟨E,T,F⟩ (.opsD (⟨d,op,zsq (zsq t,w),zt,s,c⟩::l) fr K)=LP ⟨E,T,F⟩ d s l fr K (prim E op fr ⟨K.os,K.ext,[]⟩):=Nd (fr:=fr) (K:=K) (b:=zt) ⟨E,T,F⟩ ⟨d,op,zsq (zsq t,w),zt,s,c⟩ l hg
def Xe(E:Env)(rs:List ResultVar)(r:Option PR):Option PR:=match r with
 |some (.ok .normal fr K)=>(match resP E rs fr K with|some (vs,K)=>zsq (.val vs K)|none=>znq)
 |some (.ok .ret fr K)=>(match resP E rs fr K with|some (vs,K)=>zsq (.val vs K)|none=>znq)
 |some (.pan v K)=>zsq (.pan v K)
 |_=>znq
theorem A4{f:Nat}{args:List AV}{c:PC}{nt:Nat}{rs:List ResultVar}{b:Bool}(hf:F f=zsq ⟨c,nt,rs,b⟩)(hn:args.length<=nt)(A:bodyJ c=PJ.code c:=by rfl):evP ⟨E,T,F⟩ (.body f args K)=Xe E rs (evP ⟨E,T,F⟩ (.code c (enterP 0 args) K)):=by
 rw[evP,evG];show(match F f with|some p=>_|none=>_)=_
 rw[hf];dsimp only;rw[if_pos hn,A];cases evP ⟨E,T,F⟩ (.code c (enterP 0 args) K)with
 |none=>rfl
 | some r=>cases r with
  |ok e fr K=>cases e<;>rfl
  |_=>rfl
theorem rB{f:Nat}{args:List AV}{x:XC}{a c:PC}{g:Operand}{nt:Nat}{rs:List ResultVar}{b:Bool}(hf:F f=zsq ⟨.dfr x a g c,nt,rs,b⟩)(hn:args.length<=nt):evP ⟨E,T,F⟩ (.body f args K)=Xe E rs (evP ⟨E,T,F⟩ (.dfc a g c (enterP 0 args) K)):=by
 conv=>lhs;rw[evP,evG]
 show(match F f with|some p=>_|none=>_)=_
 rw[hf];dsimp only;rw[if_pos hn];show _=Xe E rs (evP ⟨E,T,F⟩ (bodyJ (.dfr x a g c) (enterP 0 args) K))
 cases evP ⟨E,T,F⟩ (bodyJ (.dfr x a g c) (enterP 0 args) K)with
 |none=>rfl
 | some r=>cases r with
  |ok e fr K=>cases e<;>rfl
  |_=>rfl
variable {fr1 fr2 fr3:PF}{K1 K2 K3:PK}{P:PE}
theorem SF{a c:PC}{g:Operand}(h1:evP P (.code a fr K)=zsq (.ok .normal fr1 K1))(A:evP P (.code c fr1 ⟨K1.os,K1.os.length,[]⟩)=zsq (.ok .ret fr2 K2))(B:evP P (.rcv (opvP P.E g fr1) .niliface ⟨K2.os,K2.os.length,[]⟩)=zsq (.ok .normal fr3 K3)):
 evP P (.dfc a g c fr K)=zsq (.ok .ret fr2 ⟨K3.os,K1.ext,K3.tch++(K2.tch++K1.tch)⟩):=by
 rw[evP,evG,h1];show(evP P (.code c fr1 ⟨K1.os,K1.os.length,[]⟩) >>= _)=_
 rw[A];show(evP P (.rcv (opvP P.E g fr1) .niliface ⟨K2.os,K2.os.length,[]⟩) >>= _)=_
 rw[B];rfl
theorem KS{a c:PC}{g:Operand}(h1:evP P (.code a fr K)=zsq (.ok .normal fr1 K1))(A:evP P (.code c fr1 ⟨K1.os,K1.os.length,[]⟩)=zsq (.pan v K2))(B:evP P (.rcv (opvP P.E g fr1) v ⟨K2.os,K2.os.length,[]⟩)=zsq (.ok .normal fr3 K3)):
 evP P (.dfc a g c fr K)=zsq (.ok .ret fr1 ⟨K3.os,K1.ext,K3.tch++(K2.tch++K1.tch)⟩):=by
 rw[evP,evG,h1];show(evP P (.code c fr1 ⟨K1.os,K1.os.length,[]⟩) >>= _)=_
 rw[A];show(evP P (.rcv (opvP P.E g fr1) v ⟨K2.os,K2.os.length,[]⟩) >>= _)=_
 rw[B];rfl
theorem HA{n:Nat}{caps:List AV}{x:XC}{d d2:Tmp}{c:PC}{nt:Nat}{b:Bool}(hf:F n=zsq ⟨.rcv x d d2 c,nt,[],b⟩)(hn:caps.length<=nt)(h:evP ⟨E,T,F⟩ (.code c (setPs' [d,d2] [v,v] (enterP 0 caps)) K)=zsq (.ok .normal fr K')):evP ⟨E,T,F⟩ (.rcv (.fn (.func n) [] caps) v K)=zsq (.ok .normal fr K'):=by
 rw[evP,evG];show(match rcOf (F n)with|some (nt,d,d2,c)=>_|none=>_)=_
 rw[hf];show(if caps.length<=nt then _ else _)=_
 rw[if_pos hn,h];rfl
theorem B8{f:Nat}{args:List AV}{g:List AV->Option (List AV)}{as1 rs:List AV}(B:T f=zsq g)(C:viewAs K.os args=zsq as1)(hg:g as1=zsq rs)(A:(okRs rs&&((G9 args).isEmpty||noFL rs))=zt):evP ⟨E,T,F⟩ (.call f args K)=zsq (.val (openTs K.os.length rs).1 ⟨K.os++(openTs K.os.length rs).2,K.ext,K.tch⟩):=by
 rw[evP,evG];show(match T f with|some g=>_|none=>_)=_
 rw[B];dsimp only;unfold tcall viewX;rw[C];dsimp only;rw[hg];dsimp only;rw[if_pos A]
end
end Go.AM
