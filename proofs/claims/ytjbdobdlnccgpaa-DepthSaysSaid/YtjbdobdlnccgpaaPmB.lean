/- The tree machine: code as trees, memory by kept numbers, and that it says what the machine does. Conditions: none. -/
import Derived.Test.YtjbdobdlnccgpaaPmA
set_option linter.unusedVariables false
set_option linter.unusedSimpArgs false
set_option linter.unusedSectionVars false
set_option linter.defProp false
set_option maxHeartbeats 4000000
open Option renaming some→zsq,none→znq
open Bool renaming true→zt,false→zf
open List renaming mem_of_getElem?→zqa,getElem?_eq_some_iff→zqb,getElem?_eq_getElem→zqc,replicate→zqd,getElem?_of_mem→zqe,all_eq_true→zqf,getElem?_map→zqg,mem_cons_self→zqh,mem_cons→zqi,eq_nil_of_length_eq_zero→zqj,mem_append→zqk,mem_map→zql,getElem_mem→zqm,mem_replicate→zqn,getElem?_append_left→zqo,mem_filter→zqp,mem_singleton→zqq,append_nil→zqr,append_eq_nil_iff→zqs,nodup_cons→zqt,mem_cons_of_mem→zqu,getElem?_append_right→zqv,getElem?_drop→zqw,mem_append_left→zqx,getD_eq_getElem?_getD→zqy,length_eq_one_iff→zqz
open Nat renaming lt_of_lt_of_le→zka,le_refl→zkb,ble_eq_true_of_le→zkc,beq_refl→zkd,eq_of_beq_eq_true→zke,le_trans→zkf
open Bool renaming and_eq_true_iff→zkg,and_eq_true→zkh,or_eq_true_iff→zki
namespace Go.AM
section
variable {E:Env}{R:AV->AV->Prop}{Z Z':Nat->Prop}{ow ow' ow1 ow2:Nat->Option (List Nat)}{h h':Heap}{K K':PK}{os os' os1 os2:List PO}{x y xc yc v:AV}{L M:List Nat}
def VO(Z:Nat->Prop)(ow:Nat->Option (List Nat))(h:Heap)(os:List PO)(a b:Option AV):Prop:=(a=znq/\b=znq)\/∃x y,a=zsq x/\b=zsq y/\VR Z ow h os x y
theorem dV(hg:yA E){nt:Nat}{frc:Tr}{fr:PF}(a:FrR Z ow h os nt frc fr)(o:Option Operand):VO Z ow h os (Mt E o frc) (AY E o fr):=by
 cases o with
 |none=>exact .inl ⟨rfl,rfl⟩
 |some o=>exact .inr ⟨_,_,rfl,rfl,Bq hg a o⟩
theorem G7{a b:Option AV}{d n:Nat}(A:VO Z ow h os a b)(e:E0 b d=zsq n):E0 a d=zsq n:=by
 rcases A with⟨rfl,rfl⟩|⟨x,y,rfl,rfl,A⟩
 . exact e
 . exact x9 A e
theorem VO.isS{a b:Option AV}(A:VO Z ow h os a b):a.isSome=b.isSome/\a.isNone=b.isNone:=by
 rcases A with⟨rfl,rfl⟩|⟨x,y,rfl,rfl,A⟩<;>exact⟨rfl,rfl⟩
theorem Bj{a b:Nat}:Nat.ble a b=zt↔a<=b:=(by simp_all)
def EX(mx:Option AV)(f:Bool)(m r n:Nat):Bool:=match mx with|some _=>Nat.beq m r|none=>f&&Nat.beq r n
theorem iP{sz:Nat}{es:List AV}{f:Bool}{lo hi mx:Option AV}(e:Mq sz es f lo hi mx=zsq v):∃l r m,E0 lo 0=zsq l/\E0 hi es.length=zsq r/\E0 mx es.length=zsq m/\l<=r/\r<=m/\m<=es.length/\l9 sz es=zt/\v=.fsl ((es.drop l).take (r-l)) (EX mx f m r es.length):=by
 unfold Mq at e;obtain⟨l,h1,e⟩:=A2 e;obtain⟨r,h2,e⟩:=A2 e;obtain⟨m,B,e⟩:=A2 e;obtain⟨A,e⟩:=A8 e;rw[A7]at h2 B A e;simp only[zkh,Bj]at A;rw[L6,L4]at e;cases e;exact⟨l,r,m,h1,h2,B,A.1.1.1,A.1.1.2,A.1.2,A.2,rfl⟩
theorem sC{sz:Nat}{es:List AV}{f:Bool}{lo hi mx:Option AV}{l r m:Nat}(h1:E0 lo 0=zsq l)(h2:E0 hi es.length=zsq r)(A:E0 mx es.length=zsq m)(B:l<=r)(C:r<=m)(D:m<=es.length)(G:l9 sz es=zt):Mq sz es f lo hi mx=zsq (.fsl ((es.drop l).take (r-l)) (EX mx f m r es.length)):=by
 unfold Mq;rw[h1];show A6 (E0 hi (lenL es)) _=_
 rw[A7,h2];show A6 (E0 mx es.length) _=_
 rw[A];show B0 (Nat.ble l r&&Nat.ble r m&&Nat.ble m es.length&&l9 sz es) _=_
 rw[Bj.2 B,Bj.2 C,Bj.2 D,G,L6,L4];rfl
theorem iQ{ts id off n sz:Nat}{lo hi mx:Option AV}(e:Mr ts id off n sz lo hi mx=zsq v):∃l r m,E0 lo 0=zsq l/\E0 hi n=zsq r/\E0 mx n=zsq m/\l<=r/\r<=m/\m<=n/\sz=ts/\v=.msl id (off+l) (r-l) sz:=by
 unfold Mr at e;obtain⟨l,h1,e⟩:=A2 e;obtain⟨r,h2,e⟩:=A2 e;obtain⟨m,h3,e⟩:=A2 e;obtain⟨A,e⟩:=A8 e;simp only[zkh,Bj]at A;rw[C0,C0]at e;simp_all
theorem aJ{ts id off n:Nat}{lo hi mx:Option AV}{l r m:Nat}(h1:E0 lo 0=zsq l)(h2:E0 hi n=zsq r)(A:E0 mx n=zsq m)(B:l<=r)(C:r<=m)(D:m<=n):Mr ts id off n ts lo hi mx=zsq (.msl id (off+l) (r-l) ts):=by
 unfold Mr;rw[h1];show A6 (E0 hi n) _=_
 rw[h2];show A6 (E0 mx n) _=_
 rw[A];show B0 (Nat.ble l r&&Nat.ble r m&&Nat.ble m n&&Nat.beq ts ts) _=_
 rw[Bj.2 B,Bj.2 C,Bj.2 D,zkd,C0,C0];rfl
theorem mD{d:TD}{lo hi mx C B A:Option AV}(I:VO Z ow h os C lo)(J:VO Z ow h os B hi)(G:VO Z ow h os A mx)(U:VR Z ow h os xc x)(e:wP E d lo hi mx x=zsq v):∃vc,sliceA E d C B A xc=zsq vc/\VR Z ow h os vc v:=by
 have str:∀{s:List UInt8}{v:AV},Ef s lo hi mx=zsq v->Ef s C B A=zsq v/\∃s',v=.str s':=fun{s v} e=>by
  unfold Ef at e|-;obtain⟨l,h1,e⟩:=A2 e;obtain⟨r,h2,e⟩:=A2 e;obtain⟨Q,e⟩:=A8 e;rw[G7 I h1];show A6 (E0 B (s5 s)) _=_/\_
  rw[G7 J h2];show B0 (Nat.ble l r&&Nat.ble r (s5 s)&&A.isNone) _=_/\_
  rw[G.isS.2,Q];cases e;exact⟨rfl,_,rfl⟩
 have msl:∀{id off n sz},x=.msl id off n sz->sliceA E d lo hi mx x=zsq v->∃vc,sliceA E d C B A xc=zsq vc/\VR Z ow h os vc v:=fun{id off n sz} aa e=>by
  subst aa;cases d with
  |string=>cases e
  |slice H=>
   have e:onTI E H znq (fun te=>Ms te.size lo hi mx (.msl id off n sz))=zsq v:=e;show ∃vc,onTI E H znq (fun te=>Ms te.size C B A xc)=zsq vc/\_
   unfold onTI at e|-;cases N:E.ti H with
   |none=>rw[N]at e;cases e
   |some te=>
    rw[N]at e;simp only at e|-;have e:Mr te.size id off n sz lo hi mx=zsq v:=e;obtain⟨l,r,m,h1,h2,Q,X,Y,h6,rfl,rfl⟩:=iQ e;cases U with
    |fz z=>cases z
    |mnil em hn ae=>
     have q1:=G7 I h1;have q2:=G7 J h2;have q3:=G7 G Q;obtain rfl:m=0:=by omega
     obtain rfl:r=0:=by omega
     obtain rfl:l=0:=by omega
     rcases em with rfl|rfl
     all_goals
      refine⟨.nilsl,?_,.mnil (.inl rfl) hn ae⟩;show bC C B A=zsq .nilsl
      unfold bC;rw[q1];show A6 (E0 B 0) _=_
      rw[q2];show A6 (E0 A 0) _=_
      rw[q3];rfl
    |msl a b=>
     refine⟨_,aJ (G7 I h1) (G7 J h2) (G7 G Q) X Y h6,?_⟩;exact .msl a b
  |_=>cases e
 cases x with
 |nilsl=>cases e
 |msl id off n sz=>
  exact msl rfl e
 |fsl es f=>
  have e:(if es.isEmpty||mx.isSome then znq else(sliceA E d lo hi mx (.fsl es f)).map fun y=>match y with | .fsl l _=>.fsl l l.isEmpty|y=>y)=zsq v:=e;split at e
  . cases e
  . rename_i hne
    cases D:sliceA E d lo hi mx (.fsl es f)with
    |none=>rw[D]at e;cases e
    |some w=>
     rw[D]at e;cases d with
     |string=>cases D
     |slice H=>
      have D:onTI E H znq (fun te=>Ms te.size lo hi mx (.fsl es f))=zsq w:=D;show ∃vc,onTI E H znq (fun te=>Ms te.size C B A xc)=zsq vc/\_
      unfold onTI at D|-;cases N:E.ti H with
      |none=>rw[N]at D;cases D
      |some te=>
       rw [N]at D;simp only at D|-;have D:Mq te.size es f lo hi mx=zsq w:=D;obtain⟨l,r,m,h1,h2,Q,X,Y,h6,h7,rfl⟩:=iP D;cases e;obtain⟨u,us,rfl⟩:∃u us,es=u::us:=by cases es with
        |_=>grind
       have ab:A=znq:=by
        cases hm:A with
        |none=>rfl
        |some q=>
         have h8:=G.isS.1;grind
       have hu:u.cells.length=te.size:=by
        have h7:Nat.beq (lenL u.cells) te.size=zt:=h7;grind[A7,zke]
       cases U with
       |fz z=>
        cases z with
        |fsl g1 g2 g3=>
         rename_i es0 f0;obtain⟨u0,ad,rfl⟩:∃u us,es0=u::us:=by cases es0 with
          |nil=>simp at g1
          |cons u us=>grind
         have hu0:=(g2 0 u0 u rfl rfl).shape.1;refine⟨_,sC (sz:=te.size) (es:=u0::ad) (f:=f0) (G7 I h1) (G7 J (by grind)) (G7 G (by grind)) X Y (by grind) (by show Nat.beq (lenL u0.cells) te.size=zt;simp_all[A7]),?_⟩;refine .fz (.fsl (by grind) (fun i x y U hy=>?_) (by rw[ab,g3];rfl));grind
        |view g1 g2 g3 g4 g5 g6=>
         rename_i id off n sz row;have V:off<row.length:=by grind
         have ac:=g5 0 _ u (zqc V) rfl;have hsz:sz=te.size:=by rw[<-g6 0 _ (by grind) (zqc V),ac.shape.1,hu]
         subst hsz;rw[g4]at h2 Q h6;refine⟨_,aJ (id:=id) (off:=off) (G7 I h1) (G7 J h2) (G7 G Q) X Y h6,?_⟩;refine .fz (.view (row:=row) g1 g2 (by omega) (by grind) (fun i x y U hy=>?_) (fun i x hi U=>g6 (l+i) x (by omega) (by grind)));grind
     |_=>cases D
 |str s=>
  cases d with
  |string=>
   rw[U.isS];obtain⟨h1,s',rfl⟩:=str (show Ef s lo hi mx=zsq v from e);exact⟨_,h1,.fz (.str s')⟩
  |slice H=>
   have e:onTI E H znq (fun te=>Ms te.size lo hi mx (.str s))=zsq v:=e;unfold onTI at e;cases N:E.ti H with
   |none=>simp_all
   |some te=>rw[N]at e;cases e
  |_=>cases e
 |_=>
  cases d with
  |slice H=>
   have e:onTI E H znq (fun te=>znq)=zsq v:=e;unfold onTI at e;cases N:E.ti H with
   |_=>simp_all
  |_=>cases e
theorem QR(s:I6 Z ow h K.os){id:Nat}{es:List (AV×AV)}(A:K.os[id]?=zsq (.mapo es))(B:VR Z ow h K.os xc (.map id)):∃c ces,xc=.map c/\MapR Z ow h id es c ces:=by
 obtain⟨c0,ces,g⟩:=s.map id es A;cases B with
 |fz z=>cases z
 |map a b=>
  have h1:=a [id] (by grind[loP])
  have:=s.inj _ _ _ h1 g.o
  grind
theorem xB{α:Type}{h:Heap}{id:Nat}{es:List (AV×AV)}{d:α}{f:List (AV×AV)->α}(hg:h.get id=zsq (.mapo es)):h.onMapo id d f=f es:=by
 grind[Heap.onMapo]
theorem xC(s:I6 Z ow h K.os){d:TD}{n:Nat}(A:VR Z ow h K.os xc x)(e:HV d x K=zsq n):jT d xc h=zsq n:=by
 cases d with
 |string=>obtain⟨s',rfl,e1⟩:=L8 (show x.onStr znq (fun s=>zsq (s5 s))=zsq n from e);rw[A.isS];exact e
 |slice el=>
  have e:eV x=zsq n:=e;show eV xc=zsq n
  cases x with
  |nilsl=>rw[A.isN];exact e
  |fsl es f=>
   have e:zsq (lenL es)=zsq n:=e;rw[A7]at e;cases e;cases A with
   |fz z=>
    cases z with
    |emp B=>cases B<;>rfl
    |fsl h1 _ _=>show zsq (lenL _)=_;rw[A7,h1]
    |view _ _ _ D _ _=>show zsq _=zsq _;rw[D]
  |msl id off m sz=>
   cases e;cases A with
   |fz z=>cases z
   |mnil B _ _=>rcases B with rfl|rfl<;>rfl
   |msl=>rfl
  |_=>cases e
 |map a b=>
  show tG xc h=zsq n
  cases x with
  |nilmap=>cases A with|fz z=>cases z;exact e
  |map id=>
   have e:(match K.os[id]? with|some (.mapo es)=>zsq (qC es)|_=>znq)=zsq n:=e;cases C:K.os[id]? with
   |none=>grind
   |some q=>
    rw[C]at e;cases q with
    |mapo es=>
     obtain⟨c,ces,rfl,g⟩:=QR s C A;show h.onMapo c znq (fun es=>zsq (qC es))=zsq n
     rw[xB g.get,Ro,g.len,<-Ro];exact e
    |_=>cases e
  |_=>cases e
 |_=>cases e
theorem iR:∀(l A:List AV)(x xc v:AV),VL Z ow h os A l->VR Z ow h os xc x->Mp l x=zsq v->∃vc,Mp A xc=zsq vc/\VR Z ow h os vc v
 |[],A,x,xc,v,hl,hx,e=>by
  have:A=[]:=zqj hl.1
  subst this;cases e;exact⟨xc,rfl,hx⟩
 |y::l,[],x,xc,v,hl,hx,e=>by have:=hl.1;simp at this
 |y::l,yc::A,x,xc,v,hl,hx,e=>by
  have e:(x.onInt znq fun k a=>y.onInt znq fun _ b=>Mp l (.int k (bif intLe b a then a else b)))=zsq v:=e;obtain⟨k,a,rfl,e1⟩:=C5 e;obtain⟨_,b,rfl,e2⟩:=C5 e1;rw[hx.isI,hl.inv.1.isI];exact iR l A _ _ v hl.inv.2 (.i _ _) e2
theorem iS:∀(l A:List AV)(x xc v:AV),VL Z ow h os A l->VR Z ow h os xc x->Qi l x=zsq v->∃vc,Qi A xc=zsq vc/\VR Z ow h os vc v
 |[],A,x,xc,v,hl,hx,e=>by
  have:A=[]:=zqj hl.1
  subst this;cases e;exact⟨xc,rfl,hx⟩
 |y::l,[],x,xc,v,hl,hx,e=>by have:=hl.1;simp at this
 |y::l,yc::A,x,xc,v,hl,hx,e=>by
  have e:(x.onInt znq fun k a=>y.onInt znq fun _ b=>Qi l (.int k (bif intLe a b then a else b)))=zsq v:=e;obtain⟨k,a,rfl,e1⟩:=C5 e;obtain⟨_,b,rfl,e2⟩:=C5 e1;rw[hx.isI,hl.inv.1.isI];exact iS l A _ _ v hl.inv.2 (.i _ _) e2
def VQ(Z:Nat->Prop)(ow:Nat->Option (List Nat))(h:Heap)(os:List PO)(ps qs:List (Nat×AV)):Prop:=ps.length=qs.length/\∀(i:Nat) p q,ps[i]?=zsq p->qs[i]?=zsq q->p.1=q.1/\VR Z ow h os p.2 q.2
theorem Ma(hg:yA E){nt:Nat}{frc:Tr}{fr:PF}(a:FrR Z ow h os nt frc fr):∀l:List (Nat×Operand),VQ Z ow h os (opvps E l frc) (dQ E l fr)
 |[]=>⟨rfl,fun i p q A=>by cases i<;>cases A⟩
 |o::l=>⟨congrArg Nat.succ (Ma hg a l).1,fun i p q A B=>by
  cases i with
  |zero=>cases A;cases B;exact⟨rfl,Bq hg a o.2⟩
  |succ i=>exact(Ma hg a l).2 i p q A B⟩
theorem VQ.inv{p q:Nat×AV}{ps qs:List (Nat×AV)}(v:VQ Z ow h os (p::ps) (q::qs)):(p.1=q.1/\VR Z ow h os p.2 q.2)/\VQ Z ow h os ps qs:=⟨v.2 0 p q rfl rfl,by have:=v.1;grind,fun i p q A B=>v.2 (i+1) p q A B⟩
theorem mE{xs ys us vs:List AV}{off:Nat}(a:VL Z ow h os xs ys)(b:VL Z ow h os us vs):VL Z ow h os (Q0 xs off us) (Q0 ys off vs):=by
 rw[V1,V1];grind[lsplice,VL]
theorem BF{v vc:AV}(D:VR Z ow h os vc v)(ho:D7 v.cells=zt):D7 vc.cells=zt/\vc.cells.length=v.cells.length/\VL Z ow h os vc.cells v.cells:=by
 rw[G9]at ho;have C:v≠.und:=fun e=>by subst e;exact absurd (ho .und (zqh ..)) (by decide)
 have hl:=D.cells C;refine⟨(G9 _).2 fun c hc=>?_,hl.1,hl⟩;obtain⟨i,hi⟩:=zqe hc;have B:i<v.cells.length:=by rw[<-hl.1];grind
 have A:=ho _ (zqm B);refine(hl.2 i c _ hi (zqc B)).okc ?_
 revert A
 cases v.cells[i]<;>intro A<;>first|rfl|cases A
theorem Of(place:Nat->Option (Nat×Nat)):∀(ps qs:List (Nat×AV))(xs ys zs:List AV),VQ Z ow h os ps qs->VL Z ow h os xs ys->S7 place qs ys=zsq zs->∃ws,S7 place ps xs=zsq ws/\VL Z ow h os ws zs
 |[],[],xs,ys,zs,_,hl,e=>by cases e;exact⟨xs,rfl,hl⟩
 |[],q::qs,xs,ys,zs,hv,hl,e=>by have:=hv.1;simp at this
 |p::ps,[],xs,ys,zs,hv,hl,e=>by have:=hv.1;simp at this
 |p::ps,q::qs,xs,ys,zs,hv,hl,e=>by
  have e:A6 (place q.1) (fun w=>B0 (Nat.beq (lenL q.2.cells) w.2&&Nat.ble (Nat.add w.1 w.2) (lenL ys)&&D7 q.2.cells) (S7 place qs (Q0 ys w.1 q.2.cells)))=zsq zs:=e;obtain⟨w,h1,e⟩:=A2 e;obtain⟨h2,e⟩:=A8 e;rw[zkh,zkh]at h2;obtain⟨⟨B,C⟩,D⟩:=h2;obtain⟨⟨G,H⟩,h8⟩:=hv.inv;obtain⟨I,J,N⟩:=BF H D;obtain⟨ws,Q,A⟩:=Of place ps qs _ _ zs h8 (mE (off:=w.1) hl N) e;refine⟨ws,?_,A⟩;show A6 (place p.1) (fun w=>B0 (Nat.beq (lenL p.2.cells) w.2&&Nat.ble (Nat.add w.1 w.2) (lenL xs)&&D7 p.2.cells) (S7 place ps (Q0 xs w.1 p.2.cells)))=zsq ws
  rw[G,h1];show B0 (Nat.beq (lenL p.2.cells) w.2&&Nat.ble (Nat.add w.1 w.2) (lenL xs)&&D7 p.2.cells) _=_
  rw[A7,J,<-A7,B,A7,hl.1,<-A7,C,I];exact Q
theorem mF(G:IB E){t:Nat}{ti:TI}(B:E.ti t=zsq ti){ps qs:List (Nat×AV)}(C:VQ Z ow h os ps qs)(e:U1 E ti qs=zsq v):∃vc,U1 E ti ps=zsq vc/\VR Z ow h os vc v:=by
 have hz:VL Z ow h os ti.zero.cells ti.zero.cells:=⟨rfl,fun i x y H I=>.fz (((G t ti B).1 Z h).cell H I).1⟩
 unfold U1 at e|-;cases D:ti.desc with
 |struct fields f=>
  rw[D]at e;simp only at e|-;cases A:S7 (fun i=>A6 (Qj fields i) fun f=>onTI E f.1 znq fun g=>zsq (f.2,g.size)) qs ti.zero.cells with
  |none=>grind
  |some zs=>
   rw[A]at e;cases e;obtain⟨ws,h1,h2⟩:=Of _ ps qs _ _ zs C hz A;rw[h1];exact⟨_,rfl,.agL h2⟩
 |array len J=>
  rw[D]at e;simp only at e|-;unfold onTI at e|-;cases B:E.ti J with
  |none=>simp_all
  |some te=>
   rw[B]at e;simp only at e|-;cases A:S7 (fun i=>zsq (Nat.mul i te.size,te.size)) qs ti.zero.cells with
   |none=>grind
   |some zs=>
    rw[A]at e;cases e;obtain⟨ws,h1,h2⟩:=Of _ ps qs _ _ zs C hz A;rw[h1];exact⟨_,rfl,.agL h2⟩
 |_=>grind
end
section
variable {E:Env}{R:AV->AV->Prop}{Z Z':Nat->Prop}{ow ow' ow1 ow2:Nat->Option (List Nat)}{h h':Heap}{K K':PK}{os os' os1 os2:List PO}{x y xc yc v k:AV}{L M:List Nat}
theorem withAll{v e:AV}(ha:isAg v=isAg e)(hl:v.cells.length=e.cells.length)(hok:∀c∈v.cells,isAg c=zf):e.withCells 0 v.cells=v:=by
 cases A:isAg v with
 |true=>
  rw[A]at ha;cases v with
  |agg vs=>
   cases e with
   |agg es=>
    show AV.agg (Q0 es 0 vs)=.agg vs
    rw[V1];unfold lsplice;have hl:vs.length=es.length:=hl;grind
   |_=>cases ha
  |_=>cases A
 |false=>
  rw[A]at ha;rw[C7 A];cases e<;>first|rfl|cases ha
theorem I6.congr(s:I6 Z ow h os)(hn:h'.next=h.next)(hg:∀d,h'.get d=h.get d):I6 Z ow h' os:=by
 have hz:∀d,Z d->Z d/\h'.get d=h.get d:=fun d G=>⟨G,hg d⟩
 have C:PT (VR Z ow h os) Z ow h' os:=by
  refine⟨fun r es sz A=>?_,fun r k es sz A H=>?_,fun r es A=>?_,s.inj,fun a M ha=>?_,fun a ha=>by rw[hn];exact s.zb a ha,s.sb⟩
  . obtain⟨x,B⟩:=s.row r es sz A
    exact⟨x,B.reloc (Nat.le_of_eq hn.symm) hz (fun _ _=>.rfl) (fun d _ _=>hg d)⟩
  . obtain⟨c,ces,g⟩:=s.raw r k es sz A H
    exact⟨c,ces,g.o,by rw[hn];exact g.lt,(hg c).trans g.get,g.sh,g.vr,g.okp,g.no⟩
  . obtain⟨c,ces,g⟩:=s.map r es A
    exact⟨c,ces,g.o,by rw[hn];exact g.lt,(hg c).trans g.get,g.len,fun i x y B D=>⟨(g.kv i x y B D).1,(g.kv i x y B D).2.mono hz⟩,g.no⟩
  . obtain⟨h1,h2⟩:=s.live a M ha
    grind
 exact I6.to C hz (.refl _ _)
end
section
variable {E:Env}{R:AV->AV->Prop}{Z Z':Nat->Prop}{ow ow' ow1 ow2:Nat->Option (List Nat)}{h h':Heap}{K K':PK}{os os' os1 os2:List PO}{x y xc yc v k:AV}{L M:List Nat}
theorem iT(v:AV):Lm v=isAg v:=by cases v<;>rfl
theorem mG{t:TI}{c i off sz:Nat}{es:List AV}(hg:h.get c=zsq (.row es sz))(e:Ct t (.ptr c i off) v h=zsq h'):∃old,es[i]?=zsq old/\v.cells.length=t.size/\D7 v.cells=zt/\h'=h.set c (.row (es.set i (old.withCells off v.cells)) sz):=by
 have e:h.onRow c znq (Sp t c i off v.cells h)=zsq h':=e;rw[Lu hg]at e;obtain⟨old,h1,e⟩:=A2 e;obtain⟨h2,e⟩:=A8 e;rw[S8]at h1;rw[zkh,zkh,zkh]at h2;simp only[Aw]at e;cases e;refine⟨old,h1,?_,h2.2,rfl⟩;grind[zke,A7]
theorem sD{t:TI}{p x:AV}(A:storeP t p x K=zsq K'):x≠.und:=fun e=>by
 subst e;unfold storeP at A;cases p with
 |ptr n i off=>
  simp only at A;cases G:rowOf K.os 6 n with
  |none=>grind
  |some t'=>
   obtain⟨k,es,sz⟩:=t';rw[G]at A;simp only at A;cases hi:es[i]? with
   |none=>grind
   |some u=>
    rw[hi]at A;simp only at A;split at A
    . cases B:rawAt K.os n with
      |true=>
       rw[B]at A;simp only at A;split at A
       . rename_i C;exact absurd C (by decide)
       . cases A
      |false=>
       rw[B]at A;simp only at A;have e1:(AV.und.cells.all clo&&((u.cells.drop off).take t.size).all clo)=zf:=rfl;rw[e1]at A;simp only[Bool.false_eq_true,if_false]at A;cases H:setRow (killS K.os n) 6 n (es.set i (u.withCells off (zqd t.size .und)))with
       |none=>grind
       |some D=>
        rw[H]at A;simp only at A;have e2:sealC K.ext (rootOf K.os 6 n) n i off D AV.und.cells=znq:=rfl;grind
    . cases A
 |_=>cases A
theorem aK{te:TI}{n c:Nat}:∀(qs ps:List (Nat×AV))(K K':PK)(ow:Nat->Option (List Nat))(h:Heap)(ces:List AV),I6 Z ow h K.os->VQ Z ow h K.os ps qs->(∀i,VR Z ow h K.os (.ptr c i 0) (.ptr n i 0))->h.get c=zsq (.row ces te.size)->(∀e∈ces,isAg e=isAg te.zero/\e.cells.length=te.size)->placeP te n qs K=zsq K' ->
 ∃A h' ow',placeL te.size ps ces=zsq A/\I6 Z ow' h' K'.os/\Keep' ow K.os ow' K'.os/\Stp K.ext Z ow h K Z ow' h' K'/\h'.get c=zsq (.row A te.size)/\(∀d,d≠c->h'.get d=h.get d)/\h'.next=h.next
 |[],ps,K,K',ow,h,ces,s,hv,B,hg,hsh,e=>by
  have:ps=[]:=zqj hv.1
  subst this;cases e;exact⟨ces,h,ow,rfl,s,.refl _ _,.refl _ _ _ _ _,hg,fun _ _=>rfl,rfl⟩
 |q::qs,[],K,K',ow,h,ces,s,hv,B,hg,hsh,e=>by have:=hv.1;simp at this
 |q :: qs,p::ps,K,K',ow,h,ces,s,hv,B,hg,hsh,e=>by
  obtain⟨⟨hi,H⟩,C⟩:=hv.inv;obtain⟨i,qv⟩:=q;obtain⟨i',pv⟩:=p;have hi:i'=i:=hi;subst hi;unfold placeP at e;split at e
  . rename_i D
    rw[iT,iT]at D;cases I:storeP te (.ptr n i' 0) qv K with
    |none=>rw[I]at e;cases e
    |some K1=>
     rw[I]at e;simp only at e;obtain⟨h1,ow1,g1,g2,V,X⟩:=aH s (B i') H I;obtain⟨old,o1,o2,o3,rfl⟩:=mG hg g1;have J:qv≠.und:=sD I;have N:=H.shape J;have hol:=hsh old (zqa o1);have hokc:=(G9 _).1 o3;have Q:old.withCells 0 pv.cells=pv:=(by grind[Go.AM.withAll,Go.AM.okCell_nag])
     rw[Q]at g1 g2 X;have U:i'<ces.length:=(zqb.1 o1).1;have G:∀d,Z d->Z d/\(h.set c (.row (ces.set i' pv) te.size)).get d=h.get d:=fun d hd=>(X 0).zz d hd
     obtain ⟨A,h2,ow2,a1,a2,a3,a4,a5,a6,a7⟩:=aK qs ps K1 K' ow1 (h.set c (.row (ces.set i' pv) te.size)) (ces.set i' pv) g2 ⟨C.1,fun j p q B Y=>⟨(C.2 j p q B Y).1,(C.2 j p q B Y).2.keep G V⟩⟩ (fun j=>(B j).keep G V) (Heap.get_set_eq _ _ hg) (fun e he=>by
      rcases List.mem_or_eq_of_mem_set he with h|h
      . exact hsh e h
      . subst h;exact⟨by rw[N.2,D],o2⟩) e
     refine⟨A,h2,ow2,?_,a2,V.trans a3,(X K.ext).trans s (by grind),a5,(by grind[Go.AM.Heap.get_set_ne]),a7⟩;show B0 (Nat.blt i' (lenL ces)&&Nat.beq (lenL pv.cells) te.size&&D7 pv.cells) (placeL te.size ps (setL ces i' pv))=zsq A
     rw[A7,A7,o2,zkd,o3,Aw]
     have:Nat.blt i' ces.length=zt:=zkc U
     rw[this];exact a1
  . cases e
theorem BG{t n:Nat}{ps:Array (Nat×Operand)}{ti te:TI}{fr:Tr}{es:List AV}(B:E.ti t=zsq ti)(A:elemOfT E ti.desc=zsq te)(h1:n*te.size<=65536)(h2:0<te.size)(hp:placeL te.size (opvps E ps.toList fr) (zqd n te.zero)=zsq es):N2 E t n ps fr h=.ok (.msl h.next 0 n te.size) (h.push (.row es te.size)):=by
 unfold N2 onTI;rw[B];simp only;rw[A];show(bif Nat.ble (Nat.mul n te.size) 65536&&Nat.blt 0 te.size then(match placeL te.size (opvps E ps.toList fr) (repL n te.zero)with|none=>Res.bad|some es=>.ok (.msl h.next 0 n te.size) (h.push (.row es te.size)))else .bad)=_
 have e1:Nat.ble (Nat.mul n te.size) 65536=zt:=zkc h1;grind[Nat.blt,zkc,o6]
theorem Wq{sz:Nat}:∀(qs ps:List (Nat×AV))(ys xs zs:List AV),VQ Z ow h os ps qs->xs.length=ys.length->(∀(i:Nat) x y,xs[i]?=zsq x->ys[i]?=zsq y->VR Z ow h os x y/\y.cells.length=sz/\∀b∈y.cells,Fr b=zt)->placeR sz qs ys=zsq zs->∃ws,placeL sz ps xs=zsq ws/\ws.length=zs.length/\zs.length=ys.length/\∀(i:Nat) x y,ws[i]?=zsq x->zs[i]?=zsq y->VR Z ow h os x y/\y.cells.length=sz/\∀b∈y.cells,Fr b=zt
 |[],ps,ys,xs,zs,hv,hl,hr,e=>by
  have:ps=[]:=zqj hv.1
  subst this;cases e;exact⟨xs,rfl,hl,rfl,hr⟩
 |q::qs,[],ys,xs,zs,hv,hl,hr,e=>by have:=hv.1;simp at this
 |q :: qs,p::ps,ys,xs,zs,hv,hl,hr,e=>by
  obtain⟨⟨hi,G⟩,H⟩:=hv.inv;obtain⟨i,I⟩:=q;obtain⟨i',pv⟩:=p;have hi:i'=i:=hi;subst hi;unfold placeR at e;split at e
  . rename_i hc
    obtain⟨h1,h2,J⟩:=hc;rw[zqf]at J;have C:I≠.und:=fun e=>by subst e;exact absurd (J .und (zqh ..)) (by decide)
    have A:=G.cells C;have D:D7 pv.cells=zt:=(G9 _).2 fun c hc=>by
     obtain⟨j,N⟩:=zqe hc;have B:j<I.cells.length:=by rw[<-A.1];grind
     exact(A.2 j c _ N (zqc B)).okc (J _ (zqm B))
    obtain⟨ws,Q,U,a3,V⟩:=Wq qs ps (ys.set i' I) (xs.set i' pv) zs H (by simp[hl]) (by grind) e;refine⟨ws,?_,U,by grind,V⟩;show B0 (Nat.blt i' (lenL xs)&&Nat.beq (lenL pv.cells) sz&&D7 pv.cells) (placeL sz ps (setL xs i' pv))=zsq ws
    rw[A7,A7,A.1,h2,zkd,D,Aw]
    have:Nat.blt i' xs.length=zt:=zkc (by omega)
    rw[this];exact Q
  . cases e
theorem mH(hT:IB E)(s:I6 Z ow h K.os)(C:K.ext<=K.os.length){n e:Nat}{te:TI}(V:E.ti e=zsq te){ps qs:List (Nat×AV)}(U:VQ Z ow h K.os ps qs)(e:Cm te n qs K=zsq (v,K')):
 n*te.size<=65536/\0<te.size/\∃es ow',placeL te.size ps (zqd n te.zero)=zsq es/\I6 Z ow' (h.push (.row es te.size)) K'.os/\Keep' ow K.os ow' K'.os/\VR Z ow' (h.push (.row es te.size)) K'.os (.msl h.next 0 n te.size) v/\∀b,Stp b Z ow h K Z ow' (h.push (.row es te.size)) K':=by
 have hz:=hT _ _ V;have B:∀ob d,d<h.next->(h.push ob).get d=h.get d:=fun ob d A=>Heap.get_push_ne h _ (by omega)
 unfold Cm at e;split at e
 . rename_i hc
   refine⟨hc.1,hc.2,?_⟩;have hrep:∀{i:Nat}{x:AV},(zqd n te.zero)[i]?=zsq x->x=te.zero:=fun{i x} h=>(zqn.1 (zqa h)).2
   cases I:placeP te K.os.length qs (newRow 0 (zqd n te.zero) te.size K)with
   |some K1=>
    rw[I]at e;cases e;obtain⟨z1,z2,z3,z4⟩:=iM (n:=n) s C hz.1 hz.2;have Y:∀d,Z d->Z d/\(h.push (.row (zqd n te.zero) te.size)).get d=h.get d:=fun d A=>⟨A,B _ d (s.zb d A)⟩
    have aa:∀i,VR Z (k8 ow h.next [K.os.length]) (h.push (.row (zqd n te.zero) te.size)) (newRow 0 (zqd n te.zero) te.size K).os (.ptr h.next i 0) (.ptr K.os.length i 0):=fun i=>.ptr (fun L G=>by
     have G:loP (K.os++[PO.row 0 (zqd n te.zero) te.size]) 6 K.os.length=zsq L:=G;rw[Oe _ (.inl ⟨_,_,_,rfl⟩)]at G;cases G;exact V6 _ _ _) (by show _<(K.os++[PO.row 0 (zqd n te.zero) te.size]).length;simp)
    obtain⟨es,h2,ow2,a1,a2,a3,Q,a5,a6,a7⟩:=aK qs ps _ _ _ _ (zqd n te.zero) z1 ⟨U.1,fun i p q I hq=>⟨(U.2 i p q I hq).1,(U.2 i p q I hq).2.keep Y z2⟩⟩ aa (Heap.get_push_eq h _) (fun e X=>by rw[(zqn.1 X).2];exact⟨rfl,hz.2⟩) I;have J:∀d,(h.push (.row es te.size)).get d=h2.get d:=(by grind[Go.AM.Heap.get_push_eq,Go.AM.Heap.get_push_ne])
    have ab:(h.push (.row es te.size)).next=h2.next:=a7.symm;have st:=(z4 K.ext).trans s Q;have ac:=z2.trans a3;refine⟨es,ow2,a1,a2.congr ab J,ac,(z3.keep (Z':=Z) (h':=h2) (fun d A=>Q.zz d A) a3).keep (fun d A=>⟨A,J d⟩) (.refl _ _),fun b=>⟨Nat.le_succ _,fun d A=>⟨A,B _ d (s.zb d A)⟩,fun _ A=>.inl A,fun d A _=>B _ d A,st.uo,⟨[],rfl,fun d A=>by cases A⟩,st.mv,st.tm,st.ex,st.xk,st.rd⟩⟩
   |none=>
    rw[I]at e;simp only at e;cases hr:placeR te.size qs (zqd n te.zero)with
    |none=>grind
    |some zs=>
     rw [hr]at e;cases e;have ad:∀b∈te.zero.cells,Fr b=zt:=fun b hb=>by
      obtain⟨i,hi⟩:=zqe hb;exact clo_okP ((hz.1 Z h).cell hi hi).2
     obtain⟨ws,a1,a2,a3,Q⟩:=Wq qs ps (zqd n te.zero) (zqd n te.zero) zs U rfl (fun i x y C D=>by rw[hrep C,hrep D];exact⟨.fz (hz.1 Z h),hz.2,ad⟩) hr;have N:∀y:AV,(∀b∈y.cells,Fr b=zt)->y≠.und:=fun y D e=>by subst e;exact absurd (D .und (zqh ..)) (by decide)
     have X:(∃k es z',PO.row 2 zs te.size=.row k es z')\/∃es,PO.row 2 zs te.size=.mapo es:=.inl ⟨_,_,_,rfl⟩;have H:=PT.lay (ob:=.row ws te.size) s (e:=.row 2 zs te.size) (Cn _ X) (fun es z e=>by cases e) (fun k es z e hk=>by
      cases e;refine⟨h.next,ws,V6 _ _ _,Nat.lt_succ_self _,Sc h _,⟨a2,fun i x y C D=>?_⟩,fun i x y C D o a b ha hb=>?_,fun i y D b hb=>?_,Lz s⟩
      . obtain⟨b1,b2,b3⟩:=Q i x y C D
        have:=b1.shape (N y b3)
        grind
      . obtain⟨b1,b2,b3⟩:=Q i x y C D
        exact(b1.cells (N y b3)).2 o a b ha hb
      grind) (fun es e=>by cases e)
     refine⟨ws,_,a1,I6.to H.1 (fun d A=>⟨A,B _ d (s.zb d A)⟩) H.2,H.2,.msl (fun L G=>?_) (by show _<(K.os++[PO.row 2 zs te.size]).length;simp),fun b=>Stp.lay s C⟩;have G:loP (K.os++[PO.row 2 zs te.size]) 6 K.os.length=zsq L:=G;grind[Oe,V6]
 . cases e
end
section
variable {E:Env}{R:AV->AV->Prop}{Z Z':Nat->Prop}{ow ow' ow1 ow2:Nat->Option (List Nat)}{h h':Heap}{K K':PK}{os os' os1 os2:List PO}{x y xc yc v k:AV}{L M:List Nat}
end
section
variable {E:Env}{R:AV->AV->Prop}{Z Z':Nat->Prop}{ow ow' ow1 ow2:Nat->Option (List Nat)}{h h':Heap}{K K':PK}{os os' os1 os2:List PO}{x y xc yc v k:AV}{L M:List Nat}
theorem Se{o:Option (AV×PK)}(e:Jd o=.val v K'):o=zsq (v,K'):=by
 cases o with
 |none=>cases e
 |some p=>cases e;rfl
theorem Y7{o:Option AV}(e:Gq o K=.val v K'):o=zsq v/\K'=K:=by
 cases o with
 |none=>cases e
 |some p=>cases e;grind
theorem N7{t:Nat}{f:TI->OpS}(e:o7 E t f=.val v K'):∃ti,E.ti t=zsq ti/\f ti=.val v K':=by
 unfold o7 at e;grind
structure Did'(Z:Nat->Prop)(ow:Nat->Option (List Nat))(h:Heap)(K:PK)(r:Res)(v:AV)(K':PK)(ow':Nat->Option (List Nat))(vc:AV)(h':Heap):Prop where
 r:r=.ok vc h'
 st:I6 Z ow' h' K'.os
 kp:Keep' ow K.os ow' K'.os
 vr:VR Z ow' h' K'.os vc v
 sp:∀b,Stp b Z ow h K Z ow' h' K'
theorem Did'.same(s:I6 Z ow h K.os){r:Res}{vc:AV}(A:r=.ok vc h)(B:VR Z ow h K.os vc v):Did' Z ow h K r v K ow vc h:=⟨A,s,.refl _ _,B,fun b=>.refl _ _ _ _ _⟩
theorem R6{α:Type}{t:Nat}{ti:TI}(A:E.ti t=zsq ti)(d:α)(f:TI->α):onTI E t d f=f ti:=by unfold onTI;rw[A]
theorem mI(hT:IB E)(s:I6 Z ow h K.os)(hx:K.ext<=K.os.length){b:Builtin}{ts:List TypeId}{args A:List AV}(hl:VL Z ow h K.os A args)(e:G3 E b ts args K=zsq (v,K')):∃ow' vc h',Did' Z ow h K (lift2 (F5 E b ts A h)) v K' ow' vc h':=by
 have H:∀{vc:AV},F5 E b ts A h=zsq (vc,h)->VR Z ow h K.os vc v->K'=K->∃ow' vc h',Did' Z ow h K (lift2 (F5 E b ts A h)) v K' ow' vc h':=fun{vc} e1 e2 e3=>by
  subst e3;rw[e1];exact⟨ow,vc,h,.same s rfl e2⟩
 unfold G3 at e;split at e
 . -- len
   rename_i t _ x _;cases N:E.ti t with
   |none=>rw[N]at e;cases e
   |some ti=>
    rw[N]at e;simp only at e;cases hn:HV ti.desc x K with
    |none=>rw[hn]at e;cases e
    |some n=>
     rw [hn]at e;cases e;obtain⟨xc,B,rfl⟩:∃xc B,A=xc::B:=by
      cases A with
      |nil=>have:=hl.1;simp at this
      |cons a l=>exact⟨a,l,rfl⟩
     refine H (vc:=.int .i64 (Int.ofNat n)) ?_ (.i _ _) rfl;show onTI E t znq (fun ti=>A6 (jT ti.desc xc h) fun n=>O1 n fun n=>zsq (AV.int .i64 (Int.ofNat n),h))=_
     rw[R6 N,xC s hl.inv.1 hn];exact C0 n (fun n=>zsq (AV.int .i64 (Int.ofNat n),h))
 . -- append
   rename_i t tx tr sl x _;cases N:E.ti t with
   |none=>rw[N]at e;cases e
   |some ti=>
    cases U:E.ti tx with
    |none=>rw[N,U]at e;cases e
    |some G=>
     rw[N,U]at e;simp only at e;cases C:elemOfT E ti.desc with
     |none=>rw[C]at e;cases e
     |some te=>
      rw[C]at e;simp only at e;split at e
      . rename_i hsz
        obtain ⟨sc,xc,B,rfl⟩:∃sc xc B,A=sc::xc::B:=by
         cases A with
         |nil=>have:=hl.1;simp at this
         | cons a l=>cases l with
          |nil=>have:=hl.1;simp at this
          |cons b l=>exact⟨a,b,l,rfl⟩
        have ab:=hl.inv.1;have ac:=hl.inv.2.inv.1;have hb:F5 E .append (t::tx::tr) (sc::xc::B) h=(match G.desc with
         |.int _=>A6 (asNat xc) fun n=>B0 (Nat.ble (Nat.mul n te.bytes) 140737488355328) (I7 te sc (repL n te.zero) h)
         |_=>A6 (elems xc h) fun xs=>B0 (J4 te.size xs) (I7 te sc xs h)):=by
         show onTI E t znq (fun ti=>A6 (elemOfT E ti.desc) fun te=>B0 (Nat.blt 0 te.size) (onTI E tx znq fun G=>match G.desc with
          |.int _=>A6 (asNat xc) fun n=>B0 (Nat.ble (Nat.mul n te.bytes) 140737488355328) (I7 te sc (repL n te.zero) h)
          |_=>A6 (elems xc h) fun xs=>B0 (J4 te.size xs) (I7 te sc xs h)))=_
         rw[R6 N,C];show B0 (Nat.blt 0 te.size) _=_
         have:Nat.blt 0 te.size=zt:=zkc hsz
         rw[this];show onTI E tx znq _=_
         rw[R6 U]
        have hz:(∀Z h,Fz Z h te.zero te.zero)/\te.zero.cells.length=te.size:=by
         unfold elemOfT at C;cases X:ti.desc with
         |slice el=>rw[X]at C;exact hT _ _ C
         |_=>rw[X]at C;cases C
        have app:∀{x:AV}{xcs xs:List AV},True:=fun{_ _ _}=>trivial
        have J:(∀k,G.desc≠.int k)->j9 te sl x K=zsq (v,K')->∃ow' vc h',Did' Z ow h K (lift2 (F5 E .append (t::tx::tr) (sc::xc::B) h)) v K' ow' vc h':=fun Q e=>by
         unfold j9 at e;cases D:takeB te sl K.os with
         |none=>rw[D]at e;cases e
         |some q=>
          obtain⟨base,os1,tc⟩:=q;rw[D]at e;simp only at e;cases I:takeE te x K.ext tc os1 with
          |none=>rw[I]at e;cases e
          |some q=>
           obtain⟨xs,os2⟩:=q;rw[I]at e;simp only at e;split at e
           . rename_i hw
             obtain⟨ow1,Y⟩:=Wn s ab D;obtain⟨ow2,xcs,g1,g2,tk⟩:=wX Y.pt (ac.keep (fun _ hz=>⟨hz,rfl⟩) Y.keep) I;obtain⟨vc,h',owf,a1,a2,a3,a4,a5⟩:=oW s hx Y tk hw e;refine⟨owf,vc,h',?_,a2,a3,a4,a5⟩
             have:F5 E .append (t::tx::tr) (sc::xc::B) h=zsq (vc,h'):=by
              rw [hb];have e2:(A6 (elems xc h) fun xs=>B0 (J4 te.size xs) (I7 te sc xs h))=zsq (vc,h'):=by
               rw[g1];show B0 (J4 te.size xcs) (I7 te sc xcs h)=_
               rw[g2];exact a1
              cases X:G.desc with
              |int k=>exact absurd X (Q k)
              |_=>exact e2
             rw[this];rfl
           . cases e
        split at e
        . rename_i kk X
          cases hn:asNat x with
          |none=>rw[hn]at e;cases e
          |some n=>
           rw[hn]at e;simp only at e;split at e
           . rename_i aa
             unfold oR at e;cases D:takeB te sl K.os with
             |none=>rw[D]at e;cases e
             |some q=>
              obtain⟨base,os1,tc⟩:=q;rw[D]at e;simp only at e;split at e
              . rename_i hw
                obtain⟨ow1,Y⟩:=Wn s ab D;have hrep:∀{i:Nat}{x:AV},(zqd n te.zero)[i]?=zsq x->x=te.zero:=fun{i x} h=>(zqn.1 (zqa h)).2
                have tk:TkE (VR Z ow h K.os) Z ow1 h os1 K.ext tc te (zqd n te.zero) (zqd n te.zero) os1 ow1:=.closed Y.pt rfl fun i a b ha hb=>by rw[hrep ha,hrep hb];exact⟨hz.1 Z h,hz.2⟩
                have ad:(!(zqd n te.zero).isEmpty||wholeP sl K.os)=zt:=by
                 cases n with
                 |zero=>simpa using hw
                 |succ n=>rfl
                obtain⟨vc,h',owf,a1,a2,a3,a4,a5⟩:=oW s hx Y tk ad e;refine⟨owf,vc,h',?_,a2,a3,a4,a5⟩
                have:F5 E .append (t::tx::tr) (sc::xc::B) h=zsq (vc,h'):=by
                 rw[hb,X];show A6 (asNat xc) (fun n=>B0 (Nat.ble (Nat.mul n te.bytes) 140737488355328) (I7 te sc (repL n te.zero) h))=_
                 rw[x9 ac hn];show B0 (Nat.ble (Nat.mul n te.bytes) 140737488355328) (I7 te sc (repL n te.zero) h)=_
                 have:Nat.ble (Nat.mul n te.bytes) 140737488355328=zt:=zkc aa
                 rw[this,o6];exact a1
                rw[this];rfl
              . cases e
           . cases e
        . rename_i Q
          exact J (fun k hk=>Q k hk) e
      . cases e
 . -- max
   rename_i _ x l;obtain⟨xc,B,rfl⟩:∃xc B,A=xc::B:=by
    cases A with
    |nil=>have:=hl.1;simp at this
    |cons a l=>exact⟨a,l,rfl⟩
   cases V:Mp l x with
   |none=>rw[V]at e;cases e
   |some w=>
    rw[V]at e;cases e;obtain⟨vc,h1,h2⟩:=iR l B x xc v hl.inv.2 hl.inv.1 V;exact H (vc:=vc) (show(Mp B xc).map (·,h)=_ by rw[h1];rfl) h2 rfl
 . rename_i _ x l
   obtain ⟨xc,B,rfl⟩:∃xc B,A=xc::B:=by
    cases A with
    |nil=>have:=hl.1;simp at this
    |cons a l=>exact⟨a,l,rfl⟩
   cases V:Qi l x with
   |none=>rw[V]at e;cases e
   |some w=>
    rw[V]at e;cases e;obtain⟨vc,h1,h2⟩:=iS l B x xc v hl.inv.2 hl.inv.1 V;exact H (vc:=vc) (show(Qi B xc).map (·,h)=_ by rw[h1];rfl) h2 rfl
 . cases e
end
section
variable {E:Env}{R:AV->AV->Prop}{Z Z':Nat->Prop}{ow ow' ow1 ow2:Nat->Option (List Nat)}{h h':Heap}{K K':PK}{os os' os1 os2:List PO}{x y xc yc v k:AV}{L M:List Nat}{nt:Nat}{frc:Tr}{fr:PF}
theorem Fw(hg:yA E)(hT:IB E)(s:I6 Z ow h K.os)(U:K.ext<=K.os.length)(a:FrR Z ow h K.os nt frc fr){op:Op}(e:prim E op fr K=.val v K')(call:D5):∃ow' vc h',Did' Z ow h K (evOp E call op frc h) v K' ow' vc h':=by
 have V:=Bq hg a;cases op with
 |move x=>cases e;exact⟨ow,_,h,.same s rfl (V x)⟩
 |assign x=>cases e;exact⟨ow,_,h,.same s rfl (V x)⟩
 |pick c p q=>
  have e:Ln (opvP E c fr) (opvP E p fr) (opvP E q fr) K=.val v K':=e;have Vc:=V c;cases hc:opvP E c fr with
  |bool b=>
   rw[hc]at e Vc;have ad:=Vc.isB;cases b with
   |true=>cases e;exact⟨ow,_,h,.same s (show(opv E c frc).onBool Res.bad (fun t=>match t with|true=>.ok (opv E p frc) h|false=>.ok (opv E q frc) h)=_ by rw[ad];rfl) (V p)⟩
   |false=>cases e;exact⟨ow,_,h,.same s (show(opv E c frc).onBool Res.bad (fun t=>match t with|true=>.ok (opv E p frc) h|false=>.ok (opv E q frc) h)=_ by rw[ad];rfl) (V q)⟩
  |_=>rw[hc]at e;cases e
 |alloc t=>
  obtain ⟨ti,B,e⟩:=N7 e;cases e;have hz:=hT t ti B;obtain⟨H,I,J,N⟩:=oV s U (.fz (hz.1 Z h)) hz.2 (fun b hb=>by
   obtain⟨i,hi⟩:=zqe hb;exact clo_okP ((hz.1 Z h).cell hi hi).2)
  exact⟨_,_,_,show onTI E t Res.bad (fun ti=>jU ti.size ti.zero h)=_ by rw[R6 B];rfl,H,I,J,N⟩
 |box t x=>
  obtain⟨ti,B,e⟩:=N7 e;have e:(if(opvP E x fr).cells.length=ti.size/\(opvP E x fr).cells.all Fr=zt then OpS.val (.ptr K.os.length 0 0) (newRow 1 [opvP E x fr] ti.size K)else .bad)=.val v K':=e;split at e
  . rename_i hc
    cases e;have Y:=zqf.1 hc.2;obtain⟨H,I,J,N⟩:=oV s U (V x) hc.1 Y;have aa:opvP E x fr≠.und:=fun e=>by
     have:=Y .und (by rw[e];exact zqh ..)
     cases this
    have ab:=(V x).cells aa;have ae:D7 (opv E x frc).cells=zt:=(G9 _).2 fun c ah=>by
     obtain⟨j,hj⟩:=zqe ah;have af:j<(opvP E x fr).cells.length:=by rw[<-ab.1];exact(zqb.1 hj).1
     exact(ab.2 j c _ hj (zqc af)).okc (Y _ (zqm af))
    refine⟨_,_,_,?_,H,I,J,N⟩;show onTI E t Res.bad (fun ti=>bif Nat.beq (lenL (opv E x frc).cells) ti.size&&D7 (opv E x frc).cells then jU ti.size (opv E x frc) h else .bad)=_
    rw[R6 B,A7,ab.1,hc.1,zkd,ae];rfl
  . cases e
 |build t ps=>
  obtain⟨ti,B,e⟩:=N7 e;obtain⟨e',rfl⟩:=Y7 e;have e:=e';obtain⟨vc,h1,h2⟩:=mF hT B (Ma hg a ps.toList) e;exact⟨ow,vc,h,.same s (show onTI E t Res.bad (fun ti=>lift (U1 E ti (opvps E ps.toList frc)) h)=_ by rw[R6 B,h1];rfl) h2⟩
 |buildSlice t n ps=>
  obtain⟨ti,B,e⟩:=N7 e;cases A:elemOfT E ti.desc with
  |none=>simp only[A]at e;cases e
  |some te=>
   simp only[A]at e;have e:=Se e;obtain⟨el,ai⟩:∃el,E.ti el=zsq te:=by
    unfold elemOfT at A;cases X:ti.desc with
    |slice el=>rw[X]at A;exact⟨el,A⟩
    |_=>rw[X]at A;cases A
   obtain⟨g1,g2,es,ow',g3,H,I,J,N⟩:=mH (e:=el) hT s U ai (Ma hg a ps.toList) e;exact⟨ow',_,_,BG B A g1 g2 g3,H,I,J,N⟩
 |insert t m k x=>cases e
 |load t p=>
  obtain⟨ti,B,e⟩:=N7 e;obtain⟨vc,h1,h2,h3,h4,h5,h6,ps,h7,h8⟩:=iK s (V p) (Se e);refine⟨ow,vc,h,show onTI E t Res.bad (fun ti=>lift (Eg ti (opv E p frc) h) h)=_ by rw[R6 B,h1];rfl,h2,h3,h4,fun b=>⟨zkb _,fun _ hz=>⟨hz,rfl⟩,fun _ hz=>.inl hz,fun _ _ _=>rfl,fun d M ho _ e=>(by rw[ho]at e;cases e),⟨[],rfl,fun d X=>(by cases X)⟩,fun d r t ho _=>.inl ⟨t,ho⟩,fun r hr _=>(by rw[h6];exact hr),h5,fun j _ c _=>.rfl,fun j hj hr=>?_⟩⟩;unfold isRt at hr|-;rw[h7,zqo (by omega)]at hr;exact hr
 |store t p x=>
  obtain⟨ti,B,e⟩:=N7 e;have e:=Se e;cases hs:storeP ti (opvP E p fr) (opvP E x fr) K with
  |none=>rw[hs]at e;cases e
  |some K1=>
   rw[hs]at e;cases e;obtain⟨h',ow',g1,g2,g3,g4⟩:=aH s (V p) (V x) hs;exact⟨ow',.und,h',show onTI E t Res.bad (fun ti=>liftH (Ct ti (opv E p frc) (opv E x frc) h))=_ by rw[R6 B,g1];rfl,g2,g3,.und,g4⟩
 |nilCheck x=>
  obtain⟨e',rfl⟩:=Y7 e;have e:=e';obtain⟨vc,h1,h2⟩:=dU (V x) e;exact⟨ow,vc,h,.same s (show lift (c8 (opv E x frc)) h=_ by rw[h1];rfl) h2⟩
 |binOp op t x y u=>
  have e:(if Oc (opvP E x fr)=zt/\Oc (opvP E y fr)=zt then Gq (Q1 op (O2 E t) (opvP E x fr) (opvP E y fr)) K else .bad)=.val v K':=e;split at e
  . rename_i hc
    obtain ⟨e',rfl⟩:=Y7 e;have e:=e';obtain⟨h1,h2⟩:=mC (V x) (V y) hc.1 hc.2 e;have h3:tI E op t (opv E x frc) (opv E y frc)=znq:=by
     have h4:Hy E t (opv E x frc) (opv E y frc)=znq\/(op≠.eql/\op≠.neq):=by
      by_cases ho:op=.eql\/op=.neq
      . left
        have aa:∀i k o i' k' o',opv E x frc=.ptr i k o->opv E y frc≠.ptr i' k' o':=fun i k o i' k' o' U hy=>by
         rw[U,hy]at h1;rcases ho with rfl|rfl
         . have h1:A6 (Ee (O2 E t) (.ptr i k o) (.ptr i' k' o')) E9=zsq v:=h1
           cases hk:O2 E t<;>rw[hk]at h1<;>cases h1
         . have h1:A6 (Ee (O2 E t) (.ptr i k o) (.ptr i' k' o')) (fun b=>E9 (!b))=zsq v:=h1
           cases hk:O2 E t<;>rw[hk]at h1<;>cases h1
        unfold Hy;cases C:opv E x frc with
        |ptr i k o=>
         cases al:opv E y frc with
         |ptr i' k' o'=>exact absurd al (aa _ _ _ _ _ _ C)
         |_=>rfl
        |_=>rfl
      . exact .inr ⟨fun e=>ho (.inl e),fun e=>ho (.inr e)⟩
     rcases h4 with h4|⟨h4,h5⟩
     . unfold tI
       rw[h4];cases op<;>rfl
     . cases op<;>first|rfl|exact absurd rfl h4|exact absurd rfl h5
    refine⟨ow,v,h,.same s ?_ (Wo h2)⟩;show lift (VI (tI E op t (opv E x frc) (opv E y frc)) (Q1 op (O2 E t) (opv E x frc) (opv E y frc))) h=_
    rw[h3,h1];rfl
  . cases e
 |unOp op t x=>
  obtain⟨e',rfl⟩:=Y7 e;have e:=e';obtain⟨h1,h2⟩:=sA (V x) e;exact⟨ow,v,h,.same s (show lift (Ox op (opv E x frc)) h=_ by rw[h1];rfl) (Wo h2)⟩
 |convert t d x=>
  obtain⟨ti,B,e⟩:=N7 e;obtain⟨td,aj,e⟩:=N7 e;obtain⟨e',rfl⟩:=Y7 e;have e:=e';obtain⟨h1,h2⟩:=dT (V x) e;exact⟨ow,v,h,.same s (show onTI E t Res.bad (fun _=>onTI E d .bad fun td=>lift (U0 td.desc (opv E x frc)) h)=_ by rw[R6 B,R6 aj,h1];rfl) (Wo h2)⟩
 |makeInterface t x=>
  obtain⟨ti,B,e⟩:=N7 e;cases hp:X7 ti.desc with
  |false=>rw[hp]at e;cases e
  |true=>
   rw[hp]at e;cases e;exact⟨ow,_,h,.same s (show onTI E t Res.bad (fun ti=>bif X7 ti.desc then .ok (.iface t (opv E x frc)) h else .bad)=_ by rw[R6 B,hp];rfl) (.iface (V x))⟩
 |makeFunc f fs cs=>
  cases e;have v1:=Gs hg a fs.toList;have v2:=Gs hg a cs.toList;exact⟨ow,_,h,.same s rfl (.fn v1.1 v1.2 v2.1 v2.2)⟩
 |makeMap t r=>
  cases r with
  |some r=>cases e
  |none=>
   cases e;obtain⟨H,I,J,N⟩:=rY s U;exact⟨_,_,_,rfl,H,I,J,N⟩
 |makeSlice t l c=>
  obtain⟨ti,B,e⟩:=N7 e;unfold Lo at e;cases A:elemOfT E ti.desc with
  |none=>rw[A]at e;cases e
  |some te=>
   cases hl:asNat (opvP E l fr)with
   |none=>rw[A,hl]at e;cases e
   |some n=>
    cases hc:asNat (opvP E c fr)with
    |none=>rw[A,hl,hc]at e;cases e
    |some m=>
     rw[A,hl,hc]at e;simp only at e;split at e
     . rename_i D
       cases e;have hz:(∀Z h,Fz Z h te.zero te.zero)/\te.zero.cells.length=te.size:=by
        unfold elemOfT at A;cases X:ti.desc with
        |slice el=>rw[X]at A;exact hT _ _ A
        |_=>rw[X]at A;cases A
       obtain⟨H,I,J,N⟩:=iM (n:=n) s U hz.1 hz.2;refine⟨_,_,_,?_,H,I,J,N⟩;show O7 E t l c frc h=_
       unfold O7;rw[R6 B];simp only[A,x9 (V l) hl,x9 (V c) hc];have e1:Nat.ble n m=zt:=zkc D.1;have e2:Nat.ble (Nat.mul m te.bytes) 140737488355328=zt:=zkc D.2.1;have e3:Nat.blt 0 te.size=zt:=zkc D.2.2;rw[e1,e2,e3,o6];rfl
     . cases e
 |slice t x lo hi mx=>
  obtain⟨ti,B,e⟩:=N7 e;cases hb:(hi.isNone&&mx.isSome)with
  |true=>rw[hb]at e;cases e
  |false=>
   rw[hb]at e;obtain⟨e',rfl⟩:=Y7 e;have e:=e';obtain⟨vc,h1,h2⟩:=mD (dV hg a lo) (dV hg a hi) (dV hg a mx) (V x) e;exact⟨ow,vc,h,.same s (show onTI E t Res.bad (fun ti=>bif hi.isNone&&mx.isSome then .bad else lift (sliceA E ti.desc (Mt E lo frc) (Mt E hi frc) (Mt E mx frc) (opv E x frc)) h)=_ by rw[R6 B,hb,h1];rfl) h2⟩
 |fieldAddr t x f=>
  obtain⟨ti,B,e⟩:=N7 e;obtain⟨e',rfl⟩:=Y7 e;have e:=e';unfold N8 at e;cases hf:fieldAt E ti f with
  |none=>rw[hf]at e;cases e
  |some p=>
   rw[hf]at e;simp only at e;split at e
   . rename_i hsz
     obtain⟨vc,h1,h2⟩:=Qf (V x) e;refine⟨ow,vc,h,.same s ?_ h2⟩;show onTI E t Res.bad (fun ti=>lift (A6 (fieldAt E ti f) fun p=>B0 (Nat.blt 0 p.1.size) (B9 (opv E x frc) p.2)) h)=_
     rw[R6 B,hf];show lift (B0 (Nat.blt 0 p.1.size) (B9 (opv E x frc) p.2)) h=_
     have:Nat.blt 0 p.1.size=zt:=zkc hsz
     rw[this,h1];rfl
   . cases e
 |field t x f=>
  obtain⟨ti,B,e⟩:=N7 e;obtain⟨e',rfl⟩:=Y7 e;have e:=e';unfold QO at e;cases hf:fieldAt E ti f with
  |none=>rw[hf]at e;cases e
  |some p=>
   rw[hf]at e;have G:=V x;cases C:opvP E x fr with
   |agg cs=>
    rw[C]at G;simp only[C]at e;obtain⟨xs,ak,hl⟩:=G.agI;obtain⟨vc,h1,h2⟩:=hl.part e;refine⟨ow,vc,h,.same s ?_ h2⟩;show onTI E t Res.bad (fun ti=>lift (A6 (fieldAt E ti f) fun p=>(opv E x frc).onAgg znq fun cs=>partOf p.1 cs p.2) h)=_
    rw[R6 B,hf,ak];show lift (partOf p.1 xs p.2) h=_
    rw[h1];rfl
   |_=>simp only[C]at e;cases e
 |indexAddr t x i=>
  obtain⟨ti,B,e⟩:=N7 e;obtain⟨e',rfl⟩:=Y7 e;have e:=e';unfold Hv at e;cases hn:asNat (opvP E i fr)with
  |none=>rw[hn]at e;cases e
  |some n=>
   rw[hn]at e;obtain⟨vc,h1,h2⟩:=Yl (V x) e;refine⟨ow,vc,h,.same s ?_ h2⟩;show onTI E t Res.bad (fun ti=>lift (A6 (asNat (opv E i frc)) fun i=>U2 E ti.desc i (opv E x frc)) h)=_
   rw[R6 B,x9 (V i) hn];show lift (U2 E ti.desc n (opv E x frc)) h=_
   rw[h1];rfl
 |index t x i=>
  obtain⟨ti,B,e⟩:=N7 e;obtain⟨e',rfl⟩:=Y7 e;have e:=e';unfold QP at e;cases hn:asNat (opvP E i fr)with
  |none=>rw[hn]at e;cases e
  |some n=>
   rw[hn]at e;obtain⟨vc,h1,h2⟩:=sB (V x) e;refine⟨ow,vc,h,.same s ?_ h2⟩;show onTI E t Res.bad (fun ti=>lift (A6 (asNat (opv E i frc)) fun i=>Eh E ti.desc i (opv E x frc)) h)=_
   rw[R6 B,x9 (V i) hn];show lift (Eh E ti.desc n (opv E x frc)) h=_
   rw[h1];rfl
 |lookup t m k ok=>obtain⟨ti,B,e⟩:=N7 e;cases e
 |mapUpdate t m k x=>cases e
 |typeAssert x t0 t ok=>
  obtain⟨ti,B,e⟩:=N7 e;cases hb:(X7 ti.desc && !ok)with
  |false=>rw[hb]at e;cases e
  |true=>
   rw[hb]at e;obtain⟨e',rfl⟩:=Y7 e;have e:=e';have G:=V x;cases C:opvP E x fr with
   |iface u w=>
    rw[C]at e G;have e:(bif Nat.beq u t then zsq w else znq)=zsq v:=e;cases ac:Nat.beq u t with
    |false=>rw[ac]at e;cases e
    |true=>
     rw[ac]at e;cases e;generalize hq:opv E x frc=q at G;cases G with
     |fz z=>cases z
     |iface vw=>
      refine⟨ow,_,h,.same s ?_ vw⟩;show onTI E t Res.bad (fun ti=>bif X7 ti.desc && !ok then lift (bG t (opv E x frc)) h else .bad)=_
      rw[R6 B,hb,hq];show lift (bif Nat.beq u t then zsq _ else znq) h=_
      rw[ac];rfl
   |_=>rw[C]at e;cases e
 |extract x i=>
  have e:(match opvP E x fr with | .tup vs=>Gq vs[i]? K|_=>.bad)=.val v K':=e;have G:=V x;cases C:opvP E x fr with
  |tup vs=>
   rw[C]at e G;obtain⟨e',rfl⟩:=Y7 e;have e:=e';generalize hq:opv E x frc=q at G;cases G with
   |fz z=>cases z
   |tup h1 h2=>
    rename_i xs;have hl:i<xs.length:=by rw[h1];exact(zqb.1 e).1
    refine⟨ow,xs[i],h,.same s ?_ (h2 i _ v (zqc hl) e)⟩;show(opv E x frc).onTup Res.bad (fun vs=>lift (Eb vs i) h)=_
    rw[hq];show lift (Eb xs i) h=_
    rw[S8,zqc hl];rfl
  |_=>rw[C]at e;cases e
 |call c=>
  obtain⟨Q,args,ts⟩:=c;cases Q with
  |builtin b=>exact mI hT s U (Gs hg a args.toList) (Se e)
  |value g=>
   have e:Lr (opvP E g fr) (opvL E args.toList fr)=.val v K':=e;unfold Lr at e;cases ag:opvP E g fr with
   |fn f fs cs=>rw[ag]at e;cases f<;>cases e
   |_=>rw[ag]at e;cases e
  |invoke=>cases e
 |panic x=>
  have e:(match opvP E x fr with | .iface t v=>OpS.pan (.iface t v)|_=>.bad)=.val v K':=e;split at e<;>cases e
 |_=>cases e
theorem Gv(hg:yA E)(a:FrR Z ow h K.os nt frc fr){op:Op}{f:Nat}{args:List AV}(e:prim E op fr K=.call f args):∃G,VL Z ow h K.os G args/\∀call:D5,evOp E call op frc h=call f G h:=by
 have V:=Bq hg a;have A:∀{t:Nat}{g:TI->OpS},(∀ti,g ti≠.call f args)->o7 E t g≠.call f args:=fun{t g} hn e=>by
  unfold o7 at e;cases U:E.ti t with
  |none=>rw[U]at e;cases e
  |some ti=>rw[U]at e;exact hn ti e
 have B:∀{o:Option AV},Gq o K≠.call f args:=fun{o} e=>by cases o<;>cases e
 have C:∀{o:Option (AV×PK)},Jd o≠.call f args:=fun{o} e=>by cases o<;>cases e
 cases op with
 |call c=>
  obtain⟨D,J,ts⟩:=c;cases D with
  |builtin b=>exact absurd e C
  |invoke=>cases e
  |value g=>
   have e:Lr (opvP E g fr) (opvL E J.toList fr)=.call f args:=e;unfold Lr at e;have Q:=V g;cases N:opvP E g fr with
   |fn f' fs cs=>
    rw[N]at e Q;cases f' with
    |func n=>
     cases e;generalize hq:opv E g frc=q at Q;cases Q with
     |fz z=>cases z
     |fn h1 h2 X Y=>
      rename_i H I;refine⟨H++(opvs E J.toList frc++I),VL.app ⟨h1,h2⟩ (VL.app (Gs hg a J.toList) ⟨X,Y⟩),fun call=>?_⟩;show i6 call (opv E g frc) (opvs E J.toList frc) h=_
      rw[hq];show call f (appL H (appL (opvs E J.toList frc) I)) h=_
      rw[Q3,Q3]
    |_=>cases e
   |_=>rw[N]at e;cases e
 |move|assign|makeFunc=>cases e
 |pick c p q=>
  have e:Ln (opvP E c fr) (opvP E p fr) (opvP E q fr) K=.call f args:=e;unfold Ln at e;split at e<;>cases e
 |alloc t=>exact absurd e (A fun ti e=>by cases e)
 |box t x=>exact absurd e (A fun ti e=>by unfold wQ at e;split at e<;>cases e)
 |build t ps=>exact absurd e (A fun ti=>B)
 |buildSlice t n ps=>exact absurd e (A fun ti e=>by split at e<;>first|exact C e|cases e)
 |insert=>cases e
 |load=>exact absurd e (A fun ti=>C)
 |store=>exact absurd e (A fun ti=>C)
 |nilCheck=>exact absurd e B
 |binOp op t x y u=>
  have e:V4 E op t (opvP E x fr) (opvP E y fr) K=.call f args:=e;unfold V4 at e;split at e
  . exact absurd e B
  . cases e
 |unOp=>exact absurd e B
 |convert=>exact absurd e (A fun ti=>A fun td=>B)
 |makeInterface t x=>exact absurd e (A fun ti e=>by cases hp:X7 ti.desc<;>rw[hp]at e<;>cases e)
 |makeMap t r=>cases r<;>cases e
 |makeSlice=>exact absurd e (A fun ti e=>by unfold Lo at e;split at e<;>first|cases e|(split at e<;>cases e))
 |slice t x lo hi mx=>exact absurd e (A fun ti e=>by
  cases hb:(hi.isNone&&mx.isSome)with
  |true=>rw[hb]at e;cases e
  |false=>rw[hb]at e;exact B e)
 |fieldAddr=>exact absurd e (A fun ti=>B)
 |field=>exact absurd e (A fun ti=>B)
 |indexAddr=>exact absurd e (A fun ti=>B)
 |index=>exact absurd e (A fun ti=>B)
 |lookup=>exact absurd e (A fun ti=>B)
 |mapUpdate=>cases e
 |typeAssert x t0 t ok=>exact absurd e (A fun ti e=>by
  cases hb:(X7 ti.desc && !ok)with
  |false=>rw[hb]at e;cases e
  |true=>rw[hb]at e;exact B e)
 |extract x i=>
  have e:(match opvP E x fr with | .tup vs=>Gq vs[i]? K|_=>.bad)=.call f args:=e;split at e
  . exact absurd e B
  . cases e
 |panic x=>
  have e:(match opvP E x fr with | .iface t v=>OpS.pan (.iface t v)|_=>.bad)=.call f args:=e;split at e<;>cases e
 |_=>cases e
theorem iU(hg:yA E)(a:FrR Z ow h K.os nt frc fr){op:Op}(e:prim E op fr K=.pan v):∃vc,VR Z ow h K.os vc v/\∀call:D5,evOp E call op frc h=.pan vc h:=by
 have V:=Bq hg a;have A:∀{t:Nat}{g:TI->OpS},(∀ti,g ti≠.pan v)->o7 E t g≠.pan v:=fun{t g} hn e=>by
  unfold o7 at e;cases I:E.ti t with
  |none=>rw[I]at e;cases e
  |some ti=>rw[I]at e;exact hn ti e
 have B:∀{o:Option AV},Gq o K≠.pan v:=fun{o} e=>by cases o<;>cases e
 have C:∀{o:Option (AV×PK)},Jd o≠.pan v:=fun{o} e=>by cases o<;>cases e
 cases op with
 |panic x=>
  have e:(match opvP E x fr with | .iface t v=>OpS.pan (.iface t v)|_=>.bad)=.pan v:=e;have H:=V x;cases G:opvP E x fr with
  |iface t w=>
   rw[G]at e H;cases e;generalize hq:opv E x frc=q at H;cases H with
   |fz z=>cases z
   |iface N=>exact⟨_,.iface N,fun call=>by show qG (opv E x frc) h=_;rw[hq];rfl⟩
  |_=>rw[G]at e;cases e
 |call c=>
  obtain⟨D,J,ts⟩:=c;cases D with
  |builtin b=>exact absurd e C
  |invoke=>cases e
  |value g=>
   have e:Lr (opvP E g fr) (opvL E J.toList fr)=.pan v:=e;unfold Lr at e;split at e
   . split at e<;>cases e
   . cases e
 |move|assign|makeFunc=>cases e
 |pick c p q=>
  have e:Ln (opvP E c fr) (opvP E p fr) (opvP E q fr) K=.pan v:=e;unfold Ln at e;split at e<;>cases e
 |alloc t=>exact absurd e (A fun ti e=>by cases e)
 |box t x=>exact absurd e (A fun ti e=>by unfold wQ at e;split at e<;>cases e)
 |build t ps=>exact absurd e (A fun ti=>B)
 |buildSlice t n ps=>exact absurd e (A fun ti e=>by split at e<;>first|exact C e|cases e)
 |insert=>cases e
 |load=>exact absurd e (A fun ti=>C)
 |store=>exact absurd e (A fun ti=>C)
 |nilCheck=>exact absurd e B
 |binOp op t x y u=>
  have e:V4 E op t (opvP E x fr) (opvP E y fr) K=.pan v:=e;unfold V4 at e;split at e
  . exact absurd e B
  . cases e
 |unOp=>exact absurd e B
 |convert=>exact absurd e (A fun ti=>A fun td=>B)
 |makeInterface t x=>exact absurd e (A fun ti e=>by cases Q:X7 ti.desc<;>rw[Q]at e<;>cases e)
 |makeMap t r=>cases r<;>cases e
 |makeSlice=>exact absurd e (A fun ti e=>by unfold Lo at e;split at e<;>first|cases e|(split at e<;>cases e))
 |slice t x lo hi mx=>exact absurd e (A fun ti e=>by
  cases hb:(hi.isNone&&mx.isSome)with
  |true=>rw[hb]at e;cases e
  |false=>rw[hb]at e;exact B e)
 |fieldAddr=>exact absurd e (A fun ti=>B)
 |field=>exact absurd e (A fun ti=>B)
 |indexAddr=>exact absurd e (A fun ti=>B)
 |index=>exact absurd e (A fun ti=>B)
 |lookup=>exact absurd e (A fun ti=>B)
 |mapUpdate=>cases e
 |typeAssert x t0 t ok=>exact absurd e (A fun ti e=>by
  cases hb:(X7 ti.desc && !ok)with
  |false=>rw[hb]at e;cases e
  |true=>rw[hb]at e;exact B e)
 |extract x i=>
  have e:(match opvP E x fr with | .tup vs=>Gq vs[i]? K|_=>.bad)=.pan v:=e;split at e
  . exact absurd e B
  . cases e
 |_=>cases e
end
section
variable {E:Env}{R:AV->AV->Prop}{Z Z':Nat->Prop}{ow ow' ow1 ow2:Nat->Option (List Nat)}{h h':Heap}{K K':PK}{os os' os1 os2:List PO}{x y xc yc v k:AV}{L M:List Nat}{nt:Nat}{frc:Tr}{fr:PF}{σ:Nat->Option Nat}
theorem renL_eq(σ:Nat->Option Nat):∀l:List AV,renL σ l=l.map (J3 σ)
 |[]=>rfl
 |v::l=>by rw[renL,renL_eq σ l];rfl
theorem iV{c:AV}(h:clo c=zt):J3 σ c=c:=by cases c<;>first|rfl|cases h
theorem BH(f:Fz Z h x y):J3 σ y=y:=by
 cases f with
 |agg h1 h2 h3=>
  rename_i xs ys;show AV.agg (renL σ ys)=.agg ys
  rw[renL_eq]
  have:ys.map (J3 σ)=ys:=by
   conv=>rhs;rw[<-List.map_id ys]
   grind[List.map_congr_left,iV]
  rw[this]
 |_=>rfl
theorem oY(v:AV):isAg (J3 σ v)=isAg v:=by
 cases v with
 |msl id off n sz=>unfold J3;cases σ id<;>rfl
 |ptr id i o=>unfold J3;cases σ id<;>rfl
 |map id=>unfold J3;cases σ id<;>rfl
 |_=>rfl
theorem Iw(v:AV):(J3 σ v).cells=v.cells.map (J3 σ)/\isAg (J3 σ v)=isAg v:=by
 refine⟨?_,oY v⟩;cases A:isAg v with
 |false=>grind[C7,oY]
 |true=>
  cases v with
  |agg cs=>show renL σ cs=_;rw[renL_eq];rfl
  |_=>cases A
theorem xD{c:AV}(h:Fr c=zt\/c=.und):Fr (J3 σ c)=zt\/J3 σ c=.und:=by
 rcases h with h|rfl
 . cases c with
   |msl id off n sz=>unfold J3;cases σ id<;>first|exact .inl rfl|grind
   |ptr id i o=>unfold J3;cases σ id<;>first|exact .inl rfl|grind
   |map id=>unfold J3;cases σ id<;>first|exact .inl rfl|grind
   |agg=>cases h
   |tup=>cases h
   |any=>exact .inr rfl
   |und=>exact .inr rfl
   |_=>exact .inl rfl
 . exact .inr rfl
def Ren(σ:Nat->Option Nat)(ow:Nat->Option (List Nat))(os:List PO)(ow':Nat->Option (List Nat))(os':List PO):Prop:=∀id j,σ id=zsq j->id<os.length->j<os'.length/\∀A,loP os' 6 j=zsq A->∃L,loP os 6 id=zsq L/\∀c,ow c=zsq L↔ow' c=zsq A
theorem VR.ren(v:VR Z ow h os x y)(hZ:∀id,Z id->Z' id/\h'.get id=h.get id)(C:Ren σ ow os ow' os'):VR Z' ow' h' os' x (J3 σ y):=by
 have D:∀{xs ys:List AV},xs.length=ys.length->(∀(i:Nat) x y,xs[i]?=zsq x->ys[i]?=zsq y->VR Z' ow' h' os' x (J3 σ y))->xs.length=(renL σ ys).length/\∀(i:Nat) x y,xs[i]?=zsq x->(renL σ ys)[i]?=zsq y->VR Z' ow' h' os' x y:=(by grind[Go.AM.renL_eq])
 induction v with
 |fz f=>rw[BH f];exact .fz (f.mono hZ)
 |und=>exact .und
 |any=>exact .und
 |@msl id c off n sz h1 h2=>
  unfold J3;cases A:σ id with
  |none=>exact .und
  |some j=>
   obtain⟨a,b⟩:=C id j A h2;exact .msl (by grind) a
 |@mnil x id sz e h1 h2=>
  unfold J3;cases A:σ id with
  |none=>exact .und
  |some j=>
   obtain⟨a,b⟩:=C id j A h2;exact .mnil e (by grind) a
 |@ptr id c i off h1 h2=>
  unfold J3;cases A:σ id with
  |none=>exact .und
  |some j=>
   obtain⟨a,b⟩:=C id j A h2;exact .ptr (by grind) a
 |@map id c h1 h2=>
  unfold J3;cases A:σ id with
  |none=>exact .und
  |some j=>
   obtain⟨a,b⟩:=C id j A h2;exact .map (by grind) a
 |agg h1 _ B=>obtain⟨a,b⟩:=D h1 B;exact .agg a b
 |tup h1 _ B=>obtain⟨a,b⟩:=D h1 B;exact .tup a b
 |fn h1 _ I _ G H=>obtain⟨a,b⟩:=D h1 G;obtain⟨c,d⟩:=D I H;exact .fn a b c d
 |iface _ B=>exact .iface B
theorem VL.ren{xs ys:List AV}(v:VL Z ow h os xs ys)(hZ:∀id,Z id->Z' id/\h'.get id=h.get id)(C:Ren σ ow os ow' os'):VL Z' ow' h' os' xs (renL σ ys):=by
 rw[renL_eq];refine⟨by simpa using v.1,fun i x y D A=>?_⟩;rw[zqg]at A;cases B:ys[i]? with
 |none=>grind
 |some q=>rw[B]at A;cases A;exact(v.2 i x q D B).ren hZ C
theorem RawR.ren{r j c sz:Nat}{es ces:List AV}(g:RawR (VR Z ow h os) ow h r es sz c ces)(hZ:∀id,Z id->Z' id/\h'.get id=h.get id)(H:Ren σ ow os ow' os')(ho:ow' c=zsq [j])(hn:h.next<=h'.next)(hg:h'.get c=h.get c)(D:∀a t,ow' a=zsq (j::t)->t=[]):RawR (VR Z' ow' h' os') ow' h' j (renL σ es) sz c ces:=by
 refine⟨ho,zka g.lt hn,hg.trans g.get,?_,fun i x y G A o a b ha hb=>?_,fun i y A b hb=>?_,D⟩
 . rw [renL_eq]
   refine⟨by simpa using g.sh.1,fun i x y G A=>?_⟩;rw[zqg]at A;cases B:es[i]? with
   |none=>grind
   |some q=>
    rw[B]at A;cases A
    have:=g.sh.2 i x q G B
    grind[Iw]
 . rw [renL_eq,zqg]at A
   cases B:es[i]? with
   |none=>grind
   |some q=>
    rw[B]at A;cases A;rw[(Iw q).1,zqg]at hb;cases C:q.cells[o]? with
    |none=>grind
    |some w=>rw[C]at hb;cases hb;exact(g.vr i x q G B o a w ha C).ren hZ H
 . rw [renL_eq,zqg]at A
   cases B:es[i]? with
   |none=>grind
   |some q=>
    rw[B]at A;cases A;rw[(Iw q).1]at hb;obtain⟨w,C,rfl⟩:=zql.1 hb;exact xD (g.okp i q B w C)
theorem posOf_some:∀(l:List Nat)(id j:Nat),posOf l id=zsq j->l[j]?=zsq id
 |[],_,_,e=>by cases e
 |a :: l,id,j,e=>by
  unfold posOf at e;split at e
  . grind
  . cases A:posOf l id with
    |none=>grind
    |some m=>rw[A]at e;cases e;exact posOf_some l id m A
theorem J2:∀(l:List Nat)(id j:Nat),l.Nodup->l[j]?=zsq id->posOf l id=zsq j
 |[],_,_,_,e=>by simp at e
 |a::l,id,0,_,e=>by cases e;unfold posOf;grind
 |a::l,id,j+1,hn,e=>by
  have hn:=zqt.1 hn;have A:a≠id:=(by grind)
  unfold posOf;rw[if_neg A,J2 l id j hn.2 (by grind)];rfl
theorem Bk(s:Nat->List Nat):∀(n:Nat)(B A:List Nat),A.Nodup->(k7 s n B A).Nodup/\∃m,k7 s n B A=A++m
 |0,_,A,h=>⟨h,[],by simp[k7]⟩
 |n+1,[],A,h=>⟨h,[],by simp[k7]⟩
 |n + 1,id::B,A,h=>by
  unfold k7;split
  . exact Bk s n B A h
  . rename_i hm
    have h1:(A++[id]).Nodup:=(by grind)
    obtain⟨a,m,b⟩:=Bk s n (B++s id) (A++[id]) h1;grind
def rown(σ:Nat->Option Nat)(ow:Nat->Option (List Nat)):Nat->Option (List Nat):=fun d=>match ow d with
 |some (r::t)=>(match σ r with|some j=>zsq (j::t)|none=>znq)
 |_=>znq
theorem D8{d:Nat}{M:List Nat}:rown σ ow d=zsq M↔∃r j t,ow d=zsq (r::t)/\σ r=zsq j/\M=j::t:=by
 unfold rown;grind
theorem entryAt_eq(os:List PO)(id:Nat):(os[id]?=zsq (entryAt os id))\/(os[id]?=znq/\entryAt os id=.dead):=by
 unfold entryAt;grind
theorem Wr(s:I6 Z ow h os){ids:List Nat}(hn:ids.Nodup){f:PO->PO}(hf:∀e,f e=e\/((∃p i o,e=.sub p i o)/\f e=.dead))(Y:os'=ids.map fun id=>f (renPO (posOf ids) (entryAt os id))):
 I6 Z (rown (posOf ids) ow) h os'/\Ren (posOf ids) ow os (rown (posOf ids) ow) os':=by
 have D:∀(j:Nat) e,os'[j]?=zsq e->∃id,ids[j]?=zsq id/\e=f (renPO (posOf ids) (entryAt os id)):=(by grind)
 have H:∀(j:Nat) k es sz,os'[j]?=zsq (.row k es sz)->∃id es0,ids[j]?=zsq id/\os[id]?=zsq (.row k es0 sz)/\((k=0/\es=es0)\/(k≠0/\es=renL (posOf ids) es0)):=fun j k es sz B=>by
  obtain ⟨id,h1,h2⟩:=D j _ B;have A:renPO (posOf ids) (entryAt os id)=.row k es sz:=by
   grind
  rcases entryAt_eq os id with C|⟨_,C⟩
  . cases G:entryAt os id with
    |row k' es' V=>
     rw[G]at A C;cases k' with
     |_=>cases A;grind
    |sub p i o=>grind[renPO]
    |_=>rw[G]at A;cases A
  . rw[C]at A;cases A
 have J:∀(j:Nat) es,os'[j]?=zsq (.mapo es)->∃id,ids[j]?=zsq id/\os[id]?=zsq (.mapo es):=fun j es B=>by
  obtain ⟨id,h1,h2⟩:=D j _ B;have A:renPO (posOf ids) (entryAt os id)=.mapo es:=by
   grind
  rcases entryAt_eq os id with C|⟨_,C⟩
  . cases G:entryAt os id with
    |row k' es' V=>rw[G]at A;cases k'<;>cases A
    |mapo=>rw[G]at A C;cases A;grind
    |sub p i o=>grind[renPO]
    |dead=>rw[G]at A;cases A
  . rw[C]at A;cases A
 have N:∀(j:Nat) p i o,os'[j]?=zsq (.sub p i o)->∃id p0,ids[j]?=zsq id/\os[id]?=zsq (.sub p0 i o)/\posOf ids p0=zsq p:=fun j p i o B=>by
  obtain ⟨id,h1,h2⟩:=D j _ B;have A:renPO (posOf ids) (entryAt os id)=.sub p i o:=by
   grind
  rcases entryAt_eq os id with C|⟨_,C⟩
  . cases G:entryAt os id with
    |row k' es' V=>rw[G]at A;cases k'<;>cases A
    |sub p0 i0 o0=>
     grind[renPO]
    |_=>rw[G]at A;cases A
  . rw[C]at A;cases A
 have Q:os'.length=ids.length:=by grind
 have ho:∀d (j id:Nat) t,ids[j]?=zsq id->(rown (posOf ids) ow d=zsq (j::t)↔ow d=zsq (id::t)):=fun d j id t B=>by
  rw[D8]
  constructor
  . rintro⟨r,j',t',h1,h2,A⟩
    cases A
    have:=posOf_some ids r _ h2
    grind
  . exact fun h1=>⟨id,j,t,h1,J2 ids id j hn B,rfl⟩
 have ab:∀(n j:Nat)(I:List Nat),loP os' n j=zsq I->∃id r q t,ids[j]?=zsq id/\loP os n id=zsq (r::t)/\posOf ids r=zsq q/\I=q::t:=fun n=>by
  induction n with
  |zero=>exact fun j I e=>by cases e
  |succ n ih=>
   intro j I e;unfold loP at e;cases B:os'[j]? with
   |none=>grind
   |some en=>
    rw[B]at e;cases en with
    |row k es sz=>
     cases e;obtain⟨id,es0,h1,h2,_⟩:=H j k es sz B;exact⟨id,id,j,[],h1,by grind[loP],J2 ids id j hn h1,rfl⟩
    |mapo es=>
     cases e;obtain⟨id,h1,h2⟩:=J j es B;exact⟨id,id,j,[],h1,by grind[loP],J2 ids id j hn h1,rfl⟩
    |dead=>cases e
    |sub p i o=>
     simp only at e;cases hp:loP os' n p with
     |none=>grind
     |some Lp=>
      rw[hp]at e;cases e;obtain⟨id,p0,h1,h2,A⟩:=N j p i o B;obtain⟨id',r,q,t,C,X,U,rfl⟩:=ih p Lp hp
      have:id'=p0:=by
       have:=posOf_some ids p0 p A
       grind
      subst this;exact⟨id,r,q,t++[i,o],h1,by grind[loP],U,by simp⟩
 have hR:Ren (posOf ids) ow os (rown (posOf ids) ow) os':=fun id j B _=>by
  have hj':=posOf_some ids id j B;refine⟨by grind,fun I aa=>?_⟩;obtain⟨id',r,q,t,h1,h2,A,rfl⟩:=ab 6 j I aa;grind[posOf_some]
 refine⟨⟨fun j es sz B=>?_,fun j k es sz B hk=>?_,fun j es B=>?_,fun a b M ha hb=>?_,fun a M ha=>?_,s.zb,fun j p i o B=>?_⟩,hR⟩
 . obtain ⟨id,es0,h1,h2,A⟩:=H j 0 es sz B
   rcases A with⟨_,rfl⟩|⟨A,_⟩
   . obtain⟨x,hx⟩:=s.row id es sz h2
     exact⟨x,hx.reloc (zkb _) (fun _ hz=>⟨hz,rfl⟩) (fun d t=>ho d j id t h1) (fun _ _ _=>rfl)⟩
   grind
 . obtain ⟨id,es0,h1,h2,A⟩:=H j k es sz B
   rcases A with⟨A,_⟩|⟨_,rfl⟩
   . grind
   . obtain⟨c,ces,g⟩:=s.raw id k es0 sz h2 hk
     exact⟨c,ces,g.ren (fun _ hz=>⟨hz,rfl⟩) hR ((ho c j id [] h1).2 g.o) (zkb _) rfl (fun a t ha=>g.no a t ((ho a j id t h1).1 ha))⟩
 . obtain⟨id,h1,h2⟩:=J j es B
   obtain⟨c,ces,g⟩:=s.map id es h2;exact⟨c,ces,(ho c j id [] h1).2 g.o,g.lt,g.get,g.len,g.kv,fun a t ha=>g.no a t ((ho a j id t h1).1 ha)⟩
 . obtain⟨r,j,t,h1,h2,rfl⟩:=D8.1 ha
   obtain⟨r',j',t',A,C,X⟩:=D8.1 hb;cases X;have e1:=posOf_some ids r j h2;have e2:=posOf_some ids r' _ C;rw[e1]at e2;cases e2;exact s.inj _ _ _ h1 A
 . obtain ⟨r,j,t,h1,h2,rfl⟩:=D8.1 ha
   obtain⟨A,C,r',t',X,U⟩:=s.live a _ h1;cases X;refine⟨A,C,j,t,rfl,?_⟩;have B:=posOf_some ids r j h2;unfold isRt at U|-;rw[Y,zqg,B];show(match zsq (f (renPO (posOf ids) (entryAt os r)))with|some (.row _ _ _)=>zt|some (.mapo _)=>zt|_=>zf)=zt
   unfold entryAt;cases G:os[r]? with
   |none=>grind
   |some e=>
    rw[G]at U;cases e with
    |row k es sz=>
     have:f (renPO (posOf ids) (.row k es sz))=renPO (posOf ids) (.row k es sz):=by
      grind[renPO]
     simp only[this];cases k<;>rfl
    |mapo es=>
     grind[renPO]
    |_=>cases U
 . obtain⟨id,p0,h1,h2,A⟩:=N j p i o B
   rw[Q];exact(zqb.1 (posOf_some ids p0 p A)).1
theorem xE{keep:List Nat}:(markIds keep fr K).Nodup/\∀j,j<K.ext->(markIds keep fr K)[j]?=zsq j:=by
 grind[markIds,Bk]
theorem look_keep(σ:Nat->Option Nat)(fr:PF):∀(keep:List Nat)(i:Nat),lookP (keep.map fun i=>(i,J3 σ (lookP fr i))) i=J3 σ (lookP fr i)\/lookP (keep.map fun i=>(i,J3 σ (lookP fr i))) i=.und
 |[],i=>.inr rfl
 |k::keep,i=>by
  show(if k=i then J3 σ (lookP fr k)else lookP (keep.map fun i=>(i,J3 σ (lookP fr i))) i)=_\/(if k=i then J3 σ (lookP fr k)else lookP (keep.map fun i=>(i,J3 σ (lookP fr i))) i)=_
  by_cases e:k=i
  . grind
  . rw[if_neg e];exact look_keep σ fr keep i
theorem xF{ids:List Nat}{j:Nat}(hj:ids[j]?=zsq j){ext:Nat}{tch:List Nat}:isRt (HW ids K ext tch).os j=zt->isRt K.os j=zt:=by
 intro A;unfold isRt at A|-
 have:(HW ids K ext tch).os[j]?=zsq (renPO (posOf ids) (entryAt K.os j)):=by
  show(ids.map fun id=>renPO (posOf ids) (entryAt K.os id))[j]?=_
  grind
 rw[this]at A;unfold entryAt at A;cases B:K.os[j]? with
 |none=>rw[B]at A;cases A
 |some e=>
  rw[B]at A;cases e with
  |dead=>cases A
  |sub p i o=>
   grind[renPO]
  |_=>rfl
theorem Mb(s:I6 Z ow h K.os)(a:FrR Z ow h K.os nt frc fr)(keep:List Nat):∃ow',I6 Z ow' h (J0 keep fr K).2.os/\FrR Z ow' h (J0 keep fr K).2.os nt frc (J0 keep fr K).1/\Stp K.ext Z ow h K Z ow' h (J0 keep fr K).2/\K.ext<=(J0 keep fr K).2.os.length/\∀id,id<K.ext->id<K.os.length->∀C,loP (J0 keep fr K).2.os 6 id=zsq C->∃L,loP K.os 6 id=zsq L/\∀c,ow c=zsq L↔ow' c=zsq C:=by
 obtain⟨hn,H⟩:=xE (fr:=fr) (K:=K) (keep:=keep);obtain⟨h1,h2⟩:=Wr s hn (f:=id) (fun e=>.inl rfl) (os':=(J0 keep fr K).2.os) rfl;have G:∀j,j<K.ext->posOf (markIds keep fr K) j=zsq j:=fun j B=>J2 _ _ _ hn (H j B)
 have hlen:(J0 keep fr K).2.os.length=(markIds keep fr K).length:=by show((markIds keep fr K).map _).length=_;simp
 refine⟨_,h1,⟨fun i=>?_,a.has⟩,⟨zkb _,fun _ hz=>⟨hz,rfl⟩,fun _ hz=>.inl hz,fun _ _ _=>rfl,fun d M D _ e=>?_,⟨[],rfl,fun d D=>by cases D⟩,fun d r t ho A=>?_,fun r A hl=>?_,rfl,fun j B c A=>?_,fun j B A=>xF (H j B) A⟩,?_,fun id hi hl=>(h2 id id (G id hi) hl).2⟩
 . rcases look_keep (posOf (markIds keep fr K)) fr keep i with e|e
   . show VR _ _ _ _ _ (lookP (keep.map fun i=>(i,J3 (posOf (markIds keep fr K)) (lookP fr i))) i)
     rw[e];exact(a.v i).ren (fun _ hz=>⟨hz,rfl⟩) h2
   . show VR _ _ _ _ _ (lookP (keep.map fun i=>(i,J3 (posOf (markIds keep fr K)) (lookP fr i))) i)
     rw[e];exact .und
 . grind[D8]
 . exact .inl ⟨t,D8.2 ⟨r,r,t,ho,G r A,rfl⟩⟩
 . exact zqp.2 ⟨A,by grind⟩
 . rw[D8]
   constructor
   . grind
   grind[posOf_some]
 grind
end
section
variable {E:Env}{R:AV->AV->Prop}{Z Z' Z1:Nat->Prop}{ow ow' ow1 ow2:Nat->Option (List Nat)}{h h' h1:Heap}{K K' K1:PK}{os os' os1 os2:List PO}{x y xc yc v k:AV}{L M:List Nat}{nt:Nat}{frc:Tr}{fr:PF}{σ:Nat->Option Nat}
theorem Og(os:List PO)(ids:List Nat):∀(l:List PO)(n j:Nat),(killU os ids n l)[j]?=(l[j]?).map fun e=>match e with | .sub p i o=>if ids.contains (n+j)||(chainOf os 6 p).any (fun q=>ids.contains q)then .dead else .sub p i o|e=>e
 |[],n,j=>by simp[killU]
 |e::l,n,0=>rfl
 |e::l,n,j+1=>by
  show(killU os ids (n+1) l)[j]?=(l[j]?).map _
  rw[Og os ids l (n+1) j,show n+1+j=n+(j+1) by omega]
theorem aL(os:List PO)(ids:List Nat):∀(l:List PO)(n:Nat),(killU os ids n l).length=l.length
 |[],_=>rfl
 |e::l,n=>congrArg Nat.succ (aL os ids l (n+1))
theorem xG(os:List PO)(ids:List Nat):Wk os (killU os ids 0 os):=by
 refine⟨aL _ _ _ _,fun j=>?_⟩;rw[Og];grind
theorem aM{ids:List Nat}{j p i o:Nat}(e:(killU os ids 0 os)[j]?=zsq (.sub p i o)):(∀q∈chainOf os 6 p,¬q∈ids)/\¬j∈ids:=by
 rw[Og]at e;grind
theorem Ws:∀(n id:Nat),rootOf os n id∈chainOf os n id
 |0,id=>zqq.2 rfl
 |n+1,id=>by
  unfold rootOf chainOf;cases os[id]? with
  |none=>grind
  |some e=>
   cases e with
   |sub p i o=>exact zqu _ (Ws n p)
   |_=>grind
theorem IE{n m id:Nat}(A:n<=m)(e:loP os n id=zsq L):loP os m id=zsq L:=by
 induction A with
 |refl=>exact e
 |step _ B=>exact Lw _ _ _ B
def UO(ρ:Nat->Option Nat)(os os':List PO)(id:Nat)(e:PO):Prop:=
 (∃k es sz k' es' A,os[id]?=zsq (.row k es sz)/\e=.row k' es' A/\os'[id]?=zsq (renPO ρ e))\/(∃k es sz,os[id]?=zsq (.row k es sz)/\e=.dead/\os'[id]?=zsq .dead)\/(∃es es',os[id]?=zsq (.mapo es)/\e=.mapo es'/\os'[id]?=zsq (.mapo es'))\/(isRt os id=zf/\e=.dead/\os'[id]?=os[id]?)
theorem k9{ρ:Nat->Option Nat}:∀(ids:List Nat)(l os os':List PO),putBack ρ ids l os=zsq os'->ids.Nodup->os'.length=os.length/\(∀r,¬r∈ids->os'[r]?=os[r]?)/\∀(j id:Nat),ids[j]?=zsq id->∃e,l[j]?=zsq e/\UO ρ os os' id e
 |[],l,os,os',e,_=>by cases e;grind
 |id::ids,[],os,os',e,_=>by cases e
 |id :: ids,a::l,os,os',e,hn=>by
  have hn:=zqt.1 hn;have step:∀{D:PO},id<os.length->putBack ρ ids l (os.set id D)=zsq os'->os'.length=os.length/\(∀r,¬r∈id::ids->os'[r]?=os[r]?)/\os'[id]?=zsq D/\∀(j id':Nat),ids[j]?=zsq id'->∃e,l[j]?=zsq e/\UO ρ os os' id' e:=fun{D} hl H=>by
   obtain⟨h1,h2,B⟩:=k9 ids l _ os' H hn.2;refine⟨by grind,fun r hr=>?_,?_,fun j id' A=>?_⟩
   . grind
   . grind
   . obtain⟨e,G,h5⟩:=B j id' A
     grind[UO,isRt]
  unfold putBack at e;cases C:os[id]? with
  |none=>
   rw[C]at e;simp only at e;cases a with
   |dead=>
    obtain⟨h1,h2,B⟩:=k9 ids l os os' e hn.2;refine⟨h1,(by grind),fun j id' A=>?_⟩;cases j with
    |zero=>cases A;exact⟨.dead,rfl,.inr (.inr (.inr ⟨by grind[isRt],rfl,h2 _ hn.1⟩))⟩
    |succ j=>grind
   |_=>cases e
  |some b=>
   have hl:id<os.length:=(zqb.1 C).1;rw[C]at e;cases b with
   |row k es sz=>
    simp only at e;cases a with
    |row k' es' sz'=>
     obtain⟨h1,h2,B,G⟩:=step hl e;refine⟨h1,h2,fun j id' A=>?_⟩;cases j with
     |zero=>cases A;exact⟨_,rfl,.inl ⟨_,_,_,_,_,_,C,rfl,B⟩⟩
     |succ j=>grind
    |dead=>
     obtain⟨h1,h2,B,G⟩:=step hl e;refine⟨h1,h2,fun j id' A=>?_⟩;cases j with
     |zero=>cases A;exact⟨_,rfl,.inr (.inl ⟨_,_,_,C,rfl,B⟩)⟩
     |succ j=>grind
    |_=>cases e
   |mapo es=>
    simp only at e;cases a with
    |mapo es'=>
     obtain⟨h1,h2,B,G⟩:=step hl e;refine⟨h1,h2,fun j id' A=>?_⟩;cases j with
     |zero=>cases A;exact⟨_,rfl,.inr (.inr (.inl ⟨_,_,C,rfl,B⟩))⟩
     |succ j=>grind
    |_=>cases e
   |sub p i o=>
    simp only at e;cases a with
    |dead=>
     obtain⟨h1,h2,B⟩:=k9 ids l os os' e hn.2;refine⟨h1,(by grind),fun j id' A=>?_⟩;cases j with
     |zero=>cases A;exact⟨.dead,rfl,.inr (.inr (.inr ⟨by grind[isRt],rfl,h2 _ hn.1⟩))⟩
     |succ j=>grind
    |_=>cases e
   |dead=>
    simp only at e;cases a with
    |dead=>
     obtain⟨h1,h2,B⟩:=k9 ids l os os' e hn.2;refine⟨h1,(by grind),fun j id' A=>?_⟩;cases j with
     |zero=>cases A;exact⟨.dead,rfl,.inr (.inr (.inr ⟨by grind[isRt],rfl,h2 _ hn.1⟩))⟩
     |succ j=>grind
    |_=>cases e
theorem iW(s:I6 Z ow h K.os)(hx:K.ext<=K.os.length){ids:List Nat}(hn:ids.Nodup)(s1:I6 Z1 ow1 h1 K1.os)(st:Stp ids.length Z (rown (posOf ids) ow) h (focusK ids K) Z1 ow1 h1 K1)(U:mergeK ids K K1=zsq K'):
 ∃ow',I6 Z1 ow' h1 K'.os/\Keep' ow K.os ow' K'.os/\(∀b,Stp b Z ow h K Z1 ow' h1 K')/\Ren (backN ids K.os.length) ow1 K1.os ow' K'.os:=by
 unfold mergeK at U;split at U
 rotate_left
 . cases U
 rename_i av;have ad:∀i∈ids,i<K.os.length:=fun i hi=>by simpa using zqf.1 av i hi
 cases hp:putBack (backN ids K.os.length) ids K1.os (killU K.os ids 0 K.os)with
 |none=>rw[hp]at U;cases U
 |some A=>
  rw [hp]at U;cases U;have w:=xG K.os ids;obtain⟨p1,p2,p3⟩:=k9 ids K1.os _ A hp hn;have hbl:A.length=K.os.length:=p1.trans w.1;have hext:(focusK ids K).ext=ids.length:=rfl;have a6:∀(j id:Nat),ids[j]?=zsq id->isRt (focusK ids K).os j=isRt K.os id:=fun j id D=>by
   unfold isRt
   have:(focusK ids K).os[j]?=zsq (cutPO (renPO (posOf ids) (entryAt K.os id))):=by
    show(ids.map fun id=>cutPO (renPO (posOf ids) (entryAt K.os id)))[j]?=_
    rw[zqg,D];rfl
   rw[this];unfold entryAt;cases he:K.os[id]? with
   |none=>rfl
   |some e=>
    cases e with
    |row k es sz=>cases k<;>rfl
    |sub p i o=>
     show(match zsq (cutPO (match posOf ids p with|some q=>PO.sub q i o|none=>.dead))with|some (.row _ _ _)=>zt|some (.mapo _)=>zt|_=>zf)=zf
     cases posOf ids p<;>rfl
    |_=>rfl
  have hkind:∀(j id:Nat),ids[j]?=zsq id->isRt K1.os j=zt->isRt K.os id=zt/\id<K.os.length:=fun j id D C=>by
   have ab:j<ids.length:=(zqb.1 D).1
   have:=st.rd j ab C
   rw[a6 j id D]at this;exact⟨this,isRt_lt this⟩
  have aw:∀(j id:Nat),ids[j]?=zsq id->backN ids K.os.length j=zsq id:=fun j id D=>by unfold backN;rw[D]
  have hb2:∀j,ids.length<=j->backN ids K.os.length j=zsq (K.os.length+(j-ids.length)):=fun j D=>by
   unfold backN;rw[List.getElem?_eq_none D]
  have Y:∀j r,backN ids K.os.length j=zsq r->ids[j]?=zsq r\/(ids.length<=j/\r=K.os.length+(j-ids.length)):=fun j r C=>by
   unfold backN at C;cases H:ids[j]? with
   |some id=>rw[H]at C;cases C;exact .inl rfl
   |none=>rw[H]at C;cases C;exact .inr ⟨by simpa using H,rfl⟩
  let ow':Nat->Option (List Nat):=fun d=>match rown (backN ids K.os.length) ow1 d with
   |some M=>zsq M
   |none=>if d<h.next/\(rown (posOf ids) ow d).isNone=zt then ow d else znq
  have ae:∀d r t,ow' d=zsq (r::t)↔(∃j,ow1 d=zsq (j::t)/\backN ids K.os.length j=zsq r)\/(rown (posOf ids) ow d=znq/\d<h.next/\ow d=zsq (r::t)):=fun d r t=>by
   show (match rown (backN ids K.os.length) ow1 d with
    |some M=>zsq M
    |none=>if d<h.next/\(rown (posOf ids) ow d).isNone=zt then ow d else znq)=zsq (r::t)↔_
   cases H:rown (backN ids K.os.length) ow1 d with
   |some M=>
    simp only;obtain⟨r',j,t',G,V,Q⟩:=D8.1 H
    constructor
    . intro e;cases e;cases Q;exact .inl ⟨r',G,V⟩
    . rintro (⟨X,I,B⟩|⟨I,B,b3⟩)
      . rw[G]at I;cases I
        rw[V]at B;cases B;rw[Q]
      . exact absurd I (st.uo d _ G B)
   |none=>
    simp only
    constructor
    . intro e
      split at e
      . rename_i hc
        refine .inr ⟨?_,hc.1,e⟩;cases h2:rown (posOf ids) ow d with
        |none=>rfl
        |some M=>rw[h2]at hc;cases hc.2
      . cases e
    . rintro(⟨X,I,B⟩|⟨I,B,b3⟩)
      . rw[D8.2 ⟨X,r,t,I,B,rfl⟩]at H;cases H
      . rw[if_pos ⟨B,by rw[I];rfl⟩];exact b3
  have ap:∀d M,ow' d=zsq M->∃r t,M=r::t:=fun d M J=>by
   have J:(match rown (backN ids K.os.length) ow1 d with
    |some M=>zsq M
    |none=>if d<h.next/\(rown (posOf ids) ow d).isNone=zt then ow d else znq)=zsq M:=J
   cases H:rown (backN ids K.os.length) ow1 d with
   |some N=>
    rw[H]at J;cases J;obtain⟨_,j,t,_,_,Q⟩:=D8.1 H;exact⟨j,t,Q⟩
   |none=>
    rw[H]at J;simp only at J;split at J
    . obtain⟨_,_,r,t,a,_⟩:=s.live d M J;exact⟨r,t,a⟩
    . cases J
  have ag:∀d r t,ow d=zsq (r::t)->r<K.os.length:=fun d r t J=>by
   obtain⟨_,_,r',t',a,b⟩:=s.live d _ J;cases a;exact isRt_lt b
  have ak:∀d r t,ow d=zsq (r::t)->¬r∈ids->rown (posOf ids) ow d=znq:=fun d r t J C=>by
   cases H:rown (posOf ids) ow d with
   |none=>rfl
   |some M=>
    obtain⟨r',j,t',G,V,_⟩:=D8.1 H;rw[J]at G;cases G;exact absurd (zqa (posOf_some ids r j V)) C
  have hB:∀d r t,¬r∈ids->r<K.os.length->(ow' d=zsq (r::t)↔ow d=zsq (r::t)):=fun d r t C hl=>by
   rw[ae]
   constructor
   . grind
   . exact fun J=>.inr ⟨ak d r t J C,(s.live d _ J).1,J⟩
  have hC:∀d (j r:Nat) t,ids[j]?=zsq r->r<K.os.length->(ow' d=zsq (r::t)↔ow1 d=zsq (j::t)):=fun d j r t D hl=>by
   rw[ae]
   constructor
   . rintro (⟨X,I,B⟩|⟨I,_,b3⟩)
     . rcases Y X r B with c|⟨_,c⟩
       . have:=J2 ids r X hn c
         rw[J2 ids r j hn D]at this;grind
       . omega
     . rw[D8.2 ⟨r,j,t,b3,J2 ids r j hn D,rfl⟩]at I;cases I
   grind
  have hD:∀d j t,ids.length<=j->(ow' d=zsq ((K.os.length+(j-ids.length))::t)↔ow1 d=zsq (j::t)):=fun d j t D=>by
   rw[ae];grind
  have hz:∀d,Z d->Z1 d/\h1.get d=h.get d:=st.zz;have aq:∀d r t,ow d=zsq (r::t)->¬r∈ids->h1.get d=h.get d:=fun d r t J C=>st.un d (s.live d _ J).1 (ak d r t J C)
  have ax:∀{r:Nat}{e:PO},(A++(K1.os.drop ids.length).map (renPO (backN ids K.os.length)))[r]?=zsq e->(¬r∈ids/\r<K.os.length/\(killU K.os ids 0 K.os)[r]?=zsq e)\/(∃j e1,ids[j]?=zsq r/\r<K.os.length/\K1.os[j]?=zsq e1/\UO (backN ids K.os.length) (killU K.os ids 0 K.os) A r e1/\A[r]?=zsq e)\/∃j e1,ids.length<=j/\r=K.os.length+(j-ids.length)/\K1.os[j]?=zsq e1/\e=renPO (backN ids K.os.length) e1:=fun{r e} C=>by
   rw[List.getElem?_append]at C;split at C
   . rename_i hl
     by_cases U:r∈ids
     . obtain⟨j,D⟩:=zqe U
       obtain⟨e1,q1,q2⟩:=p3 j r D;exact .inr (.inl ⟨j,e1,D,by omega,q1,q2,C⟩)
     grind
   grind
  have af:∀{e1:PO}{k es sz},renPO (backN ids K.os.length) e1=.row k es sz->∃es0,e1=.row k es0 sz/\((k=0/\es=es0)\/(k≠0/\es=renL (backN ids K.os.length) es0)):=fun{e1 k es sz} he=>by
   cases e1 with
   |row k' es' aj=>
    cases k' with
    |_=>cases he;grind
   |sub p i o=>unfold renPO at he;simp only at he;cases H:backN ids K.os.length p<;>rw[H]at he<;>cases he
   |_=>cases he
  have ac:∀{r:Nat}{e:PO},(A++(K1.os.drop ids.length).map (renPO (backN ids K.os.length)))[r]?=zsq e->(¬r∈ids/\r<K.os.length/\(killU K.os ids 0 K.os)[r]?=zsq e)\/(∃j e1,K1.os[j]?=zsq e1/\e=renPO (backN ids K.os.length) e1/\(∀d t,ow' d=zsq (r::t)↔ow1 d=zsq (j::t))/\backN ids K.os.length j=zsq r/\((ids[j]?=zsq r/\isRt K.os r=zt)\/ids.length<=j))\/e=.dead:=fun{r e} C=>by
   rcases ax C with a|⟨j,e1,I,B,b3,b4,b5⟩|⟨j,e1,c1,c2,c3,c4⟩
   . exact .inl a
   . rcases b4 with⟨k,es,sz,k',es',aj,d1,d2,d3⟩|⟨k,es,sz,d1,d2,d3⟩|⟨es,es',d1,d2,d3⟩|⟨d1,d2,d3⟩
     . rw[d3]at b5;cases b5
       exact .inr (.inl ⟨j,e1,b3,rfl,fun d t=>hC d j r t I B,aw j r I,(by grind[Go.AM.isRt])⟩)
     . grind
     . rw[d3]at b5;cases b5
       exact .inr (.inl ⟨j,e1,b3,by rw[d2];rfl,fun d t=>hC d j r t I B,aw j r I,(by grind[Go.AM.isRt])⟩)
     . rw [d3]at b5
       unfold isRt at d1;rw[b5]at d1;cases e with
       |dead=>grind
       |sub p i o=>
        grind[aM]
       |_=>cases d1
   grind
  have al:∀(n id:Nat)(L:List Nat),n<=6->id<K.os.length->loP (A++(K1.os.drop ids.length).map (renPO (backN ids K.os.length))) n id=zsq L->loP K.os n id=zsq L/\(∀r t,L=r::t->t≠[]->¬r∈ids):=fun n=>by
   induction n with
   |zero=>exact fun id L _ _ e=>by cases e
   |succ n ih=>
    intro id L h6n hl e;unfold loP at e;cases D:(A++(K1.os.drop ids.length).map (renPO (backN ids K.os.length)))[id]? with
    |none=>grind
    |some en=>
     rw[D]at e;have aa:A[id]?=zsq en:=by grind
     cases en with
     |row k es sz=>
      cases e;refine⟨?_,(by grind)⟩;unfold loP;by_cases U:id∈ids
      . grind[isRt]
      . rw[p2 id U]at aa
        rw[w.row.1 aa]
     |mapo es=>
      cases e;refine⟨?_,(by grind)⟩;unfold loP;by_cases U:id∈ids
      . grind[isRt]
      . rw[p2 id U]at aa
        rw[w.map.1 aa]
     |dead=>cases e
     |sub p i o=>
      simp only at e;cases hp:loP (A++(K1.os.drop ids.length).map (renPO (backN ids K.os.length))) n p with
      |none=>rw[hp]at e;cases e
      |some Lp=>
       rw [hp]at e;cases e;have ar:(killU K.os ids 0 K.os)[id]?=zsq (.sub p i o):=by
        by_cases U:id∈ids
        . obtain⟨j,bb⟩:=zqe U
          obtain⟨e1,q1,q2⟩:=p3 j id bb;rcases q2 with⟨k',es',aj,k2,az,a0,d1,d2,d3⟩|⟨k',es',aj,d1,_,d3⟩|⟨es',_,d1,_,d3⟩|⟨d1,d2,d3⟩
          . rw[d3,d2]at aa;cases k2<;>cases aa
          . grind
          . grind
          grind
        grind
       have ah:K.os[id]?=zsq (.sub p i o):=by
        rcases w.2 id with e1|⟨_,_,_,_,e2⟩
        . grind
        grind
       obtain⟨g1,g2⟩:=ih p Lp (by omega) (s.sb id p i o ah) hp;refine⟨by grind[loP],fun r t e ht=>?_⟩;obtain⟨t1,g3,_⟩:=J1 n p Lp g1;have a7:=aM ar
       have:r=rootOf K.os n p:=by grind
       have h6:rootOf K.os 6 p=rootOf K.os n p:=by
        obtain⟨t6,g4,_⟩:=J1 6 p Lp (IE (by omega) g1);grind
       rw[this,<-h6];exact a7.1 _ (Ws 6 p)
  have ai:Keep' ow K.os ow' (A++(K1.os.drop ids.length).map (renPO (backN ids K.os.length))):=by
   refine⟨by simp;omega,fun id hl L' a4=>?_⟩;obtain⟨g1,g2⟩:=al 6 id L' (zkb _) hl a4;refine⟨L',g1,fun c=>?_⟩;obtain⟨t,g3,g4,_⟩:=J1 6 id L' g1;have am:=isRt_lt g4;by_cases U:rootOf K.os 6 id∈ids
   . -- a root that the call came to
     have ht:t=[]:=Classical.byContradiction fun ht=>g2 _ t g3 ht U
     subst ht;have hid:rootOf K.os 6 id=id:=by
      grind
     rw [hid]at U g3;obtain⟨j,D⟩:=zqe U;have an:isRt (A++(K1.os.drop ids.length).map (renPO (backN ids K.os.length))) id=zt:=by
      grind[J1]
     have ab:j<ids.length:=(zqb.1 D).1;have ay:isRt K1.os j=zt:=by
      unfold isRt at an;cases H:(A++(K1.os.drop ids.length).map (renPO (backN ids K.os.length)))[id]? with
      |none=>grind
      |some e=>
       rw[H]at an;obtain⟨e1,q1,q2⟩:=p3 j id D;have aa:A[id]?=zsq e:=by grind
       unfold isRt;rw[q1];rcases q2 with⟨k',es',aj,k2,az,a0,d1,d2,d3⟩|⟨k',es',aj,d1,_,d3⟩|⟨es',_,d1,d2,d3⟩|⟨d1,d2,d3⟩
       . rw[d2]
       . grind
       . rw[d2]
       grind[isRt]
     have a9:=st.xk j ab c ay;rw[g3,hC c j id [] D (by omega),<-a9,D8]
     constructor
     . exact fun J=>⟨id,j,[],J,J2 ids id j hn D,rfl⟩
     grind[posOf_some]
   grind
  have ao:Ren (backN ids K.os.length) ow1 K1.os ow' (A++(K1.os.drop ids.length).map (renPO (backN ids K.os.length))):=by
   have hlen:(A++(K1.os.drop ids.length).map (renPO (backN ids K.os.length))).length=K.os.length+(K1.os.length-ids.length):=by simp;omega
   have key : ∀(n j r:Nat)(L':List Nat),backN ids K.os.length j=zsq r->loP (A++(K1.os.drop ids.length).map (renPO (backN ids K.os.length))) n r=zsq L'->∃L,loP K1.os n j=zsq L/\∀c,ow1 c=zsq L↔ow' c=zsq L':=fun n=>by
    have main:∀(n j r:Nat)(L':List Nat),backN ids K.os.length j=zsq r->loP (A++(K1.os.drop ids.length).map (renPO (backN ids K.os.length))) n r=zsq L'->∃j0 r0 t,loP K1.os n j=zsq (j0::t)/\L'=r0::t/\∀c t,ow1 c=zsq (j0::t)↔ow' c=zsq (r0::t):=fun n=>by
     induction n with
     |zero=>exact fun j r L' _ e=>by cases e
     |succ n ih=>
      intro j r L' hb e;unfold loP at e;cases D:(A++(K1.os.drop ids.length).map (renPO (backN ids K.os.length)))[r]? with
      |none=>grind
      |some en=>
       rw[D]at e;rcases ac D with⟨G,V,_⟩|⟨X,e1,I,B,b3,b4,b5⟩|rfl
       . grind
       . have au:X=j:=by
          rcases Y j r hb with c|⟨c,c'⟩
          . rcases Y X r b4 with d|⟨_,d⟩
            . have:=J2 ids r j hn c
              rw[J2 ids r X hn d]at this;grind
            grind
          grind
         subst au;unfold loP;rw[I];cases e1 with
         |row k es sz=>
          have:∃es',en=.row k es' sz:=by rw[B];cases k<;>exact⟨_,rfl⟩
          grind
         |mapo es=>rw[B]at e;cases e;grind
         |dead=>rw[B]at e;cases e
         |sub p i o=>
          rw[B]at e;rw[show renPO (backN ids K.os.length) (.sub p i o)=(match backN ids K.os.length p with|some q=>PO.sub q i o|none=>.dead)from rfl]at e;simp only at e|-;cases H:backN ids K.os.length p with
          |none=>grind
          |some p'=>
           rw[H]at e;simp only at e;cases hL:loP (A++(K1.os.drop ids.length).map (renPO (backN ids K.os.length))) n p' with
           |none=>grind
           |some Lp=>
            grind
       . cases e
    grind
   intro j r D ab;grind
  have hzk:∀d,Z d->Z1 d/\h1.get d=h.get d:=hz;refine⟨ow',⟨fun r es sz C=>?_,fun r k es sz C hk=>?_,fun r es C=>?_,fun a b M ha hb=>?_,fun a M ha=>?_,s1.zb,fun j p i o D=>?_⟩,ai,fun b=>⟨st.nx,hz,st.zn,fun d J ho=>?_,fun d M J hl=>?_,?_,fun d r t ho C=>?_,fun r C hl=>?_,rfl,fun j D c C=>?_,fun j D C=>?_⟩,ao⟩
  . rcases ac C with⟨G,V,Q⟩|⟨j,e1,I,B,b3,_,_⟩|h
    . obtain⟨x,hx⟩:=s.row r es sz (w.row.1 Q)
      exact⟨x,hx.reloc st.nx hz (fun d t=>hB d r t G V) (fun d t J=>aq d r t J G)⟩
    . obtain ⟨es0,rfl,h3⟩:=af B.symm
      rcases h3 with⟨_,rfl⟩|⟨h3,_⟩
      . obtain⟨x,hx⟩:=s1.row j _ sz I
        exact⟨x,hx.reloc (zkb _) (fun _ hz=>⟨hz,rfl⟩) (fun d t=>b3 d t) (fun _ _ _=>rfl)⟩
      grind
    . cases h
  . rcases ac C with⟨G,V,Q⟩|⟨j,e1,I,B,b3,_,_⟩|h
    . obtain⟨c,ces,g⟩:=s.raw r k es sz (w.row.1 Q) hk
      refine⟨c,ces,(hB c r [] G V).2 g.o,zka g.lt st.nx,(aq c r [] g.o G).trans g.get,g.sh,fun i x y hx hy o a b ha hb=>(g.vr i x y hx hy o a b ha hb).keep hz ai,g.okp,fun a t ha=>g.no a t ((hB a r t G V).1 ha)⟩
    . obtain ⟨es0,rfl,h3⟩:=af B.symm
      rcases h3 with⟨h3,_⟩|⟨_,rfl⟩
      . grind
      . obtain⟨c,ces,g⟩:=s1.raw j k es0 sz I hk
        exact⟨c,ces,g.ren (fun _ hz=>⟨hz,rfl⟩) ao ((b3 c []).2 g.o) (zkb _) rfl (fun a t ha=>g.no a t ((b3 a t).1 ha))⟩
    . cases h
  . rcases ac C with⟨G,V,Q⟩|⟨j,e1,I,B,b3,_,_⟩|h
    . obtain⟨c,ces,g⟩:=s.map r es (w.map.1 Q)
      exact⟨c,ces,(hB c r [] G V).2 g.o,zka g.lt st.nx,(aq c r [] g.o G).trans g.get,g.len,fun i x y hx hy=>⟨(g.kv i x y hx hy).1,(g.kv i x y hx hy).2.mono hz⟩,fun a t ha=>g.no a t ((hB a r t G V).1 ha)⟩
    . have:e1=.mapo es:=by
       cases e1 with
       |mapo=>cases B;rfl
       |row k _ _=>cases k<;>cases B
       |dead=>cases B
       |sub p i o=>unfold renPO at B;simp only at B;cases H:backN ids K.os.length p<;>rw[H]at B<;>cases B
      subst this;obtain⟨c,ces,g⟩:=s1.map j es I;exact⟨c,ces,(b3 c []).2 g.o,g.lt,g.get,g.len,g.kv,fun a t ha=>g.no a t ((b3 a t).1 ha)⟩
    . cases h
  . obtain ⟨r,t,rfl⟩:=ap a M ha
    rcases(ae a r t).1 ha with⟨j,G,V⟩|⟨G,V,Q⟩
    . rcases (ae b r t).1 hb with⟨X,I,B⟩|⟨I,B,b3⟩
      . have au:X=j:=by
         rcases Y j r V with c|⟨c,c'⟩
         . rcases Y X r B with d|⟨_,d⟩
           . have:=J2 ids r j hn c
             rw[J2 ids r X hn d]at this;cases this;rfl
           . have:=ad r (zqa c);omega
         . rcases Y X r B with d|⟨_,d⟩
           . have:=ad r (zqa d);omega
           . omega
        subst au;exact s1.inj _ _ _ G I
      . rcases Y j r V with c|⟨_,c⟩
        . rw[D8.2 ⟨r,j,t,b3,J2 ids r j hn c,rfl⟩]at I;cases I
        . have:=ag b r t b3;omega
    . rcases (ae b r t).1 hb with⟨X,I,B⟩|⟨I,B,b3⟩
      . rcases Y X r B with c|⟨_,c⟩
        . rw[D8.2 ⟨r,X,t,Q,J2 ids r X hn c,rfl⟩]at G;cases G
        . have:=ag a r t Q;omega
      . exact s.inj _ _ _ Q b3
  . obtain ⟨r,t,rfl⟩:=ap a M ha
    rcases(ae a r t).1 ha with⟨j,G,V⟩|⟨G,V,Q⟩
    . obtain ⟨c1,c2,r',t',c3,c4⟩:=s1.live a _ G
      cases c3;refine⟨c1,c2,r,t,rfl,?_⟩;rcases Y j r V with c|⟨c,rfl⟩
      . obtain⟨e1,q1,q2⟩:=p3 j r c
        have am:=ad r (zqa c);unfold isRt at c4|-;rw[zqo (by omega)];rw[q1]at c4;rcases q2 with⟨k',es',aj,k2,az,a0,d1,d2,d3⟩|⟨k',es',aj,d1,d2,d3⟩|⟨es',_,d1,d2,d3⟩|⟨d1,d2,d3⟩
        . rw[d3,d2];cases k2<;>rfl
        . rw[d2]at c4;cases c4
        . rw[d3]
        . rw[d2]at c4;cases c4
      . unfold isRt at c4|-
        rw[zqv (by omega),zqg,zqw,show ids.length+(K.os.length+(j-ids.length)-A.length)=j by omega];cases H:K1.os[j]? with
        |none=>rw[H]at c4;cases c4
        |some e=>
         rw[H]at c4;cases e with
         |row k es sz=>cases k<;>rfl
         |mapo=>rfl
         |_=>cases c4
    . obtain ⟨c1,c2,r',t',c3,c4⟩:=s.live a _ Q
      cases c3;have am:=isRt_lt c4;have ba:¬r∈ids:=fun U=>by
       obtain⟨j,D⟩:=zqe U;rw[D8.2 ⟨r,j,t,Q,J2 ids r j hn D,rfl⟩]at G;cases G
      refine⟨zka c1 st.nx,fun a5=>?_,r,t,rfl,?_⟩
      . rcases st.zn a a5 with h|h
        . exact c2 h
        . omega
      . have:=w.rt r
        unfold isRt at this c4|-;rw[zqo (by omega),p2 r ba,this];exact c4
  . rcases ac D with⟨G,V,Q⟩|⟨X,e1,I,B,_,_,_⟩|h
    . have ah:K.os[j]?=zsq (.sub p i o):=by
       rcases w.2 j with e1|⟨_,_,_,_,e2⟩
       . rw[<-e1];exact Q
       . rw[e2]at Q;cases Q
      have:=s.sb j p i o ah
      simp;omega
    . cases e1 with
      |sub p0 i0 o0=>
       unfold renPO at B;simp only at B;cases H:backN ids K.os.length p0 with
       |none=>rw[H]at B;cases B
       |some p'=>
        rw[H]at B;cases B;have hpl:=s1.sb X p0 i o I;simp;rcases Y p0 p H with c|⟨_,c⟩
        . have:=ad p (zqa c);omega
        . omega
      |row k _ _=>cases k<;>cases B
      |_=>cases B
    . cases h
  . exact st.un d J (by
     cases H:rown (posOf ids) ow d with
     |none=>rfl
     |some M=>
      obtain⟨_,_,_,G,_⟩:=D8.1 H;rw[ho]at G;cases G)
  . obtain⟨r,t,rfl⟩:=ap d M J
    intro e;rcases(ae d r t).1 J with⟨j,G,V⟩|⟨_,_,Q⟩
    . have:=st.uo d _ G hl
      exact this (by
       cases H:rown (posOf ids) ow d with
       |none=>rfl
       |some M=>
        obtain⟨_,_,_,G,_⟩:=D8.1 H;rw[e]at G;cases G)
    . rw[e]at Q;cases Q
  . obtain ⟨l,l1,l2⟩:=st.th
    refine⟨l,l1,fun d J=>?_⟩;rcases l2 d J with h|⟨j,t,h3,h4⟩
    . exact .inl h
    . obtain⟨r,X,t',G,V,Q⟩:=D8.1 h3
      cases Q;have D:=posOf_some ids r j V;have ab:j<ids.length:=(zqb.1 D).1;refine .inr ⟨r,t,G,fun _=>zqx _ (zql.2 ⟨j,zqp.2 ⟨h4 ab,by simpa using ab⟩,?_⟩)⟩;rw[zqy,D];rfl
  . by_cases U:r∈ids
    . obtain⟨j,D⟩:=zqe U
      have ab:j<ids.length:=(zqb.1 D).1;have h3:=D8.2 ⟨r,j,t,ho,J2 ids r j hn D,rfl⟩;rcases st.mv d j t h3 ab with⟨t',h4⟩|h4
      . exact .inl ⟨t',(hC d j r t' D (ad r U)).2 h4⟩
      . exact .inr (zqx _ (zql.2 ⟨j,zqp.2 ⟨h4,by simpa using ab⟩,by rw[zqy,D];rfl⟩))
    . exact .inl ⟨t,(hB d r t U (ag d r t ho)).2 ho⟩
  . exact List.mem_append_right _ C
  . have hl:j<K.os.length:=by omega
    have am:loP (A++(K1.os.drop ids.length).map (renPO (backN ids K.os.length))) 6 j=zsq [j]:=by
     unfold isRt at C;unfold loP;have C:(match(A++(K1.os.drop ids.length).map (renPO (backN ids K.os.length)))[j]? with|some (.row _ _ _)=>zt|some (.mapo _)=>zt|_=>zf)=zt:=C;cases H:(A++(K1.os.drop ids.length).map (renPO (backN ids K.os.length)))[j]? with
     |none=>rw[H]at C;cases C
     |some e=>rw[H]at C;cases e<;>first|rfl|cases C
    obtain⟨L,g1,g2⟩:=ai.2 j hl [j] am;obtain⟨g3,_⟩:=al 6 j [j] (zkb _) hl am;rw[g1]at g3;cases g3;exact g2 c
  . have hl:j<K.os.length:=by omega
    have C:(match(A++(K1.os.drop ids.length).map (renPO (backN ids K.os.length)))[j]? with|some (.row _ _ _)=>zt|some (.mapo _)=>zt|_=>zf)=zt:=C;cases H:(A++(K1.os.drop ids.length).map (renPO (backN ids K.os.length)))[j]? with
    |none=>rw[H]at C;cases C
    |some e=>
     rcases ac H with⟨G,V,Q⟩|⟨X,e1,I,B,b3,b4,b5⟩|rfl
     . rw[<-w.rt];unfold isRt;rw[Q];rw[H]at C;exact C
     . rcases b5 with⟨_,h⟩|h
       . exact h
       . rcases Y X j b4 with c|⟨_,c⟩
         . have:=(zqb.1 c).1;omega
         . omega
     . rw[H]at C;cases C
end
section
variable {E:Env}{R:AV->AV->Prop}{Z Z' Z1:Nat->Prop}{ow ow' ow1:Nat->Option (List Nat)}{h h' h1:Heap}{K K':PK}{os os' ps:List PO}{x y xc yc v k:AV}{L M:List Nat}
theorem Am{a:Option AV}{l:Option (List AV)}{r:List AV}(e:consO a l=zsq r):∃v t,a=zsq v/\l=zsq t/\r=v::t:=by
 unfold consO at e;grind
theorem Dm:∀(l A:List AV),frzL l=zsq A->A.length=l.length/\∀(i:Nat) y B,l[i]?=zsq y->A[i]?=zsq B->frzC y=zsq B
 |[],A,e=>by cases e;grind
 |v::l,A,e=>by
  unfold frzL at e;obtain⟨a,t,h1,h2,rfl⟩:=Am e;obtain⟨h3,h4⟩:=Dm l t h2;grind
theorem iX:∀(l A:List AV),viewL os l=zsq A->A.length=l.length/\∀(i:Nat) y B,l[i]?=zsq y->A[i]?=zsq B->viewV os y=zsq B
 |[],A,e=>by cases e;grind
 |v::l,A,e=>by
  unfold viewL at e;obtain⟨a,t,h1,h2,rfl⟩:=Am e;obtain⟨h3,h4⟩:=iX l t h2;grind
theorem Oh:∀(l A:List AV),viewAs os l=zsq A->A.length=l.length/\∀(i:Nat) y B,l[i]?=zsq y->A[i]?=zsq B->viewA os y=zsq B
 |[],A,e=>by cases e;grind
 |v::l,A,e=>by
  unfold viewAs at e;obtain⟨a,t,h1,h2,rfl⟩:=Am e;obtain⟨h3,h4⟩:=Oh l t h2;grind
theorem Mc{c A:AV}(e:frzC c=zsq A)(hc:isAg c=zf):clo A=zt:=by
 cases c<;>unfold frzC at e<;>first|(cases e;done)|(cases e;rfl)|skip
 . cases hc
 . rename_i cs
   cases cs with
   |nil=>cases e
   |cons a es=>
    cases a<;>try (cases e;done)
    rename_i i j z;cases j with
    |succ=>cases e
    |zero=>
     simp only at e;cases hf:frzL es with
     |none=>grind
     |some es'=>
      rw[hf]at e;simp only at e;split at e
      . split at e
        . cases e;rfl
        . cases e
      . cases e;rfl
 . rename_i es f
   cases hf:frzL es with
   |none=>grind
   |some es'=>rw[hf]at e;cases e;rfl
 . rename_i v o
   cases hf:frzC v with
   |none=>grind
   |some es'=>rw[hf]at e;cases e;rfl
theorem Fz.frz(f:Fz Z h x y):∀A,frzC y=zsq A->Fz Z h x A:=by
 have fsl:∀{x:AV}{es es':List AV},(∀B:List AV,frzL es=zsq B->Fz Z h x (fslN B))->∀{f:Bool} A,frzC (.fsl es f)=zsq A->Fz Z h x A:=(by grind[Go.AM.frzC])
 induction f with
 |int=>intro A e;cases e;exact .int _ _
 |bool=>intro A e;cases e;exact .bool _
 |str=>intro A e;cases e;exact .str _
 |nilsl=>intro A e;cases e;exact .emp .nil
 |nilptr=>intro A e;cases e;exact .nilptr
 |nilmap=>intro A e;cases e;exact .nilmap
 |nilfn=>intro A e;cases e;exact .nilfn
 |niliface=>intro A e;cases e;exact .niliface
 |agg h1 h2 C D=>
  rename_i xs ys;intro A e;unfold frzC at e;cases hf:frzL ys with
  |none=>grind
  |some ys'=>
   rw[hf]at e;cases e;obtain⟨G,H⟩:=Dm _ _ hf;refine .agg (h1.trans G.symm) (fun i a b ha hb=>?_) (zqf.2 fun b hb=>?_)
   . grind
   . obtain⟨i,hi⟩:=zqe hb
     obtain⟨c,hc⟩:∃c,ys[i]?=zsq c:=(by grind)
     refine Mc (H i c b hc hi) ?_
     have:=zqf.1 C c (zqa hc)
     cases c<;>first|rfl|cases this
 |emp e=>intro A e';cases e';exact .emp e
 |fsl h1 h2 C D=>
  rename_i es es' f f';refine fsl (es':=es') fun B hf=>?_
  obtain⟨G,H⟩:=Dm _ _ hf;unfold fslN;refine .fsl (h1.trans G.symm) (fun i a b ha hb=>?_) C;grind
 |view h1 h2 C I h5 J D=>
  rename_i es' f';refine fsl (es':=es') fun B hf=>?_
  obtain⟨G,H⟩:=Dm _ _ hf;refine .view h1 h2 C (G.trans I) (fun i a b ha hb=>?_) J;grind
 |fptr o _ D=>
  rename_i v v' _;intro A e;unfold frzC at e;cases hf:frzC v' with
  |none=>grind
  |some w=>rw[hf]at e;cases e;exact .fptr o (D w hf)
 |pview h1 h2 C _ D=>
  rename_i v v' row _;intro A e;unfold frzC at e;cases hf:frzC v' with
  |none=>grind
  |some w=>rw[hf]at e;cases e;exact .pview h1 h2 C (D w hf)
theorem Fz.elem{a b A:AV}(B:a.cells.length=b.cells.length/\isAg a=isAg b)(H:∀(o:Nat) u w,a.cells[o]?=zsq u->b.cells[o]?=zsq w->∀w',frzC w=zsq w'->Fz Z h u w'/\AM.clo w'=zt)(e:frzC b=zsq A):Fz Z h a A:=by
 cases hb:isAg b with
 |false=>
  have ha:=B.2.trans hb;exact(H 0 a b (by rw[C7 ha];rfl) (by rw[C7 hb];rfl) A e).1
 |true=>
  have ha:=B.2.trans hb;cases b<;>first|(cases hb;done)|skip
  cases a<;>first|(cases ha;done)|skip
  rename_i ys xs;unfold frzC at e;cases hf:frzL ys with
  |none=>grind
  |some ys'=>
   rw[hf]at e;cases e;obtain⟨I,G⟩:=Dm _ _ hf;have hl:xs.length=ys.length:=B.1;refine .agg (hl.trans I.symm) (fun i u w C D=>?_) (zqf.2 fun w D=>?_)
   . obtain⟨c,hc⟩:∃c,ys[i]?=zsq c:=(by grind)
     exact(H i u c C hc w (G i c w hc D)).1
   . obtain⟨i,hi⟩:=zqe D
     obtain⟨c,hc⟩:∃c,ys[i]?=zsq c:=(by grind)
     obtain⟨u,C⟩:∃u,xs[i]?=zsq u:=(by grind)
     exact(H i u c C hc w (G i c w hc hi)).2
def Zv(Z:Nat->Prop)(ow:Nat->Option (List Nat))(id:Nat):Prop:=Z id\/ow id≠znq
theorem Fz.zv(f:Fz Z h x y):Fz (Zv Z ow) h x y:=f.mono fun _ hz=>⟨.inl hz,rfl⟩
theorem CR.frz(c:CR Z ow h L x y):∀A,frzC y=zsq A->Fz (Zv Z ow) h x A/\clo A=zt:=by
 induction c with
 |val f e n=>exact fun A B=>⟨(f.frz A B).zv,Mc B (by rename_i y;cases y<;>first|rfl|cases e)⟩
 |und=>intro A e;cases e
 |nil e n=>
  intro A B;cases B;refine⟨.emp ?_,rfl⟩;rcases e with rfl|rfl
  . exact .nil
  . exact .nil
 |own h1 h2 H h4 h5 Y _ ih=>
  rename_i L k id sz ces es _;intro A e;have D:isAg (ownd k sz es)=zf:=rfl;refine⟨?_,Mc e D⟩;unfold ownd frzC at e;simp only at e;cases hf:frzL es with
  |none=>grind
  |some es'=>
   rw [hf]at e;simp only at e;obtain⟨N,Q⟩:=Dm _ _ hf;have G:∀(i:Nat) a b,ces[i]?=zsq a->es'[i]?=zsq b->Fz (Zv Z ow) h a b:=fun i a b ha hb=>by
    obtain⟨c,hc⟩:∃c,es[i]?=zsq c:=(by grind)
    obtain⟨U,V,X⟩:=Y i a c ha hc;exact .elem ⟨U.trans V.symm,X⟩ (fun o u w I J w' C=>ih i a c ha hc o u w I J w' C) (Q i c b hc hb)
   have hz:Zv Z ow id:=.inr (by grind);split at e
   . split at e
     . rename_i v
       cases e;have hl:ces.length=1:=by grind
       obtain⟨a,ha⟩:∃a,ces[0]?=zsq a:=⟨_,zqc (by omega)⟩
       exact .pview hz H ha (G 0 a v ha rfl)
     . cases e
   . rename_i hk
     cases e
     have:refK k id es.length sz=.msl id 0 es.length sz:=by
      unfold refK;grind
     rw[this];refine .view hz H (by omega) N (by grind) (fun i a hi ha=>?_);grind
end
section
variable {E:Env}{R:AV->AV->Prop}{Z Z' Z1:Nat->Prop}{ow ow' ow1:Nat->Option (List Nat)}{h h' h1:Heap}{K K':PK}{os os' ps:List PO}{x y xc yc v k:AV}{L M:List Nat}{r0 sz0 c0:Nat}{es0 ces0:List AV}
theorem VR.view(s:I6 Z ow h os)(a:VR Z ow h os x y){w:AV}(e:viewV os y=zsq w):Fz (Zv Z ow) h x w/\clo w=zt/\(O5 y=[]->Fz Z h x w):=by
 have el:∀{id:Nat}{es:List AV}{sz:Nat},rowOf os 6 id=zsq (0,es,sz)->∀{c:Nat},(∀L,loP os 6 id=zsq L->ow c=zsq L)->∃ces,h.get c=zsq (.row ces sz)/\eG sz ces es/\(ow c≠znq)/\∀(i:Nat) a b G,ces[i]?=zsq a->es[i]?=zsq b->frzC b=zsq G->Fz (Zv Z ow) h a G:=fun{id es sz} H {c} hc=>by
  obtain ⟨L,hL,h1⟩:=s.get 6 id 0 es sz H;have ho:=hc L hL;have fin:∀{V:AV},CR Z ow h L V (ownd 0 sz es)->∃ces,h.get c=zsq (.row ces sz)/\eG sz ces es/\(ow c≠znq)/\∀(i:Nat) a b G,ces[i]?=zsq a->es[i]?=zsq b->frzC b=zsq G->Fz (Zv Z ow) h a G:=fun{V} X=>by
   rcases X.inv with⟨_,_,_,n⟩|⟨id',ces,_,g2,_,g4,g5,_,g7⟩
   . exact absurd (by rw[zqr];exact ho) (n c [])
   . obtain rfl:=s.inj c id' L ho g2
     refine⟨ces,g4,g5,(by grind),fun i a b G ha hb hf=>?_⟩;obtain⟨I,D,J⟩:=g5.2 i a b ha hb;exact .elem ⟨I.trans D.symm,J⟩ (fun o u w C N w' B=>(g7 i a b ha hb o u w C N).frz w' B) hf
  rcases h1 with⟨_,rfl,c',U,g⟩|⟨_,V,X⟩
  . obtain rfl:=s.inj c c' _ ho g.o
    refine ⟨U,g.get,g.sh,(by grind),fun i a b G ha hb hf=>?_⟩;obtain⟨I,D,J⟩:=g.sh.2 i a b ha hb;refine .elem ⟨I.trans D.symm,J⟩ (fun o u w C N w' B=>?_) hf;have v:=g.vr i a b ha hb o u w C N;have A:=g.okp i b hb w (zqa N);have hz:Fz Z h u w:=by
     cases v with
     |fz f=>exact f
     |agg=>rcases A with A|A<;>cases A
     |tup=>rcases A with A|A<;>cases A
     |_=>cases B
    refine⟨(hz.frz w' B).zv,Mc B ?_⟩;cases w<;>first|rfl|(rcases A with A|A<;>cases A)
  grind
 have plain:isAg y=zf->frzC y=zsq w->(∀cs,y≠.tup cs)->Fz (Zv Z ow) h x w/\clo w=zt/\(O5 y=[]->Fz Z h x w):=fun Y hf ht=>by
  have hz:Fz Z h x y:=by
   cases a with
   |fz f=>exact f
   |agg=>cases Y
   |tup=>grind
   |_=>cases hf
  exact⟨(hz.frz w hf).zv,Mc hf Y,fun _=>hz.frz w hf⟩
 unfold viewV at e;split at e
 . rename_i id off n sz
   cases H:rowOf os 6 id with
   |none=>grind
   |some q=>
    obtain⟨k,es,z⟩:=q;rw[H]at e;simp only at e;split at e
    . rename_i hc
      obtain⟨rfl,rfl,hn⟩:=hc;cases hf:frzL ((es.drop off).take n)with
      |none=>grind
      |some es'=>
       rw[hf]at e;cases e;refine⟨?_,rfl,fun h0=>by cases h0⟩;obtain⟨g1,g2⟩:=Dm _ _ hf;have Q:((es.drop off).take n).length=n:=by simp;omega
       cases a with
       |fz f=>cases f
       |msl h1 h2=>
        rename_i c;obtain⟨ces,I,D,J,q4⟩:=el H h1;refine .view (.inr J) I (by have:=D.1;omega) (g1.trans Q) (fun i u w C N=>?_) (fun i u hi C=>?_)
        . grind
        . obtain⟨b,hb⟩:∃b,es[off+i]?=zsq b:=(by grind)
          exact(D.2 (off+i) u b C hb).1
       |mnil h1 h2 h3=>
        have:es'=[]:=(by grind)
        subst this;refine .emp ?_;rcases h1 with rfl|rfl
        . exact .nil
        . exact .nil
    . cases e
 . rename_i id i off
   cases H:rowOf os 6 id with
   |none=>grind
   |some q=>
    obtain⟨k,es,z⟩:=q;rw[H]at e;simp only at e;split at e
    . rename_i hk;subst hk
      cases hi:es[i]? with
      |none=>grind
      |some v=>
       rw[hi]at e;simp only at e;cases hf:frzC v with
       |none=>grind
       |some v'=>
        rw[hf]at e;cases e;refine⟨?_,rfl,fun h0=>by cases h0⟩;cases a with
        |fz f=>cases f
        |ptr h1 h2=>
         obtain⟨ces,I,D,J,q4⟩:=el H h1;obtain⟨u,C⟩:∃u,ces[i]?=zsq u:=⟨_,zqc (by have:=(zqb.1 hi).1;have:=D.1;omega)⟩
         exact .pview (.inr J) I C (q4 i u v v' C hi hf)
    . cases e
 . cases e
 . cases e
 . rename_i h1 h2 h3 h4
   refine plain ?_ e (fun cs he=>h3 cs he);cases y<;>first|rfl|grind
theorem VR.viewA(s:I6 Z ow h os)(a:VR Z ow h os x y){w:AV}(e:viewA os y=zsq w):Fz (Zv Z ow) h x w/\(O5 y=[]->Fz Z h x w):=by
 cases N:isAg y with
 |false=>
  have e':viewV os y=zsq w:=by cases y<;>first|exact e|cases N
  exact⟨(a.view s e').1,(a.view s e').2.2⟩
 |true=>
  cases y<;>first|(cases N;done)|skip
  rename_i ys;unfold AM.viewA at e;simp only at e;cases hf:viewL os ys with
  |none=>grind
  |some I=>
   rw [hf]at e;cases e;obtain⟨J,Q⟩:=iX _ _ hf;obtain⟨xs,rfl,l⟩:=a.agI;have C:∀(i:Nat) u w,xs[i]?=zsq u->I[i]?=zsq w->∃c,ys[i]?=zsq c/\VR Z ow h os u c/\viewV os c=zsq w:=fun i u w A B=>by
    obtain⟨c,hc⟩:∃c,ys[i]?=zsq c:=(by grind)
    exact⟨c,hc,l.2 i u c A hc,Q i c w hc B⟩
   have D:I.all clo=zt:=zqf.2 fun w B=>by
    obtain⟨i,hi⟩:=zqe B;obtain⟨u,A⟩:∃u,xs[i]?=zsq u:=⟨_,zqc (by have:=(zqb.1 hi).1;have:=l.1;omega)⟩
    obtain⟨c,_,G,H⟩:=C i u w A hi;exact(G.view s H).2.1
   refine⟨.agg (l.1.trans J.symm) (fun i u w A B=>?_) D,fun h0=>.agg (l.1.trans J.symm) (fun i u w A B=>?_) D⟩
   . obtain⟨c,_,G,H⟩:=C i u w A B
     exact(G.view s H).1
   . obtain ⟨c,hc,G,H⟩:=C i u w A B
     refine(G.view s H).2.2 ?_
     have:∀(ys:List AV)(i:Nat),refsL ys=[]->ys[i]?=zsq c->O5 c=[]:=fun ys=>by
      induction ys with
      |nil=>grind
      |cons a l ih=>
       grind[refsL,zqs]
     exact this ys i h0 hc
theorem VR.elemR(g:RawR (VR Z ow h os) ow h r0 es0 sz0 c0 ces0){i:Nat}{a b:AV}(ha:ces0[i]?=zsq a)(hb:es0[i]?=zsq b):VR Z ow h os a b:=by
 obtain⟨D,G,A⟩:=g.sh.2 i a b ha hb;have v:=g.vr i a b ha hb;cases b with
 | agg ys=>cases a with
  |agg xs=>exact .agg (D.trans G.symm) fun o u w B C=>v o u w B C
  |_=>cases A
 | _=>cases a with
  |agg xs=>cases A
  |_=>exact v 0 _ _ rfl rfl
theorem VR.viewW(s:I6 Z ow h os)(a:VR Z ow h os x y){w:AV}(e:viewW os y=zsq w):Fz (Zv Z ow) h x w/\clo w=zt/\(O5 y=[]->Fz Z h x w):=by
 unfold AM.viewW at e;cases I:viewV os y with
 |some w'=>rw[I]at e;cases e;exact a.view s I
 |none=>
  rw[I]at e;cases y with
  |msl id off n sz=>
   dsimp only at e;cases A:rawAt os id with
   |false=>rw[A]at e;cases e
   |true=>
    rw[A]at e;dsimp only at e;split at e
    . rename_i k es z D
      split at e
      . rename_i hc
        obtain⟨rfl,hn⟩:=hc;cases hf:viewAs os ((es.drop off).take n)with
        |none=>rw[hf]at e;cases e
        |some es'=>
         rw[hf]at e;cases e;refine⟨?_,rfl,fun h0=>by cases h0⟩;obtain⟨U,V⟩:=Oh _ _ hf;have B:((es.drop off).take n).length=n:=by simp;omega
         obtain⟨L,N,h1⟩:=s.get 6 id k es sz (by unfold rowOf;rw[D]);rcases h1 with⟨_,rfl,Q,ces,g⟩|⟨hh,_⟩
         . cases a with
           |fz f=>cases f
           |mnil em H _=>exact absurd g.o (H _ N Q)
           |msl h2 h3=>
            rename_i c;obtain rfl:=s.inj c Q _ (h2 _ N) g.o;refine .view (.inr (by rw[g.o];intro e;cases e)) g.get (by have:=g.sh.1;omega) (U.trans B) (fun i u w C J=>?_) (fun i u hi C=>?_)
            . obtain ⟨b,hb⟩:∃b,((es.drop off).take n)[i]?=zsq b:=⟨_,zqc (by have:=(zqb.1 J).1;omega)⟩
              have G:es[off+i]?=zsq b:=by
               rw[List.getElem?_take]at hb;split at hb
               . rw[zqw]at hb;exact hb
               . cases hb
              exact((VR.elemR g C G).viewA s (V i b w hb J)).1
            . exact(g.sh.2 (off+i) u _ C (zqc (by have:=(zqb.1 C).1;have:=g.sh.1;omega))).1
         . rw[A]at hh;cases hh
      . cases e
    . cases e
  |_=>cases e
theorem aN:∀(l A:List AV),viewWL os l=zsq A->A.length=l.length/\∀(i:Nat) y B,l[i]?=zsq y->A[i]?=zsq B->viewW os y=zsq B
 |[],A,e=>by cases e;exact⟨rfl,fun i y B D=>by simp at D⟩
 |v::l,A,e=>by
  unfold viewWL at e;obtain⟨a,t,h1,h2,rfl⟩:=Am e;obtain⟨G,H⟩:=aN l t h2;refine⟨by simp[G],fun i y B D C=>?_⟩;cases i with
  |zero=>cases D;cases C;exact h1
  |succ i=>exact H i y B D C
theorem VR.viewWA(s:I6 Z ow h os)(a:VR Z ow h os x y){w:AV}(e:viewWA os y=zsq w):Fz (Zv Z ow) h x w/\(O5 y=[]->Fz Z h x w):=by
 cases N:isAg y with
 |false=>
  have e':AM.viewW os y=zsq w:=by cases y<;>first|exact e|cases N
  exact⟨(a.viewW s e').1,(a.viewW s e').2.2⟩
 |true=>
  cases y<;>first|(cases N;done)|skip
  rename_i ys;unfold AM.viewWA at e;simp only at e;cases hf:viewWL os ys with
  |none=>rw[hf]at e;cases e
  |some I=>
   rw [hf]at e;cases e;obtain⟨J,Q⟩:=aN _ _ hf;obtain⟨xs,rfl,l⟩:=a.agI;have C:∀(i:Nat) u w,xs[i]?=zsq u->I[i]?=zsq w->∃c,ys[i]?=zsq c/\VR Z ow h os u c/\AM.viewW os c=zsq w:=fun i u w B A=>by
    obtain⟨c,hc⟩:∃c,ys[i]?=zsq c:=⟨_,zqc (by have:=(zqb.1 A).1;omega)⟩
    exact⟨c,hc,l.2 i u c B hc,Q i c w hc A⟩
   have D:I.all clo=zt:=zqf.2 fun w A=>by
    obtain⟨i,hi⟩:=zqe A;obtain⟨u,B⟩:∃u,xs[i]?=zsq u:=⟨_,zqc (by have:=(zqb.1 hi).1;have:=l.1;omega)⟩
    obtain⟨c,_,G,H⟩:=C i u w B hi;exact(G.viewW s H).2.1
   refine⟨.agg (l.1.trans J.symm) (fun i u w B A=>?_) D,fun h0=>.agg (l.1.trans J.symm) (fun i u w B A=>?_) D⟩
   . obtain⟨c,_,G,H⟩:=C i u w B A
     exact(G.viewW s H).1
   . obtain ⟨c,hc,G,H⟩:=C i u w B A
     refine(G.viewW s H).2.2 ?_
     have:∀(ys:List AV)(i:Nat),refsL ys=[]->ys[i]?=zsq c->O5 c=[]:=fun ys=>by
      induction ys with
      |nil=>intro i _ hc;simp at hc
      |cons a l U=>
       intro i h0 hc;have h0:O5 a++refsL l=[]:=h0;obtain⟨h1,h2⟩:=zqs.1 h0;cases i with
       |zero=>cases hc;exact h1
       |succ i=>exact U i h2 hc
     exact this ys i h0 hc
theorem Wu:∀(l A:List AV),Sb os l=zsq A->A.length=l.length/\∀(i:Nat) y B,l[i]?=zsq y->A[i]?=zsq B->viewWA os y=zsq B
 |[],A,e=>by cases e;exact⟨rfl,fun i y B D=>by simp at D⟩
 |v::l,A,e=>by
  unfold Sb at e;obtain⟨a,t,h1,h2,rfl⟩:=Am e;obtain⟨G,H⟩:=Wu l t h2;refine⟨by simp[G],fun i y B D C=>?_⟩;cases i with
  |zero=>cases D;cases C;exact h1
  |succ i=>exact H i y B D C
theorem xH(s:I6 Z ow h os){l D xs:List AV}(v:VL Z ow h os xs l)(e:viewX os l=zsq D):D.length=l.length/\∀(i:Nat) x y A,xs[i]?=zsq x->l[i]?=zsq y->D[i]?=zsq A->Fz (Zv Z ow) h x A/\(O5 y=[]->Fz Z h x A):=by
 unfold viewX at e;cases J:viewAs os l with
 |some as1=>
  rw[J]at e;cases e;obtain⟨H,I⟩:=Oh _ _ J;exact⟨H,fun i x y A G C B=>(v.2 i x y G C).viewA s (I i y A C B)⟩
 |none=>
  rw[J]at e;obtain⟨H,I⟩:=Wu _ _ e;exact⟨H,fun i x y A G C B=>(v.2 i x y G C).viewWA s (I i y A C B)⟩
def TC(E:Env)(f:Nat)(g:List AV->Option (List AV)):Prop:=∀args rs,g args=zsq rs->∀(Z:Nat->Prop)(h:Heap)(xs:List AV),xs.length=args.length->(∀(i:Nat) x y,xs[i]?=zsq x->args[i]?=zsq y->Fz Z h x y)->(∀id,Z id->id<h.next) ->
 ∃ (A:List AV) (h1:Heap) (Z1:Nat->Prop) (ow1:Nat->Option (List Nat)),callω E f xs h=.ok (oneOrTup A) h1/\I6 Z1 ow1 h1 (openTs 0 rs).2/\VL Z1 ow1 h1 (openTs 0 rs).2 A (openTs 0 rs).1/\
   h.next<=h1.next/\(∀id,Z id->Z1 id/\h1.get id=h.get id)/\(∀id,Z1 id->Z id\/h.next<=id)/\(∀id,id<h.next->h1.get id=h.get id)/\(∀id L,ow1 id=zsq L->h.next<=id)/\∃l,h1.tch=l++h.tch/\∀id∈l,h.next<=id
theorem Iy:∀(n:Nat)(l:List AV)(e:PO),e∈(openT n l).2->∃es sz,e=.row 0 es sz/\∃k,ownd k sz es∈l
 |n,[],e,h=>by cases h
 |n,c::r,e,h=>by
  unfold openT at h;cases ho:ownOf c with
  |none=>
   rw[ho]at h;obtain⟨es,sz,h1,k,h2⟩:=Iy n r e h;grind
  |some q=>
   obtain⟨k,es,sz⟩:=q;rw[ho]at h;rcases zqi.1 h with rfl|h
   . exact⟨es,sz,rfl,k,by grind[Al]⟩
   . obtain⟨es,sz,h1,k,h2⟩:=Iy (n+1) r e h
     grind
theorem Fx:∀(n:Nat)(l:List AV)(e:PO),e∈(openTs n l).2->∃es sz,e=.row 0 es sz/\∃k,∃v∈l,ownd k sz es∈v.cells
 |n,[],e,h=>by cases h
 |n,v::r,e,h=>by
  unfold openTs at h;rcases zqk.1 h with h|h
  . grind[Iy]
  . obtain⟨es,sz,h1,k,u,hu,h2⟩:=Fx _ r e h
    grind
theorem Md:∀(l:List AV)(n m:Nat),(openT n l).2=(openT m l).2
 |[],n,m=>rfl
 |c::r,n,m=>by
  unfold openT;cases ownOf c with
  |none=>exact Md r n m
  |some q=>exact congrArg (List.cons (PO.row 0 q.2.1 q.2.2)) (Md r (n+1) (m+1))
theorem aO:∀(l:List AV)(n m:Nat),(openTs n l).2=(openTs m l).2
 |[],n,m=>rfl
 |v::r,n,m=>by
  unfold openTs;rw[Md v.cells n m];exact congrArg (List.append _) (aO r _ _)
theorem Wv(b:Nat):∀(l:List AV)(n:Nat),(l.all fun c=>(ownOf c).isSome||clo c)=zt->(openT (b+n) l).1=renL (fun id=>zsq (b+id)) (openT n l).1
 |[],n,_=>rfl
 |c::r,n,hk=>by
  obtain⟨h1,h2⟩:((ownOf c).isSome||clo c)=zt/\(r.all fun c=>(ownOf c).isSome||clo c)=zt:=by grind
  unfold openT;cases ho:ownOf c with
  |none=>
   rw[ho]at h1;have hc:clo c=zt:=by grind
   show c::(openT (b+n) r).1=J3 _ c::renL _ (openT n r).1
   rw[iV hc,Wv b r n h2]
  |some q=>
   obtain⟨k,es,sz⟩:=q;show _::(openT (b+n+1) r).1=J3 _ _::renL _ (openT (n+1) r).1
   rw[show b+n+1=b+(n+1) by omega,Wv b r (n+1) h2]
   congr 1
   split<;>rfl
theorem aP(b:Nat):∀(l:List AV)(n:Nat),okRs l=zt->(openTs (b+n) l).1=renL (fun id=>zsq (b+id)) (openTs n l).1
 |[],n,_=>rfl
 |v::r,n,hk=>by
  obtain⟨h1,h2⟩:(v.cells.all fun c=>(ownOf c).isSome||clo c)=zt/\okRs r=zt:=by grind[okRs]
  unfold openTs;show _::_=J3 _ _::renL _ _
  rw[Md v.cells (b+n) n,show b+n+(openT n v.cells).2.length=b+(n+(openT n v.cells).2.length) by omega,aP b r _ h2,Wv b v.cells n h1]
  congr 1
  unfold S9;split
  . rfl
  . cases (openT n v.cells).1<;>rfl
end
section
variable {E:Env}{R:AV->AV->Prop}{Z Z' Z1:Nat->Prop}{ow ow' ow1:Nat->Option (List Nat)}{h h' h1:Heap}{K K':PK}{os os' ps:List PO}{x y xc yc v k:AV}{L M:List Nat}
theorem Gw{v:AV}(e:noF v=zt):∀c∈v.cells,noF c=zt:=by
 have hl:∀(l:List AV),noFL l=zt->∀c∈l,noF c=zt:=fun l=>by
  induction l with
  |nil=>grind
  |cons a l ih=>
   intro A c hc;have A:(noF a&&noFL l)=zt:=A;grind
 intro c hc;cases v with
 |agg cs=>exact hl cs e c hc
 |_=>rw[C7 rfl]at hc;grind
theorem iY{l:List AV}(e:noFL l=zt):∀c∈l,noF c=zt:=fun c hc=>Gw (v:=.agg l) e c hc
theorem Fz.noF(f:Fz Z h x y)(hc:AM.clo y=zt)(e:AM.noF y=zt)(Z':Nat->Prop)(h':Heap):Fz Z' h' x y:=by
 cases f with
 |int=>exact .int _ _
 |bool=>exact .bool _
 |str=>exact .str _
 |nilsl=>exact .nilsl
 |nilptr=>exact .nilptr
 |nilmap=>exact .nilmap
 |nilfn=>exact .nilfn
 |niliface=>exact .niliface
 |agg=>cases hc
 |_=>cases e
theorem CR.noF(c:CR Z ow h L x y)(e:AM.noF y=zt)(Z':Nat->Prop):CR Z' ow h L x y:=by
 induction c with
 |val f hc n=>exact .val (f.noF hc e Z' h) hc n
 |und=>exact .und
 |nil e' n=>exact .nil e' n
 |own h1 h2 C D G H h7 I=>
  refine .own h1 h2 C D G H fun i a b ha hb o u w B A=>I i a b ha hb o u w B A ?_
  have e:noFL _=zt:=e;exact Gw (iY e b (zqa hb)) w (zqa A)
def QS(c:AV):Prop:=(clo c=zt/\noF c=zt)\/(∃a b d e,c=.msl a b d e)\/∃a b d,c=.ptr a b d
theorem VR.noF(a:VR Z ow h os x y)(e:QS y)(Z':Nat->Prop):VR Z' ow h os x y:=by
 rcases e with⟨h1,h2⟩|⟨i,j,k,l,rfl⟩|⟨i,j,k,rfl⟩
 . exact .fz ((a.fzc h1).noF h1 h2 Z' h)
 . cases a with
   |fz f=>cases f
   |msl h1 h2=>exact .msl h1 h2
   |mnil h1 h2 A=>exact .mnil h1 h2 A
 . cases a with
   |fz f=>cases f
   |ptr h1 h2=>exact .ptr h1 h2
theorem Oi:∀(l:List AV)(n:Nat),(l.all fun c=>(ownOf c).isSome||clo c)=zt->(∀c∈l,noF c=zt)->∀c∈(openT n l).1,QS c
 |[],n,_,_,c,hc=>by cases hc
 |a :: r,n,hk,hf,c,hc=>by
  obtain⟨h1,h2⟩:((ownOf a).isSome||clo a)=zt/\(r.all fun c=>(ownOf c).isSome||clo c)=zt:=by grind
  unfold openT at hc;cases ho:ownOf a with
  |none=>
   rw[ho]at hc h1;rcases zqi.1 hc with rfl|hc
   . exact .inl (by grind)
   . exact Oi r n h2 (by grind) c hc
  |some q=>
   obtain⟨k,es,sz⟩:=q;rw[ho]at hc;rcases zqi.1 hc with rfl|hc
   . split
     . exact .inr (.inr ⟨_,_,_,rfl⟩)
     . exact .inr (.inl ⟨_,_,_,_,rfl⟩)
   . exact Oi r (n+1) h2 (by grind) c hc
theorem Oj:∀(l:List AV)(n:Nat),(openT n l).1.length=l.length
 |[],n=>rfl
 |a::r,n=>by
  unfold openT;cases ownOf a with
  |none=>exact congrArg (· + 1) (Oj r n)
  |some q=>exact congrArg (· + 1) (Oj r (n+1))
theorem VR.open_noF{n:Nat}{v:AV}(a:VR Z ow h os x (S9 v (openT n v.cells).1))(C:(v.cells.all fun c=>(ownOf c).isSome||clo c)=zt)(hf:AM.noF v=zt)(Z':Nat->Prop):VR Z' ow h os x (S9 v (openT n v.cells).1):=by
 have hn:=Oi v.cells n C (Gw hf);cases A:isAg v with
 |true=>
  cases v<;>first|(cases A;done)|skip
  obtain⟨xs,rfl,l⟩:=a.agI;exact .agg l.1 fun i u w D B=>(l.2 i u w D B).noF (hn w (zqa B)) Z'
 |false=>
  have hl:(openT n v.cells).1.length=1:=by rw[Oj,C7 A];rfl
  have:S9 v (openT n v.cells).1∈(openT n v.cells).1:=by
   obtain⟨c,hc⟩:=zqz.1 hl;rw[hc]
   have:S9 v [c]=c:=by cases v<;>first|rfl|cases A
   grind
  exact a.noF (hn _ this) Z'
theorem VL.open_noF:∀(rs:List AV)(n:Nat)(xs:List AV),VL Z ow h os xs (openTs n rs).1->okRs rs=zt->noFL rs=zt->∀Z':Nat->Prop,VL Z' ow h os xs (openTs n rs).1
 |[],n,xs,a,_,_,Z'=>by
  cases xs with
  |nil=>exact .nil
  |cons u xs=>cases a.1
 |v::r,n,xs,a,hk,hf,Z'=>by
  obtain⟨h1,h2⟩:(v.cells.all fun c=>(ownOf c).isSome||clo c)=zt/\okRs r=zt:=by grind[okRs]
  obtain⟨A,B⟩:noF v=zt/\noFL r=zt:=zkg.1 (show(noF v&&noFL r)=zt from hf);unfold openTs at a|-;cases xs with
  |nil=>cases a.1
  |cons u xs=>
   obtain⟨C,D⟩:=a.inv;exact .cons (C.open_noF h1 A Z') (VL.open_noF r _ xs D h2 B Z')
theorem PT.noF{ps:List PO}(s:I6 Z ow h ps)(B:∀e∈ps,∃es sz,e=.row 0 es sz/\noFL es=zt)(hZ:∀a,Z' a->a<h.next/\ow a=znq):I6 Z' ow h ps where
 row r es sz hr:=by
  obtain⟨x,C⟩:=s.row r es sz hr;obtain⟨es',A,h1,h2⟩:=B _ (zqa hr);cases h1;exact⟨x,C.noF h2 Z'⟩
 raw r k es sz hr hk:=by
  obtain⟨es',A,h1,h2⟩:=B _ (zqa hr);grind
 map r es hr:=by
  obtain⟨es',A,h1,h2⟩:=B _ (zqa hr);cases h1
 inj:=s.inj
 live a L ho:=by
  obtain⟨h1,h2,h3⟩:=s.live a L ho;grind
 zb a hz:=(hZ a hz).1
 sb:=s.sb
def Dt(n:Nat)(ow ow1:Nat->Option (List Nat)):Nat->Option (List Nat):=fun d=>match ow d with
 |some L=>zsq L
 | none=>match ow1 d with
  |some (r::t)=>zsq ((n+r)::t)
  |_=>znq
theorem sE(s:I6 Z ow h os)(Y:I6 Z1 ow1 h1 ps)(Q:∀e∈ps,∃es sz,e=.row 0 es sz)(hn:h.next<=h1.next)(hz:∀id,Z id->Z1 id/\h1.get id=h.get id)(hzn:∀id,Z1 id->Z id\/h.next<=id)(un:∀id,id<h.next->h1.get id=h.get id)(hnew:∀id L,ow1 id=zsq L->h.next<=id):
 I6 Z1 (Dt os.length ow ow1) h1 (os++ps)/\Keep' ow os (Dt os.length ow ow1) (os++ps)/\Ren (fun id=>zsq (os.length+id)) ow1 ps (Dt os.length ow ow1) (os++ps)/\∀d r t,r<os.length->(Dt os.length ow ow1 d=zsq (r::t)↔ow d=zsq (r::t)):=by
 have hold:∀d,h.next<=d->ow d=znq:=fun d U=>by
  cases e:ow d with
  |none=>rfl
  |some L=>exact absurd (s.live d L e).1 (by omega)
 have H:∀d r t,r<os.length->(Dt os.length ow ow1 d=zsq (r::t)↔ow d=zsq (r::t)):=fun d r t A=>by
  unfold Dt;cases e:ow d with
  |some L=>exact .rfl
  |none=>
   simp only
   constructor
   . intro h0
     cases e1:ow1 d with
     |none=>rw[e1]at h0;cases h0
     |some M=>
      rw[e1]at h0;cases M with
      |nil=>cases h0
      |cons J t'=>cases h0;omega
   . intro h0;cases h0
 have hB:∀d r t,Dt os.length ow ow1 d=zsq ((os.length+r)::t)↔ow1 d=zsq (r::t):=fun d r t=>by
  unfold Dt
  constructor
  . intro h0
    cases e:ow d with
    |some L=>
     rw[e]at h0;cases h0;obtain⟨_,_,J,t',C,G⟩:=s.live d _ e;cases C
     have:=isRt_lt G;omega
    |none=>
     rw[e]at h0;simp only at h0;cases e1:ow1 d with
     |none=>rw[e1]at h0;cases h0
     |some M=>
      rw[e1]at h0;cases M with
      |nil=>cases h0
      |cons J t'=>
       simp only[Option.some.injEq,List.cons.injEq]at h0;obtain⟨h5,rfl⟩:=h0;obtain rfl:J=r:=by omega
       rfl
  grind
 have hC:∀d L,Dt os.length ow ow1 d=zsq L->(∃r t,L=r::t/\r<os.length/\ow d=zsq L)\/∃r t,L=(os.length+r)::t/\ow1 d=zsq (r::t):=fun d L h0=>by
  unfold Dt at h0;cases e:ow d with
  |some L'=>
   rw[e]at h0;cases h0;obtain⟨_,_,J,t',C,G⟩:=s.live d _ e;exact .inl ⟨J,t',C,isRt_lt G,rfl⟩
  |none=>
   grind
 have D:Keep' ow os (Dt os.length ow ow1) (os++ps):=Lt s.sb fun id hid L hL c=>by
  obtain⟨t,rfl,A,_⟩:=J1 6 id L hL;grind[isRt_lt]
 have I:∀d L,ow d=zsq L->h1.get d=h.get d:=fun d L ho=>un d (s.live d L ho).1
 have hps:∀(r:Nat) e,ps[r]?=zsq e->isRt (os++ps) (os.length+r)=zt:=fun r e A=>by
  unfold isRt;rw[zqv (by omega),Nat.add_sub_cancel_left,A];obtain⟨es,sz,rfl⟩:=Q e (zqa A);rfl
 have B:∀{r:Nat}{e:PO},(os++ps)[r]?=zsq e->(r<os.length/\os[r]?=zsq e)\/∃q,r=os.length+q/\ps[q]?=zsq e:=(by grind)
 refine⟨⟨fun r es sz A=>?_,fun r k es sz A hk=>?_,fun r es A=>?_,fun a b M ha hb=>?_,fun a M ha=>?_,Y.zb,fun j p i o V=>?_⟩,D,fun id j V hid=>?_,H⟩
 . rcases B A with⟨hl,A⟩|⟨q,rfl,N⟩
   . obtain⟨x,hx⟩:=s.row r es sz A
     exact⟨x,hx.reloc hn hz (fun d t=>H d r t hl) (fun d t U=>I d _ U)⟩
   . obtain⟨x,hx⟩:=Y.row q es sz N
     exact⟨x,hx.reloc (zkb _) (fun d U=>⟨U,rfl⟩) (fun d t=>hB d q t) (fun d t U=>rfl)⟩
 . rcases B A with⟨hl,A⟩|⟨q,rfl,N⟩
   . obtain⟨c,ces,g⟩:=s.raw r k es sz A hk
     exact⟨c,ces,(H c r [] hl).2 g.o,zka g.lt hn,(I c _ g.o).trans g.get,g.sh,fun i a b ha hb o u w hu hw=>(g.vr i a b ha hb o u w hu hw).keep hz D,g.okp,fun a t ha=>g.no a t ((H a r t hl).1 ha)⟩
   . obtain⟨es',X,C⟩:=Q _ (zqa N)
     grind
 . rcases B A with⟨hl,A⟩|⟨q,rfl,N⟩
   . obtain⟨c,ces,g⟩:=s.map r es A
     exact⟨c,ces,(H c r [] hl).2 g.o,zka g.lt hn,(I c _ g.o).trans g.get,g.len,fun i a b ha hb=>⟨(g.kv i a b ha hb).1,(g.kv i a b ha hb).2.mono hz⟩,fun a t ha=>g.no a t ((H a r t hl).1 ha)⟩
   . obtain⟨es',X,C⟩:=Q _ (zqa N)
     cases C
 . rcases hC a M ha with⟨r,t,rfl,C,G⟩|⟨r,t,rfl,G⟩
   . exact s.inj a b _ G ((H b r t C).1 hb)
   . exact Y.inj a b _ G ((hB b r t).1 hb)
 . rcases hC a M ha with⟨r,t,rfl,C,G⟩|⟨r,t,rfl,G⟩
   . obtain⟨q1,q2,J,t',q3,q4⟩:=s.live a _ G
     cases q3;refine⟨zka q1 hn,fun hz1=>?_,r,t,rfl,Wd q4⟩;grind
   . obtain⟨q1,q2,J,t',q3,q4⟩:=Y.live a _ G
     cases q3;obtain⟨e,he⟩:∃e,ps[r]?=zsq e:=⟨_,zqc (isRt_lt q4)⟩
     grind
 . rcases B V with⟨hl,V⟩|⟨q,rfl,N⟩
   . have:=s.sb j p i o V;simp;omega
   . obtain⟨es',X,C⟩:=Q _ (zqa N)
     cases C
 . cases V
   obtain⟨e,he⟩:∃e,ps[id]?=zsq e:=⟨_,zqc hid⟩
   refine⟨by simp;omega,fun L' hL'=>?_⟩;have C:(os++ps)[os.length+id]?=zsq e:=by grind
   obtain⟨es,sz,rfl⟩:=Q e (zqa he);grind[loP]
theorem xI{f:Nat}{g:List AV->Option (List AV)}(tc:TC E f g)(s:I6 Z ow h K.os)(C:K.ext<=K.os.length){args B vs:List AV}(l:VL Z ow h K.os B args)(e:tcall g args K=zsq (vs,K')):
 ∃Z' ow' h' A,callω E f B h=.ok (oneOrTup A) h'/\I6 Z' ow' h' K'.os/\Keep' ow K.os ow' K'.os/\(∀b,Stp b Z ow h K Z' ow' h' K')/\VL Z' ow' h' K'.os A vs:=by
 unfold tcall at e;cases ha:viewX K.os args with
 |none=>rw[ha]at e;cases e
 |some as1=>
  rw[ha]at e;simp only at e;cases hg:g as1 with
  |none=>rw[hg]at e;cases e
  |some rs=>
   rw[hg]at e;simp only at e;split at e
   . rename_i hc
     obtain⟨U,hc⟩:=zkg.1 hc;cases e;obtain⟨g1,g2⟩:=xH s l ha;have J:∀e∈(openTs 0 rs).2,∃es sz,e=.row 0 es sz:=fun e he=>let⟨es,sz,h1,_⟩:=Fx 0 rs e he;⟨es,sz,h1⟩
     have aa:∃(Z':Nat->Prop)(h1:Heap)(ow1:Nat->Option (List Nat))(A:List AV),callω E f B h=.ok (oneOrTup A) h1/\I6 Z' ow1 h1 (openTs 0 rs).2/\VL Z' ow1 h1 (openTs 0 rs).2 A (openTs 0 rs).1/\
      h.next<=h1.next/\(∀id,Z id->Z' id/\h1.get id=h.get id)/\(∀id,Z' id->Z id\/h.next<=id)/\(∀id,id<h.next->h1.get id=h.get id)/\(∀id L,ow1 id=zsq L->h.next<=id)/\∃l,h1.tch=l++h.tch/\∀id∈l,h.next<=id:=by
      have N:∀(i:Nat) x y,B[i]?=zsq x->as1[i]?=zsq y->∃c,args[i]?=zsq c/\Fz (Zv Z ow) h x y/\(O5 c=[]->Fz Z h x y):=fun i x y C D=>by
       obtain⟨c,hc⟩:∃c,args[i]?=zsq c:=⟨_,zqc (by have:=(zqb.1 D).1;omega)⟩
       exact⟨c,hc,g2 i x c y C hc D⟩
      by_cases G:refsL args=[]
      . have hm:∀(args:List AV)(i:Nat) c,refsL args=[]->args[i]?=zsq c->O5 c=[]:=fun ys=>by
         induction ys with
         |nil=>intro i c _ hc;simp at hc
         |cons a l ih=>
          intro i c h0 hc;have h0:O5 a++refsL l=[]:=h0;obtain⟨h1,h2⟩:=zqs.1 h0;cases i with
          |zero=>cases hc;exact h1
          |succ i=>exact ih i c h2 hc
        obtain ⟨A,h1,Z1,ow1,Y,q2,q3,H,q5,q6,I,V,q9⟩:=tc as1 rs hg Z h B (l.1.trans g1.symm) (fun i x y C D=>by
         obtain⟨c,hc,_,X⟩:=N i x y C D;exact X (hm args i c G hc)) s.zb
        grind
      . have Q:noFL rs=zt:=by
         grind
        have ab:∀id,Zv Z ow id->id<h.next:=fun id hz=>by
         rcases hz with hz|hz
         . exact s.zb id hz
         . cases e:ow id with
           |none=>grind
           |some L=>exact(s.live id L e).1
        obtain ⟨A,h1,Z1,ow1,Y,q2,q3,H,q5,q6,I,V,q9⟩:=tc as1 rs hg (Zv Z ow) h B (l.1.trans g1.symm) (fun i x y C D=>by
         obtain⟨c,hc,X,_⟩:=N i x y C D;exact X) ab
        refine⟨Z,h1,ow1,A,Y,q2.noF (fun e he=>?_) (fun a hz=>⟨zka (s.zb a hz) H,?_⟩),q3.open_noF rs 0 A U Q Z,H,fun id hz=>⟨hz,I id (s.zb id hz)⟩,fun id hz=>.inl hz,I,V,q9⟩
        . obtain⟨es,sz,h3,k,v,hv,X⟩:=Fx 0 rs e he
          exact⟨es,sz,h3,Gw (iY Q v hv) _ X⟩
        . cases e:ow1 a with
          |none=>rfl
          |some L=>have:=V a L e;have:=s.zb a hz;omega
     obtain⟨Z',h1,ow1,A,Y,q2,q3,H,q5,q6,I,V,l0,q9,q10⟩:=aa;obtain⟨r1,r2,r3,r4⟩:=sE s q2 J H q5 q6 I V;rw[aO rs K.os.length 0];refine⟨Z',_,h1,A,Y,r1,r2,fun b=>⟨H,q5,q6,fun id hl _=>I id hl,fun id L ho hl e=>?_,(by grind),fun id r t ho G=>.inl ⟨t,?_⟩,fun r G _=>G,rfl,fun j hj c G=>?_,fun j hj G=>?_⟩,?_⟩
     . grind[Dt]
     . grind
     . grind
     . grind[isRt]
     . have:=aP K.os.length rs 0 U
       rw[Nat.add_zero]at this;rw[this];exact q3.ren (fun id hz=>⟨hz,rfl⟩) r3
   . cases e
end
section
variable {E:Env}{P:PE}{R:AV->AV->Prop}{Z Z' Z1:Nat->Prop}{ow ow' ow1:Nat->Option (List Nat)}{h h' h1:Heap}{K K' K1:PK}{os os' ps:List PO}{x y xc yc v k:AV}{L M:List Nat}{nt:Nat}{frc:Tr}{fr:PF}
def Ww(nt:Nat)(l:List XOp):Bool:=l.all fun o=>match o.dst with|none=>zt|some t=>decide (t<nt)
def M1(nt:Nat):PC->Bool
 |.skip=>zt
 |.reg _ l=>Ww nt l
 |.seq a b=>M1 nt a&&M1 nt b
 |.cond _ a b=>M1 nt a&&M1 nt b
 |.block _ c=>M1 nt c
 |.loop c=>M1 nt c
 |.scope c=>M1 nt c
 |.exit _=>zt
 |.ret=>zt
 |.pre _ c=>M1 nt c
 |.post _ c=>M1 nt c
 |.rfn _ ps a b=>ps.all (fun p=>decide (p<nt))&&(M1 nt a&&M1 nt b)
 |.itf _ c=>M1 nt c
 |.yreg p0 _ yt p1 yd _ p2=>(decide (yt<nt)&&decide (yd<nt))&&(M1 nt p0&&(M1 nt p1&&M1 nt p2))
 |.dfr _ a _ c=>M1 nt a&&M1 nt c
 | .rcv _ d d2 c=>(decide (d<nt)&&decide (d2<nt))&&M1 nt c
def oZ:PC->FM
 |.itf _ c=>.itf c.eri
 |.dfr _ a g c=>.dfr a.pieces g c.er
 |.rcv _ d d2 c=>.rcv d d2 c.er
 |_=>.plain
structure FnOk(E:Env)(f:Nat)(p:PFn):Prop where
 gc:E.gc f=zf
 told:E.told f=zf
 dlf:E.dlf f=znq
 srt:∀args h,srtA E f args h=znq
 fn:E.fn f=zsq ⟨p.code.er,p.nt,p.rs,oZ p.code⟩
 nt:p.nt<1048576
 ok:M1 p.nt p.code=zt
structure PEok(P:PE):Prop where
 gl:yA P.E
 ti:IB P.E
 T:∀f g,P.T f=zsq g->TC P.E f g
 fn:∀f p,P.fn f=zsq p->FnOk P.E f p
def l5(b:Nat)(ow:Nat->Option (List Nat))(os:List PO)(ow':Nat->Option (List Nat))(os':List PO):Prop:=∀id,id<b->∀A,loP os' 6 id=zsq A->∃L,loP os 6 id=zsq L/\∀c,ow c=zsq L↔ow' c=zsq A
theorem l5.refl(b:Nat)(ow:Nat->Option (List Nat))(os:List PO):l5 b ow os ow os:=fun id _ A hl=>⟨A,hl,fun _=>.rfl⟩
theorem l5.trans{b:Nat}{ow2:Nat->Option (List Nat)}{os2:List PO}(a:l5 b ow os ow' os')(c:l5 b ow' os' ow2 os2):l5 b ow os ow2 os2:=fun id hi A hl=>by
 obtain⟨B,h1,h2⟩:=c id hi A hl;obtain⟨L0,h3,h4⟩:=a id hi B h1;grind
theorem Keep'.e{b:Nat}(a:Keep' ow os ow' os')(hb:b<=os.length):l5 b ow os ow' os':=fun id hi=>a.2 id (zka hi hb)
def C3(Z:Nat->Prop)(ow:Nat->Option (List Nat))(h:Heap)(K:PK)(nt:Nat)(r:CRes)(p:PR):Prop:=match p with
 |.ok e fr' K'=>∃Z' ow' h' A,r=.ok e A h'/\I6 Z' ow' h' K'.os/\FrR Z' ow' h' K'.os nt A fr'/\Stp K.ext Z ow h K Z' ow' h' K'/\K'.ext<=K'.os.length/\l5 K.ext ow K.os ow' K'.os
 |.pan v K'=>∃Z' ow' h' vc,r=.pan vc h'/\I6 Z' ow' h' K'.os/\VR Z' ow' h' K'.os vc v/\Stp K.ext Z ow h K Z' ow' h' K'/\K'.ext<=K'.os.length/\l5 K.ext ow K.os ow' K'.os
 |.val _ _=>True
 | .itr _ _ _ _=>True
theorem C3.trans{r:CRes}{p:PR}(s:I6 Z ow h K.os)(st:Stp K.ext Z ow h K Z' ow' h' K')(N:l5 K.ext ow K.os ow' K'.os)(c:C3 Z' ow' h' K' nt r p):C3 Z ow h K nt r p:=by
 cases p with
 |ok e fr' K2=>obtain⟨C,ow2,h2,A,D,G,H,I,J,B⟩:=c;exact⟨C,ow2,h2,A,D,G,H,st.trans s I,J,N.trans (by rw[st.ex]at B;exact B)⟩
 |pan v K2=>obtain⟨C,ow2,h2,vc,D,G,H,I,J,B⟩:=c;exact⟨C,ow2,h2,vc,D,G,H,st.trans s I,J,N.trans (by rw[st.ex]at B;exact B)⟩
 |_=>trivial
def BI(Z:Nat->Prop)(ow:Nat->Option (List Nat))(h:Heap)(K:PK)(r:Res)(p:PR):Prop:=match p with
 |.val vs K'=>∃Z' ow' h' A,r=.ok (oneOrTup A) h'/\I6 Z' ow' h' K'.os/\Keep' ow K.os ow' K'.os/\(∀b,Stp b Z ow h K Z' ow' h' K')/\VL Z' ow' h' K'.os A vs
 |.pan v K'=>∃Z' ow' h' vc,r=.pan vc h'/\I6 Z' ow' h' K'.os/\(∀b,Stp b Z ow h K Z' ow' h' K')/\VR Z' ow' h' K'.os vc v/\K'.ext<=K'.os.length/\Keep' ow K.os ow' K'.os
 |.ok _ _ _=>True
 | .itr _ _ _ _=>True
def pA(Z:Nat->Prop)(ow:Nat->Option (List Nat))(h:Heap)(K:PK)(r:Res)(p:PR):Prop:=match p with
 |.val vs K'=>∃Z' ow' h' A,r=.ok (oneOrTup A) h'/\I6 Z' ow' h' K'.os/\Stp K.ext Z ow h K Z' ow' h' K'/\VL Z' ow' h' K'.os A vs/\l5 K.ext ow K.os ow' K'.os/\K'.ext<=K'.os.length
 |.pan v K'=>∃Z' ow' h' vc,r=.pan vc h'/\I6 Z' ow' h' K'.os/\Stp K.ext Z ow h K Z' ow' h' K'/\VR Z' ow' h' K'.os vc v/\K'.ext<=K'.os.length/\l5 K.ext ow K.os ow' K'.os
 |.ok _ _ _=>True
 | .itr _ _ _ _=>True
theorem VL.one{xs ys:List AV}(l:VL Z ow h os xs ys):VR Z ow h os (oneOrTup xs) (oneOrTup ys):=by
 have hl:=l.1
 match xs,ys with
 |[],[]=>exact .tup rfl (fun i x y A=>by simp at A)
 |[x],[y]=>exact l.2 0 x y rfl rfl
 |x::x'::xs,y::y'::ys=>exact .tup l.1 l.2
 |[],_::_=>cases hl
 |_::_,[]=>cases hl
 |[_],_::_::_=>simp at hl
 |_::_::_,[_]=>simp at hl
theorem Me(A:K.ext<=K.os.length)(B:Keep' ow K.os ow' K'.os)(C:K'.ext=K.ext):K'.ext<=K'.os.length:=by rw[C];exact zkf A B.1
theorem FrR.setd(a:FrR Z ow h os nt frc fr){d:Option Tmp}(hd:(match d with|none=>zt|some t=>decide (t<nt))=zt)(v:VR Z ow h os x y):FrR Z ow h os nt (setDst d x frc) (setP d y fr):=by
 cases d with
 |none=>exact a
 |some t=>exact a.set (by grind) v
theorem vr_skipped:VR Z ow h os skipped skipped:=.tup rfl (fun i x y A=>by simp at A)
theorem mJ{w b:Bool}(v:VR Z ow h os x y)(e:i7 w y=zsq b):i7 w x=zsq b:=by
 cases y with
 |bool c=>rw[v.isB];exact e
 |tup cs=>
  cases cs with
  | nil=>cases v with
   |fz f=>cases f
   |tup hl _=>grind
  |cons=>cases e
 |_=>cases e
theorem y0{g:Option (Option Tmp×Bool)}{b:Bool}(a:FrR Z ow h os nt frc fr)(e:guardP g fr=zsq b):guardOk g frc=zsq b:=by
 cases g with
 |none=>exact e
 |some p=>
  obtain⟨t,w⟩:=p;cases t with
  |none=>exact e
  |some t=>exact mJ (a.v t) e
theorem Wx:∀(l:List AV)(i:Nat)(t:Tr)(j:Nat),(∀j,j<i+l.length->t.has j=zt)->(Tr.setAll l i t).get j=if i<=j then(match l[j-i]? with|some v=>v|none=>t.get j)else t.get j
 |[],i,t,j,_=>by
  show t.get j=_
  grind
 |v :: l,i,t,j,hh=>by
  show(Tr.setAll l (i+1) (t.set i v)).get j=_
  rw[Wx l (i+1) (t.set i v) j (by grind[Go.AM.Tr.has_set])];by_cases e:i=j
  . subst e
    rw[if_neg (by omega),if_pos (zkb _),Nat.sub_self,Tr.get_set_eq,hh i (by simp),if_pos rfl];rfl
  . rw[Tr.get_set_ne _ _ _ _ e]
    grind
theorem Wy:∀(l:List AV)(i j:Nat),lookP (enterP i l) j=if i<=j then(match l[j-i]? with|some v=>v|none=>.und)else .und
 |[],i,j=>by show AV.und=_;grind
 |v::l,i,j=>by
  show(if i=j then v else lookP (enterP (i+1) l) j)=_
  rw[Wy l (i+1) j];grind
theorem Ok{args A:List AV}(l:VL Z ow h os A args)(hn:args.length<=nt)(hb:nt<1048576):FrR Z ow h os nt (Tr.enter nt A) (enterP 0 args):=by
 have hh:∀j,j<0+A.length->(Tr.mk 20 nt).has j=zt:=fun j hj=>by rw[Tr.has_mk' 20 nt j hb];have:=l.1;simp;omega
 refine⟨fun i=>?_,fun i hi=>?_⟩
 . show VR Z ow h os ((Tr.setAll A 0 (Tr.mk 20 nt)).get i) _
   rw[Wx A 0 _ i hh,Wy args 0 i,if_pos (Nat.zero_le _),if_pos (Nat.zero_le _),Nat.sub_zero];cases C:args[i]? with
   |none=>exact .und
   |some y=>
    obtain⟨x,B⟩:∃x,A[i]?=zsq x:=⟨_,zqc (by have:=(zqb.1 C).1;have:=l.1;omega)⟩
    rw[B];exact l.2 i x y B C
 . have:∀(l:List AV)(i:Nat)(t:Tr)(j:Nat),(Tr.setAll l i t).has j=t.has j:=fun l=>by
    induction l with
    |nil=>intro i t j;rfl
    |cons v l ih=>simp_all[Tr.setAll,Tr.has_set]
   show(Tr.setAll A 0 (Tr.mk 20 nt)).has i=zt
   grind[Tr.has_mk']
theorem Stp.subs(s:I6 Z ow h K.os)(hx:K.ext<=K.os.length){K':PK}(A:K'.ext=K.ext)(ht:K'.tch=K.tch){ps:List PO}(ho:K'.os=K.os++ps)(hp:∀e∈ps,∃a b c,e=.sub a b c)(b:Nat):Stp b Z ow h K Z ow h K':=by
 refine⟨zkb _,fun id hz=>⟨hz,rfl⟩,fun id hz=>.inl hz,fun _ _ _=>rfl,(by grind),(by simp_all),fun id r t ho _=>.inl ⟨t,ho⟩,fun r B _=>by grind,A,fun j _ c _=>.rfl,fun j hj B=>?_⟩;grind[isRt]
theorem dW:∀(rs:List ResultVar){K:PK}{vs:List AV}{K':PK},I6 Z ow h K.os->K.ext<=K.os.length->FrR Z ow h K.os nt frc fr->resP E rs fr K=zsq (vs,K') ->
 ∃A,J9 E rs frc h=zsq A/\I6 Z ow h K'.os/\Keep' ow K.os ow K'.os/\Stp K.ext Z ow h K Z ow h K'/\VL Z ow h K'.os A vs
 |[],K,vs,K',s,hx,a,e=>by cases e;exact⟨[],rfl,s,.refl _ _,.refl _ _ _ _ _,.nil⟩
 |.tmp t::l,K,vs,K',s,hx,a,e=>by
  unfold resP at e;cases C:resP E l fr K with
  |none=>grind
  |some q=>
   obtain⟨us,K2⟩:=q;rw[C]at e;cases e;obtain⟨A,N,D,B,G,H⟩:=dW l s hx a C;refine⟨frc.get t::A,?_,D,B,G,.cons ((a.v t).keep (fun _ hz=>⟨hz,rfl⟩) B) H⟩;simp_all[A6,J9]
 |.cell c t::l,K,vs,K',s,hx,a,e=>by
  unfold resP at e;cases ht:E.ti t with
  |none=>grind
  |some ti=>
   rw[ht]at e;simp only at e;cases hl:loadP ti (lookP fr c) K with
   |none=>grind
   |some q=>
    obtain⟨v,K1⟩:=q;rw[hl]at e;simp only at e;obtain⟨vc,b1,Q,I,U,J,V,ps,X,Y⟩:=iK s (a.v c) hl;cases C:resP E l fr K1 with
    |none=>grind
    |some q=>
     obtain⟨us,K2⟩:=q;rw[C]at e;cases e;obtain⟨A,N,D,B,G,H⟩:=dW l Q (Me hx I J) (a.keep (fun _ hz=>⟨hz,rfl⟩) I) C;refine⟨vc::A,?_,D,I.trans B,(Stp.subs s hx J V X Y _).trans s G,.cons (U.keep (fun _ hz=>⟨hz,rfl⟩) B) H⟩;simp_all[A6,J9,R6]
end
section
variable {E:Env}
theorem g8{g:Nat->CRes}{r:CRes}{k:Nat->Tr->Heap->IRes}{s:Tr->Heap->IRes}(hg:Lim .bad g r)(A:∀fr h,Lim .bad (fun n=>k n fr h) (s fr h)):Lim .bad (fun n=>J5 (k n) (g n)) (J5 s r):=
 hg.bind (k:=fun n r=>J5 (k n) r) (s:=fun r=>J5 s r) (fun _=>rfl) rfl (fun _=>by
  cases r with
  | ok e fr h=>cases e with
   |normal=>exact A fr h
   |_=>exact .const
  |_=>exact .const)
theorem sF{g:Nat->CRes}{r:CRes}{k:Nat->Tr->Heap->CRes}{s:Tr->Heap->CRes}(hg:Lim .bad g r)(A:∀fr h,Lim .bad (fun n=>k n fr h) (s fr h)):Lim .bad (fun n=>Do (k n) (g n)) (Do s r):=
 hg.bind (k:=fun n r=>Do (k n) r) (s:=fun r=>Do s r) (fun _=>rfl) rfl (fun _=>by
  cases r with
  | ok e fr h=>cases e with
   |normal=>exact A fr h
   |_=>exact .const
  |_=>exact .const)
theorem Wz{R:Type}{bad:R}{o:Option Bool}{a b:Nat->R}{x y:R}(ha:Lim bad a x)(hb:Lim bad b y):Lim bad (fun n=>N9 o bad (a n) (b n)) (N9 o bad x y):=by
 cases o with
 |none=>exact .const
 |some t=>cases t;exact hb;exact ha
theorem Mf{R:Type}{bad:R}{t:Bool}{a:Nat->R}{x:R}(ha:Lim bad a x):Lim bad (fun n=>bif t then a n else bad) (bif t then x else bad):=by
 cases t;exact .const;exact ha
theorem xJ(p2:XC)(yd:Tmp)(fr:Tr){g:Nat->CRes}{r:CRes}(hg:Lim .bad g r):Lim .bad (fun n=>Gy (ev E n) p2 yd fr (g n)) (Gy (evω E) p2 yd fr r):=
 hg.bind (k:=fun n r=>Gy (ev E n) p2 yd fr r) (s:=fun r=>Gy (evω E) p2 yd fr r) (fun _=>rfl) rfl (fun _=>by
  cases r with
  | ok e fr' h=>cases e with
   |_=>exact g8 (ev_lim _ _ _) (fun _ _=>.const)
  |_=>exact .const)
theorem iZ{g:Nat->IRes}{r:IRes}{k:Nat->Option Ex->Tr->Heap->IRes}{s:Option Ex->Tr->Heap->IRes}(hg:Lim .bad g r)(A:∀p fr h,Lim .bad (fun n=>k n p fr h) (s p fr h)):Lim .bad (fun n=>Jl (k n) (g n)) (Jl s r):=
 hg.bind (k:=fun n r=>Jl (k n) r) (s:=fun r=>Jl s r) (fun _=>rfl) rfl (fun _=>by
  cases r with
  | ok e p fr h=>cases e with
   |normal=>exact A p fr h
   |_=>exact .const
  |_=>exact .const)
theorem pB{Y:Nat->List AV->Heap->CRes}{B:List AV->Heap->CRes}(C:∀l h,Lim .bad (fun n=>Y n l h) (B l h))(nt:Nat):∀(m:Nat)(c:IC)(p:Option Ex)(fr:Tr)(h:Heap),Lim .bad (fun n=>evI E (ev E n) nt (Y n) m c p fr h) (evI E (evω E) nt B m c p fr h)
 |0,c,p,fr,h=>.const
 |m + 1,c,p,fr,h=>by
  have A:=pB C nt m;show Lim .bad (fun n=>eZ E (ev E n) nt (Y n) (evI E (ev E n) nt (Y n) m) c p fr h) (eZ E (evω E) nt B (evI E (evω E) nt B m) c p fr h)
  cases c with
  |reg x=>exact g8 (ev_lim x fr h) (fun _ _=>.const)
  |yreg p0 gd yt p1 yd args p2=>
   refine g8 (ev_lim p0 fr h) fun fr h=>Wz ?_ ?_
   . cases p with
     |some _=>exact .const
     |none=>exact Mf (g8 (ev_lim p1 _ h) fun fr h=>Wz (xJ p2 yd fr (C _ h)) .const)
   . exact g8 (ev_lim p1 _ h) fun fr h=>Wz .const (g8 (ev_lim p2 _ h) fun _ _=>.const)
  |seq a b=>exact iZ (A a p fr h) (fun p fr h=>A b p fr h)
  |cond x a b=>
   show Lim .bad (fun n=>(opv E x fr).onBool .bad fun t=>match t with|true=>evI E (ev E n) nt (Y n) m a p fr h|false=>evI E (ev E n) nt (Y n) m b p fr h) ((opv E x fr).onBool .bad fun t=>match t with|true=>evI E (evω E) nt B m a p fr h|false=>evI E (evω E) nt B m b p fr h)
   cases opv E x fr with
   |bool t=>cases t;exact A b p fr h;exact A a p fr h
   |_=>exact .const
  |block id c=>exact(A c p fr h).bind (k:=fun _ r=>Hz id r) (s:=fun r=>Hz id r) (fun _=>rfl) rfl (fun _=>.const)
  |loop c=>exact iZ (A c p fr h) (fun p fr h=>A (.loop c) p fr h)
  |_=>exact .const
theorem mK(ps:List Tmp)(a b:XC)(fr:Tr)(args:List AV)(h:Heap):Lim .bad (fun n=>roundY (ev E n) ps a b fr args h) (roundY (evω E) ps a b fr args h):=
 Mf (sF (ev_lim a _ h) fun fr h=>ev_lim b fr h)
theorem QT{fr:Tr}{h:Heap}(g:Operand)(ps:List Tmp)(a b:XC):evω E (.rfn g ps a b) fr h=rfnA E (evω E) ps a b fr h (opv E g fr):=j8 (by
 show Lim .bad (fun n=>rfnA E (ev E n) ps a b fr h (opv E g fr)) _
 cases opv E g fr with
 |fn f first caps=>
  cases f with
  |func n=>
   refine Mf ?_;refine Lim.bind (bad:=.bad) (g:=fun n'=>itF E (ev E n') n caps (roundY (ev E n') ps a b fr) h) (k:=fun _ r=>backA fr r) (s:=fun r=>backA fr r) ?_ (fun _=>rfl) rfl (fun _=>.const);unfold itF;cases E.fn n with
   |none=>exact .const
   |some A=>
    refine Mf ?_;cases A.mode with
    |itf c=>exact(pB (mK ps a b fr) A.ntmps itMax c znq _ h).bind (k:=fun _ r=>finI r) (s:=fun r=>finI r) (fun _=>rfl) rfl (fun _=>.const)
    |_=>exact .const
  |_=>exact .const
 |_=>exact .const)
theorem xK{f:Nat}{args:List AV}{h:Heap}{c:XC}{n:Nat}{rs:List ResultVar}{m:FM}(A:m=.plain\/∃ic,m=.itf ic)(hg:E.gc f=zf)(B:E.told f=zf)(C:E.dlf f=znq)(D:∀args h,srtA E f args h=znq)(hf:E.fn f=zsq ⟨c,n,rs,m⟩)(hn:args.length<=n):
 callω E f args h=M7 E rs (evω E c (Tr.enter n args) h):=by
 refine (Gp (E:=E) f args h).unique ?_;have e:∀k,K7 E (ev E k) f args h=M7 E rs (ev E k c (Tr.enter n args) h):=fun k=>by
  unfold K7;rw[hg];show S6 E (ev E k) f args h=_
  unfold S6;rw[B,C,D,hf];show(bif Nat.ble (lenL args) n then Sr E (ev E k) ⟨c,n,rs,m⟩ args h else .bad)=_
  rw[A7,zkc hn];rcases A with rfl|⟨ic,rfl⟩<;>rfl
 simp only[e];exact(ev_lim (E:=E) c (Tr.enter n args) h).bind (k:=fun _ r=>M7 E rs r) (s:=M7 E rs) (fun _=>rfl) rfl (fun _=>.const)
end
section
variable {E:Env}{P:PE}{R:AV->AV->Prop}{Z Z' Z1:Nat->Prop}{ow ow' ow1:Nat->Option (List Nat)}{h h' h1:Heap}{K K' K1:PK}{os os' ps:List PO}{x y xc yc v k:AV}{L M:List Nat}{nt:Nat}{frc:Tr}{fr:PF}
theorem D9{a:Option PR}{f:PR->Option PR}{r:PR}(e:(a >>= f)=zsq r):∃q,a=zsq q/\f q=zsq r:=by
 cases a with
 |none=>cases e
 |some q=>grind
def u3(l:List XOp):Bool:=l.all fun o=>!o.careful
def EY(b:Nat)(Z:Nat->Prop)(ow:Nat->Option (List Nat))(h:Heap)(os:List PO)(nt:Nat)(frc:Tr)(fr:PF):Prop:=∃C B h0 A,List.length A=b/\FrR C B h0 A nt frc fr/\(∀id,C id->Z id/\h.get id=h0.get id)/\l5 b B A ow os
theorem EY.now{b:Nat}(a:EY b Z ow h os nt frc fr)(hb:b<=os.length):FrR Z ow h os nt frc fr:=by
 obtain⟨Z0,ow0,h0,os0,rfl,A,B,C⟩:=a;exact A.keep B ⟨hb,C⟩
theorem EY.step{b:Nat}(a:EY b Z ow h os nt frc fr)(hz:∀id,Z id->Z' id/\h'.get id=h.get id)(C:l5 b ow os ow' os'):EY b Z' ow' h' os' nt frc fr:=by
 obtain⟨D,A,h0,B,e,G,a2,H⟩:=a;exact⟨D,A,h0,B,e,G,(by grind),H.trans C⟩
theorem jA(s:I6 Z ow h K.os)(A:K.ext<=K.os.length)(sb:Stp K.os.length Z ow h ⟨K.os,K.os.length,[]⟩ Z' ow' h' K1)(b:Nat):Stp b Z ow h K Z' ow' h' ⟨K1.os,K.ext,K1.tch++K.tch⟩:=by
 obtain⟨D,G,H⟩:=sb.th;refine⟨sb.nx,sb.zz,sb.zn,sb.un,sb.uo,⟨D,G,fun id hi=>?_⟩,fun id r t ho C=>?_,(by grind),rfl,fun j B=>sb.xk j (zka B A),fun j B=>sb.rd j (zka B A)⟩
 . rcases H id hi with h|⟨r,t,I,q2⟩
   . exact .inl h
   . obtain⟨_,_,r',t',q3,q4⟩:=s.live id _ I
     grind[isRt_lt]
 . rcases sb.mv id r t ho (zka C A)with h|h
   . exact .inl h
   grind
theorem aQ(e1:K1.ext=K.os.length)(e2:K1.ext<=K1.os.length)(e3:l5 K.os.length ow K.os ow' K1.os):Keep' ow K.os ow' K1.os:=⟨by grind,e3⟩
def QU(nt:Nat)(c:RC):Bool:=c.ps.all (fun p=>decide (p<nt))&&(M1 nt c.a&&M1 nt c.b)
theorem aR:∀(ps:List Tmp){A args:List AV}{frc:Tr}{fr:PF},VL Z ow h os A args->ps.all (fun p=>decide (p<nt))=zt->FrR Z ow h os nt frc fr->FrR Z ow h os nt (setPs ps A frc) (setPs' ps args fr)
 |[],_,_,_,_,_,_,a=>a
 |p::ps,[],[],_,_,_,_,a=>a
 |p::ps,x::xs,y::ys,frc,fr,l,hp,a=>by
  obtain⟨h1,h2⟩:=zkg.1 hp;exact aR ps l.inv.2 h2 (a.set (by grind) l.inv.1)
 |p::ps,[],y::ys,_,_,l,_,_=>by have:=l.1;simp at this
 |p::ps,x::xs,[],_,_,l,_,_=>by have:=l.1;simp at this
def G4(Z:Nat->Prop)(ow:Nat->Option (List Nat))(h:Heap)(K:PK)(nt:Nat)(r:IRes)(p:PR):Prop:=match p with
 |.itr e q fr' K'=>∃Z' ow' h' A,r=.ok e q A h'/\I6 Z' ow' h' K'.os/\FrR Z' ow' h' K'.os nt A fr'/\Stp K.ext Z ow h K Z' ow' h' K'/\K'.ext<=K'.os.length/\l5 K.ext ow K.os ow' K'.os
 |.ok _ _ _=>True
 |.val _ _=>True
 | .pan _ _=>True
theorem G4.trans{r:IRes}{p:PR}(s:I6 Z ow h K.os)(st:Stp K.ext Z ow h K Z' ow' h' K')(C:l5 K.ext ow K.os ow' K'.os)(c:G4 Z' ow' h' K' nt r p):G4 Z ow h K nt r p:=by
 cases p with
 |itr e q fr' K2=>obtain⟨D,ow2,h2,A,G,H,I,J,N,B⟩:=c;exact⟨D,ow2,h2,A,G,H,I,st.trans s J,N,C.trans (by rw[st.ex]at B;exact B)⟩
 |_=>trivial
theorem xL{o:Option PFn}{n:Nat}{ic:PC}(e:itOf o=zsq (n,ic)):∃x rs i,o=zsq ⟨.itf x ic,n,rs,i⟩:=by
 unfold itOf at e;grind
theorem IG{n:Nat}{caps:List AV}(v:VR Z ow h os x (.fn (.func n) [] caps)):∃A,x=.fn (.func n) [] A/\VL Z ow h os A caps:=by
 cases v with
 |fz f=>cases f
 |fn h1 _ B C=>
  rename_i as1 bs _
  have:as1=[]:=zqj h1
  subst this;exact⟨_,rfl,B,C⟩
def BJ(d:List Nat)(ws:List (PK×(Nat->Option (List Nat)))):Prop:=∀c,sK c d=zt->∃p∈ws,∃r t,p.2 c=zsq (r::t)/\r∈p.1.tch
theorem bodyJ_or(c:PC):(∃x a g d,c=.dfr x a g d)\/(∃x d d2 b,c=.rcv x d d2 b)\/((∀fr K,bodyJ c fr K=.code c fr K)/\(oZ c=.plain\/∃ic,oZ c=.itf ic)):=by
 cases c<;>first|exact .inl ⟨_,_,_,_,rfl⟩|exact .inr (.inl ⟨_,_,_,_,rfl⟩)|exact .inr (.inr ⟨fun _ _=>rfl,.inl rfl⟩)|exact .inr (.inr ⟨fun _ _=>rfl,.inr ⟨_,rfl⟩⟩)
def QV(P:PE):PJ->PR->Prop
 |.code c fr K,r=>∀nt Z ow h frc,I6 Z ow h K.os->K.ext<=K.os.length->FrR Z ow h K.os nt frc fr->M1 nt c=zt->C3 Z ow h K nt (evω P.E c.er frc h) r
 |.ops l fr K,r=>∀nt Z ow h frc,I6 Z ow h K.os->K.ext<=K.os.length->FrR Z ow h K.os nt frc fr->Ww nt l=zt->C3 Z ow h K nt (I8 P.E (callω P.E) l frc h) r
 |.opsD l fr K,r=>∀nt Z ow h frc d,I6 Z ow h K.os->K.ext<=K.os.length->FrR Z ow h K.os nt frc fr->Ww nt l=zt->(d=[]\/u3 l=zt)->C3 Z ow h K nt (evOpsD P.E (callω P.E) l frc h d) r
 |.opsS S l fr K,r=>∀nt Z ow h frc d ws,I6 Z ow h K.os->K.ext<=K.os.length->FrR Z ow h K.os nt frc fr->Ww nt l=zt->ws.map Prod.fst=S->BJ d ws->(∀p∈ws,Keep' p.2 p.1.os ow K.os)->C3 Z ow h K nt (evOpsD P.E (callω P.E) l frc h d) r
 |.call f args K,r=>∀Z ow h A,I6 Z ow h K.os->K.ext<=K.os.length->VL Z ow h K.os A args->BI Z ow h K (callω P.E f A h) r
 |.body f args K,r=>∀Z ow h A,I6 Z ow h K.os->K.ext<=K.os.length->VL Z ow h K.os A args->pA Z ow h K (callω P.E f A h) r
 |.iter c m ic p fr K,r=>∀nt C Z ow h frc B,I6 Z ow h K.os->K.ext<=K.os.length->FrR Z ow h K.os nt frc fr->EY K.ext Z ow h K.os C B c.fr->M1 nt ic=zt->QU C c=zt->G4 Z ow h K nt (evI P.E (evω P.E) nt (roundY (evω P.E) c.ps c.a.er c.b.er B) m ic.eri p frc h) r
 |.dfc _ _ _ _ _,_=>True
 |.rcv _ _ _,_=>False
 | .round c args K,r=>∀C Z ow h B A,I6 Z ow h K.os->K.ext<=K.os.length->FrR Z ow h K.os C B c.fr->VL Z ow h K.os A args->QU C c=zt->C3 Z ow h K C (roundY (evω P.E) c.ps c.a.er c.b.er B A h) r
theorem mL(call:D5)(o:XOp)(l:List XOp)(frc:Tr)(h:Heap):I8 E call (o::l) frc h=N9 (guardOk o.gd frc) .bad (Y9 o.dst (I8 E call l) frc (evOp E call o.op frc h)) (I8 E call l (setDst o.dst skipped frc) h):=rfl
theorem Qg(call:D5)(o:XOp)(l:List XOp)(frc:Tr)(h:Heap)(d:List Nat):evOpsD E call (o::l) frc h d=N9 (guardOk o.gd frc) .bad (Q2 o.dst (evOpsD E call l) (j1 E call l o.late (setDst o.dst skipped frc) h d) frc (evOpD E call o frc h d)) (evOpsD E call l (setDst o.dst skipped frc) h d):=rfl
structure Did2(Z:Nat->Prop)(ow:Nat->Option (List Nat))(h:Heap)(K:PK)(r:Res)(v:AV)(K':PK)(Z':Nat->Prop)(ow':Nat->Option (List Nat))(vc:AV)(h':Heap):Prop where
 r:r=.ok vc h'
 st:I6 Z' ow' h' K'.os
 kp:Keep' ow K.os ow' K'.os
 vr:VR Z' ow' h' K'.os vc v
 sp:∀b,Stp b Z ow h K Z' ow' h' K'
theorem Did'.two{r:Res}{vc:AV}(a:Did' Z ow h K r v K' ow' vc h'):Did2 Z ow h K r v K' Z ow' vc h':=⟨a.r,a.st,a.kp,a.vr,a.sp⟩
theorem Xa{o:XOp}{l:List XOp}(e:Ww nt (o::l)=zt):(match o.dst with|none=>zt|some t=>decide (t<nt))=zt/\Ww nt l=zt:=by
 exact zkg.1 e
theorem Ol{o:XOp}{l:List XOp}(e:u3 (o::l)=zt):o.careful=zf/\u3 l=zt:=by
 grind[u3]
theorem mM(r:Option Nat):readOk r []=zt:=by cases r<;>rfl
theorem xM{call:D5}{o:XOp}{d:List Nat}{l:List XOp}(B:o.quiet=zf)(A:d=[]\/u3 (o::l)=zt):evOpD E call o frc h d=u9 d (evOp E call o.op frc h):=by
 unfold evOpD;rw[B];show(bif o.careful then _ else _)=_
 cases hc:o.careful with
 |false=>rfl
 |true=>
  rcases A with rfl|A
  . rw[mM];rfl
  . rw[(Ol A).1]at hc;cases hc
theorem Om{b:Nat}(sb:Stp b Z ow {h with tch:=[]} {K with tch:=[]} Z' ow' h1 K1):Stp b Z ow h K Z' ow' {h1 with tch:=Bm (I9 h.next h1.tch) h.tch} {K1 with tch:=K1.tch++K.tch}:=by
 obtain⟨l0,f1,f2⟩:=sb.th;refine⟨sb.nx,sb.zz,sb.zn,sb.un,sb.uo,⟨I9 h.next h1.tch,by grind[Gb],fun id hi=>?_⟩,fun id r t ho A=>?_,(by grind),sb.ex,sb.xk,sb.rd⟩
 . grind[m4]
 . rcases sb.mv id r t ho A with h|h
   . exact .inl h
   grind
theorem aS{call:D5}{o:XOp}{d:List Nat}{l:List XOp}(C:o.quiet=zt)(s:I6 Z ow h K.os)(B:d=[]\/u3 (o::l)=zt){r:AV}{Z':Nat->Prop}{ow':Nat->Option (List Nat)}{vc:AV}{h1:Heap}
 (a:Did2 Z ow {h with tch:=[]} {K with tch:=[]} (evOp E call o.op frc {h with tch:=[]}) v K1 Z' ow' vc h1)(A:Ds K.os.length l K1=zt):
 ∃h2 d2,evOpD E call o frc h d=.ok vc h2 d2/\Did2 Z ow h K (.ok vc h2) v {K1 with tch:=K1.tch++K.tch} Z' ow' vc h2/\(d2=[]\/u3 l=zt):=by
 have e:evOpD E call o frc h d=.ok vc {h1 with tch:=Bm (I9 h.next h1.tch) h.tch} (Bm (I9 h.next h1.tch) d):=by
  unfold evOpD;rw[C];show y7 h.next h.tch d (evOp E call o.op frc {h with tch:=[]})=_
  rw[a.r];rfl
 refine⟨_,_,e,⟨rfl,a.st.congr rfl (fun _=>rfl),a.kp,a.vr.keep (fun _ hz=>⟨hz,rfl⟩) (.refl _ _),fun b=>?_⟩,?_⟩
 . exact Om (a.sp b)
 . unfold Ds at A
   rcases zki.1 A with A|A
   . rcases B with rfl|B
     . left
       obtain⟨D,G,H⟩:=(a.sp K.os.length).th
       have:I9 h.next h1.tch=[]:=Qc fun i hi=>by
        rw[G]at hi;have hi:i∈D:=by grind
        rcases H i hi with h|⟨r,t,I,q2⟩
        . exact h
        . obtain⟨_,_,r',t',q3,q4⟩:=s.live i _ I
          grind[isRt_lt]
       rw[this];rfl
     . exact .inr (Ol B).2
   . exact .inr A
theorem dX(gl:yA E)(ti:IB E){call:D5}:∀(l:List XOp){s:List Bool}{Z:Nat->Prop}{ow:Nat->Option (List Nat)}{h:Heap}{K:PK}{frc:Tr}{fr:PF}{d:List Nat},I6 Z ow h K.os->K.ext<=K.os.length->FrR Z ow h K.os nt frc fr->Ww nt l=zt->(d=[]\/u3 l=zt)->Vz E l s fr K=zt->j1 E call l s frc h d=zt:=fun _ _ _ _ _ _ _ _ _ _ _ _ _ _ e=>by cases e
theorem dY{os:List PO}{id:Nat}(h:QQ os id=zt):loP os 6 id=zsq [id]:=by
 grind[QQ,loP]
theorem BK{id i off:Nat}(v:VR Z ow h os x (.ptr id i off)):∃c,x=.ptr c i off/\∀L,loP os 6 id=zsq L->ow c=zsq L:=by
 cases v with
 |fz f=>cases f
 |ptr h1 h2=>grind
theorem dZ{i:Nat}:∀{l:List Nat},sK i l=zt->i∈l
 |[],h=>by cases h
 |j::l,h=>by
  have h:(bif Nat.beq j i then zt else sK i l)=zt:=h;cases e:Nat.beq j i with
  |true=>simp_all
  |false=>rw[e]at h;exact zqi.2 (.inr (dZ h))
theorem eA{i:Nat}:∀{l:List Nat},i∈l->sK i l=zt
 |j :: l,h=>by
  show(bif Nat.beq j i then zt else sK i l)=zt
  rcases zqi.1 h with rfl|h
  . rw[zkd];rfl
  . cases Nat.beq j i with
    |true=>rfl
    |false=>exact eA h
theorem Iz{call:D5}{o:XOp}{d:List Nat}{l:List XOp}(G:o.quiet=zt)(s:I6 Z ow h K.os)(hd:d=[]\/u3 (o::l)=zt){r:AV}{Z':Nat->Prop}{ow':Nat->Option (List Nat)}{vc:AV}{h1:Heap}
 (a:Did2 Z ow {h with tch:=[]} {K with tch:=[]} (evOp E call o.op frc {h with tch:=[]}) v K1 Z' ow' vc h1):
 ∃h2 d2,evOpD E call o frc h d=.ok vc h2 d2/\Did2 Z ow h K (.ok vc h2) v {K1 with tch:=K1.tch++K.tch} Z' ow' vc h2/\(d=[]->∀c,sK c d2=zt->∃r t,ow c=zsq (r::t)/\r∈K1.tch):=by
 have e:evOpD E call o frc h d=.ok vc {h1 with tch:=Bm (I9 h.next h1.tch) h.tch} (Bm (I9 h.next h1.tch) d):=by
  unfold evOpD;rw[G];show y7 h.next h.tch d (evOp E call o.op frc {h with tch:=[]})=_
  rw[a.r];rfl
 refine⟨_,_,e,⟨rfl,a.st.congr rfl (fun _=>rfl),a.kp,a.vr.keep (fun _ hz=>⟨hz,rfl⟩) (.refl _ _),fun b=>?_⟩,?_⟩
 . exact Om (a.sp b)
 . rintro rfl c hc
   have hc:=dZ hc;rw[Gb,zqr]at hc;obtain⟨A,hc2⟩:=m4.1 hc;obtain⟨_,_,H,t',I,q4⟩:c<h.next/\¬Z c/\∃r t,(∃L,ow c=zsq L/\L=r::t)/\isRt K.os r=zt:=by
    obtain⟨B,C,D⟩:=(a.sp 0).th;rw[C]at A;have A:c∈B:=by grind
    rcases D c A with h|⟨r,t,h1,_⟩
    . grind
    . obtain⟨p1,p2,H,t',p3,p4⟩:=s.live c _ h1
      grind
   obtain⟨L,q5,rfl⟩:=I;obtain⟨B,C,D⟩:=(a.sp K.os.length).th;grind[isRt_lt]
theorem jB{n:Nat}{l:List XOp}{K1:PK}(A:¬Ds n l K1=zt):¬u3 l=zt:=fun e=>A (zki.2 (.inr e))
theorem xN(gl:yA E){call:D5}{o:XOp}{d:List Nat}{ws:List (PK×(Nat->Option (List Nat)))}(a:FrR Z ow h K.os nt frc fr)(hq:o.quiet=zf)(sf:BJ d ws)(kp:∀p∈ws,Keep' p.2 p.1.os ow K.os)(hc:wR E (ws.map Prod.fst) K fr o=zt):evOpD E call o frc h d=u9 d (evOp E call o.op frc h):=by
 unfold evOpD;rw[hq];show(bif o.careful then _ else _)=_
 cases I:o.careful with
 |false=>rfl
 |true=>
  have:readOk (readO E o.op frc) d=zt:=by
   cases A:readO E o.op frc with
   |none=>rfl
   |some c=>
    show(!(sK c d))=zt
    cases J:sK c d with
    |false=>rfl
    |true=>
     obtain⟨p,V,r0,t0,e1,e2⟩:=sf c J;have hc:=zqf.1 hc p.1 (zql.2 ⟨p,V,rfl⟩);have kp:=kp p V;unfold EV at hc;rw[I]at hc;dsimp only at hc;cases N:o.op<;>rw[N]at hc A<;>first|(cases hc;done)|skip
     rename_i t x
     change EU K.os p.1 (opvP E x fr)=zt at hc
     have U:=Bq gl a x;cases Q:opvP E x fr<;>rw[Q]at hc U<;>first|(cases hc;done)|skip
     rename_i id i off;obtain⟨C,B⟩:=zkg.1 hc;obtain⟨B,X⟩:=zkg.1 B;have B:¬id∈p.1.tch:=by simpa using B
     obtain⟨c',G,H⟩:=BK U
     change r7 (opv E x frc)=zsq c at A
     rw [G]at A;cases A;have D:id<p.1.os.length:=by
      unfold QQ at C;split at C
      . rename_i e;exact(zqb.1 e).1
      . cases C
     obtain⟨L,Y,q2⟩:=kp.2 id D [id] (dY X);rw[dY C]at Y;cases Y;have w0:=(q2 c).2 (H [id] (dY X));rw[w0]at e1;cases e1;exact absurd e2 B
  grind
theorem mN{call:D5}{o:XOp}{d:List Nat}{ws:List (PK×(Nat->Option (List Nat)))}(A:o.quiet=zt)(s:I6 Z ow h K.os)(B:BJ d ws){Z':Nat->Prop}{ow':Nat->Option (List Nat)}{vc:AV}{h1:Heap}
 (a:Did2 Z ow {h with tch:=[]} {K with tch:=[]} (evOp E call o.op frc {h with tch:=[]}) v K1 Z' ow' vc h1):
 ∃h2 d2,evOpD E call o frc h d=.ok vc h2 d2/\Did2 Z ow h K (.ok vc h2) v {K1 with tch:=K1.tch++K.tch} Z' ow' vc h2/\BJ d2 ((⟨K.os,0,K1.tch⟩,ow)::ws):=by
 have e:evOpD E call o frc h d=.ok vc {h1 with tch:=Bm (I9 h.next h1.tch) h.tch} (Bm (I9 h.next h1.tch) d):=by
  unfold evOpD;rw[A];show y7 h.next h.tch d (evOp E call o.op frc {h with tch:=[]})=_
  rw[a.r];rfl
 have C:evOpD E call o frc h []=.ok vc {h1 with tch:=Bm (I9 h.next h1.tch) h.tch} (Bm (I9 h.next h1.tch) []):=by
  unfold evOpD;rw[A];show y7 h.next h.tch [] (evOp E call o.op frc {h with tch:=[]})=_
  rw[a.r];rfl
 obtain⟨h2,d2,e2,D,G⟩:=Iz (l:=[]) A s (.inl rfl) (r:=v) a;rw[C]at e2;cases e2;refine⟨_,_,e,D,fun c hc=>?_⟩;have hc:=dZ hc;rw[Gb]at hc;rcases zqk.1 hc with hc|hc
 . obtain⟨r,t,H,I⟩:=G rfl c (by rw[Gb,zqr];exact eA hc)
   exact⟨_,zqh ..,r,t,H,I⟩
 . obtain⟨p,J,k⟩:=B c (eA hc)
   exact⟨p,zqu _ J,k⟩
theorem C3.next{r:CRes}{p:PR}(s:I6 Z ow h K.os)(A:K.ext<=K.os.length){r0:Res}{vc:AV}(a:Did2 Z ow h K r0 v K' Z' ow' vc h')(H:I6 Z' ow' h' K'.os->K'.ext<=K'.os.length->C3 Z' ow' h' K' nt r p):C3 Z ow h K nt r p:=
 (H a.st (Me A a.kp (a.sp 0).ex)).trans s (a.sp _) (a.kp.e A)
theorem QW(hP:PEok P):∀(j:PJ)(r:PR),evP P j=zsq r->QV P j r:=by
 refine evP.partial_correctness P (QV P) fun ev U j r A=>?_
 unfold evG at A;cases j with
 |code c fr K=>
  intro nt Z ow h frc s H a hc;cases c with
  |skip=>cases A;exact⟨Z,ow,h,frc,HN,s,a,.refl _ _ _ _ _,H,.refl _ _ _⟩
  |exit i=>cases A;exact⟨Z,ow,h,frc,HO i,s,a,.refl _ _ _ _ _,H,.refl _ _ _⟩
  |ret=>cases A;exact⟨Z,ow,h,frc,QC,s,a,.refl _ _ _ _ _,H,.refl _ _ _⟩
  |reg d l=>
   cases d with
   |false=>show C3 _ _ _ _ _ (evω P.E (.reg zf l) frc h) r;rw[QE];exact U (.ops l fr K) r A nt Z ow h frc s H a hc
   |true=>show C3 _ _ _ _ _ (evω P.E (.reg zt l) frc h) r;rw[HP];exact U (.opsD l fr K) r A nt Z ow h frc [] s H a hc (.inl rfl)
  |seq c1 c2=>
   obtain⟨aj,af⟩:=zkg.1 hc;obtain⟨q,h1,h2⟩:=D9 A;have V:=U _ _ h1 nt Z ow h frc s H a aj;show C3 _ _ _ _ _ (evω P.E (.seq c1.er c2.er) frc h) r
   rw[QD];cases q with
   |pan v K'=>cases h2;obtain⟨Z',ow',h',vc,e,J,I,D,N⟩:=V;rw[e];exact⟨Z',ow',h',vc,rfl,J,I,D,N⟩
   |ok e fr' K'=>
    obtain⟨Z',ow',h',C,e1,J,I,D,N,X⟩:=V;rw[e1];cases e with
    |normal=>exact(U _ _ h2 nt Z' ow' h' C J N I af).trans s D X
    |_=>cases h2;exact⟨Z',ow',h',C,rfl,J,I,D,N,X⟩
   |_=>cases h2
  |cond x c1 c2=>
   obtain⟨aj,af⟩:=zkg.1 hc;show C3 _ _ _ _ _ (evω P.E (.cond x c1.er c2.er) frc h) r
   rw[HQ];have hv:=Bq hP.gl a x
   change (match opvP P.E x fr with | .bool zt=>ev (.code c1 fr K) | .bool zf=>ev (.code c2 fr K)|_=>znq)=zsq r at A
   cases ho:opvP P.E x fr<;>rw[ho]at A hv<;>first|(cases A;done)|skip
   rename_i b;rw[hv.isB];cases b with
   |true=>exact U _ _ A nt Z ow h frc s H a aj
   |false=>exact U _ _ A nt Z ow h frc s H a af
  |block i c=>
   obtain⟨q,h1,h2⟩:=D9 A;have V:=U _ _ h1 nt Z ow h frc s H a hc;show C3 _ _ _ _ _ (evω P.E (.block i c.er) frc h) r
   rw[AW];cases q with
   |pan v K'=>cases h2;obtain⟨Z',ow',h',vc,e,J,I,D,N⟩:=V;rw[e];exact⟨Z',ow',h',vc,rfl,J,I,D,N⟩
   |ok e fr' K'=>
    obtain⟨Z',ow',h',C,e1,J,I,D,N,X⟩:=V;rw[e1];cases e with
    |exit j=>
     change (if j=i then pure (PR.ok .normal fr' K')else pure (PR.ok (.exit j) fr' K'))=zsq r at h2
     show C3 _ _ _ _ _ (bif Nat.beq j i then .ok .normal C h' else .ok (.exit j) C h') r
     by_cases e:j=i
     . rw[if_pos e]at h2;cases h2
       rw[e,zkd];exact⟨Z',ow',h',C,rfl,J,I,D,N,X⟩
     . rw[if_neg e]at h2;cases h2
       rw[show Nat.beq j i=zf from(by cases hb:Nat.beq j i with|false=>rfl|true=>exact absurd (zke hb) e)];exact⟨Z',ow',h',C,rfl,J,I,D,N,X⟩
    |_=>cases h2;exact⟨Z',ow',h',C,rfl,J,I,D,N,X⟩
   |_=>cases h2
  |loop c=>
   obtain⟨q,h1,h2⟩:=D9 A;have V:=U _ _ h1 nt Z ow h frc s H a hc;show C3 _ _ _ _ _ (evω P.E (.loop c.er) frc h) r
   rw[HR];cases q with
   |pan v K'=>cases h2;obtain⟨Z',ow',h',vc,e,J,I,D,N⟩:=V;rw[e];exact⟨Z',ow',h',vc,rfl,J,I,D,N⟩
   |ok e fr' K'=>
    obtain⟨Z',ow',h',C,e1,J,I,D,N,X⟩:=V;rw[e1];cases e with
    |normal=>exact(U _ _ h2 nt Z' ow' h' C J N I hc).trans s D X
    |_=>cases h2;exact⟨Z',ow',h',C,rfl,J,I,D,N,X⟩
   |_=>cases h2
  |scope c=>show C3 _ _ _ _ _ (evω P.E (.scope c.er) frc h) r;rw[AX];exact U _ _ A nt Z ow h frc s H a hc
  |pre keep c=>
   obtain⟨ow',b1,J,I,D,N⟩:=Mb s a keep;exact(U _ _ A nt Z ow' h frc b1 D J hc).trans s I (fun id hi=>N id hi (zka hi H))
  |post keep c=>
   obtain⟨q,h1,h2⟩:=D9 A;have V:=U _ _ h1 nt Z ow h frc s H a hc;show C3 _ _ _ _ _ (evω P.E c.er frc h) r
   cases q with
   |pan v K'=>
    cases h2;obtain⟨Z',ow',h',vc,e1,J,I,D,N,X⟩:=V;obtain⟨ow2,c1,c2,c3,c4,c5⟩:=Mb J (Ok (nt:=1) (.cons I .nil) (zkb _) (by decide)) [0];exact⟨Z',ow2,h',vc,e1,c1,c2.v 0,D.trans s c3,c4,X.trans (fun id hi=>c5 id (by rw[D.ex];exact hi) (zka (by rw[D.ex];exact hi) N))⟩
   |ok e fr' K'=>
    cases e with
    |normal=>
     cases h2;obtain⟨Z',ow',h',C,e1,J,I,D,N,X⟩:=V;obtain⟨ow2,c1,c2,c3,c4,c5⟩:=Mb J I keep;exact⟨Z',ow2,h',C,e1,c1,c2,D.trans s c3,c4,X.trans (fun id hi=>c5 id (by rw[D.ex];exact hi) (zka (by rw[D.ex];exact hi) N))⟩
    |_=>cases h2;exact V
   |_=>cases h2
  |rfn g ps x y=>
   obtain⟨a7,af⟩:=zkg.1 hc;show C3 _ _ _ _ _ (evω P.E (.rfn g ps x.er y.er) frc h) r
   rw[QT];dsimp only at A;have hv:=Bq hP.gl a g;split at A
   . rename_i n caps ho
     rw[ho]at hv;obtain⟨ah,bk,hl⟩:=IG hv;rw[bk];split at A
     . rename_i nf ic bc
       obtain⟨xc,rs,ii,hf⟩:=xL bc;have F:=hP.fn n _ hf;split at A
       . rename_i ap
         obtain ⟨q,h1,h2⟩:=D9 A;have hl':VL Z ow h K.os (.any::ah) (.any::caps):=.cons .any hl;have V:=U _ _ h1 nf nt Z ow h _ frc s (zkb _) (Ok hl' (by simpa using ap) F.nt) ⟨Z,ow,h,K.os,rfl,a,fun _ hz=>⟨hz,rfl⟩,.refl _ _ _⟩ F.ok hc;have e0:rfnA P.E (evω P.E) ps x.er y.er frc h (.fn (.func n) [] ah)=backA frc (finI (evI P.E (evω P.E) nf (roundY (evω P.E) ps x.er y.er frc) itMax ic.eri znq (Tr.enter nf (.any::ah)) h)):=by
          show backA frc (itF P.E (evω P.E) n ah (roundY (evω P.E) ps x.er y.er frc) h)=_
          unfold itF;rw[F.fn];show backA frc (bif Nat.ble (Nat.succ (lenL ah)) nf then _ else _)=_
          rw[A7,hl.1,zkc ap];rfl
         rw [e0];have ay:∀{e:Ex}{p:Option Ex}{fr1:PF}{K1:PK},e=.normal\/e=.ret->G4 Z ow h ⟨K.os,K.os.length,[]⟩ nf (evI P.E (evω P.E) nf (roundY (evω P.E) ps x.er y.er frc) itMax ic.eri znq (Tr.enter nf (.any::ah)) h) (.itr e p fr1 K1)->C3 Z ow h K nt (backA frc (finI (evI P.E (evω P.E) nf (roundY (evω P.E) ps x.er y.er frc) itMax ic.eri znq (Tr.enter nf (.any::ah)) h))) (.ok (qI p) fr ⟨K1.os,K.ext,K1.tch++K.tch⟩):=fun{e p fr1 K1} he o=>by
          obtain⟨Z',ow',h',C,e1,J,I,D,N,X⟩:=o;have kp:Keep' ow K.os ow' K1.os:=aQ D.ex N X;refine⟨Z',ow',h',frc,?_,J,a.keep D.zz kp,jA s H D _,zkf H kp.1,kp.e H⟩;rw[e1];rcases he with rfl|rfl<;>rfl
         cases q with
         |itr e p fr1 K1=>
          cases e with
          |exit=>cases h2
          |normal=>cases h2;exact ay (.inl rfl) V
          |ret=>cases h2;exact ay (.inr rfl) V
         |_=>cases h2
       . cases A
     . cases A
   . cases A
  |_=>cases A
 |rcv=>cases A
 |dfc=>trivial
 |round c args K=>
  intro ae Z ow h G Y s H a hl hc;obtain⟨a7,af⟩:=zkg.1 hc;obtain⟨bl,bm⟩:=zkg.1 af;dsimp only at A;split at A
  . rename_i ap
    obtain⟨q,h1,h2⟩:=D9 A;have V:=U _ _ h1 ae Z ow h _ s H (aR c.ps hl a7 a) bl;unfold roundY;rw[A7,aX,hl.1,ap,zkd];show C3 _ _ _ _ _ (Do (evω P.E c.b.er) (evω P.E c.a.er (setPs c.ps Y G) h)) r
    cases q with
    |ok e fr' K'=>
     cases e with
     |normal=>
      obtain⟨Z',ow',h',C,e1,J,I,D,N,X⟩:=V;rw[e1];exact(U _ _ h2 ae Z' ow' h' C J N I bm).trans s D X
     |_=>cases h2
    |_=>cases h2
  . cases A
 |iter c m ic p fr K=>
  intro nt ae Z ow h frc G s H a B hc ai;cases m with
  |zero=>cases A
  |succ m=>
   cases ic with
   |skip=>cases A;exact⟨Z,ow,h,frc,rfl,s,a,.refl _ _ _ _ _,H,.refl _ _ _⟩
   |exit i=>cases A;exact⟨Z,ow,h,frc,rfl,s,a,.refl _ _ _ _ _,H,.refl _ _ _⟩
   |ret=>cases A;exact⟨Z,ow,h,frc,rfl,s,a,.refl _ _ _ _ _,H,.refl _ _ _⟩
   |reg d l=>
    obtain⟨q,h1,h2⟩:=D9 A;have V:=U _ _ h1 nt Z ow h frc s H a hc;show G4 _ _ _ _ _ (J5 (r8 p) (evω P.E (.reg d l) frc h)) r
    cases q with
    |ok e fr' K'=>
     cases e with
     |normal=>
      cases h2;obtain⟨Z',ow',h',C,e1,J,I,D,N,X⟩:=V;have e1:evω P.E (.reg d l) frc h=.ok .normal C h':=e1;rw[e1];exact⟨Z',ow',h',C,rfl,J,I,D,N,X⟩
     |_=>cases h2
    |_=>cases h2
   |seq c1 c2=>
    obtain⟨aj,af⟩:=zkg.1 hc;obtain⟨q,h1,h2⟩:=D9 A;have V:=U _ _ h1 nt ae Z ow h frc G s H a B aj ai;show G4 _ _ _ _ _ (Jl (evI P.E (evω P.E) nt (roundY (evω P.E) c.ps c.a.er c.b.er G) m c2.eri) (evI P.E (evω P.E) nt (roundY (evω P.E) c.ps c.a.er c.b.er G) m c1.eri p frc h)) r
    cases q with
    |itr e p1 fr' K'=>
     obtain⟨Z',ow',h',C,e1,J,I,D,N,X⟩:=V;rw[e1];cases e with
     |normal=>exact(U _ _ h2 nt ae Z' ow' h' C G J N I (by rw[D.ex];exact B.step D.zz X) af ai).trans s D X
     |_=>cases h2;exact⟨Z',ow',h',C,rfl,J,I,D,N,X⟩
    |_=>cases h2
   |loop c1=>
    obtain⟨q,h1,h2⟩:=D9 A;have V:=U _ _ h1 nt ae Z ow h frc G s H a B hc ai;show G4 _ _ _ _ _ (Jl (evI P.E (evω P.E) nt (roundY (evω P.E) c.ps c.a.er c.b.er G) m (.loop c1.eri)) (evI P.E (evω P.E) nt (roundY (evω P.E) c.ps c.a.er c.b.er G) m c1.eri p frc h)) r
    cases q with
    |itr e p1 fr' K'=>
     obtain⟨Z',ow',h',C,e1,J,I,D,N,X⟩:=V;rw[e1];cases e with
     |normal=>exact(U _ _ h2 nt ae Z' ow' h' C G J N I (by rw[D.ex];exact B.step D.zz X) hc ai).trans s D X
     |_=>cases h2;exact⟨Z',ow',h',C,rfl,J,I,D,N,X⟩
    |_=>cases h2
   |cond x c1 c2=>
    obtain⟨aj,af⟩:=zkg.1 hc;show G4 _ _ _ _ _ ((opv P.E x frc).onBool .bad fun t=>match t with|true=>evI P.E (evω P.E) nt (roundY (evω P.E) c.ps c.a.er c.b.er G) m c1.eri p frc h|false=>evI P.E (evω P.E) nt (roundY (evω P.E) c.ps c.a.er c.b.er G) m c2.eri p frc h) r
    have hv:=Bq hP.gl a x;dsimp only at A;cases ho:opvP P.E x fr<;>rw[ho]at A hv<;>first|(cases A;done)|skip
    rename_i b;rw[hv.isB];cases b with
    |true=>exact U _ _ A nt ae Z ow h frc G s H a B aj ai
    |false=>exact U _ _ A nt ae Z ow h frc G s H a B af ai
   |block i c1=>
    obtain⟨q,h1,h2⟩:=D9 A;have V:=U _ _ h1 nt ae Z ow h frc G s H a B hc ai;show G4 _ _ _ _ _ (Hz i (evI P.E (evω P.E) nt (roundY (evω P.E) c.ps c.a.er c.b.er G) m c1.eri p frc h)) r
    cases q with
    |itr e p1 fr' K'=>
     obtain⟨Z',ow',h',C,e1,J,I,D,N,X⟩:=V;rw[e1];cases e with
     |exit j=>
      change (if j=i then pure (PR.itr .normal p1 fr' K')else pure (PR.itr (.exit j) p1 fr' K'))=zsq r at h2
      show G4 _ _ _ _ _ (bif Nat.beq j i then .ok .normal p1 C h' else .ok (.exit j) p1 C h') r
      by_cases e:j=i
      . rw[if_pos e]at h2;cases h2
        rw[e,zkd];exact⟨Z',ow',h',C,rfl,J,I,D,N,X⟩
      . rw[if_neg e]at h2;cases h2
        rw[show Nat.beq j i=zf from(by cases hb:Nat.beq j i with|false=>rfl|true=>exact absurd (zke hb) e)];exact⟨Z',ow',h',C,rfl,J,I,D,N,X⟩
     |_=>cases h2;exact⟨Z',ow',h',C,rfl,J,I,D,N,X⟩
    |_=>cases h2
   |pre keep c1=>
    obtain⟨ow',b1,J,I,D,N⟩:=Mb s a keep;have kk:l5 K.ext ow K.os ow' (J0 keep fr K).2.os:=fun id hi=>N id hi (zka hi H)
    exact(U _ _ A nt ae Z ow' h frc G b1 D J (B.step (fun _ hz=>⟨hz,rfl⟩) kk) hc ai).trans s I kk
   |post keep c1=>
    obtain⟨q,h1,h2⟩:=D9 A;have V:=U _ _ h1 nt ae Z ow h frc G s H a B hc ai;cases q with
    |itr e p1 fr' K'=>
     cases e with
     |normal=>
      cases h2;obtain⟨Z',ow',h',C,e1,J,I,D,N,X⟩:=V;obtain⟨ow2,c1,c2,c3,c4,c5⟩:=Mb J I keep;exact⟨Z',ow2,h',C,e1,c1,c2,D.trans s c3,c4,X.trans (fun id hi=>c5 id (by rw[D.ex];exact hi) (zka (by rw[D.ex];exact hi) N))⟩
     |_=>cases h2;exact V
    |_=>cases h2;trivial
   |yreg p0 gd yt p1 yd args p2=>
    obtain⟨hn,hc⟩:=zkg.1 hc;obtain⟨az,a1⟩:=zkg.1 hn;obtain⟨bn,hc⟩:=zkg.1 hc;obtain⟨aj,af⟩:=zkg.1 hc;have az:yt<nt:=of_decide_eq_true az;have a1:yd<nt:=of_decide_eq_true a1;show G4 _ _ _ _ _ (J5 (fun fr h=>N9 (guardOk gd fr) .bad (eY P.E (evω P.E) nt (roundY (evω P.E) c.ps c.a.er c.b.er G) gd yt p1.er yd args p2.er p fr h) (BP (evω P.E) gd yt p1.er yd p2.er p fr h)) (evω P.E p0.er frc h)) r
    obtain⟨q,h1,h2⟩:=D9 A;have V:=U _ _ h1 nt Z ow h frc s H a bn;cases q with
    |ok e fr1 K1=>
     cases e with
     |normal=>
      obtain⟨Z1,ow1,an,ak,e1,J,I,D,N,X⟩:=V;rw[e1];refine G4.trans s D X ?_;have B1:EY K1.ext Z1 ow1 an K1.os ae G c.fr:=by rw[D.ex];exact B.step D.zz X
      show G4 _ _ _ _ _ (N9 (guardOk gd ak) .bad (eY P.E (evω P.E) nt (roundY (evω P.E) c.ps c.a.er c.b.er G) gd yt p1.er yd args p2.er p ak an) (BP (evω P.E) gd yt p1.er yd p2.er p ak an)) r
      dsimp only at h2;cases hg:guardP gd fr1 with
      |none=>rw[hg]at h2;cases h2
      |some t=>
       rw[hg]at h2;rw[y0 I hg];cases t with
       |false=>
        show G4 _ _ _ _ _ (J5 (fun fr h=>N9 (guardOk gd fr) .bad .bad (J5 (r8 p) (evω P.E p2.er (fr.set yd skipped) h))) (evω P.E p1.er (ak.set yt skipped) an)) r
        dsimp only at h2;obtain⟨q,h3,h4⟩:=D9 h2;have k2:=U _ _ h3 nt Z1 ow1 an _ J N (I.set az vr_skipped) aj;cases q with
        |ok e fr2 K2=>
         cases e with
         |normal=>
          obtain⟨Z2,ow2,al,ad,e2,d2,d3,d4,d5,d6⟩:=k2;rw[e2];refine G4.trans J d4 d6 ?_;show G4 _ _ _ _ _ (N9 (guardOk gd ad) .bad .bad (J5 (r8 p) (evω P.E p2.er (ad.set yd skipped) al))) r
          dsimp only at h4;cases ao:guardP gd fr2 with
          |none=>rw[ao]at h4;cases h4
          |some t=>
           rw[ao]at h4;cases t with
           |true=>cases h4
           |false=>
            rw[y0 d3 ao];obtain⟨q,h5,h6⟩:=D9 h4;have k3:=U _ _ h5 nt Z2 ow2 al _ d2 d5 (d3.set a1 vr_skipped) af;cases q with
            |ok e fr3 K3=>
             cases e with
             |normal=>
              cases h6;obtain⟨Z3,a3,au,aq,e3,f2,f3,f4,f5,f6⟩:=k3;show G4 _ _ _ _ _ (J5 (r8 p) (evω P.E p2.er (ad.set yd skipped) al)) _
              rw[e3];exact⟨Z3,a3,au,aq,rfl,f2,f3,f4,f5,f6⟩
             |_=>cases h6
            |_=>cases h6
         |_=>cases h4
        |_=>cases h4
       |true=>
        cases p with
        |some _=>cases h2
        |none=>
         show G4 _ _ _ _ _ (bif Nat.blt yt nt then J5 (fun fr h=>N9 (guardOk gd fr) .bad (Gy (evω P.E) p2.er yd fr (roundY (evω P.E) c.ps c.a.er c.b.er G (opvs P.E args fr) h)) .bad) (evω P.E p1.er (ak.set yt .any) an)else .bad) r
         rw[show Nat.blt yt nt=zt from zkc az];show G4 _ _ _ _ _ (J5 (fun fr h=>N9 (guardOk gd fr) .bad (Gy (evω P.E) p2.er yd fr (roundY (evω P.E) c.ps c.a.er c.b.er G (opvs P.E args fr) h)) .bad) (evω P.E p1.er (ak.set yt .any) an)) r
         dsimp only at h2;obtain⟨q,h3,h4⟩:=D9 h2;have k2:=U _ _ h3 nt Z1 ow1 an _ J N (I.set az .any) aj;cases q with
         |ok e fr2 K2=>
          cases e with
          |normal=>
           obtain⟨Z2,ow2,al,ad,e2,d2,d3,d4,d5,d6⟩:=k2;rw[e2];refine G4.trans J d4 d6 ?_;have B2:EY K2.ext Z2 ow2 al K2.os ae G c.fr:=by rw[d4.ex];exact B1.step d4.zz d6
           show G4 _ _ _ _ _ (N9 (guardOk gd ad) .bad (Gy (evω P.E) p2.er yd ad (roundY (evω P.E) c.ps c.a.er c.b.er G (opvs P.E args ad) al)) .bad) r
           dsimp only at h4;cases ao:guardP gd fr2 with
           |none=>rw[ao]at h4;cases h4
           |some t=>
            rw[ao]at h4;cases t with
            |false=>cases h4
            |true=>
             rw[y0 d3 ao];show G4 _ _ _ _ _ (Gy (evω P.E) p2.er yd ad (roundY (evω P.E) c.ps c.a.er c.b.er G (opvs P.E args ad) al)) r
             obtain⟨q,h5,h6⟩:=D9 h4;have k3:=U _ _ h5 ae Z2 ow2 al G _ d2 (zkb _) (B2.now d5) (Gs hP.gl d3 args) ai;cases q with
             |ok e fr3 K3=>
              obtain⟨q,h7,h8⟩:=D9 h6;obtain⟨Z3,a3,au,aq,e3,f2,f3,f4,f5,f6⟩:=k3;have e3:roundY (evω P.E) c.ps c.a.er c.b.er G (opvs P.E args ad) al=.ok e aq au:=e3;rw[e3];have kp:Keep' ow2 K2.os a3 K3.os:=aQ f4.ex f5 f6;have st:=jA d2 d5 f4 K2.ext;refine G4.trans (K':=⟨K3.os,K2.ext,K3.tch++K2.tch⟩) d2 st (kp.e d5) ?_;have k4:=U _ _ h7 nt Z3 a3 au _ f2 (zkf d5 kp.1) ((d3.keep f4.zz kp).set a1 (.b _)) af;have ey:Gy (evω P.E) p2.er yd ad (.ok e aq au)=J5 (r8 (I5 e)) (evω P.E p2.er (ad.set yd (.bool (wentOn e))) au):=by cases e<;>rfl
              rw[ey];cases q with
              |ok e4 fr4 K4=>
               cases e4 with
               |normal=>
                cases h8;obtain⟨Z4,bo,bq,a9,e4,g2,g3,g4,g5,g6⟩:=k4;rw[e4];exact⟨Z4,bo,bq,a9,rfl,g2,g3,g4,g5,g6⟩
               |_=>cases h8
              |_=>cases h8
             |_=>cases h6
          |_=>cases h4
         |_=>cases h4
     |_=>cases h2
    |_=>cases h2
   |_=>cases A
 |ops l fr K=>
  intro nt Z ow h frc s H a hd;cases l with
  |nil=>cases A;exact⟨Z,ow,h,frc,rfl,s,a,.refl _ _ _ _ _,H,.refl _ _ _⟩
  |cons o l=>
   obtain⟨ab,ac⟩:=Xa hd;rw[mL];dsimp only at A;cases hg:guardP o.gd fr with
   |none=>rw[hg]at A;cases A
   |some b=>
    rw[hg]at A;rw[y0 a hg];cases b with
    |false=>exact U _ _ A nt Z ow h _ s H (a.setd ab vr_skipped) ac
    |true=>
     dsimp only at A;show C3 _ _ _ _ _ (Y9 o.dst (I8 P.E (callω P.E) l) frc (evOp P.E (callω P.E) o.op frc h)) r
     cases hp:prim P.E o.op fr K with
     |bad=>rw[hp]at A;cases A
     |val v K'=>
      rw[hp]at A;obtain⟨ow',vc,h',d⟩:=Fw hP.gl hP.ti s H a hp (callω P.E);rw[d.r];refine C3.next s H (v:=v) d.two fun s' aa=>?_
      exact U _ _ A nt Z ow' h' _ s' aa ((a.keep (d.sp 0).zz d.kp).setd ab d.vr) ac
     |pan v=>
      rw[hp]at A;cases A;obtain⟨vc,hv,e⟩:=iU hP.gl a hp;rw[e];exact⟨Z,ow,h,vc,rfl,s,hv,.refl _ _ _ _ _,H,.refl _ _ _⟩
     |call f args=>
      rw[hp]at A;obtain⟨Y,hl,e⟩:=Gv hP.gl a hp;rw[e];obtain⟨q,h1,h2⟩:=D9 A;have V:=U _ _ h1 Z ow h Y s H hl;cases q with
      |pan v K'=>
       cases h2;obtain⟨Z',ow',h',vc,e,J,I,D,N,X⟩:=V;rw[e];exact⟨Z',ow',h',vc,rfl,J,D,I _,N,X.e H⟩
      |val vs K'=>
       obtain⟨Z',ow',h',am,e,J,I,D,N⟩:=V;rw[e];refine C3.next s H (v:=oneOrTup vs) ⟨rfl,J,I,N.one,D⟩ fun s' aa=>?_
       exact U _ _ h2 nt Z' ow' h' _ s' aa ((a.keep (D 0).zz I).setd ab N.one) ac
      |_=>cases h2
 |opsD l fr K=>
  intro nt Z ow h frc d s H a hd ar;cases l with
  |nil=>cases A;exact⟨Z,ow,h,frc,rfl,s,a,.refl _ _ _ _ _,H,.refl _ _ _⟩
  |cons o l=>
   obtain⟨ab,ac⟩:=Xa hd;have ag:d=[]\/u3 l=zt:=ar.imp id fun e=>(Ol e).2
   rw[Qg];dsimp only at A;cases hg:guardP o.gd fr with
   |none=>rw[hg]at A;cases A
   |some b=>
    rw[hg]at A;rw[y0 a hg];cases b with
    |false=>exact U _ _ A nt Z ow h _ d s H (a.setd ab vr_skipped) ac ag
    |true=>
     dsimp only at A;show C3 _ _ _ _ _ (Q2 o.dst (evOpsD P.E (callω P.E) l) (j1 P.E (callω P.E) l o.late (setDst o.dst skipped frc) h d) frc (evOpD P.E (callω P.E) o frc h d)) r
     cases hq:o.quiet with
     |false=>
      rw[hq]at A;dsimp only at A;rw[xM hq ar];cases hp:prim P.E o.op fr K with
      |bad=>rw[hp]at A;cases A
      |val v K'=>
       rw[hp]at A;obtain⟨ow',vc,h',dd⟩:=Fw hP.gl hP.ti s H a hp (callω P.E);rw[dd.r];refine C3.next s H (v:=v) dd.two fun s' aa=>?_
       exact U _ _ A nt Z ow' h' _ d s' aa ((a.keep (dd.sp 0).zz dd.kp).setd ab dd.vr) ac ag
      |pan v=>
       rw[hp]at A;dsimp only at A;split at A
       . rename_i av
         cases A;obtain⟨vc,hv,e⟩:=iU hP.gl a hp;rw[e,dX hP.gl hP.ti l s H (a.setd ab vr_skipped) ac ag av];exact⟨Z,ow,h,vc,rfl,s,hv,.refl _ _ _ _ _,H,.refl _ _ _⟩
       . cases A
      |call f args=>
       rw[hp]at A;obtain⟨Y,hl,e⟩:=Gv hP.gl a hp;rw[e];obtain⟨q,h1,h2⟩:=D9 A;have V:=U _ _ h1 Z ow h Y s H hl;cases q with
       |pan v K'=>
        dsimp only at h2;split at h2
        . rename_i av
          cases h2;obtain⟨Z',ow',h',vc,e,J,I,D,N,X⟩:=V;rw[e,dX hP.gl hP.ti l s H (a.setd ab vr_skipped) ac ag av];exact⟨Z',ow',h',vc,rfl,J,D,I _,N,X.e H⟩
        . cases h2
       |val vs K'=>
        obtain⟨Z',ow',h',am,e,J,I,D,N⟩:=V;rw[e];refine C3.next s H (v:=oneOrTup vs) ⟨rfl,J,I,N.one,D⟩ fun s' aa=>?_
        exact U _ _ h2 nt Z' ow' h' _ d s' aa ((a.keep (D 0).zz I).setd ab N.one) ac ag
       |_=>cases h2
     |true=>
      rw[hq]at A;dsimp only at A;have s0:I6 Z ow {h with tch:=[]} ({K with tch:=[]}:PK).os:=s.congr rfl (fun _=>rfl);have a0:FrR Z ow {h with tch:=[]} ({K with tch:=[]}:PK).os nt frc fr:=a.keep (fun _ hz=>⟨hz,rfl⟩) (.refl _ _);have a2:({K with tch:=[]}:PK).ext<=({K with tch:=[]}:PK).os.length:=H;cases hp:prim P.E o.op fr {K with tch:=[]}with
      |val v K1=>
       rw[hp]at A;dsimp only at A;obtain⟨ow',vc,h',dd⟩:=Fw hP.gl hP.ti s0 a2 a0 hp (callω P.E);split at A
       . rename_i ht
         obtain⟨h2,d2,e,Q,a5⟩:=aS hq s ar (r:=v) dd.two ht;rw[e];refine C3.next s H (v:=v) Q fun s' aa=>?_
         exact U _ _ A nt Z ow' h2 _ d2 s' aa ((a.keep (Q.sp 0).zz Q.kp).setd ab Q.vr) ac a5
       . rename_i ht
         obtain⟨h2,d2,e,Q,a6⟩:=Iz (l:=l) hq s ar (r:=v) dd.two;rw[e];have bg:d=[]\/u3 l=zt:=ag;refine C3.next s H (v:=v) Q fun s' aa=>?_
         exact U _ _ A nt Z ow' h2 _ d2 [(⟨K.os,0,K1.tch⟩,ow)] s' aa ((a.keep (Q.sp 0).zz Q.kp).setd ab Q.vr) ac rfl (fun c hc=>⟨_,zqh ..,a6 (bg.resolve_right (jB ht)) c hc⟩) (fun p hp=>by rw[zqq.1 hp];exact Q.kp)
      |call f args=>
       rw[hp]at A;obtain⟨Y,hl,e⟩:=Gv hP.gl a0 hp;obtain⟨q,h1,h2⟩:=D9 A;have V:=U _ _ h1 Z ow {h with tch:=[]} Y s0 a2 hl;cases q with
       |pan v K1=>
        dsimp only at h2;split at h2
        . rename_i av
          cases h2;obtain⟨Z',ow',h',vc,e1,J,I,D,N,X⟩:=V;have e2:evOpD P.E (callω P.E) o frc h d=.pan vc {h' with tch:=Bm (I9 h.next h'.tch) h.tch}:=by
           unfold evOpD;rw[hq];show y7 h.next h.tch d (evOp P.E (callω P.E) o.op frc {h with tch:=[]})=_
           rw[e,e1];rfl
          rw[e2,dX hP.gl hP.ti l s H (a.setd ab vr_skipped) ac ag av];exact⟨Z',ow',_,vc,rfl,J.congr rfl (fun _=>rfl),D.keep (fun _ hz=>⟨hz,rfl⟩) (.refl _ _),Om (I _),N,X.e H⟩
        . cases h2
       |val vs K1=>
        dsimp only at h2;obtain⟨Z',ow',h',am,e1,J,I,D,N⟩:=V;split at h2
        . rename_i ht
          obtain⟨h3,d2,e2,Q,a5⟩:=aS hq s ar (r:=oneOrTup vs) (v:=oneOrTup vs) ⟨(e (callω P.E)).trans e1,J,I,N.one,D⟩ ht;rw[e2];refine C3.next s H (v:=oneOrTup vs) Q fun s' aa=>?_
          exact U _ _ h2 nt Z' ow' h3 _ d2 s' aa ((a.keep (Q.sp 0).zz Q.kp).setd ab Q.vr) ac a5
        . rename_i ht
          obtain⟨h3,d2,e2,Q,a6⟩:=Iz (l:=l) hq s ar (r:=oneOrTup vs) (v:=oneOrTup vs) ⟨(e (callω P.E)).trans e1,J,I,N.one,D⟩;rw[e2];refine C3.next s H (v:=oneOrTup vs) Q fun s' aa=>?_
          exact U _ _ h2 nt Z' ow' h3 _ d2 [(⟨K.os,0,K1.tch⟩,ow)] s' aa ((a.keep (Q.sp 0).zz Q.kp).setd ab Q.vr) ac rfl (fun c hc=>⟨_,zqh ..,a6 (ag.resolve_right (jB ht)) c hc⟩) (fun p hp=>by rw[zqq.1 hp];exact Q.kp)
       |_=>cases h2
      |_=>rw[hp]at A;cases A
 |opsS S l fr K=>
  intro nt Z ow h frc d ws s H a hd be sf aw;subst be;cases l with
  |nil=>cases A;exact⟨Z,ow,h,frc,rfl,s,a,.refl _ _ _ _ _,H,.refl _ _ _⟩
  |cons o l=>
   obtain⟨ab,ac⟩:=Xa hd;rw[Qg];dsimp only at A;cases hg:guardP o.gd fr with
   |none=>rw[hg]at A;cases A
   |some b=>
    rw[hg]at A;rw[y0 a hg];cases b with
    |false=>exact U _ _ A nt Z ow h _ d ws s H (a.setd ab vr_skipped) ac rfl sf aw
    |true=>
     dsimp only at A;show C3 _ _ _ _ _ (Q2 o.dst (evOpsD P.E (callω P.E) l) (j1 P.E (callω P.E) l o.late (setDst o.dst skipped frc) h d) frc (evOpD P.E (callω P.E) o frc h d)) r
     cases hq:o.quiet with
     |true=>
      rw[hq]at A;dsimp only at A;have s0:I6 Z ow {h with tch:=[]} ({K with tch:=[]}:PK).os:=s.congr rfl (fun _=>rfl);have a0:FrR Z ow {h with tch:=[]} ({K with tch:=[]}:PK).os nt frc fr:=a.keep (fun _ hz=>⟨hz,rfl⟩) (.refl _ _);have a2:({K with tch:=[]}:PK).ext<=({K with tch:=[]}:PK).os.length:=H;cases hp:prim P.E o.op fr {K with tch:=[]}with
      |val v K1=>
       rw[hp]at A;dsimp only at A;obtain⟨ow',vc,h',dd⟩:=Fw hP.gl hP.ti s0 a2 a0 hp (callω P.E);obtain⟨h2,d2,e,Q,br⟩:=mN hq s sf dd.two;rw[e];refine C3.next s H (v:=v) Q fun s' aa=>?_
       exact U _ _ A nt Z ow' h2 _ d2 ((⟨K.os,0,K1.tch⟩,ow)::ws) s' aa ((a.keep (Q.sp 0).zz Q.kp).setd ab Q.vr) ac rfl br (fun p hp=>by
        rcases zqi.1 hp with rfl|hp
        . exact Q.kp
        . exact(aw p hp).trans Q.kp)
      |_=>rw[hp]at A;cases A
     |false =>
     rw[hq]at A;dsimp only at A;split at A
     . rename_i a4
       rw[xN hP.gl a hq sf aw a4];cases hp:prim P.E o.op fr K with
       |val v K'=>
        rw[hp]at A;obtain⟨ow',vc,h',dd⟩:=Fw hP.gl hP.ti s H a hp (callω P.E);rw[dd.r];refine C3.next s H (v:=v) dd.two fun s' aa=>?_
        exact U _ _ A nt Z ow' h' _ d ws s' aa ((a.keep (dd.sp 0).zz dd.kp).setd ab dd.vr) ac rfl sf (fun p hp=>(aw p hp).trans dd.kp)
       |call f args=>
        rw[hp]at A;obtain⟨Y,hl,e⟩:=Gv hP.gl a hp;rw[e];obtain⟨q,h1,h2⟩:=D9 A;have V:=U _ _ h1 Z ow h Y s H hl;cases q with
        |val vs K'=>
         obtain⟨Z',ow',h',am,e,J,I,D,N⟩:=V;rw[e];refine C3.next s H (v:=oneOrTup vs) ⟨rfl,J,I,N.one,D⟩ fun s' aa=>?_
         exact U _ _ h2 nt Z' ow' h' _ d ws s' aa ((a.keep (D 0).zz I).setd ab N.one) ac rfl sf (fun p hp=>(aw p hp).trans I)
        |_=>cases h2
       |_=>rw[hp]at A;cases A
     . cases A
 |call f args K=>
  intro Z ow h Y s H hl;dsimp only at A;cases hT:P.T f with
  |some g=>
   rw[hT]at A;dsimp only at A;cases ht:tcall g args K with
   |none=>rw[ht]at A;cases A
   |some q=>
    obtain⟨vs,K'⟩:=q;rw[ht]at A;cases A;exact xI (hP.T f g hT) s H hl ht
  |none=>
   rw[hT]at A;dsimp only at A;cases bb:inpOf (P.fn f)with
   |true=>
    rw [bb]at A;obtain⟨q,h1,h2⟩:=D9 A;have V:=U _ _ h1 Z ow h Y s (zkb _) hl;have stp:∀{Z':Nat->Prop}{ow':Nat->Option (List Nat)}{h':Heap}{K1:PK},Stp K.os.length Z ow h ⟨K.os,K.os.length,[]⟩ Z' ow' h' K1->∀b,Stp b Z ow h K Z' ow' h' ⟨K1.os,K.ext,K1.tch++K.tch⟩:=fun{Z' ow' h' K1} sb b=>by
     obtain⟨l0,f1,f2⟩:=sb.th;refine⟨sb.nx,sb.zz,sb.zn,sb.un,sb.uo,⟨l0,f1,fun id hi=>?_⟩,fun id r t ho A=>?_,fun r A _=>zqk.2 (.inr A),rfl,fun j hj=>sb.xk j (zka hj H),fun j hj=>sb.rd j (zka hj H)⟩
     . rcases f2 id hi with h|⟨r,t,q1,q2⟩
       . exact .inl h
       . obtain⟨_,_,r',t',q3,q4⟩:=s.live id _ q1
         cases q3;exact .inr ⟨r,t,q1,fun _=>zqk.2 (.inl (q2 (isRt_lt q4)))⟩
     . rcases sb.mv id r t ho (zka A H)with h|h
       . exact .inl h
       . exact .inr (zqk.2 (.inl h))
    have kp:∀{ow':Nat->Option (List Nat)}{K1:PK},K1.ext=K.os.length->K1.ext<=K1.os.length->l5 K.os.length ow K.os ow' K1.os->Keep' ow K.os ow' K1.os:=fun{ow' K1} e1 e2 e3=>⟨by rw[<-e1];exact e2,e3⟩
    cases q with
    |val vs K1=>
     cases h2;obtain⟨Z',ow',h',am,e,J,I,D,N,X⟩:=V;exact⟨Z',ow',h',am,e,J,kp (K1:=K1) I.ex X N,stp I,D⟩
    |pan v K1=>
     cases h2;obtain⟨Z',ow',h',vc,e,J,I,D,N,X⟩:=V;exact⟨Z',ow',h',vc,e,J,stp I,D,zkf H (by have:=I.ex;show K.os.length<=K1.os.length;have h0:K1.ext=K.os.length:=this;omega),kp (K1:=K1) I.ex N X⟩
    |_=>cases h2
   |false=>
    rw [bb]at A;obtain⟨q,h1,h2⟩:=D9 A;have hn:(focusIds args K).Nodup:=(Bk (fun id=>dR K.os[id]?) 64 (refsL args) [] List.nodup_nil).1;obtain⟨s1,ba⟩:=Wr s hn (f:=cutPO) (os':=(focusK (focusIds args K) K).os) (fun e=>by
     cases e with
     |sub p i o=>exact .inr ⟨⟨p,i,o,rfl⟩,rfl⟩
     |_=>exact .inl rfl) rfl
    have bh:(focusK (focusIds args K) K).ext<=(focusK (focusIds args K) K).os.length:=by
     show(focusIds args K).length<=((focusIds args K).map _).length
     simp
    have V:=U _ _ h1 Z _ h Y s1 bh (hl.ren (fun _ hz=>⟨hz,rfl⟩) ba);cases q with
    |val vs K1=>
     dsimp only at h2;obtain⟨Z',ow',h',am,e,J,I,D,_,_⟩:=V;cases hm:mergeK (focusIds args K) K K1 with
     |none=>rw[hm]at h2;cases h2
     |some K'=>
      rw[hm]at h2;cases h2;obtain⟨ow2,c1,c2,c3,c4⟩:=iW s H hn J I hm;exact⟨Z',ow2,h',am,e,c1,c2,c3,D.ren (fun _ hz=>⟨hz,rfl⟩) c4⟩
    |pan v K1=>
     dsimp only at h2;obtain⟨Z',ow',h',vc,e,J,I,D,_⟩:=V;cases hm:mergeK (focusIds args K) K K1 with
     |none=>rw[hm]at h2;cases h2
     |some K'=>
      rw[hm]at h2;cases h2;obtain⟨ow2,c1,c2,c3,c4⟩:=iW s H hn J I hm;exact⟨Z',ow2,h',vc,e,c1,c3,D.ren (fun _ hz=>⟨hz,rfl⟩) c4,Me H c2 (c3 0).ex,c2⟩
    |_=>cases h2
 |body f args K=>
  intro Z ow h Y s H hl;dsimp only at A;cases hf:P.fn f with
  |none=>rw[hf]at A;cases A
  |some p=>
   rw[hf]at A;dsimp only at A;split at A
   . rename_i hn
     have F:=hP.fn f p hf;obtain⟨q,h1,h2⟩:=D9 A;obtain⟨rc,er,V⟩:∃rc,callω P.E f Y h=M7 P.E p.rs rc/\C3 Z ow h K p.nt rc q:=by
      have bi:=Ok hl hn F.nt;have bj:=F.ok;have hfn:=F.fn;rcases bodyJ_or p.code with⟨x,a,g,c,e⟩|⟨x,d,d2,c,e⟩|⟨e1,e2⟩
      . rw[e]at h1;exact(U _ _ h1).elim
      . rw[e]at h1;exact(U _ _ h1).elim
      . rw[e1]at h1
        exact⟨_,xK e2 F.gc F.told F.dlf F.srt F.fn (by rw[hl.1];exact hn),U _ _ h1 p.nt Z ow h _ s H bi bj⟩
     rw[er];cases q with
     |pan v K'=>
      cases h2;obtain⟨Z',ow',h',vc,e,J,I,D,N⟩:=V;rw[e];exact⟨Z',ow',h',vc,rfl,J,D,I,N⟩
     |ok e fr' K'=>
      obtain ⟨Z',ow',h',C,e1,J,I,D,N,X⟩:=V;rw[e1];have ay:(∀q,resP P.E p.rs fr' K'=zsq q->r=.val q.1 q.2)->resP P.E p.rs fr' K'≠znq->pA Z ow h K (Oz (J9 P.E p.rs C h') h') r:=fun hq bf=>by
       cases hv:resP P.E p.rs fr' K' with
       |none=>exact absurd hv bf
       |some q=>
        obtain⟨vs,K2⟩:=q;obtain rfl:=hq _ hv;obtain⟨am,c1,c2,c3,c4,c5⟩:=dW p.rs J N I hv;rw[c1];exact⟨Z',ow',h',am,rfl,c2,D.trans s c4,c5,X.trans (c3.e (by rw[<-D.ex];exact N)),Me N c3 c4.ex⟩
      cases e with
      |exit i=>cases h2
      |normal=>
       dsimp only at h2;cases hv:resP P.E p.rs fr' K' with
       |none=>rw[hv]at h2;cases h2
       |some q=>rw[hv]at h2;cases h2;exact ay (fun q' ax=>by rw[hv]at ax;cases ax;rfl) (by rw[hv];intro e;cases e)
      |ret=>
       dsimp only at h2;cases hv:resP P.E p.rs fr' K' with
       |none=>rw[hv]at h2;cases h2
       |some q=>rw[hv]at h2;cases h2;exact ay (fun q' ax=>by rw[hv]at ax;cases ax;rfl) (by rw[hv];intro e;cases e)
     |_=>cases h2
   . cases A
end
section
variable {E:Env}{P:PE}{R:AV->AV->Prop}{Z Z' Z1:Nat->Prop}{ow ow' ow1:Nat->Option (List Nat)}{h h' h1:Heap}{K K' K1:PK}{os os' ps:List PO}{x y xc yc v k:AV}{L M:List Nat}
noncomputable def b9(c r:AV)(os:List PO):AV×List PO:=match c with
 |.nilsl=>(match ownOf r with|some (0,[],sz)=>(.msl os.length 0 0 sz,os++[.row 0 [] sz])|_=>(c,os))
 |_=>(c,os)
noncomputable def O0:List AV->List AV->List PO->List AV×List PO
 |[],_,os=>([],os)
 |c::cs,[],os=>(c::cs,os)
 |c::cs,r::rs,os=>((b9 c r os).1::(O0 cs rs (b9 c r os).2).1,(O0 cs rs (b9 c r os).2).2)
noncomputable def n8(v r:AV)(os:List PO):AV×List PO:=(S9 v (O0 v.cells r.cells os).1,(O0 v.cells r.cells os).2)
noncomputable def V0:List AV->List AV->List PO->List AV×List PO
 |[],_,os=>([],os)
 |c::cs,[],os=>(c::cs,os)
 |c::cs,r::rs,os=>((n8 c r os).1::(V0 cs rs (n8 c r os).2).1,(V0 cs rs (n8 c r os).2).2)
structure backOk(vs rs:List AV)(os:List PO):Prop where
 nd:(refsL (V0 vs rs os).1).Nodup
 vl:renL (posOf (refsL (V0 vs rs os).1)) (V0 vs rs os).1=(openTs 0 rs).1
 ol:(refsL (V0 vs rs os).1).map (fun id=>renPO (posOf (refsL (V0 vs rs os).1)) (entryAt (V0 vs rs os).2 id))=(openTs 0 rs).2
theorem sG(s:I6 Z ow h os)(sz:Nat):I6 Z ow h (os++[.row 0 [] sz])/\Keep' ow os ow (os++[.row 0 [] sz])/\VR Z ow h (os++[.row 0 [] sz]) .nilsl (.msl os.length 0 0 sz):=by
 have A:∀c t,ow c≠zsq (os.length::t):=fun c t e=>by
  obtain⟨_,_,r,t',h1,h2⟩:=s.live c _ e;cases h1;exact absurd (isRt_lt h2) (Nat.lt_irrefl _)
 have C:Keep' ow os ow (os++[.row 0 [] sz]):=Lt s.sb fun _ _ _ _ _=>.rfl
 have B:PT (VR Z ow h os) Z ow h (os++[.row 0 [] sz]):=s.new (.row 0 [] sz) (zkb _) (fun _ _=>rfl) (fun _ _ _=>rfl) (fun _ _ _=>.rfl) (fun a b t ha _=>absurd ha (A a t)) (fun d t D=>absurd D (A d t))
  (by simp_all[isRt])
  (fun es z e=>by cases e;exact⟨.nilsl,.nil (.inl rfl) (fun c t=>A c t)⟩) (by grind) (fun es e=>by cases e)
 refine⟨I6.to B (fun _ hz=>⟨hz,rfl⟩) C,C,.mnil (.inl rfl) (fun L hL c hc=>?_) (by simp)⟩;grind[loP]
theorem sH(s:I6 Z ow h os)(a:VR Z ow h os x y)(r:AV):I6 Z ow h (b9 y r os).2/\Keep' ow os ow (b9 y r os).2/\VR Z ow h (b9 y r os).2 x (b9 y r os).1:=by
 have same:∀q:AV×List PO,q=(y,os)->I6 Z ow h q.2/\Keep' ow os ow q.2/\VR Z ow h q.2 x q.1:=fun q e=>by subst e;exact⟨s,.refl _ _,a⟩
 unfold b9;split
 . split
   . rename_i sz _
     rw[a.isN];exact sG s sz
   grind
 grind
theorem Ja:∀(ys xs rs:List AV)(os:List PO),I6 Z ow h os->VL Z ow h os xs ys->I6 Z ow h (O0 ys rs os).2/\Keep' ow os ow (O0 ys rs os).2/\VL Z ow h (O0 ys rs os).2 xs (O0 ys rs os).1
 |[],xs,rs,os,s,l=>⟨s,.refl _ _,l⟩
 |c::cs,xs,[],os,s,l=>⟨s,.refl _ _,l⟩
 |c::cs,[],r::rs,os,s,l=>by cases l.1
 |c::cs,x::xs,r::rs,os,s,l=>by
  obtain⟨C,D⟩:=l.inv;obtain⟨G,A,H⟩:=sH s C r;obtain⟨I,B,J⟩:=Ja cs xs rs (b9 c r os).2 G (D.keep (fun _ hz=>⟨hz,rfl⟩) A);exact⟨I,A.trans B,.cons (H.keep (fun _ hz=>⟨hz,rfl⟩) B) J⟩
theorem Qh:∀(ys rs:List AV)(os:List PO),(O0 ys rs os).1.length=ys.length
 |[],rs,os=>rfl
 |c::cs,[],os=>rfl
 |c::cs,r::rs,os=>congrArg (· + 1) (Qh cs rs _)
theorem sI(s:I6 Z ow h os)(a:VR Z ow h os x y)(r:AV):I6 Z ow h (n8 y r os).2/\Keep' ow os ow (n8 y r os).2/\VR Z ow h (n8 y r os).2 x (n8 y r os).1:=by
 unfold n8;cases B:isAg y with
 |true=>
  cases y<;>first|(cases B;done)|skip
  obtain⟨xs,rfl,l⟩:=a.agI;obtain⟨C,D,A⟩:=Ja _ xs r.cells os s l;exact⟨C,D,.agL A⟩
 |false=>
  obtain⟨C,D,A⟩:=Ja y.cells [x] r.cells os s (by rw[C7 B];exact .cons a .nil);refine⟨C,D,?_⟩;have hl:=Qh y.cells r.cells os;rw[C7 B]at hl A|-;obtain⟨c,hc⟩:=zqz.1 hl
  have:S9 y (O0 [y] r.cells os).1=c:=by
   rw[hc];cases y<;>first|rfl|cases B
  rw[this];rw[hc]at A;exact A.inv.1
theorem aT:∀(ys xs rs:List AV)(os:List PO),I6 Z ow h os->VL Z ow h os xs ys->I6 Z ow h (V0 ys rs os).2/\Keep' ow os ow (V0 ys rs os).2/\VL Z ow h (V0 ys rs os).2 xs (V0 ys rs os).1
 |[],xs,rs,os,s,l=>⟨s,.refl _ _,l⟩
 |c::cs,xs,[],os,s,l=>⟨s,.refl _ _,l⟩
 |c::cs,[],r::rs,os,s,l=>by cases l.1
 |c::cs,x::xs,r::rs,os,s,l=>by
  obtain⟨C,D⟩:=l.inv;obtain⟨G,A,H⟩:=sI s C r;obtain⟨I,B,J⟩:=aT cs xs rs (n8 c r os).2 G (D.keep (fun _ hz=>⟨hz,rfl⟩) A);exact⟨I,A.trans B,.cons (H.keep (fun _ hz=>⟨hz,rfl⟩) B) J⟩
theorem BL(s:I6 Z ow h os){A vs rs:List AV}(l:VL Z ow h os A vs)(b:backOk vs rs os):∃ow',I6 Z ow' h (openTs 0 rs).2/\VL Z ow' h (openTs 0 rs).2 A (openTs 0 rs).1/\∀id L,ow' id=zsq L->ow id≠znq:=by
 obtain⟨B,a2,C⟩:=aT vs A rs os s l;obtain⟨c1,c2⟩:=Wr B b.nd (f:=id) (fun e=>.inl rfl) (os':=(openTs 0 rs).2) b.ol.symm;refine⟨_,c1,?_,fun d M hd e=>?_⟩
 . rw[<-b.vl];exact C.ren (fun _ hz=>⟨hz,rfl⟩) c2
 grind[D8]
def K0:PK:=⟨[],0,[]⟩
theorem QX(hb:∀id,Z id->id<h.next):I6 Z (fun _=>znq) h [] where
 row r es sz hr:=by simp at hr
 raw r k es sz hr:=by simp at hr
 map r es hr:=by simp at hr
 inj a b L ha:=by cases ha
 live a L ha:=by cases ha
 zb:=hb
 sb j p i o hj:=by simp at hj
def refine1(y:AV):List AV:=match y with | .fsl [] zt=>[.nilsl,.fsl [] zf]|y=>[y]
theorem Fz.refine(f:Fz Z h x y):∃B∈refine1 y,Fz Z h x B:=by
 have same:∀{y:AV},refine1 y=[y]->Fz Z h x y->∃B∈refine1 y,Fz Z h x B:=(by grind)
 cases f with
 |emp e=>
  cases e with
  |nil=>exact⟨.nilsl,.head _,.nilsl⟩
  |fsl=>exact⟨.fsl [] zf,.tail _ (.head _),.fsl rfl (fun i x y H=>by simp at H) rfl⟩
 |fsl h1 h2 A=>
  rename_i es es' f f';cases es' with
  | nil=>cases f' with
   |true=>exact⟨.fsl [] zf,.tail _ (.head _),.fsl h1 h2 A⟩
   |false=>exact same rfl (.fsl h1 h2 A)
  |cons=>exact same rfl (.fsl h1 h2 A)
 |view h1 h2 A C D G=>
  rename_i id off n sz row es' f';cases es' with
  | nil=>cases f' with
   |true=>exact⟨.fsl [] zf,.tail _ (.head _),.view h1 h2 A C D G⟩
   |false=>exact same rfl (.view h1 h2 A C D G)
  |cons=>exact same rfl (.view h1 h2 A C D G)
 |int k n=>exact same rfl (.int k n)
 |bool b=>exact same rfl (.bool b)
 |str b=>exact same rfl (.str b)
 |nilsl=>exact same rfl .nilsl
 |nilptr=>exact same rfl .nilptr
 |nilmap=>exact same rfl .nilmap
 |nilfn=>exact same rfl .nilfn
 |niliface=>exact same rfl .niliface
 |agg h1 h2 A=>exact same rfl (.agg h1 h2 A)
 |fptr o f=>exact same rfl (.fptr o f)
 |pview h1 h2 A f=>exact same rfl (.pview h1 h2 A f)
def Comes(P:PE)(f:Nat)(args rs:List AV):Prop:=∃vs K1,evP P (.body f args K0)=zsq (.val vs K1)/\backOk vs rs K1.os
theorem Fy(D:PEok P){f:Nat}{args rs:List AV}(H:Comes P f args rs){xs:List AV}(hl:xs.length=args.length)(hz:∀(i:Nat) x y,xs[i]?=zsq x->args[i]?=zsq y->Fz Z h x y)(hb:∀id,Z id->id<h.next):
 ∃(A:List AV)(h1:Heap)(Z1:Nat->Prop)(ow1:Nat->Option (List Nat)),callω P.E f xs h=.ok (oneOrTup A) h1/\I6 Z1 ow1 h1 (openTs 0 rs).2/\VL Z1 ow1 h1 (openTs 0 rs).2 A (openTs 0 rs).1/\
 h.next<=h1.next/\(∀id,Z id->Z1 id/\h1.get id=h.get id)/\(∀id,Z1 id->Z id\/h.next<=id)/\(∀id,id<h.next->h1.get id=h.get id)/\(∀id L,ow1 id=zsq L->h.next<=id)/\∃l,h1.tch=l++h.tch/\∀id∈l,h.next<=id:=by
 obtain⟨vs,K1,e,J⟩:=H;obtain⟨Z',ow',h',A,e1,N,B,Q,_,_⟩:=QW D _ _ e Z (fun _=>znq) h xs (QX hb) (zkb _) ⟨hl,fun i x y G I=>.fz (hz i x y G I)⟩;obtain⟨ow2,c1,c2,c3⟩:=BL N Q J;refine⟨A,h',Z',ow2,e1,c1,c2,B.nx,B.zz,B.zn,fun id hl=>B.un id hl rfl,fun id L ho=>?_,?_⟩
 . by_cases C:id<h.next
   . cases e2:ow' id with
     |none=>grind
     |some M=>exact absurd rfl (B.uo id M e2 C)
   . omega
 . obtain⟨l,q1,q2⟩:=B.th
   grind
theorem QY(A:PEok P){f:Nat}{g:List AV->Option (List AV)}(H:∀args rs,g args=zsq rs->Comes P f args rs):TC P.E f g:=
 fun args rs hg Z h xs hl hz hb=>Fy A (H args rs hg) hl hz hb
theorem eB(B:PEok P){f:Nat}{g:List AV->Option (List AV)}(H:∀a args rs,g (a::args)=zsq rs->∀A∈refine1 a,Comes P f (A::args) rs)(H0:g []=znq):TC P.E f g:=by
 intro args rs hg Z h xs hl hz hb;cases args with
 |nil=>grind
 |cons a args=>
  cases xs with
  |nil=>cases hl
  |cons x xs=>
   obtain⟨A,h1,h2⟩:=(hz 0 x a rfl rfl).refine;refine Fy B (H a args rs hg A h1) hl (fun i u w hu hw=>?_) hb;grind
end
noncomputable section
variable {E:Env}{T:Nat->Option (List AV->Option (List AV))}{F:Nat->Option PFn}{fr:PF}{K K':PK}{v:AV}{vs:List AV}
def xO(P:PE)(b:PC)(r:Option PR):Option PR:=match r with
 |some (.ok .normal fr K)=>evP P (.code b fr K)
 |some (.val _ _)=>znq
 |some (.itr _ _ _ _)=>znq
 |r=>r
theorem seqP_normal(P:PE)(b:PC):xO P b (zsq (.ok .normal fr K))=evP P (.code b fr K):=rfl
theorem seqP_exit(P:PE)(b:PC)(i:Nat):xO P b (zsq (.ok (.exit i) fr K))=zsq (.ok (.exit i) fr K):=rfl
theorem seqP_ret(P:PE)(b:PC):xO P b (zsq (.ok .ret fr K))=zsq (.ok .ret fr K):=rfl
theorem e_seq(P:PE)(a b:PC):evP P (.code (.seq a b) fr K)=xO P b (evP P (.code a fr K)):=by
 rw[evP,evG];cases evP P (.code a fr K)with
 |none=>rfl
 | some r=>cases r with
  |ok e fr K=>cases e<;>rfl
  |_=>rfl
theorem e_skip(P:PE):evP P (.code .skip fr K)=zsq (.ok .normal fr K):=by rw[evP,evG]
theorem e_exit(P:PE)(i:Nat):evP P (.code (.exit i) fr K)=zsq (.ok (.exit i) fr K):=by rw[evP,evG]
theorem e_ret(P:PE):evP P (.code .ret fr K)=zsq (.ok .ret fr K):=by rw[evP,evG]
theorem e_reg(P:PE)(l:List XOp):evP P (.code (.reg zf l) fr K)=evP P (.ops l fr K):=by rw[evP,evG]
theorem e_regD(P:PE)(l:List XOp):evP P (.code (.reg zt l) fr K)=evP P (.opsD l fr K):=by rw[evP,evG]
theorem e_pre(P:PE)(k:List Nat)(c:PC):evP P (.code (.pre k c) fr K)=evP P (.code c (J0 k fr K).1 (J0 k fr K).2):=by rw[evP,evG]
def xP(P:PE)(a b:PC)(x:AV)(fr:PF)(K:PK):Option PR:=match x with | .bool zt=>evP P (.code a fr K) | .bool zf=>evP P (.code b fr K)|_=>znq
theorem e_cond(P:PE)(c:Operand)(a b:PC):evP P (.code (.cond c a b) fr K)=xP P a b (opvP P.E c fr) fr K:=by rw[evP,evG];rfl
theorem condP_true(P:PE)(a b:PC):xP P a b (.bool zt) fr K=evP P (.code a fr K):=rfl
theorem condP_false(P:PE)(a b:PC):xP P a b (.bool zf) fr K=evP P (.code b fr K):=rfl
def BM(i:Nat)(r:Option PR):Option PR:=match r with
 |some (.ok (.exit j) fr K)=>if j=i then zsq (.ok .normal fr K)else zsq (.ok (.exit j) fr K)
 |some (.val _ _)=>znq
 |some (.itr _ _ _ _)=>znq
 |r=>r
theorem blkP_normal(i:Nat):BM i (zsq (.ok .normal fr K))=zsq (.ok .normal fr K):=rfl
theorem blkP_exit(i j:Nat):BM i (zsq (.ok (.exit j) fr K))=if j=i then zsq (.ok .normal fr K)else zsq (.ok (.exit j) fr K):=rfl
theorem blkP_ret(i:Nat):BM i (zsq (.ok .ret fr K))=zsq (.ok .ret fr K):=rfl
theorem e_block(P:PE)(i:Nat)(c:PC):evP P (.code (.block i c) fr K)=BM i (evP P (.code c fr K)):=by
 rw[evP,evG];cases evP P (.code c fr K)with
 |none=>rfl
 | some r=>cases r with
  |ok e fr K=>cases e<;>rfl
  |_=>rfl
def pC(k:List Nat)(r:Option PR):Option PR:=match r with
 |some (.ok .normal fr K)=>zsq (.ok .normal (J0 k fr K).1 (J0 k fr K).2)
 |some (.val _ _)=>znq
 |some (.itr _ _ _ _)=>znq
 |some (.pan v K)=>zsq (.pan (lookP (J0 [0] [(0,v)] K).1 0) (J0 [0] [(0,v)] K).2)
 |r=>r
theorem postP_normal(k:List Nat):pC k (zsq (.ok .normal fr K))=zsq (.ok .normal (J0 k fr K).1 (J0 k fr K).2):=rfl
theorem postP_exit(k:List Nat)(i:Nat):pC k (zsq (.ok (.exit i) fr K))=zsq (.ok (.exit i) fr K):=rfl
theorem postP_ret(k:List Nat):pC k (zsq (.ok .ret fr K))=zsq (.ok .ret fr K):=rfl
theorem e_post(P:PE)(k:List Nat)(c:PC):evP P (.code (.post k c) fr K)=pC k (evP P (.code c fr K)):=by
 rw[evP,evG];cases evP P (.code c fr K)with
 |none=>rfl
 | some r=>cases r with
  |ok e fr K=>cases e<;>rfl
  |_=>rfl
theorem mO(P:PE)(c:PC):evP P (.code (.loop c) fr K)=xO P (.loop c) (evP P (.code c fr K)):=by
 rw[evP,evG];cases evP P (.code c fr K)with
 |none=>rfl
 | some r=>cases r with
  |ok e fr K=>cases e<;>rfl
  |_=>rfl
theorem loop_more{P:PE}{c:PC}{fr':PF}{K':PK}(h:evP P (.code c fr K)=zsq (.ok .normal fr' K')):evP P (.code (.loop c) fr K)=evP P (.code (.loop c) fr' K'):=by rw[mO,h];rfl
theorem loop_exit{P:PE}{c:PC}{i:Nat}{fr':PF}{K':PK}(h:evP P (.code c fr K)=zsq (.ok (.exit i) fr' K')):evP P (.code (.loop c) fr K)=zsq (.ok (.exit i) fr' K'):=by rw[mO,h];rfl
theorem Y2{P:PE}{c:PC}{fr':PF}{K':PK}(h:evP P (.code c fr K)=zsq (.ok .ret fr' K')):evP P (.code (.loop c) fr K)=zsq (.ok .ret fr' K'):=by rw[mO,h];rfl
def pD(P:PE)(d:Option Tmp)(l:List XOp)(fr:PF)(r:Option PR):Option PR:=match r with
 |some (.val vs K)=>evP P (.ops l (setP d (oneOrTup vs) fr) K)
 |some (.pan v K)=>zsq (.pan v K)
 |_=>znq
def QZ(P:PE)(d:Option Tmp)(l:List XOp)(fr:PF)(K:PK)(o:OpS):Option PR:=match o with
 |.val v K=>evP P (.ops l (setP d v fr) K)
 |.call f args=>pD P d l fr (evP P (.call f args K))
 |.pan v=>zsq (.pan v K)
 | .bad=>znq
theorem callK_val(P:PE)(d:Option Tmp)(l:List XOp):pD P d l fr (zsq (.val vs K))=evP P (.ops l (setP d (oneOrTup vs) fr) K):=rfl
theorem doP_val(P:PE)(d:Option Tmp)(l:List XOp):QZ P d l fr K (.val v K')=evP P (.ops l (setP d v fr) K'):=rfl
theorem doP_call(P:PE)(d:Option Tmp)(l:List XOp)(f:Nat)(args:List AV):QZ P d l fr K (.call f args)=pD P d l fr (evP P (.call f args K)):=rfl
theorem e_nil(P:PE):evP P (.ops [] fr K)=zsq (.ok .normal fr K):=by rw[evP,evG]
theorem mP(P:PE)(o:XOp)(l:List XOp){b:Bool}(hg:guardP o.gd fr=zsq b):evP P (.ops (o::l) fr K)=bif b then QZ P o.dst l fr K (prim P.E o.op fr K)else evP P (.ops l (setP o.dst skipped fr) K):=by
 rw[evP,evG,hg];cases b with
 |false=>rfl
 |true=>
  dsimp only[cond_true];cases prim P.E o.op fr K with
  |call f args=>
   show _=pD P o.dst l fr (evP P (.call f args K))
   dsimp only;cases evP P (.call f args K)with
   |none=>rfl
   |some r=>cases r<;>rfl
  |_=>rfl
theorem e_op(d:Option Tmp)(op:Op)(q:Bool)(s:List Bool)(c:Bool)(l:List XOp):evP ⟨E,T,F⟩ (.ops (⟨d,op,znq,q,s,c⟩::l) fr K)=QZ ⟨E,T,F⟩ d l fr K (prim E op fr K):=mP (fr:=fr) (K:=K) (b:=zt) ⟨E,T,F⟩ ⟨d,op,znq,q,s,c⟩ l rfl
theorem e_opS{d:Option Tmp}{op:Op}{t:Tmp}{w q:Bool}{s:List Bool}{c:Bool}{l:List XOp}(hg:i7 w (lookP fr t)=zsq zf):evP ⟨E,T,F⟩ (.ops (⟨d,op,zsq (zsq t,w),q,s,c⟩::l) fr K)=evP ⟨E,T,F⟩ (.ops l (setP d skipped fr) K):=mP (fr:=fr) (K:=K) (b:=zf) ⟨E,T,F⟩ ⟨d,op,zsq (zsq t,w),q,s,c⟩ l hg
theorem e_opY{d:Option Tmp}{op:Op}{t:Tmp}{w q:Bool}{s:List Bool}{c:Bool}{l:List XOp}(hg:i7 w (lookP fr t)=zsq zt):evP ⟨E,T,F⟩ (.ops (⟨d,op,zsq (zsq t,w),q,s,c⟩::l) fr K)=QZ ⟨E,T,F⟩ d l fr K (prim E op fr K):=mP (fr:=fr) (K:=K) (b:=zt) ⟨E,T,F⟩ ⟨d,op,zsq (zsq t,w),q,s,c⟩ l hg
def Dp(P:PE)(d:Option Tmp)(s:List Bool)(l:List XOp)(fr:PF)(K:PK)(r:Option PR):Option PR:=match r with
 |some (.val vs K)=>evP P (.opsD l (setP d (oneOrTup vs) fr) K)
 |some (.pan v K1)=>if Vz P.E l s (setP d skipped fr) K=zt then zsq (.pan v K1)else znq
 |_=>znq
def RA(P:PE)(d:Option Tmp)(s:List Bool)(l:List XOp)(fr:PF)(K:PK)(o:OpS):Option PR:=match o with
 |.val v K=>evP P (.opsD l (setP d v fr) K)
 |.call f args=>Dp P d s l fr K (evP P (.call f args K))
 |.pan v=>if Vz P.E l s (setP d skipped fr) K=zt then zsq (.pan v K)else znq
 | .bad=>znq
def pE(P:PE)(d:Option Tmp)(s:List Bool)(l:List XOp)(fr:PF)(K:PK)(r:Option PR):Option PR:=match r with
 |some (.pan v K1)=>if Vz P.E l s (setP d skipped fr) K=zt then zsq (.pan v {K1 with tch:=K1.tch++K.tch})else znq
 |some (.val vs K1)=>if Ds K.os.length l K1=zt then evP P (.opsD l (setP d (oneOrTup vs) fr) {K1 with tch:=K1.tch++K.tch})else evP P (.opsS [⟨K.os,0,K1.tch⟩] l (setP d (oneOrTup vs) fr) {K1 with tch:=K1.tch++K.tch})
 |_=>znq
def UP(P:PE)(d:Option Tmp)(s:List Bool)(l:List XOp)(fr:PF)(K:PK)(o:OpS):Option PR:=match o with
 |.val v K1=>if Ds K.os.length l K1=zt then evP P (.opsD l (setP d v fr) {K1 with tch:=K1.tch++K.tch})else evP P (.opsS [⟨K.os,0,K1.tch⟩] l (setP d v fr) {K1 with tch:=K1.tch++K.tch})
 |.call f args=>pE P d s l fr K (evP P (.call f args {K with tch:=[]}))
 |_=>znq
theorem callD_val(P:PE)(d:Option Tmp)(s:List Bool)(l:List XOp):Dp P d s l fr K' (zsq (.val vs K))=evP P (.opsD l (setP d (oneOrTup vs) fr) K):=rfl
theorem doD_val(P:PE)(d:Option Tmp)(s:List Bool)(l:List XOp):RA P d s l fr K (.val v K')=evP P (.opsD l (setP d v fr) K'):=rfl
theorem doD_call(P:PE)(d:Option Tmp)(s:List Bool)(l:List XOp)(f:Nat)(args:List AV):RA P d s l fr K (.call f args)=Dp P d s l fr K (evP P (.call f args K)):=rfl
theorem callQ_val(P:PE)(d:Option Tmp)(s:List Bool)(l:List XOp)(A:Ds K.os.length l K'=zt):pE P d s l fr K (zsq (.val vs K'))=evP P (.opsD l (setP d (oneOrTup vs) fr) {K' with tch:=K'.tch++K.tch}):=if_pos A
theorem doQ_call(P:PE)(d:Option Tmp)(s:List Bool)(l:List XOp)(f:Nat)(args:List AV):UP P d s l fr K (.call f args)=pE P d s l fr K (evP P (.call f args {K with tch:=[]})):=rfl
theorem e_nilD(P:PE):evP P (.opsD [] fr K)=zsq (.ok .normal fr K):=by rw[evP,evG]
theorem Mg(P:PE)(o:XOp)(l:List XOp){b:Bool}(hg:guardP o.gd fr=zsq b):evP P (.opsD (o::l) fr K)=bif b then(bif o.quiet then UP P o.dst o.late l fr K (prim P.E o.op fr {K with tch:=[]})else RA P o.dst o.late l fr K (prim P.E o.op fr K))else evP P (.opsD l (setP o.dst skipped fr) K):=by
 rw[evP,evG,hg];cases b with
 |false=>rfl
 |true=>
  dsimp only[cond_true];cases o.quiet with
  |true=>
   dsimp only[cond_true,cond_false];cases prim P.E o.op fr {K with tch:=[]}with
   |call f args=>
    show _=pE P o.dst o.late l fr K (evP P (.call f args {K with tch:=[]}))
    dsimp only;cases evP P (.call f args {K with tch:=[]})with
    |none=>rfl
    |some r=>cases r<;>rfl
   |_=>rfl
  |false=>
   dsimp only[cond_true,cond_false];cases prim P.E o.op fr K with
   |call f args=>
    show _=Dp P o.dst o.late l fr K (evP P (.call f args K))
    dsimp only;cases evP P (.call f args K)with
    |none=>rfl
    |some r=>cases r<;>rfl
   |_=>rfl
theorem d_op(d:Option Tmp)(op:Op)(s:List Bool)(c:Bool)(l:List XOp):evP ⟨E,T,F⟩ (.opsD (⟨d,op,znq,zf,s,c⟩::l) fr K)=RA ⟨E,T,F⟩ d s l fr K (prim E op fr K):=Mg (fr:=fr) (K:=K) (b:=zt) ⟨E,T,F⟩ ⟨d,op,znq,zf,s,c⟩ l rfl
theorem d_opQ(d:Option Tmp)(op:Op)(s:List Bool)(c:Bool)(l:List XOp):evP ⟨E,T,F⟩ (.opsD (⟨d,op,znq,zt,s,c⟩::l) fr K)=UP ⟨E,T,F⟩ d s l fr K (prim E op fr ⟨K.os,K.ext,[]⟩):=Mg (fr:=fr) (K:=K) (b:=zt) ⟨E,T,F⟩ ⟨d,op,znq,zt,s,c⟩ l rfl
theorem d_opS{d:Option Tmp}{op:Op}{t:Tmp}{w q:Bool}{s:List Bool}{c:Bool}{l:List XOp}(hg:i7 w (lookP fr t)=zsq zf):evP ⟨E,T,F⟩ (.opsD (⟨d,op,zsq (zsq t,w),q,s,c⟩::l) fr K)=evP ⟨E,T,F⟩ (.opsD l (setP d skipped fr) K):=Mg (fr:=fr) (K:=K) (b:=zf) ⟨E,T,F⟩ ⟨d,op,zsq (zsq t,w),q,s,c⟩ l hg
theorem d_opY{d:Option Tmp}{op:Op}{t:Tmp}{w:Bool}{s:List Bool}{c:Bool}{l:List XOp}(hg:i7 w (lookP fr t)=zsq zt):evP ⟨E,T,F⟩ (.opsD (⟨d,op,zsq (zsq t,w),zf,s,c⟩::l) fr K)=RA ⟨E,T,F⟩ d s l fr K (prim E op fr K):=Mg (fr:=fr) (K:=K) (b:=zt) ⟨E,T,F⟩ ⟨d,op,zsq (zsq t,w),zf,s,c⟩ l hg
theorem d_opYQ{d:Option Tmp}{op:Op}{t:Tmp}{w:Bool}{s:List Bool}{c:Bool}{l:List XOp}(hg:i7 w (lookP fr t)=zsq zt):evP ⟨E,T,F⟩ (.opsD (⟨d,op,zsq (zsq t,w),zt,s,c⟩::l) fr K)=UP ⟨E,T,F⟩ d s l fr K (prim E op fr ⟨K.os,K.ext,[]⟩):=Mg (fr:=fr) (K:=K) (b:=zt) ⟨E,T,F⟩ ⟨d,op,zsq (zsq t,w),zt,s,c⟩ l hg
def xQ(E:Env)(rs:List ResultVar)(r:Option PR):Option PR:=match r with
 |some (.ok .normal fr K)=>(match resP E rs fr K with|some (vs,K)=>zsq (.val vs K)|none=>znq)
 |some (.ok .ret fr K)=>(match resP E rs fr K with|some (vs,K)=>zsq (.val vs K)|none=>znq)
 |some (.pan v K)=>zsq (.pan v K)
 |_=>znq
theorem A3{f:Nat}{args:List AV}{c:PC}{nt:Nat}{rs:List ResultVar}{b:Bool}(hf:F f=zsq ⟨c,nt,rs,b⟩)(hn:args.length<=nt)(A:bodyJ c=PJ.code c:=by rfl):evP ⟨E,T,F⟩ (.body f args K)=xQ E rs (evP ⟨E,T,F⟩ (.code c (enterP 0 args) K)):=by
 rw[evP,evG];show(match F f with|some p=>_|none=>_)=_
 rw[hf];dsimp only;rw[if_pos hn,A];cases evP ⟨E,T,F⟩ (.code c (enterP 0 args) K)with
 |none=>rfl
 | some r=>cases r with
  |ok e fr K=>cases e<;>rfl
  |_=>rfl
variable {fr1 fr2 fr3:PF}{K1 K2 K3:PK}{P:PE}
theorem B4{f:Nat}{args:List AV}{g:List AV->Option (List AV)}{as1 rs:List AV}(B:T f=zsq g)(C:viewAs K.os args=zsq as1)(hg:g as1=zsq rs)(A:(okRs rs&&((refsL args).isEmpty||noFL rs))=zt):evP ⟨E,T,F⟩ (.call f args K)=zsq (.val (openTs K.os.length rs).1 ⟨K.os++(openTs K.os.length rs).2,K.ext,K.tch⟩):=by
 rw[evP,evG];show(match T f with|some g=>_|none=>_)=_
 rw[B];dsimp only;unfold tcall viewX;rw[C];dsimp only;rw[hg];dsimp only;rw[if_pos A]
end
noncomputable section
variable {E:Env}{T:Nat->Option (List AV->Option (List AV))}{F:Nat->Option PFn}{fr:PF}{K K':PK}{v:AV}{vs:List AV}
def RB(fr:PF)(K:PK)(r:Option PR):Option PR:=match r with
 |some (.itr .normal p _ K1)=>zsq (.ok (qI p) fr ⟨K1.os,K.ext,K1.tch++K.tch⟩)
 |some (.itr .ret p _ K1)=>zsq (.ok (qI p) fr ⟨K1.os,K.ext,K1.tch++K.tch⟩)
 |_=>znq
theorem mQ(p:Option Ex)(fr1:PF):RB fr K (zsq (.itr .normal p fr1 K'))=zsq (.ok (qI p) fr ⟨K'.os,K.ext,K'.tch++K.tch⟩):=rfl
theorem xR{g:Operand}{ps:List Tmp}{a b ic:PC}{x:XC}{n nt:Nat}{caps:List AV}{rs:List ResultVar}{i:Bool}(hg:opvP E g fr=.fn (.func n) [] caps)(hf:F n=zsq ⟨.itf x ic,nt,rs,i⟩)(hn:caps.length+1<=nt):
 evP ⟨E,T,F⟩ (.code (.rfn g ps a b) fr K)=RB fr K (evP ⟨E,T,F⟩ (.iter ⟨ps,a,b,fr⟩ itMax ic znq (enterP 0 (.any::caps)) ⟨K.os,K.os.length,[]⟩)):=by
 rw[evP,evG];show(match opvP E g fr with | .fn (.func n) [] caps=>(match itOf (F n)with|some (nt,ic)=>_|none=>znq)|_=>znq)=_
 rw[hg];dsimp only;rw[hf];dsimp only[itOf];rw[if_pos hn];cases evP ⟨E,T,F⟩ (.iter ⟨ps,a,b,fr⟩ itMax ic znq (enterP 0 (.any::caps)) ⟨K.os,K.os.length,[]⟩)with
 |none=>rfl
 | some r=>cases r with
  |itr e p fr1 K1=>cases e<;>rfl
  |_=>rfl
def RD(P:PE)(b:PC)(r:Option PR):Option PR:=match r with
 |some (.ok .normal fr K)=>evP P (.code b fr K)
 |_=>znq
theorem Xb(P:PE)(b:PC):RD P b (zsq (.ok .normal fr K))=evP P (.code b fr K):=rfl
theorem Mh{P:PE}{ps:List Tmp}{a b:PC}{args:List AV}(hn:args.length=ps.length):evP P (.round ⟨ps,a,b,fr⟩ args K)=RD P b (evP P (.code a (setPs' ps args fr) K)):=by
 rw[evP,evG];dsimp only;rw[if_pos hn];cases evP P (.code a (setPs' ps args fr) K)with
 |none=>rfl
 | some r=>cases r with
  |ok e fr1 K1=>cases e<;>rfl
  |_=>rfl
theorem Co(l:List AV):setPs' [] l fr=fr:=by cases l<;>rfl
theorem An(p:Tmp)(ps:List Tmp)(v:AV)(l:List AV):setPs' (p::ps) (v::l) fr=setPs' ps l ((p,v)::fr):=rfl
variable {P:PE}{c:RC}{m:Nat}{p:Option Ex}
def aU(P:PE)(c:RC)(m:Nat)(b:PC)(r:Option PR):Option PR:=match r with
 |some (.itr .normal p fr K)=>evP P (.iter c m b p fr K)
 |some (.itr (.exit i) p fr K)=>zsq (.itr (.exit i) p fr K)
 |some (.itr .ret p fr K)=>zsq (.itr .ret p fr K)
 |_=>znq
theorem H3(b:PC):aU P c m b (zsq (.itr .normal p fr K))=evP P (.iter c m b p fr K):=rfl
theorem H4(b:PC)(i:Nat):aU P c m b (zsq (.itr (.exit i) p fr K))=zsq (.itr (.exit i) p fr K):=rfl
theorem H5(b:PC):aU P c m b (zsq (.itr .ret p fr K))=zsq (.itr .ret p fr K):=rfl
theorem X1(a b:PC):evP P (.iter c (m+1) (.seq a b) p fr K)=aU P c m b (evP P (.iter c m a p fr K)):=by
 rw[evP,evG];cases evP P (.iter c m a p fr K)with
 |none=>rfl
 | some r=>cases r with
  |itr e p fr K=>cases e<;>rfl
  |_=>rfl
theorem u4(a:PC):evP P (.iter c (m+1) (.loop a) p fr K)=aU P c m (.loop a) (evP P (.iter c m a p fr K)):=by
 rw[evP,evG];cases evP P (.iter c m a p fr K)with
 |none=>rfl
 | some r=>cases r with
  |itr e p fr K=>cases e<;>rfl
  |_=>rfl
def EZ(p:Option Ex)(r:Option PR):Option PR:=match r with
 |some (.ok .normal fr K)=>zsq (.itr .normal p fr K)
 |_=>znq
theorem H6:EZ p (zsq (.ok .normal fr K))=zsq (.itr .normal p fr K):=rfl
theorem X2(d:Bool)(l:List XOp):evP P (.iter c (m+1) (.reg d l) p fr K)=EZ p (evP P (.code (.reg d l) fr K)):=by
 rw[evP,evG];cases evP P (.code (.reg d l) fr K)with
 |none=>rfl
 | some r=>cases r with
  |ok e fr K=>cases e<;>rfl
  |_=>rfl
def mR(P:PE)(c:RC)(m:Nat)(a b:PC)(x:AV)(p:Option Ex)(fr:PF)(K:PK):Option PR:=match x with | .bool zt=>evP P (.iter c m a p fr K) | .bool zf=>evP P (.iter c m b p fr K)|_=>znq
theorem E3(a b:PC):mR P c m a b (.bool zt) p fr K=evP P (.iter c m a p fr K):=rfl
theorem E4(a b:PC):mR P c m a b (.bool zf) p fr K=evP P (.iter c m b p fr K):=rfl
theorem M3(x:Operand)(a b:PC):evP P (.iter c (m+1) (.cond x a b) p fr K)=mR P c m a b (opvP P.E x fr) p fr K:=by rw[evP,evG];rfl
def pF(i:Nat)(r:Option PR):Option PR:=match r with
 |some (.itr .normal p fr K)=>zsq (.itr .normal p fr K)
 |some (.itr (.exit j) p fr K)=>if j=i then zsq (.itr .normal p fr K)else zsq (.itr (.exit j) p fr K)
 |some (.itr .ret p fr K)=>zsq (.itr .ret p fr K)
 |_=>znq
theorem H7(i:Nat):pF i (zsq (.itr .normal p fr K))=zsq (.itr .normal p fr K):=rfl
theorem H8(i j:Nat):pF i (zsq (.itr (.exit j) p fr K))=if j=i then zsq (.itr .normal p fr K)else zsq (.itr (.exit j) p fr K):=rfl
theorem H9(i:Nat):pF i (zsq (.itr .ret p fr K))=zsq (.itr .ret p fr K):=rfl
theorem I0(i:Nat)(a:PC):evP P (.iter c (m+1) (.block i a) p fr K)=pF i (evP P (.iter c m a p fr K)):=by
 rw[evP,evG];cases evP P (.iter c m a p fr K)with
 |none=>rfl
 | some r=>cases r with
  |itr e p fr K=>cases e<;>rfl
  |_=>rfl
theorem M4:evP P (.iter c (m+1) .skip p fr K)=zsq (.itr .normal p fr K):=by rw[evP,evG]
theorem M5(i:Nat):evP P (.iter c (m+1) (.exit i) p fr K)=zsq (.itr (.exit i) p fr K):=by rw[evP,evG]
theorem X3:evP P (.iter c (m+1) .ret p fr K)=zsq (.itr .ret p fr K):=by rw[evP,evG]
theorem X4(k:List Nat)(a:PC):evP P (.iter c (m+1) (.pre k a) p fr K)=evP P (.iter c (m+1) a p (J0 k fr K).1 (J0 k fr K).2):=by rw[evP,evG]
def eC(k:List Nat)(r:Option PR):Option PR:=match r with
 |some (.itr .normal p fr K)=>zsq (.itr .normal p (J0 k fr K).1 (J0 k fr K).2)
 |r=>r
theorem E5(k:List Nat):eC k (zsq (.itr .normal p fr K))=zsq (.itr .normal p (J0 k fr K).1 (J0 k fr K).2):=rfl
theorem E6(k:List Nat)(i:Nat):eC k (zsq (.itr (.exit i) p fr K))=zsq (.itr (.exit i) p fr K):=rfl
theorem E7(k:List Nat):eC k (zsq (.itr .ret p fr K))=zsq (.itr .ret p fr K):=rfl
theorem M6(k:List Nat)(a:PC):evP P (.iter c (m+1) (.post k a) p fr K)=eC k (evP P (.iter c (m+1) a p fr K)):=by
 rw[evP,evG];cases evP P (.iter c (m+1) a p fr K)with
 |none=>rfl
 | some r=>cases r with
  |itr e p fr K=>cases e<;>rfl
  |_=>rfl
def UQ(e:Ex)(r:Option PR):Option PR:=match r with
 |some (.ok .normal fr K)=>zsq (.itr .normal (I5 e) fr K)
 |_=>znq
def pG(P:PE)(p2:PC)(yd:Tmp)(fr:PF)(K:PK)(r:Option PR):Option PR:=match r with
 |some (.ok e _ K1)=>UQ e (evP P (.code p2 ((yd,.bool (wentOn e))::fr) ⟨K1.os,K.ext,K1.tch++K.tch⟩))
 |_=>znq
theorem X5(e:Ex):UQ e (zsq (.ok .normal fr K))=zsq (.itr .normal (I5 e) fr K):=rfl
theorem E8(p2:PC)(yd:Tmp)(e:Ex)(fr1:PF):pG P p2 yd fr K (zsq (.ok e fr1 K'))=UQ e (evP P (.code p2 ((yd,.bool (wentOn e))::fr) ⟨K'.os,K.ext,K'.tch++K.tch⟩)):=rfl
end
end Go.AM
