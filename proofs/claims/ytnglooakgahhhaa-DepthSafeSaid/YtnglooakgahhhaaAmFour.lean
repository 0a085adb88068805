/- The abstract machine, part four: regions that draw their order are sound; what calls leave as it was. Conditions: none. -/
import Derived.Test.YtnglooakgahhhaaAmThree
import Derived.OrdersIn
import Derived.TacticsIn
import Derived.LoopNIn
import Derived.Scope
set_option linter.unusedVariables false
set_option linter.unusedSectionVars false
set_option linter.unusedSimpArgs false
/-
 The abstract machine: a region that draws its order: whatever is drawn,what is told holds.
set_option maxHeartbeats 4000000
-/
open Option renaming some→zs,none→zn
open Bool renaming true→zt,false→zf
open Nat renaming lt_or_ge→zqa,le_refl→zqb,le_trans→zqc,le_of_lt→zqd,lt_trichotomy→zqe,lt_of_lt_of_le→zqf
open Array renaming getElem?_eq_getElem→zqg,getD_eq_getD_getElem?→zqh,all_toList→zqi,replicate→zqj
open Bool renaming and_eq_true→zqk
namespace Go.AM
section
variable (E:Env)(call:C7)(ops:Array Oper)(ms l:List Nat)(sk:Nat->Prop)(xs:List XOp)(s₀:Tr×HD)(W₀:World)
def Kc(m:Nat):Prop:=∃s x,St E call xs s₀ m=zs s/\xs[m]?=zs x/\guardOk x.gd s.1=zs zt/\Hu x.op=2
structure NewP(W:World)(cx:Cx)(tmps:Array Value)(b:Nat)(s:Tr×HD)(r:AV×HD)(o:Oper):Prop where
 held:cx.held b
 own:cx.own b
 new:W₀.heap.size<=b
 rest:∃(es:List AV)(sz:Nat)(nx:Nat->AV),r=(nx s.2.1.next,(s.2.1.push (.row es sz),s.2.2))/\N8 W cx (b,0,sz) (.row es sz)/\
  ∀(t:Nat),o.dst=zs t->t<tmps.size->∀(W₂:World)(cx₂:Cx)(id:Nat),cx₂.μ id=(b,0,sz)->id<cx₂.nx->b<W₂.heap.size->szOf W₂ b=szOf W b->Rep W₂ cx₂ (tmps.getD t undef) (nx id)
def rQ(W:World)(cx:Cx)(tmps:Array Value)(fr fp:Tr)(b:Nat)(m:Nat)(o:Oper):Prop:=
 Hu o.op≠3/\∃s x r,St E call xs s₀ m=zs s/\xs[m]?=zs x/\stp E call x s.1 s.2=zs r/\
  ((¬Kc E call xs s₀ m/\r.2=s.2/\∀t,o.dst=zs t->fp.get t=if fr.has t then r.1 else .und)\/(Kc E call xs s₀ m/\NewP W₀ W cx tmps b s r o))
structure Inv(S:Act->Prop)(cx₀:Cx)(lis:Nat->Prop)(β:Nat->Nat)(k:Nat)(W:World)(cx:Cx)(a:Act)(fr:Tr)(h:HD)(fp:Tr):Prop where
 st:St E call xs s₀ k=zs (fr,h)
 kle:k<=l.length
 pre:∀(m i:Nat),m<k->l[m]?=zs i->lis i
 stop:∀(m i:Nat),sk m->l[m]?=zs i->¬lis i
 clo:∀(i j:Nat),i<ops.size->j<ops.size->lis j->bit (ms.getD j 0) i=zt->lis i
 sat:Sat E W cx h.1
 frep:FrRep W cx a.tmps fp
 has:∀t,fp.has t=fr.has t
 ext:Ext W₀ cx₀ W cx
 dfr:S a
 stab:∀(i:Nat)(o:Oper),ops[i]?=zs o->Kx S o.dst
 pend:∀(m i:Nat)(o:Oper),k<=m->l[m]?=zs i->lis i->ops[i]?=zs o->rQ E call xs s₀ W₀ W cx a.tmps fr fp (β m) m o
 old:∀t,(∀(m i:Nat)(o:Oper),k<=m->l[m]?=zs i->lis i->ops[i]?=zs o->o.dst≠zs t)->fp.get t=fr.get t
 sep:∀(m m' i i':Nat),k<=m->k<=m'->l[m]?=zs i->l[m']?=zs i'->lis i->lis i'->Kc E call xs s₀ m->Kc E call xs s₀ m'->β m=β m'->m=m'
end
section
variable {P:Program}{E:Env}{call:C7}{ops:Array Oper}{ms l:List Nat}{sk:Nat->Prop}{xs:List XOp}{s₀:Tr×HD}{W₀:World}{S:Act->Prop}{cx₀:Cx}{lis:Nat->Prop}{β:Nat->Nat}{k:Nat}{W:World}{cx:Cx}{a:Act}{fr fp:Tr}{h:HD}
theorem NewP.mono{W':World}{cx':Cx}{tmps A:Array Value}{b:Nat}{s:Tr×HD}{r:AV×HD}{o:Oper}(C:Ext W cx W' cx')(hb:b<W.heap.size)(ho:cx'.own b)(D:∀t,o.dst=zs t->A.size=tmps.size/\A.getD t undef=tmps.getD t undef)(hn:NewP W₀ W cx tmps b s r o):NewP W₀ W' cx' A b s r o:=by
 obtain⟨h1,h2,N,es,sz,nx,O,U,V⟩:=hn;obtain⟨X,h8⟩:=C.hold b hb h1;refine⟨X,ho,N,es,sz,nx,O,U.mono C h8,fun t B hlt W₂ cx₂ id G H I J=>?_⟩;obtain⟨e1,e2⟩:=D t B;rw[e2];exact V t B (by grind) W₂ cx₂ id G H I (by rw[J,C.shape b hb])
theorem Hz{o:Oper}(hl:∀t∈AM.looksAt ops.toList o,fp.get t=fr.get t):guardOk (F3 ops.toList o) fp=guardOk (F3 ops.toList o) fr:=by
 unfold F3;cases hg:o.guard with
 |none=>rfl
 |some p=>
  dsimp only;show Km _ fp=Km _ fr
  grind[Km,AM.looksAt]
theorem Wm{o:Oper}(hl:∀t∈AM.looksAt ops.toList o,fp.get t=fr.get t):∀y∈o.op.operands.toList,opv E y fp=opv E y fr:=by
 intro y hy;cases y with
 |tmp t=>exact hl t (by unfold AM.looksAt;grind)
 |_=>rfl
theorem Inv.looks(A:PlanX ops ms l sk xs)(hi:Inv E call ops ms l sk xs s₀ W₀ S cx₀ lis β k W cx a fr h fp){m i:Nat}{o:Oper}(hk:k<=m)(hl:l[m]?=zs i)(ho:ops[i]?=zs o)(hn:¬lis i)(X:∀j,j<ops.size->bit (ms.getD i 0) j=zt->lis j)
 (hfirst:m=k\/∃j,l[k]?=zs j/\¬lis j){frm:Tr}{hm:HD}(hst:St E call xs s₀ m=zs (frm,hm)):∀t∈AM.looksAt ops.toList o,fp.get t=frm.get t:=by
 intro t Y;have H:=A.lt m i hl;by_cases V:∃p i' o',k<=p/\p<m/\l[p]?=zs i'/\ops[i']?=zs o'/\o'.dst=zs t
 . obtain ⟨p,i',o',h1,h2,B,C,G⟩:=V
   cases hb:bit (ms.getD i 0) i' with
   |false=>exact absurd Y ((A.apart h2 B hl C ho hb).2.1 t G)
   |true=>
    have I:=X i' (A.lt p i' B) hb;obtain⟨h6,s,x,r,h7,h8,h9,N⟩:=hi.pend p i' o' h1 B I C;rcases N with⟨_,_,D⟩|⟨D,_⟩
    . rw[D t G]
      exact(DG A hi.st h1 h2 h7 hst h8 h9 B C G).symm
    . exfalso
      obtain⟨s',x',_,k2,_,k4⟩:=D;obtain⟨x2,hx,_,hxo,_⟩:=A.xat p i' o' B C;rw[k2]at hx;cases hx;have hc:Hu o'.op=2:=by grind
      rcases hfirst with rfl|⟨j,hj,O⟩
      . omega
      . rcases zqa k p with J|J
        . exact O (X j (A.lt k j hj) (A.news p i' o' B C hc m i h2 hl hb k j J hj))
        grind
 . obtain ⟨n,rfl⟩:∃n,m=k+n:=⟨m-k,by omega⟩
   rw[iY A hi.st n (frm,hm) hst (t:=t) (by grind)];refine hi.old t fun q i' o' h1 h2 B C G=>?_
   rcases zqe q (k+n)with U|U|U
   . grind
   . grind
   . cases hb:bit (ms.getD i' 0) i with
     |true=>exact hn (hi.clo i i' H (A.lt q i' h2) B hb)
     |false=>exact absurd Y ((A.apart U hl h2 ho C hb).2.2 t G)
theorem cQ{a:Act}{d:Option Tmp}{v:Value}{t:Nat}(h:d≠zs t):(a.put d v).tmps.size=a.tmps.size/\(a.put d v).tmps.getD t undef=a.tmps.getD t undef:=by
 cases d with
 |none=>exact⟨rfl,rfl⟩
 |some d=>
  have hne:d≠t:=fun e=>h (by rw[e])
  show(a.tmps.setIfInBounds d v).size=_/\(a.tmps.setIfInBounds d v).getD t undef=_
  simp_all
theorem rQ.mono{W':World}{cx':Cx}{tmps A:Array Value}{fr' B:Tr}{b m:Nat}{o:Oper}(H:Ext W cx W' cx')(hb:cx.held b->b<W.heap.size)(C:cx.held b->cx.own b->cx'.own b)(hhas:∀t,fr'.has t=fr.has t)
 (ht:∀t,o.dst=zs t->A.size=tmps.size/\A.getD t undef=tmps.getD t undef/\B.get t=fp.get t)(hpd:rQ E call xs s₀ W₀ W cx tmps fr fp b m o):rQ E call xs s₀ W₀ W' cx' A fr' B b m o:=by
 obtain⟨h1,s,x,r,h2,I,J,N⟩:=hpd;refine⟨h1,s,x,r,h2,I,J,?_⟩;rcases N with⟨G,D,h8⟩|⟨G,D⟩
 . grind
 . exact .inr ⟨G,D.mono H (hb D.held) (C D.held D.own) (by grind)⟩
theorem Inv.more(O:PlanX ops ms l sk xs)(hi:Inv E call ops ms l sk xs s₀ W₀ S cx₀ lis β k W cx a fr h fp){m i:Nat}(hsk:¬sk m){o:Oper}(hk:k<=m)(hl:l[m]?=zs i)(ho:ops[i]?=zs o)(hn:¬lis i)(hd:∀j,j<ops.size->bit (ms.getD i 0) j=zt->lis j)
 {v':Value}{W':World}{cx':Cx}(he:Ext W cx W' cx')(hown:∀b,cx.held b->cx.own b->cx'.own b){v:AV}(hv:Rep W' cx' v' v){k':Nat}{fr':Tr}{h':HD}{β':Nat->Nat}
 (hst:St E call xs s₀ k'=zs (fr',h'))(hkk:k'=k\/(k'=k+1/\m=k))(hkl:k'<=l.length)(hpre:∀(q j:Nat),q<k'->l[q]?=zs j->lis j\/j=i)(hs:Sat E W' cx' h'.1)(hfr:∀t,o.dst≠zs t->fr'.get t=fr.get t)
 (hβ:∀q,q≠m->β' q=β q)(hhas:∀t,fr'.has t=fr.has t)
 (hown2:k'<=m->rQ E call xs s₀ W₀ W' cx' (a.put o.dst v').tmps fr' (setDst o.dst v fp) (β' m) m o)(hsep:k'<=m->Kc E call xs s₀ m->∀b,cx.held b->β' m≠b)(hdst:m<k'->∀t,o.dst=zs t->(setDst o.dst v fp).get t=fr'.get t):
 Inv E call ops ms l sk xs s₀ W₀ S cx₀ (fun j=>lis j\/j=i) β' k' W' cx' (a.put o.dst v') fr' h' (setDst o.dst v fp):=by
 have H:k<=k':=by omega
 exact {
  st:=hst
  kle:=hkl
  pre:=hpre
  stop q j U A hj:=by
   rcases hj with hj|rfl
   . exact hi.stop q j U A hj
   . have:=O.inj q m _ A hl
     grind
  clo x y hx hy N hb:=by
   rcases N with N|rfl
   . exact .inl (hi.clo x y hx hy N hb)
   grind
  sat:=hs
  frep:=(hi.frep.mono he).put o.dst hv
  has t:=by rw[R8,hhas];exact hi.has t
  ext:=hi.ext.trans he
  dfr:=hi.stab i o ho _ _ hi.dfr
  stab:=hi.stab
  pend q j I G A hlis D:=by
   by_cases U:q=m
   . grind
   . rw [hβ q U]
     have B:lis j:=by
      rcases hlis with h1|rfl
      . exact h1
      . exact absurd (O.inj q m _ A hl) U
     refine(hi.pend q j I (zqc H G) A B D).mono he (fun h=>(hi.sat.held _ h).1) (hown _) hhas fun t V=>?_
     have hne:o.dst≠zs t:=by
      intro e;rcases zqa q m with h1|h1
      . exact O.dst q m j i I o t h1 A hl D ho V e
      . exact O.dst m q i j o I t (by omega) hl A ho D e V
     grind[cQ,Z6]
  old t ht:=by
   by_cases Y:o.dst=zs t
   . grind
   . rw[Z6 Y,hfr t Y]
     refine hi.old t fun q j I G A B D=>?_
     grind
  sep q q' j j' U hq' A hlq' B hlj' X hnq' he':=by
   have C:∀{q j},q≠m->l[q]?=zs j->(lis j\/j=i)->lis j:=by
    intro q j J A B;rcases B with h1|rfl
    . exact h1
    . exact absurd (O.inj q m _ A hl) J
   have heldOf:∀{q j},q≠m->k'<=q->l[q]?=zs j->(lis j\/j=i)->Kc E call xs s₀ q->cx.held (β q):=by
    intro q j J G A B X;obtain⟨I,D⟩:∃I,ops[j]?=zs I:=⟨_,zqg (O.lt q j A)⟩
    obtain⟨_,s,x,r,_,_,_,h5⟩:=hi.pend q j I (zqc H G) A (C J A B) D;rcases h5 with⟨h6,_⟩|⟨_,h7⟩
    . grind
    . exact h7.held
   by_cases h1:q=m<;>by_cases h2:q'=m
   . rw[h1,h2]
   . grind
   . grind
   . rw[hβ q h1,hβ q' h2]at he'
     exact hi.sep q q' j j' (zqc H U) (zqc H hq') A hlq' (C h1 A B) (C h2 hlq' hlj') X hnq' he'}
end
end Go.AM
/-
 The abstract machine: a region that draws its order: each step,and the whole.
-/
namespace Go.AM
section
variable {P:Program}{E:Env}{call:C7}{ops:Array Oper}{ms l:List Nat}{sk:Nat->Prop}{xs:List XOp}{s₀:Tr×HD}{W₀:World}{S:Act->Prop}{cx₀:Cx}{lis:Nat->Prop}{β:Nat->Nat}{k:Nat}{W:World}{cx:Cx}{a:Act}{fr fp:Tr}{h:HD}
theorem FrRep.setIf{tmps:Array Value}{fr:Tr}(hf:FrRep W cx tmps fr){i:Nat}{x:AV}(A:i<tmps.size->Rep W cx (tmps.getD i undef) x):FrRep W cx tmps (fr.set i x) where
 rep j:=by
  by_cases e:i=j
  . subst e
    rw[Tr.get_set_eq];split
    . rename_i hh;exact A (hf.has _ hh)
    . exact .und _
  . rw[Tr.get_set_ne _ _ _ _ e];exact hf.rep j
 has j hj:=by rw[Tr.has_set]at hj;exact hf.has j hj
def Cx.adopt(cx:Cx)(b sz:Nat):Cx:=⟨fun id=>if id=cx.nx then(b,0,sz)else cx.μ id,cx.nx+1,cx.own,fun x=>cx.held x/\x≠b⟩
theorem Cx.adopt_new(cx:Cx)(b sz:Nat):(cx.adopt b sz).μ cx.nx=(b,0,sz):=by simp[Cx.adopt]
theorem Cx.adopt_old(cx:Cx)(b sz:Nat){i:Nat}(h:i<cx.nx):(cx.adopt b sz).μ i=cx.μ i:=by
 grind[Cx.adopt]
theorem Ext0.adopt(W:World)(cx:Cx)(b sz:Nat):Ext0 W cx W (cx.adopt b sz):=
 ⟨Nat.le_succ _,fun id hid=>cx.adopt_old _ _ hid,zqb _,fun _ _ _=>rfl,fun _ _=>rfl,fun _ _ h=>h⟩
theorem Sat.adopt{h:Heap}(A:Sat E W cx h){b sz:Nat}(hb:cx.held b)(x:AObj)(C:N8 W cx (b,0,sz) x):Sat E W (cx.adopt b sz) (h.push x) where
 nx:=by show h.next+1=cx.nx+1;rw[A.nx]
 objs id y hy:=by
  have D:=Ext0.adopt W cx b sz;by_cases hid:id=h.next
  . subst hid
    rw[Heap.get_push_eq]at hy;cases hy;rw[A.nx,Cx.adopt_new];exact⟨Nat.lt_succ_self _,(A.held b hb).2,(A.held b hb).1,C.mono0 D rfl⟩
  . rw[Heap.get_push_ne _ _ hid]at hy
    obtain⟨h1,h2,G,H⟩:=A.objs id y hy;rw[Cx.adopt_old _ _ _ h1];exact⟨Nat.lt_succ_of_lt h1,h2,G,H.mono0 D rfl⟩
 inj id id' y y' hy hy' heq:=by
  have key:∀j z,h.get j=zs z->(cx.μ j).1≠b:=fun j z hz e=>A.free j z hz (by grind)
  by_cases hid:id=h.next<;>by_cases B:id'=h.next
  . grind
  . rw[Heap.get_push_ne _ _ B]at hy'
    rw[hid,A.nx,Cx.adopt_new,Cx.adopt_old _ _ _ (A.objs id' y' hy').1]at heq;grind
  . rw[Heap.get_push_ne _ _ hid]at hy
    rw[B,A.nx,Cx.adopt_new,Cx.adopt_old _ _ _ (A.objs id y hy).1]at heq;grind
  . rw[Heap.get_push_ne _ _ hid]at hy
    rw[Heap.get_push_ne _ _ B]at hy';rw[Cx.adopt_old _ _ _ (A.objs id y hy).1,Cx.adopt_old _ _ _ (A.objs id' y' hy').1]at heq;exact A.inj id id' y y' hy hy' heq
 gl:=A.gl.mono0 (Ext0.adopt W cx b sz)
 held x C:=A.held x C.1
 free id y hy:=by
  by_cases hid:id=h.next
  . subst hid;rw[A.nx,Cx.adopt_new];exact fun hh=>hh.2 rfl
  . rw[Heap.get_push_ne _ _ hid]at hy
    rw[Cx.adopt_old _ _ _ (A.objs id y hy).1];exact fun hh=>A.free id y hy hh.1
theorem PlanX.xdst(A:PlanX ops ms l sk xs){m i:Nat}{o:Oper}(B:l[m]?=zs i)(ho:ops[i]?=zs o){x:XOp}(hx:xs[m]?=zs x):x.dst=o.dst/\x.op=o.op/\x.quiet=m7 ops.toList ms i (l.drop (m+1))/\x.careful=k9 ops.toList ms i ((l.take m).reverse++[])/\(¬sk m->x.gd=F3 ops.toList o):=by
 obtain⟨x',h1,h2⟩:=A.xat m i o B ho;grind
theorem Plan.op(A:Plan ops ms l){m i:Nat}(B:l[m]?=zs i):∃o,ops[i]?=zs o:=⟨_,zqg (A.lt m i B)⟩
theorem Inv.advance(hp:PlanX ops ms l sk xs)(hi:Inv E call ops ms l sk xs s₀ W₀ S cx₀ lis β k W cx a fr h fp){i:Nat}(hl:l[k]?=zs i)(I:lis i):
 ∃cx' fr' h' aa,Inv E call ops ms l sk xs s₀ W₀ S cx₀ lis β (k+1) W cx' a fr' h' aa:=by
 obtain ⟨o,ho⟩:=hp.op hl;have V:k<l.length:=V5 hl;obtain⟨hc3,s,x,r,h1,h2,h3,X⟩:=hi.pend k i o (zqb _) hl I ho;rw[hi.st]at h1;cases h1;obtain⟨ad,hxo,_⟩:=hp.xdst hl ho h2;have D:=La hi.st h2 h3;rw[ad]at D;have J:∀(m j:Nat),m<k+1->l[m]?=zs j->lis j:=fun m j O B=>by
  rcases zqa m k with h'|h'
  . exact hi.pre m j h' B
  grind
 have dne:∀{m j:Nat}{G:Oper}{t:Nat},k+1<=m->l[m]?=zs j->ops[j]?=zs G->G.dst=zs t->o.dst≠zs t:=fun O B C U e=>hp.dst k _ i _ o _ _ (by omega) hl B ho C e U
 rcases X with⟨X,Y,h6⟩|⟨X,Y⟩
 . refine ⟨cx,setDst o.dst r.1 fr,h,fp,?_⟩
   dsimp only at Y;rw[Y]at D;exact{
    st:=D
    kle:=V
    pre:=J
    stop:=hi.stop
    clo:=hi.clo
    sat:=hi.sat
    frep:=hi.frep
    has:=fun t=>by rw[R8];exact hi.has t
    ext:=hi.ext
    dfr:=hi.dfr
    stab:=hi.stab
    pend:=fun m j G O B A C=>(hi.pend m j G (by omega) B A C).mono (Ext.refl _ _) (fun hh=>(hi.sat.held _ hh).1) (fun _ hh=>hh) (fun t=>R8 _ _ _ _) (fun t U=>⟨rfl,rfl,rfl⟩)
    old:=fun t U=>by
     by_cases N:o.dst=zs t
     . grind[l7]
     . rw [Z6 N]
       refine hi.old t fun m j G O B A C=>?_
       rcases zqa k m with h'|h'
       . exact U m j G h' B A C
       . have:m=k:=by omega
         subst this;rw[hl]at B;cases B;rw[ho]at C;cases C;exact N
    sep:=fun m m' j j' O ab=>hi.sep m m' j j' (by omega) (by omega)}
 . obtain⟨n1,n2,n3,es,sz,nx,n4,n5,n6⟩:=Y
   rw [n4]at D;dsimp only at D n4;have H:=Ext0.adopt W cx (β k) sz;refine⟨cx.adopt (β k) sz,setDst o.dst (nx h.1.next) fr,(h.1.push (.row es sz),h.2),setDst o.dst (nx h.1.next) fp,?_⟩;exact{
    st:=D
    kle:=V
    pre:=J
    stop:=hi.stop
    clo:=hi.clo
    sat:=hi.sat.adopt n1 _ n5
    frep:=by
     cases N:o.dst with
     |none=>exact hi.frep.mono0 H
     |some t=>
      refine(hi.frep.mono0 H).setIf fun ac=>?_
      exact n6 t N ac W _ h.1.next (by rw[hi.sat.nx,Cx.adopt_new]) (by show h.1.next<cx.nx+1;rw[hi.sat.nx];omega) (hi.sat.held _ n1).1 rfl
    has:=fun t=>by rw[R8,R8];exact hi.has t
    ext:=⟨hi.ext.toExt0.trans H,fun b hb hh=>⟨⟨(hi.ext.hold b hb hh).1,fun e=>by omega⟩,(hi.ext.hold b hb hh).2⟩,hi.ext.out⟩
    dfr:=hi.dfr
    stab:=hi.stab
    pend:=fun m j G O B A C=>by
     obtain⟨p1,sm,xm,rm,p2,p3,p4,p5⟩:=hi.pend m j G (by omega) B A C;refine⟨p1,sm,xm,rm,p2,p3,p4,?_⟩;rcases p5 with⟨p5,p6,p7⟩|⟨p5,p6,p7,p8,es',ae,af,p9,HE,PW⟩
     . grind[Z6,R8]
     . refine .inr ⟨p5,⟨p6,fun e=>?_⟩,p7,p8,es',ae,af,p9,HE.mono0 H rfl,PW⟩
       have:=hi.sep m k j i (by omega) (zqb _) B hl A I p5 X e
       omega
    old:=fun t U=>by
     by_cases N:o.dst=zs t
     . rw[N,l7,l7,hi.has]
     . rw[Z6 N,Z6 N]
       refine hi.old t fun m j G O B A C=>?_
       grind
    sep:=fun m m' j j' O ab=>hi.sep m m' j j' (by omega) (by omega)}
structure Ends(E:Env)(call:C7)(ops:Array Oper)(ms l:List Nat)(sk:Nat->Prop)(xs:List XOp)(s₀:Tr×HD)(r:CRes):Prop where
 all:∃s,St E call xs s₀ l.length=zs s
 res:((∀m,¬sk m)/\∃fr' h',St E call xs s₀ l.length=zs (fr',h')/\r=.ok .normal fr' h'.1)\/
  ∃ m₀ i₀ o₀ fr' h' v hh,sk m₀/\l[m₀]?=zs i₀/\ops[i₀]?=zs o₀/\St E call xs s₀ m₀=zs (fr',h')/\guardOk (F3 ops.toList o₀) fr'=zs zt/\
    (∃n h0 n',evOp E call o₀.op fr' {h'.1 with tch:=n}=.pan v h0/\hh={h0 with tch:=n'})/\r=.pan v hh/\
    ∀m,sk m->m=m₀\/(m₀<m/\∃i,l[m]?=zs i/\bit (ms.getD i 0) i₀=zt)
theorem Ends.step{r:CRes}(A:PlanX ops ms l sk xs)(B:Ends E call ops ms l sk xs s₀ r){m:Nat}{s:Tr×HD}(hs:St E call xs s₀ m=zs s){x:XOp}(hx:xs[m]?=zs x):∃q,stp E call x s.1 s.2=zs q:=by
 have hm:m<l.length:=by
  rw[<-A.xlen];grind
 obtain⟨s1,h1⟩:=B.all;grind[AE,Zj]
end
end Go.AM
/-
 The abstract machine: a region that draws its order: the steps,in turn and ahead of it.
-/
namespace Go.AM
section
variable {P:Program}{E:Env}{call:C7}{ops:Array Oper}{ms l:List Nat}{sk:Nat->Prop}{xs:List XOp}{s₀:Tr×HD}{W₀:World}{S:Act->Prop}{cx₀:Cx}{lis:Nat->Prop}{β:Nat->Nat}{k:Nat}{W:World}{cx:Cx}{a:Act}{fr fp:Tr}{h:HD}
theorem oJ{h:Heap}{d:List Nat}{x:XOp}{v:AV}{hh:Heap}(A:evOpD E call x fr h d=.pan v hh):∃t h0 t',evOp E call x.op fr {h with tch:=t}=.pan v h0/\hh={h0 with tch:=t'}:=by
 unfold evOpD at A;have C:∀(r:Res),w9 d r=.pan v hh->r=.pan v hh:=by
  intro r B;cases r with
  |pan H h1=>cases B;rfl
  |_=>cases B
 cases G:x.quiet with
 |false=>
  rw[G]at A;simp only[cond_false]at A;cases hc:x.careful with
  |false=>
   rw[hc]at A;exact⟨h.tch,hh,hh.tch,C _ A,rfl⟩
  |true=>
   rw[hc]at A;simp only[cond_true]at A;cases D:readOk (readO E x.op fr) d with
   |false=>grind
   |true=>
    rw[D]at A;exact⟨h.tch,hh,hh.tch,C _ A,rfl⟩
 |true=>
  rw[G]at A;have A:z7 h.next h.tch d (evOp E call x.op fr {h with tch:=[]})=.pan v hh:=A;cases B:evOp E call x.op fr {h with tch:=[]}with
  |pan H h1=>rw[B]at A;cases A;grind
  |_=>rw[B]at A;cases A
theorem Plan.deps(A:Plan ops ms l){i j:Nat}(hl:l[k]?=zs i)(G:j<ops.size)(hb:bit (ms.getD i 0) j=zt):∃p,p<k/\l[p]?=zs j:=by
 have place:∀e,e<ops.size->bit (ms.getD i 0) e=zt->e≠i->∃p,p<k/\l[p]?=zs e:=by
  intro e B hbe hne;obtain⟨p,C⟩:=A.all e B;rcases zqe p k with h1|h1|h1
  . grind
  . grind
  . have:=(A.pair k p i e h1 hl C).2
    grind
 by_cases D:j=i
 . subst D
   exfalso
   obtain⟨o,ho,e,B,h1⟩:=A.mask j j G G hb;obtain⟨h2,I,H⟩:=A.edge j o e ho B;rcases h1 with h1|h1
   . exact H h1
   . obtain⟨p,J,N⟩:=place e h2 I H
     have:=(A.pair p k e j J N hl).2
     grind
 grind
theorem Inv.due(hE:EnvOk E P)(B:Fu E P call)(X:PlanX ops ms l sk xs)(hi:Inv E call ops ms l sk xs s₀ W₀ S cx₀ lis β k W cx a fr h fp){i:Nat}(hl:l[k]?=zs i)(hn:¬lis i){r:CRes}(I:Ends E call ops ms l sk xs s₀ r)
 {K:Act->World->Prop}{Q:Exit->Act->World->Prop}(hK:∀a' W' β' cx' fr' h' ag,Inv E call ops ms l sk xs s₀ W₀ S cx₀ (fun j=>lis j\/j=i) β' (k+1) W' cx' a' fr' h' ag->K a' W')(hQ:∀x a' w',r.Post E W₀ cx₀ S x a' w'->Q x a' w'):wpOp P ops Q i K a W:=by
 obtain ⟨o,ho⟩:=X.op hl;obtain⟨x,hx,_⟩:=X.xat k i o hl ho;obtain⟨ak,al,hxq,hxc,ad⟩:=X.xdst hl ho hx;have C:∀j,j<ops.size->bit (ms.getD i 0) j=zt->lis j:=fun j hj hb=>by
  obtain⟨p,h1,h2⟩:=X.deps hl hj hb;exact hi.pre p j h1 h2
 have D:=hi.looks X (zqb _) hl ho hn C (.inl rfl) hi.st;have hg:=Hz D;have aa:=Wm (E:=E) D;have ai:k<l.length:=V5 hl;have ab:∀(q j:Nat),q<k+1->l[q]?=zs j->lis j\/j=i:=fun q j hq ah=>by
  rcases zqa q k with h'|h'
  . exact .inl (hi.pre q j h' ah)
  grind
 have next:¬sk k->∀{v':Value}{W':World}{cx':Cx}{v:AV}{h':HD},stp E call x fr h=zs (v,h')->Ext W cx W' cx'->Sat E W' cx' h'.1->Rep W' cx' v' v->K (a.put o.dst v') W':=by
  intro A v' W' cx' v h' J he N hv;have ac:=La hi.st hx J;rw[ak]at ac;refine hK _ _ β cx' (setDst o.dst v fr) h' (setDst o.dst v fp) (hi.more X A (zqb _) hl ho hn C he (fun b hh hw=>(N.held b (he.hold b (hi.sat.held b hh).1 hh).1).2) hv ac (.inr ⟨rfl,rfl⟩) ai ab N (fun t ht=>Z6 ht) (fun _ _=>rfl) (fun t=>R8 _ _ _ _) (fun Y=>absurd Y (by omega)) (fun Y=>absurd Y (by omega)) fun _ t ht=>?_);rw[ht,l7,l7,hi.has]
 unfold wpOp;simp only[ho];by_cases A:sk k
 . rcases I.res with⟨hno,_⟩|⟨m₀,O,o₁,fr',h',v,hh,G,H,ae,U,hgt,⟨n,h0,n',V,rfl⟩,hr,af⟩
   . grind
   . have aj:k=m₀:=by
      rcases af k A with h|⟨an,_⟩
      . exact h
      . exact absurd (hi.pre m₀ O an H) (hi.stop m₀ O G H)
     subst aj;rw[hl]at H;cases H;rw[ho]at ae;cases ae;rw[hi.st]at U;cases U;have hw:=O4 (ops:=ops) hi.frep o (b:=zt) (by grind);rw[hw];rw[<-Ac o.op aa]at V;refine .inl (Ky hE (hi.sat.low n) hi.frep B o (by grind) (fun v2 h2 v' W' cx' e h3 h4 h5=>?_) (fun v2 h2 v' W' cx' e h3 h4 h5=>?_))
     . grind
     . rw[V]at e;cases e
       refine hQ _ _ _ ?_;rw[hr];exact⟨hi.dfr,cx',hi.ext.trans h3,v',rfl,h4.low n',h5⟩
 . have hxg:=ad A
   obtain⟨⟨v,h'⟩,J⟩:=I.step X hi.st hx;have G:=J;unfold stp at J;cases ao:guardOk x.gd fr with
   |none=>grind
   |some b=>
    dsimp only at J;rw[ao]at J;have hw:=O4 (ops:=ops) hi.frep o (b:=b) (by grind);rw[hw];cases b with
    |false=>
     cases J;exact next A G (Ext.refl _ _) hi.sat (show Rep W cx undef skipped from .tup #[] [] rfl (by simp))
    |true=>
     obtain⟨n,h₁,n',h1,am,_⟩:=Lc (Je J);rw[al,<-Ac o.op aa]at h1;refine .inl (Ky hE (hi.sat.low n) hi.frep B o (fun e=>by grind) (fun v2 h2 v' W' cx' e h3 h4 h5=>?_) (fun v2 h2 v' W' cx' e h3 h4 h5=>?_))
     . rw[h1]at e;cases e
       exact next A G h3 (by rw[am];exact h4.low n') h5
     grind
theorem oK{op:Op}(hc:Hu op≠3){v:AV}{hh:Heap}:evOp E call op fr h.1≠.pan v hh:=by
 refine Ru (fun x e=>?_) (fun c f e e2=>?_) v hh
 . subst e;exact hc rfl
 . subst e
   obtain⟨callee,args,argTypes⟩:=c;dsimp only at e2;subst e2;exact hc rfl
theorem Inv.early(hE:EnvOk E P)(al:Fu E P call)(am:N9 call)(O:PlanX ops ms l sk xs)(hi:Inv E call ops ms l sk xs s₀ W₀ S cx₀ lis β k W cx a fr h fp){m i i₀:Nat}(hk:k<m)(hl:l[m]?=zs i)(hn:¬lis i)(C:l[k]?=zs i₀)(aa:¬lis i₀)
 (hdeps:∀j,j<ops.size->bit (ms.getD i 0) j=zt->lis j){r:CRes}(hend:Ends E call ops ms l sk xs s₀ r)
 {K:Act->World->Prop}{Q:Exit->Act->World->Prop}(hK:∀a' W' β' cx' fr' h' be,Inv E call ops ms l sk xs s₀ W₀ S cx₀ (fun j=>lis j\/j=i) β' k W' cx' a' fr' h' be->K a' W'):wpOp P ops Q i K a W:=by
 obtain ⟨o,ho⟩:=O.op hl;obtain⟨o₀,ax⟩:=O.op C;obtain⟨x,hx,_⟩:=O.xat m i o hl ho;obtain⟨hxd,a5,hxq,bk,a6⟩:=O.xdst hl ho hx;have ac:∀{p j:Nat},l[p]?=zs j->¬lis j->bit (ms.getD i 0) j=zf:=fun{p j} bf bg=>by
  cases hb:bit (ms.getD i 0) j with
  |false=>rfl
  |true=>exact absurd (hdeps j (O.lt p j bf) hb) bg
 have aq:Hu o.op≠3:=(O.apart hk C hl ax ho (ac C aa)).1;have ar:¬sk m:=fun hs=>by
  rcases hend.res with⟨hno,_⟩|⟨m₀,i₁,o₁,fr',h',v,hh,ah,ai,ba,hst1,hgt,⟨n,h0,n',bb,_⟩,_,bc⟩
  . grind
  . rcases bc m hs with rfl|⟨V,j,hj,hb⟩
    . rw[hl]at ai;cases ai
      rw[ho]at ba;cases ba;exact oK (h:=(_,[])) aq bb
    . rw[hl]at hj;cases hj
      exact hi.stop m₀ i₁ ah ai (hdeps i₁ (O.lt m₀ i₁ ai) hb)
 have hxg:=a6 ar;have af:∃s,St E call xs s₀ m=zs s:=by
  obtain⟨s,h1⟩:=hend.all;exact AE h1 (zqd (V5 hl))
 obtain ⟨⟨D,Y⟩,B⟩:=af;have ad:=hi.looks O (zqd hk) hl ho hn hdeps (.inr ⟨i₀,C,aa⟩) B;have hg:=Hz ad;have au:=Wm (E:=E) ad;have ag:x.quiet=zf:=by
  grind[m7,clsAt,Heap.beq_false]
 have av:∃q,stp E call x D Y=zs q:=hend.step O B hx;obtain⟨⟨v,G⟩,hs⟩:=av;have ah:=hs;have aj:∀(q j:Nat),q<k->l[q]?=zs j->lis j\/j=i:=fun q j hq bh=>.inl (hi.pre q j hq bh)
 have plain:∀{v':Value}{W':World}{cx':Cx},¬Kc E call xs s₀ m->G=Y->Ext W cx W' cx'->Sat E W' cx' h.1->Rep W' cx' v' v->K (a.put o.dst v') W':=by
  intro v' W' cx' A az he J hv;refine hK _ _ β cx' fr h (setDst o.dst v fp) (hi.more O ar (zqd hk) hl ho hn hdeps he (fun b hh hw=>(J.held b (he.hold b (hi.sat.held b hh).1 hh).1).2) hv hi.st (.inl rfl) hi.kle aj J (fun _ _=>rfl) (fun _ _=>rfl) (fun _=>rfl)
   (fun _=>⟨aq,(D,Y),x,(v,G),B,hx,ah,.inl ⟨A,az,fun t ht=>?_⟩⟩) (fun _ an=>absurd an A) fun ao=>absurd ao (by omega))
  rw[ht,l7,hi.has]
 unfold wpOp;simp only[ho];unfold stp at hs;cases ay:guardOk x.gd D with
 |none=>grind
 |some b=>
  rw[ay]at hs;have hw:=O4 (ops:=ops) hi.frep o (b:=b) (by grind);rw[hw];cases b with
  |false=>
   cases hs;refine plain (fun A=>?_) rfl (Ext.refl _ _) hi.sat (show Rep W cx undef skipped from .tup #[] [] rfl (by simp));obtain⟨s,x',h1,h2,h3,_⟩:=A;rw[B]at h1;cases h1;rw[hx]at h2;cases h2;dsimp only at h3;rw[ay]at h3;cases h3
  |true=>
   obtain⟨n,h₁,n',h1,h2,_,h3⟩:=Lc (Je hs);obtain⟨rfl,rfl,a7,a9⟩:=h3 ag;have h1:evOp E call x.op D Y.1=.ok v h₁:=h1;have h2:G.1=h₁:=h2;subst h2;have hmm:G=(G.1,Y.2):=by obtain⟨q1,q2⟩:=G;dsimp only at a7|-;rw[a7]
   rw [a5]at h1;have hnewIff:Hu o.op≠2->¬Kc E call xs s₀ m:=fun bi A=>by
    obtain⟨s,x',_,k2,_,k4⟩:=A;grind
   have run:Hu o.op≠2->G.1=Y.1->evOp E call o.op fp h.1=.ok v h.1->o.wp P a W K Q:=by
    intro bi az he;refine Ky hE hi.sat hi.frep al o (fun e=>by grind) (fun v2 h2 v' W' cx' e h3 h4 h5=>?_) (fun v2 h2 v' W' cx' e h3 h4 h5=>?_)
    . grind
    grind
   rcases cls_cases o.op with hc|hc|hc|hc
   . obtain⟨h4,h5⟩:=Ng hc h1 h.1
     grind[Ac]
   . obtain ⟨nn,rfl⟩:∃nn,m=k+nn:=⟨m-k,by omega⟩
     have a0:∀(p j:Nat)(N:Oper),k<=p->p<k+nn->l[p]?=zs j->ops[j]?=zs N->Hu N.op=3->bit (ms.getD i 0) j=zf:=fun p j N ab ae U H I =>
      ac U fun ap=>(hi.pend p j N ab U ap H).1 I
     have a1:clsAt ops.toList i=1:=by grind[clsAt]
     have ak:∀{j:Nat}{N:Oper},ops[j]?=zs N->Hu N.op=3->clsAt ops.toList j=3:=(by grind[Go.AM.clsAt])
     have hreads:∀id,readO E o.op fp=zs id->h.1.get id=Y.1.get id:=by
      intro id hid;have V:id<h.1.next:=by rw[hi.sat.nx];exact sP (W:=W) (cx:=cx) (fun y _=>⟨_,X5 hi.sat hi.frep y⟩) hid
      by_cases bl:∃(p j:Nat)(N:Oper),k<=p/\p<k+nn/\l[p]?=zs j/\ops[j]?=zs N/\Hu N.op=3
      . obtain ⟨p,j,N,ab,ae,U,H,I⟩:=bl
        have hkeep:=(lM O am hi.st nn (D,Y) B fun p j N ab ae U H I=>by
         unfold m7;rw[ak H I,zqk];refine⟨rfl,List.any_eq_true.2 ⟨i,?_,?_⟩⟩
         . have:(l.drop (p+1))[k+nn-(p+1)]?=zs i:=by rw[List.getElem?_drop];rw[show p+1+(k+nn-(p+1))=k+nn by omega];exact hl
           grind
         . rw[a1,a0 p j N ab ae U H I];rfl).2.2
        have X:x.careful=zt:=by
         rw[bk];unfold k9;rw[a1,zqk];refine⟨rfl,List.any_eq_true.2 ⟨j,?_,?_⟩⟩
         . rw[List.append_nil,List.mem_reverse]
           have:(l.take (k+nn))[p]?=zs j:=by grind
           grind
         . rw[ak H I,a0 p j N ab ae U H I];rfl
        have aw:=a9 X;rw[a5,<-dO o.op au,hid]at aw;have hni:id∉Y.2:=Xa (by
         have aw:(!(rA id Y.2))=zt:=aw;grind)
        grind
      . exact((dP O hi.st nn (D,Y) B (by grind)).get id V).symm
     rw[<-Ac o.op au]at h1;grind[iW]
   . rw [← Ac o.op au]at h1
     obtain⟨es,sz,nx,h4,h5,_,c,t,vs,v',h6,h7,h8,h9,h10⟩:=sQ hE hi.sat hi.frep o hc h1;refine .inl ?_;unfold Oper.wp;rw[h6];show K (a.put o.dst v') (W.alloc (.cells c t))
     have A:Kc E call xs s₀ m:=⟨(D,Y),x,B,hx,ay,by grind⟩
     have he:Ext W cx (W.alloc (.cells c t)) ⟨cx.μ,cx.nx,fun y=>cx.own y\/y=W.heap.size,fun y=>cx.held y\/y=W.heap.size⟩:=
      ⟨⟨zqb _,fun _ _=>rfl,by simp,fun b hb _=>heap_alloc_old W _ hb,(by grind[Go.AM.szOf,Go.AM.heap_alloc_old]),(by grind)⟩,
        (by grind[Go.AM.heap_alloc_old]),rfl,rfl,rfl⟩
     have J:Sat E (W.alloc (.cells c t)) ⟨cx.μ,cx.nx,fun y=>cx.own y\/y=W.heap.size,fun y=>cx.held y\/y=W.heap.size⟩ h.1:=
      ⟨hi.sat.nx,fun id y hy=>by
        obtain⟨k1,k2,k3,k4⟩:=hi.sat.objs id y hy;exact⟨k1,.inl k2,zqf k3 he.sz,k4.mono he (heap_alloc_old W _ k3)⟩,
        hi.sat.inj,hi.sat.gl.mono he,fun b hb=>by
         rcases hb with hb|rfl
         . exact⟨zqf (hi.sat.held b hb).1 he.sz,.inl (hi.sat.held b hb).2⟩
         . exact⟨by simp,.inr rfl⟩,
        fun id y hy hh=>by
         rcases hh with hh|hh
         . exact hi.sat.free id y hy hh
         . have k3:(cx.μ id).1<W.heap.size:=(hi.sat.objs id y hy).2.2.1
           grind⟩
     refine hK _ _ (fun q=>if q=m then W.heap.size else β q) _ fr h (setDst o.dst .und fp) (hi.more O ar (zqd hk) hl ho hn hdeps he (fun b hh hw=>.inl hw) (Rep.und v') hi.st (.inl rfl) hi.kle aj J (fun _ _=>rfl) (fun q hq=>if_neg hq) (fun _=>rfl)
      (fun _=>⟨aq,(D,Y),x,(v,G),B,hx,ah,.inr ⟨A,?_⟩⟩) (fun _ _ b hb=>?_) fun ao=>absurd ao (by omega))
     . rw [if_pos rfl]
       refine⟨.inr rfl,.inr rfl,hi.ext.sz,es,sz,nx,by grind,?_,fun t' bj V W₂ cx₂ id k1 k2 k3 k4=>?_⟩
       . exact N8.mk (t:=t) rfl (J6 W _) (by grind) (by grind) (h7.mono he)
       . have e:(a.put o.dst v').tmps.getD t' undef=v':=by
          rw[bj]at V|-;have V:t'<(a.tmps.setIfInBounds t' v').size:=V;have a4:t'<a.tmps.size:=by grind
          show(a.tmps.setIfInBounds t' v').getD t' undef=v'
          simp[Array.getD,a4]
         grind[Sg]
     . show(if m=m then W.heap.size else β m)≠b
       rw[if_pos rfl]
       have:=(hi.sat.held b hb).1
       omega
   grind
end
end Go.AM
/-
 The abstract machine: what is shown of plain frames holds of a round's frames too (no operation of a region may defer).
-/
namespace Go.AM
def WF(ro:Option Nat):Fence:={Fence.wide with round:=ro}
theorem Kd{ro:Option Nat}{n:Nat}{P:Program}{f:FuncId}{args:Array Value}{w:World}{R:Ending->World->Prop}:CallsIn (WF ro) n P f args w R↔Calls P f args w R:=
 (show CallsIn (WF ro) n P f args w R↔CallsIn Fence.wide n P f args w R from Iff.rfl).trans callsIn_wide
section
variable {ro:Option Nat}{P:Program}{ops:Array Oper}{Q:Exit->Act->World->Prop}
def Qz(o:Oper):Prop:=∀c,o.op≠.defer c
theorem op_in{o:Oper}(A:Qz o){a:Act}{w:World}{K:Act->World->Prop}(h:o.wp P a w K Q):o.wpIn (WF ro) 0 P a w K Q:=by
 refine⟨fun _ _=>trivial,?_⟩;rw[Oper.semAt_eq _ _ _ A];unfold Oper.wp at h;generalize (execOp a.eval o).run P w=r at h;cases r with
 |ok x w'=>
  cases x with
  |value v=>exact h
  |skip=>exact h
  |defer d=>exact h
  |enter f args=>
   refine⟨fun h=>by simp[WF,Fence.wide]at h,Kd.2 ?_⟩;exact Calls.mono h fun e w' hp=>by grind
  |row r args=>
   refine⟨fun h=>by simp[WF,Fence.wide]at h,fun c cs _=>?_⟩;obtain⟨v,w',h1,h2⟩:=h c cs;exact⟨v,w',h1,(stepsIn_wide (P:=P)).2 h2⟩
  |_=>exact h.elim
 |halt x w'=>cases x<;>exact h
theorem Ke(hl:¬LetsOut Q):∀(l:List Oper),(∀o∈l,Qz o)->∀(a:Act)(w:World),wpList P ops Q l a w->wpListIn (WF ro) 0 P ops Q l a w
 |[],_,a,w,h=>h
 |o :: l,hn,a,w,h=>by
  unfold wpList at h;unfold wpListIn;split
  . rename_i A
    rw[if_pos A]at h;rcases h with h|⟨_,h⟩
    . exact Oper.wpIn_mono (fun a w h=>Ke hl l (by grind) a w h) (by grind[Go.AM.op_in])
    grind
  . rename_i A
    rw[if_neg A]at h;exact⟨fun _ _=>trivial,Ke hl l (by grind) _ w h⟩
theorem Yr(hl:¬LetsOut Q)(hn:∀(i:Nat)(o:Oper),ops[i]?=zs o->Qz o){D:Region.Mode}:∀(B:Nat)(A:Array Bool)(a:Act)(w:World),wpAny P D ops Q B A a w->wpAnyIn (WF ro) 0 P D ops Q B A a w
 |0,A,a,w,h=>h
 |B+1,A,a,w,h=>by
  refine⟨h.1,fun i hi=>?_⟩;have h:=h.2 i hi;unfold wpOp at h;unfold wpOpIn;cases ho:ops[i]? with
  |none=>rw[ho]at h;exact Yr hl hn B _ a w h
  |some o=>
   rw[ho]at h;dsimp only at h|-;split
   . rename_i C
     rw[if_pos C]at h;rcases h with h|⟨_,h⟩
     . exact Oper.wpIn_mono (fun a w h=>Yr hl hn B _ a w h) (op_in (hn i o ho) h)
     grind
   . rename_i C
     rw[if_neg C]at h;exact⟨fun _ _=>trivial,Yr hl hn B _ _ w h⟩
theorem oL{id:Nat}{a:Act}{w:World}(hl:¬LetsOut Q)(hn:∀o∈ops.toList,Qz o)(h:wpList P ops Q ops.toList a w):(Code.region id ops zf).wpIn (WF ro) 0 P Q a w:=
 wpIn_region_list (Ke hl _ hn a w h)
theorem iB{F:Fence}{n:Nat}{c:Code}{a:Act}{w:World}(h:c.wpIn F n P (Exit.noGoto Q) a w):(Code.scope c).wpIn F n P Q a w:=by
 intro b k cs I hb J;have h0:(lone (b.atR a (.code (.scope c)::k)) cs w).fenced P F:=fenced_calm hb J rfl;have G:Go.step P (lone (b.atR a (.code (.scope c)::k)) cs w)=.next (lone (b.atR a (.code c::.inScope c::k)) cs w):=step_lone_go (by simp[stepG,stepG.exec,Frame.atR]);obtain⟨e,A,B,H,C⟩:=h b (.inScope c::k) cs I hb J;cases e with
 |normal=>
  have s2:Go.step P (lone (b.atR A (.inScope c::k)) cs B)=.next (lone (b.atR A k) cs B):=step_lone_go (by simp[stepG,stepG.exec,Frame.atR]);exact⟨.normal,A,B,H,.head h0 G (StepsIn.trans C (.one (fenced_calm hb J rfl) s2))⟩
 |exit id=>
  exact ⟨.exit id,A,B,H,fun k' N=>.head h0 G (C.1 k' (by simp[exitTo,N])),
   fun O N=>let⟨D,h1,h2⟩:=C.2 O (by simp[exitTo,N]);⟨D,h1,.head h0 G h2⟩⟩
 |goto l=>exact H.elim
 |_=>exact⟨_,A,B,H,.of_steps (.one h0 G) C⟩
end
end Go.AM
/-
 The abstract machine: maps.DeleteFunc and slices.Sorted at a map's keys,told of: what their outcome is.
-/
namespace Go.AM
section
variable {E:Env}{ih:D9}
end
end Go.AM
/-
 The abstract machine: a region that draws its order is sound; and what all calls leave as it was.
-/
namespace Go.AM
section
variable {P:Program}{E:Env}{call:C7}{ops:Array Oper}{ms l:List Nat}{sk:Nat->Prop}{xs:List XOp}{s₀:Tr×HD}{W₀:World}{S:Act->Prop}{cx₀:Cx}
def LisOf(A:Array Bool)(i:Nat):Prop:=A[i]?=zs zt
theorem Inv.far(D:PlanX ops ms l sk xs){lis:Nat->Prop}{β:Nat->Nat}{W:World}{a:Act}:∀(n k:Nat){cx:Cx}{fr fp:Tr}{h:HD},l.length-k=n->Inv E call ops ms l sk xs s₀ W₀ S cx₀ lis β k W cx a fr h fp ->
 ∃k' cx' fr' h' A,Inv E call ops ms l sk xs s₀ W₀ S cx₀ lis β k' W cx' a fr' h' A/\(k'=l.length\/∃i,l[k']?=zs i/\¬lis i)
 |0,k,cx,fr,fp,h,hn,hi=>⟨k,cx,fr,h,fp,hi,.inl (by have:=hi.kle;omega)⟩
 |n + 1,k,cx,fr,fp,h,hn,hi=>by
  have G:k<l.length:=by omega
  have hl:l[k]?=zs l[k]:=List.getElem?_eq_getElem G;by_cases B:lis l[k]
  . obtain⟨cx',fr',h',A,C⟩:=hi.advance D hl B
    exact Inv.far D n (k+1) (by omega) C
  grind
theorem Inv.done(hp:PlanX ops ms l sk xs){lis:Nat->Prop}{β:Nat->Nat}{W:World}{a:Act}{cx:Cx}{fr fp:Tr}{h:HD}{r:CRes}(hi:Inv E call ops ms l sk xs s₀ W₀ S cx₀ lis β l.length W cx a fr h fp)(C:Ends E call ops ms l sk xs s₀ r):r.Post E W₀ cx₀ S .normal a W:=by
 rcases C.res with⟨_,fr',h',h1,rfl⟩|⟨m₀,A,o₁,fr',h',v,hh,D,B,_⟩
 . rw[hi.st]at h1
   cases h1;refine⟨hi.dfr,cx,hi.ext,rfl,hi.sat,fun t=>?_,fun t G=>hi.frep.has t (by rw[hi.has];exact G)⟩;rw[<-hi.old t (by grind)];exact hi.frep.rep t
 . exact absurd (hi.pre m₀ A (V5 B) B) (hi.stop m₀ A D B)
theorem Mu{A:Array Bool}(hsz:A.size=ops.size){i:Nat}:i∈Region.ready .any ops A↔i<ops.size/\¬LisOf A i/\∃o,ops[i]?=zs o/\∀e∈directs o,LisOf A e:=by
 unfold Region.ready;rw[List.mem_filter,List.mem_range]
 constructor
 . rintro ⟨h1,h2⟩
   rw[zqk]at h2;obtain⟨h2,B⟩:=h2;have ho:ops[i]?=zs ops[i]:=zqg h1;have C:i<A.size:=by grind
   refine⟨h1,fun e=>?_,ops[i],ho,fun e I=>?_⟩
   . grind[LisOf,zqh]
   . rw[ho]at B
     simp only[Option.map_some,Option.getD_some]at B;unfold directs at I;obtain⟨d,J,rfl⟩:=List.mem_map.1 I;obtain⟨G,H⟩:=List.mem_filter.1 J;rw[<-zqi]at B;have D:=(List.all_eq_true.1 B) d G;rw[H]at D;simp only[Bool.not_true,Bool.false_or]at D;unfold LisOf;rw[zqh]at D;grind
 . rintro ⟨h1,h2,o,ho,B⟩
   have C:i<A.size:=by grind
   refine⟨h1,?_⟩;rw[zqk]
   constructor
   . simp_all[LisOf]
   . rw [ho]
     simp only[Option.map_some,Option.getD_some];rw[<-zqi];refine List.all_eq_true.2 fun d J=>?_
     cases hb:Region.binds .any d with
     |false=>rfl
     |true=>
      have:=B d.on (by unfold directs;grind)
      simp_all[LisOf]
theorem oM(hE:EnvOk E P)(J:Fu E P call)(V:N9 call)(H:PlanX ops ms l sk xs){r:CRes}(I:Ends E call ops ms l sk xs s₀ r){Q:Exit->Act->World->Prop}(hQ:∀x X w',r.Post E W₀ cx₀ S x X w'->Q x X w'):
 ∀ (B:Nat) (A:Array Bool) (a:Act) (W:World) (C:List Nat),A.size=ops.size->C.length<=B->(∀i,i<ops.size->¬LisOf A i->i∈C) ->
   (∃β k cx fr h fp,Inv E call ops ms l sk xs s₀ W₀ S cx₀ (LisOf A) β k W cx a fr h fp)->wpAny P .any ops Q B A a W:=by
 intro B
 induction B with
 |zero=>
  intro A a W C hsz ag N D;have ah:C=[]:=(by grind)
  have ai:∀i,i<ops.size->LisOf A i:=(by grind)
  obtain⟨β,k,cx,fr,h,fp,hi⟩:=D;obtain⟨k',cx',fr',h',am,G,U⟩:=Inv.far H _ k rfl hi;refine⟨?_,?_⟩
  . cases hr:Region.ready .any ops A with
    |nil=>rfl
    |cons x xs=>
     grind[List.mem_cons_self,Mu]
  . rcases U with rfl|⟨i,hl,hn⟩
    . exact hQ _ _ _ (G.done H I)
    . exact absurd (ai i (H.lt _ i hl)) hn
 |succ B ih=>
  intro A a W C hsz ag N D;obtain⟨β,k,cx,fr,h,fp,hi⟩:=D;obtain⟨k',cx',fr',h',am,G,U⟩:=Inv.far H _ k rfl hi;have step:∀{i:Nat},i<ops.size->¬LisOf A i->∀(X:Act)(W':World)(Y:Nat->Nat)(k2:Nat)(aa:Cx)(ab:Tr)(h2:HD)(ac:Tr),
   Inv E call ops ms l sk xs s₀ W₀ S cx₀ (fun j=>LisOf A j\/j=i) Y k2 W' aa X ab h2 ac->wpAny P .any ops Q B (A.setIfInBounds i zt) X W':=by
   intro i hi hn X W' Y k2 aa ab h2 ac D;have al:(fun j=>LisOf A j\/j=i)=LisOf (A.setIfInBounds i zt):=by
    grind[LisOf]
   rw[al]at D;have hmem:=N i hi hn;refine ih (A.setIfInBounds i zt) X W' (C.erase i) (by grind) (by grind) (fun j hj hnj=>?_) ⟨Y,k2,aa,ab,h2,ac,D⟩;grind
  refine⟨fun ah=>?_,fun i O=>?_⟩
  . rcases U with rfl|⟨i,hl,hn⟩
    . exact hQ _ _ _ (G.done H I)
    . exfalso
      obtain⟨o,ho⟩:=H.op hl
      have:i∈Region.ready .any ops A:=(Mu hsz).2 ⟨H.lt _ i hl,hn,o,ho,fun e he=>by
       obtain⟨h1,h2,_⟩:=H.edge i o e ho he;obtain⟨p,h3,h4⟩:=H.deps hl h1 h2;exact G.pre p e h3 h4⟩
      grind
  . obtain ⟨h1,h2,o,ho,h3⟩:=(Mu hsz).1 O
    obtain ⟨m,hm⟩:=H.all i h1;have hkm:k'<=m:=by
     rcases zqa m k' with h'|h'
     . exact absurd (G.pre m i h' hm) h2
     . exact h'
    rcases U with rfl|⟨i₀,ae,af⟩
    . grind
    . rcases zqa k' m with an|hge
      . have ad:∀j,j<ops.size->bit (ms.getD i 0) j=zt->LisOf A j:=fun j hj hb=>by
         obtain⟨o',ak,e,he,h4⟩:=H.mask j i hj h1 hb;rw[ho]at ak;cases ak;have aj:=h3 e he;rcases h4 with rfl|h4
         . exact aj
         . exact G.clo j e hj (H.edge i o e ho he).1 aj h4
        exact G.early hE J V H an hm h2 ae af ad I (Q:=Q) (by grind)
      . have:k'=m:=by omega
        subst this;exact G.due hE J H hm h2 I (Q:=Q) (by grind) hQ
end
theorem rR{E:Env}{W:World}{cx:Cx}{S:Act->Prop}{r:CRes}:¬LetsOut (r.Post E W cx S):=by
 rintro⟨a,w,hd,cx',he,h⟩
 cases r with
 |ok e fr h'=>obtain⟨h1,_⟩:=h;cases e<;>cases h1
 |pan v h'=>grind
 |bad=>exact h
theorem oN{E:Env}{call:C7}{ops:Array Oper}{ms l:List Nat}(D:Plan ops ms l){fr:Tr}{h:Heap}(hb:evOpsD E call (Av ops.toList ms [] l) fr h []≠.bad):
 ∃sk xs,PlanX ops ms l sk xs/\Ends E call ops ms l sk xs (fr,(h,[])) (evOpsD E call (Av ops.toList ms [] l) fr h []):=by
 have B:(Av ops.toList ms [] l).length=l.length:=Om l [] D.have;rcases run_cases (E:=E) (call:=call) (xs:=Av ops.toList ms [] l) (s₀:=(fr,(h,[]))) _ 0 rfl (Nat.zero_le _) fr (h,[]) rfl (by rw[List.drop_zero];exact hb)with⟨fr',h',h1,h2⟩|⟨m,x,fr',h',v,hh,_,h1,h2,h3,h4,h5,h6⟩
 . rw[List.drop_zero]at h2
   rw[B]at h1;refine⟨fun _=>False,Av ops.toList ms [] l,⟨D,B,fun m i o N ho=>⟨_,D.xget N ho,rfl,rfl,rfl,rfl,fun _=>rfl⟩⟩,⟨⟨_,h1⟩,(by grind)⟩⟩
 . rw [List.drop_zero]at h6
   have N:m<l.length:=by
    grind
   have hl:l[m]?=zs l[m]:=List.getElem?_eq_getElem N;have ho:ops[l[m]]?=zs (ops[l[m]]'(D.lt m _ hl)):=zqg _;generalize l[m]=i₀ at hl ho;generalize (ops[i₀]'_)=o₀ at ho;have G:=D.xget hl ho;rw[h2]at G;have G:=Option.some.inj G;have hlate:x.late=Nb ops.toList ms i₀ (l.drop (m+1)):=by rw[G];rfl
   have hgd:x.gd=F3 ops.toList o₀:=by rw[G];rfl
   have hop:x.op=o₀.op:=by rw[G];rfl
   let A:List Bool:=List.replicate m zf++zt::x.late;have f1:∀q,q<m->A[q]?=zs zf:=(by grind)
   have X:A[m]?=zs zt:=by
    grind
   have f3:∀q,A[m+1+q]?=x.late[q]?:=(by grind)
   have H:=dL (Av ops.toList ms [] l) A;refine⟨fun q=>A[q]?=zs zt,Zk (Av ops.toList ms [] l) A,⟨D,(dK _ _).trans B,fun q i o O U=>⟨_,H q _ (D.xget O U),?_,?_,?_,?_,fun hn=>?_⟩⟩,?_⟩
   . split<;>rfl
   . split<;>rfl
   . split<;>rfl
   . split<;>rfl
   . rw[if_neg hn];rfl
   . have I:St E call (Zk (Av ops.toList ms [] l) A) (fr,(h,[])) m=zs (fr',h'):=by
      rw[dM m fun q O=>?_]
      . exact h1
      . cases hy:(Av ops.toList ms [] l)[q]? with
        |none=>
         grind
        |some y=>simp_all
     have J:=La I (x:=Rz x) (by grind) (Wz x fr' h');have C:=Lb (ys:=Zk (Av ops.toList ms [] l) A) ((Av ops.toList ms [] l).drop (m+1)) x.late (m+1) _ h' h5 (by simp_all) J;rw[List.length_drop,B,show m+1+(l.length-(m+1))=l.length by omega]at C;obtain⟨n,h0,n',hpan,hhh⟩:=oJ h4;refine⟨C,.inr ⟨m,i₀,o₀,fr',h',v,hh,X,hl,ho,I,by grind,(by grind),h6,fun q O=>?_⟩⟩;rcases zqe q m with hlt|rfl|V
     . grind
     . grind
     . refine .inr ⟨V,?_⟩
       obtain⟨r,rfl⟩:∃r,q=m+1+r:=⟨q-(m+1),by omega⟩
       grind[Nb]
theorem iC{P:Program}{E:Env}{W:World}{cx:Cx}{h:Heap}(hE:EnvOk E P)(J:Sat E W cx h){a:Act}{fr:Tr}(hf:FrRep W cx a.tmps fr){S:Act->Prop}(N:S a){call:C7}(B:Fu E P call)(C:N9 call){id:Nat}{ops:Array Oper}{l:List Nat}
 (hst:∀(i:Nat)(o:Oper),ops[i]?=zs o->Kx S o.dst){ro:Option Nat}(hn:∀(i:Nat)(o:Oper),ops[i]?=zs o->Qz o)(hok:Na ops.toList (Fm ops.toList) l=zt)(hb:evOpsD E call (Av ops.toList (Fm ops.toList) [] l) fr h []≠.bad):
 (Code.region id ops zt).wpIn (WF ro) 0 P ((evOpsD E call (Av ops.toList (Fm ops.toList) [] l) fr h []).Post E W cx S) a W:=by
 have U:=xM hok;refine wpIn_region_any hE.mixed (Yr rR hn _ _ _ _ ?_);have I:Ext W cx {W with drawn:=W.drawn+1} cx:=Ext.of_heap rfl ⟨rfl,rfl,rfl⟩;obtain⟨sk,xs,H,D⟩:=oN U hb;have A:∀i,¬LisOf (zqj ops.size zf) i:=(by grind[Go.AM.LisOf])
 refine oM (W₀:=W) (cx₀:=cx) hE B C H D (fun x a' w' O=>O) ops.size (zqj ops.size zf) a _ (List.range ops.size) (by simp) (by simp) (fun i hi _=>List.mem_range.2 hi) ?_;exact⟨fun _=>0,0,cx,fr,(h,[]),fr,{
  st:=rfl
  kle:=Nat.zero_le _
  pre:=(by grind)
  stop:=fun m i _ _ G=>absurd G (A i)
  clo:=fun i j _ _ G=>absurd G (A j)
  sat:=J.mono rfl
  frep:=hf.mono I
  has:=fun _=>rfl
  ext:=I
  dfr:=N
  stab:=hst
  pend:=fun m i o _ _ hi=>absurd hi (A i)
  old:=fun _ _=>rfl
  sep:=(by grind)}⟩
def CRes.heap(r:CRes):Option Heap:=match r with | .ok _ _ h=>zs h | .pan _ h=>zs h | .bad=>zn
def cR(ih:D9):Prop:=∀c fr h h',CRes.heap (ih c fr h)=zs h'->Pres h h'
theorem Fd{E:Env}{call:C7}(B:N9 call):∀(xs:List XOp)(fr:Tr)(h:Heap)(h':Heap),CRes.heap (H1 E call xs fr h)=zs h'->Pres h h'
 |[],fr,h,h',A=>by cases A;exact .refl h
 |x :: xs,fr,h,h',A=>by
  have A:CRes.heap (onOB (guardOk x.gd fr) .bad (Y1 x.dst (H1 E call xs) fr (evOp E call x.op fr h)) (H1 E call xs (setDst x.dst skipped fr) h))=zs h':=A;cases hg:guardOk x.gd fr with
  |none=>rw[hg]at A;cases A
  |some b=>
   rw[hg]at A;cases b with
   |false=>exact Fd B xs _ h h' A
   |true=>
    have A:CRes.heap (Y1 x.dst (H1 E call xs) fr (evOp E call x.op fr h))=zs h':=A;cases C:evOp E call x.op fr h with
    |bad=>rw[C]at A;cases A
    |pan v hh=>rw[C]at A;cases A;grind[evOp_pres_pan]
    |ok v h1=>
     rw[C]at A;exact(evOp_pres B C).trans (Fd B xs _ h1 h' A)
theorem Hb:∀(a b:List Nat),Bp a b=a++b
 |[],_=>rfl
 |x::a,b=>by show x::Bp a b=_;rw[Hb a b];rfl
theorem pres_quiet{h h1:Heap}(B:Pres {h with tch:=[]} h1):Pres h {h1 with tch:=Bp (H2 h.next h1.tch) h.tch}:=by
 obtain⟨hn,new,e,hg⟩:=B;refine⟨hn,H2 h.next h1.tch,Hb _ _,fun i hi A=>hg i hi fun C=>A (l6.2 ⟨?_,hi⟩)⟩;rw[e];exact List.mem_append_left _ C
def DRes.heap(r:DRes):Option Heap:=match r with | .ok _ h _=>zs h | .pan _ h=>zs h | .bad=>zn
theorem Of{E:Env}{call:C7}(B:N9 call){x:XOp}{fr:Tr}{h:Heap}{d:List Nat}{h':Heap}(A:DRes.heap (evOpD E call x fr h d)=zs h'):Pres h h':=by
 have plain:DRes.heap (w9 d (evOp E call x.op fr h))=zs h'->Pres h h':=fun C=>by
  cases D:evOp E call x.op fr h with
  |bad=>rw[D]at C;cases C
  |ok v h1=>rw[D]at C;cases C;exact evOp_pres B D
  |pan v h1=>rw[D]at C;cases C;exact evOp_pres_pan B D
 unfold evOpD at A;cases D:x.quiet with
 |false=>
  rw[D]at A;simp only[cond_false]at A;cases hc:x.careful with
  |false=>grind
  |true=>
   rw[hc]at A;simp only[cond_true]at A;cases G:readOk (readO E x.op fr) d with
   |false=>rw[G]at A;cases A
   |true=>grind
 |true=>
  rw[D]at A;have A:DRes.heap (z7 h.next h.tch d (evOp E call x.op fr {h with tch:=[]}))=zs h':=A;cases C:evOp E call x.op fr {h with tch:=[]}with
  |ok H h1=>rw[C]at A;cases A;grind[pres_quiet,evOp_pres]
  |pan H h1=>rw[C]at A;cases A;grind[pres_quiet,evOp_pres_pan]
  |bad=>rw[C]at A;cases A
theorem N5{α:Type}{b:Bool}{x y:α}{f:α->Option Heap}{h:Heap}(hr:f (bif b then x else y)=zs h)(hy:f y=zn):b=zt/\f x=zs h:=by
 grind
theorem Dk{E:Env}{call:C7}(A:N9 call):∀(xs:List XOp)(fr:Tr)(h:Heap)(d:List Nat)(h':Heap),CRes.heap (evOpsD E call xs fr h d)=zs h'->Pres h h'
 |[],fr,h,d,h',B=>by cases B;exact .refl h
 |x :: xs,fr,h,d,h',B=>by
  have B:CRes.heap (onOB (guardOk x.gd fr) .bad (O9 x.dst (evOpsD E call xs) (virtD E call xs x.late (setDst x.dst skipped fr) h d) fr (evOpD E call x fr h d)) (evOpsD E call xs (setDst x.dst skipped fr) h d))=zs h':=B;cases hg:guardOk x.gd fr with
  |none=>rw[hg]at B;cases B
  |some b=>
   rw[hg]at B;cases b with
   |false=>exact Dk A xs _ h d h' B
   |true=>
    have B:CRes.heap (O9 x.dst (evOpsD E call xs) (virtD E call xs x.late (setDst x.dst skipped fr) h d) fr (evOpD E call x fr h d))=zs h':=B;cases C:evOpD E call x fr h d with
    |bad=>rw[C]at B;cases B
    |pan v hh=>
     rw[C]at B;obtain⟨_,B⟩:=N5 (f:=CRes.heap) B rfl;cases B;exact Of (d:=d) A (by rw[C];rfl)
    |ok v h1 d1=>
     rw[C]at B;exact(Of (d:=d) A (h':=h1) (by rw[C];rfl)).trans (Dk A xs _ h1 d1 h' B)
theorem Ra{b:Tr->Heap->CRes}{r:CRes}{h h':Heap}(C:CRes.heap (Er b r)=zs h')(ha:∀A,CRes.heap r=zs A->Pres h A)(hb:∀B A h',CRes.heap (b B A)=zs h'->Pres A h'):Pres h h':=by
 cases r with
 |bad=>cases C
 |pan v hh=>exact ha _ C
 |ok e1 fr1 h1=>
  cases e1 with
  |normal=>exact(ha _ rfl).trans (hb _ _ _ C)
  |_=>exact ha _ C
theorem cS{b:Tr->Heap->CRes}{r:CRes}{h h':Heap}(C:CRes.heap (Ej b r)=zs h')(ha:∀A,CRes.heap r=zs A->Pres h A)(hb:∀B A h',CRes.heap (b B A)=zs h'->Pres A h'):Pres h h':=by
 cases r with
 |ok e1 fr1 h1=>
  cases e1 with
  |normal=>exact(ha _ rfl).trans (hb _ _ _ C)
  |_=>cases C
 |_=>cases C
theorem cT{b:Tr->Heap->Res}{r:CRes}{h h':Heap}(C:Res.heap (Bc b r)=zs h')(ha:∀A,CRes.heap r=zs A->Pres h A)(hb:∀B A h',Res.heap (b B A)=zs h'->Pres A h'):Pres h h':=by
 cases r with
 |bad=>cases C
 |pan v hh=>exact ha _ C
 |ok e1 fr1 h1=>
  cases e1 with
  |normal=>exact(ha _ rfl).trans (hb _ _ _ C)
  |_=>cases C
theorem It{vs:Option (List AV)}{h h':Heap}(A:Res.heap (Kn vs h)=zs h'):h'=h:=by
 cases vs with
 |none=>cases A
 |some vs=>cases A;rfl
theorem Fe{E:Env}{rs:List ResultVar}{r:CRes}{h':Heap}(A:Res.heap (H7 E rs r)=zs h'):CRes.heap r=zs h':=by
 cases r with
 |bad=>cases A
 |pan v hh=>exact A
 |ok e fr1 h1=>
  cases e with
  |exit i=>cases A
  |_=>rw[It A];rfl
def IRes.heap(r:IRes):Option Heap:=match r with | .ok _ _ _ h=>zs h | .bad=>zn
theorem O2{b:Tr->Heap->IRes}{r:CRes}{h h':Heap}(C:IRes.heap (H8 b r)=zs h')(ha:∀A,CRes.heap r=zs A->Pres h A)(hb:∀B A h',IRes.heap (b B A)=zs h'->Pres A h'):Pres h h':=by
 cases r with
 |ok e1 fr1 h1=>
  cases e1 with
  |normal=>exact(ha _ rfl).trans (hb _ _ _ C)
  |_=>cases C
 |_=>cases C
theorem Rb{b:Option Ex->Tr->Heap->IRes}{r:IRes}{h h':Heap}(C:IRes.heap (Kp b r)=zs h')(ha:∀A,IRes.heap r=zs A->Pres h A)(hb:∀p B A h',IRes.heap (b p B A)=zs h'->Pres A h'):Pres h h':=by
 cases r with
 |bad=>cases C
 |ok e1 p fr1 h1=>
  cases e1 with
  |normal=>exact(ha _ rfl).trans (hb _ _ _ _ C)
  |_=>exact ha _ C
theorem n7{p:Option Ex}{fr:Tr}{h h':Heap}(A:IRes.heap (n9 p fr h)=zs h'):Pres h h':=by cases A;exact .refl _
theorem onOB_heapI{b:Option Bool}{x y:IRes}{h:Heap}(A:IRes.heap (onOB b .bad x y)=zs h):(b=zs zt/\IRes.heap x=zs h)\/(b=zs zf/\IRes.heap y=zs h):=by
 cases b with
 |none=>cases A
 |some b=>cases b;exact .inr ⟨rfl,A⟩;exact .inl ⟨rfl,A⟩
theorem oO{r:IRes}{h:Heap}(A:CRes.heap (finI r)=zs h):IRes.heap r=zs h:=by
 cases r with
 |bad=>cases A
 |ok e p fr h1=>cases e<;>first|exact A|cases A
section
variable {E:Env}{ih:D9}(hi:cR ih)
include hi
theorem iD{x p:AV}{h h':Heap}(A:Res.heap (Ep E ih x p h)=zs h'):Pres h h':=by
 cases x with
 |fn f first caps=>
  cases f with
  |func n=>
   obtain⟨_,A⟩:=N5 (f:=Res.heap) A rfl;unfold Rg at A;cases hf:E.fn n with
   |none=>rw[hf]at A;cases A
   |some C=>
    rw[hf]at A;obtain⟨_,A⟩:=N5 (f:=Res.heap) A rfl;cases D:C.mode with
    |rcv d d2 rest=>
     rw[D]at A;obtain⟨_,A⟩:=N5 (f:=Res.heap) A rfl;cases B:ih rest (((Tr.enter C.ntmps caps).set d p).set d2 p) h with
     |ok e fr1 h1=>
      rw[B]at A;have G:=hi _ _ _ h1 (by rw[B];rfl);cases e with
      |exit i=>cases A
      |_=>cases A;exact G
     |_=>rw[B]at A;cases A
    |_=>rw[D]at A;cases A
  |_=>cases A
 |_=>cases A
theorem Dm{rs:List ResultVar}{fr:Tr}{x p:AV}{h h':Heap}(A:Res.heap (k8 E rs fr (Ep E ih x p h))=zs h'):Pres h h':=by
 cases B:Ep E ih x p h with
 |ok v h1=>
  rw[B]at A;rw[It A];exact iD hi (x:=x) (p:=p) (by rw[B];rfl)
 |_=>rw[B]at A;cases A
theorem Rc{g:Operand}{rest:XC}{rs:List ResultVar}:∀(pre:List XC)(fr:Tr)(h h':Heap),Res.heap (r9 E ih g rest rs pre fr h)=zs h'->Pres h h'
 |[],fr,h,h',A=>by
  have A:Res.heap (I0 E ih (opv E g fr) rs fr (ih rest fr h))=zs h':=A;cases D:ih rest fr h with
  |bad=>rw[D]at A;cases A
  |pan v hh=>rw[D]at A;exact(hi _ _ _ hh (by rw[D];rfl)).trans (Dm hi A)
  |ok e fr1 h1=>
   rw[D]at A;have G:=hi _ _ _ h1 (by rw[D];rfl);cases e with
   |exit i=>cases A
   |_=>exact G.trans (Dm hi A)
 |p::pre,fr,h,h',A=>cT (r:=ih p fr h) (b:=r9 E ih g rest rs pre) A (fun B q=>hi _ _ _ _ q) (fun C B h' q=>Rc pre C B h' q)
theorem Og:N9 (P0 E ih):=by
 intro f args h h' A;unfold P0 at A;cases G:E.told f with
 |true=>
  rw[G]at A;simp only[cond_true]at A
  have:h'=h:=by
   unfold toldA at A;cases args with
   |nil=>cases A
   |cons x r=>
    cases r with
    |nil=>cases A
    |cons y r=>
     dsimp only at A;obtain⟨_,A⟩:=N5 (f:=Res.heap) A rfl;cases x with
     |str s=>
      cases y with
      |str p=>
       obtain⟨_,A⟩:=N5 (f:=Res.heap) A rfl;cases hc:contS p s<;>rw[hc]at A<;>cases A<;>rfl
      |_=>cases A
     |_=>cases A
  rw[this];exact .refl h
 |false=>
  rw[G]at A;simp only[cond_false]at A;cases C:E.dlf f with
  |some ks=>
   rw[C]at A;have A:Res.heap (iK E ih ks args h)=zs h':=A;have hb:iK E ih ks args h≠.bad:=fun e=>by rw[e]at A;cases A
   exact absurd rfl hb
  |none=>
   rw[C]at A;dsimp only at A;cases B:srtA E f args h with
   |some r=>
    rw[B]at A;cases B
   |none=>
    rw[B]at A;dsimp only at A;cases hf:E.fn f with
    |none=>rw[hf]at A;cases A
    |some H=>
     rw[hf]at A;obtain⟨_,A⟩:=N5 (f:=Res.heap) A rfl;unfold Oj at A;cases D:H.mode with
     |rcv=>rw[D]at A;cases A
     |dfr pre g rest=>rw[D]at A;exact Rc hi _ _ _ _ A
     |_=>rw[D]at A;exact hi _ _ _ _ (Fe A)
theorem Rd:N9 (F9 E ih):=by
 intro f args h h' A;unfold F9 at A;cases hg:E.gc f with
 |false=>rw[hg]at A;exact Og hi f args h h' A
 |true=>
  rw[hg]at A;have A:Res.heap (PU h (P0 E ih f args {h with tch:=[]}))=zs h':=A;cases G:P0 E ih f args {h with tch:=[]}with
  |ok v h1=>
   rw[G]at A;cases A;have H:=pres_quiet (Og hi f args {h with tch:=[]} h1 (by rw[G];rfl));obtain⟨hn,t,I,B⟩:=H;refine⟨hn,t,I,fun i C D=>?_⟩;show(h.os.trunc h1.os).get i=h.os.get i
   have e:h1.os.get i=h.os.get i:=B i C D;grind[HT.get_trunc]
  |_=>rw[G]at A;cases A
theorem Ys{ps:List Tmp}{a b:XC}{fr:Tr}{args:List AV}{h h':Heap}(B:CRes.heap (roundY ih ps a b fr args h)=zs h'):Pres h h':=by
 obtain⟨_,B⟩:=N5 (f:=CRes.heap) B rfl;exact cS B (fun A q=>hi _ _ _ _ q) (fun fr₁ A h' q=>hi _ _ _ _ q)
theorem iE{p2:XC}{yd:Tmp}{fr:Tr}{r:CRes}{h h':Heap}(B:IRes.heap (Ht ih p2 yd fr r)=zs h')(ha:∀A,CRes.heap r=zs A->Pres h A):Pres h h':=by
 cases r with
 |ok e fr1 h1=>
  refine(ha _ rfl).trans ?_;cases e with
  |_=>exact O2 B (fun A q=>hi _ _ _ _ q) (fun _ _ _ q=>n7 q)
 |_=>cases B
theorem Wn{nt:Nat}{Y:List AV->Heap->CRes}(J:∀l h h',CRes.heap (Y l h)=zs h'->Pres h h'):∀(m:Nat)(c:IC)(p:Option Ex)(fr:Tr)(h h':Heap),IRes.heap (evI E ih nt Y m c p fr h)=zs h'->Pres h h'
 |0,c,p,fr,h,h',B=>by cases B
 |m + 1,c,p,fr,h,h',B=>by
  have k:=Wn (nt:=nt) J m;cases c with
  |reg x=>exact O2 (r:=ih x fr h) (b:=n9 p) B (fun A q=>hi _ _ _ _ q) (fun _ _ _ q=>n7 q)
  |seq a b=>exact Rb (r:=evI E ih nt Y m a p fr h) (b:=evI E ih nt Y m b) B (fun A q=>k a _ _ _ _ q) (by grind)
  |loop a=>exact Rb (r:=evI E ih nt Y m a p fr h) (b:=evI E ih nt Y m (.loop a)) B (fun A q=>k a _ _ _ _ q) (by grind)
  |cond x a b=>
   have B:IRes.heap ((opv E x fr).onBool .bad fun t=>match t with|true=>evI E ih nt Y m a p fr h|false=>evI E ih nt Y m b p fr h)=zs h':=B;cases I:opv E x fr with
   |bool t=>
    rw[I]at B;cases t with
    |true=>exact k a _ _ _ _ B
    |false=>exact k b _ _ _ _ B
   |_=>rw[I]at B;cases B
  |block i a=>
   have B:IRes.heap (Iz i (evI E ih nt Y m a p fr h))=zs h':=B;cases G:evI E ih nt Y m a p fr h with
   |bad=>rw[G]at B;cases B
   |ok e1 p1 D h1=>
    rw[G]at B;have H:=k a p fr h h1 (by rw[G];rfl);cases e1 with
    |exit j=>
     have B:IRes.heap (bif Nat.beq j i then IRes.ok .normal p1 D h1 else .ok (.exit j) p1 D h1)=zs h':=B;cases hb:Nat.beq j i with
     |true=>rw[hb]at B;cases B;exact H
     |false=>grind
    |_=>cases B;exact H
  |yreg p0 gd yt p1 yd args p2=>
   refine O2 (r:=ih p0 fr h) (b:=fun fr h=>onOB (guardOk gd fr) .bad (cZ E ih nt Y gd yt p1 yd args p2 p fr h) (zY ih gd yt p1 yd p2 p fr h)) B (fun A q=>hi _ _ _ _ q) (fun C A h' q=>?_);rcases onOB_heapI q with⟨_,q⟩|⟨_,q⟩
   . cases p with
     |some _=>cases q
     |none=>
      obtain⟨_,q⟩:=N5 (f:=IRes.heap) q rfl;refine O2 q (fun A q=>hi _ _ _ _ q) (fun C A h' q=>?_);rcases onOB_heapI q with⟨_,q⟩|⟨_,q⟩
      . grind[iE]
      . cases q
   . refine O2 q (fun A q=>hi _ _ _ _ q) (fun C A h' q=>?_)
     rcases onOB_heapI q with⟨_,q⟩|⟨_,q⟩
     . cases q
     . exact O2 q (fun A q=>hi _ _ _ _ q) (fun _ _ _ q=>n7 q)
  |_=>cases B;exact .refl _
theorem iF{ps:List Tmp}{a b:XC}{fr:Tr}{g:AV}{h h':Heap}(A:CRes.heap (rfnA E ih ps a b fr h g)=zs h'):Pres h h':=by
 cases g with
 |fn f first caps=>
  cases f with
  |func n=>
   obtain⟨_,A⟩:=N5 (f:=CRes.heap) A rfl;have B:∀r,CRes.heap (backA fr r)=zs h'->CRes.heap r=zs h':=fun r A=>by cases r<;>first|exact A|cases A
   have A:=B _ A;unfold itF at A;cases hf:E.fn n with
   |none=>rw[hf]at A;cases A
   |some D=>
    rw[hf]at A;obtain⟨_,A⟩:=N5 (f:=CRes.heap) A rfl;cases C:D.mode with
    |itf c=>
     rw[C]at A;exact Wn hi (fun l h h' q=>Ys hi q) _ _ _ _ _ _ (oO A)
    |_=>rw[C]at A;cases A
  |_=>cases A
 |_=>cases A
end
theorem Bv(E:Env):∀(n:Nat),cR (ev E n)
 |0,c,fr,h,h',A=>by cases A
 |n + 1,c,fr,h,h',A=>by
  have ih:=Bv E n;have D:=Rd (E:=E) ih;cases c with
  |bad=>cases A
  |reg d l=>
   cases d with
   |false=>exact Fd D l fr h h' A
   |true=>exact Dk D l fr h [] h' A
  |seq x y=>exact Ra (r:=ev E n x fr h) (b:=ev E n y) A (fun B q=>ih x fr h B q) (fun C B h' q=>ih y C B h' q)
  |loop x=>exact Ra (r:=ev E n x fr h) (b:=ev E n (.loop x)) A (fun B q=>ih x fr h B q) (fun C B h' q=>ih (.loop x) C B h' q)
  |scope x=>exact ih x fr h h' A
  |rfn g ps a b=>exact iF ih A
  |rngm R y=>
   have A:CRes.heap (Wp E (ev E n) R y fr h)=zs h':=A;have hb:Wp E (ev E n) R y fr h≠.bad:=fun e=>by rw[e]at A;cases A
   exact absurd rfl hb
  |cond c x y=>
   have A:CRes.heap (Ok (ev E n x) (ev E n y) (opv E c fr) fr h)=zs h':=A;cases J:opv E c fr with
   |bool b=>
    rw[J]at A;cases b with
    |true=>exact ih x fr h h' A
    |false=>exact ih y fr h h' A
   |_=>rw[J]at A;cases A
  |block i x=>
   have A:CRes.heap (Fl i (ev E n x fr h))=zs h':=A;cases H:ev E n x fr h with
   |bad=>rw[H]at A;cases A
   |pan v hh=>rw[H]at A;exact ih x fr h h' (by rw[H];exact A)
   |ok e1 G h1=>
    rw[H]at A;have I:=ih x fr h h1 (by rw[H];rfl);cases e1 with
    |exit j=>
     have A:CRes.heap (bif Nat.beq j i then CRes.ok .normal G h1 else .ok (.exit j) G h1)=zs h':=A;cases hb:Nat.beq j i with
     |_=>rw[hb]at A;cases A;exact I
    |_=>cases A;exact I
  |_=>cases A;exact .refl h
theorem xA(E:Env)(n:Nat):N9 (F9 E (ev E n)):=Rd (Bv E n)
end Go.AM
