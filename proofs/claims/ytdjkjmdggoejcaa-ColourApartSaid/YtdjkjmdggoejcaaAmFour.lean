/- The abstract machine, part four: regions that draw their order are sound; what calls leave as it was. Conditions: none. -/
import Derived.Test.YtdjkjmdggoejcaaAmThree
import Derived.OrdersIn
import Derived.TacticsIn
import Derived.LoopNIn
import Derived.Scope
set_option linter.unusedVariables false
set_option linter.unusedSectionVars false
set_option linter.unusedSimpArgs false
/-
 The abstract machine: a region that draws its order: whatever is drawn,what is told holds.
set_option maxHeartbeats 4000000
-/
open List renaming length→lz
open Option renaming some→zs,none→zn
open Bool renaming true→zt,false→zf
open Nat renaming lt_or_ge→zqa,le_refl→zqb,le_trans→zqc,le_of_lt→zqd,lt_trichotomy→zqe,lt_of_lt_of_le→zqf
open Array renaming getElem?_eq_getElem→zqg,getD_eq_getD_getElem?→zqh,all_toList→zqi,replicate→zqj
open Bool renaming and_eq_true→zqk
namespace Go.AM
section
variable (E:Env)(call:E3)(ops:Array Oper)(ms l:List Nat)(sk:Nat->Prop)(xs:List XOp)(s₀:Tr×HD)(W₀:World)
def Kz(m:Nat):Prop:=∃s x,St E call xs s₀ m=zs s/\xs[m]?=zs x/\cm x.gd s.1=zs zt/\Ib x.op=2
structure e0v(W:World)(cx:Cx)(tmps:Array Value)(b:Nat)(s:Tr×HD)(r:AV×HD)(o:Oper):Prop where
 held:cx.held b
 own:cx.own b
 new:W₀.heap.size<=b
 rest:∃(es:List AV)(sz:Nat)(nx:Nat->AV),r=(nx s.2.1.next,(s.2.1.push (.row es sz),s.2.2))/\N2 W cx (b,0,sz) (.row es sz)/\
  ∀(t:Nat),o.dst=zs t->t<tmps.size->∀(W₂:World)(cx₂:Cx)(id:Nat),cx₂.μ id=(b,0,sz)->id<cx₂.nx->b<W₂.heap.size->mm W₂ b=mm W b->Rep W₂ cx₂ (tmps.getD t undef) (nx id)
def qZ(W:World)(cx:Cx)(tmps:Array Value)(fr fp:Tr)(b:Nat)(m:Nat)(o:Oper):Prop:=
 Ib o.op≠3/\∃s x r,St E call xs s₀ m=zs s/\xs[m]?=zs x/\stp E call x s.1 s.2=zs r/\
  ((¬Kz E call xs s₀ m/\r.2=s.2/\∀t,o.dst=zs t->fp.get t=if fr.has t then r.1 else .und)\/(Kz E call xs s₀ m/\e0v W₀ W cx tmps b s r o))
structure Inv(S:Act->Prop)(cx₀:Cx)(lis:Nat->Prop)(β:Nat->Nat)(k:Nat)(W:World)(cx:Cx)(a:Act)(fr:Tr)(h:HD)(fp:Tr):Prop where
 st:St E call xs s₀ k=zs (fr,h)
 kle:k<=lz l
 pre:∀(m i:Nat),m<k->l[m]?=zs i->lis i
 stop:∀(m i:Nat),sk m->l[m]?=zs i->¬lis i
 clo:∀(i j:Nat),i<ops.size->j<ops.size->lis j->bit (ms.getD j 0) i=zt->lis i
 sat:Sat E W cx h.1
 frep:dh W cx a.tmps fp
 has:∀t,fp.has t=fr.has t
 ext:Ext W₀ cx₀ W cx
 dfr:S a
 stab:∀(i:Nat)(o:Oper),ops[i]?=zs o->Lv S o.dst
 pend:∀(m i:Nat)(o:Oper),k<=m->l[m]?=zs i->lis i->ops[i]?=zs o->qZ E call xs s₀ W₀ W cx a.tmps fr fp (β m) m o
 old:∀t,(∀(m i:Nat)(o:Oper),k<=m->l[m]?=zs i->lis i->ops[i]?=zs o->o.dst≠zs t)->fp.get t=fr.get t
 sep:∀(m m' i i':Nat),k<=m->k<=m'->l[m]?=zs i->l[m']?=zs i'->lis i->lis i'->Kz E call xs s₀ m->Kz E call xs s₀ m'->β m=β m'->m=m'
end
section
variable {P:Program}{E:Env}{call:E3}{ops:Array Oper}{ms l:List Nat}{sk:Nat->Prop}{xs:List XOp}{s₀:Tr×HD}{W₀:World}{S:Act->Prop}{cx₀:Cx}{lis:Nat->Prop}{β:Nat->Nat}{k:Nat}{W:World}{cx:Cx}{a:Act}{fr fp:Tr}{h:HD}
theorem e0v.mono{W':World}{cx':Cx}{tmps B:Array Value}{b:Nat}{s:Tr×HD}{r:AV×HD}{o:Oper}(D:Ext W cx W' cx')(hb:b<W.heap.size)(ho:cx'.own b)(G:∀t,o.dst=zs t->B.size=tmps.size/\B.getD t undef=tmps.getD t undef)(hn:e0v W₀ W cx tmps b s r o):e0v W₀ W' cx' B b s r o:=by
 obtain⟨U,h2,V,es,sz,nx,X,Y,h6⟩:=hn;obtain⟨h7,h8⟩:=D.hold b hb U;refine⟨h7,ho,V,es,sz,nx,X,Y.mono D h8,fun t C hlt W₂ cx₂ id H I J N=>?_⟩;obtain⟨e1,e2⟩:=G t C;rw[e2];exact h6 t C (by grind) W₂ cx₂ id H I J (by rw[N,D.shape b hb])
theorem Il{o:Oper}(hl:∀t∈AM.i2 ops.toList o,fp.get t=fr.get t):cm (G3 ops.toList o) fp=cm (G3 ops.toList o) fr:=by
 unfold G3;cases hg:o.guard with
 |none=>rfl
 |some p=>
  dsimp only;show Lh _ fp=Lh _ fr
  grind[Lh,AM.i2]
theorem Xr{o:Oper}(hl:∀t∈AM.i2 ops.toList o,fp.get t=fr.get t):∀y∈o.op.operands.toList,opv E y fp=opv E y fr:=by
 intro y hy;cases y with
 |tmp t=>exact hl t (by unfold AM.i2;grind)
 |_=>rfl
theorem Inv.looks(B:jf ops ms l sk xs)(hi:Inv E call ops ms l sk xs s₀ W₀ S cx₀ lis β k W cx a fr h fp){m i:Nat}{o:Oper}(hk:k<=m)(hl:l[m]?=zs i)(ho:ops[i]?=zs o)(hn:¬lis i)(hd:∀j,j<ops.size->bit (ms.getD i 0) j=zt->lis j)
 (hfirst:m=k\/∃j,l[k]?=zs j/\¬lis j){frm:Tr}{hm:HD}(hst:St E call xs s₀ m=zs (frm,hm)):∀t∈AM.i2 ops.toList o,fp.get t=frm.get t:=by
 intro t ht;have J:=B.lt m i hl;by_cases aa:∃p i' o',k<=p/\p<m/\l[p]?=zs i'/\ops[i']?=zs o'/\o'.dst=zs t
 . obtain ⟨p,i',o',V,H,C,D,I⟩:=aa
   cases hb:bit (ms.getD i 0) i' with
   |false=>exact absurd ht ((B.apart H C hl D ho hb).2.1 t I)
   |true=>
    have N:=hd i' (B.lt p i' C) hb;obtain⟨h6,s,x,r,h7,h8,h9,X⟩:=hi.pend p i' o' V C N D;rcases X with⟨_,_,G⟩|⟨G,_⟩
    . rw[G t I]
      exact(DM B hi.st V H h7 hst h8 h9 C D I).symm
    . exfalso
      obtain⟨s',x',_,k2,_,k4⟩:=G;obtain⟨x2,hx,_,hxo,_⟩:=B.xat p i' o' C D;rw[k2]at hx;cases hx;have hc:Ib o'.op=2:=by grind
      rcases hfirst with rfl|⟨j,hj,Y⟩
      . omega
      . rcases zqa k p with U|U
        . exact Y (hd j (B.lt k j hj) (B.news p i' o' C D hc m i H hl hb k j U hj))
        grind
 . obtain ⟨n,rfl⟩:∃n,m=k+n:=⟨m-k,by omega⟩
   rw[jN B hi.st n (frm,hm) hst (t:=t) (by grind)];refine hi.old t fun q i' o' V H C D I=>?_
   rcases zqe q (k+n)with hq|hq|hq
   . grind
   . grind
   . cases hb:bit (ms.getD i' 0) i with
     |true=>exact hn (hi.clo i i' J (B.lt q i' H) C hb)
     |false=>exact absurd ht ((B.apart hq hl H ho D hb).2.2 t I)
theorem dP{a:Act}{d:Option Tmp}{v:Value}{t:Nat}(h:d≠zs t):(a.put d v).tmps.size=a.tmps.size/\(a.put d v).tmps.getD t undef=a.tmps.getD t undef:=by
 cases d with
 |none=>exact⟨rfl,rfl⟩
 |some d=>
  have hne:d≠t:=fun e=>h (by rw[e])
  show(a.tmps.setIfInBounds d v).size=_/\(a.tmps.setIfInBounds d v).getD t undef=_
  simp_all
theorem qZ.mono{W':World}{cx':Cx}{tmps B:Array Value}{fr' C:Tr}{b m:Nat}{o:Oper}(I:Ext W cx W' cx')(hb:cx.held b->b<W.heap.size)(D:cx.held b->cx.own b->cx'.own b)(hhas:∀t,fr'.has t=fr.has t)
 (ht:∀t,o.dst=zs t->B.size=tmps.size/\B.getD t undef=tmps.getD t undef/\C.get t=fp.get t)(hpd:qZ E call xs s₀ W₀ W cx tmps fr fp b m o):qZ E call xs s₀ W₀ W' cx' B fr' C b m o:=by
 obtain⟨J,s,x,r,N,U,V,X⟩:=hpd;refine⟨J,s,x,r,N,U,V,?_⟩;rcases X with⟨H,G,h8⟩|⟨H,G⟩
 . grind
 . exact .inr ⟨H,G.mono I (hb G.held) (D G.held G.own) (by grind)⟩
theorem Inv.more(X:jf ops ms l sk xs)(hi:Inv E call ops ms l sk xs s₀ W₀ S cx₀ lis β k W cx a fr h fp){m i:Nat}(hsk:¬sk m){o:Oper}(hk:k<=m)(hl:l[m]?=zs i)(ho:ops[i]?=zs o)(hn:¬lis i)(hd:∀j,j<ops.size->bit (ms.getD i 0) j=zt->lis j)
 {v':Value}{W':World}{cx':Cx}(he:Ext W cx W' cx')(hown:∀b,cx.held b->cx.own b->cx'.own b){v:AV}(hv:Rep W' cx' v' v){k':Nat}{fr':Tr}{h':HD}{β':Nat->Nat}
 (hst:St E call xs s₀ k'=zs (fr',h'))(hkk:k'=k\/(k'=k+1/\m=k))(hkl:k'<=lz l)(hpre:∀(q j:Nat),q<k'->l[q]?=zs j->lis j\/j=i)(hs:Sat E W' cx' h'.1)(hfr:∀t,o.dst≠zs t->fr'.get t=fr.get t)
 (hβ:∀q,q≠m->β' q=β q)(hhas:∀t,fr'.has t=fr.has t)
 (hown2:k'<=m->qZ E call xs s₀ W₀ W' cx' (a.put o.dst v').tmps fr' (co o.dst v fp) (β' m) m o)(hsep:k'<=m->Kz E call xs s₀ m->∀b,cx.held b->β' m≠b)(hdst:m<k'->∀t,o.dst=zs t->(co o.dst v fp).get t=fr'.get t):
 Inv E call ops ms l sk xs s₀ W₀ S cx₀ (fun j=>lis j\/j=i) β' k' W' cx' (a.put o.dst v') fr' h' (co o.dst v fp):=by
 have J:k<=k':=by omega
 exact {
  st:=hst
  kle:=hkl
  pre:=hpre
  stop q j Y B hj:=by
   rcases hj with hj|rfl
   . exact hi.stop q j Y B hj
   . have:=X.inj q m _ B hl
     grind
  clo x y hx hy V hb:=by
   rcases V with V|rfl
   . exact .inl (hi.clo x y hx hy V hb)
   grind
  sat:=hs
  frep:=(hi.frep.mono he).put o.dst hv
  has t:=by rw[R8,hhas];exact hi.has t
  ext:=hi.ext.trans he
  dfr:=hi.stab i o ho _ _ hi.dfr
  stab:=hi.stab
  pend q j N I B hlis G:=by
   by_cases Y:q=m
   . grind
   . rw [hβ q Y]
     have C:lis j:=by
      rcases hlis with H|rfl
      . exact H
      . exact absurd (X.inj q m _ B hl) Y
     refine(hi.pend q j N (zqc J I) B C G).mono he (fun h=>(hi.sat.held _ h).1) (hown _) hhas fun t aa=>?_
     have hne:o.dst≠zs t:=by
      intro e;rcases zqa q m with H|H
      . exact X.dst q m j i N o t H B hl G ho aa e
      . exact X.dst m q i j o N t (by omega) hl B ho G e aa
     grind[dP,Y3]
  old t ht:=by
   by_cases ac:o.dst=zs t
   . grind
   . rw[Y3 ac,hfr t ac]
     refine hi.old t fun q j N I B C G=>?_
     grind
  sep q q' j j' Y hq' B hlq' C hlj' ab hnq' he':=by
   have D:∀{q j},q≠m->l[q]?=zs j->(lis j\/j=i)->lis j:=by
    intro q j U B C;rcases C with H|rfl
    . exact H
    . exact absurd (X.inj q m _ B hl) U
   have heldOf:∀{q j},q≠m->k'<=q->l[q]?=zs j->(lis j\/j=i)->Kz E call xs s₀ q->cx.held (β q):=by
    intro q j U I B C ab;obtain⟨N,G⟩:∃N,ops[j]?=zs N:=⟨_,zqg (X.lt q j B)⟩
    obtain⟨_,s,x,r,_,_,_,h5⟩:=hi.pend q j N (zqc J I) B (D U B C) G;rcases h5 with⟨h6,_⟩|⟨_,h7⟩
    . grind
    . exact h7.held
   by_cases H:q=m<;>by_cases h2:q'=m
   . rw[H,h2]
   . grind
   . grind
   . rw[hβ q H,hβ q' h2]at he'
     exact hi.sep q q' j j' (zqc J Y) (zqc J hq') B hlq' (D H B C) (D h2 hlq' hlj') ab hnq' he'}
end
end Go.AM
/-
 The abstract machine: a region that draws its order: each step,and the whole.
-/
namespace Go.AM
section
variable {P:Program}{E:Env}{call:E3}{ops:Array Oper}{ms l:List Nat}{sk:Nat->Prop}{xs:List XOp}{s₀:Tr×HD}{W₀:World}{S:Act->Prop}{cx₀:Cx}{lis:Nat->Prop}{β:Nat->Nat}{k:Nat}{W:World}{cx:Cx}{a:Act}{fr fp:Tr}{h:HD}
theorem dh.setIf{tmps:Array Value}{fr:Tr}(hf:dh W cx tmps fr){i:Nat}{x:AV}(B:i<tmps.size->Rep W cx (tmps.getD i undef) x):dh W cx tmps (fr.set i x) where
 rep j:=by
  by_cases e:i=j
  . subst e
    rw[Tr.get_set_eq];split
    . rename_i hh;exact B (hf.has _ hh)
    . exact .und _
  . rw[Tr.get_set_ne _ _ _ _ e];exact hf.rep j
 has j hj:=by rw[Tr.has_set]at hj;exact hf.has j hj
def Cx.adopt(cx:Cx)(b sz:Nat):Cx:=⟨fun id=>if id=cx.nx then(b,0,sz)else cx.μ id,cx.nx+1,cx.own,fun x=>cx.held x/\x≠b⟩
theorem Cx.adopt_new(cx:Cx)(b sz:Nat):(cx.adopt b sz).μ cx.nx=(b,0,sz):=by simp[Cx.adopt]
theorem Cx.adopt_old(cx:Cx)(b sz:Nat){i:Nat}(h:i<cx.nx):(cx.adopt b sz).μ i=cx.μ i:=by
 grind[Cx.adopt]
theorem Ext0.adopt(W:World)(cx:Cx)(b sz:Nat):Ext0 W cx W (cx.adopt b sz):=
 ⟨Nat.le_succ _,fun id hid=>cx.adopt_old _ _ hid,zqb _,fun _ _ _=>rfl,fun _ _=>rfl,fun _ _ h=>h⟩
theorem Sat.adopt{h:Vg}(B:Sat E W cx h){b sz:Nat}(hb:cx.held b)(x:io)(D:N2 W cx (b,0,sz) x):Sat E W (cx.adopt b sz) (h.push x) where
 nx:=by show h.next+1=cx.nx+1;rw[B.nx]
 objs id y hy:=by
  have G:=Ext0.adopt W cx b sz;by_cases hid:id=h.next
  . subst hid
    rw[Vg.get_push_eq]at hy;cases hy;rw[B.nx,Cx.adopt_new];exact⟨Nat.lt_succ_self _,(B.held b hb).2,(B.held b hb).1,D.mono0 G rfl⟩
  . rw[Vg.get_push_ne _ _ hid]at hy
    obtain⟨H,I,J,N⟩:=B.objs id y hy;rw[Cx.adopt_old _ _ _ H];exact⟨Nat.lt_succ_of_lt H,I,J,N.mono0 G rfl⟩
 inj id id' y y' hy hy' heq:=by
  have key:∀j z,h.get j=zs z->(cx.μ j).1≠b:=fun j z hz e=>B.free j z hz (by grind)
  by_cases hid:id=h.next<;>by_cases C:id'=h.next
  . grind
  . rw[Vg.get_push_ne _ _ C]at hy'
    rw[hid,B.nx,Cx.adopt_new,Cx.adopt_old _ _ _ (B.objs id' y' hy').1]at heq;grind
  . rw[Vg.get_push_ne _ _ hid]at hy
    rw[C,B.nx,Cx.adopt_new,Cx.adopt_old _ _ _ (B.objs id y hy).1]at heq;grind
  . rw[Vg.get_push_ne _ _ hid]at hy
    rw[Vg.get_push_ne _ _ C]at hy';rw[Cx.adopt_old _ _ _ (B.objs id y hy).1,Cx.adopt_old _ _ _ (B.objs id' y' hy').1]at heq;exact B.inj id id' y y' hy hy' heq
 gl:=B.gl.mono0 (Ext0.adopt W cx b sz)
 held x D:=B.held x D.1
 free id y hy:=by
  by_cases hid:id=h.next
  . subst hid;rw[B.nx,Cx.adopt_new];exact fun hh=>hh.2 rfl
  . rw[Vg.get_push_ne _ _ hid]at hy
    rw[Cx.adopt_old _ _ _ (B.objs id y hy).1];exact fun hh=>B.free id y hy hh.1
theorem jf.xdst(B:jf ops ms l sk xs){m i:Nat}{o:Oper}(C:l[m]?=zs i)(ho:ops[i]?=zs o){x:XOp}(hx:xs[m]?=zs x):x.dst=o.dst/\x.op=o.op/\x.quiet=m6 ops.toList ms i (l.drop (m+1))/\x.careful=j9 ops.toList ms i ((l.take m).reverse++[])/\(¬sk m->x.gd=G3 ops.toList o):=by
 obtain⟨x',h1,h2⟩:=B.xat m i o C ho;grind
theorem pn.op(B:pn ops ms l){m i:Nat}(C:l[m]?=zs i):∃o,ops[i]?=zs o:=⟨_,zqg (B.lt m i C)⟩
theorem Inv.advance(hp:jf ops ms l sk xs)(hi:Inv E call ops ms l sk xs s₀ W₀ S cx₀ lis β k W cx a fr h fp){i:Nat}(hl:l[k]?=zs i)(J:lis i):
 ∃cx' fr' h' aa,Inv E call ops ms l sk xs s₀ W₀ S cx₀ lis β (k+1) W cx' a fr' h' aa:=by
 obtain ⟨o,ho⟩:=hp.op hl;have Y:k<lz l:=V2 hl;obtain⟨hc3,s,x,r,h1,h2,h3,h4⟩:=hi.pend k i o (zqb _) hl J ho;rw[hi.st]at h1;cases h1;obtain⟨ad,hxo,_⟩:=hp.xdst hl ho h2;have G:=Ly hi.st h2 h3;rw[ad]at G;have N:∀(m j:Nat),m<k+1->l[m]?=zs j->lis j:=fun m j V C=>by
  rcases zqa m k with h'|h'
  . exact hi.pre m j h' C
  grind
 have dne:∀{m j:Nat}{H:Oper}{t:Nat},k+1<=m->l[m]?=zs j->ops[j]?=zs H->H.dst=zs t->o.dst≠zs t:=fun V C D X e=>hp.dst k _ i _ o _ _ (by omega) hl C ho D e X
 rcases h4 with⟨h4,h5,h6⟩|⟨h4,h5⟩
 . refine ⟨cx,co o.dst r.1 fr,h,fp,?_⟩
   dsimp only at h5;rw[h5]at G;exact{
    st:=G
    kle:=Y
    pre:=N
    stop:=hi.stop
    clo:=hi.clo
    sat:=hi.sat
    frep:=hi.frep
    has:=fun t=>by rw[R8];exact hi.has t
    ext:=hi.ext
    dfr:=hi.dfr
    stab:=hi.stab
    pend:=fun m j H V C B D=>(hi.pend m j H (by omega) C B D).mono (Ext.refl _ _) (fun hh=>(hi.sat.held _ hh).1) (fun _ hh=>hh) (fun t=>R8 _ _ _ _) (fun t X=>⟨rfl,rfl,rfl⟩)
    old:=fun t X=>by
     by_cases U:o.dst=zs t
     . grind[l7]
     . rw [Y3 U]
       refine hi.old t fun m j H V C B D=>?_
       rcases zqa k m with h'|h'
       . exact X m j H h' C B D
       . have:m=k:=by omega
         subst this;rw[hl]at C;cases C;rw[ho]at D;cases D;exact U
    sep:=fun m m' j j' V ab=>hi.sep m m' j j' (by omega) (by omega)}
 . obtain⟨n1,n2,n3,es,sz,nx,n4,n5,n6⟩:=h5
   rw [n4]at G;dsimp only at G n4;have I:=Ext0.adopt W cx (β k) sz;refine⟨cx.adopt (β k) sz,co o.dst (nx h.1.next) fr,(h.1.push (.row es sz),h.2),co o.dst (nx h.1.next) fp,?_⟩;exact{
    st:=G
    kle:=Y
    pre:=N
    stop:=hi.stop
    clo:=hi.clo
    sat:=hi.sat.adopt n1 _ n5
    frep:=by
     cases U:o.dst with
     |none=>exact hi.frep.mono0 I
     |some t=>
      refine(hi.frep.mono0 I).setIf fun ac=>?_
      exact n6 t U ac W _ h.1.next (by rw[hi.sat.nx,Cx.adopt_new]) (by show h.1.next<cx.nx+1;rw[hi.sat.nx];omega) (hi.sat.held _ n1).1 rfl
    has:=fun t=>by rw[R8,R8];exact hi.has t
    ext:=⟨hi.ext.toExt0.trans I,fun b hb hh=>⟨⟨(hi.ext.hold b hb hh).1,fun e=>by omega⟩,(hi.ext.hold b hb hh).2⟩,hi.ext.out⟩
    dfr:=hi.dfr
    stab:=hi.stab
    pend:=fun m j H V C B D=>by
     obtain⟨p1,sm,xm,rm,p2,p3,p4,p5⟩:=hi.pend m j H (by omega) C B D;refine⟨p1,sm,xm,rm,p2,p3,p4,?_⟩;rcases p5 with⟨p5,p6,p7⟩|⟨p5,p6,p7,p8,es',ae,af,p9,AF,GT⟩
     . grind[Y3,R8]
     . refine .inr ⟨p5,⟨p6,fun e=>?_⟩,p7,p8,es',ae,af,p9,AF.mono0 I rfl,GT⟩
       have:=hi.sep m k j i (by omega) (zqb _) C hl B J p5 h4 e
       omega
    old:=fun t X=>by
     by_cases U:o.dst=zs t
     . rw[U,l7,l7,hi.has]
     . rw[Y3 U,Y3 U]
       refine hi.old t fun m j H V C B D=>?_
       grind
    sep:=fun m m' j j' V ab=>hi.sep m m' j j' (by omega) (by omega)}
structure xj(E:Env)(call:E3)(ops:Array Oper)(ms l:List Nat)(sk:Nat->Prop)(xs:List XOp)(s₀:Tr×HD)(r:cz):Prop where
 all:∃s,St E call xs s₀ (lz l)=zs s
 res:((∀m,¬sk m)/\∃fr' h',St E call xs s₀ (lz l)=zs (fr',h')/\r=.ok .normal fr' h'.1)\/
  ∃ m₀ i₀ o₀ fr' h' v hh,sk m₀/\l[m₀]?=zs i₀/\ops[i₀]?=zs o₀/\St E call xs s₀ m₀=zs (fr',h')/\cm (G3 ops.toList o₀) fr'=zs zt/\
    (∃n h0 n',fg E call o₀.op fr' {h'.1 with tch:=n}=.pan v h0/\hh={h0 with tch:=n'})/\r=.pan v hh/\
    ∀m,sk m->m=m₀\/(m₀<m/\∃i,l[m]?=zs i/\bit (ms.getD i 0) i₀=zt)
theorem xj.step{r:cz}(B:jf ops ms l sk xs)(C:xj E call ops ms l sk xs s₀ r){m:Nat}{s:Tr×HD}(hs:St E call xs s₀ m=zs s){x:XOp}(hx:xs[m]?=zs x):∃q,stp E call x s.1 s.2=zs q:=by
 have hm:m<lz l:=by
  rw[<-B.xlen];grind
 obtain⟨s1,h1⟩:=C.all;grind[zP,bI]
end
end Go.AM
/-
 The abstract machine: a region that draws its order: the steps,in turn and ahead of it.
-/
namespace Go.AM
section
variable {P:Program}{E:Env}{call:E3}{ops:Array Oper}{ms l:List Nat}{sk:Nat->Prop}{xs:List XOp}{s₀:Tr×HD}{W₀:World}{S:Act->Prop}{cx₀:Cx}{lis:Nat->Prop}{β:Nat->Nat}{k:Nat}{W:World}{cx:Cx}{a:Act}{fr fp:Tr}{h:HD}
theorem oI{h:Vg}{d:List Nat}{x:XOp}{v:AV}{hh:Vg}(B:dq E call x fr h d=.pan v hh):∃t h0 t',fg E call x.op fr {h with tch:=t}=.pan v h0/\hh={h0 with tch:=t'}:=by
 unfold dq at B;have D:∀(r:Res),u6 d r=.pan v hh->r=.pan v hh:=by
  intro r C;cases r with
  |pan I J=>cases C;rfl
  |_=>cases C
 cases H:x.quiet with
 |false=>
  rw[H]at B;simp only[cond_false]at B;cases hc:x.careful with
  |false=>
   rw[hc]at B;exact⟨h.tch,hh,hh.tch,D _ B,rfl⟩
  |true=>
   rw[hc]at B;simp only[cond_true]at B;cases G:ly (lu E x.op fr) d with
   |false=>grind
   |true=>
    rw[G]at B;exact⟨h.tch,hh,hh.tch,D _ B,rfl⟩
 |true=>
  rw[H]at B;have B:w8 h.next h.tch d (fg E call x.op fr {h with tch:=[]})=.pan v hh:=B;cases C:fg E call x.op fr {h with tch:=[]}with
  |pan I J=>rw[C]at B;cases B;grind
  |_=>rw[C]at B;cases B
theorem pn.deps(C:pn ops ms l){i j:Nat}(hl:l[k]?=zs i)(I:j<ops.size)(hb:bit (ms.getD i 0) j=zt):∃p,p<k/\l[p]?=zs j:=by
 have place:∀e,e<ops.size->bit (ms.getD i 0) e=zt->e≠i->∃p,p<k/\l[p]?=zs e:=by
  intro e D hbe hne;obtain⟨p,G⟩:=C.all e D;rcases zqe p k with B|B|B
  . grind
  . grind
  . have:=(C.pair k p i e B hl G).2
    grind
 by_cases H:j=i
 . subst H
   exfalso
   obtain⟨o,ho,e,D,B⟩:=C.mask j j I I hb;obtain⟨N,U,J⟩:=C.edge j o e ho D;rcases B with B|B
   . exact J B
   . obtain⟨p,V,X⟩:=place e N U J
     have:=(C.pair p k e j V X hl).2
     grind
 grind
theorem Inv.due(hE:dn E P)(C:Ev E P call)(hp:jf ops ms l sk xs)(hi:Inv E call ops ms l sk xs s₀ W₀ S cx₀ lis β k W cx a fr h fp){i:Nat}(hl:l[k]?=zs i)(hn:¬lis i){r:cz}(J:xj E call ops ms l sk xs s₀ r)
 {K:Act->World->Prop}{Q:Exit->Act->World->Prop}(hK:∀a' W' β' cx' fr' h' ah,Inv E call ops ms l sk xs s₀ W₀ S cx₀ (fun j=>lis j\/j=i) β' (k+1) W' cx' a' fr' h' ah->K a' W')(hQ:∀x a' w',r.Post E W₀ cx₀ S x a' w'->Q x a' w'):wpOp P ops Q i K a W:=by
 obtain ⟨o,ho⟩:=hp.op hl;obtain⟨x,hx,_⟩:=hp.xat k i o hl ho;obtain⟨al,am,hxq,hxc,ae⟩:=hp.xdst hl ho hx;have D:∀j,j<ops.size->bit (ms.getD i 0) j=zt->lis j:=fun j hj hb=>by
  obtain⟨p,h1,h2⟩:=hp.deps hl hj hb;exact hi.pre p j h1 h2
 have G:=hi.looks hp (zqb _) hl ho hn D (.inl rfl) hi.st;have hg:=Il G;have ab:=Xr (E:=E) G;have aj:k<lz l:=V2 hl;have ac:∀(q j:Nat),q<k+1->l[q]?=zs j->lis j\/j=i:=fun q j hq ai=>by
  rcases zqa q k with h'|h'
  . exact .inl (hi.pre q j h' ai)
  grind
 have next:¬sk k->∀{v':Value}{W':World}{cx':Cx}{v:AV}{h':HD},stp E call x fr h=zs (v,h')->Ext W cx W' cx'->Sat E W' cx' h'.1->Rep W' cx' v' v->K (a.put o.dst v') W':=by
  intro B v' W' cx' v h' N he U hv;have ad:=Ly hi.st hx N;rw[al]at ad;refine hK _ _ β cx' (co o.dst v fr) h' (co o.dst v fp) (hi.more hp B (zqb _) hl ho hn D he (fun b hh hw=>(U.held b (he.hold b (hi.sat.held b hh).1 hh).1).2) hv ad (.inr ⟨rfl,rfl⟩) aj ac U (fun t ht=>Y3 ht) (fun _ _=>rfl) (fun t=>R8 _ _ _ _) (fun aa=>absurd aa (by omega)) (fun aa=>absurd aa (by omega)) fun _ t ht=>?_);rw[ht,l7,l7,hi.has]
 unfold wpOp;simp only[ho];by_cases B:sk k
 . rcases J.res with⟨hno,_⟩|⟨m₀,V,o₁,fr',h',v,hh,H,I,af,X,hgt,⟨n,h0,n',Y,rfl⟩,hr,ag⟩
   . grind
   . have ak:k=m₀:=by
      rcases ag k B with h|⟨ao,_⟩
      . exact h
      . exact absurd (hi.pre m₀ V ao I) (hi.stop m₀ V H I)
     subst ak;rw[hl]at I;cases I;rw[ho]at af;cases af;rw[hi.st]at X;cases X;have hw:=O1 (ops:=ops) hi.frep o (b:=zt) (by grind);rw[hw];rw[<-x6 o.op ab]at Y;refine .inl (Lw hE (hi.sat.low n) hi.frep C o (by grind) (fun v2 h2 v' W' cx' e h3 h4 h5=>?_) (fun v2 h2 v' W' cx' e h3 h4 h5=>?_))
     . grind
     . rw[Y]at e;cases e
       refine hQ _ _ _ ?_;rw[hr];exact⟨hi.dfr,cx',hi.ext.trans h3,v',rfl,h4.low n',h5⟩
 . have hxg:=ae B
   obtain⟨⟨v,h'⟩,N⟩:=J.step hp hi.st hx;have H:=N;unfold stp at N;cases aq:cm x.gd fr with
   |none=>grind
   |some b=>
    dsimp only at N;rw[aq]at N;have hw:=O1 (ops:=ops) hi.frep o (b:=b) (by grind);rw[hw];cases b with
    |false=>
     cases N;exact next B H (Ext.refl _ _) hi.sat (show Rep W cx undef Yw from .tup #[] [] rfl (by simp))
    |true=>
     obtain⟨n,h₁,n',h1,an,_⟩:=Ma (Jx N);rw[am,<-x6 o.op ab]at h1;refine .inl (Lw hE (hi.sat.low n) hi.frep C o (fun e=>by grind) (fun v2 h2 v' W' cx' e h3 h4 h5=>?_) (fun v2 h2 v' W' cx' e h3 h4 h5=>?_))
     . rw[h1]at e;cases e
       exact next B H h3 (by rw[an];exact h4.low n') h5
     grind
theorem oJ{op:Op}(hc:Ib op≠3){v:AV}{hh:Vg}:fg E call op fr h.1≠.pan v hh:=by
 refine Td (fun x e=>?_) (fun c f e e2=>?_) v hh
 . subst e;exact hc rfl
 . subst e
   obtain⟨callee,args,argTypes⟩:=c;dsimp only at e2;subst e2;exact hc rfl
theorem Inv.early(hE:dn E P)(am:Ev E P call)(an:N3 call)(V:jf ops ms l sk xs)(hi:Inv E call ops ms l sk xs s₀ W₀ S cx₀ lis β k W cx a fr h fp){m i i₀:Nat}(hk:k<m)(hl:l[m]?=zs i)(hn:¬lis i)(D:l[k]?=zs i₀)(ab:¬lis i₀)
 (hdeps:∀j,j<ops.size->bit (ms.getD i 0) j=zt->lis j){r:cz}(hend:xj E call ops ms l sk xs s₀ r)
 {K:Act->World->Prop}{Q:Exit->Act->World->Prop}(hK:∀a' W' β' cx' fr' h' bd,Inv E call ops ms l sk xs s₀ W₀ S cx₀ (fun j=>lis j\/j=i) β' k W' cx' a' fr' h' bd->K a' W'):wpOp P ops Q i K a W:=by
 obtain ⟨o,ho⟩:=V.op hl;obtain⟨o₀,az⟩:=V.op D;obtain⟨x,hx,_⟩:=V.xat m i o hl ho;obtain⟨hxd,a5,hxq,bj,a6⟩:=V.xdst hl ho hx;have ad:∀{p j:Nat},l[p]?=zs j->¬lis j->bit (ms.getD i 0) j=zf:=fun{p j} be bf=>by
  cases hb:bit (ms.getD i 0) j with
  |false=>rfl
  |true=>exact absurd (hdeps j (V.lt p j be) hb) bf
 have au:Ib o.op≠3:=(V.apart hk D hl az ho (ad D ab)).1;have av:¬sk m:=fun hs=>by
  rcases hend.res with⟨hno,_⟩|⟨m₀,i₁,o₁,fr',h',v,hh,ai,aj,ba,hst1,hgt,⟨n,h0,n',bb,_⟩,_,bc⟩
  . grind
  . rcases bc m hs with rfl|⟨Y,j,hj,hb⟩
    . rw[hl]at aj;cases aj
      rw[ho]at ba;cases ba;exact oJ (h:=(_,[])) au bb
    . rw[hl]at hj;cases hj
      exact hi.stop m₀ i₁ ai aj (hdeps i₁ (V.lt m₀ i₁ aj) hb)
 have hxg:=a6 av;have ag:∃s,St E call xs s₀ m=zs s:=by
  obtain⟨s,h1⟩:=hend.all;exact zP h1 (zqd (V2 hl))
 obtain ⟨⟨G,hm⟩,C⟩:=ag;have ae:=hi.looks V (zqd hk) hl ho hn hdeps (.inr ⟨i₀,D,ab⟩) C;have hg:=Il ae;have aw:=Xr (E:=E) ae;have ah:x.quiet=zf:=by
  grind[m6,gq,Vg.beq_false]
 have ax:∃q,stp E call x G hm=zs q:=hend.step V C hx;obtain⟨⟨v,H⟩,hs⟩:=ax;have ai:=hs;have ak:∀(q j:Nat),q<k->l[q]?=zs j->lis j\/j=i:=fun q j hq bg=>.inl (hi.pre q j hq bg)
 have plain:∀{v':Value}{W':World}{cx':Cx},¬Kz E call xs s₀ m->H=hm->Ext W cx W' cx'->Sat E W' cx' h.1->Rep W' cx' v' v->K (a.put o.dst v') W':=by
  intro v' W' cx' B a1 he N hv;refine hK _ _ β cx' fr h (co o.dst v fp) (hi.more V av (zqd hk) hl ho hn hdeps he (fun b hh hw=>(N.held b (he.hold b (hi.sat.held b hh).1 hh).1).2) hv hi.st (.inl rfl) hi.kle ak N (fun _ _=>rfl) (fun _ _=>rfl) (fun _=>rfl)
   (fun _=>⟨au,(G,hm),x,(v,H),C,hx,ai,.inl ⟨B,a1,fun t ht=>?_⟩⟩) (fun _ ao=>absurd ao B) fun aq=>absurd aq (by omega))
  rw[ht,l7,hi.has]
 unfold wpOp;simp only[ho];unfold stp at hs;cases a0:cm x.gd G with
 |none=>grind
 |some b=>
  rw[a0]at hs;have hw:=O1 (ops:=ops) hi.frep o (b:=b) (by grind);rw[hw];cases b with
  |false=>
   cases hs;refine plain (fun B=>?_) rfl (Ext.refl _ _) hi.sat (show Rep W cx undef Yw from .tup #[] [] rfl (by simp));obtain⟨s,x',h1,h2,h3,_⟩:=B;rw[C]at h1;cases h1;rw[hx]at h2;cases h2;dsimp only at h3;rw[a0]at h3;cases h3
  |true=>
   obtain⟨n,h₁,n',h1,h2,_,h3⟩:=Ma (Jx hs);obtain⟨rfl,rfl,a7,a9⟩:=h3 ah;have h1:fg E call x.op G hm.1=.ok v h₁:=h1;have h2:H.1=h₁:=h2;subst h2;have hmm:H=(H.1,hm.2):=by obtain⟨q1,q2⟩:=H;dsimp only at a7|-;rw[a7]
   rw [a5]at h1;have hnewIff:Ib o.op≠2->¬Kz E call xs s₀ m:=fun bh B=>by
    obtain⟨s,x',_,k2,_,k4⟩:=B;grind
   have run:Ib o.op≠2->H.1=hm.1->fg E call o.op fp h.1=.ok v h.1->o.wp P a W K Q:=by
    intro bh a1 he;refine Lw hE hi.sat hi.frep am o (fun e=>by grind) (fun v2 h2 v' W' cx' e h3 h4 h5=>?_) (fun v2 h2 v' W' cx' e h3 h4 h5=>?_)
    . grind
    grind
   rcases oo o.op with hc|hc|hc|hc
   . obtain⟨h4,h5⟩:=Od hc h1 h.1
     grind[x6]
   . obtain ⟨nn,rfl⟩:∃nn,m=k+nn:=⟨m-k,by omega⟩
     have a2:∀(p j:Nat)(U:Oper),k<=p->p<k+nn->l[p]?=zs j->ops[j]?=zs U->Ib U.op=3->bit (ms.getD i 0) j=zf:=fun p j U ac af X I J =>
      ad X fun ar=>(hi.pend p j U ac X ar I).1 J
     have a3:gq ops.toList i=1:=by grind[gq]
     have al:∀{j:Nat}{U:Oper},ops[j]?=zs U->Ib U.op=3->gq ops.toList j=3:=(by grind[Go.AM.gq])
     have hreads:∀id,lu E o.op fp=zs id->h.1.get id=hm.1.get id:=by
      intro id hid;have Y:id<h.1.next:=by rw[hi.sat.nx];exact rX (W:=W) (cx:=cx) (fun y _=>⟨_,W7 hi.sat hi.frep y⟩) hid
      by_cases bk:∃(p j:Nat)(U:Oper),k<=p/\p<k+nn/\l[p]?=zs j/\ops[j]?=zs U/\Ib U.op=3
      . obtain ⟨p,j,U,ac,af,X,I,J⟩:=bk
        have hkeep:=(mK V an hi.st nn (G,hm) C fun p j U ac af X I J=>by
         unfold m6;rw[al I J,zqk];refine⟨rfl,List.any_eq_true.2 ⟨i,?_,?_⟩⟩
         . have:(l.drop (p+1))[k+nn-(p+1)]?=zs i:=by rw[List.getElem?_drop];rw[show p+1+(k+nn-(p+1))=k+nn by omega];exact hl
           grind
         . rw[a3,a2 p j U ac af X I J];rfl).2.2
        have aa:x.careful=zt:=by
         rw[bj];unfold j9;rw[a3,zqk];refine⟨rfl,List.any_eq_true.2 ⟨j,?_,?_⟩⟩
         . rw[List.append_nil,List.mem_reverse]
           have:(l.take (k+nn))[p]?=zs j:=by grind
           grind
         . rw[al I J,a2 p j U ac af X I J];rfl
        have ay:=a9 aa;rw[a5,<-eM o.op aw,hid]at ay;have hni:id∉hm.2:=Yf (by
         have ay:(!(qJ id hm.2))=zt:=ay;grind)
        grind
      . exact((eN V hi.st nn (G,hm) C (by grind)).get id Y).symm
     rw[<-x6 o.op aw]at h1;grind[jL]
   . rw [← x6 o.op aw]at h1
     obtain⟨es,sz,nx,h4,h5,_,c,t,vs,v',h6,h7,h8,h9,h10⟩:=rY hE hi.sat hi.frep o hc h1;refine .inl ?_;unfold Oper.wp;rw[h6];show K (a.put o.dst v') (W.alloc (.cells c t))
     have B:Kz E call xs s₀ m:=⟨(G,hm),x,C,hx,a0,by grind⟩
     have he:Ext W cx (W.alloc (.cells c t)) ⟨cx.μ,cx.nx,fun y=>cx.own y\/y=W.heap.size,fun y=>cx.held y\/y=W.heap.size⟩:=
      ⟨⟨zqb _,fun _ _=>rfl,by simp,fun b hb _=>cw W _ hb,(by grind[Go.AM.mm,Go.AM.cw]),(by grind)⟩,
        (by grind[Go.AM.cw]),rfl,rfl,rfl⟩
     have N:Sat E (W.alloc (.cells c t)) ⟨cx.μ,cx.nx,fun y=>cx.own y\/y=W.heap.size,fun y=>cx.held y\/y=W.heap.size⟩ h.1:=
      ⟨hi.sat.nx,fun id y hy=>by
        obtain⟨k1,k2,k3,k4⟩:=hi.sat.objs id y hy;exact⟨k1,.inl k2,zqf k3 he.sz,k4.mono he (cw W _ k3)⟩,
        hi.sat.inj,hi.sat.gl.mono he,fun b hb=>by
         rcases hb with hb|rfl
         . exact⟨zqf (hi.sat.held b hb).1 he.sz,.inl (hi.sat.held b hb).2⟩
         . exact⟨by simp,.inr rfl⟩,
        fun id y hy hh=>by
         rcases hh with hh|hh
         . exact hi.sat.free id y hy hh
         . have k3:(cx.μ id).1<W.heap.size:=(hi.sat.objs id y hy).2.2.1
           grind⟩
     refine hK _ _ (fun q=>if q=m then W.heap.size else β q) _ fr h (co o.dst .und fp) (hi.more V av (zqd hk) hl ho hn hdeps he (fun b hh hw=>.inl hw) (Rep.und v') hi.st (.inl rfl) hi.kle ak N (fun _ _=>rfl) (fun q hq=>if_neg hq) (fun _=>rfl)
      (fun _=>⟨au,(G,hm),x,(v,H),C,hx,ai,.inr ⟨B,?_⟩⟩) (fun _ _ b hb=>?_) fun aq=>absurd aq (by omega))
     . rw [if_pos rfl]
       refine⟨.inr rfl,.inr rfl,hi.ext.sz,es,sz,nx,by grind,?_,fun t' bi Y W₂ cx₂ id k1 k2 k3 k4=>?_⟩
       . exact N2.mk (t:=t) rfl (K7 W _) (by grind) (by grind) (h7.mono he)
       . have e:(a.put o.dst v').tmps.getD t' undef=v':=by
          rw[bi]at Y|-;have Y:t'<(a.tmps.setIfInBounds t' v').size:=Y;have a4:t'<a.tmps.size:=by grind
          show(a.tmps.setIfInBounds t' v').getD t' undef=v'
          simp[Array.getD,a4]
         grind[Tp]
     . show(if m=m then W.heap.size else β m)≠b
       rw[if_pos rfl]
       have:=(hi.sat.held b hb).1
       omega
   grind
end
end Go.AM
/-
 The abstract machine: what is shown of plain frames holds of a round's frames too (no operation of a region may defer).
-/
namespace Go.AM
def WF(ro:Option Nat):Fence:={Fence.wide with round:=ro}
theorem La{ro:Option Nat}{n:Nat}{P:Program}{f:FuncId}{args:Array Value}{w:World}{R:Ending->World->Prop}:CallsIn (WF ro) n P f args w R↔Calls P f args w R:=
 (show CallsIn (WF ro) n P f args w R↔CallsIn Fence.wide n P f args w R from Iff.rfl).trans callsIn_wide
section
variable {ro:Option Nat}{P:Program}{ops:Array Oper}{Q:Exit->Act->World->Prop}
def Si(o:Oper):Prop:=∀c,o.op≠.defer c
theorem a03{o:Oper}(B:Si o){a:Act}{w:World}{K:Act->World->Prop}(h:o.wp P a w K Q):o.wpIn (WF ro) 0 P a w K Q:=by
 refine⟨fun _ _=>trivial,?_⟩;rw[Oper.semAt_eq _ _ _ B];unfold Oper.wp at h;generalize (execOp a.eval o).run P w=r at h;cases r with
 |ok x w'=>
  cases x with
  |value v=>exact h
  |skip=>exact h
  |defer d=>exact h
  |enter f args=>
   refine⟨fun h=>by simp[WF,Fence.wide]at h,La.2 ?_⟩;exact Calls.mono h fun e w' hp=>by grind
  |row r args=>
   refine⟨fun h=>by simp[WF,Fence.wide]at h,fun c cs _=>?_⟩;obtain⟨v,w',C,D⟩:=h c cs;exact⟨v,w',C,(stepsIn_wide (P:=P)).2 D⟩
  |_=>exact h.elim
 |halt x w'=>cases x<;>exact h
theorem Lb(hl:¬LetsOut Q):∀(l:List Oper),(∀o∈l,Si o)->∀(a:Act)(w:World),wpList P ops Q l a w->wpListIn (WF ro) 0 P ops Q l a w
 |[],_,a,w,h=>h
 |o :: l,hn,a,w,h=>by
  unfold wpList at h;unfold wpListIn;split
  . rename_i B
    rw[if_pos B]at h;rcases h with h|⟨_,h⟩
    . exact Oper.wpIn_mono (fun a w h=>Lb hl l (by grind) a w h) (by grind[Go.AM.a03])
    grind
  . rename_i B
    rw[if_neg B]at h;exact⟨fun _ _=>trivial,Lb hl l (by grind) _ w h⟩
theorem aQ(hl:¬LetsOut Q)(hn:∀(i:Nat)(o:Oper),ops[i]?=zs o->Si o){G:Region.Mode}:∀(C:Nat)(B:Array Bool)(a:Act)(w:World),wpAny P G ops Q C B a w->wpAnyIn (WF ro) 0 P G ops Q C B a w
 |0,B,a,w,h=>h
 |C+1,B,a,w,h=>by
  refine⟨h.1,fun i hi=>?_⟩;have h:=h.2 i hi;unfold wpOp at h;unfold wpOpIn;cases ho:ops[i]? with
  |none=>rw[ho]at h;exact aQ hl hn C _ a w h
  |some o=>
   rw[ho]at h;dsimp only at h|-;split
   . rename_i D
     rw[if_pos D]at h;rcases h with h|⟨_,h⟩
     . exact Oper.wpIn_mono (fun a w h=>aQ hl hn C _ a w h) (a03 (hn i o ho) h)
     grind
   . rename_i D
     rw[if_neg D]at h;exact⟨fun _ _=>trivial,aQ hl hn C _ _ w h⟩
theorem oK{id:Nat}{a:Act}{w:World}(hl:¬LetsOut Q)(hn:∀o∈ops.toList,Si o)(h:wpList P ops Q ops.toList a w):(Code.region id ops zf).wpIn (WF ro) 0 P Q a w:=
 wpIn_region_list (Lb hl _ hn a w h)
theorem iQ{F:Fence}{n:Nat}{c:Code}{a:Act}{w:World}(h:c.wpIn F n P (Exit.noGoto Q) a w):(Code.scope c).wpIn F n P Q a w:=by
 intro b k cs J hb N;have h0:(lone (b.atR a (.code (.scope c)::k)) cs w).fenced P F:=fenced_calm hb N rfl;have H:Go.step P (lone (b.atR a (.code (.scope c)::k)) cs w)=.next (lone (b.atR a (.code c::.inScope c::k)) cs w):=step_lone_go (by simp[stepG,stepG.exec,Frame.atR]);obtain⟨e,B,C,I,D⟩:=h b (.inScope c::k) cs J hb N;cases e with
 |normal=>
  have X:Go.step P (lone (b.atR B (.inScope c::k)) cs C)=.next (lone (b.atR B k) cs C):=step_lone_go (by simp[stepG,stepG.exec,Frame.atR]);exact⟨.normal,B,C,I,.head h0 H (StepsIn.trans D (.one (fenced_calm hb N rfl) X))⟩
 |exit id=>
  exact ⟨.exit id,B,C,I,fun k' U=>.head h0 H (D.1 k' (by simp[exitTo,U])),
   fun V U=>let⟨G,Y,h2⟩:=D.2 V (by simp[exitTo,U]);⟨G,Y,.head h0 H h2⟩⟩
 |goto l=>exact I.elim
 |_=>exact⟨_,B,C,I,.of_steps (.one h0 H) D⟩
end
end Go.AM
/-
 The abstract machine: maps.DeleteFunc and slices.Sorted at a map's keys,told of: what their outcome is.
-/
namespace Go.AM
section
variable {E:Env}{ih:E9}
end
end Go.AM
/-
 The abstract machine: a region that draws its order is sound; and what all calls leave as it was.
-/
namespace Go.AM
section
variable {P:Program}{E:Env}{call:E3}{ops:Array Oper}{ms l:List Nat}{sk:Nat->Prop}{xs:List XOp}{s₀:Tr×HD}{W₀:World}{S:Act->Prop}{cx₀:Cx}
def jj(B:Array Bool)(i:Nat):Prop:=B[i]?=zs zt
theorem Inv.far(G:jf ops ms l sk xs){lis:Nat->Prop}{β:Nat->Nat}{W:World}{a:Act}:∀(n k:Nat){cx:Cx}{fr fp:Tr}{h:HD},lz l-k=n->Inv E call ops ms l sk xs s₀ W₀ S cx₀ lis β k W cx a fr h fp ->
 ∃k' cx' fr' h' B,Inv E call ops ms l sk xs s₀ W₀ S cx₀ lis β k' W cx' a fr' h' B/\(k'=lz l\/∃i,l[k']?=zs i/\¬lis i)
 |0,k,cx,fr,fp,h,hn,hi=>⟨k,cx,fr,h,fp,hi,.inl (by have:=hi.kle;omega)⟩
 |n + 1,k,cx,fr,fp,h,hn,hi=>by
  have H:k<lz l:=by omega
  have hl:l[k]?=zs l[k]:=List.getElem?_eq_getElem H;by_cases C:lis l[k]
  . obtain⟨cx',fr',h',B,D⟩:=hi.advance G hl C
    exact Inv.far G n (k+1) (by omega) D
  grind
theorem Inv.done(hp:jf ops ms l sk xs){lis:Nat->Prop}{β:Nat->Nat}{W:World}{a:Act}{cx:Cx}{fr fp:Tr}{h:HD}{r:cz}(hi:Inv E call ops ms l sk xs s₀ W₀ S cx₀ lis β (lz l) W cx a fr h fp)(D:xj E call ops ms l sk xs s₀ r):r.Post E W₀ cx₀ S .normal a W:=by
 rcases D.res with⟨_,fr',h',H,rfl⟩|⟨m₀,B,o₁,fr',h',v,hh,G,C,_⟩
 . rw[hi.st]at H
   cases H;refine⟨hi.dfr,cx,hi.ext,rfl,hi.sat,fun t=>?_,fun t I=>hi.frep.has t (by rw[hi.has];exact I)⟩;rw[<-hi.old t (by grind)];exact hi.frep.rep t
 . exact absurd (hi.pre m₀ B (V2 C) C) (hi.stop m₀ B G C)
theorem Nr{B:Array Bool}(hsz:B.size=ops.size){i:Nat}:i∈Region.ready .any ops B↔i<ops.size/\¬jj B i/\∃o,ops[i]?=zs o/\∀e∈jk o,jj B e:=by
 unfold Region.ready;rw[List.mem_filter,List.mem_range]
 constructor
 . rintro ⟨D,G⟩
   rw[zqk]at G;obtain⟨G,C⟩:=G;have ho:ops[i]?=zs ops[i]:=zqg D;have H:i<B.size:=by grind
   refine⟨D,fun e=>?_,ops[i],ho,fun e U=>?_⟩
   . grind[jj,zqh]
   . rw[ho]at C
     simp only[Option.map_some,Option.getD_some]at C;unfold jk at U;obtain⟨d,V,rfl⟩:=List.mem_map.1 U;obtain⟨J,N⟩:=List.mem_filter.1 V;rw[<-zqi]at C;have I:=(List.all_eq_true.1 C) d J;rw[N]at I;simp only[Bool.not_true,Bool.false_or]at I;unfold jj;rw[zqh]at I;grind
 . rintro ⟨D,G,o,ho,C⟩
   have H:i<B.size:=by grind
   refine⟨D,?_⟩;rw[zqk]
   constructor
   . simp_all[jj]
   . rw [ho]
     simp only[Option.map_some,Option.getD_some];rw[<-zqi];refine List.all_eq_true.2 fun d V=>?_
     cases hb:Region.binds .any d with
     |false=>rfl
     |true=>
      have:=C d.on (by unfold jk;grind)
      simp_all[jj]
theorem oL(hE:dn E P)(N:Ev E P call)(aa:N3 call)(I:jf ops ms l sk xs){r:cz}(J:xj E call ops ms l sk xs s₀ r){Q:Exit->Act->World->Prop}(hQ:∀x a' w',r.Post E W₀ cx₀ S x a' w'->Q x a' w'):
 ∀ (C:Nat) (B:Array Bool) (a:Act) (W:World) (D:List Nat),B.size=ops.size->lz D<=C->(∀i,i<ops.size->¬jj B i->i∈D) ->
   (∃β k cx fr h fp,Inv E call ops ms l sk xs s₀ W₀ S cx₀ (jj B) β k W cx a fr h fp)->wpAny P .any ops Q C B a W:=by
 intro C
 induction C with
 |zero=>
  intro B a W D hsz ah U G;have ai:D=[]:=(by grind)
  have aj:∀i,i<ops.size->jj B i:=(by grind)
  obtain⟨β,k,cx,fr,h,fp,hi⟩:=G;obtain⟨k',cx',fr',h',an,H,Y⟩:=Inv.far I _ k rfl hi;refine⟨?_,?_⟩
  . cases hr:Region.ready .any ops B with
    |nil=>rfl
    |cons x xs=>
     grind[List.mem_cons_self,Nr]
  . rcases Y with rfl|⟨i,hl,hn⟩
    . exact hQ _ _ _ (H.done I J)
    . exact absurd (aj i (I.lt _ i hl)) hn
 |succ C ih=>
  intro B a W D hsz ah U G;obtain⟨β,k,cx,fr,h,fp,hi⟩:=G;obtain⟨k',cx',fr',h',an,H,Y⟩:=Inv.far I _ k rfl hi;have step:∀{i:Nat},i<ops.size->¬jj B i->∀(a':Act)(W':World)(β':Nat->Nat)(k2:Nat)(ab:Cx)(ac:Tr)(V:HD)(ad:Tr),
   Inv E call ops ms l sk xs s₀ W₀ S cx₀ (fun j=>jj B j\/j=i) β' k2 W' ab a' ac V ad->wpAny P .any ops Q C (B.setIfInBounds i zt) a' W':=by
   intro i hi hn a' W' β' k2 ab ac V ad G;have am:(fun j=>jj B j\/j=i)=jj (B.setIfInBounds i zt):=by
    grind[jj]
   rw[am]at G;have hmem:=U i hi hn;refine ih (B.setIfInBounds i zt) a' W' (D.erase i) (by grind) (by grind) (fun j hj hnj=>?_) ⟨β',k2,ab,ac,V,ad,G⟩;grind
  refine⟨fun ai=>?_,fun i X=>?_⟩
  . rcases Y with rfl|⟨i,hl,hn⟩
    . exact hQ _ _ _ (H.done I J)
    . exfalso
      obtain⟨o,ho⟩:=I.op hl
      have:i∈Region.ready .any ops B:=(Nr hsz).2 ⟨I.lt _ i hl,hn,o,ho,fun e he=>by
       obtain⟨h1,V,_⟩:=I.edge i o e ho he;obtain⟨p,h3,h4⟩:=I.deps hl h1 V;exact H.pre p e h3 h4⟩
      grind
  . obtain ⟨h1,V,o,ho,h3⟩:=(Nr hsz).1 X
    obtain ⟨m,hm⟩:=I.all i h1;have hkm:k'<=m:=by
     rcases zqa m k' with h'|h'
     . exact absurd (H.pre m i h' hm) V
     . exact h'
    rcases Y with rfl|⟨i₀,af,ag⟩
    . grind
    . rcases zqa k' m with ao|hge
      . have ae:∀j,j<ops.size->bit (ms.getD i 0) j=zt->jj B j:=fun j hj hb=>by
         obtain⟨o',al,e,he,h4⟩:=I.mask j i hj h1 hb;rw[ho]at al;cases al;have ak:=h3 e he;rcases h4 with rfl|h4
         . exact ak
         . exact H.clo j e hj (I.edge i o e ho he).1 ak h4
        exact H.early hE N aa I ao hm V af ag ae J (Q:=Q) (by grind)
      . have:k'=m:=by omega
        subst this;exact H.due hE N I hm V J (Q:=Q) (by grind) hQ
end
theorem rA{E:Env}{W:World}{cx:Cx}{S:Act->Prop}{r:cz}:¬LetsOut (r.Post E W cx S):=by
 rintro⟨a,w,hd,cx',he,h⟩
 cases r with
 |ok e fr h'=>obtain⟨B,_⟩:=h;cases e<;>cases B
 |pan v h'=>grind
 |bad=>exact h
theorem oM{E:Env}{call:E3}{ops:Array Oper}{ms l:List Nat}(G:pn ops ms l){fr:Tr}{h:Vg}(hb:dm E call (Ac ops.toList ms [] l) fr h []≠.bad):
 ∃sk xs,jf ops ms l sk xs/\xj E call ops ms l sk xs (fr,(h,[])) (dm E call (Ac ops.toList ms [] l) fr h []):=by
 have C:lz (Ac ops.toList ms [] l)=lz l:=Pv l [] G.have;rcases mo (E:=E) (call:=call) (xs:=Ac ops.toList ms [] l) (s₀:=(fr,(h,[]))) _ 0 rfl (Nat.zero_le _) fr (h,[]) rfl (by rw[List.drop_zero];exact hb)with⟨fr',h',h1,h2⟩|⟨m,x,fr',h',v,hh,_,h1,h2,h3,h4,h5,h6⟩
 . rw[List.drop_zero]at h2
   rw[C]at h1;refine⟨fun _=>False,Ac ops.toList ms [] l,⟨G,C,fun m i o U ho=>⟨_,G.xget U ho,rfl,rfl,rfl,rfl,fun _=>rfl⟩⟩,⟨⟨_,h1⟩,(by grind)⟩⟩
 . rw [List.drop_zero]at h6
   have U:m<lz l:=by
    grind
   have hl:l[m]?=zs l[m]:=List.getElem?_eq_getElem U;have ho:ops[l[m]]?=zs (ops[l[m]]'(G.lt m _ hl)):=zqg _;generalize l[m]=i₀ at hl ho;generalize (ops[i₀]'_)=o₀ at ho;have H:=G.xget hl ho;rw[h2]at H;have H:=Option.some.inj H;have hlate:x.late=Nz ops.toList ms i₀ (l.drop (m+1)):=by rw[H];rfl
   have hgd:x.gd=G3 ops.toList o₀:=by rw[H];rfl
   have hop:x.op=o₀.op:=by rw[H];rfl
   let B:List Bool:=List.replicate m zf++zt::x.late;have f1:∀q,q<m->B[q]?=zs zf:=(by grind)
   have f2:B[m]?=zs zt:=by
    grind
   have f3:∀q,B[m+1+q]?=x.late[q]?:=(by grind)
   have I:=eJ (Ac ops.toList ms [] l) B;refine⟨fun q=>B[q]?=zs zt,bJ (Ac ops.toList ms [] l) B,⟨G,(eI _ _).trans C,fun q i o V X=>⟨_,I q _ (G.xget V X),?_,?_,?_,?_,fun hn=>?_⟩⟩,?_⟩
   . split<;>rfl
   . split<;>rfl
   . split<;>rfl
   . split<;>rfl
   . rw[if_neg hn];rfl
   . have J:St E call (bJ (Ac ops.toList ms [] l) B) (fr,(h,[])) m=zs (fr',h'):=by
      rw[eK m fun q V=>?_]
      . exact h1
      . cases hy:(Ac ops.toList ms [] l)[q]? with
        |none=>
         grind
        |some y=>simp_all
     have N:=Ly J (x:=Ti x) (by grind) (Ye x fr' h');have D:=Lz (ys:=bJ (Ac ops.toList ms [] l) B) ((Ac ops.toList ms [] l).drop (m+1)) x.late (m+1) _ h' h5 (by simp_all) N;rw[List.length_drop,C,show m+1+(lz l-(m+1))=lz l by omega]at D;obtain⟨n,h0,n',hpan,hhh⟩:=oI h4;refine⟨D,.inr ⟨m,i₀,o₀,fr',h',v,hh,f2,hl,ho,J,by grind,(by grind),h6,fun q V=>?_⟩⟩;rcases zqe q m with hlt|rfl|Y
     . grind
     . grind
     . refine .inr ⟨Y,?_⟩
       obtain⟨r,rfl⟩:∃r,q=m+1+r:=⟨q-(m+1),by omega⟩
       grind[Nz]
theorem iR{P:Program}{E:Env}{W:World}{cx:Cx}{h:Vg}(J:dn E P)(U:Sat E W cx h){a:Act}{fr:Tr}(hf:dh W cx a.tmps fr){S:Act->Prop}(V:S a){call:E3}(C:Ev E P call)(D:N3 call){id:Nat}{ops:Array Oper}{l:List Nat}
 (hst:∀(i:Nat)(o:Oper),ops[i]?=zs o->Lv S o.dst){ro:Option Nat}(hn:∀(i:Nat)(o:Oper),ops[i]?=zs o->Si o)(hok:Ny ops.toList (En ops.toList) l=zt)(hb:dm E call (Ac ops.toList (En ops.toList) [] l) fr h []≠.bad):
 (Code.region id ops zt).wpIn (WF ro) 0 P ((dm E call (Ac ops.toList (En ops.toList) [] l) fr h []).Post E W cx S) a W:=by
 have Y:=xF hok;refine wpIn_region_any J.mixed (aQ rA hn _ _ _ _ ?_);have N:Ext W cx {W with drawn:=W.drawn+1} cx:=Ext.of_heap rfl ⟨rfl,rfl,rfl⟩;obtain⟨sk,xs,I,G⟩:=oM Y hb;have B:∀i,¬jj (zqj ops.size zf) i:=(by grind[Go.AM.jj])
 refine oL (W₀:=W) (cx₀:=cx) J C D I G (fun x a' w' X=>X) ops.size (zqj ops.size zf) a _ (List.range ops.size) (by simp) (by simp) (fun i hi _=>List.mem_range.2 hi) ?_;exact⟨fun _=>0,0,cx,fr,(h,[]),fr,{
  st:=rfl
  kle:=Nat.zero_le _
  pre:=(by grind)
  stop:=fun m i _ _ H=>absurd H (B i)
  clo:=fun i j _ _ H=>absurd H (B j)
  sat:=U.mono rfl
  frep:=hf.mono N
  has:=fun _=>rfl
  ext:=N
  dfr:=V
  stab:=hst
  pend:=fun m i o _ _ hi=>absurd hi (B i)
  old:=fun _ _=>rfl
  sep:=(by grind)}⟩
def cz.heap(r:cz):Option Vg:=match r with | .ok _ _ h=>zs h | .pan _ h=>zs h | .bad=>zn
def dQ(ih:E9):Prop:=∀c fr h h',cz.heap (ih c fr h)=zs h'->gg h h'
theorem Ee{E:Env}{call:E3}(C:N3 call):∀(xs:List XOp)(fr:Tr)(h:Vg)(h':Vg),cz.heap (I3 E call xs fr h)=zs h'->gg h h'
 |[],fr,h,h',B=>by cases B;exact .refl h
 |x :: xs,fr,h,h',B=>by
  have B:cz.heap (iw (cm x.gd fr) .bad (X4 x.dst (I3 E call xs) fr (fg E call x.op fr h)) (I3 E call xs (co x.dst Yw fr) h))=zs h':=B;cases hg:cm x.gd fr with
  |none=>rw[hg]at B;cases B
  |some b=>
   rw[hg]at B;cases b with
   |false=>exact Ee C xs _ h h' B
   |true=>
    have B:cz.heap (X4 x.dst (I3 E call xs) fr (fg E call x.op fr h))=zs h':=B;cases D:fg E call x.op fr h with
    |bad=>rw[D]at B;cases B
    |pan v hh=>rw[D]at B;cases B;grind[ja]
    |ok v G=>
     rw[D]at B;exact(kw C D).trans (Ee C xs _ G h' B)
theorem Gv:∀(a b:List Nat),Au a b=a++b
 |[],_=>rfl
 |x::a,b=>by show x::Au a b=_;rw[Gv a b];rfl
theorem lq{h B:Vg}(D:gg {h with tch:=[]} B):gg h {B with tch:=Au (I4 h.next B.tch) h.tch}:=by
 obtain⟨hn,new,e,hg⟩:=D;refine⟨hn,I4 h.next B.tch,Gv _ _,fun i hi C=>hg i hi fun G=>C (l6.2 ⟨?_,hi⟩)⟩;rw[e];exact List.mem_append_left _ G
def qp.heap(r:qp):Option Vg:=match r with | .ok _ h _=>zs h | .pan _ h=>zs h | .bad=>zn
theorem Pn{E:Env}{call:E3}(C:N3 call){x:XOp}{fr:Tr}{h:Vg}{d:List Nat}{h':Vg}(B:qp.heap (dq E call x fr h d)=zs h'):gg h h':=by
 have plain:qp.heap (u6 d (fg E call x.op fr h))=zs h'->gg h h':=fun D=>by
  cases G:fg E call x.op fr h with
  |bad=>rw[G]at D;cases D
  |ok v H=>rw[G]at D;cases D;exact kw C G
  |pan v H=>rw[G]at D;cases D;exact ja C G
 unfold dq at B;cases G:x.quiet with
 |false=>
  rw[G]at B;simp only[cond_false]at B;cases hc:x.careful with
  |false=>grind
  |true=>
   rw[hc]at B;simp only[cond_true]at B;cases I:ly (lu E x.op fr) d with
   |false=>rw[I]at B;cases B
   |true=>grind
 |true=>
  rw[G]at B;have B:qp.heap (w8 h.next h.tch d (fg E call x.op fr {h with tch:=[]}))=zs h':=B;cases D:fg E call x.op fr {h with tch:=[]}with
  |ok J H=>rw[D]at B;cases B;grind[lq,kw]
  |pan J H=>rw[D]at B;cases B;grind[lq,ja]
  |bad=>rw[D]at B;cases B
theorem N0{α:Type}{b:Bool}{x y:α}{f:α->Option Vg}{h:Vg}(hr:f (bif b then x else y)=zs h)(hy:f y=zn):b=zt/\f x=zs h:=by
 grind
theorem Cm{E:Env}{call:E3}(B:N3 call):∀(xs:List XOp)(fr:Tr)(h:Vg)(d:List Nat)(h':Vg),cz.heap (dm E call xs fr h d)=zs h'->gg h h'
 |[],fr,h,d,h',C=>by cases C;exact .refl h
 |x :: xs,fr,h,d,h',C=>by
  have C:cz.heap (iw (cm x.gd fr) .bad (O6 x.dst (dm E call xs) (fb E call xs x.late (co x.dst Yw fr) h d) fr (dq E call x fr h d)) (dm E call xs (co x.dst Yw fr) h d))=zs h':=C;cases hg:cm x.gd fr with
  |none=>rw[hg]at C;cases C
  |some b=>
   rw[hg]at C;cases b with
   |false=>exact Cm B xs _ h d h' C
   |true=>
    have C:cz.heap (O6 x.dst (dm E call xs) (fb E call xs x.late (co x.dst Yw fr) h d) fr (dq E call x fr h d))=zs h':=C;cases D:dq E call x fr h d with
    |bad=>rw[D]at C;cases C
    |pan v hh=>
     rw[D]at C;obtain⟨_,C⟩:=N0 (f:=cz.heap) C rfl;cases C;exact Pn (d:=d) B (by rw[D];rfl)
    |ok v G d1=>
     rw[D]at C;exact(Pn (d:=d) B (h':=G) (by rw[D];rfl)).trans (Cm B xs _ G d1 h' C)
theorem Sj{b:Tr->Vg->cz}{r:cz}{h h':Vg}(D:cz.heap (Dv b r)=zs h')(ha:∀B,cz.heap r=zs B->gg h B)(hb:∀C B h',cz.heap (b C B)=zs h'->gg B h'):gg h h':=by
 cases r with
 |bad=>cases D
 |pan v hh=>exact ha _ D
 |ok e1 fr1 h1=>
  cases e1 with
  |normal=>exact(ha _ rfl).trans (hb _ _ _ D)
  |_=>exact ha _ D
theorem dR{b:Tr->Vg->cz}{r:cz}{h h':Vg}(D:cz.heap (Dm b r)=zs h')(ha:∀B,cz.heap r=zs B->gg h B)(hb:∀C B h',cz.heap (b C B)=zs h'->gg B h'):gg h h':=by
 cases r with
 |ok e1 fr1 h1=>
  cases e1 with
  |normal=>exact(ha _ rfl).trans (hb _ _ _ D)
  |_=>cases D
 |_=>cases D
theorem dS{b:Tr->Vg->Res}{r:cz}{h h':Vg}(D:Res.heap (Ah b r)=zs h')(ha:∀B,cz.heap r=zs B->gg h B)(hb:∀C B h',Res.heap (b C B)=zs h'->gg B h'):gg h h':=by
 cases r with
 |bad=>cases D
 |pan v hh=>exact ha _ D
 |ok e1 fr1 h1=>
  cases e1 with
  |normal=>exact(ha _ rfl).trans (hb _ _ _ D)
  |_=>cases D
theorem Jo{vs:Option (List AV)}{h h':Vg}(B:Res.heap (Li vs h)=zs h'):h'=h:=by
 cases vs with
 |none=>cases B
 |some vs=>cases B;rfl
theorem Ef{E:Env}{rs:List ResultVar}{r:cz}{h':Vg}(B:Res.heap (J0 E rs r)=zs h'):cz.heap r=zs h':=by
 cases r with
 |bad=>cases B
 |pan v hh=>exact B
 |ok e fr1 h1=>
  cases e with
  |exit i=>cases B
  |_=>rw[Jo B];rfl
def gn.heap(r:gn):Option Vg:=match r with | .ok _ _ _ h=>zs h | .bad=>zn
theorem N9{b:Tr->Vg->gn}{r:cz}{h h':Vg}(D:gn.heap (J1 b r)=zs h')(ha:∀B,cz.heap r=zs B->gg h B)(hb:∀C B h',gn.heap (b C B)=zs h'->gg B h'):gg h h':=by
 cases r with
 |ok e1 fr1 h1=>
  cases e1 with
  |normal=>exact(ha _ rfl).trans (hb _ _ _ D)
  |_=>cases D
 |_=>cases D
theorem Sk{b:Option Ex->Tr->Vg->gn}{r:gn}{h h':Vg}(D:gn.heap (Ll b r)=zs h')(ha:∀B,gn.heap r=zs B->gg h B)(hb:∀p C B h',gn.heap (b p C B)=zs h'->gg B h'):gg h h':=by
 cases r with
 |bad=>cases D
 |ok e1 p fr1 h1=>
  cases e1 with
  |normal=>exact(ha _ rfl).trans (hb _ _ _ _ D)
  |_=>exact ha _ D
theorem m9{p:Option Ex}{fr:Tr}{h h':Vg}(B:gn.heap (n8 p fr h)=zs h'):gg h h':=by cases B;exact .refl _
theorem lr{b:Option Bool}{x y:gn}{h:Vg}(B:gn.heap (iw b .bad x y)=zs h):(b=zs zt/\gn.heap x=zs h)\/(b=zs zf/\gn.heap y=zs h):=by
 cases b with
 |none=>cases B
 |some b=>cases b;exact .inr ⟨rfl,B⟩;exact .inl ⟨rfl,B⟩
theorem oN{r:gn}{h:Vg}(B:cz.heap (wh r)=zs h):gn.heap r=zs h:=by
 cases r with
 |bad=>cases B
 |ok e p fr h1=>cases e<;>first|exact B|cases B
section
variable {E:Env}{ih:E9}(hi:dQ ih)
include hi
theorem iS{x p:AV}{h h':Vg}(B:Res.heap (Du E ih x p h)=zs h'):gg h h':=by
 cases x with
 |fn f first caps=>
  cases f with
  |func n=>
   obtain⟨_,B⟩:=N0 (f:=Res.heap) B rfl;unfold Sp at B;cases hf:E.fn n with
   |none=>rw[hf]at B;cases B
   |some D=>
    rw[hf]at B;obtain⟨_,B⟩:=N0 (f:=Res.heap) B rfl;cases G:D.mode with
    |rcv d d2 rest=>
     rw[G]at B;obtain⟨_,B⟩:=N0 (f:=Res.heap) B rfl;cases C:ih rest (((Tr.enter D.ntmps caps).set d p).set d2 p) h with
     |ok e fr1 I=>
      rw[C]at B;have H:=hi _ _ _ I (by rw[C];rfl);cases e with
      |exit i=>cases B
      |_=>cases B;exact H
     |_=>rw[C]at B;cases B
    |_=>rw[G]at B;cases B
  |_=>cases B
 |_=>cases B
theorem Cn{rs:List ResultVar}{fr:Tr}{x p:AV}{h h':Vg}(B:Res.heap (j8 E rs fr (Du E ih x p h))=zs h'):gg h h':=by
 cases C:Du E ih x p h with
 |ok v h1=>
  rw[C]at B;rw[Jo B];exact iS hi (x:=x) (p:=p) (by rw[C];rfl)
 |_=>rw[C]at B;cases B
theorem Sl{g:Operand}{rest:XC}{rs:List ResultVar}:∀(pre:List XC)(fr:Tr)(h h':Vg),Res.heap (s5 E ih g rest rs pre fr h)=zs h'->gg h h'
 |[],fr,h,h',B=>by
  have B:Res.heap (J4 E ih (opv E g fr) rs fr (ih rest fr h))=zs h':=B;cases G:ih rest fr h with
  |bad=>rw[G]at B;cases B
  |pan v hh=>rw[G]at B;exact(hi _ _ _ hh (by rw[G];rfl)).trans (Cn hi B)
  |ok e fr1 I=>
   rw[G]at B;have H:=hi _ _ _ I (by rw[G];rfl);cases e with
   |exit i=>cases B
   |_=>exact H.trans (Cn hi B)
 |p::pre,fr,h,h',B=>dS (r:=ih p fr h) (b:=s5 E ih g rest rs pre) B (fun C q=>hi _ _ _ _ q) (fun D C h' q=>Sl pre D C h' q)
theorem Po:N3 (O7 E ih):=by
 intro f args h h' B;unfold O7 at B;cases H:E.told f with
 |true=>
  rw[H]at B;simp only[cond_true]at B
  have:h'=h:=by
   unfold pi at B;cases args with
   |nil=>cases B
   |cons x r=>
    cases r with
    |nil=>cases B
    |cons y r=>
     dsimp only at B;obtain⟨_,B⟩:=N0 (f:=Res.heap) B rfl;cases x with
     |str s=>
      cases y with
      |str p=>
       obtain⟨_,B⟩:=N0 (f:=Res.heap) B rfl;cases hc:gw p s<;>rw[hc]at B<;>cases B<;>rfl
      |_=>cases B
     |_=>cases B
  rw[this];exact .refl h
 |false=>
  rw[H]at B;simp only[cond_false]at B;cases D:E.dlf f with
  |some ks=>
   rw[D]at B;have B:Res.heap (iZ E ih ks args h)=zs h':=B;have hb:iZ E ih ks args h≠.bad:=fun e=>by rw[e]at B;cases B
   exact absurd rfl hb
  |none=>
   rw[D]at B;dsimp only at B;cases C:wg E f args h with
   |some r=>
    rw[C]at B;cases C
   |none=>
    rw[C]at B;dsimp only at B;cases hf:E.fn f with
    |none=>rw[hf]at B;cases B
    |some I=>
     rw[hf]at B;obtain⟨_,B⟩:=N0 (f:=Res.heap) B rfl;unfold Ps at B;cases G:I.mode with
     |rcv=>rw[G]at B;cases B
     |dfr pre g rest=>rw[G]at B;exact Sl hi _ _ _ _ B
     |_=>rw[G]at B;exact hi _ _ _ _ (Ef B)
theorem Sm:N3 (G8 E ih):=by
 intro f args h h' B;unfold G8 at B;cases hg:E.gc f with
 |false=>rw[hg]at B;exact Po hi f args h h' B
 |true=>
  rw[hg]at B;have B:Res.heap (NT h (O7 E ih f args {h with tch:=[]}))=zs h':=B;cases I:O7 E ih f args {h with tch:=[]}with
  |ok v H=>
   rw[I]at B;cases B;have J:=lq (Po hi f args {h with tch:=[]} H (by rw[I];rfl));obtain⟨hn,t,N,C⟩:=J;refine⟨hn,t,N,fun i D G=>?_⟩;show(h.os.trunc H.os).get i=h.os.get i
   have e:H.os.get i=h.os.get i:=C i D G;grind[HT.get_trunc]
  |_=>rw[I]at B;cases B
theorem aR{ps:List Tmp}{a b:XC}{fr:Tr}{args:List AV}{h h':Vg}(C:cz.heap (ee ih ps a b fr args h)=zs h'):gg h h':=by
 obtain⟨_,C⟩:=N0 (f:=cz.heap) C rfl;exact dR C (fun B q=>hi _ _ _ _ q) (fun fr₁ B h' q=>hi _ _ _ _ q)
theorem iT{p2:XC}{yd:Tmp}{fr:Tr}{r:cz}{h h':Vg}(C:gn.heap (Ia ih p2 yd fr r)=zs h')(ha:∀B,cz.heap r=zs B->gg h B):gg h h':=by
 cases r with
 |ok e fr1 h1=>
  refine(ha _ rfl).trans ?_;cases e with
  |_=>exact N9 C (fun B q=>hi _ _ _ _ q) (fun _ _ _ q=>m9 q)
 |_=>cases C
theorem Xs{nt:Nat}{Y:List AV->Vg->cz}(U:∀l h h',cz.heap (Y l h)=zs h'->gg h h'):∀(m:Nat)(c:IC)(p:Option Ex)(fr:Tr)(h h':Vg),gn.heap (evI E ih nt Y m c p fr h)=zs h'->gg h h'
 |0,c,p,fr,h,h',C=>by cases C
 |m + 1,c,p,fr,h,h',C=>by
  have k:=Xs (nt:=nt) U m;cases c with
  |reg x=>exact N9 (r:=ih x fr h) (b:=n8 p) C (fun B q=>hi _ _ _ _ q) (fun _ _ _ q=>m9 q)
  |seq a b=>exact Sk (r:=evI E ih nt Y m a p fr h) (b:=evI E ih nt Y m b) C (fun B q=>k a _ _ _ _ q) (by grind)
  |loop a=>exact Sk (r:=evI E ih nt Y m a p fr h) (b:=evI E ih nt Y m (.loop a)) C (fun B q=>k a _ _ _ _ q) (by grind)
  |cond x a b=>
   have C:gn.heap ((opv E x fr).onBool .bad fun t=>match t with|true=>evI E ih nt Y m a p fr h|false=>evI E ih nt Y m b p fr h)=zs h':=C;cases N:opv E x fr with
   |bool t=>
    rw[N]at C;cases t with
    |true=>exact k a _ _ _ _ C
    |false=>exact k b _ _ _ _ C
   |_=>rw[N]at C;cases C
  |block i a=>
   have C:gn.heap (Js i (evI E ih nt Y m a p fr h))=zs h':=C;cases I:evI E ih nt Y m a p fr h with
   |bad=>rw[I]at C;cases C
   |ok e1 p1 G H=>
    rw[I]at C;have J:=k a p fr h H (by rw[I];rfl);cases e1 with
    |exit j=>
     have C:gn.heap (bif Nat.beq j i then gn.ok .normal p1 G H else .ok (.exit j) p1 G H)=zs h':=C;cases hb:Nat.beq j i with
     |true=>rw[hb]at C;cases C;exact J
     |false=>grind
    |_=>cases C;exact J
  |yreg p0 gd yt p1 yd args p2=>
   refine N9 (r:=ih p0 fr h) (b:=fun fr h=>iw (cm gd fr) .bad (dY E ih nt Y gd yt p1 yd args p2 p fr h) (zJ ih gd yt p1 yd p2 p fr h)) C (fun B q=>hi _ _ _ _ q) (fun D B h' q=>?_);rcases lr q with⟨_,q⟩|⟨_,q⟩
   . cases p with
     |some _=>cases q
     |none=>
      obtain⟨_,q⟩:=N0 (f:=gn.heap) q rfl;refine N9 q (fun B q=>hi _ _ _ _ q) (fun D B h' q=>?_);rcases lr q with⟨_,q⟩|⟨_,q⟩
      . grind[iT]
      . cases q
   . refine N9 q (fun B q=>hi _ _ _ _ q) (fun D B h' q=>?_)
     rcases lr q with⟨_,q⟩|⟨_,q⟩
     . cases q
     . exact N9 q (fun B q=>hi _ _ _ _ q) (fun _ _ _ q=>m9 q)
  |_=>cases C;exact .refl _
theorem iU{ps:List Tmp}{a b:XC}{fr:Tr}{g:AV}{h h':Vg}(B:cz.heap (qq E ih ps a b fr h g)=zs h'):gg h h':=by
 cases g with
 |fn f first caps=>
  cases f with
  |func n=>
   obtain⟨_,B⟩:=N0 (f:=cz.heap) B rfl;have C:∀r,cz.heap (mz fr r)=zs h'->cz.heap r=zs h':=fun r B=>by cases r<;>first|exact B|cases B
   have B:=C _ B;unfold itF at B;cases hf:E.fn n with
   |none=>rw[hf]at B;cases B
   |some G=>
    rw[hf]at B;obtain⟨_,B⟩:=N0 (f:=cz.heap) B rfl;cases D:G.mode with
    |itf c=>
     rw[D]at B;exact Xs hi (fun l h h' q=>aR hi q) _ _ _ _ _ _ (oN B)
    |_=>rw[D]at B;cases B
  |_=>cases B
 |_=>cases B
end
theorem Bj(E:Env):∀(n:Nat),dQ (ev E n)
 |0,c,fr,h,h',B=>by cases B
 |n + 1,c,fr,h,h',B=>by
  have ih:=Bj E n;have G:=Sm (E:=E) ih;cases c with
  |bad=>cases B
  |reg d l=>
   cases d with
   |false=>exact Ee G l fr h h' B
   |true=>exact Cm G l fr h [] h' B
  |seq x y=>exact Sj (r:=ev E n x fr h) (b:=ev E n y) B (fun C q=>ih x fr h C q) (fun D C h' q=>ih y D C h' q)
  |loop x=>exact Sj (r:=ev E n x fr h) (b:=ev E n (.loop x)) B (fun C q=>ih x fr h C q) (fun D C h' q=>ih (.loop x) D C h' q)
  |scope x=>exact ih x fr h h' B
  |rfn g ps a b=>exact iU ih B
  |rngm R y=>
   have B:cz.heap (Xv E (ev E n) R y fr h)=zs h':=B;have hb:Xv E (ev E n) R y fr h≠.bad:=fun e=>by rw[e]at B;cases B
   exact absurd rfl hb
  |cond c x y=>
   have B:cz.heap (Pt (ev E n x) (ev E n y) (opv E c fr) fr h)=zs h':=B;cases U:opv E c fr with
   |bool b=>
    rw[U]at B;cases b with
    |true=>exact ih x fr h h' B
    |false=>exact ih y fr h h' B
   |_=>rw[U]at B;cases B
  |block i x=>
   have B:cz.heap (Em i (ev E n x fr h))=zs h':=B;cases I:ev E n x fr h with
   |bad=>rw[I]at B;cases B
   |pan v hh=>rw[I]at B;exact ih x fr h h' (by rw[I];exact B)
   |ok e1 H J=>
    rw[I]at B;have N:=ih x fr h J (by rw[I];rfl);cases e1 with
    |exit j=>
     have B:cz.heap (bif Nat.beq j i then cz.ok .normal H J else .ok (.exit j) H J)=zs h':=B;cases hb:Nat.beq j i with
     |_=>rw[hb]at B;cases B;exact N
    |_=>cases B;exact N
  |_=>cases B;exact .refl h
theorem wT(E:Env)(n:Nat):N3 (G8 E (ev E n)):=Sm (Bj E n)
end Go.AM
