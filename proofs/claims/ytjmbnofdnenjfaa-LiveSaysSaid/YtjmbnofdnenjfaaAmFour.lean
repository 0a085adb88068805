/- The abstract machine, part four: regions that draw their order are sound; what calls leave as it was. Conditions: none. -/
import Derived.Test.YtjmbnofdnenjfaaAmThree
import Derived.OrdersIn
import Derived.TacticsIn
import Derived.LoopNIn
import Derived.Scope
set_option linter.unusedVariables false
set_option linter.unusedSectionVars false
set_option linter.unusedSimpArgs false
/-
 The abstract machine: a region that draws its order: whatever is drawn,what is told holds.
set_option maxHeartbeats 4000000
-/
open Nat renaming lt_or_ge→zqa,le_refl→zqb,le_trans→zqc,le_of_lt→zqd,lt_trichotomy→zqe,lt_of_lt_of_le→zqf
open Array renaming getElem?_eq_getElem→zqg,getD_eq_getD_getElem?→zqh,all_toList→zqi,replicate→zqj
open Bool renaming and_eq_true→zqk
namespace Go.AM
section
variable (E:Env)(call:E7)(ops:Array Oper)(ms l:List Nat)(sk:Nat->Prop)(xs:List XOp)(s₀:Tr×HD)(W₀:World)
def Kp(m:Nat):Prop:=∃s x,St E call xs s₀ m=some s/\xs[m]?=some x/\guardOk x.gd s.1=some true/\Ic x.op=2
structure NewP(W:World)(cx:Cx)(tmps:Array Value)(b:Nat)(s:Tr×HD)(r:AV×HD)(o:Oper):Prop where
 held:cx.held b
 own:cx.own b
 new:W₀.heap.size<=b
 rest:∃(es:List AV)(sz:Nat)(nx:Nat->AV),r=(nx s.2.1.next,(s.2.1.push (.row es sz),s.2.2))/\Q1 W cx (b,0,sz) (.row es sz)/\
  ∀(t:Nat),o.dst=some t->t<tmps.size->∀(W₂:World)(cx₂:Cx)(id:Nat),cx₂.μ id=(b,0,sz)->id<cx₂.nx->b<W₂.heap.size->szOf W₂ b=szOf W b->Rep W₂ cx₂ (tmps.getD t undef) (nx id)
def rY(W:World)(cx:Cx)(tmps:Array Value)(fr fp:Tr)(b:Nat)(m:Nat)(o:Oper):Prop:=
 Ic o.op≠3/\∃s x r,St E call xs s₀ m=some s/\xs[m]?=some x/\stp E call x s.1 s.2=some r/\
  ((¬Kp E call xs s₀ m/\r.2=s.2/\∀t,o.dst=some t->fp.get t=if fr.has t then r.1 else .und)\/(Kp E call xs s₀ m/\NewP W₀ W cx tmps b s r o))
structure Inv(S:Act->Prop)(cx₀:Cx)(lis:Nat->Prop)(β:Nat->Nat)(k:Nat)(W:World)(cx:Cx)(a:Act)(fr:Tr)(h:HD)(fp:Tr):Prop where
 st:St E call xs s₀ k=some (fr,h)
 kle:k<=l.length
 pre:∀(m i:Nat),m<k->l[m]?=some i->lis i
 stop:∀(m i:Nat),sk m->l[m]?=some i->¬lis i
 clo:∀(i j:Nat),i<ops.size->j<ops.size->lis j->bit (ms.getD j 0) i=true->lis i
 sat:Sat E W cx h.1
 frep:FrRep W cx a.tmps fp
 has:∀t,fp.has t=fr.has t
 ext:Ext W₀ cx₀ W cx
 dfr:S a
 stab:∀(i:Nat)(o:Oper),ops[i]?=some o->Lc S o.dst
 pend:∀(m i:Nat)(o:Oper),k<=m->l[m]?=some i->lis i->ops[i]?=some o->rY E call xs s₀ W₀ W cx a.tmps fr fp (β m) m o
 old:∀t,(∀(m i:Nat)(o:Oper),k<=m->l[m]?=some i->lis i->ops[i]?=some o->o.dst≠some t)->fp.get t=fr.get t
 sep:∀(m m' i i':Nat),k<=m->k<=m'->l[m]?=some i->l[m']?=some i'->lis i->lis i'->Kp E call xs s₀ m->Kp E call xs s₀ m'->β m=β m'->m=m'
end
section
variable {P:Program}{E:Env}{call:E7}{ops:Array Oper}{ms l:List Nat}{sk:Nat->Prop}{xs:List XOp}{s₀:Tr×HD}{W₀:World}{S:Act->Prop}{cx₀:Cx}{lis:Nat->Prop}{β:Nat->Nat}{k:Nat}{W:World}{cx:Cx}{a:Act}{fr fp:Tr}{h:HD}
theorem NewP.mono{W':World}{cx':Cx}{tmps tmps':Array Value}{b:Nat}{s:Tr×HD}{r:AV×HD}{o:Oper}(he:Ext W cx W' cx')(hb:b<W.heap.size)(ho:cx'.own b)(ht:∀t,o.dst=some t->tmps'.size=tmps.size/\tmps'.getD t undef=tmps.getD t undef)(hn:NewP W₀ W cx tmps b s r o):NewP W₀ W' cx' tmps' b s r o:=by
 obtain⟨h1,h2,h3,es,sz,nx,h4,h5,h6⟩:=hn;obtain⟨h7,h8⟩:=he.hold b hb h1;refine⟨h7,ho,h3,es,sz,nx,h4,h5.mono he h8,fun t htd hlt W₂ cx₂ id k1 k2 k3 k4=>?_⟩;obtain⟨e1,e2⟩:=ht t htd;rw[e2];exact h6 t htd (by grind) W₂ cx₂ id k1 k2 k3 (by rw[k4,he.shape b hb])
theorem Il{o:Oper}(hl:∀t∈AM.looksAt ops.toList o,fp.get t=fr.get t):guardOk (G4 ops.toList o) fp=guardOk (G4 ops.toList o) fr:=by
 unfold G4;cases hg:o.guard with
 |none=>rfl
 | some p =>
  dsimp only;show Ku _ fp=Ku _ fr
  grind[Ku,AM.looksAt]
theorem Xy{o:Oper}(hl:∀t∈AM.looksAt ops.toList o,fp.get t=fr.get t):∀y∈o.op.operands.toList,opv E y fp=opv E y fr:=by
 intro y hy;cases y with
 |tmp t=>exact hl t (by unfold AM.looksAt;grind)
 |_=>rfl
theorem Inv.looks(hp:PlanX ops ms l sk xs)(hi:Inv E call ops ms l sk xs s₀ W₀ S cx₀ lis β k W cx a fr h fp){m i:Nat}{o:Oper}(hk:k<=m)(hl:l[m]?=some i)(ho:ops[i]?=some o)(hn:¬lis i)(hd:∀j,j<ops.size->bit (ms.getD i 0) j=true->lis j)
 (hfirst:m=k\/∃j,l[k]?=some j/\¬lis j){frm:Tr}{hm:HD}(hst:St E call xs s₀ m=some (frm,hm)):∀t∈AM.looksAt ops.toList o,fp.get t=frm.get t:=by
 intro t ht;have hisz:=hp.lt m i hl;by_cases hex:∃p i' o',k<=p/\p<m/\l[p]?=some i'/\ops[i']?=some o'/\o'.dst=some t
 . obtain ⟨p,i',o',h1,h2,h3,h4,h5⟩:=hex
   cases hb:bit (ms.getD i 0) i' with
   |false=>exact absurd ht ((hp.apart h2 h3 hl h4 ho hb).2.1 t h5)
   | true =>
    have hlis:=hd i' (hp.lt p i' h3) hb;obtain⟨h6,s,x,r,h7,h8,h9,h10⟩:=hi.pend p i' o' h1 h3 hlis h4;rcases h10 with⟨_,_,h11⟩|⟨h11,_⟩
    . rw[h11 t h5]
      exact(DQ hp hi.st h1 h2 h7 hst h8 h9 h3 h4 h5).symm
    . exfalso
      obtain⟨s',x',_,k2,_,k4⟩:=h11;obtain⟨x2,hx,_,hxo,_⟩:=hp.xat p i' o' h3 h4;rw[k2]at hx;cases hx;have hc:Ic o'.op=2:=by grind
      rcases hfirst with rfl|⟨j,hj,hnj⟩
      . omega
      . rcases zqa k p with hkp|hkp
        . exact hnj (hd j (hp.lt k j hj) (hp.news p i' o' h3 h4 hc m i h2 hl hb k j hkp hj))
        grind
 . obtain ⟨n,rfl⟩:∃n,m=k+n:=⟨m-k,by omega⟩
   rw[kD hp hi.st n (frm,hm) hst (t:=t) (by grind)];refine hi.old t fun q i' o' h1 h2 h3 h4 h5=>?_
   rcases zqe q (k+n)with hq|hq|hq
   . grind
   . grind
   . cases hb:bit (ms.getD i' 0) i with
     |true=>exact hn (hi.clo i i' hisz (hp.lt q i' h2) h3 hb)
     |false=>exact absurd ht ((hp.apart hq hl h2 ho h4 hb).2.2 t h5)
theorem dY{a:Act}{d:Option Tmp}{v:Value}{t:Nat}(h:d≠some t):(a.put d v).tmps.size=a.tmps.size/\(a.put d v).tmps.getD t undef=a.tmps.getD t undef:=by
 cases d with
 |none=>exact⟨rfl,rfl⟩
 | some d =>
  have hne:d≠t:=fun e=>h (by rw[e])
  show(a.tmps.setIfInBounds d v).size=_/\(a.tmps.setIfInBounds d v).getD t undef=_
  simp_all
theorem rY.mono{W':World}{cx':Cx}{tmps tmps':Array Value}{fr' fp':Tr}{b m:Nat}{o:Oper}(he:Ext W cx W' cx')(hb:cx.held b->b<W.heap.size)(hown:cx.held b->cx.own b->cx'.own b)(hhas:∀t,fr'.has t=fr.has t)
 (ht:∀t,o.dst=some t->tmps'.size=tmps.size/\tmps'.getD t undef=tmps.getD t undef/\fp'.get t=fp.get t)(hpd:rY E call xs s₀ W₀ W cx tmps fr fp b m o):rY E call xs s₀ W₀ W' cx' tmps' fr' fp' b m o:=by
 obtain⟨h1,s,x,r,h2,h3,h4,h5⟩:=hpd;refine⟨h1,s,x,r,h2,h3,h4,?_⟩;rcases h5 with⟨h6,h7,h8⟩|⟨h6,h7⟩
 . grind
 . exact .inr ⟨h6,h7.mono he (hb h7.held) (hown h7.held h7.own) (by grind)⟩
theorem Inv.more(hp:PlanX ops ms l sk xs)(hi:Inv E call ops ms l sk xs s₀ W₀ S cx₀ lis β k W cx a fr h fp){m i:Nat}(hsk:¬sk m){o:Oper}(hk:k<=m)(hl:l[m]?=some i)(ho:ops[i]?=some o)(hn:¬lis i)(hd:∀j,j<ops.size->bit (ms.getD i 0) j=true->lis j)
 {v':Value}{W':World}{cx':Cx}(he:Ext W cx W' cx')(hown:∀b,cx.held b->cx.own b->cx'.own b){v:AV}(hv:Rep W' cx' v' v){k':Nat}{fr':Tr}{h':HD}{β':Nat->Nat}
 (hst:St E call xs s₀ k'=some (fr',h'))(hkk:k'=k\/(k'=k+1/\m=k))(hkl:k'<=l.length)(hpre:∀(q j:Nat),q<k'->l[q]?=some j->lis j\/j=i)(hs:Sat E W' cx' h'.1)(hfr:∀t,o.dst≠some t->fr'.get t=fr.get t)
 (hβ:∀q,q≠m->β' q=β q)(hhas:∀t,fr'.has t=fr.has t)
 (hown2:k'<=m->rY E call xs s₀ W₀ W' cx' (a.put o.dst v').tmps fr' (setDst o.dst v fp) (β' m) m o)(hsep:k'<=m->Kp E call xs s₀ m->∀b,cx.held b->β' m≠b)(hdst:m<k'->∀t,o.dst=some t->(setDst o.dst v fp).get t=fr'.get t):
 Inv E call ops ms l sk xs s₀ W₀ S cx₀ (fun j=>lis j\/j=i) β' k' W' cx' (a.put o.dst v') fr' h' (setDst o.dst v fp):=by
 have hk':k<=k':=by omega
 exact {
  st:=hst
  kle:=hkl
  pre:=hpre
  stop q j hq hlq hj:=by
   rcases hj with hj|rfl
   . exact hi.stop q j hq hlq hj
   . have:=hp.inj q m _ hlq hl
     grind
  clo x y hx hy hly hb:=by
   rcases hly with hly|rfl
   . exact .inl (hi.clo x y hx hy hly hb)
   grind
  sat:=hs
  frep:=(hi.frep.mono he).put o.dst hv
  has t:=by rw[S8,hhas];exact hi.has t
  ext:=hi.ext.trans he
  dfr:=hi.stab i o ho _ _ hi.dfr
  stab:=hi.stab
  pend q j oq hkq hlq hlis hoq:=by
   by_cases hq:q=m
   . grind
   . rw [hβ q hq]
     have hlj:lis j:=by
      rcases hlis with h1|rfl
      . exact h1
      . exact absurd (hp.inj q m _ hlq hl) hq
     refine(hi.pend q j oq (zqc hk' hkq) hlq hlj hoq).mono he (fun h=>(hi.sat.held _ h).1) (hown _) hhas fun t htd=>?_
     have hne:o.dst≠some t:=by
      intro e;rcases zqa q m with h1|h1
      . exact hp.dst q m j i oq o t h1 hlq hl hoq ho htd e
      . exact hp.dst m q i j o oq t (by omega) hl hlq ho hoq e htd
     grind[dY,Y5]
  old t ht:=by
   by_cases hdt:o.dst=some t
   . grind
   . rw[Y5 hdt,hfr t hdt]
     refine hi.old t fun q j oq hkq hlq hlj hoq=>?_
     grind
  sep q q' j j' hq hq' hlq hlq' hlj hlj' hnq hnq' he':=by
   have lisOf:∀{q j},q≠m->l[q]?=some j->(lis j\/j=i)->lis j:=by
    intro q j hqm hlq hlj;rcases hlj with h1|rfl
    . exact h1
    . exact absurd (hp.inj q m _ hlq hl) hqm
   have heldOf:∀{q j},q≠m->k'<=q->l[q]?=some j->(lis j\/j=i)->Kp E call xs s₀ q->cx.held (β q):=by
    intro q j hqm hkq hlq hlj hnq;obtain⟨oq,hoq⟩:∃oq,ops[j]?=some oq:=⟨_,zqg (hp.lt q j hlq)⟩
    obtain⟨_,s,x,r,_,_,_,h5⟩:=hi.pend q j oq (zqc hk' hkq) hlq (lisOf hqm hlq hlj) hoq;rcases h5 with⟨h6,_⟩|⟨_,h7⟩
    . grind
    . exact h7.held
   by_cases h1:q=m<;>by_cases h2:q'=m
   . rw[h1,h2]
   . grind
   . grind
   . rw[hβ q h1,hβ q' h2]at he'
     exact hi.sep q q' j j' (zqc hk' hq) (zqc hk' hq') hlq hlq' (lisOf h1 hlq hlj) (lisOf h2 hlq' hlj') hnq hnq' he'}
end
end Go.AM
/-
 The abstract machine: a region that draws its order: each step,and the whole.
-/
namespace Go.AM
section
variable {P:Program}{E:Env}{call:E7}{ops:Array Oper}{ms l:List Nat}{sk:Nat->Prop}{xs:List XOp}{s₀:Tr×HD}{W₀:World}{S:Act->Prop}{cx₀:Cx}{lis:Nat->Prop}{β:Nat->Nat}{k:Nat}{W:World}{cx:Cx}{a:Act}{fr fp:Tr}{h:HD}
theorem FrRep.setIf{tmps:Array Value}{fr:Tr}(hf:FrRep W cx tmps fr){i:Nat}{x:AV}(hx:i<tmps.size->Rep W cx (tmps.getD i undef) x):FrRep W cx tmps (fr.set i x) where
 rep j:=by
  by_cases e:i=j
  . subst e
    rw[Tr.get_set_eq];split
    . rename_i hh;exact hx (hf.has _ hh)
    . exact .und _
  . rw[Tr.get_set_ne _ _ _ _ e];exact hf.rep j
 has j hj:=by rw[Tr.has_set]at hj;exact hf.has j hj
def Cx.adopt(cx:Cx)(b sz:Nat):Cx:=⟨fun id=>if id=cx.nx then(b,0,sz)else cx.μ id,cx.nx+1,cx.own,fun x=>cx.held x/\x≠b⟩
theorem Cx.adopt_new(cx:Cx)(b sz:Nat):(cx.adopt b sz).μ cx.nx=(b,0,sz):=by simp[Cx.adopt]
theorem Cx.adopt_old(cx:Cx)(b sz:Nat){i:Nat}(h:i<cx.nx):(cx.adopt b sz).μ i=cx.μ i:=by
 grind[Cx.adopt]
theorem Ext0.adopt(W:World)(cx:Cx)(b sz:Nat):Ext0 W cx W (cx.adopt b sz):=
 ⟨Nat.le_succ _,fun id hid=>cx.adopt_old _ _ hid,zqb _,fun _ _ _=>rfl,fun _ _=>rfl,fun _ _ h=>h⟩
theorem Sat.adopt{h:Heap}(hs:Sat E W cx h){b sz:Nat}(hb:cx.held b)(x:AObj)(hx:Q1 W cx (b,0,sz) x):Sat E W (cx.adopt b sz) (h.push x) where
 nx:=by show h.next+1=cx.nx+1;rw[hs.nx]
 objs id y hy:=by
  have he:=Ext0.adopt W cx b sz;by_cases hid:id=h.next
  . subst hid
    rw[Heap.get_push_eq]at hy;cases hy;rw[hs.nx,Cx.adopt_new];exact⟨Nat.lt_succ_self _,(hs.held b hb).2,(hs.held b hb).1,hx.mono0 he rfl⟩
  . rw[Heap.get_push_ne _ _ hid]at hy
    obtain⟨h1,h2,h3,h4⟩:=hs.objs id y hy;rw[Cx.adopt_old _ _ _ h1];exact⟨Nat.lt_succ_of_lt h1,h2,h3,h4.mono0 he rfl⟩
 inj id id' y y' hy hy' heq:=by
  have key:∀j z,h.get j=some z->(cx.μ j).1≠b:=fun j z hz e=>hs.free j z hz (by grind)
  by_cases hid:id=h.next<;>by_cases hid':id'=h.next
  . grind
  . rw[Heap.get_push_ne _ _ hid']at hy'
    rw[hid,hs.nx,Cx.adopt_new,Cx.adopt_old _ _ _ (hs.objs id' y' hy').1]at heq;grind
  . rw[Heap.get_push_ne _ _ hid]at hy
    rw[hid',hs.nx,Cx.adopt_new,Cx.adopt_old _ _ _ (hs.objs id y hy).1]at heq;grind
  . rw[Heap.get_push_ne _ _ hid]at hy
    rw[Heap.get_push_ne _ _ hid']at hy';rw[Cx.adopt_old _ _ _ (hs.objs id y hy).1,Cx.adopt_old _ _ _ (hs.objs id' y' hy').1]at heq;exact hs.inj id id' y y' hy hy' heq
 gl:=hs.gl.mono0 (Ext0.adopt W cx b sz)
 held x hx:=hs.held x hx.1
 free id y hy:=by
  by_cases hid:id=h.next
  . subst hid;rw[hs.nx,Cx.adopt_new];exact fun hh=>hh.2 rfl
  . rw[Heap.get_push_ne _ _ hid]at hy
    rw[Cx.adopt_old _ _ _ (hs.objs id y hy).1];exact fun hh=>hs.free id y hy hh.1
theorem PlanX.xdst(hp:PlanX ops ms l sk xs){m i:Nat}{o:Oper}(hm:l[m]?=some i)(ho:ops[i]?=some o){x:XOp}(hx:xs[m]?=some x):x.dst=o.dst/\x.op=o.op/\x.quiet=m5 ops.toList ms i (l.drop (m+1))/\x.careful=j3 ops.toList ms i ((l.take m).reverse++[])/\(¬sk m->x.gd=G4 ops.toList o):=by
 obtain⟨x',h1,h2⟩:=hp.xat m i o hm ho;grind
theorem Plan.op(hp:Plan ops ms l){m i:Nat}(hm:l[m]?=some i):∃o,ops[i]?=some o:=⟨_,zqg (hp.lt m i hm)⟩
theorem Inv.advance(hp:PlanX ops ms l sk xs)(hi:Inv E call ops ms l sk xs s₀ W₀ S cx₀ lis β k W cx a fr h fp){i:Nat}(hl:l[k]?=some i)(hlis:lis i):
 ∃cx' fr' h' fp',Inv E call ops ms l sk xs s₀ W₀ S cx₀ lis β (k+1) W cx' a fr' h' fp':=by
 obtain ⟨o,ho⟩:=hp.op hl;have hkl:k<l.length:=V7 hl;obtain⟨hc3,s,x,r,h1,h2,h3,h4⟩:=hi.pend k i o (zqb _) hl hlis ho;rw[hi.st]at h1;cases h1;obtain⟨hxd,hxo,_⟩:=hp.xdst hl ho h2;have hst:=Yj hi.st h2 h3;rw[hxd]at hst;have hpre:∀(m j:Nat),m<k+1->l[m]?=some j->lis j:=fun m j hm hlj=>by
  rcases zqa m k with h'|h'
  . exact hi.pre m j h' hlj
  grind
 have dne:∀{m j:Nat}{oj:Oper}{t:Nat},k+1<=m->l[m]?=some j->ops[j]?=some oj->oj.dst=some t->o.dst≠some t:=fun hm hlj hoj ht e=>hp.dst k _ i _ o _ _ (by omega) hl hlj ho hoj e ht
 rcases h4 with⟨h4,h5,h6⟩|⟨h4,h5⟩
 . refine ⟨cx,setDst o.dst r.1 fr,h,fp,?_⟩
   dsimp only at h5;rw[h5]at hst;exact{
    st:=hst
    kle:=hkl
    pre:=hpre
    stop:=hi.stop
    clo:=hi.clo
    sat:=hi.sat
    frep:=hi.frep
    has:=fun t=>by rw[S8];exact hi.has t
    ext:=hi.ext
    dfr:=hi.dfr
    stab:=hi.stab
    pend:=fun m j oj hm hlj hlisj hoj=>(hi.pend m j oj (by omega) hlj hlisj hoj).mono (Ext.refl _ _) (fun hh=>(hi.sat.held _ hh).1) (fun _ hh=>hh) (fun t=>S8 _ _ _ _) (fun t ht=>⟨rfl,rfl,rfl⟩)
    old:=fun t ht=>by
     by_cases hd:o.dst=some t
     . grind[j6]
     . rw [Y5 hd]
       refine hi.old t fun m j oj hm hlj hlisj hoj=>?_
       rcases zqa k m with h'|h'
       . exact ht m j oj h' hlj hlisj hoj
       . have:m=k:=by omega
         subst this;rw[hl]at hlj;cases hlj;rw[ho]at hoj;cases hoj;exact hd
    sep:=fun m m' j j' hm hm'=>hi.sep m m' j j' (by omega) (by omega)}
 . obtain⟨n1,n2,n3,es,sz,nx,n4,n5,n6⟩:=h5
   rw [n4]at hst;dsimp only at hst n4;have he0:=Ext0.adopt W cx (β k) sz;refine⟨cx.adopt (β k) sz,setDst o.dst (nx h.1.next) fr,(h.1.push (.row es sz),h.2),setDst o.dst (nx h.1.next) fp,?_⟩;exact{
    st:=hst
    kle:=hkl
    pre:=hpre
    stop:=hi.stop
    clo:=hi.clo
    sat:=hi.sat.adopt n1 _ n5
    frep:=by
     cases hd:o.dst with
     |none=>exact hi.frep.mono0 he0
     | some t =>
      refine(hi.frep.mono0 he0).setIf fun hlt=>?_
      exact n6 t hd hlt W _ h.1.next (by rw[hi.sat.nx,Cx.adopt_new]) (by show h.1.next<cx.nx+1;rw[hi.sat.nx];omega) (hi.sat.held _ n1).1 rfl
    has:=fun t=>by rw[S8,S8];exact hi.has t
    ext:=⟨hi.ext.toExt0.trans he0,fun b hb hh=>⟨⟨(hi.ext.hold b hb hh).1,fun e=>by omega⟩,(hi.ext.hold b hb hh).2⟩,hi.ext.out⟩
    dfr:=hi.dfr
    stab:=hi.stab
    pend:=fun m j oj hm hlj hlisj hoj=>by
     obtain⟨p1,sm,xm,rm,p2,p3,p4,p5⟩:=hi.pend m j oj (by omega) hlj hlisj hoj;refine⟨p1,sm,xm,rm,p2,p3,p4,?_⟩;rcases p5 with⟨p5,p6,p7⟩|⟨p5,p6,p7,p8,es',sz',nx',p9,GI,AW⟩
     . grind[Y5,S8]
     . refine .inr ⟨p5,⟨p6,fun e=>?_⟩,p7,p8,es',sz',nx',p9,GI.mono0 he0 rfl,AW⟩
       have:=hi.sep m k j i (by omega) (zqb _) hlj hl hlisj hlis p5 h4 e
       omega
    old:=fun t ht=>by
     by_cases hd:o.dst=some t
     . rw[hd,j6,j6,hi.has]
     . rw[Y5 hd,Y5 hd]
       refine hi.old t fun m j oj hm hlj hlisj hoj=>?_
       grind
    sep:=fun m m' j j' hm hm'=>hi.sep m m' j j' (by omega) (by omega)}
structure Ends(E:Env)(call:E7)(ops:Array Oper)(ms l:List Nat)(sk:Nat->Prop)(xs:List XOp)(s₀:Tr×HD)(r:CRes):Prop where
 all:∃s,St E call xs s₀ l.length=some s
 res:((∀m,¬sk m)/\∃fr' h',St E call xs s₀ l.length=some (fr',h')/\r=.ok .normal fr' h'.1)\/
  ∃ m₀ i₀ o₀ fr' h' v hh,sk m₀/\l[m₀]?=some i₀/\ops[i₀]?=some o₀/\St E call xs s₀ m₀=some (fr',h')/\guardOk (G4 ops.toList o₀) fr'=some true/\
    (∃n h0 n',evOp E call o₀.op fr' {h'.1 with tch:=n}=.pan v h0/\hh={h0 with tch:=n'})/\r=.pan v hh/\
    ∀m,sk m->m=m₀\/(m₀<m/\∃i,l[m]?=some i/\bit (ms.getD i 0) i₀=true)
theorem Ends.step{r:CRes}(hp:PlanX ops ms l sk xs)(he:Ends E call ops ms l sk xs s₀ r){m:Nat}{s:Tr×HD}(hs:St E call xs s₀ m=some s){x:XOp}(hx:xs[m]?=some x):∃q,stp E call x s.1 s.2=some q:=by
 have hm:m<l.length:=by
  rw[<-hp.xlen];grind
 obtain⟨s1,h1⟩:=he.all;grind[AK,bB]
end
end Go.AM
/-
 The abstract machine: a region that draws its order: the steps,in turn and ahead of it.
-/
namespace Go.AM
section
variable {P:Program}{E:Env}{call:E7}{ops:Array Oper}{ms l:List Nat}{sk:Nat->Prop}{xs:List XOp}{s₀:Tr×HD}{W₀:World}{S:Act->Prop}{cx₀:Cx}{lis:Nat->Prop}{β:Nat->Nat}{k:Nat}{W:World}{cx:Cx}{a:Act}{fr fp:Tr}{h:HD}
theorem oU{h:Heap}{d:List Nat}{x:XOp}{v:AV}{hh:Heap}(hev:evOpD E call x fr h d=.pan v hh):∃t h0 t',evOp E call x.op fr {h with tch:=t}=.pan v h0/\hh={h0 with tch:=t'}:=by
 unfold evOpD at hev;have key:∀(r:Res),t8 d r=.pan v hh->r=.pan v hh:=by
  intro r hr;cases r with
  |ok v1 h1=>cases hr
  |pan v1 h1=>cases hr;rfl
  |bad=>cases hr
 cases hq:x.quiet with
 | false =>
  rw[hq]at hev;simp only[cond_false]at hev;cases hc:x.careful with
  | false =>
   rw[hc]at hev;exact⟨h.tch,hh,hh.tch,key _ hev,rfl⟩
  | true =>
   rw[hc]at hev;simp only[cond_true]at hev;cases hro:readOk (readO E x.op fr) d with
   |false=>grind
   | true =>
    rw[hro]at hev;exact⟨h.tch,hh,hh.tch,key _ hev,rfl⟩
 | true =>
  rw[hq]at hev;have hev:x4 h.next h.tch d (evOp E call x.op fr {h with tch:=[]})=.pan v hh:=hev;cases hr:evOp E call x.op fr {h with tch:=[]}with
  |ok v1 h1=>rw[hr]at hev;cases hev
  |pan v1 h1=>rw[hr]at hev;cases hev;grind
  |bad=>rw[hr]at hev;cases hev
theorem Plan.deps(hp:Plan ops ms l){i j:Nat}(hl:l[k]?=some i)(hj:j<ops.size)(hb:bit (ms.getD i 0) j=true):∃p,p<k/\l[p]?=some j:=by
 have place:∀e,e<ops.size->bit (ms.getD i 0) e=true->e≠i->∃p,p<k/\l[p]?=some e:=by
  intro e he hbe hne;obtain⟨p,hpl⟩:=hp.all e he;rcases zqe p k with h1|h1|h1
  . grind
  . grind
  . have:=(hp.pair k p i e h1 hl hpl).2
    grind
 by_cases hji:j=i
 . subst hji
   exfalso
   obtain⟨o,ho,e,he,h1⟩:=hp.mask j j hj hj hb;obtain⟨h2,h3,h4⟩:=hp.edge j o e ho he;rcases h1 with h1|h1
   . exact h4 h1
   . obtain⟨p,h5,h6⟩:=place e h2 h3 h4
     have:=(hp.pair p k e j h5 h6 hl).2
     grind
 grind
theorem Inv.due(hE:EnvOk E P)(hcall:Fg E P call)(hp:PlanX ops ms l sk xs)(hi:Inv E call ops ms l sk xs s₀ W₀ S cx₀ lis β k W cx a fr h fp){i:Nat}(hl:l[k]?=some i)(hn:¬lis i){r:CRes}(hend:Ends E call ops ms l sk xs s₀ r)
 {K:Act->World->Prop}{Q:Exit->Act->World->Prop}(hK:∀a' W' β' cx' fr' h' fp',Inv E call ops ms l sk xs s₀ W₀ S cx₀ (fun j=>lis j\/j=i) β' (k+1) W' cx' a' fr' h' fp'->K a' W')(hQ:∀x a' w',r.Post E W₀ cx₀ S x a' w'->Q x a' w'):wpOp P ops Q i K a W:=by
 obtain ⟨o,ho⟩:=hp.op hl;obtain⟨x,hx,_⟩:=hp.xat k i o hl ho;obtain⟨hxd,hxo,hxq,hxc,hxgs⟩:=hp.xdst hl ho hx;have hdeps:∀j,j<ops.size->bit (ms.getD i 0) j=true->lis j:=fun j hj hb=>by
  obtain⟨p,h1,h2⟩:=hp.deps hl hj hb;exact hi.pre p j h1 h2
 have hlook:=hi.looks hp (zqb _) hl ho hn hdeps (.inl rfl) hi.st;have hg:=Il hlook;have hop:=Xy (E:=E) hlook;have hkl:k<l.length:=V7 hl;have hpre:∀(q j:Nat),q<k+1->l[q]?=some j->lis j\/j=i:=fun q j hq hlq=>by
  rcases zqa q k with h'|h'
  . exact .inl (hi.pre q j h' hlq)
  grind
 have next:¬sk k->∀{v':Value}{W':World}{cx':Cx}{v:AV}{h':HD},stp E call x fr h=some (v,h')->Ext W cx W' cx'->Sat E W' cx' h'.1->Rep W' cx' v' v->K (a.put o.dst v') W':=by
  intro hsk v' W' cx' v h' hs he hsat hv;have hst:=Yj hi.st hx hs;rw[hxd]at hst;refine hK _ _ β cx' (setDst o.dst v fr) h' (setDst o.dst v fp) (hi.more hp hsk (zqb _) hl ho hn hdeps he (fun b hh hw=>(hsat.held b (he.hold b (hi.sat.held b hh).1 hh).1).2) hv hst (.inr ⟨rfl,rfl⟩) hkl hpre hsat (fun t ht=>Y5 ht) (fun _ _=>rfl) (fun t=>S8 _ _ _ _) (fun hk'=>absurd hk' (by omega)) (fun hk'=>absurd hk' (by omega)) fun _ t ht=>?_);rw[ht,j6,j6,hi.has]
 unfold wpOp;simp only[ho];by_cases hsk:sk k
 . rcases hend.res with⟨hno,_⟩|⟨m₀,i₁,o₁,fr',h',v,hh,hs0,hl1,ho1,hst1,hgt,⟨n,h0,n',hpan,rfl⟩,hr,hcov⟩
   . grind
   . have hk0:k=m₀:=by
      rcases hcov k hsk with h|⟨hlt,_⟩
      . exact h
      . exact absurd (hi.pre m₀ i₁ hlt hl1) (hi.stop m₀ i₁ hs0 hl1)
     subst hk0;rw[hl]at hl1;cases hl1;rw[ho]at ho1;cases ho1;rw[hi.st]at hst1;cases hst1;have hw:=O6 (ops:=ops) hi.frep o (b:=true) (by grind);rw[hw];rw[<-y0 o.op hop]at hpan;refine .inl (Ld hE (hi.sat.low n) hi.frep hcall o (by grind) (fun v2 h2 v' W' cx' e h3 h4 h5=>?_) (fun v2 h2 v' W' cx' e h3 h4 h5=>?_))
     . grind
     . rw[hpan]at e;cases e
       refine hQ _ _ _ ?_;rw[hr];exact⟨hi.dfr,cx',hi.ext.trans h3,v',rfl,h4.low n',h5⟩
 . have hxg:=hxgs hsk
   obtain⟨⟨v,h'⟩,hs⟩:=hend.step hp hi.st hx;have hs0:=hs;unfold stp at hs;cases hgx:guardOk x.gd fr with
   |none=>grind
   | some b =>
    dsimp only at hs;rw[hgx]at hs;have hw:=O6 (ops:=ops) hi.frep o (b:=b) (by grind);rw[hw];cases b with
    | false =>
     cases hs;exact next hsk hs0 (Ext.refl _ _) hi.sat (show Rep W cx undef skipped from .tup #[] [] rfl (by simp))
    | true =>
     obtain⟨n,h₁,n',h1,h1e,_⟩:=Lg (Jr hs);rw[hxo,<-y0 o.op hop]at h1;refine .inl (Ld hE (hi.sat.low n) hi.frep hcall o (fun e=>by grind) (fun v2 h2 v' W' cx' e h3 h4 h5=>?_) (fun v2 h2 v' W' cx' e h3 h4 h5=>?_))
     . rw[h1]at e;cases e
       exact next hsk hs0 h3 (by rw[h1e];exact h4.low n') h5
     grind
theorem oV{op:Op}(hc:Ic op≠3){v:AV}{hh:Heap}:evOp E call op fr h.1≠.pan v hh:=by
 refine Tf (fun x e=>?_) (fun c f e e2=>?_) v hh
 . subst e;exact hc rfl
 . subst e
   obtain⟨callee,args,argTypes⟩:=c;dsimp only at e2;subst e2;exact hc rfl
theorem Inv.early(hE:EnvOk E P)(hcall:Fg E P call)(hpres:N9 call)(hp:PlanX ops ms l sk xs)(hi:Inv E call ops ms l sk xs s₀ W₀ S cx₀ lis β k W cx a fr h fp){m i i₀:Nat}(hk:k<m)(hl:l[m]?=some i)(hn:¬lis i)(hl₀:l[k]?=some i₀)(hn₀:¬lis i₀)
 (hdeps:∀j,j<ops.size->bit (ms.getD i 0) j=true->lis j){r:CRes}(hend:Ends E call ops ms l sk xs s₀ r)
 {K:Act->World->Prop}{Q:Exit->Act->World->Prop}(hK:∀a' W' β' cx' fr' h' fp',Inv E call ops ms l sk xs s₀ W₀ S cx₀ (fun j=>lis j\/j=i) β' k W' cx' a' fr' h' fp'->K a' W'):wpOp P ops Q i K a W:=by
 obtain ⟨o,ho⟩:=hp.op hl;obtain⟨o₀,ho₀⟩:=hp.op hl₀;obtain⟨x,hx,_⟩:=hp.xat m i o hl ho;obtain⟨hxd,hxo,hxq,hxc,hxgs⟩:=hp.xdst hl ho hx;have nodep:∀{p j:Nat},l[p]?=some j->¬lis j->bit (ms.getD i 0) j=false:=fun{p j} hlp hnj=>by
  cases hb:bit (ms.getD i 0) j with
  |false=>rfl
  |true=>exact absurd (hdeps j (hp.lt p j hlp) hb) hnj
 have hc3:Ic o.op≠3:=(hp.apart hk hl₀ hl ho₀ ho (nodep hl₀ hn₀)).1;have hsk:¬sk m:=fun hs=>by
  rcases hend.res with⟨hno,_⟩|⟨m₀,i₁,o₁,fr',h',v,hh,hs0,hl1,ho1,hst1,hgt,⟨n,h0,n',hpan,_⟩,_,hcov⟩
  . grind
  . rcases hcov m hs with rfl|⟨hlt,j,hj,hb⟩
    . rw[hl]at hl1;cases hl1
      rw[ho]at ho1;cases ho1;exact oV (h:=(_,[])) hc3 hpan
    . rw[hl]at hj;cases hj
      exact hi.stop m₀ i₁ hs0 hl1 (hdeps i₁ (hp.lt m₀ i₁ hl1) hb)
 have hxg:=hxgs hsk;have hreach:∃s,St E call xs s₀ m=some s:=by
  obtain⟨s,h1⟩:=hend.all;exact AK h1 (zqd (V7 hl))
 obtain ⟨⟨frm,hm⟩,hstm⟩:=hreach;have hlook:=hi.looks hp (zqd hk) hl ho hn hdeps (.inr ⟨i₀,hl₀,hn₀⟩) hstm;have hg:=Il hlook;have hop:=Xy (E:=E) hlook;have hquiet:x.quiet=false:=by
  grind[m5,clsAt,Heap.beq_false]
 have hstep:∃q,stp E call x frm hm=some q:=hend.step hp hstm hx;obtain⟨⟨v,hm'⟩,hs⟩:=hstep;have hs0:=hs;have hpre:∀(q j:Nat),q<k->l[q]?=some j->lis j\/j=i:=fun q j hq hlq=>.inl (hi.pre q j hq hlq)
 have plain:∀{v':Value}{W':World}{cx':Cx},¬Kp E call xs s₀ m->hm'=hm->Ext W cx W' cx'->Sat E W' cx' h.1->Rep W' cx' v' v->K (a.put o.dst v') W':=by
  intro v' W' cx' hnew hhm he hsat hv;refine hK _ _ β cx' fr h (setDst o.dst v fp) (hi.more hp hsk (zqd hk) hl ho hn hdeps he (fun b hh hw=>(hsat.held b (he.hold b (hi.sat.held b hh).1 hh).1).2) hv hi.st (.inl rfl) hi.kle hpre hsat (fun _ _=>rfl) (fun _ _=>rfl) (fun _=>rfl)
   (fun _=>⟨hc3,(frm,hm),x,(v,hm'),hstm,hx,hs0,.inl ⟨hnew,hhm,fun t ht=>?_⟩⟩) (fun _ hnew'=>absurd hnew' hnew) fun hk'=>absurd hk' (by omega))
  rw[ht,j6,hi.has]
 unfold wpOp;simp only[ho];unfold stp at hs;cases hgx:guardOk x.gd frm with
 |none=>grind
 | some b =>
  rw[hgx]at hs;have hw:=O6 (ops:=ops) hi.frep o (b:=b) (by grind);rw[hw];cases b with
  | false =>
   cases hs;refine plain (fun hnew=>?_) rfl (Ext.refl _ _) hi.sat (show Rep W cx undef skipped from .tup #[] [] rfl (by simp));obtain⟨s,x',h1,h2,h3,_⟩:=hnew;rw[hstm]at h1;cases h1;rw[hx]at h2;cases h2;dsimp only at h3;rw[hgx]at h3;cases h3
  | true =>
   obtain⟨n,h₁,n',h1,h2,_,h3⟩:=Lg (Jr hs);obtain⟨rfl,rfl,hdd,hcar⟩:=h3 hquiet;have h1:evOp E call x.op frm hm.1=.ok v h₁:=h1;have h2:hm'.1=h₁:=h2;subst h2;have hmm:hm'=(hm'.1,hm.2):=by obtain⟨q1,q2⟩:=hm';dsimp only at hdd|-;rw[hdd]
   rw [hxo]at h1;have hnewIff:Ic o.op≠2->¬Kp E call xs s₀ m:=fun hc2 hnew=>by
    obtain⟨s,x',_,k2,_,k4⟩:=hnew;grind
   have run:Ic o.op≠2->hm'.1=hm.1->evOp E call o.op fp h.1=.ok v h.1->o.wp P a W K Q:=by
    intro hc2 hhm he;refine Ld hE hi.sat hi.frep hcall o (fun e=>by grind) (fun v2 h2 v' W' cx' e h3 h4 h5=>?_) (fun v2 h2 v' W' cx' e h3 h4 h5=>?_)
    . grind
    grind
   rcases cls_cases o.op with hc|hc|hc|hc
   . obtain⟨h4,h5⟩:=Nm hc h1 h.1
     grind[y0]
   . obtain ⟨nn,rfl⟩:∃nn,m=k+nn:=⟨m-k,by omega⟩
     have hq3:∀(p j:Nat)(oj:Oper),k<=p->p<k+nn->l[p]?=some j->ops[j]?=some oj->Ic oj.op=3->bit (ms.getD i 0) j=false:=fun p j oj hkp hpm hlj hoj hcj =>
      nodep hlj fun hlisj=>(hi.pend p j oj hkp hlj hlisj hoj).1 hcj
     have hcl:clsAt ops.toList i=1:=by grind[clsAt]
     have hcl3:∀{j:Nat}{oj:Oper},ops[j]?=some oj->Ic oj.op=3->clsAt ops.toList j=3:=(by grind[Go.AM.clsAt])
     have hreads:∀id,readO E o.op fp=some id->h.1.get id=hm.1.get id:=by
      intro id hid;have hlt:id<h.1.next:=by rw[hi.sat.nx];exact tF (W:=W) (cx:=cx) (fun y _=>⟨_,c8 hi.sat hi.frep y⟩) hid
      by_cases hex:∃(p j:Nat)(oj:Oper),k<=p/\p<k+nn/\l[p]?=some j/\ops[j]?=some oj/\Ic oj.op=3
      . obtain ⟨p,j,oj,hkp,hpm,hlj,hoj,hcj⟩:=hex
        have hkeep:=(mO hp hpres hi.st nn (frm,hm) hstm fun p j oj hkp hpm hlj hoj hcj=>by
         unfold m5;rw[hcl3 hoj hcj,zqk];refine⟨rfl,List.any_eq_true.2 ⟨i,?_,?_⟩⟩
         . have:(l.drop (p+1))[k+nn-(p+1)]?=some i:=by rw[List.getElem?_drop];rw[show p+1+(k+nn-(p+1))=k+nn by omega];exact hl
           grind
         . rw[hcl,hq3 p j oj hkp hpm hlj hoj hcj];rfl).2.2
        have hcareful:x.careful=true:=by
         rw[hxc];unfold j3;rw[hcl,zqk];refine⟨rfl,List.any_eq_true.2 ⟨j,?_,?_⟩⟩
         . rw[List.append_nil,List.mem_reverse]
           have:(l.take (k+nn))[p]?=some j:=by grind
           grind
         . rw[hcl3 hoj hcj,hq3 p j oj hkp hpm hlj hoj hcj];rfl
        have hro:=hcar hcareful;rw[hxo,<-eY o.op hop,hid]at hro;have hni:id∉hm.2:=Yl (by
         have hro:(!(rK id hm.2))=true:=hro;grind)
        grind
      . exact((eZ hp hi.st nn (frm,hm) hstm (by grind)).get id hlt).symm
     rw[<-y0 o.op hop]at h1;grind[kB]
   . rw [← y0 o.op hop]at h1
     obtain⟨es,sz,nx,h4,h5,_,c,t,vs,v',h6,h7,h8,h9,h10⟩:=tG hE hi.sat hi.frep o hc h1;refine .inl ?_;unfold Oper.wp;rw[h6];show K (a.put o.dst v') (W.alloc (.cells c t))
     have hnew:Kp E call xs s₀ m:=⟨(frm,hm),x,hstm,hx,hgx,by grind⟩
     have he:Ext W cx (W.alloc (.cells c t)) ⟨cx.μ,cx.nx,fun y=>cx.own y\/y=W.heap.size,fun y=>cx.held y\/y=W.heap.size⟩:=
      ⟨⟨zqb _,fun _ _=>rfl,by simp,fun b hb _=>heap_alloc_old W _ hb,(by grind[Go.AM.szOf,Go.AM.heap_alloc_old]),(by grind)⟩,
        (by grind[Go.AM.heap_alloc_old]),rfl,rfl,rfl⟩
     have hsat:Sat E (W.alloc (.cells c t)) ⟨cx.μ,cx.nx,fun y=>cx.own y\/y=W.heap.size,fun y=>cx.held y\/y=W.heap.size⟩ h.1:=
      ⟨hi.sat.nx,fun id y hy=>by
        obtain⟨k1,k2,k3,k4⟩:=hi.sat.objs id y hy;exact⟨k1,.inl k2,zqf k3 he.sz,k4.mono he (heap_alloc_old W _ k3)⟩,
        hi.sat.inj,hi.sat.gl.mono he,fun b hb=>by
         rcases hb with hb|rfl
         . exact⟨zqf (hi.sat.held b hb).1 he.sz,.inl (hi.sat.held b hb).2⟩
         . exact⟨by simp,.inr rfl⟩,
        fun id y hy hh=>by
         rcases hh with hh|hh
         . exact hi.sat.free id y hy hh
         . have k3:(cx.μ id).1<W.heap.size:=(hi.sat.objs id y hy).2.2.1
           grind⟩
     refine hK _ _ (fun q=>if q=m then W.heap.size else β q) _ fr h (setDst o.dst .und fp) (hi.more hp hsk (zqd hk) hl ho hn hdeps he (fun b hh hw=>.inl hw) (Rep.und v') hi.st (.inl rfl) hi.kle hpre hsat (fun _ _=>rfl) (fun q hq=>if_neg hq) (fun _=>rfl)
      (fun _=>⟨hc3,(frm,hm),x,(v,hm'),hstm,hx,hs0,.inr ⟨hnew,?_⟩⟩) (fun _ _ b hb=>?_) fun hk'=>absurd hk' (by omega))
     . rw [if_pos rfl]
       refine⟨.inr rfl,.inr rfl,hi.ext.sz,es,sz,nx,by grind,?_,fun t' ht' hlt W₂ cx₂ id k1 k2 k3 k4=>?_⟩
       . exact Q1.mk (t:=t) rfl (K7 W _) (by grind) (by grind) (h7.mono he)
       . have e:(a.put o.dst v').tmps.getD t' undef=v':=by
          rw[ht']at hlt|-;have hlt:t'<(a.tmps.setIfInBounds t' v').size:=hlt;have hlt':t'<a.tmps.size:=by grind
          show(a.tmps.setIfInBounds t' v').getD t' undef=v'
          simp[Array.getD,hlt']
         grind[Tq]
     . show(if m=m then W.heap.size else β m)≠b
       rw[if_pos rfl]
       have:=(hi.sat.held b hb).1
       omega
   grind
end
end Go.AM
/-
 The abstract machine: what is shown of plain frames holds of a round's frames too (no operation of a region may defer).
-/
namespace Go.AM
def WF(ro:Option Nat):Fence:={Fence.wide with round:=ro}
theorem Kq{ro:Option Nat}{n:Nat}{P:Program}{f:FuncId}{args:Array Value}{w:World}{R:Ending->World->Prop}:CallsIn (WF ro) n P f args w R↔Calls P f args w R:=
 (show CallsIn (WF ro) n P f args w R↔CallsIn Fence.wide n P f args w R from Iff.rfl).trans callsIn_wide
section
variable {ro:Option Nat}{P:Program}{ops:Array Oper}{Q:Exit->Act->World->Prop}
def Sk(o:Oper):Prop:=∀c,o.op≠.defer c
theorem op_in{o:Oper}(hd:Sk o){a:Act}{w:World}{K:Act->World->Prop}(h:o.wp P a w K Q):o.wpIn (WF ro) 0 P a w K Q:=by
 refine⟨fun _ _=>trivial,?_⟩;rw[Oper.semAt_eq _ _ _ hd];unfold Oper.wp at h;generalize (execOp a.eval o).run P w=r at h;cases r with
 | ok x w' =>
  cases x with
  |value v=>exact h
  |skip=>exact h
  |defer d=>exact h
  | enter f args =>
   refine⟨fun h=>by simp[WF,Fence.wide]at h,Kq.2 ?_⟩;exact Calls.mono h fun e w' hp=>by grind
  | row r args =>
   refine⟨fun h=>by simp[WF,Fence.wide]at h,fun c cs _=>?_⟩;obtain⟨v,w',h1,h2⟩:=h c cs;exact⟨v,w',h1,(stepsIn_wide (P:=P)).2 h2⟩
  |_=>exact h.elim
 |halt x w'=>cases x<;>exact h
theorem Rl(hl:¬LetsOut Q):∀(l:List Oper),(∀o∈l,Sk o)->∀(a:Act)(w:World),wpList P ops Q l a w->wpListIn (WF ro) 0 P ops Q l a w
 |[],_,a,w,h=>h
 | o :: l,hn,a,w,h=>by
  unfold wpList at h;unfold wpListIn;split
  . rename_i hw
    rw[if_pos hw]at h;rcases h with h|⟨_,h⟩
    . exact Oper.wpIn_mono (fun a w h=>Rl hl l (by grind) a w h) (by grind[Go.AM.op_in])
    grind
  . rename_i hw
    rw[if_neg hw]at h;exact⟨fun _ _=>trivial,Rl hl l (by grind) _ w h⟩
theorem aJ(hl:¬LetsOut Q)(hn:∀(i:Nat)(o:Oper),ops[i]?=some o->Sk o){md:Region.Mode}:∀(fuel:Nat)(listed:Array Bool)(a:Act)(w:World),wpAny P md ops Q fuel listed a w->wpAnyIn (WF ro) 0 P md ops Q fuel listed a w
 |0,listed,a,w,h=>h
 | fuel+1,listed,a,w,h=>by
  refine⟨h.1,fun i hi=>?_⟩;have h:=h.2 i hi;unfold wpOp at h;unfold wpOpIn;cases ho:ops[i]? with
  |none=>rw[ho]at h;exact aJ hl hn fuel _ a w h
  | some o =>
   rw[ho]at h;dsimp only at h|-;split
   . rename_i hw
     rw[if_pos hw]at h;rcases h with h|⟨_,h⟩
     . exact Oper.wpIn_mono (fun a w h=>aJ hl hn fuel _ a w h) (op_in (hn i o ho) h)
     grind
   . rename_i hw
     rw[if_neg hw]at h;exact⟨fun _ _=>trivial,aJ hl hn fuel _ _ w h⟩
theorem oW{id:Nat}{a:Act}{w:World}(hl:¬LetsOut Q)(hn:∀o∈ops.toList,Sk o)(h:wpList P ops Q ops.toList a w):(Code.region id ops false).wpIn (WF ro) 0 P Q a w:=
 wpIn_region_list (Rl hl _ hn a w h)
theorem jJ{F:Fence}{n:Nat}{c:Code}{a:Act}{w:World}(h:c.wpIn F n P (Exit.noGoto Q) a w):(Code.scope c).wpIn F n P Q a w:=by
 intro b k cs hro hb hr;have h0:(lone (b.atR a (.code (.scope c)::k)) cs w).fenced P F:=fenced_calm hb hr rfl;have s1:Go.step P (lone (b.atR a (.code (.scope c)::k)) cs w)=.next (lone (b.atR a (.code c::.inScope c::k)) cs w):=step_lone_go (by simp[stepG,stepG.exec,Frame.atR]);obtain⟨e,a₁,w₁,hq,harr⟩:=h b (.inScope c::k) cs hro hb hr;cases e with
 | normal =>
  have s2:Go.step P (lone (b.atR a₁ (.inScope c::k)) cs w₁)=.next (lone (b.atR a₁ k) cs w₁):=step_lone_go (by simp[stepG,stepG.exec,Frame.atR]);exact⟨.normal,a₁,w₁,hq,.head h0 s1 (StepsIn.trans harr (.one (fenced_calm hb hr rfl) s2))⟩
 | exit id =>
  exact ⟨.exit id,a₁,w₁,hq,fun k' hk=>.head h0 s1 (harr.1 k' (by simp[exitTo,hk])),
   fun hr' hk=>let⟨k₁,h1,h2⟩:=harr.2 hr' (by simp[exitTo,hk]);⟨k₁,h1,.head h0 s1 h2⟩⟩
 |goto l=>exact hq.elim
 |ret=>exact⟨_,a₁,w₁,hq,.of_steps (.one h0 s1) harr⟩
 |panic ch=>exact⟨_,a₁,w₁,hq,.of_steps (.one h0 s1) harr⟩
 |outgrown=>exact⟨_,a₁,w₁,hq,.of_steps (.one h0 s1) harr⟩
end
end Go.AM
/-
 The abstract machine: maps.DeleteFunc and slices.Sorted at a map's keys,told of: what their outcome is.
-/
namespace Go.AM
section
variable {E:Env}{ih:G8}
end
end Go.AM
/-
 The abstract machine: a region that draws its order is sound; and what all calls leave as it was.
-/
namespace Go.AM
section
variable {P:Program}{E:Env}{call:E7}{ops:Array Oper}{ms l:List Nat}{sk:Nat->Prop}{xs:List XOp}{s₀:Tr×HD}{W₀:World}{S:Act->Prop}{cx₀:Cx}
def LisOf(listed:Array Bool)(i:Nat):Prop:=listed[i]?=some true
theorem Inv.far(hp:PlanX ops ms l sk xs){lis:Nat->Prop}{β:Nat->Nat}{W:World}{a:Act}:∀(n k:Nat){cx:Cx}{fr fp:Tr}{h:HD},l.length-k=n->Inv E call ops ms l sk xs s₀ W₀ S cx₀ lis β k W cx a fr h fp ->
 ∃k' cx' fr' h' fp',Inv E call ops ms l sk xs s₀ W₀ S cx₀ lis β k' W cx' a fr' h' fp'/\(k'=l.length\/∃i,l[k']?=some i/\¬lis i)
 |0,k,cx,fr,fp,h,hn,hi=>⟨k,cx,fr,h,fp,hi,.inl (by have:=hi.kle;omega)⟩
 | n + 1,k,cx,fr,fp,h,hn,hi=>by
  have hk:k<l.length:=by omega
  have hl:l[k]?=some l[k]:=List.getElem?_eq_getElem hk;by_cases hlis:lis l[k]
  . obtain⟨cx',fr',h',fp',hi'⟩:=hi.advance hp hl hlis
    exact Inv.far hp n (k+1) (by omega) hi'
  grind
theorem Inv.done(hp:PlanX ops ms l sk xs){lis:Nat->Prop}{β:Nat->Nat}{W:World}{a:Act}{cx:Cx}{fr fp:Tr}{h:HD}{r:CRes}(hi:Inv E call ops ms l sk xs s₀ W₀ S cx₀ lis β l.length W cx a fr h fp)(hend:Ends E call ops ms l sk xs s₀ r):r.Post E W₀ cx₀ S .normal a W:=by
 rcases hend.res with⟨_,fr',h',h1,rfl⟩|⟨m₀,i₁,o₁,fr',h',v,hh,hs0,hl1,_⟩
 . rw[hi.st]at h1
   cases h1;refine⟨hi.dfr,cx,hi.ext,rfl,hi.sat,fun t=>?_,fun t ht=>hi.frep.has t (by rw[hi.has];exact ht)⟩;rw[<-hi.old t (by grind)];exact hi.frep.rep t
 . exact absurd (hi.pre m₀ i₁ (V7 hl1) hl1) (hi.stop m₀ i₁ hs0 hl1)
theorem Mz{listed:Array Bool}(hsz:listed.size=ops.size){i:Nat}:i∈Region.ready .any ops listed↔i<ops.size/\¬LisOf listed i/\∃o,ops[i]?=some o/\∀e∈directs o,LisOf listed e:=by
 unfold Region.ready;rw[List.mem_filter,List.mem_range]
 constructor
 . rintro ⟨h1,h2⟩
   rw[zqk]at h2;obtain⟨h2,h3⟩:=h2;have ho:ops[i]?=some ops[i]:=zqg h1;have hli:i<listed.size:=by grind
   refine⟨h1,fun e=>?_,ops[i],ho,fun e he=>?_⟩
   . grind[LisOf,zqh]
   . rw[ho]at h3
     simp only[Option.map_some,Option.getD_some]at h3;unfold directs at he;obtain⟨d,hd,rfl⟩:=List.mem_map.1 he;obtain⟨hd1,hd2⟩:=List.mem_filter.1 hd;rw[<-zqi]at h3;have h4:=(List.all_eq_true.1 h3) d hd1;rw[hd2]at h4;simp only[Bool.not_true,Bool.false_or]at h4;unfold LisOf;rw[zqh]at h4;grind
 . rintro ⟨h1,h2,o,ho,h3⟩
   have hli:i<listed.size:=by grind
   refine⟨h1,?_⟩;rw[zqk]
   constructor
   . simp_all[LisOf]
   . rw [ho]
     simp only[Option.map_some,Option.getD_some];rw[<-zqi];refine List.all_eq_true.2 fun d hd=>?_
     cases hb:Region.binds .any d with
     |false=>rfl
     | true =>
      have:=h3 d.on (by unfold directs;grind)
      simp_all[LisOf]
theorem oX(hE:EnvOk E P)(hcall:Fg E P call)(hpres:N9 call)(hp:PlanX ops ms l sk xs){r:CRes}(hend:Ends E call ops ms l sk xs s₀ r){Q:Exit->Act->World->Prop}(hQ:∀x a' w',r.Post E W₀ cx₀ S x a' w'->Q x a' w'):
 ∀ (fuel:Nat) (listed:Array Bool) (a:Act) (W:World) (todo:List Nat),listed.size=ops.size->todo.length<=fuel->(∀i,i<ops.size->¬LisOf listed i->i∈todo) ->
   (∃β k cx fr h fp,Inv E call ops ms l sk xs s₀ W₀ S cx₀ (LisOf listed) β k W cx a fr h fp)->wpAny P .any ops Q fuel listed a W:=by
 intro fuel
 induction fuel with
 | zero =>
  intro listed a W todo hsz hlen htodo hinv;have hnil:todo=[]:=(by grind)
  have hall:∀i,i<ops.size->LisOf listed i:=(by grind)
  obtain⟨β,k,cx,fr,h,fp,hi⟩:=hinv;obtain⟨k',cx',fr',h',fp',hi',hk'⟩:=Inv.far hp _ k rfl hi;refine⟨?_,?_⟩
  . cases hr:Region.ready .any ops listed with
    |nil=>rfl
    | cons x xs =>
     grind[List.mem_cons_self,Mz]
  . rcases hk' with rfl|⟨i,hl,hn⟩
    . exact hQ _ _ _ (hi'.done hp hend)
    . exact absurd (hall i (hp.lt _ i hl)) hn
 | succ fuel ih =>
  intro listed a W todo hsz hlen htodo hinv;obtain⟨β,k,cx,fr,h,fp,hi⟩:=hinv;obtain⟨k',cx',fr',h',fp',hi',hk'⟩:=Inv.far hp _ k rfl hi;have step:∀{i:Nat},i<ops.size->¬LisOf listed i->∀(a':Act)(W':World)(β':Nat->Nat)(k2:Nat)(cx2:Cx)(fr2:Tr)(h2:HD)(fp2:Tr),
   Inv E call ops ms l sk xs s₀ W₀ S cx₀ (fun j=>LisOf listed j\/j=i) β' k2 W' cx2 a' fr2 h2 fp2->wpAny P .any ops Q fuel (listed.setIfInBounds i true) a' W':=by
   intro i hi hn a' W' β' k2 cx2 fr2 h2 fp2 hinv;have heq:(fun j=>LisOf listed j\/j=i)=LisOf (listed.setIfInBounds i true):=by
    grind[LisOf]
   rw[heq]at hinv;have hmem:=htodo i hi hn;refine ih (listed.setIfInBounds i true) a' W' (todo.erase i) (by grind) (by grind) (fun j hj hnj=>?_) ⟨β',k2,cx2,fr2,h2,fp2,hinv⟩;grind
  refine⟨fun hnil=>?_,fun i hready=>?_⟩
  . rcases hk' with rfl|⟨i,hl,hn⟩
    . exact hQ _ _ _ (hi'.done hp hend)
    . exfalso
      obtain⟨o,ho⟩:=hp.op hl
      have:i∈Region.ready .any ops listed:=(Mz hsz).2 ⟨hp.lt _ i hl,hn,o,ho,fun e he=>by
       obtain⟨h1,h2,_⟩:=hp.edge i o e ho he;obtain⟨p,h3,h4⟩:=hp.deps hl h1 h2;exact hi'.pre p e h3 h4⟩
      grind
  . obtain ⟨h1,h2,o,ho,h3⟩:=(Mz hsz).1 hready
    obtain ⟨m,hm⟩:=hp.all i h1;have hkm:k'<=m:=by
     rcases zqa m k' with h'|h'
     . exact absurd (hi'.pre m i h' hm) h2
     . exact h'
    rcases hk' with rfl|⟨i₀,hl₀,hn₀⟩
    . grind
    . rcases zqa k' m with hlt|hge
      . have hdeps:∀j,j<ops.size->bit (ms.getD i 0) j=true->LisOf listed j:=fun j hj hb=>by
         obtain⟨o',ho',e,he,h4⟩:=hp.mask j i hj h1 hb;rw[ho]at ho';cases ho';have hle:=h3 e he;rcases h4 with rfl|h4
         . exact hle
         . exact hi'.clo j e hj (hp.edge i o e ho he).1 hle h4
        exact hi'.early hE hcall hpres hp hlt hm h2 hl₀ hn₀ hdeps hend (Q:=Q) (by grind)
      . have:k'=m:=by omega
        subst this;exact hi'.due hE hcall hp hm h2 hend (Q:=Q) (by grind) hQ
end
theorem rZ{E:Env}{W:World}{cx:Cx}{S:Act->Prop}{r:CRes}:¬LetsOut (r.Post E W cx S):=by
 rintro⟨a,w,hd,cx',he,h⟩
 cases r with
 |ok e fr h'=>obtain⟨h1,_⟩:=h;cases e<;>cases h1
 |pan v h'=>grind
 |bad=>exact h
theorem oY{E:Env}{call:E7}{ops:Array Oper}{ms l:List Nat}(hp:Plan ops ms l){fr:Tr}{h:Heap}(hb:evOpsD E call (Aq ops.toList ms [] l) fr h []≠.bad):
 ∃sk xs,PlanX ops ms l sk xs/\Ends E call ops ms l sk xs (fr,(h,[])) (evOpsD E call (Aq ops.toList ms [] l) fr h []):=by
 have hlen:(Aq ops.toList ms [] l).length=l.length:=Pp l [] hp.have;rcases run_cases (E:=E) (call:=call) (xs:=Aq ops.toList ms [] l) (s₀:=(fr,(h,[]))) _ 0 rfl (Nat.zero_le _) fr (h,[]) rfl (by rw[List.drop_zero];exact hb)with⟨fr',h',h1,h2⟩|⟨m,x,fr',h',v,hh,_,h1,h2,h3,h4,h5,h6⟩
 . rw[List.drop_zero]at h2
   rw[hlen]at h1;refine⟨fun _=>False,Aq ops.toList ms [] l,⟨hp,hlen,fun m i o hm ho=>⟨_,hp.xget hm ho,rfl,rfl,rfl,rfl,fun _=>rfl⟩⟩,⟨⟨_,h1⟩,(by grind)⟩⟩
 . rw [List.drop_zero]at h6
   have hm:m<l.length:=by
    grind
   have hl:l[m]?=some l[m]:=List.getElem?_eq_getElem hm;have ho:ops[l[m]]?=some (ops[l[m]]'(hp.lt m _ hl)):=zqg _;generalize l[m]=i₀ at hl ho;generalize (ops[i₀]'_)=o₀ at ho;have hx:=hp.xget hl ho;rw[h2]at hx;have hx:=Option.some.inj hx;have hlate:x.late=Nh ops.toList ms i₀ (l.drop (m+1)):=by rw[hx];rfl
   have hgd:x.gd=G4 ops.toList o₀:=by rw[hx];rfl
   have hop:x.op=o₀.op:=by rw[hx];rfl
   let flags:List Bool:=List.replicate m false++true::x.late;have f1:∀q,q<m->flags[q]?=some false:=(by grind)
   have f2:flags[m]?=some true:=by
    grind
   have f3:∀q,flags[m+1+q]?=x.late[q]?:=(by grind)
   have hcut:=eV (Aq ops.toList ms [] l) flags;refine⟨fun q=>flags[q]?=some true,bC (Aq ops.toList ms [] l) flags,⟨hp,(eU _ _).trans hlen,fun q i o hq hoq=>⟨_,hcut q _ (hp.xget hq hoq),?_,?_,?_,?_,fun hn=>?_⟩⟩,?_⟩
   . split<;>rfl
   . split<;>rfl
   . split<;>rfl
   . split<;>rfl
   . rw[if_neg hn];rfl
   . have hst:St E call (bC (Aq ops.toList ms [] l) flags) (fr,(h,[])) m=some (fr',h'):=by
      rw[eW m fun q hq=>?_]
      . exact h1
      . cases hy:(Aq ops.toList ms [] l)[q]? with
        | none =>
         grind
        |some y=>simp_all
     have hst':=Yj hst (x:=eT x) (by grind) (pJ x fr' h');have hall:=tH (ys:=bC (Aq ops.toList ms [] l) flags) ((Aq ops.toList ms [] l).drop (m+1)) x.late (m+1) _ h' h5 (by simp_all) hst';rw[List.length_drop,hlen,show m+1+(l.length-(m+1))=l.length by omega]at hall;obtain⟨n,h0,n',hpan,hhh⟩:=oU h4;refine⟨hall,.inr ⟨m,i₀,o₀,fr',h',v,hh,f2,hl,ho,hst,by grind,(by grind),h6,fun q hq=>?_⟩⟩;rcases zqe q m with hlt|rfl|hgt
     . grind
     . grind
     . refine .inr ⟨hgt,?_⟩
       obtain⟨r,rfl⟩:∃r,q=m+1+r:=⟨q-(m+1),by omega⟩
       grind[Nh]
theorem jK{P:Program}{E:Env}{W:World}{cx:Cx}{h:Heap}(hE:EnvOk E P)(hs:Sat E W cx h){a:Act}{fr:Tr}(hf:FrRep W cx a.tmps fr){S:Act->Prop}(hd:S a){call:E7}(hcall:Fg E P call)(hpres:N9 call){id:Nat}{ops:Array Oper}{l:List Nat}
 (hst:∀(i:Nat)(o:Oper),ops[i]?=some o->Lc S o.dst){ro:Option Nat}(hn:∀(i:Nat)(o:Oper),ops[i]?=some o->Sk o)(hok:Ng ops.toList (Ez ops.toList) l=true)(hb:evOpsD E call (Aq ops.toList (Ez ops.toList) [] l) fr h []≠.bad):
 (Code.region id ops true).wpIn (WF ro) 0 P ((evOpsD E call (Aq ops.toList (Ez ops.toList) [] l) fr h []).Post E W cx S) a W:=by
 have hp:=yG hok;refine wpIn_region_any hE.mixed (aJ rZ hn _ _ _ _ ?_);have he:Ext W cx {W with drawn:=W.drawn+1} cx:=Ext.of_heap rfl ⟨rfl,rfl,rfl⟩;obtain⟨sk,xs,hpx,hend⟩:=oY hp hb;have hnot:∀i,¬LisOf (zqj ops.size false) i:=(by grind[Go.AM.LisOf])
 refine oX (W₀:=W) (cx₀:=cx) hE hcall hpres hpx hend (fun x a' w' hq=>hq) ops.size (zqj ops.size false) a _ (List.range ops.size) (by simp) (by simp) (fun i hi _=>List.mem_range.2 hi) ?_;exact⟨fun _=>0,0,cx,fr,(h,[]),fr,{
  st:=rfl
  kle:=Nat.zero_le _
  pre:=(by grind)
  stop:=fun m i _ _ hj=>absurd hj (hnot i)
  clo:=fun i j _ _ hj=>absurd hj (hnot j)
  sat:=hs.mono rfl
  frep:=hf.mono he
  has:=fun _=>rfl
  ext:=he
  dfr:=hd
  stab:=hst
  pend:=fun m i o _ _ hi=>absurd hi (hnot i)
  old:=fun _ _=>rfl
  sep:=(by grind)}⟩
def CRes.heap(r:CRes):Option Heap:=match r with | .ok _ _ h=>some h | .pan _ h=>some h | .bad=>none
def dZ(ih:G8):Prop:=∀c fr h h',CRes.heap (ih c fr h)=some h'->Pres h h'
theorem Em{E:Env}{call:E7}(hpres:N9 call):∀(xs:List XOp)(fr:Tr)(h:Heap)(h':Heap),CRes.heap (I5 E call xs fr h)=some h'->Pres h h'
 |[],fr,h,h',hr=>by cases hr;exact .refl h
 | x :: xs,fr,h,h',hr=>by
  have hr:CRes.heap (R0 (guardOk x.gd fr) .bad (X6 x.dst (I5 E call xs) fr (evOp E call x.op fr h)) (I5 E call xs (setDst x.dst skipped fr) h))=some h':=hr;cases hg:guardOk x.gd fr with
  |none=>rw[hg]at hr;cases hr
  | some b =>
   rw[hg]at hr;cases b with
   |false=>exact Em hpres xs _ h h' hr
   | true =>
    have hr:CRes.heap (X6 x.dst (I5 E call xs) fr (evOp E call x.op fr h))=some h':=hr;cases hev:evOp E call x.op fr h with
    |bad=>rw[hev]at hr;cases hr
    |pan v hh=>rw[hev]at hr;cases hr;grind[evOp_pres_pan]
    | ok v h1 =>
     rw[hev]at hr;exact(evOp_pres hpres hev).trans (Em hpres xs _ h1 h' hr)
theorem Gv:∀(a b:List Nat),Bn a b=a++b
 |[],_=>rfl
 |x::a,b=>by show x::Bn a b=_;rw[Gv a b];rfl
theorem pres_quiet{h h1:Heap}(hp:Pres {h with tch:=[]} h1):Pres h {h1 with tch:=Bn (I6 h.next h1.tch) h.tch}:=by
 obtain⟨hn,new,e,hg⟩:=hp;refine⟨hn,I6 h.next h1.tch,Gv _ _,fun i hi hni=>hg i hi fun hm=>hni (j5.2 ⟨?_,hi⟩)⟩;rw[e];exact List.mem_append_left _ hm
def DRes.heap(r:DRes):Option Heap:=match r with | .ok _ h _=>some h | .pan _ h=>some h | .bad=>none
theorem eC{E:Env}{call:E7}(hpres:N9 call){x:XOp}{fr:Tr}{h:Heap}{d:List Nat}{h':Heap}(hev:DRes.heap (evOpD E call x fr h d)=some h'):Pres h h':=by
 have plain:DRes.heap (t8 d (evOp E call x.op fr h))=some h'->Pres h h':=fun hr=>by
  cases hq:evOp E call x.op fr h with
  |bad=>rw[hq]at hr;cases hr
  |ok v h1=>rw[hq]at hr;cases hr;exact evOp_pres hpres hq
  |pan v h1=>rw[hq]at hr;cases hr;exact evOp_pres_pan hpres hq
 unfold evOpD at hev;cases hq:x.quiet with
 | false =>
  rw[hq]at hev;simp only[cond_false]at hev;cases hc:x.careful with
  |false=>grind
  | true =>
   rw[hc]at hev;simp only[cond_true]at hev;cases hro:readOk (readO E x.op fr) d with
   |false=>rw[hro]at hev;cases hev
   |true=>grind
 | true =>
  rw[hq]at hev;have hev:DRes.heap (x4 h.next h.tch d (evOp E call x.op fr {h with tch:=[]}))=some h':=hev;cases hr:evOp E call x.op fr {h with tch:=[]}with
  |ok v1 h1=>rw[hr]at hev;cases hev;grind[pres_quiet,evOp_pres]
  |pan v1 h1=>rw[hr]at hev;cases hev;grind[pres_quiet,evOp_pres_pan]
  |bad=>rw[hr]at hev;cases hev
theorem i6{α:Type}{b:Bool}{x y:α}{f:α->Option Heap}{h:Heap}(hr:f (bif b then x else y)=some h)(hy:f y=none):b=true/\f x=some h:=by
 grind
theorem Ct{E:Env}{call:E7}(hpres:N9 call):∀(xs:List XOp)(fr:Tr)(h:Heap)(d:List Nat)(h':Heap),CRes.heap (evOpsD E call xs fr h d)=some h'->Pres h h'
 |[],fr,h,d,h',hr=>by cases hr;exact .refl h
 | x :: xs,fr,h,d,h',hr=>by
  have hr:CRes.heap (R0 (guardOk x.gd fr) .bad (P0 x.dst (evOpsD E call xs) (c7 E call xs x.late (setDst x.dst skipped fr) h d) fr (evOpD E call x fr h d)) (evOpsD E call xs (setDst x.dst skipped fr) h d))=some h':=hr;cases hg:guardOk x.gd fr with
  |none=>rw[hg]at hr;cases hr
  | some b =>
   rw[hg]at hr;cases b with
   |false=>exact Ct hpres xs _ h d h' hr
   | true =>
    have hr:CRes.heap (P0 x.dst (evOpsD E call xs) (c7 E call xs x.late (setDst x.dst skipped fr) h d) fr (evOpD E call x fr h d))=some h':=hr;cases hev:evOpD E call x fr h d with
    |bad=>rw[hev]at hr;cases hr
    | pan v hh =>
     rw[hev]at hr;cases hr
    | ok v h1 d1 =>
     rw[hev]at hr;exact(eC (d:=d) hpres (h':=h1) (by rw[hev];rfl)).trans (Ct hpres xs _ h1 d1 h' hr)
theorem Sl{b:Tr->Heap->CRes}{r:CRes}{h h':Heap}(hr:CRes.heap (Ec b r)=some h')(ha:∀h₁,CRes.heap r=some h₁->Pres h h₁)(hb:∀fr₁ h₁ h',CRes.heap (b fr₁ h₁)=some h'->Pres h₁ h'):Pres h h':=by
 cases r with
 |bad=>cases hr
 |pan v hh=>exact ha _ hr
 | ok e1 fr1 h1 =>
  cases e1 with
  |normal=>exact(ha _ rfl).trans (hb _ _ _ hr)
  |exit i=>exact ha _ hr
  |ret=>exact ha _ hr
theorem eE{b:Tr->Heap->CRes}{r:CRes}{h h':Heap}(hr:CRes.heap (Dw b r)=some h')(ha:∀h₁,CRes.heap r=some h₁->Pres h h₁)(hb:∀fr₁ h₁ h',CRes.heap (b fr₁ h₁)=some h'->Pres h₁ h'):Pres h h':=by
 cases r with
 |bad=>cases hr
 |pan v hh=>cases hr
 | ok e1 fr1 h1 =>
  cases e1 with
  |normal=>exact(ha _ rfl).trans (hb _ _ _ hr)
  |exit i=>cases hr
  |ret=>cases hr
theorem Sm{vs:Option (List AV)}{h h':Heap}(hr:Res.heap (Pm vs h)=some h'):h'=h:=by
 cases vs with
 |none=>cases hr
 |some vs=>cases hr;rfl
theorem En{E:Env}{rs:List ResultVar}{r:CRes}{h':Heap}(hr:Res.heap (M0 E rs r)=some h'):CRes.heap r=some h':=by
 cases r with
 |bad=>cases hr
 |pan v hh=>exact hr
 | ok e fr1 h1 =>
  cases e with
  |exit i=>cases hr
  |normal=>rw[Sm hr];rfl
  |ret=>rw[Sm hr];rfl
def IRes.heap(r:IRes):Option Heap:=match r with | .ok _ _ _ h=>some h | .bad=>none
theorem O4{b:Tr->Heap->IRes}{r:CRes}{h h':Heap}(hr:IRes.heap (I9 b r)=some h')(ha:∀h₁,CRes.heap r=some h₁->Pres h h₁)(hb:∀fr₁ h₁ h',IRes.heap (b fr₁ h₁)=some h'->Pres h₁ h'):Pres h h':=by
 cases r with
 |bad=>cases hr
 |pan v hh=>cases hr
 | ok e1 fr1 h1 =>
  cases e1 with
  |normal=>exact(ha _ rfl).trans (hb _ _ _ hr)
  |exit i=>cases hr
  |ret=>cases hr
theorem Sn{b:Option Ex->Tr->Heap->IRes}{r:IRes}{h h':Heap}(hr:IRes.heap (Kv b r)=some h')(ha:∀h₁,IRes.heap r=some h₁->Pres h h₁)(hb:∀p fr₁ h₁ h',IRes.heap (b p fr₁ h₁)=some h'->Pres h₁ h'):Pres h h':=by
 cases r with
 |bad=>cases hr
 | ok e1 p fr1 h1 =>
  cases e1 with
  |normal=>exact(ha _ rfl).trans (hb _ _ _ _ hr)
  |exit i=>exact ha _ hr
  |ret=>exact ha _ hr
theorem n7{p:Option Ex}{fr:Tr}{h h':Heap}(hr:IRes.heap (n9 p fr h)=some h'):Pres h h':=by cases hr;exact .refl _
theorem onOB_heapI{b:Option Bool}{x y:IRes}{h:Heap}(hr:IRes.heap (R0 b .bad x y)=some h):(b=some true/\IRes.heap x=some h)\/(b=some false/\IRes.heap y=some h):=by
 cases b with
 |none=>cases hr
 |some b=>cases b;exact .inr ⟨rfl,hr⟩;exact .inl ⟨rfl,hr⟩
theorem oZ{r:IRes}{h:Heap}(hr:CRes.heap (finI r)=some h):IRes.heap r=some h:=by
 cases r with
 |bad=>cases hr
 |ok e p fr h1=>cases e<;>first|exact hr|cases hr
section
variable {E:Env}{ih:G8}(hi:dZ ih)
include hi
theorem jL{g:Operand}{rest:XC}{rs:List ResultVar}:∀(pre:List XC)(fr:Tr)(h h':Heap),Res.heap (pF E ih g rest rs pre fr h)=some h'->Pres h h':=fun pre fr h h' hr=>by
 have hr:(none:Option Heap)=some h':=hr;cases hr
theorem Ph:N9 (R5 E ih):=by
 intro f args h h' hr;unfold R5 at hr;cases ht:E.told f with
 | true =>
  rw[ht]at hr;simp only[cond_true]at hr
  have:h'=h:=by
   unfold toldA at hr;cases args with
   |nil=>cases hr
   | cons x r =>
    cases r with
    |nil=>cases hr
    | cons y r =>
     dsimp only at hr;obtain⟨_,hr⟩:=i6 (f:=Res.heap) hr rfl;cases x with
     | str s =>
      cases y with
      | str p =>
       obtain⟨_,hr⟩:=i6 (f:=Res.heap) hr rfl;cases hc:contS p s<;>rw[hc]at hr<;>cases hr<;>rfl
      |_=>cases hr
     |_=>cases hr
  rw[this];exact .refl h
 | false =>
  rw[ht]at hr;simp only[cond_false]at hr;cases hdf:E.dlf f with
  | some ks =>
   rw[hdf]at hr;have hr:Res.heap (jS E ih ks args h)=some h':=hr;have hb:jS E ih ks args h≠.bad:=fun e=>by rw[e]at hr;cases hr
   exact absurd rfl hb
  | none =>
   rw[hdf]at hr;dsimp only at hr;cases hsr:srtA E f args h with
   | some r =>
    rw[hsr]at hr;cases hsr
   | none =>
    rw[hsr]at hr;dsimp only at hr;cases hf:E.fn f with
    |none=>rw[hf]at hr;cases hr
    | some fi =>
     rw[hf]at hr;obtain⟨_,hr⟩:=i6 (f:=Res.heap) hr rfl;unfold Ss at hr;cases hm:fi.mode with
     |plain=>rw[hm]at hr;exact hi _ _ _ _ (En hr)
     |itf=>rw[hm]at hr;exact hi _ _ _ _ (En hr)
     |rcv=>rw[hm]at hr;cases hr
     |dfr pre g rest=>rw[hm]at hr;exact jL hi _ _ _ _ hr
theorem So:N9 (J8 E ih):=by
 intro f args h h' hr;unfold J8 at hr;cases hg:E.gc f with
 |false=>rw[hg]at hr;exact Ph hi f args h h' hr
 | true =>
  rw[hg]at hr;have hr:Res.heap (MY h (R5 E ih f args {h with tch:=[]}))=some h':=hr;cases hq:R5 E ih f args {h with tch:=[]}with
  |bad=>rw[hq]at hr;cases hr
  |pan v h1=>rw[hq]at hr;cases hr
  | ok v h1 =>
   rw[hq]at hr;cases hr;have hp:=pres_quiet (Ph hi f args {h with tch:=[]} h1 (by rw[hq];rfl));obtain⟨hn,t,ht,hget⟩:=hp;refine⟨hn,t,ht,fun i hlt hni=>?_⟩;show(h.os.trunc h1.os).get i=h.os.get i
   have e:h1.os.get i=h.os.get i:=hget i hlt hni;grind[HT.get_trunc]
theorem aK{ps:List Tmp}{a b:XC}{fr:Tr}{args:List AV}{h h':Heap}(hr:CRes.heap (roundY ih ps a b fr args h)=some h'):Pres h h':=by
 obtain⟨_,hr⟩:=i6 (f:=CRes.heap) hr rfl;exact eE hr (fun h₁ q=>hi _ _ _ _ q) (fun fr₁ h₁ h' q=>hi _ _ _ _ q)
theorem jM{p2:XC}{yd:Tmp}{fr:Tr}{r:CRes}{h h':Heap}(hr:IRes.heap (Ib ih p2 yd fr r)=some h')(ha:∀h₁,CRes.heap r=some h₁->Pres h h₁):Pres h h':=by
 cases r with
 |bad=>cases hr
 |pan v hh=>cases hr
 | ok e fr1 h1 =>
  refine(ha _ rfl).trans ?_;cases e with
  |normal=>exact O4 hr (fun h₁ q=>hi _ _ _ _ q) (fun _ _ _ q=>n7 q)
  |exit i=>exact O4 hr (fun h₁ q=>hi _ _ _ _ q) (fun _ _ _ q=>n7 q)
  |ret=>exact O4 hr (fun h₁ q=>hi _ _ _ _ q) (fun _ _ _ q=>n7 q)
theorem Xz{nt:Nat}{Y:List AV->Heap->CRes}(hY:∀l h h',CRes.heap (Y l h)=some h'->Pres h h'):∀(m:Nat)(c:IC)(p:Option Ex)(fr:Tr)(h h':Heap),IRes.heap (evI E ih nt Y m c p fr h)=some h'->Pres h h'
 |0,c,p,fr,h,h',hr=>by cases hr
 | m + 1,c,p,fr,h,h',hr=>by
  have k:=Xz (nt:=nt) hY m;cases c with
  |skip=>cases hr;exact .refl _
  |exit i=>cases hr;exact .refl _
  |ret=>cases hr;exact .refl _
  |reg x=>exact O4 (r:=ih x fr h) (b:=n9 p) hr (fun h₁ q=>hi _ _ _ _ q) (fun _ _ _ q=>n7 q)
  |seq a b=>exact Sn (r:=evI E ih nt Y m a p fr h) (b:=evI E ih nt Y m b) hr (fun h₁ q=>k a _ _ _ _ q) (by grind)
  |loop a=>exact Sn (r:=evI E ih nt Y m a p fr h) (b:=evI E ih nt Y m (.loop a)) hr (fun h₁ q=>k a _ _ _ _ q) (by grind)
  | cond x a b =>
   have hr:IRes.heap ((opv E x fr).onBool .bad fun t=>match t with|true=>evI E ih nt Y m a p fr h|false=>evI E ih nt Y m b p fr h)=some h':=hr;cases hv:opv E x fr with
   | bool t =>
    rw[hv]at hr;cases t with
    |true=>exact k a _ _ _ _ hr
    |false=>exact k b _ _ _ _ hr
   |_=>rw[hv]at hr;cases hr
  | block i a =>
   have hr:IRes.heap (Jl i (evI E ih nt Y m a p fr h))=some h':=hr;cases hq:evI E ih nt Y m a p fr h with
   |bad=>rw[hq]at hr;cases hr
   | ok e1 p1 fr1 h1 =>
    rw[hq]at hr;have hp:=k a p fr h h1 (by rw[hq];rfl);cases e1 with
    |normal=>cases hr;exact hp
    |ret=>cases hr;exact hp
    | exit j =>
     have hr:IRes.heap (bif Nat.beq j i then IRes.ok .normal p1 fr1 h1 else .ok (.exit j) p1 fr1 h1)=some h':=hr;cases hb:Nat.beq j i with
     |true=>rw[hb]at hr;cases hr;exact hp
     |false=>grind
  | yreg p0 gd yt p1 yd args p2 =>
   refine O4 (r:=ih p0 fr h) (b:=fun fr h=>R0 (guardOk gd fr) .bad (eI E ih nt Y gd yt p1 yd args p2 p fr h) (AE ih gd yt p1 yd p2 p fr h)) hr (fun h₁ q=>hi _ _ _ _ q) (fun fr₁ h₁ h' q=>?_);rcases onOB_heapI q with⟨_,q⟩|⟨_,q⟩
   . cases p with
     |some _=>cases q
     | none =>
      obtain⟨_,q⟩:=i6 (f:=IRes.heap) q rfl;refine O4 q (fun h₁ q=>hi _ _ _ _ q) (fun fr₁ h₁ h' q=>?_);rcases onOB_heapI q with⟨_,q⟩|⟨_,q⟩
      . grind[jM]
      . cases q
   . refine O4 q (fun h₁ q=>hi _ _ _ _ q) (fun fr₁ h₁ h' q=>?_)
     rcases onOB_heapI q with⟨_,q⟩|⟨_,q⟩
     . cases q
     . exact O4 q (fun h₁ q=>hi _ _ _ _ q) (fun _ _ _ q=>n7 q)
theorem jN{ps:List Tmp}{a b:XC}{fr:Tr}{g:AV}{h h':Heap}(hr:CRes.heap (rfnA E ih ps a b fr h g)=some h'):Pres h h':=by
 cases g with
 | fn f first caps =>
  cases f with
  | func n =>
   obtain⟨_,hr⟩:=i6 (f:=CRes.heap) hr rfl;have key:∀r,CRes.heap (backA fr r)=some h'->CRes.heap r=some h':=fun r hr=>by cases r<;>first|exact hr|cases hr
   have hr:=key _ hr;unfold itF at hr;cases hf:E.fn n with
   |none=>rw[hf]at hr;cases hr
   | some fi =>
    rw[hf]at hr;obtain⟨_,hr⟩:=i6 (f:=CRes.heap) hr rfl;cases hm:fi.mode with
    | itf c =>
     rw[hm]at hr;exact Xz hi (fun l h h' q=>aK hi q) _ _ _ _ _ _ (oZ hr)
    |_=>rw[hm]at hr;cases hr
  |_=>cases hr
 |_=>cases hr
end
theorem Bw(E:Env):∀(n:Nat),dZ (ev E n)
 |0,c,fr,h,h',hr=>by cases hr
 | n + 1,c,fr,h,h',hr=>by
  have ih:=Bw E n;have hcall:=So (E:=E) ih;cases c with
  |skip=>cases hr;exact .refl h
  |ret=>cases hr;exact .refl h
  |exit i=>cases hr;exact .refl h
  |bad=>cases hr
  | reg d l =>
   cases d with
   |false=>exact Em hcall l fr h h' hr
   |true=>exact Ct hcall l fr h [] h' hr
  |seq x y=>exact Sl (r:=ev E n x fr h) (b:=ev E n y) hr (fun h₁ q=>ih x fr h h₁ q) (fun fr₁ h₁ h' q=>ih y fr₁ h₁ h' q)
  |loop x=>exact Sl (r:=ev E n x fr h) (b:=ev E n (.loop x)) hr (fun h₁ q=>ih x fr h h₁ q) (fun fr₁ h₁ h' q=>ih (.loop x) fr₁ h₁ h' q)
  |scope x=>exact ih x fr h h' hr
  |rfn g ps a b=>exact jN ih hr
  | rngm R y =>
   have hr:CRes.heap (Yc E (ev E n) R y fr h)=some h':=hr;have hb:Yc E (ev E n) R y fr h≠.bad:=fun e=>by rw[e]at hr;cases hr
   exact absurd rfl hb
  | cond c x y =>
   have hr:CRes.heap (Pn (ev E n x) (ev E n y) (opv E c fr) fr h)=some h':=hr;cases hv:opv E c fr with
   | bool b =>
    rw[hv]at hr;cases b with
    |true=>exact ih x fr h h' hr
    |false=>exact ih y fr h h' hr
   |_=>rw[hv]at hr;cases hr
  | block i x =>
   have hr:CRes.heap (Ey i (ev E n x fr h))=some h':=hr;cases hq:ev E n x fr h with
   |bad=>rw[hq]at hr;cases hr
   |pan v hh=>rw[hq]at hr;exact ih x fr h h' (by rw[hq];exact hr)
   | ok e1 fr1 h1 =>
    rw[hq]at hr;have hp:=ih x fr h h1 (by rw[hq];rfl);cases e1 with
    |normal=>cases hr;exact hp
    |ret=>cases hr;exact hp
    | exit j =>
     have hr:CRes.heap (bif Nat.beq j i then CRes.ok .normal fr1 h1 else .ok (.exit j) fr1 h1)=some h':=hr;cases hb:Nat.beq j i with
     |true=>rw[hb]at hr;cases hr;exact hp
     |false=>rw[hb]at hr;cases hr;exact hp
theorem xS(E:Env)(n:Nat):N9 (J8 E (ev E n)):=So (Bw E n)
end Go.AM
