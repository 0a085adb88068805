/- The abstract machine, part four: regions that draw their order, whole functions, and what a row asks: sound. Conditions: none. -/
import Derived.Test.YtkbklpkbdccpdaaAmThree
import Derived.Scope
import Derived.RowKit3
import Derived.Below
import Derived.ChangeSame
import Derived.ProofKit
import Derived.OpenShut
set_option linter.unusedVariables false
set_option linter.unusedSimpArgs false
/-
  The abstract machine: a region that draws its order: whatever is drawn, what is told holds.
-/
namespace Go.AM

section
variable (E : Env) (call : CallF) (ops : Array Oper) (ms l : List Nat) (s₀ : Tr × HD) (W₀ : World)

/-- Does the operation at a place lay a new object? -/
def isNew (m : Nat) : Prop := ∃ s x, St E call (xops ops.toList ms [] l) s₀ m = some s ∧ (xops ops.toList ms [] l)[m]? = some x ∧ guardOk x.gd s.1 = some true ∧ cls x.op = 2

/-- A new object that was laid ahead of its turn: the block is held. -/
structure NewP (W : World) (cx : Cx) (tmps : Array Value) (b : Nat) (s : Tr × HD) (r : AV × HD) (o : Oper) : Prop where
  held : cx.held b
  own : cx.own b
  new : W₀.heap.size ≤ b
  rest : ∃ (es : List AV) (sz : Nat) (nx : Nat → AV), r = (nx s.2.1.next, (s.2.1.push (.row es sz), s.2.2)) ∧ ObjRep W cx (b, 0, sz) (.row es sz) ∧
    ∀ (t : Nat), o.dst = some t → t < tmps.size → ∀ (W₂ : World) (cx₂ : Cx) (id : Nat), cx₂.μ id = (b, 0, sz) → id < cx₂.nx → b < W₂.heap.size → szOf W₂ b = szOf W b → Rep W₂ cx₂ (tmps.getD t undef) (nx id)

/-- An operation that was done ahead of its turn. -/
def Pend (W : World) (cx : Cx) (tmps : Array Value) (fr fp : Tr) (b : Nat) (m : Nat) (o : Oper) : Prop :=
  cls o.op ≠ 3 ∧ ∃ s x r, St E call (xops ops.toList ms [] l) s₀ m = some s ∧ (xops ops.toList ms [] l)[m]? = some x ∧ stp E call x s.1 s.2 = some r ∧
    ((¬ isNew E call ops ms l s₀ m ∧ r.2 = s.2 ∧ ∀ t, o.dst = some t → fp.get t = if fr.has t then r.1 else .und) ∨ (isNew E call ops ms l s₀ m ∧ NewP W₀ W cx tmps b s r o))

structure Inv (S : Act → Prop) (cx₀ : Cx) (lis : Nat → Prop) (β : Nat → Nat) (k : Nat) (W : World) (cx : Cx) (a : Act) (fr : Tr) (h : HD) (fp : Tr) : Prop where
  st : St E call (xops ops.toList ms [] l) s₀ k = some (fr, h)
  kle : k ≤ l.length
  pre : ∀ (m i : Nat), m < k → l[m]? = some i → lis i
  clo : ∀ (i j : Nat), i < ops.size → j < ops.size → lis j → bit (ms.getD j 0) i = true → lis i
  sat : Sat E W cx h.1
  frep : FrRep W cx a.tmps fp
  has : ∀ t, fp.has t = fr.has t
  ext : Ext W₀ cx₀ W cx
  dfr : S a
  stab : ∀ (i : Nat) (o : Oper), ops[i]? = some o → Stab S o.dst
  pend : ∀ (m i : Nat) (o : Oper), k ≤ m → l[m]? = some i → lis i → ops[i]? = some o → Pend E call ops ms l s₀ W₀ W cx a.tmps fr fp (β m) m o
  old : ∀ t, (∀ (m i : Nat) (o : Oper), k ≤ m → l[m]? = some i → lis i → ops[i]? = some o → o.dst ≠ some t) → fp.get t = fr.get t
  sep : ∀ (m m' i i' : Nat), k ≤ m → k ≤ m' → l[m]? = some i → l[m']? = some i' → lis i → lis i' → isNew E call ops ms l s₀ m → isNew E call ops ms l s₀ m' → β m = β m' → m = m'
end

section
variable {P : Program} {E : Env} {call : CallF} {ops : Array Oper} {ms l : List Nat} {s₀ : Tr × HD} {W₀ : World} {S : Act → Prop} {cx₀ : Cx} {lis : Nat → Prop} {β : Nat → Nat} {k : Nat} {W : World} {cx : Cx} {a : Act} {fr fp : Tr} {h : HD}

theorem NewP.mono {W' : World} {cx' : Cx} {tmps tmps' : Array Value} {b : Nat} {s : Tr × HD} {r : AV × HD} {o : Oper} (he : Ext W cx W' cx') (hb : b < W.heap.size) (ho : cx'.own b) (ht : ∀ t, o.dst = some t → tmps'.size = tmps.size ∧ tmps'.getD t undef = tmps.getD t undef) (hn : NewP W₀ W cx tmps b s r o) : NewP W₀ W' cx' tmps' b s r o := by
  obtain ⟨h1, h2, h3, es, sz, nx, h4, h5, h6⟩ := hn
  obtain ⟨h7, h8⟩ := he.hold b hb h1
  refine ⟨h7, ho, h3, es, sz, nx, h4, h5.mono he h8, fun t htd hlt W₂ cx₂ id k1 k2 k3 k4 => ?_⟩
  obtain ⟨e1, e2⟩ := ht t htd
  rw [e2]
  exact h6 t htd (by rw [← e1]; exact hlt) W₂ cx₂ id k1 k2 k3 (by rw [k4, he.shape b hb])

theorem guardOk_congr {o : Oper} (hl : ∀ t ∈ AM.looksAt ops.toList o, fp.get t = fr.get t) : guardOk (guardOf ops.toList o) fp = guardOk (guardOf ops.toList o) fr := by
  unfold guardOf
  cases hg : o.guard with
  | none => rfl
  | some p =>
    dsimp only
    show guardOn _ fp = guardOn _ fr
    unfold guardOn
    dsimp only
    cases hq : ops.toList[p.1]? with
    | none => rfl
    | some q =>
      dsimp only
      cases hd : q.dst with
      | none => rfl
      | some t =>
        dsimp only
        rw [hl t (by unfold AM.looksAt; rw [hg]; dsimp only; rw [hq]; dsimp only; rw [hd]; simp)]

theorem opv_agree {o : Oper} (hl : ∀ t ∈ AM.looksAt ops.toList o, fp.get t = fr.get t) : ∀ y ∈ o.op.operands.toList, opv E y fp = opv E y fr := by
  intro y hy
  cases y with
  | tmp t => exact hl t (by unfold AM.looksAt; exact List.mem_append_left _ (List.mem_filterMap.2 ⟨.tmp t, hy, rfl⟩))
  | _ => rfl

/-- What an operation that is due looks at is as it will be in its turn. -/
theorem Inv.looks (hp : Plan ops ms l) (hi : Inv E call ops ms l s₀ W₀ S cx₀ lis β k W cx a fr h fp) {m i : Nat} {o : Oper} (hk : k ≤ m) (hl : l[m]? = some i) (ho : ops[i]? = some o) (hn : ¬ lis i) (hd : ∀ j, j < ops.size → bit (ms.getD i 0) j = true → lis j)
    (hfirst : m = k ∨ ∃ j, l[k]? = some j ∧ ¬ lis j) {frm : Tr} {hm : HD} (hst : St E call (xops ops.toList ms [] l) s₀ m = some (frm, hm)) : ∀ t ∈ AM.looksAt ops.toList o, fp.get t = frm.get t := by
  intro t ht
  have hisz := hp.lt m i hl
  by_cases hex : ∃ p i' o', k ≤ p ∧ p < m ∧ l[p]? = some i' ∧ ops[i']? = some o' ∧ o'.dst = some t
  · obtain ⟨p, i', o', h1, h2, h3, h4, h5⟩ := hex
    cases hb : bit (ms.getD i 0) i' with
    | false => exact absurd ht ((hp.apart h2 h3 hl h4 ho hb).2.1 t h5)
    | true =>
      have hlis := hd i' (hp.lt p i' h3) hb
      obtain ⟨h6, s, x, r, h7, h8, h9, h10⟩ := hi.pend p i' o' h1 h3 hlis h4
      rcases h10 with ⟨_, _, h11⟩ | ⟨h11, _⟩
      · rw [h11 t h5]
        exact (St_new hp hi.st h1 h2 h7 hst h8 h9 h3 h4 h5).symm
      · exfalso
        obtain ⟨s', x', _, k2, _, k4⟩ := h11
        have hx := hp.xget h3 h4
        rw [k2] at hx
        have hc : cls o'.op = 2 := by rw [Option.some.inj hx] at k4; exact k4
        rcases hfirst with rfl | ⟨j, hj, hnj⟩
        · omega
        · rcases Nat.lt_or_ge k p with hkp | hkp
          · exact hnj (hd j (hp.lt k j hj) (hp.news p i' o' h3 h4 hc m i h2 hl hb k j hkp hj))
          · have : k = p := by omega
            subst this
            rw [hj] at h3; cases h3; exact hnj hlis
  · obtain ⟨n, rfl⟩ : ∃ n, m = k + n := ⟨m - k, by omega⟩
    rw [St_old hp hi.st n (frm, hm) hst (t := t) fun p i' o' a b c d e => hex ⟨p, i', o', a, b, c, d, e⟩]
    refine hi.old t fun q i' o' h1 h2 h3 h4 h5 => ?_
    rcases Nat.lt_trichotomy q (k + n) with hq | hq | hq
    · exact hex ⟨q, i', o', h1, hq, h2, h4, h5⟩
    · subst hq; rw [hl] at h2; cases h2; exact hn h3
    · cases hb : bit (ms.getD i' 0) i with
      | true => exact hn (hi.clo i i' hisz (hp.lt q i' h2) h3 hb)
      | false => exact absurd ht ((hp.apart hq hl h2 ho h4 hb).2.2 t h5)

theorem put_getD_ne {a : Act} {d : Option Tmp} {v : Value} {t : Nat} (h : d ≠ some t) : (a.put d v).tmps.size = a.tmps.size ∧ (a.put d v).tmps.getD t undef = a.tmps.getD t undef := by
  cases d with
  | none => exact ⟨rfl, rfl⟩
  | some d =>
    have hne : d ≠ t := fun e => h (by rw [e])
    show (a.tmps.setIfInBounds d v).size = _ ∧ (a.tmps.setIfInBounds d v).getD t undef = _
    exact ⟨by simp, by simp [Array.getD_eq_getD_getElem?, Array.getElem?_setIfInBounds_ne hne]⟩

theorem Pend.mono {W' : World} {cx' : Cx} {tmps tmps' : Array Value} {fr' fp' : Tr} {b m : Nat} {o : Oper} (he : Ext W cx W' cx') (hb : cx.held b → b < W.heap.size) (hown : cx.held b → cx.own b → cx'.own b) (hhas : ∀ t, fr'.has t = fr.has t)
    (ht : ∀ t, o.dst = some t → tmps'.size = tmps.size ∧ tmps'.getD t undef = tmps.getD t undef ∧ fp'.get t = fp.get t) (hpd : Pend E call ops ms l s₀ W₀ W cx tmps fr fp b m o) : Pend E call ops ms l s₀ W₀ W' cx' tmps' fr' fp' b m o := by
  obtain ⟨h1, s, x, r, h2, h3, h4, h5⟩ := hpd
  refine ⟨h1, s, x, r, h2, h3, h4, ?_⟩
  rcases h5 with ⟨h6, h7, h8⟩ | ⟨h6, h7⟩
  · exact .inl ⟨h6, h7, fun t htd => by rw [(ht t htd).2.2, hhas]; exact h8 t htd⟩
  · exact .inr ⟨h6, h7.mono he (hb h7.held) (hown h7.held h7.own) fun t htd => ⟨(ht t htd).1, (ht t htd).2.1⟩⟩

/-- One operation more is done, of which this is told. -/
theorem Inv.more (hp : Plan ops ms l) (hi : Inv E call ops ms l s₀ W₀ S cx₀ lis β k W cx a fr h fp) {m i : Nat} {o : Oper} (hk : k ≤ m) (hl : l[m]? = some i) (ho : ops[i]? = some o) (hn : ¬ lis i) (hd : ∀ j, j < ops.size → bit (ms.getD i 0) j = true → lis j)
    {v' : Value} {W' : World} {cx' : Cx} (he : Ext W cx W' cx') (hown : ∀ b, cx.held b → cx.own b → cx'.own b) {v : AV} (hv : Rep W' cx' v' v) {k' : Nat} {fr' : Tr} {h' : HD} {β' : Nat → Nat}
    (hst : St E call (xops ops.toList ms [] l) s₀ k' = some (fr', h')) (hkk : k' = k ∨ (k' = k + 1 ∧ m = k)) (hkl : k' ≤ l.length) (hpre : ∀ (q j : Nat), q < k' → l[q]? = some j → lis j ∨ j = i) (hs : Sat E W' cx' h'.1) (hfr : ∀ t, o.dst ≠ some t → fr'.get t = fr.get t)
    (hβ : ∀ q, q ≠ m → β' q = β q) (hhas : ∀ t, fr'.has t = fr.has t)
    (hown2 : k' ≤ m → Pend E call ops ms l s₀ W₀ W' cx' (a.put o.dst v').tmps fr' (setDst o.dst v fp) (β' m) m o) (hsep : k' ≤ m → isNew E call ops ms l s₀ m → ∀ b, cx.held b → β' m ≠ b) (hdst : m < k' → ∀ t, o.dst = some t → (setDst o.dst v fp).get t = fr'.get t) :
    Inv E call ops ms l s₀ W₀ S cx₀ (fun j => lis j ∨ j = i) β' k' W' cx' (a.put o.dst v') fr' h' (setDst o.dst v fp) := by
  have hk' : k ≤ k' := by omega
  exact {
    st := hst
    kle := hkl
    pre := hpre
    clo x y hx hy hly hb := by
      rcases hly with hly | rfl
      · exact .inl (hi.clo x y hx hy hly hb)
      · exact .inl (hd x hx hb)
    sat := hs
    frep := (hi.frep.mono he).put o.dst hv
    has t := by rw [setDst_has, hhas]; exact hi.has t
    ext := hi.ext.trans he
    dfr := hi.stab i o ho _ _ hi.dfr
    stab := hi.stab
    pend q j oq hkq hlq hlis hoq := by
      by_cases hq : q = m
      · subst hq
        rw [hl] at hlq; cases hlq
        rw [ho] at hoq; cases hoq
        exact hown2 hkq
      · rw [hβ q hq]
        have hlj : lis j := by
          rcases hlis with h1 | rfl
          · exact h1
          · exact absurd (hp.inj q m _ hlq hl) hq
        refine (hi.pend q j oq (Nat.le_trans hk' hkq) hlq hlj hoq).mono he (fun h => (hi.sat.held _ h).1) (hown _) hhas fun t htd => ?_
        have hne : o.dst ≠ some t := by
          intro e
          rcases Nat.lt_or_ge q m with h1 | h1
          · exact hp.dst q m j i oq o t h1 hlq hl hoq ho htd e
          · exact hp.dst m q i j o oq t (by omega) hl hlq ho hoq e htd
        exact ⟨(put_getD_ne hne).1, (put_getD_ne hne).2, setDst_ne hne⟩
    old t ht := by
      by_cases hdt : o.dst = some t
      · rcases Nat.lt_or_ge m k' with h1 | h1
        · exact hdst h1 t hdt
        · exact absurd hdt (ht m i o h1 hl (.inr rfl) ho)
      · rw [setDst_ne hdt, hfr t hdt]
        refine hi.old t fun q j oq hkq hlq hlj hoq => ?_
        rcases Nat.lt_or_ge q k' with h1 | h1
        · have hqk : q = k := by omega
          have hmk : m = k := by omega
          subst hqk; subst hmk
          rw [hl] at hlq; cases hlq; exact absurd hlj hn
        · exact ht q j oq h1 hlq (.inl hlj) hoq
    sep q q' j j' hq hq' hlq hlq' hlj hlj' hnq hnq' he' := by
      have lisOf : ∀ {q j}, q ≠ m → l[q]? = some j → (lis j ∨ j = i) → lis j := by
        intro q j hqm hlq hlj
        rcases hlj with h1 | rfl
        · exact h1
        · exact absurd (hp.inj q m _ hlq hl) hqm
      have heldOf : ∀ {q j}, q ≠ m → k' ≤ q → l[q]? = some j → (lis j ∨ j = i) → isNew E call ops ms l s₀ q → cx.held (β q) := by
        intro q j hqm hkq hlq hlj hnq
        obtain ⟨oq, hoq⟩ : ∃ oq, ops[j]? = some oq := ⟨_, Array.getElem?_eq_getElem (hp.lt q j hlq)⟩
        obtain ⟨_, s, x, r, _, _, _, h5⟩ := hi.pend q j oq (Nat.le_trans hk' hkq) hlq (lisOf hqm hlq hlj) hoq
        rcases h5 with ⟨h6, _⟩ | ⟨_, h7⟩
        · exact absurd hnq h6
        · exact h7.held
      by_cases h1 : q = m <;> by_cases h2 : q' = m
      · rw [h1, h2]
      · subst h1
        rw [hβ q' h2] at he'
        exact absurd he' (hsep hq hnq _ (heldOf h2 hq' hlq' hlj' hnq'))
      · subst h2
        rw [hβ q h1] at he'
        exact absurd he'.symm (hsep hq' hnq' _ (heldOf h1 hq hlq hlj hnq))
      · rw [hβ q h1, hβ q' h2] at he'
        exact hi.sep q q' j j' (Nat.le_trans hk' hq) (Nat.le_trans hk' hq') hlq hlq' (lisOf h1 hlq hlj) (lisOf h2 hlq' hlj') hnq hnq' he' }
end
end Go.AM

/-
  The abstract machine: a region that draws its order: each step, and the whole.
-/
namespace Go.AM

section
variable {P : Program} {E : Env} {call : CallF} {ops : Array Oper} {ms l : List Nat} {s₀ : Tr × HD} {W₀ : World} {S : Act → Prop} {cx₀ : Cx} {lis : Nat → Prop} {β : Nat → Nat} {k : Nat} {W : World} {cx : Cx} {a : Act} {fr fp : Tr} {h : HD}

theorem FrRep.setIf {tmps : Array Value} {fr : Tr} (hf : FrRep W cx tmps fr) {i : Nat} {x : AV} (hx : i < tmps.size → Rep W cx (tmps.getD i undef) x) : FrRep W cx tmps (fr.set i x) where
  rep j := by
    by_cases e : i = j
    · subst e
      rw [Tr.get_set_eq]
      split
      · rename_i hh; exact hx (hf.has _ hh)
      · exact .und _
    · rw [Tr.get_set_ne _ _ _ _ e]; exact hf.rep j
  has j hj := by rw [Tr.has_set] at hj; exact hf.has j hj

/-- A block that was held becomes the next object's. -/
def Cx.adopt (cx : Cx) (b sz : Nat) : Cx := ⟨fun id => if id = cx.nx then (b, 0, sz) else cx.μ id, cx.nx + 1, cx.own, fun x => cx.held x ∧ x ≠ b⟩
theorem Cx.adopt_new (cx : Cx) (b sz : Nat) : (cx.adopt b sz).μ cx.nx = (b, 0, sz) := by simp [Cx.adopt]
theorem Cx.adopt_old (cx : Cx) (b sz : Nat) {i : Nat} (h : i < cx.nx) : (cx.adopt b sz).μ i = cx.μ i := by
  simp only [Cx.adopt]; rw [if_neg (by omega)]
theorem Ext0.adopt (W : World) (cx : Cx) (b sz : Nat) : Ext0 W cx W (cx.adopt b sz) :=
  ⟨Nat.le_succ _, fun id hid => cx.adopt_old _ _ hid, Nat.le_refl _, fun _ _ _ => rfl, fun _ _ => rfl, fun _ _ h => h⟩
theorem Sat.adopt {h : Heap} (hs : Sat E W cx h) {b sz : Nat} (hb : cx.held b) (x : AObj) (hx : ObjRep W cx (b, 0, sz) x) : Sat E W (cx.adopt b sz) (h.push x) where
  nx := by show h.next + 1 = cx.nx + 1; rw [hs.nx]
  objs id y hy := by
    have he := Ext0.adopt W cx b sz
    by_cases hid : id = h.next
    · subst hid
      rw [Heap.get_push_eq] at hy; cases hy
      rw [hs.nx, Cx.adopt_new]
      exact ⟨Nat.lt_succ_self _, (hs.held b hb).2, (hs.held b hb).1, hx.mono0 he rfl⟩
    · rw [Heap.get_push_ne _ _ hid] at hy
      obtain ⟨h1, h2, h3, h4⟩ := hs.objs id y hy
      rw [Cx.adopt_old _ _ _ h1]
      exact ⟨Nat.lt_succ_of_lt h1, h2, h3, h4.mono0 he rfl⟩
  inj id id' y y' hy hy' heq := by
    have key : ∀ j z, h.get j = some z → (cx.μ j).1 ≠ b := fun j z hz e => hs.free j z hz (by rw [e]; exact hb)
    by_cases hid : id = h.next <;> by_cases hid' : id' = h.next
    · rw [hid, hid']
    · rw [Heap.get_push_ne _ _ hid'] at hy'
      rw [hid, hs.nx, Cx.adopt_new, Cx.adopt_old _ _ _ (hs.objs id' y' hy').1] at heq
      exact absurd heq.symm (key id' y' hy')
    · rw [Heap.get_push_ne _ _ hid] at hy
      rw [hid', hs.nx, Cx.adopt_new, Cx.adopt_old _ _ _ (hs.objs id y hy).1] at heq
      exact absurd heq (key id y hy)
    · rw [Heap.get_push_ne _ _ hid] at hy
      rw [Heap.get_push_ne _ _ hid'] at hy'
      rw [Cx.adopt_old _ _ _ (hs.objs id y hy).1, Cx.adopt_old _ _ _ (hs.objs id' y' hy').1] at heq
      exact hs.inj id id' y y' hy hy' heq
  gl g v hg := (hs.gl g v hg).mono0 (Ext0.adopt W cx b sz)
  held x hx := hs.held x hx.1
  free id y hy := by
    by_cases hid : id = h.next
    · subst hid; rw [hs.nx, Cx.adopt_new]; exact fun hh => hh.2 rfl
    · rw [Heap.get_push_ne _ _ hid] at hy
      rw [Cx.adopt_old _ _ _ (hs.objs id y hy).1]; exact fun hh => hs.free id y hy hh.1

theorem Plan.xdst (hp : Plan ops ms l) {m i : Nat} {o : Oper} (hm : l[m]? = some i) (ho : ops[i]? = some o) {x : XOp} (hx : (xops ops.toList ms [] l)[m]? = some x) : x.dst = o.dst ∧ x.op = o.op ∧ x.gd = guardOf ops.toList o ∧ x.quiet = quietAt ops.toList ms i (l.drop (m + 1)) ∧ x.solo = soloAt ms i (l.drop (m + 1)) ∧ x.careful = carefulAt ops.toList ms i ((l.take m).reverse ++ []) := by
  have := hp.xget hm ho
  rw [hx] at this
  rw [Option.some.inj this]
  exact ⟨rfl, rfl, rfl, rfl, rfl, rfl⟩
theorem Plan.op (hp : Plan ops ms l) {m i : Nat} (hm : l[m]? = some i) : ∃ o, ops[i]? = some o := ⟨_, Array.getElem?_eq_getElem (hp.lt m i hm)⟩

/-- The run of reference goes over what was done ahead of its turn. -/
theorem Inv.advance (hp : Plan ops ms l) (hi : Inv E call ops ms l s₀ W₀ S cx₀ lis β k W cx a fr h fp) {i : Nat} (hl : l[k]? = some i) (hlis : lis i) :
    ∃ cx' fr' h' fp', Inv E call ops ms l s₀ W₀ S cx₀ lis β (k + 1) W cx' a fr' h' fp' := by
  obtain ⟨o, ho⟩ := hp.op hl
  have hkl : k < l.length := get_lt hl
  obtain ⟨hc3, s, x, r, h1, h2, h3, h4⟩ := hi.pend k i o (Nat.le_refl _) hl hlis ho
  rw [hi.st] at h1; cases h1
  obtain ⟨hxd, hxo, hxg, _, _, _⟩ := hp.xdst hl ho h2
  have hst := St_mk hi.st h2 h3
  rw [hxd] at hst
  have hpre : ∀ (m j : Nat), m < k + 1 → l[m]? = some j → lis j := fun m j hm hlj => by
    rcases Nat.lt_or_ge m k with h' | h'
    · exact hi.pre m j h' hlj
    · have : m = k := by omega
      subst this; rw [hl] at hlj; cases hlj; exact hlis
  have dne : ∀ {m j : Nat} {oj : Oper} {t : Nat}, k + 1 ≤ m → l[m]? = some j → ops[j]? = some oj → oj.dst = some t → o.dst ≠ some t := fun hm hlj hoj ht e => hp.dst k _ i _ o _ _ (by omega) hl hlj ho hoj e ht
  rcases h4 with ⟨h4, h5, h6⟩ | ⟨h4, h5⟩
  · refine ⟨cx, setDst o.dst r.1 fr, h, fp, ?_⟩
    dsimp only at h5
    rw [h5] at hst
    exact {
      st := hst
      kle := hkl
      pre := hpre
      clo := hi.clo
      sat := hi.sat
      frep := hi.frep
      has := fun t => by rw [setDst_has]; exact hi.has t
      ext := hi.ext
      dfr := hi.dfr
      stab := hi.stab
      pend := fun m j oj hm hlj hlisj hoj => (hi.pend m j oj (by omega) hlj hlisj hoj).mono (Ext.refl _ _) (fun hh => (hi.sat.held _ hh).1) (fun _ hh => hh) (fun t => setDst_has _ _ _ _) (fun t ht => ⟨rfl, rfl, rfl⟩)
      old := fun t ht => by
        by_cases hd : o.dst = some t
        · rw [h6 t hd, hd, setDst_eq]
        · rw [setDst_ne hd]
          refine hi.old t fun m j oj hm hlj hlisj hoj => ?_
          rcases Nat.lt_or_ge k m with h' | h'
          · exact ht m j oj h' hlj hlisj hoj
          · have : m = k := by omega
            subst this; rw [hl] at hlj; cases hlj; rw [ho] at hoj; cases hoj; exact hd
      sep := fun m m' j j' hm hm' => hi.sep m m' j j' (by omega) (by omega) }
  · obtain ⟨n1, n2, n3, es, sz, nx, n4, n5, n6⟩ := h5
    rw [n4] at hst
    dsimp only at hst n4
    have he0 := Ext0.adopt W cx (β k) sz
    refine ⟨cx.adopt (β k) sz, setDst o.dst (nx h.1.next) fr, (h.1.push (.row es sz), h.2), setDst o.dst (nx h.1.next) fp, ?_⟩
    exact {
      st := hst
      kle := hkl
      pre := hpre
      clo := hi.clo
      sat := hi.sat.adopt n1 _ n5
      frep := by
        cases hd : o.dst with
        | none => exact hi.frep.mono0 he0
        | some t =>
          refine (hi.frep.mono0 he0).setIf fun hlt => ?_
          exact n6 t hd hlt W _ h.1.next (by rw [hi.sat.nx, Cx.adopt_new]) (by show h.1.next < cx.nx + 1; rw [hi.sat.nx]; omega) (hi.sat.held _ n1).1 rfl
      has := fun t => by rw [setDst_has, setDst_has]; exact hi.has t
      ext := ⟨hi.ext.toExt0.trans he0, fun b hb hh => ⟨⟨(hi.ext.hold b hb hh).1, fun e => by omega⟩, (hi.ext.hold b hb hh).2⟩, hi.ext.out⟩
      dfr := hi.dfr
      stab := hi.stab
      pend := fun m j oj hm hlj hlisj hoj => by
        obtain ⟨p1, sm, xm, rm, p2, p3, p4, p5⟩ := hi.pend m j oj (by omega) hlj hlisj hoj
        refine ⟨p1, sm, xm, rm, p2, p3, p4, ?_⟩
        rcases p5 with ⟨p5, p6, p7⟩ | ⟨p5, p6, p7, p8, es', sz', nx', p9, p10, p11⟩
        · refine .inl ⟨p5, p6, fun t ht => ?_⟩
          rw [setDst_ne (dne hm hlj hoj ht), setDst_has]; exact p7 t ht
        · refine .inr ⟨p5, ⟨p6, fun e => ?_⟩, p7, p8, es', sz', nx', p9, p10.mono0 he0 rfl, p11⟩
          have := hi.sep m k j i (by omega) (Nat.le_refl _) hlj hl hlisj hlis p5 h4 e
          omega
      old := fun t ht => by
        by_cases hd : o.dst = some t
        · rw [hd, setDst_eq, setDst_eq, hi.has]
        · rw [setDst_ne hd, setDst_ne hd]
          refine hi.old t fun m j oj hm hlj hlisj hoj => ?_
          rcases Nat.lt_or_ge k m with h' | h'
          · exact ht m j oj h' hlj hlisj hoj
          · have : m = k := by omega
            subst this; rw [hl] at hlj; cases hlj; rw [ho] at hoj; cases hoj; exact hd
      sep := fun m m' j j' hm hm' => hi.sep m m' j j' (by omega) (by omega) }

/-- How the run of reference ends. -/
def Ends (E : Env) (call : CallF) (xs : List XOp) (s₀ : Tr × HD) (r : CRes) : Prop :=
  (∃ fr' h', St E call xs s₀ xs.length = some (fr', h') ∧ r = .ok .normal fr' h'.1) ∨
    ∃ m x fr' h' v hh, St E call xs s₀ m = some (fr', h') ∧ xs[m]? = some x ∧ guardOk x.gd fr' = some true ∧ evOpD E call x fr' h'.1 h'.2 = .pan v hh ∧ r = .pan v hh

theorem pan_stp {x : XOp} {fr : Tr} {h : HD} {v : AV} {hh : Heap} (hg : guardOk x.gd fr = some true) (hp : evOpD E call x fr h.1 h.2 = .pan v hh) : stp E call x fr h = none := by
  unfold stp; rw [hg]; dsimp only; rw [hp]; rfl

theorem Ends.step {xs : List XOp} {r : CRes} (he : Ends E call xs s₀ r) {m : Nat} {s : Tr × HD} (hs : St E call xs s₀ m = some s) {x : XOp} (hx : xs[m]? = some x) :
    (∃ q, stp E call x s.1 s.2 = some q) ∨ (∃ v hh, guardOk x.gd s.1 = some true ∧ evOpD E call x s.1 s.2.1 s.2.2 = .pan v hh ∧ r = .pan v hh) := by
  have hm : m < xs.length := get_lt' hx
  have more : ∀ s', St E call xs s₀ (m + 1) = some s' → ∃ q, stp E call x s.1 s.2 = some q := fun s' h' => by
    obtain ⟨s1, x1, q, h1, h2, h3, _⟩ := St_succ h'
    rw [hs] at h1; cases h1
    rw [hx] at h2; cases h2
    exact ⟨q, h3⟩
  rcases he with ⟨fr', h', h1, _⟩ | ⟨m0, x0, fr', h', v, hh, h1, h2, h3, h4, h5⟩
  · obtain ⟨s', h2⟩ := St_le h1 (show m + 1 ≤ xs.length from hm)
    exact .inl (more s' h2)
  · rcases Nat.lt_trichotomy m m0 with hlt | rfl | hlt
    · obtain ⟨s', h6⟩ := St_le h1 (show m + 1 ≤ m0 from hlt)
      exact .inl (more s' h6)
    · rw [hs] at h1; cases h1
      rw [hx] at h2; cases h2
      exact .inr ⟨v, hh, h3, h4, h5⟩
    · exfalso
      obtain ⟨s', h6⟩ := St_le hs (show m0 + 1 ≤ m from hlt)
      obtain ⟨s1, x1, q, h7, h8, h9, _⟩ := St_succ h6
      rw [h1] at h7; cases h7
      rw [h2] at h8; cases h8
      rw [pan_stp h3 h4] at h9; cases h9
where
  get_lt' {xs : List XOp} {m : Nat} {x : XOp} (hx : xs[m]? = some x) : m < xs.length := by
    rcases Nat.lt_or_ge m xs.length with h | h
    · exact h
    · rw [List.getElem?_eq_none h] at hx; cases hx
end
end Go.AM

/-
  The abstract machine: a region that draws its order: the steps, in turn and ahead of it.
-/
namespace Go.AM

section
variable {P : Program} {E : Env} {call : CallF} {ops : Array Oper} {ms l : List Nat} {s₀ : Tr × HD} {W₀ : World} {S : Act → Prop} {cx₀ : Cx} {lis : Nat → Prop} {β : Nat → Nat} {k : Nat} {W : World} {cx : Cx} {a : Act} {fr fp : Tr} {h : HD}

theorem evOpD_pan {h : Heap} {d : List Nat} {x : XOp} {v : AV} {hh : Heap} (hev : evOpD E call x fr h d = .pan v hh) : x.solo = true ∧ ∃ t, evOp E call x.op fr { h with tch := t } = .pan v hh := by
  unfold evOpD at hev
  have key : ∀ (r : Res), plainD' x.solo d r = .pan v hh → x.solo = true ∧ r = .pan v hh := by
    intro r hr
    cases r with
    | ok v1 h1 => cases hr
    | pan v1 h1 =>
      have hr : (bif x.solo then DRes.pan v1 h1 else .bad) = .pan v hh := hr
      cases hs : x.solo with
      | false => rw [hs] at hr; cases hr
      | true => rw [hs] at hr; cases hr; exact ⟨rfl, rfl⟩
    | bad => cases hr
  cases hq : x.quiet with
  | false =>
    rw [hq] at hev
    simp only [cond_false] at hev
    cases hc : x.careful with
    | false =>
      rw [hc] at hev
      obtain ⟨h1, h2⟩ := key _ hev
      exact ⟨h1, h.tch, h2⟩
    | true =>
      rw [hc] at hev
      simp only [cond_true] at hev
      cases hro : readOk (readO E x.op fr) d with
      | false => rw [hro] at hev; cases hev
      | true =>
        rw [hro] at hev
        obtain ⟨h1, h2⟩ := key _ hev
        exact ⟨h1, h.tch, h2⟩
  | true =>
    rw [hq] at hev
    have hev : quietD x.solo h.next h.tch d (evOp E call x.op fr { h with tch := [] }) = .pan v hh := hev
    cases hr : evOp E call x.op fr { h with tch := [] } with
    | ok v1 h1 => rw [hr] at hev; cases hev
    | pan v1 h1 =>
      rw [hr] at hev
      have hr' : (bif x.solo then DRes.pan v1 h1 else .bad) = .pan v hh := hev
      cases hs : x.solo with
      | false => rw [hs] at hr'; cases hr'
      | true => rw [hs] at hr'; cases hr'; exact ⟨rfl, [], hr⟩
    | bad => rw [hr] at hev; cases hev

theorem Plan.deps (hp : Plan ops ms l) {i j : Nat} (hl : l[k]? = some i) (hj : j < ops.size) (hb : bit (ms.getD i 0) j = true) : ∃ p, p < k ∧ l[p]? = some j := by
  have place : ∀ e, e < ops.size → bit (ms.getD i 0) e = true → e ≠ i → ∃ p, p < k ∧ l[p]? = some e := by
    intro e he hbe hne
    obtain ⟨p, hpl⟩ := hp.all e he
    rcases Nat.lt_trichotomy p k with h1 | h1 | h1
    · exact ⟨p, h1, hpl⟩
    · subst h1; rw [hl] at hpl; cases hpl; exact absurd rfl hne
    · have := (hp.pair k p i e h1 hl hpl).2
      rw [hbe] at this; cases this
  by_cases hji : j = i
  · subst hji
    exfalso
    obtain ⟨o, ho, e, he, h1⟩ := hp.mask j j hj hj hb
    obtain ⟨h2, h3, h4⟩ := hp.edge j o e ho he
    rcases h1 with h1 | h1
    · exact h4 h1
    · obtain ⟨p, h5, h6⟩ := place e h2 h3 h4
      have := (hp.pair p k e j h5 h6 hl).2
      rw [h1] at this; cases this
  · exact place j hj hb hji

/-- The operation whose turn it is. -/
theorem Inv.due (hE : EnvOk E P) (hcall : CallOk E P call) (hp : Plan ops ms l) (hi : Inv E call ops ms l s₀ W₀ S cx₀ lis β k W cx a fr h fp) {i : Nat} (hl : l[k]? = some i) (hn : ¬ lis i) {r : CRes} (hend : Ends E call (xops ops.toList ms [] l) s₀ r)
    {K : Act → World → Prop} {Q : Exit → Act → World → Prop} (hK : ∀ a' W' β' cx' fr' h' fp', Inv E call ops ms l s₀ W₀ S cx₀ (fun j => lis j ∨ j = i) β' (k + 1) W' cx' a' fr' h' fp' → K a' W') (hQ : ∀ x a' w', r.Post E W₀ cx₀ S x a' w' → Q x a' w') : wpOp P ops Q i K a W := by
  obtain ⟨o, ho⟩ := hp.op hl
  have hx := hp.xget hl ho
  generalize hxx : xop ops.toList (quietAt ops.toList ms i (l.drop (k + 1))) (soloAt ms i (l.drop (k + 1))) (carefulAt ops.toList ms i ((l.take k).reverse ++ [])) o = x at hx
  obtain ⟨hxd, hxo, hxg, hxq, hxs, hxc⟩ := hp.xdst hl ho hx
  have hdeps : ∀ j, j < ops.size → bit (ms.getD i 0) j = true → lis j := fun j hj hb => by
    obtain ⟨p, h1, h2⟩ := hp.deps hl hj hb
    exact hi.pre p j h1 h2
  have hlook := hi.looks hp (Nat.le_refl _) hl ho hn hdeps (.inl rfl) hi.st
  have hg := guardOk_congr hlook
  have hop := opv_agree (E := E) hlook
  have hkl : k < l.length := get_lt hl
  have hpre : ∀ (q j : Nat), q < k + 1 → l[q]? = some j → lis j ∨ j = i := fun q j hq hlq => by
    rcases Nat.lt_or_ge q k with h' | h'
    · exact .inl (hi.pre q j h' hlq)
    · have : q = k := by omega
      subst this; rw [hl] at hlq; cases hlq; exact .inr rfl
  have next : ∀ {v' : Value} {W' : World} {cx' : Cx} {v : AV} {h' : HD}, stp E call x fr h = some (v, h') → Ext W cx W' cx' → Sat E W' cx' h'.1 → Rep W' cx' v' v → K (a.put o.dst v') W' := by
    intro v' W' cx' v h' hs he hsat hv
    have hst := St_mk hi.st hx hs
    rw [hxd] at hst
    refine hK _ _ β cx' (setDst o.dst v fr) h' (setDst o.dst v fp) (hi.more hp (Nat.le_refl _) hl ho hn hdeps he (fun b hh hw => (hsat.held b (he.hold b (hi.sat.held b hh).1 hh).1).2) hv hst (.inr ⟨rfl, rfl⟩) hkl hpre hsat (fun t ht => setDst_ne ht) (fun _ _ => rfl) (fun t => setDst_has _ _ _ _) (fun hk' => absurd hk' (by omega)) (fun hk' => absurd hk' (by omega)) fun _ t ht => ?_)
    rw [ht, setDst_eq, setDst_eq, hi.has]
  unfold wpOp
  simp only [ho]
  rcases hend.step hi.st hx with ⟨⟨v, h'⟩, hs⟩ | ⟨v, hh, hgt, hpan, hr⟩
  · have hs0 := hs
    unfold stp at hs
    cases hgx : guardOk x.gd fr with
    | none => dsimp only at hs; rw [hgx] at hs; cases hs
    | some b =>
      dsimp only at hs
      rw [hgx] at hs
      have hw := guard_sound (ops := ops) hi.frep o (b := b) (by rw [hg, ← hxg]; exact hgx)
      rw [hw]
      cases b with
      | false =>
        cases hs
        exact next hs0 (Ext.refl _ _) hi.sat (show Rep W cx undef skipped from .tup #[] [] rfl (by simp))
      | true =>
        obtain ⟨n, h₁, n', h1, h1e, _⟩ := evOpD_ok (resOk_some hs)
        rw [hxo, ← evOp_congr o.op hop] at h1
        refine .inl (op_sound hE (hi.sat.low n) hi.frep hcall o (fun e => by rw [e] at h1; cases h1) (fun v2 h2 v' W' cx' e h3 h4 h5 => ?_) (fun v2 h2 v' W' cx' e h3 h4 h5 => ?_))
        · rw [h1] at e; cases e
          exact next hs0 h3 (by rw [h1e]; exact h4.low n') h5
        · rw [h1] at e; cases e
  · dsimp only at hgt hpan
    have hw := guard_sound (ops := ops) hi.frep o (b := true) (by rw [hg, ← hxg]; exact hgt)
    rw [hw]
    obtain ⟨_, n, h1⟩ := evOpD_pan hpan
    rw [hxo, ← evOp_congr o.op hop] at h1
    refine .inl (op_sound hE (hi.sat.low n) hi.frep hcall o (fun e => by rw [e] at h1; cases h1) (fun v2 h2 v' W' cx' e h3 h4 h5 => ?_) (fun v2 h2 v' W' cx' e h3 h4 h5 => ?_))
    · rw [h1] at e; cases e
    · rw [h1] at e; cases e
      refine hQ _ _ _ ?_
      rw [hr]
      exact ⟨hi.dfr, cx', hi.ext.trans h3, v', rfl, h4, h5⟩

theorem cls_nopan {op : Op} (hc : cls op ≠ 3) {v : AV} {hh : Heap} : evOp E call op fr h.1 ≠ .pan v hh := by
  refine evOp_pan (fun x e => ?_) (fun c f e e2 => ?_) v hh
  · subst e; exact hc rfl
  · subst e
    obtain ⟨callee, args, argTypes⟩ := c
    dsimp only at e2
    subst e2
    exact hc rfl

/-- An operation that is done ahead of its turn. -/
theorem Inv.early (hE : EnvOk E P) (hcall : CallOk E P call) (hpres : CallPres call) (hp : Plan ops ms l) (hi : Inv E call ops ms l s₀ W₀ S cx₀ lis β k W cx a fr h fp) {m i i₀ : Nat} (hk : k < m) (hl : l[m]? = some i) (hn : ¬ lis i) (hl₀ : l[k]? = some i₀) (hn₀ : ¬ lis i₀)
    (hdeps : ∀ j, j < ops.size → bit (ms.getD i 0) j = true → lis j) {r : CRes} (hend : Ends E call (xops ops.toList ms [] l) s₀ r)
    {K : Act → World → Prop} {Q : Exit → Act → World → Prop} (hK : ∀ a' W' β' cx' fr' h' fp', Inv E call ops ms l s₀ W₀ S cx₀ (fun j => lis j ∨ j = i) β' k W' cx' a' fr' h' fp' → K a' W') : wpOp P ops Q i K a W := by
  obtain ⟨o, ho⟩ := hp.op hl
  obtain ⟨o₀, ho₀⟩ := hp.op hl₀
  have hx := hp.xget hl ho
  generalize hxx : xop ops.toList (quietAt ops.toList ms i (l.drop (m + 1))) (soloAt ms i (l.drop (m + 1))) (carefulAt ops.toList ms i ((l.take m).reverse ++ [])) o = x at hx
  obtain ⟨hxd, hxo, hxg, hxq, hxs, hxc⟩ := hp.xdst hl ho hx
  have nodep : ∀ {p j : Nat}, l[p]? = some j → ¬ lis j → bit (ms.getD i 0) j = false := fun {p j} hlp hnj => by
    cases hb : bit (ms.getD i 0) j with
    | false => rfl
    | true => exact absurd (hdeps j (hp.lt p j hlp) hb) hnj
  have hc3 : cls o.op ≠ 3 := (hp.apart hk hl₀ hl ho₀ ho (nodep hl₀ hn₀)).1
  -- the run of reference gets here
  have hreach : ∃ s, St E call (xops ops.toList ms [] l) s₀ m = some s := by
    rcases hend with ⟨fr', h', h1, _⟩ | ⟨m0, x0, fr', h', v, hh, h1, h2, h3, h4, h5⟩
    · exact St_le h1 (by rw [xops_length l [] hp.have]; exact Nat.le_of_lt (get_lt hl))
    · rcases Nat.lt_or_ge m0 m with hlt | hge
      · exfalso
        have hnone := pan_stp h3 h4
        have nostep : ∀ q, stp E call x0 fr' h' ≠ some q := fun q e => by rw [hnone] at e; cases e
        have hk0 : k ≤ m0 := by
          rcases Nat.lt_or_ge m0 k with h' | h'
          · exfalso
            obtain ⟨s', h6⟩ := St_le hi.st (show m0 + 1 ≤ k from h')
            obtain ⟨s1, x1, q, h7, h8, h9, _⟩ := St_succ h6
            rw [h1] at h7; cases h7
            rw [h2] at h8; cases h8
            exact nostep q h9
          · exact h'
        have hm0 : m0 < l.length := Nat.lt_of_lt_of_le hlt (Nat.le_of_lt (get_lt hl))
        obtain ⟨j, oj, hlj, hoj⟩ := hp.at hm0
        obtain ⟨_, _, _, _, hs0, _⟩ := hp.xdst hlj hoj h2
        have hsolo := (evOpD_pan h4).1
        rw [hs0] at hsolo
        have hmem : i ∈ l.drop (m0 + 1) := by
          have : (l.drop (m0 + 1))[m - (m0 + 1)]? = some i := by rw [List.getElem?_drop]; rw [show m0 + 1 + (m - (m0 + 1)) = m by omega]; exact hl
          exact List.mem_of_getElem? this
        have hbit : bit (ms.getD i 0) j = true := (List.all_eq_true.1 hsolo) i hmem
        have hlisj := hdeps j (hp.lt m0 j hlj) hbit
        obtain ⟨_, s, x', q, h6, h7, h8, _⟩ := hi.pend m0 j oj hk0 hlj hlisj hoj
        rw [h1] at h6; cases h6
        rw [h2] at h7; cases h7
        exact nostep q h8
      · exact St_le h1 hge
  obtain ⟨⟨frm, hm⟩, hstm⟩ := hreach
  have hlook := hi.looks hp (Nat.le_of_lt hk) hl ho hn hdeps (.inr ⟨i₀, hl₀, hn₀⟩) hstm
  have hg := guardOk_congr hlook
  have hop := opv_agree (E := E) hlook
  have hquiet : x.quiet = false := by
    rw [hxq]; unfold quietAt clsAt
    rw [Array.getElem?_toList, ho]; dsimp only
    have : Nat.beq (cls o.op) 3 = false := Heap.beq_false hc3
    rw [this]; rfl
  have hstep : ∃ q, stp E call x frm hm = some q := by
    rcases hend.step hstm hx with h1 | ⟨v, hh, hgt, hpan, _⟩
    · exact h1
    · exfalso
      obtain ⟨_, n, h1⟩ := evOpD_pan hpan
      rw [hxo] at h1
      exact cls_nopan (h := (_, hm.2)) hc3 h1
  obtain ⟨⟨v, hm'⟩, hs⟩ := hstep
  have hs0 := hs
  have hpre : ∀ (q j : Nat), q < k → l[q]? = some j → lis j ∨ j = i := fun q j hq hlq => .inl (hi.pre q j hq hlq)
  -- the result is there already, and the heap as it was
  have plain : ∀ {v' : Value} {W' : World} {cx' : Cx}, ¬ isNew E call ops ms l s₀ m → hm' = hm → Ext W cx W' cx' → Sat E W' cx' h.1 → Rep W' cx' v' v → K (a.put o.dst v') W' := by
    intro v' W' cx' hnew hhm he hsat hv
    refine hK _ _ β cx' fr h (setDst o.dst v fp) (hi.more hp (Nat.le_of_lt hk) hl ho hn hdeps he (fun b hh hw => (hsat.held b (he.hold b (hi.sat.held b hh).1 hh).1).2) hv hi.st (.inl rfl) hi.kle hpre hsat (fun _ _ => rfl) (fun _ _ => rfl) (fun _ => rfl)
      (fun _ => ⟨hc3, (frm, hm), x, (v, hm'), hstm, hx, hs0, .inl ⟨hnew, hhm, fun t ht => ?_⟩⟩) (fun _ hnew' => absurd hnew' hnew) fun hk' => absurd hk' (by omega))
    rw [ht, setDst_eq, hi.has]
  unfold wpOp
  simp only [ho]
  unfold stp at hs
  cases hgx : guardOk x.gd frm with
  | none => rw [hgx] at hs; cases hs
  | some b =>
    rw [hgx] at hs
    have hw := guard_sound (ops := ops) hi.frep o (b := b) (by rw [hg, ← hxg]; exact hgx)
    rw [hw]
    cases b with
    | false =>
      cases hs
      refine plain (fun hnew => ?_) rfl (Ext.refl _ _) hi.sat (show Rep W cx undef skipped from .tup #[] [] rfl (by simp))
      obtain ⟨s, x', h1, h2, h3, _⟩ := hnew
      rw [hstm] at h1; cases h1
      rw [hx] at h2; cases h2
      dsimp only at h3
      rw [hgx] at h3; cases h3
    | true =>
      obtain ⟨n, h₁, n', h1, h2, _, h3⟩ := evOpD_ok (resOk_some hs)
      obtain ⟨rfl, rfl, hdd, hcar⟩ := h3 hquiet
      have h1 : evOp E call x.op frm hm.1 = .ok v h₁ := h1
      have h2 : hm'.1 = h₁ := h2
      subst h2
      have hmm : hm' = (hm'.1, hm.2) := by obtain ⟨q1, q2⟩ := hm'; dsimp only at hdd ⊢; rw [hdd]
      rw [hxo] at h1
      have hnewIff : cls o.op ≠ 2 → ¬ isNew E call ops ms l s₀ m := fun hc2 hnew => by
        obtain ⟨s, x', _, k2, _, k4⟩ := hnew
        rw [hx] at k2; cases k2
        rw [hxo] at k4; exact hc2 k4
      have run : cls o.op ≠ 2 → hm'.1 = hm.1 → evOp E call o.op fp h.1 = .ok v h.1 → o.wp P a W K Q := by
        intro hc2 hhm he
        refine op_sound hE hi.sat hi.frep hcall o (fun e => by rw [e] at he; cases he) (fun v2 h2 v' W' cx' e h3 h4 h5 => ?_) (fun v2 h2 v' W' cx' e h3 h4 h5 => ?_)
        · rw [he] at e; cases e
          exact plain (hnewIff hc2) (by rw [hmm, hhm]) h3 h4 h5
        · rw [he] at e; cases e
      rcases cls_cases o.op with hc | hc | hc | hc
      · obtain ⟨h4, h5⟩ := cls0_pure hc h1 h.1
        refine .inl (run (by omega) h4 ?_)
        rw [evOp_congr o.op hop]; exact h5
      · obtain ⟨nn, rfl⟩ : ∃ nn, m = k + nn := ⟨m - k, by omega⟩
        have hq3 : ∀ (p j : Nat) (oj : Oper), k ≤ p → p < k + nn → l[p]? = some j → ops[j]? = some oj → cls oj.op = 3 → bit (ms.getD i 0) j = false := fun p j oj hkp hpm hlj hoj hcj =>
          nodep hlj fun hlisj => (hi.pend p j oj hkp hlj hlisj hoj).1 hcj
        have hcl : clsAt ops.toList i = 1 := by unfold clsAt; rw [Array.getElem?_toList, ho]; exact hc
        have hcl3 : ∀ {j : Nat} {oj : Oper}, ops[j]? = some oj → cls oj.op = 3 → clsAt ops.toList j = 3 := fun hoj hcj => by unfold clsAt; rw [Array.getElem?_toList, hoj]; exact hcj
        have hreads : ∀ id, readO E o.op fp = some id → h.1.get id = hm.1.get id := by
          intro id hid
          have hlt : id < h.1.next := by rw [hi.sat.nx]; exact readO_lt (W := W) (cx := cx) (fun y _ => ⟨_, opv_rep hi.sat hi.frep y⟩) hid
          by_cases hex : ∃ (p j : Nat) (oj : Oper), k ≤ p ∧ p < k + nn ∧ l[p]? = some j ∧ ops[j]? = some oj ∧ cls oj.op = 3
          · obtain ⟨p, j, oj, hkp, hpm, hlj, hoj, hcj⟩ := hex
            have hkeep := (St_keep hp hpres hi.st nn (frm, hm) hstm fun p j oj hkp hpm hlj hoj hcj => by
              unfold quietAt
              rw [hcl3 hoj hcj, Bool.and_eq_true]
              refine ⟨rfl, List.any_eq_true.2 ⟨i, ?_, ?_⟩⟩
              · have : (l.drop (p + 1))[k + nn - (p + 1)]? = some i := by rw [List.getElem?_drop]; rw [show p + 1 + (k + nn - (p + 1)) = k + nn by omega]; exact hl
                exact List.mem_of_getElem? this
              · rw [hcl, hq3 p j oj hkp hpm hlj hoj hcj]; rfl).2.2
            have hcareful : x.careful = true := by
              rw [hxc]; unfold carefulAt
              rw [hcl, Bool.and_eq_true]
              refine ⟨rfl, List.any_eq_true.2 ⟨j, ?_, ?_⟩⟩
              · rw [List.append_nil, List.mem_reverse]
                have : (l.take (k + nn))[p]? = some j := by rw [List.getElem?_take_of_lt hpm]; exact hlj
                exact List.mem_of_getElem? this
              · rw [hcl3 hoj hcj, hq3 p j oj hkp hpm hlj hoj hcj]; rfl
            have hro := hcar hcareful
            rw [hxo, ← readO_congr o.op hop, hid] at hro
            have hni : id ∉ hm.2 := inN_false (by
              have hro : (!(inN id hm.2)) = true := hro
              cases hb : inN id hm.2 with
              | false => rfl
              | true => rw [hb] at hro; cases hro)
            exact (hkeep id hlt hni).symm
          · exact ((St_keeps hp hi.st nn (frm, hm) hstm fun p j oj hkp hpm hlj hoj hcj => hex ⟨p, j, oj, hkp, hpm, hlj, hoj, hcj⟩).get id hlt).symm
        rw [← evOp_congr o.op hop] at h1
        obtain ⟨h4, h5⟩ := cls1_reads hc (h₂ := h.1) hreads h1
        exact .inl (run (by omega) h4 h5)
      · rw [← evOp_congr o.op hop] at h1
        obtain ⟨es, sz, nx, h4, h5, _, c, t, vs, v', h6, h7, h8, h9, h10⟩ := cls2_new hE hi.sat hi.frep o hc h1
        refine .inl ?_
        unfold Oper.wp
        rw [h6]
        show K (a.put o.dst v') (W.alloc (.cells c t))
        have hnew : isNew E call ops ms l s₀ m := ⟨(frm, hm), x, hstm, hx, hgx, by rw [hxo]; exact hc⟩
        have he : Ext W cx (W.alloc (.cells c t)) ⟨cx.μ, cx.nx, fun y => cx.own y ∨ y = W.heap.size, fun y => cx.held y ∨ y = W.heap.size⟩ :=
          ⟨⟨Nat.le_refl _, fun _ _ => rfl, by simp, fun b hb _ => heap_alloc_old W _ hb, fun b hb => by unfold szOf; rw [heap_alloc_old W _ hb], fun b hb hw => by rcases hw with hw | hw; exact hw; omega⟩,
            fun b hb hh => ⟨.inl hh, heap_alloc_old W _ hb⟩, rfl, rfl, rfl⟩
        have hsat : Sat E (W.alloc (.cells c t)) ⟨cx.μ, cx.nx, fun y => cx.own y ∨ y = W.heap.size, fun y => cx.held y ∨ y = W.heap.size⟩ h.1 :=
          ⟨hi.sat.nx, fun id y hy => by
              obtain ⟨k1, k2, k3, k4⟩ := hi.sat.objs id y hy
              exact ⟨k1, .inl k2, Nat.lt_of_lt_of_le k3 he.sz, k4.mono he (heap_alloc_old W _ k3)⟩,
            hi.sat.inj, fun g y hy => (hi.sat.gl g y hy).mono he, fun b hb => by
              rcases hb with hb | rfl
              · exact ⟨Nat.lt_of_lt_of_le (hi.sat.held b hb).1 he.sz, .inl (hi.sat.held b hb).2⟩
              · exact ⟨by simp, .inr rfl⟩,
            fun id y hy hh => by
              rcases hh with hh | hh
              · exact hi.sat.free id y hy hh
              · have k3 : (cx.μ id).1 < W.heap.size := (hi.sat.objs id y hy).2.2.1
                have hh : (cx.μ id).1 = W.heap.size := hh
                omega⟩
        refine hK _ _ (fun q => if q = m then W.heap.size else β q) _ fr h (setDst o.dst .und fp) (hi.more hp (Nat.le_of_lt hk) hl ho hn hdeps he (fun b hh hw => .inl hw) (Rep.und v') hi.st (.inl rfl) hi.kle hpre hsat (fun _ _ => rfl) (fun q hq => if_neg hq) (fun _ => rfl)
          (fun _ => ⟨hc3, (frm, hm), x, (v, hm'), hstm, hx, hs0, .inr ⟨hnew, ?_⟩⟩) (fun _ _ b hb => ?_) fun hk' => absurd hk' (by omega))
        · rw [if_pos rfl]
          refine ⟨.inr rfl, .inr rfl, hi.ext.sz, es, sz, nx, by rw [hmm, h4, h5], ?_, fun t' ht' hlt W₂ cx₂ id k1 k2 k3 k4 => ?_⟩
          · exact ObjRep.mk (t := t) rfl (heap_alloc_new W _) (by simpa using h9) (fun q y hq => by simpa using h8 q y hq) (h7.mono he)
          · have e : (a.put o.dst v').tmps.getD t' undef = v' := by
              rw [ht'] at hlt ⊢
              have hlt : t' < (a.tmps.setIfInBounds t' v').size := hlt
              have hlt' : t' < a.tmps.size := by simpa using hlt
              show (a.tmps.setIfInBounds t' v').getD t' undef = v'
              simp [Array.getD, hlt']
            rw [e]
            exact h10 W₂ cx₂ id k1 k2 k3 (by rw [k4, szOf_alloc])
        · show (if m = m then W.heap.size else β m) ≠ b
          rw [if_pos rfl]
          have := (hi.sat.held b hb).1
          omega
      · exact absurd hc hc3
end
end Go.AM

/-
  The abstract machine: a region that draws its order is sound; and what all calls leave as it was.
-/
namespace Go.AM

section
variable {P : Program} {E : Env} {call : CallF} {ops : Array Oper} {ms l : List Nat} {s₀ : Tr × HD} {W₀ : World} {S : Act → Prop} {cx₀ : Cx}

def LisOf (listed : Array Bool) (i : Nat) : Prop := listed[i]? = some true

/-- The run of reference goes as far as it can. -/
theorem Inv.far (hp : Plan ops ms l) {lis : Nat → Prop} {β : Nat → Nat} {W : World} {a : Act} : ∀ (n k : Nat) {cx : Cx} {fr fp : Tr} {h : HD}, l.length - k = n → Inv E call ops ms l s₀ W₀ S cx₀ lis β k W cx a fr h fp →
    ∃ k' cx' fr' h' fp', Inv E call ops ms l s₀ W₀ S cx₀ lis β k' W cx' a fr' h' fp' ∧ (k' = l.length ∨ ∃ i, l[k']? = some i ∧ ¬ lis i)
  | 0, k, cx, fr, fp, h, hn, hi => ⟨k, cx, fr, h, fp, hi, .inl (by have := hi.kle; omega)⟩
  | n + 1, k, cx, fr, fp, h, hn, hi => by
    have hk : k < l.length := by omega
    have hl : l[k]? = some l[k] := List.getElem?_eq_getElem hk
    by_cases hlis : lis l[k]
    · obtain ⟨cx', fr', h', fp', hi'⟩ := hi.advance hp hl hlis
      exact Inv.far hp n (k + 1) (by omega) hi'
    · exact ⟨k, cx, fr, h, fp, hi, .inr ⟨l[k], hl, hlis⟩⟩

theorem Inv.done (hp : Plan ops ms l) {lis : Nat → Prop} {β : Nat → Nat} {W : World} {a : Act} {cx : Cx} {fr fp : Tr} {h : HD} {r : CRes} (hi : Inv E call ops ms l s₀ W₀ S cx₀ lis β l.length W cx a fr h fp) (hend : Ends E call (xops ops.toList ms [] l) s₀ r) : r.Post E W₀ cx₀ S .normal a W := by
  have hlen : (xops ops.toList ms [] l).length = l.length := xops_length l [] hp.have
  rcases hend with ⟨fr', h', h1, rfl⟩ | ⟨m, x, fr', h', v, hh, h1, h2, h3, h4, _⟩
  · rw [hlen, hi.st] at h1
    cases h1
    refine ⟨hi.dfr, cx, hi.ext, rfl, hi.sat, fun t => ?_, fun t ht => hi.frep.has t (by rw [hi.has]; exact ht)⟩
    rw [← hi.old t fun m i o hm hl _ _ => absurd (get_lt hl) (by omega)]
    exact hi.frep.rep t
  · exfalso
    have hm : m < l.length := by rw [← hlen]; exact Ends.step.get_lt' h2
    obtain ⟨s', h6⟩ := St_le hi.st (show m + 1 ≤ l.length from hm)
    obtain ⟨s1, x1, q, h7, h8, h9, _⟩ := St_succ h6
    rw [h1] at h7; cases h7
    rw [h2] at h8; cases h8
    rw [pan_stp h3 h4] at h9; cases h9

theorem ready_iff {listed : Array Bool} (hsz : listed.size = ops.size) {i : Nat} : i ∈ Region.ready .any ops listed ↔ i < ops.size ∧ ¬ LisOf listed i ∧ ∃ o, ops[i]? = some o ∧ ∀ e ∈ directs o, LisOf listed e := by
  unfold Region.ready
  rw [List.mem_filter, List.mem_range]
  constructor
  · rintro ⟨h1, h2⟩
    rw [Bool.and_eq_true] at h2
    obtain ⟨h2, h3⟩ := h2
    have ho : ops[i]? = some ops[i] := Array.getElem?_eq_getElem h1
    have hli : i < listed.size := by rw [hsz]; exact h1
    refine ⟨h1, fun e => ?_, ops[i], ho, fun e he => ?_⟩
    · unfold LisOf at e
      rw [Array.getD_eq_getD_getElem?, e] at h2
      cases h2
    · rw [ho] at h3
      simp only [Option.map_some, Option.getD_some] at h3
      unfold directs at he
      obtain ⟨d, hd, rfl⟩ := List.mem_map.1 he
      obtain ⟨hd1, hd2⟩ := List.mem_filter.1 hd
      rw [← Array.all_toList] at h3
      have h4 := (List.all_eq_true.1 h3) d hd1
      rw [hd2] at h4
      simp only [Bool.not_true, Bool.false_or] at h4
      unfold LisOf
      rw [Array.getD_eq_getD_getElem?] at h4
      cases hq : listed[d.on]? with
      | none => rw [hq] at h4; cases h4
      | some b => rw [hq] at h4; have h4 : b = true := h4; rw [h4]
  · rintro ⟨h1, h2, o, ho, h3⟩
    have hli : i < listed.size := by rw [hsz]; exact h1
    refine ⟨h1, ?_⟩
    rw [Bool.and_eq_true]
    constructor
    · unfold LisOf at h2
      rw [Array.getD_eq_getD_getElem?]
      cases hq : listed[i]? with
      | none => rw [Array.getElem?_eq_none_iff] at hq; omega
      | some b =>
        cases b with
        | true => exact absurd hq h2
        | false => rfl
    · rw [ho]
      simp only [Option.map_some, Option.getD_some]
      rw [← Array.all_toList]
      refine List.all_eq_true.2 fun d hd => ?_
      cases hb : Region.binds .any d with
      | false => rfl
      | true =>
        have := h3 d.on (by unfold directs; exact List.mem_map.2 ⟨d, List.mem_filter.2 ⟨hd, hb⟩, rfl⟩)
        unfold LisOf at this
        rw [Array.getD_eq_getD_getElem?, this]; rfl

theorem any_sound (hE : EnvOk E P) (hcall : CallOk E P call) (hpres : CallPres call) (hp : Plan ops ms l) {r : CRes} (hend : Ends E call (xops ops.toList ms [] l) s₀ r) {Q : Exit → Act → World → Prop} (hQ : ∀ x a' w', r.Post E W₀ cx₀ S x a' w' → Q x a' w') :
    ∀ (fuel : Nat) (listed : Array Bool) (a : Act) (W : World) (todo : List Nat), listed.size = ops.size → todo.length ≤ fuel → (∀ i, i < ops.size → ¬ LisOf listed i → i ∈ todo) →
      (∃ β k cx fr h fp, Inv E call ops ms l s₀ W₀ S cx₀ (LisOf listed) β k W cx a fr h fp) → wpAny P .any ops Q fuel listed a W := by
  intro fuel
  induction fuel with
  | zero =>
    intro listed a W todo hsz hlen htodo hinv
    have hnil : todo = [] := List.eq_nil_of_length_eq_zero (by omega)
    have hall : ∀ i, i < ops.size → LisOf listed i := fun i hi => Classical.byContradiction fun hn => by
      have := htodo i hi hn
      rw [hnil] at this; cases this
    obtain ⟨β, k, cx, fr, h, fp, hi⟩ := hinv
    obtain ⟨k', cx', fr', h', fp', hi', hk'⟩ := Inv.far hp _ k rfl hi
    refine ⟨?_, ?_⟩
    · cases hr : Region.ready .any ops listed with
      | nil => rfl
      | cons x xs =>
        exfalso
        have : x ∈ Region.ready .any ops listed := by rw [hr]; exact List.mem_cons_self ..
        obtain ⟨h1, h2, _⟩ := (ready_iff hsz).1 this
        exact h2 (hall x h1)
    · rcases hk' with rfl | ⟨i, hl, hn⟩
      · exact hQ _ _ _ (hi'.done hp hend)
      · exact absurd (hall i (hp.lt _ i hl)) hn
  | succ fuel ih =>
    intro listed a W todo hsz hlen htodo hinv
    obtain ⟨β, k, cx, fr, h, fp, hi⟩ := hinv
    obtain ⟨k', cx', fr', h', fp', hi', hk'⟩ := Inv.far hp _ k rfl hi
    have step : ∀ {i : Nat}, i < ops.size → ¬ LisOf listed i → ∀ (a' : Act) (W' : World) (β' : Nat → Nat) (k2 : Nat) (cx2 : Cx) (fr2 : Tr) (h2 : HD) (fp2 : Tr),
        Inv E call ops ms l s₀ W₀ S cx₀ (fun j => LisOf listed j ∨ j = i) β' k2 W' cx2 a' fr2 h2 fp2 → wpAny P .any ops Q fuel (listed.setIfInBounds i true) a' W' := by
      intro i hi hn a' W' β' k2 cx2 fr2 h2 fp2 hinv
      have heq : (fun j => LisOf listed j ∨ j = i) = LisOf (listed.setIfInBounds i true) := by
        funext j
        unfold LisOf
        by_cases hji : i = j
        · subst hji
          have hlt : i < listed.size := by rw [hsz]; exact hi
          simp [hlt]
        · rw [Array.getElem?_setIfInBounds_ne hji]
          have : ¬ j = i := fun e => hji e.symm
          simp [this]
      rw [heq] at hinv
      have hmem := htodo i hi hn
      refine ih (listed.setIfInBounds i true) a' W' (todo.erase i) (by simpa using hsz) (by rw [List.length_erase_of_mem hmem]; omega) (fun j hj hnj => ?_) ⟨β', k2, cx2, fr2, h2, fp2, hinv⟩
      rw [← heq] at hnj
      have h1 : ¬ LisOf listed j := fun e => hnj (.inl e)
      have h3 : j ≠ i := fun e => hnj (.inr e)
      exact (List.mem_erase_of_ne h3).2 (htodo j hj h1)
    refine ⟨fun hnil => ?_, fun i hready => ?_⟩
    · rcases hk' with rfl | ⟨i, hl, hn⟩
      · exact hQ _ _ _ (hi'.done hp hend)
      · exfalso
        obtain ⟨o, ho⟩ := hp.op hl
        have : i ∈ Region.ready .any ops listed := (ready_iff hsz).2 ⟨hp.lt _ i hl, hn, o, ho, fun e he => by
          obtain ⟨h1, h2, _⟩ := hp.edge i o e ho he
          obtain ⟨p, h3, h4⟩ := hp.deps hl h1 h2
          exact hi'.pre p e h3 h4⟩
        rw [hnil] at this; cases this
    · obtain ⟨h1, h2, o, ho, h3⟩ := (ready_iff hsz).1 hready
      obtain ⟨m, hm⟩ := hp.all i h1
      have hkm : k' ≤ m := by
        rcases Nat.lt_or_ge m k' with h' | h'
        · exact absurd (hi'.pre m i h' hm) h2
        · exact h'
      rcases hk' with rfl | ⟨i₀, hl₀, hn₀⟩
      · exact absurd (get_lt hm) (by omega)
      · rcases Nat.lt_or_ge k' m with hlt | hge
        · have hdeps : ∀ j, j < ops.size → bit (ms.getD i 0) j = true → LisOf listed j := fun j hj hb => by
            obtain ⟨o', ho', e, he, h4⟩ := hp.mask j i hj h1 hb
            rw [ho] at ho'; cases ho'
            have hle := h3 e he
            rcases h4 with rfl | h4
            · exact hle
            · exact hi'.clo j e hj (hp.edge i o e ho he).1 hle h4
          exact hi'.early hE hcall hpres hp hlt hm h2 hl₀ hn₀ hdeps hend (Q := Q) fun a' W' β' cx2 fr2 h4 fp2 hinv => step h1 h2 a' W' β' k' cx2 fr2 h4 fp2 hinv
        · have : k' = m := by omega
          subst this
          exact hi'.due hE hcall hp hm h2 hend (Q := Q) (fun a' W' β' cx2 fr2 h4 fp2 hinv => step h1 h2 a' W' β' _ cx2 fr2 h4 fp2 hinv) hQ
end

theorem draw_sound {P : Program} {E : Env} {W : World} {cx : Cx} {h : Heap} (hE : EnvOk E P) (hs : Sat E W cx h) {a : Act} {fr : Tr} (hf : FrRep W cx a.tmps fr) {S : Act → Prop} (hd : S a) {call : CallF} (hcall : CallOk E P call) (hpres : CallPres call) {id : Nat} {ops : Array Oper} {l : List Nat}
    (hst : ∀ (i : Nat) (o : Oper), ops[i]? = some o → Stab S o.dst) (hok : drawOk ops.toList (masks ops.toList) l = true) (hb : evOpsD E call (xops ops.toList (masks ops.toList) [] l) fr h [] ≠ .bad) :
    (Code.region id ops true).wp P ((evOpsD E call (xops ops.toList (masks ops.toList) [] l) fr h []).Post E W cx S) a W := by
  have hp := plan_of hok
  refine wp_region_any hE.mixed ?_
  have he : Ext W cx { W with drawn := W.drawn + 1 } cx := Ext.of_heap rfl ⟨rfl, rfl, rfl⟩
  have hend : Ends E call (xops ops.toList (masks ops.toList) [] l) (fr, (h, [])) (evOpsD E call (xops ops.toList (masks ops.toList) [] l) fr h []) := by
    rcases run_cases (E := E) (call := call) (xs := xops ops.toList (masks ops.toList) [] l) (s₀ := (fr, (h, []))) _ 0 rfl (Nat.zero_le _) fr (h, []) rfl (by rw [List.drop_zero]; exact hb) with ⟨fr', h', h1, h2⟩ | ⟨m, x, fr', h', v, hh, _, h1, h2, h3, h4, h5⟩
    · rw [List.drop_zero] at h2; exact .inl ⟨fr', h', h1, h2⟩
    · rw [List.drop_zero] at h5; exact .inr ⟨m, x, fr', h', v, hh, h1, h2, h3, h4, h5⟩
  have hnot : ∀ i, ¬ LisOf (Array.replicate ops.size false) i := fun i hi => by
    unfold LisOf at hi
    rw [Array.getElem?_replicate] at hi
    split at hi <;> cases hi
  refine any_sound (W₀ := W) (cx₀ := cx) hE hcall hpres hp hend (fun x a' w' hq => hq) ops.size (Array.replicate ops.size false) a _ (List.range ops.size) (by simp) (by simp) (fun i hi _ => List.mem_range.2 hi) ?_
  exact ⟨fun _ => 0, 0, cx, fr, (h, []), fr, {
    st := rfl
    kle := Nat.zero_le _
    pre := fun m i hm => absurd hm (Nat.not_lt_zero _)
    clo := fun i j _ _ hj => absurd hj (hnot j)
    sat := hs.mono rfl
    frep := hf.mono he
    has := fun _ => rfl
    ext := he
    dfr := hd
    stab := hst
    pend := fun m i o _ _ hi => absurd hi (hnot i)
    old := fun _ _ => rfl
    sep := fun m m' i i' _ _ _ _ hi => absurd hi (hnot i) }⟩

/-! ### Calls leave what they do not turn -/
theorem evOps_pres {E : Env} {call : CallF} (hpres : CallPres call) : ∀ (xs : List XOp) (fr : Tr) (h : Heap) (e : Ex) (fr' : Tr) (h' : Heap), evOps E call xs fr h = .ok e fr' h' → Pres h h'
  | [], fr, h, e, fr', h', hr => by cases hr; exact .refl h
  | x :: xs, fr, h, e, fr', h', hr => by
    have hr : onOB (guardOk x.gd fr) .bad (evThen x.dst (evOps E call xs) fr (evOp E call x.op fr h)) (evOps E call xs (setDst x.dst skipped fr) h) = .ok e fr' h' := hr
    rcases onOB_ok (fun e => by cases e) hr with ⟨_, hr⟩ | ⟨_, hr⟩
    · cases hev : evOp E call x.op fr h with
      | bad => rw [hev] at hr; cases hr
      | pan v hh => rw [hev] at hr; cases hr
      | ok v h1 =>
        rw [hev] at hr
        exact (evOp_pres hpres hev).trans (evOps_pres hpres xs _ h1 e fr' h' hr)
    · exact evOps_pres hpres xs _ h e fr' h' hr

theorem evOpD_pres {E : Env} {call : CallF} (hpres : CallPres call) {x : XOp} {fr : Tr} {h : Heap} {d d' : List Nat} {v : AV} {h' : Heap} (hev : evOpD E call x fr h d = .ok v h' d') : Pres h h' := by
  obtain ⟨n, h₁, n', h1, rfl, h2, h3⟩ := evOpD_ok hev
  obtain ⟨hn, new, e, hg⟩ := evOp_pres hpres h1
  cases hq : x.quiet with
  | false =>
    obtain ⟨rfl, rfl, _⟩ := h3 hq
    exact ⟨hn, new, e, hg⟩
  | true =>
    obtain ⟨rfl, rfl, _⟩ := h2 hq
    refine ⟨hn, belowN h.next h₁.tch, appN_eq _ _, fun i hi hni => hg i hi fun hm => hni (mem_belowN.2 ⟨?_, hi⟩)⟩
    rw [e]; exact List.mem_append_left _ hm
where
  appN_eq : ∀ (a b : List Nat), appN a b = a ++ b
    | [], _ => rfl
    | x :: a, b => by show x :: appN a b = _; rw [appN_eq a b]; rfl
theorem evOpsD_pres {E : Env} {call : CallF} (hpres : CallPres call) : ∀ (xs : List XOp) (fr : Tr) (h : Heap) (d : List Nat) (e : Ex) (fr' : Tr) (h' : Heap), evOpsD E call xs fr h d = .ok e fr' h' → Pres h h'
  | [], fr, h, d, e, fr', h', hr => by cases hr; exact .refl h
  | x :: xs, fr, h, d, e, fr', h', hr => by
    have hr : onOB (guardOk x.gd fr) .bad (evThenD x.dst (evOpsD E call xs) fr (evOpD E call x fr h d)) (evOpsD E call xs (setDst x.dst skipped fr) h d) = .ok e fr' h' := hr
    rcases onOB_ok (fun e => by cases e) hr with ⟨_, hr⟩ | ⟨_, hr⟩
    · cases hev : evOpD E call x fr h d with
      | bad => rw [hev] at hr; cases hr
      | pan v hh => rw [hev] at hr; cases hr
      | ok v h1 d1 =>
        rw [hev] at hr
        exact (evOpD_pres hpres hev).trans (evOpsD_pres hpres xs _ h1 d1 e fr' h' hr)
    · exact evOpsD_pres hpres xs _ h d e fr' h' hr

theorem seqA_pres {b : Tr → Heap → CRes} {r : CRes} {h : Heap} {e : Ex} {fr' : Tr} {h' : Heap} (hr : seqA b r = .ok e fr' h') (ha : ∀ e fr₁ h₁, r = .ok e fr₁ h₁ → Pres h h₁) (hb : ∀ fr₁ h₁ e fr' h', b fr₁ h₁ = .ok e fr' h' → Pres h₁ h') : Pres h h' := by
  cases r with
  | bad => cases hr
  | pan v hh => cases hr
  | ok e1 fr1 h1 =>
    cases e1 with
    | normal => exact (ha _ _ _ rfl).trans (hb _ _ _ _ _ hr)
    | exit i => cases hr; exact ha _ _ _ rfl
    | ret => cases hr; exact ha _ _ _ rfl

theorem callA_pres {E : Env} {ih : CodeF} (hi : ∀ c fr h e fr' h', ih c fr h = .ok e fr' h' → Pres h h') : CallPres (callA E ih) := by
  intro f args h v h' hr
  unfold callA at hr
  cases hf : E.fn f with
  | none => rw [hf] at hr; cases hr
  | some fi =>
    rw [hf] at hr
    dsimp only at hr
    cases hn : Nat.ble (lenL args) fi.ntmps with
    | false => rw [hn] at hr; cases hr
    | true =>
      rw [hn] at hr
      simp only [cond_true] at hr
      cases hc : ih fi.code (Tr.enter fi.ntmps args) h with
      | bad => rw [hc] at hr; cases hr
      | pan v hh => rw [hc] at hr; cases hr
      | ok e fr1 h1 =>
        rw [hc] at hr
        have hp := hi _ _ _ _ _ _ hc
        have key : resOf (resultsA E fi.results fr1 h1) h1 = .ok v h' → Pres h h' := fun hr => by
          cases hq : resultsA E fi.results fr1 h1 with
          | none => rw [hq] at hr; cases hr
          | some vs => rw [hq] at hr; cases hr; exact hp
        cases e with
        | exit i => cases hr
        | normal => exact key hr
        | ret => exact key hr

theorem code_pres (E : Env) : ∀ (n : Nat) (c : XC) (fr : Tr) (h : Heap) (e : Ex) (fr' : Tr) (h' : Heap), ev E n c fr h = .ok e fr' h' → Pres h h'
  | 0, c, fr, h, e, fr', h', hr => by cases hr
  | n + 1, c, fr, h, e, fr', h', hr => by
    have ih := code_pres E n
    have hcall := callA_pres (E := E) ih
    cases c with
    | skip => cases hr; exact .refl h
    | ret => cases hr; exact .refl h
    | exit i => cases hr; exact .refl h
    | bad => cases hr
    | reg d l =>
      cases d with
      | false => exact evOps_pres hcall l fr h e fr' h' hr
      | true => exact evOpsD_pres hcall l fr h [] e fr' h' hr
    | seq x y => exact seqA_pres (r := ev E n x fr h) (b := ev E n y) hr (fun e fr₁ h₁ q => ih x fr h e fr₁ h₁ q) (fun fr₁ h₁ e fr' h' q => ih y fr₁ h₁ e fr' h' q)
    | loop x => exact seqA_pres (r := ev E n x fr h) (b := ev E n (.loop x)) hr (fun e fr₁ h₁ q => ih x fr h e fr₁ h₁ q) (fun fr₁ h₁ e fr' h' q => ih (.loop x) fr₁ h₁ e fr' h' q)
    | scope x => exact ih x fr h e fr' h' hr
    | cond c x y =>
      have hr : condA (ev E n x) (ev E n y) (opv E c fr) fr h = .ok e fr' h' := hr
      cases hv : opv E c fr with
      | bool b =>
        rw [hv] at hr
        cases b with
        | true => exact ih x fr h e fr' h' hr
        | false => exact ih y fr h e fr' h' hr
      | _ => rw [hv] at hr; cases hr
    | block i x =>
      have hr : blockA i (ev E n x fr h) = .ok e fr' h' := hr
      cases hq : ev E n x fr h with
      | bad => rw [hq] at hr; cases hr
      | pan v hh => rw [hq] at hr; cases hr
      | ok e1 fr1 h1 =>
        rw [hq] at hr
        have hp := ih x fr h e1 fr1 h1 hq
        cases e1 with
        | normal => cases hr; exact hp
        | ret => cases hr; exact hp
        | exit j =>
          have hr : (bif Nat.beq j i then CRes.ok .normal fr1 h1 else .ok (.exit j) fr1 h1) = .ok e fr' h' := hr
          cases hb : Nat.beq j i with
          | true => rw [hb] at hr; cases hr; exact hp
          | false => rw [hb] at hr; cases hr; exact hp

theorem ev_pres (E : Env) (n : Nat) : CallPres (callA E (ev E n)) := callA_pres (code_pres E n)
end Go.AM

/-
  The abstract machine: code and calls.
-/
namespace Go.AM
section
variable {P : Program} {E : Env} {W : World} {cx : Cx} {h : Heap}

/-! ### What a body yields -/

theorem load_addr (hE : EnvOk E P) (hs : Sat E W cx h) {t : Nat} {ti : TI} (ht : E.ti t = some ti) {x : Value} {a r : AV} (hx : Rep W cx x a) (hl : loadA ti a h = some r) :
    ∃ v p, x = .pointer (some p) ∧ (loadVar t p).run P W = .ok v W ∧ Rep W cx v r := by
  obtain ⟨v, h1, h2⟩ := load_sound (P := P) hE hs ht hx hl
  have : ∃ p, x = .pointer (some p) := by
    cases a with
    | fptr v off => obtain ⟨b, o, e, _⟩ := hx.fptr_inv; exact ⟨_, e⟩
    | ptr id i off => obtain ⟨_, e⟩ := hx.ptr_inv; exact ⟨_, e⟩
    | _ => cases hl
  obtain ⟨p, rfl⟩ := this
  exact ⟨v, p, rfl, by simpa [Instr.loadAt, Instr.sureAddr] using h1, h2⟩

def resVar (tmps : Array Value) : ResultVar → Sem Value
  | .tmp t => pure (tmps.getD t undef)
  | .cell a t => do loadVar t (← asAddr (tmps.getD a undef))

theorem results_list (hE : EnvOk E P) (hs : Sat E W cx h) {tmps : Array Value} {fr : Tr} (hf : FrRep W cx tmps fr) : ∀ (l : List ResultVar) (vs : List AV), resultsA E l fr h = some vs → ∃ us, (l.mapM (resVar tmps)).run P W = .ok us W ∧ RepL W cx us vs
  | [], vs, hr => by
    cases hr
    exact ⟨[], rfl, .nil⟩
  | x :: l, vs, hr => by
    cases x with
    | tmp t =>
      have hr : obind (resultsA E l fr h) (fun vs => some (fr.get t :: vs)) = some vs := hr
      obtain ⟨ws, h1, h2⟩ := obind_some hr
      cases h2
      obtain ⟨us, h3, h4⟩ := results_list hE hs hf l ws h1
      exact ⟨tmps.getD t undef :: us, by rw [List.mapM_cons]; simp [resVar, h3], .cons (hf.rep t) h4⟩
    | cell a t =>
      have hr : onTI E t none (fun ti => obind (loadA ti (fr.get a) h) fun v => obind (resultsA E l fr h) fun vs => some (v :: vs)) = some vs := hr
      obtain ⟨ti, ht, hr⟩ := onTI_some hr
      obtain ⟨v, hv, hr⟩ := obind_some hr
      obtain ⟨ws, h1, h2⟩ := obind_some hr
      cases h2
      obtain ⟨us, h3, h4⟩ := results_list hE hs hf l ws h1
      obtain ⟨u, p, e, h5, h6⟩ := load_addr (P := P) hE hs ht (hf.rep a) hv
      exact ⟨u :: us, by rw [List.mapM_cons]; simp [resVar, e, asAddr, h5, h3], .cons h6 h4⟩

theorem results_sound (hE : EnvOk E P) (hs : Sat E W cx h) {tmps : Array Value} {fr : Tr} (hf : FrRep W cx tmps fr) {fn : Func} {vs : List AV} (hr : resultsA E fn.results.toList fr h = some vs) :
    ∃ v, (results fn tmps).run P W = .ok v W ∧ Rep W cx v (oneOrTup vs) := by
  obtain ⟨us, h1, h2⟩ := results_list (P := P) hE hs hf fn.results.toList vs hr
  have e1 : (fn.results.mapM (resVar tmps)).run P W = .ok us.toArray W := by
    rw [← Array.toArray_toList (xs := fn.results), List.mapM_toArray] 
    simp [h1]
  have e2 : results fn tmps = (do
      let vs ← fn.results.mapM (resVar tmps)
      pure (if h : vs.size = 1 then vs[0] else .tuple vs)) := by
    unfold results
    congr 1
  refine ⟨if h : us.toArray.size = 1 then us.toArray[0] else .tuple us.toArray, by rw [e2]; simp only [Sem.run_bind, e1, Result.andThen_ok]; rfl, ?_⟩
  cases us with
  | nil =>
    cases vs with
    | nil => exact .tup #[] [] rfl (by simp)
    | cons _ _ => have := h2.1; simp at this
  | cons u us =>
    cases vs with
    | nil => have := h2.1; simp at this
    | cons v vs =>
      cases us with
      | nil =>
        cases vs with
        | nil => exact h2.2 0 _ _ rfl rfl
        | cons _ _ => have := h2.1; simp at this
      | cons u2 us =>
        cases vs with
        | nil => have := h2.1; simp at this
        | cons v2 vs => simp only [List.size_toArray, List.length_cons]; rw [dif_neg (by omega)]; exact Rep.tup_mk h2

/-! ### A frame that is entered -/

theorem FrRep.set {tmps : Array Value} {fr : Tr} (hf : FrRep W cx tmps fr) {i : Nat} {x : AV} (hx : Rep W cx (tmps.getD i undef) x) : FrRep W cx tmps (fr.set i x) where
  rep j := by
    by_cases e : i = j
    · subst e
      rw [Tr.get_set_eq]
      split
      · exact hx
      · exact .und _
    · rw [Tr.get_set_ne _ _ _ _ e]; exact hf.rep j
  has j hj := by rw [Tr.has_set] at hj; exact hf.has j hj

theorem FrRep.setAll {tmps : Array Value} : ∀ (l : List AV) (i : Nat) (fr : Tr), FrRep W cx tmps fr → (∀ (j : Nat) x, l[j]? = some x → Rep W cx (tmps.getD (i + j) undef) x) → FrRep W cx tmps (Tr.setAll l i fr)
  | [], _, _, hf, _ => hf
  | v :: l, i, fr, hf, hx => by
    show FrRep W cx tmps (Tr.setAll l (i + 1) (fr.set i v))
    exact FrRep.setAll l (i + 1) _ (hf.set (hx 0 v rfl)) fun j x hj => by
      have := hx (j + 1) x (by simpa using hj)
      rw [show i + 1 + j = i + (j + 1) by omega]; exact this

theorem enter_rep {args : Array Value} {l : List AV} (hl : RepL W cx args.toList l) {n : Nat} (hn : l.length ≤ n) : FrRep W cx (args ++ Array.replicate (n - args.size) undef) (Tr.enter n l) := by
  have hsz : args.size = l.length := by have := hl.1; simpa using this
  refine FrRep.setAll l 0 _ ⟨fun i => by rw [Tr.get_mk]; exact .und _, fun i hi => ?_⟩ fun j x hj => ?_
  · have := Tr.has_mk _ _ _ hi
    simp; omega
  · obtain ⟨v, h1, h2⟩ := hl.get hj
    have hlt : j < args.size := by rw [hsz]; exact get_lt hj
    have : (args ++ Array.replicate (n - args.size) undef).getD (0 + j) undef = v := by
      rw [Nat.zero_add, Array.getD_eq_getD_getElem?, Array.getElem?_append_left hlt]
      have : args[j]? = some v := by simpa using h1
      rw [this]; rfl
    rw [this]; exact h2

/-! ### Code -/

/-- What stays so throughout code. -/
def StC (S : Act → Prop) : Code → Prop
  | .region _ ops _ => ∀ (i : Nat) (o : Oper), ops[i]? = some o → Stab S o.dst
  | .seq a b => StC S a ∧ StC S b
  | .cond _ a b => StC S a ∧ StC S b
  | .block _ a => StC S a
  | .loop a => StC S a
  | .scope a => StC S a
  | _ => True
theorem stC_all {S : Act → Prop} (h : ∀ d, Stab S d) : ∀ c, StC S c
  | .region _ ops _ => fun _ _ _ => h _
  | .seq a b => ⟨stC_all h a, stC_all h b⟩
  | .cond _ a b => ⟨stC_all h a, stC_all h b⟩
  | .block _ a => stC_all h a
  | .loop a => stC_all h a
  | .scope a => stC_all h a
  | .skip | .rangeFunc .. | .exit _ | .label _ | .goto _ | .ret | .refuse _ => trivial
def S0 (a : Act) : Prop := a.defers = []
theorem stab0 : ∀ d, Stab S0 d := fun d a v h => by show (a.put d v).defers = []; rw [put_defers]; exact h

theorem call_of_code (hE : EnvOk E P) {n : Nat}
    (hcode : ∀ (c : Code) W cx (a : Act) fr h, FrRep W cx a.tmps fr → S0 a → Sat E W cx h → ev E n (xc c) fr h ≠ .bad → c.wp P ((ev E n (xc c) fr h).Post E W cx S0) a W) : CallOk E P (callA E (ev E n)) := by
  intro f args l W cx h hl hs hb
  unfold callA at hb ⊢
  cases hfi : E.fn f with
  | none => rw [hfi] at hb; exact absurd rfl hb
  | some fi =>
    rw [hfi] at hb
    obtain ⟨fn, c, h1, h2, h3, h4, h5, h6⟩ := hE.fn f fi hfi
    refine ⟨⟨fn, c, h1, h2, h3⟩, ?_⟩
    dsimp only at hb ⊢
    cases hn : Nat.ble (lenL l) fi.ntmps with
    | false => rw [hn] at hb; exact absurd rfl hb
    | true =>
      rw [hn] at hb
      simp only [cond_true] at hb ⊢
      have hn := ble_true hn
      rw [lenL_eq] at hn
      rw [h4] at hb ⊢
      have hfr := enter_rep hl hn
      have hb1 : ev E n (xc c) (Tr.enter fi.ntmps l) h ≠ .bad := fun e => by rw [e] at hb; exact hb rfl
      have hsz : args.size = l.length := by have := hl.1; simpa using this
      rw [h5] at hfr hb hb1 ⊢
      refine calls_of_wp h1 h2 (wp_mono (hcode c W cx ⟨args ++ Array.replicate (fn.ntmps - args.size) undef, []⟩ _ h hfr rfl hs hb1) fun x a w hp => ?_)
      obtain ⟨hd, cx', he, hp⟩ := hp
      generalize ev E n (xc c) (Tr.enter fn.ntmps l) h = r at *
      cases r with
      | bad => exact absurd rfl hb1
      | pan v h' =>
        obtain ⟨vv, rfl, h7, h8⟩ := hp
        exact ⟨hd, cx', vv, rfl, he, h7, h8⟩
      | ok e fr h' =>
        obtain ⟨rfl, h7, h8⟩ := hp
        have key : resOf (resultsA E fi.results fr h') h' ≠ .bad → (∃ v, (results fn a.tmps).run P w = .ok v w ∧ (resOf (resultsA E fi.results fr h') h').Post E W cx (.returned v) w) := by
          intro hb
          cases hr : resultsA E fi.results fr h' with
          | none => rw [hr] at hb; exact absurd rfl hb
          | some vs =>
            rw [h6] at hr
            obtain ⟨v, h9, h10⟩ := results_sound (P := P) hE h7 h8 hr
            exact ⟨v, h9, cx', he, h7, h10⟩
        cases e with
        | exit i => exact absurd rfl hb
        | normal => exact ⟨hd, key hb⟩
        | ret => exact ⟨hd, key hb⟩

theorem seqA_bad {b : Tr → Heap → CRes} {r : CRes} (h : seqA b r ≠ .bad) : r ≠ .bad := fun e => by rw [e] at h; exact h rfl

theorem seq_post {S : Act → Prop} {r : CRes} {b : Tr → Heap → CRes} {K : Act → World → Prop} (hb : seqA b r ≠ .bad)
    (hK : ∀ fr' h' cx' a' w', r = .ok .normal fr' h' → Ext W cx w' cx' → Sat E w' cx' h' → FrRep w' cx' a'.tmps fr' → S a' → K a' w') : ∀ x a' w', r.Post E W cx S x a' w' → Exit.then K ((seqA b r).Post E W cx S) x a' w' := by
  intro x a' w' hp
  obtain ⟨hd, cx', he, hp⟩ := hp
  cases r with
  | bad => exact hp.elim
  | pan v h' =>
    obtain ⟨vv, rfl, h1, h2⟩ := hp
    exact ⟨hd, cx', he, vv, rfl, h1, h2⟩
  | ok e fr h' =>
    obtain ⟨rfl, h1, h2⟩ := hp
    cases e with
    | normal => exact hK fr h' cx' a' w' rfl he h1 h2 hd
    | exit i => exact ⟨hd, cx', he, rfl, h1, h2⟩
    | ret => exact ⟨hd, cx', he, rfl, h1, h2⟩

theorem ev_sound (hE : EnvOk E P) : ∀ n, (∀ (S : Act → Prop) (c : Code) W cx (a : Act) fr h, StC S c → FrRep W cx a.tmps fr → S a → Sat E W cx h → ev E n (xc c) fr h ≠ .bad → c.wp P ((ev E n (xc c) fr h).Post E W cx S) a W) ∧
    (∀ (S : Act → Prop) (c : Code) W cx (a : Act) fr h, StC S c → FrRep W cx a.tmps fr → S a → Sat E W cx h → ev E n (.loop (xc c)) fr h ≠ .bad → c.rounds P ((ev E n (.loop (xc c)) fr h).Post E W cx S) n a W)
  | 0 => ⟨fun S c W cx a fr h _ _ _ _ hb => absurd rfl hb, fun S c W cx a fr h _ _ _ _ hb => absurd rfl hb⟩
  | n + 1 => by
    obtain ⟨ihc, ihl⟩ := ev_sound hE n
    have hcall := call_of_code hE fun c W cx a fr h => ihc S0 c W cx a fr h (stC_all stab0 c)
    have round : ∀ (S : Act → Prop) (c : Code) W cx (a : Act) fr h, StC S c → FrRep W cx a.tmps fr → S a → Sat E W cx h → ev E (n + 1) (.loop (xc c)) fr h ≠ .bad → c.rounds P ((ev E (n + 1) (.loop (xc c)) fr h).Post E W cx S) (n + 1) a W := by
      intro S c W cx a fr h hst hf hd hs hb
      have e : ev E (n + 1) (.loop (xc c)) fr h = seqA (ev E n (.loop (xc c))) (ev E n (xc c) fr h) := rfl
      rw [e] at hb ⊢
      rw [rounds_succ]
      refine wp_mono (ihc S c W cx a fr h hst hf hd hs (seqA_bad hb)) (seq_post hb fun fr' h' cx' a' w' e1 h1 h2 h3 h4 => ?_)
      rw [e1] at hb ⊢
      have hb : ev E n (.loop (xc c)) fr' h' ≠ .bad := hb
      have := ihl S c w' cx' a' fr' h' hst h3 h4 h2 hb
      have mono : ∀ m a w Q Q', (∀ x a w, Q x a w → Q' x a w) → c.rounds P Q m a w → c.rounds P Q' m a w := by
        intro m
        induction m with
        | zero => intro a w Q Q' _ h; exact h
        | succ m ih =>
          intro a w Q Q' hq h
          exact wp_mono h fun x a w hx => by cases x <;> first | exact ih _ _ _ _ hq hx | exact hq _ _ _ hx
      exact mono n a' w' _ _ (fun x a w hp => CRes.Post.trans h1 hp) this
    refine ⟨fun S c W cx a fr h hst hf hd hs hb => ?_, round⟩
    cases c with
    | skip => exact wp_skip ⟨hd, cx, Ext.refl _ _, rfl, hs, hf⟩
    | ret => exact wp_ret ⟨hd, cx, Ext.refl _ _, rfl, hs, hf⟩
    | exit id => exact wp_exit ⟨hd, cx, Ext.refl _ _, rfl, hs, hf⟩
    | label l => exact wp_label ⟨hd, cx, Ext.refl _ _, rfl, hs, hf⟩
    | scope x =>
      have e : ev E (n + 1) (xc (.scope x)) fr h = ev E n (xc x) fr h := rfl
      rw [e] at hb ⊢
      refine wp_scope_straight (wp_mono (ihc S x W cx a fr h hst hf hd hs hb) fun x' a' w' hp => ?_)
      cases x' with
      | goto l =>
        obtain ⟨_, cx', _, hp⟩ := hp
        generalize ev E n (xc x) fr h = r at hp
        cases r with
        | bad => exact hp.elim
        | pan v h' => obtain ⟨vv, e, _⟩ := hp; cases e
        | ok e fr' h' => obtain ⟨e2, _⟩ := hp; cases e <;> cases e2
      | _ => exact hp
    | region id ops draw =>
      cases draw with
      | false =>
        have e : ev E (n + 1) (xc (.region id ops false)) fr h = evOps E (callA E (ev E n)) (ops.toList.map (xop ops.toList false true false)) fr h := rfl
        rw [e] at hb ⊢
        exact wp_region_list (evOps_sound hE hcall ops.toList W cx a fr h (fun o ho => by obtain ⟨i, hi⟩ := List.getElem?_of_mem ho; exact hst i o (by simpa using hi)) hf hd hs hb fun x a' w' hp => hp)
      | true =>
        have e : ev E (n + 1) (xc (.region id ops true)) fr h = step E (ev E n) (bif drawOk ops.toList (masks ops.toList) (orderOf ops.toList (masks ops.toList)) then .reg true (xops ops.toList (masks ops.toList) [] (orderOf ops.toList (masks ops.toList))) else .bad) fr h := rfl
        rw [e] at hb ⊢
        cases hok : drawOk ops.toList (masks ops.toList) (orderOf ops.toList (masks ops.toList)) with
        | false => rw [hok] at hb; exact absurd rfl hb
        | true =>
          rw [hok] at hb
          exact draw_sound hE hs hf hd hcall (ev_pres E n) hst hok hb
    | seq x y =>
      have e : ev E (n + 1) (xc (.seq x y)) fr h = seqA (ev E n (xc y)) (ev E n (xc x) fr h) := rfl
      rw [e] at hb ⊢
      refine wp_seq (wp_mono (ihc S x W cx a fr h hst.1 hf hd hs (seqA_bad hb)) (seq_post hb fun fr' h' cx' a' w' e1 h1 h2 h3 h4 => ?_))
      rw [e1] at hb ⊢
      have hb : ev E n (xc y) fr' h' ≠ .bad := hb
      exact wp_mono (ihc S y w' cx' a' fr' h' hst.2 h3 h4 h2 hb) fun x a w hp => CRes.Post.trans h1 hp
    | cond c x y =>
      have e : ev E (n + 1) (xc (.cond c x y)) fr h = condA (ev E n (xc x)) (ev E n (xc y)) (opv E c fr) fr h := rfl
      rw [e] at hb ⊢
      have hc := opv_rep (E := E) hs hf c
      cases hv : opv E c fr with
      | bool b =>
        rw [hv] at hb hc
        refine wp_cond hc.bool_inv ?_
        cases b with
        | true => exact ihc S x W cx a fr h hst.1 hf hd hs hb
        | false => exact ihc S y W cx a fr h hst.2 hf hd hs hb
      | _ => rw [hv] at hb; exact absurd rfl hb
    | block id x =>
      have e : ev E (n + 1) (xc (.block id x)) fr h = blockA id (ev E n (xc x) fr h) := rfl
      rw [e] at hb ⊢
      have hb1 : ev E n (xc x) fr h ≠ .bad := fun e => by rw [e] at hb; exact hb rfl
      refine wp_block (wp_mono (ihc S x W cx a fr h hst hf hd hs hb1) fun x' a' w' hp => ?_)
      clear e
      generalize ev E n (xc x) fr h = r at *
      obtain ⟨hd', cx', he, hp⟩ := hp
      cases r with
      | bad => exact absurd rfl hb1
      | pan v h' =>
        obtain ⟨vv, rfl, h1, h2⟩ := hp
        exact ⟨hd', cx', he, vv, rfl, h1, h2⟩
      | ok e fr' h' =>
        obtain ⟨rfl, h1, h2⟩ := hp
        cases e with
        | normal => exact ⟨hd', cx', he, rfl, h1, h2⟩
        | ret => exact ⟨hd', cx', he, rfl, h1, h2⟩
        | exit j =>
          show Exit.inBlock id _ (.exit j) a' w'
          have e2 : blockA id (.ok (.exit j) fr' h') = bif Nat.beq j id then .ok .normal fr' h' else .ok (.exit j) fr' h' := rfl
          rw [e2]
          show if j = id then _ else _
          by_cases hj : j = id
          · subst hj; rw [if_pos rfl]; simp only [Nat.beq_refl, cond_true]; exact ⟨hd', cx', he, rfl, h1, h2⟩
          · rw [if_neg hj, Heap.beq_false hj]; exact ⟨hd', cx', he, rfl, h1, h2⟩
    | loop x => exact wp_loop_rounds (n + 1) (round S x W cx a fr h hst hf hd hs hb)
    | _ => exact absurd rfl hb

/-- A call that is told of ends so. -/
theorem run_sound (hE : EnvOk E P) {n f : Nat} {args : Array Value} {l : List AV} (hl : RepL W cx args.toList l) (hs : Sat E W cx h) (hb : run E n f l h ≠ .bad) : Calls P f args W ((run E n f l h).Post E W cx) :=
  (call_of_code hE (fun c W cx a fr h => (ev_sound hE n).1 S0 c W cx a fr h (stC_all stab0 c)) f args l W cx h hl hs hb).2
end
end Go.AM

/-
  The abstract machine: what is told of a program's types and functions, reckoned from the program.
-/
namespace Go.AM

def allOne (l : List Value) : Bool := match l with | [] => true | v :: r => v.oneC && allOne r
theorem allOne_iff : ∀ (l : List Value), allOne l = true → OneL l
  | [], _ => fun v hv => by cases hv
  | v :: r, h => by
    unfold allOne at h
    rw [Bool.and_eq_true] at h
    intro u hu
    cases hu with
    | head => exact h.1
    | tail _ hu => exact allOne_iff r h.2 u hu

def isUnd (v : AV) : Bool := match v with | .und => true | _ => false

/-- One field of a struct that is held cell by cell. -/
def flatField (P : Program) (zs : List AV) (i : Nat) (f : Field) : Bool :=
  !(f.name == "_") && Nat.beq f.offset i && (match zs[i]? with
    | none => false
    | some z => match z with
      | .int k _ => (match P.underlying f.type with | some (.int k2) => kindEq k k2 | _ => false)
      | .bool _ => (match P.underlying f.type with | some .bool => true | _ => false)
      | .str _ => (match P.underlying f.type with | some .string => true | _ => false)
      | _ => false)
def flatFields (P : Program) (zs : List AV) : Nat → List Field → Bool
  | _, [] => true
  | i, f :: r => flatField P zs i f && flatFields P zs (i + 1) r
def flatOk (P : Program) (t : Nat) (zs : List AV) (fields : Array Field) : Bool :=
  flatFields P zs 0 fields.toList && Nat.beq zs.length fields.toList.length && !(P.eqGuardType P.depth t) && !(P.stoodInHeld t)
def fieldsHave (P : Program) (l : List Field) : Bool := l.all fun f => (P.info? f.type).isSome

def tdOf (P : Program) (t : Nat) (zs : List AV) (d : TypeDesc) : Option TD :=
  match d with
  | .int k => some (.int k)
  | .bool => some .bool
  | .string => some .string
  | .pointer e => some (.ptr e)
  | .slice e => some (.slice e)
  | .array n e => some (.array n e)
  | .map k e => some (.map k e)
  | .struct fields => bif fieldsHave P fields.toList then some (.struct (fields.toList.map fun f => (f.type, f.offset)) (flatOk P t zs fields)) else none
  | .func _ _ _ => some .func
  | _ => some .other
/-- What is told of a type: reckoned from the program. -/
def tiOf (P : Program) (t : Nat) : Option TI :=
  match P.info? t with
  | none => none
  | some i => match i.zero with
    | none => none
    | some z => bif allOne z.cells.toList && !(isUnd (ofValue z)) && Nat.beq (ofValue z).cells.length i.size && (Nat.beq i.size 0 || Nat.blt 0 i.bytes) then
        (match P.underlying t with
        | none => none
        | some d => match tdOf P t (ofValue z).cells d with
          | none => none
          | some td => some ⟨td, i.size, i.bytes, ofValue z⟩) else none

theorem flatFields_get {P : Program} {zs : List AV} : ∀ (l : List Field) (k : Nat), flatFields P zs k l = true → ∀ (i : Nat) f, l[i]? = some f → flatField P zs (k + i) f = true
  | [], k, h, i, f, hf => by simp at hf
  | g :: r, k, h, i, f, hf => by
    unfold flatFields at h
    rw [Bool.and_eq_true] at h
    cases i with
    | zero => simp at hf; subst hf; exact h.1
    | succ i =>
      have := flatFields_get r (k + 1) h.2 i f (by simpa using hf)
      rw [show k + (i + 1) = k + 1 + i by omega]; exact this

theorem tdOf_ok {P : Program} {t : Nat} {d : TypeDesc} (hd : P.underlying t = some d) {x : TI} (h : tdOf P t x.zero.cells d = some x.desc) : descOk P t x := by
  unfold descOk
  cases d with
  | struct fields =>
    have h : (bif fieldsHave P fields.toList then some (TD.struct (fields.toList.map fun f => (f.type, f.offset)) (flatOk P t x.zero.cells fields)) else none) = some x.desc := h
    cases hh : fieldsHave P fields.toList with
    | false => rw [hh] at h; cases h
    | true =>
      rw [hh] at h
      have h := Option.some.inj h
      rw [← h]
      refine ⟨fields, hd, rfl, fun f hf => ?_, fun hfl => ?_⟩
      · have := (List.all_eq_true.1 hh) f hf
        exact Option.isSome_iff_exists.1 this
      · unfold flatOk at hfl
        simp only [Bool.and_eq_true, Bool.not_eq_true'] at hfl
        obtain ⟨⟨⟨h1, h2⟩, h3⟩, h4⟩ := hfl
        refine ⟨h3, h4, by have := beq_true h2; simpa using this, fun i f hf => ?_⟩
        have := flatFields_get _ _ h1 i f (by simpa using hf)
        rw [Nat.zero_add] at this
        unfold flatField at this
        simp only [Bool.and_eq_true, Bool.not_eq_true'] at this
        obtain ⟨⟨h5, h6⟩, h7⟩ := this
        refine ⟨fun e => by rw [e] at h5; simp at h5, beq_true h6, ?_⟩
        cases hz : x.zero.cells[i]? with
        | none => rw [hz] at h7; cases h7
        | some z =>
          refine ⟨z, rfl, ?_⟩
          rw [hz] at h7
          cases z with
          | int k n =>
            dsimp only at h7
            cases hu : P.underlying f.type with
            | none => rw [hu] at h7; cases h7
            | some d2 =>
              rw [hu] at h7
              cases d2 with
              | int k2 =>
                have e := (kindEq_iff _ _).1 h7
                subst e
                exact .inl ⟨k, n, rfl, rfl⟩
              | _ => cases h7
          | bool b =>
            dsimp only at h7
            cases hu : P.underlying f.type with
            | none => rw [hu] at h7; cases h7
            | some d2 =>
              rw [hu] at h7
              cases d2 with
              | bool => exact .inr (.inl ⟨b, rfl, rfl⟩)
              | _ => cases h7
          | str s =>
            dsimp only at h7
            cases hu : P.underlying f.type with
            | none => rw [hu] at h7; cases h7
            | some d2 =>
              rw [hu] at h7
              cases d2 with
              | string => exact .inr (.inr ⟨s, rfl, rfl⟩)
              | _ => cases h7
          | _ => cases h7
  | _ => (have h := Option.some.inj h; rw [← h]; first | exact hd | exact ⟨_, hd, by simp, by simp, by simp⟩)

theorem tiOf_ok {P : Program} {t : Nat} {x : TI} (h : tiOf P t = some x) : TyOk P t x := by
  unfold tiOf at h
  cases hi : P.info? t with
  | none => rw [hi] at h; cases h
  | some i =>
    rw [hi] at h
    dsimp only at h
    cases hz : i.zero with
    | none => rw [hz] at h; cases h
    | some z =>
      rw [hz] at h
      dsimp only at h
      cases hg : (allOne z.cells.toList && !(isUnd (ofValue z)) && Nat.beq (ofValue z).cells.length i.size && (Nat.beq i.size 0 || Nat.blt 0 i.bytes)) with
      | false => rw [hg] at h; cases h
      | true =>
        rw [hg] at h
        simp only [cond_true] at h
        cases hu : P.underlying t with
        | none => rw [hu] at h; cases h
        | some d =>
          rw [hu] at h
          dsimp only at h
          cases htd : tdOf P t (ofValue z).cells d with
          | none => rw [htd] at h; cases h
          | some td =>
            rw [htd] at h
            cases h
            simp only [Bool.and_eq_true, Bool.not_eq_true', Bool.or_eq_true] at hg
            obtain ⟨⟨⟨h1, h2⟩, h3⟩, h4⟩ := hg
            have h3 := beq_true h3
            refine ⟨⟨i, z, hi, rfl, rfl, hz, fun W cx => ofValue_rep z, allOne_iff _ h1, fun e => ?_⟩, h3, fun hp => ?_, tdOf_ok hu htd⟩
            · have e : ofValue z = .und := e
              rw [e] at h2; cases h2
            · rcases h4 with h4 | h4
              · have := beq_true h4
                have hp : 0 < i.size := hp
                omega
              · exact blt_true h4

/-- What is told of a function: reckoned from the program. -/
def fiOf (f : Func) : Option FI :=
  match f.body with
  | none => none
  | some c => bif f.name == "runtime.NumGoroutine" then none else some ⟨xc c, f.ntmps, f.results.toList⟩
def fnOf (P : Program) (f : Nat) : Option FI := match P.funcs[f]? with | none => none | some fn => fiOf fn

theorem fnOf_ok {P : Program} {f : Nat} {x : FI} (h : fnOf P f = some x) : ∃ fn c, P.funcs[f]? = some fn ∧ fn.body = some c ∧ (fn.name == "runtime.NumGoroutine") = false ∧ x.code = xc c ∧ x.ntmps = fn.ntmps ∧ x.results = fn.results.toList := by
  unfold fnOf at h
  cases hf : P.funcs[f]? with
  | none => rw [hf] at h; cases h
  | some fn =>
    rw [hf] at h
    have h : fiOf fn = some x := h
    unfold fiOf at h
    cases hb : fn.body with
    | none => rw [hb] at h; cases h
    | some c =>
      rw [hb] at h
      dsimp only at h
      cases hn : fn.name == "runtime.NumGoroutine" with
      | true => rw [hn] at h; cases h
      | false => rw [hn] at h; cases h; exact ⟨fn, c, rfl, hb, hn, rfl, rfl, rfl⟩

/-- A table that is told, and the one that is reckoned: alike below a number, and nothing above it. -/
theorem table_eq {α : Type} {g h : Nat → Option α} {n : Nat} (h1 : (List.range n).map g = (List.range n).map h) (h2 : ∀ t, n ≤ t → g t = none) {t : Nat} {x : α} (hx : g t = some x) : h t = some x := by
  rcases Nat.lt_or_ge t n with ht | ht
  · have e := congrArg (fun l => l[t]?) h1
    simp only [List.getElem?_map, List.getElem?_range ht, Option.map_some] at e
    rw [← Option.some.inj e]; exact hx
  · rw [h2 t ht] at hx; cases hx

theorem Heap.blt_false {t n : Nat} (h : n ≤ t) : Nat.blt t n = false := by
  cases e : Nat.blt t n
  · rfl
  · have := blt_true e; omega

/-- An environment that is the program's. -/
theorem envOk {E : Env} {P : Program} {n m : Nat} (h1 : (List.range n).map E.ti = (List.range n).map (tiOf P)) (h2 : ∀ t, n ≤ t → E.ti t = none) (h3 : (List.range m).map E.fn = (List.range m).map (fnOf P)) (h4 : ∀ t, m ≤ t → E.fn t = none)
    (h5 : P.follows .mixedOrders = true) : EnvOk E P :=
  ⟨fun t x hx => tiOf_ok (table_eq h1 h2 hx), fun f x hx => fnOf_ok (table_eq h3 h4 hx), h5⟩

/-! ### A call from outside -/
def cx0 : Cx := ⟨fun _ => (0, 0, 0), 0, fun _ => False, fun _ => False⟩

theorem sat0 {E : Env} {W : World} (hg : ∀ g v, E.gl g = some v → Rep W cx0 (.pointer (some ⟨g, 0, none⟩)) (.fptr v 0)) : Sat E W cx0 Heap.empty where
  nx := rfl
  objs id o ho := by cases ho
  inj id id' o o' ho := by cases ho
  gl := hg
  held b hb := hb.elim
  free id o ho := by cases ho

theorem Ext.below {W W' : World} {cx' : Cx} (h : Ext W cx0 W' cx') : RowKit.Below W.heap.size W W' :=
  ⟨h.out.1, h.out.2.1, h.out.2.2, h.sz, fun b hb => h.keep b hb (fun h => h)⟩

/-- A call that is told of, from outside: what was there is as it was. -/
theorem told {P : Program} {E : Env} {W : World} (hE : EnvOk E P) (hg : ∀ g v, E.gl g = some v → Rep W cx0 (.pointer (some ⟨g, 0, none⟩)) (.fptr v 0)) {n f : Nat} {args : Array Value} {l : List AV} (hl : RepL W cx0 args.toList l) {v : AV} {h' : Heap} (hr : run E n f l Heap.empty = .ok v h') :
    Calls P f args W fun e w' => ∃ vv cx', e = .returned vv ∧ Ext W cx0 w' cx' ∧ Rep w' cx' vv v := by
  have hb : run E n f l Heap.empty ≠ .bad := by rw [hr]; intro e; cases e
  refine (run_sound hE hl (sat0 hg) hb).mono fun e w' hp => ?_
  rw [hr] at hp
  cases e with
  | returned vv => obtain ⟨cx', h1, h2, h3⟩ := hp; exact ⟨vv, cx', rfl, h1, h3⟩
  | panicked c => exact hp.elim
  | outgrown => exact hp.elim

/-- The same, for a law: it says true. -/
def isTrue : Res → Bool
  | .ok v _ => (match v with | .bool b => b | _ => false)
  | _ => false
theorem told_true {P : Program} {E : Env} {W : World} (hE : EnvOk E P) (hg : ∀ g v, E.gl g = some v → Rep W cx0 (.pointer (some ⟨g, 0, none⟩)) (.fptr v 0)) {n f : Nat} {args : Array Value} {l : List AV} (hl : RepL W cx0 args.toList l) (hr : isTrue (run E n f l Heap.empty) = true) :
    Calls P f args W fun e w' => e = .returned (.bool true) ∧ RowKit.Below W.heap.size W w' := by
  cases hq : run E n f l Heap.empty with
  | bad => rw [hq] at hr; cases hr
  | pan v h => rw [hq] at hr; cases hr
  | ok v h =>
    rw [hq] at hr
    cases v with
    | bool b =>
      have hr : b = true := hr
      subst hr
      refine (told hE hg hl hq).mono fun e w' hp => ?_
      obtain ⟨vv, cx', rfl, h1, h2⟩ := hp
      rw [h2.bool_inv]
      exact ⟨rfl, h1.below⟩
    | _ => cases hr
end Go.AM

/-
  The abstract machine: what a row asks of the world behind a call, off 'Below'.
-/
namespace Go.AM
open Go.ChangeShapes Go.WideShapes Go.ChangeAt Go.RowKit
section
variable {H : Type} {enc : TypeId × Value → H} {P : Program}
theorem post_of_below {f : Func} {s : ChangeSpec} {apart fresh handsOn again : Bool} {W W' : World} {args : Array Value} {v : Value} {ds gs : List (DataW H)} {before pa pv : List MemPlace}
    (hW : DataW.Whole enc P f.params.toList s.vars apart W args.toList ds gs before)
    (hres : ∀ (b : Nat) (sp : Nat → Bool) (hd : Bool), DataW.TrodAll enc P W' b sp hd f.resultTypes.toList (v.resultList f.resultTypes.size) (s.fn H (ds ++ gs)).results [])
    (hargs : ∀ sp : Nat → Bool, (∀ p ∈ before, sp p.block = true) → DataW.TrodAll enc P W' 0 sp true f.params.toList args.toList (s.fn H (ds ++ gs)).args pa)
    (hvars : ∀ sp : Nat → Bool, (∀ p ∈ before, sp p.block = true) → DataW.TrodVars enc P W' sp s.vars (s.fn H (ds ++ gs)).vars pv)
    (hps : before = pa ++ pv) (hb : Below W.heap.size W W')
    (hok : ∀ (j : Nat) (t : TypeId) (r : Value), f.resultTypes[j]? = some t → (v.resultList f.resultTypes.size)[j]? = some r → Value.okWide P W' .any 0 t r) :
    s.post enc P f apart fresh handsOn again W args v W' := by
  have hlt : ∀ p ∈ before, p.block < W.heap.size := fun p hp => by simpa using hW.lt p hp
  have hold : ∀ p ∈ before, (fun b => decide (b < W.heap.size)) p.block = true := fun p hp => by simpa using hW.lt p hp
  refine ⟨ds, gs, before, [], pa, pv, hW, hres _ _ _, hargs _ hold, hvars _ hold, World.keptBut_mono (fun p hp => ⟨hp, ?_⟩) (hb.frame (· ∈ before)), fun _ => ?_⟩
  · rw [hps, List.mem_append] at hp
    exact Or.inr hp
  · obtain ⟨_, _, _, _, _, hz, hn⟩ := hW
    refine ⟨hok, _, _, ([] ++ pa) ++ pv, ⟨[] ++ pa, pv, trodAll_append (hargs _ (fun _ _ => rfl)) (hres _ _ _), hvars _ (fun _ _ => rfl), rfl, ?_, ?_⟩, ?_⟩
    · intro b off hp
      have hm : MemPlace.cell b off ∈ before := by rw [hps]; simpa using hp
      have := hb.frozen (p := ⟨b, off, none⟩) (hlt _ hm)
      rw [this]
      exact hz b off hm
    · intro ha
      have := hn ha
      rw [hps] at this
      simpa using this
    · intro p hp _
      rw [hps]
      simpa using hp
end
end Go.AM

/-
  The abstract machine: what a datum of a row is, as an abstract value: ints, bools, strings, slices, structs and arrays of such.
-/
namespace Go.AM

open Go.ChangeShapes Go.WideShapes Go.ChangeAt
noncomputable section
variable {H : Type}
/-- Rows of cells, as a value of a type. -/
def aggT (P : Program) (t : TypeId) : Bool := match P.underlying t with | some (.struct _) => true | some (.array _ _) => true | _ => false
def seeV (P : Program) (t : TypeId) (cs : List AV) : AV := bif aggT P t then .agg cs else (match cs with | [] => .und | x :: _ => x)
def seeL (see : DataW H → Option (List AV)) : List (DataW H) → Option (List (List AV))
  | [] => some []
  | d :: ds => obind (see d) fun a => obind (seeL see ds) fun r => some (a :: r)
def seeF (P : Program) (see : TypeId → DataW H → Option (List AV)) : Nat → List Field → List (DataW H) → Option (List AV)
  | _, [], ds => match ds with | [] => some [] | _ :: _ => none
  | o, f :: fs, ds => match ds with
    | [] => none
    | d :: ds => bif Nat.beq f.offset o then obind (see f.type d) fun a => bif Nat.beq (lenL a) (P.cellsOf f.type) then obind (seeF P see (Nat.add o (P.cellsOf f.type)) fs ds) fun r => some (appL a r) else none else none
def catL (l : List (List AV)) : List AV := match l with | [] => [] | a :: r => appL a (catL r)
/-- The cells of a datum. -/
def seeA (P : Program) : Nat → TypeId → DataW H → Option (List AV)
  | 0, _, _ => none
  | n + 1, t, d => match P.underlying t with
    | some .bool => (match d with | .lit l => (match l with | .bool b => some [.bool b] | _ => none) | _ => none)
    | some (.int _) => (match d with | .lit l => (match l with | .int k m => some [.int k m] | _ => none) | _ => none)
    | some .string => (match d with | .lit l => (match l with | .string s => some [.str s] | _ => none) | _ => none)
    | some (.slice e) => (match d with
      | .nil => some [.nilsl]
      | .slice es _ => bif Nat.blt 0 (P.cellsOf e) then obind (seeL (seeA P n e) es) fun rs => bif rs.all (fun r => Nat.beq (lenL r) (P.cellsOf e) && (aggT P e || Nat.beq (lenL r) 1)) then some [.fsl (rs.map (seeV P e)) false] else none else none
      | _ => none)
    | some (.struct fs) => (match d with | .agg ps => obind (seeF P (seeA P n) 0 fs.toList ps) fun r => bif Nat.beq (lenL r) (P.cellsOf t) then some r else none | _ => none)
    | some (.array m e) => (match d with | .agg ps => obind (seeL (seeA P n e) ps) fun rs => bif rs.all (fun r => Nat.beq (lenL r) (P.cellsOf e)) && Nat.beq (Nat.mul m (P.cellsOf e)) (P.cellsOf t) then some (catL rs) else none | _ => none)
    | _ => none

theorem seeL_inv {see : DataW H → Option (List AV)} : ∀ {ds : List (DataW H)} {rs : List (List AV)}, seeL see ds = some rs → rs.length = ds.length ∧ ∀ (i : Nat) d, ds[i]? = some d → ∃ r, see d = some r ∧ rs[i]? = some r
  | [], rs, h => by
    have h : some [] = some rs := h
    cases h
    exact ⟨rfl, fun i a h => by simp at h⟩
  | d :: ds, rs, h => by
    have h : obind (see d) (fun a => obind (seeL see ds) fun r => some (a :: r)) = some rs := h
    obtain ⟨a, ha, h⟩ := obind_some h
    obtain ⟨r, hr, h⟩ := obind_some h
    cases h
    obtain ⟨h1, h2⟩ := seeL_inv hr
    refine ⟨by simp [h1], fun i x hi => ?_⟩
    cases i with
    | zero => simp at hi; subst hi; exact ⟨a, ha, rfl⟩
    | succ i => simp at hi; obtain ⟨b, h3, h4⟩ := h2 i x hi; exact ⟨b, h3, by simpa using h4⟩

variable {enc : TypeId × Value → H} {P : Program} {W : World} {cx : Cx} {base : Nat} {spare : Nat → Bool} {held : Bool}

theorem mapM_inv {α β : Type} {f : α → Option β} : ∀ {l : List α} {r : List β}, l.mapM f = some r → r.length = l.length ∧ ∀ (i : Nat) a, l[i]? = some a → ∃ b, f a = some b ∧ r[i]? = some b
  | [], r, h => by
    have h : some [] = some r := by simpa using h
    cases h
    exact ⟨rfl, fun i a h => by simp at h⟩
  | x :: l, r, h => by
    rw [List.mapM_cons] at h
    cases hx : f x with
    | none => rw [hx] at h; cases h
    | some y =>
      rw [hx] at h
      cases hl : l.mapM f with
      | none => rw [hl] at h; cases h
      | some ys =>
        rw [hl] at h
        cases h
        obtain ⟨h1, h2⟩ := mapM_inv hl
        refine ⟨by simp [h1], fun i a hi => ?_⟩
        cases i with
        | zero => simp at hi; subst hi; exact ⟨y, hx, rfl⟩
        | succ i => simp at hi; obtain ⟨b, h3, h4⟩ := h2 i a hi; exact ⟨b, h3, by simpa using h4⟩

theorem cells_inv {a : Addr} {n : Nat} {cs : List Value} (h : W.cells? base a n = some cs) : cs.length = n ∧ ∀ i, i < n → W.cell? (a.add i) = cs[i]? := by
  unfold World.cells? at h
  by_cases hb : base ≤ a.block
  · rw [if_pos hb] at h
    obtain ⟨h1, h2⟩ := mapM_inv h
    refine ⟨by simpa using h1, fun i hi => ?_⟩
    obtain ⟨b, h3, h4⟩ := h2 i i (by rw [List.getElem?_range hi])
    rw [h3, h4]
  · rw [if_neg hb] at h; cases h
theorem cell_lt {a : Addr} {v : Value} (h : W.cell? a = some v) : a.block < W.heap.size ∧ a.spot = none := by
  unfold World.cell? at h
  cases hb : W.heap[a.block]? with
  | none => rw [hb] at h; cases h
  | some o =>
    refine ⟨Classical.byContradiction (fun h' => by rw [Array.getElem?_eq_none (Nat.le_of_not_lt h')] at hb; cases hb), ?_⟩
    rw [hb] at h
    cases o with
    | cells c t f =>
      dsimp only at h
      cases hs : a.spot with
      | none => rfl
      | some s => rw [hs] at h; cases h
    | _ => cases h

theorem catL_rep {sz : Nat} : ∀ (rs : List (List AV)) (cs : List Value), cs.length = rs.length * sz → (∀ r ∈ rs, r.length = sz) → (∀ (i : Nat) r, rs[i]? = some r → RepL W cx ((cs.drop (i * sz)).take sz) r) → RepL W cx cs (catL rs)
  | [], cs, hl, _, _ => by
    have : cs = [] := List.eq_nil_of_length_eq_zero (by simpa using hl)
    subst this; exact RepL.nil
  | r :: rs, cs, hl, hsz, h => by
    have h0 := h 0 r rfl
    have e : cs = cs.take sz ++ cs.drop sz := (List.take_append_drop sz cs).symm
    have hr : RepL W cx (cs.drop sz) (catL rs) := catL_rep rs (cs.drop sz) (by rw [List.length_drop, hl, List.length_cons, Nat.succ_mul]; omega) (fun r hr => hsz r (List.mem_cons_of_mem _ hr)) fun i r hi => by
      have := h (i + 1) r (by simpa using hi)
      rw [Nat.succ_mul, Nat.add_comm, ← List.drop_drop] at this
      exact this
    rw [e]
    show RepL W cx _ (appL r (catL rs))
    rw [appL_eq]
    refine RepL.append ?_ hr
    simpa using h0
theorem catL_mem : ∀ (rs : List (List AV)) (c : AV), c ∈ catL rs → ∃ r ∈ rs, c ∈ r
  | [], c, h => by cases h
  | r :: rs, c, h => by
    have h : c ∈ appL r (catL rs) := h
    rw [appL_eq, List.mem_append] at h
    rcases h with h | h
    · exact ⟨r, List.mem_cons_self .., h⟩
    · obtain ⟨r', h1, h2⟩ := catL_mem rs c h
      exact ⟨r', List.mem_cons_of_mem _ h1, h2⟩
theorem seeF_rep {see : TypeId → DataW H → Option (List AV)} {tr : TypeId → List Value → Option (DataW H × List MemPlace)} (hsee : ∀ t cs d ps acs, tr t cs = some (d, ps) → see t d = some acs → RepL W cx cs acs ∧ ∀ c ∈ acs, okCell c = true) :
    ∀ (fs : List Field) (cs : List Value) (o : Nat) (xs : List (DataW H × List MemPlace)) (acs : List AV), xs.length = fs.length → (∀ (i : Nat) f, fs[i]? = some f → tr f.type ((cs.drop f.offset).take (P.cellsOf f.type)) = xs[i]?) → seeF P see o fs (xs.map (·.1)) = some acs → cs.length ≤ o + acs.length →
      RepL W cx (cs.drop o) acs ∧ ∀ c ∈ acs, okCell c = true
  | [], cs, o, xs, acs, h0, h1, h2, h3 => by
    have : xs = [] := List.eq_nil_of_length_eq_zero h0
    subst this
    have h2 : some [] = some acs := h2
    cases h2
    rw [List.drop_eq_nil_of_le (by simpa using h3)]
    exact ⟨RepL.nil, by simp⟩
  | f :: fs, cs, o, xs, acs, h0, h1, h2, h3 => by
    cases xs with
    | nil => cases h0
    | cons y ys =>
      have hx := h1 0 f rfl
      have h2 : (bif Nat.beq f.offset o then obind (see f.type y.1) fun a => bif Nat.beq (lenL a) (P.cellsOf f.type) then obind (seeF P see (Nat.add o (P.cellsOf f.type)) fs (ys.map (·.1))) fun r => some (appL a r) else none else none) = some acs := h2
      cases ho : Nat.beq f.offset o with
      | false => rw [ho] at h2; cases h2
      | true =>
        rw [ho] at h2
        obtain ⟨a, ha, h2⟩ := obind_some h2
        cases hn : Nat.beq (lenL a) (P.cellsOf f.type) with
        | false => rw [hn] at h2; cases h2
        | true =>
          rw [hn] at h2
          obtain ⟨r, hr, h2⟩ := obind_some h2
          cases h2
          have ho := beq_true ho
          have hn := beq_true hn
          rw [lenL_eq] at hn
          rw [appL_eq] at h3 ⊢
          rw [List.length_append, hn] at h3
          obtain ⟨k1, k2⟩ := hsee _ _ _ _ _ hx ha
          obtain ⟨k3, k4⟩ := seeF_rep hsee fs cs _ ys r (by simpa using h0) (fun i f hi => by have := h1 (i + 1) f (by simpa using hi); simpa using this) hr (by show cs.length ≤ o + P.cellsOf f.type + r.length; omega)
          refine ⟨?_, fun c hc => ?_⟩
          · rw [← List.take_append_drop (P.cellsOf f.type) (cs.drop o)]
            refine RepL.append (by rw [← ho]; exact k1) ?_
            rw [List.drop_drop]; exact k3
          · rcases List.mem_append.1 hc with hc | hc
            · exact k2 c hc
            · exact k4 c hc

theorem see_rep (hown : ∀ b, ¬ cx.own b) : ∀ (m n : Nat) (t : TypeId) (cs : List Value) (d : DataW H) (ps : List MemPlace) (acs : List AV), DataW.trod enc P W base spare held n t cs = some (d, ps) → seeA P m t d = some acs → RepL W cx cs acs ∧ ∀ c ∈ acs, okCell c = true
  | 0, _, _, _, _, _, _, _, h => by cases h
  | m + 1, n, t, cs, d, ps, acs, h1, h2 => by
    have ih := see_rep hown m
    have one : ∀ {v : Value} {a : AV}, Rep W cx v a → okCell a = true → RepL W cx [v] [a] ∧ ∀ c ∈ [a], okCell c = true := fun hv ha => ⟨RepL.cons hv RepL.nil, by simpa using ha⟩
    unfold seeA at h2
    cases hu : P.underlying t with
    | none => rw [hu] at h2; cases h2
    | some u =>
      rw [hu] at h2
      cases u with
      | bool =>
        obtain ⟨b, rfl, e⟩ := DataW.trod_bool hu h1
        cases e; cases h2; exact one (.bool _) rfl
      | int k =>
        obtain ⟨z, rfl, e, _⟩ := DataW.trod_int hu h1
        cases e; cases h2; exact one (.int _ _) rfl
      | string =>
        obtain ⟨s, rfl, e, _⟩ := DataW.trod_string hu h1
        cases e; cases h2; exact one (.str _) rfl
      | slice e =>
        rcases DataW.trod_slice hu h1 with ⟨rfl, e1⟩ | ⟨a, len, cap, elems, rest, n', rfl, rfl, e1, _, hlc, _, hlen, hel, _, _⟩
        · cases e1; cases h2; exact one .nilsl rfl
        · cases e1
          dsimp only at h2
          cases hp : Nat.blt 0 (P.cellsOf e) with
          | false => rw [hp] at h2; cases h2
          | true =>
            rw [hp] at h2
            obtain ⟨rs, hrs, h2⟩ := obind_some h2
            cases hall : (rs.all fun r => Nat.beq (lenL r) (P.cellsOf e) && (aggT P e || Nat.beq (lenL r) 1)) with
            | false => rw [hall] at h2; cases h2
            | true =>
              rw [hall] at h2
              cases h2
              have hp := blt_true hp
              obtain ⟨hl, hget⟩ := seeL_inv hrs
              rw [List.length_map] at hl
              have key : ∀ (i : Nat) r, rs[i]? = some r → ∃ csi, W.cells? base (a.add (i * P.cellsOf e)) (P.cellsOf e) = some csi ∧ RepL W cx csi r ∧ ∀ c ∈ r, okCell c = true := fun i r hi => by
                have hik : i < len := by rw [← hlen, ← hl]; exact get_lt hi
                have h3 := hel i hik
                have hix : i < elems.length := by rw [hlen]; exact hik
                have hxi : elems[i]? = some elems[i] := List.getElem?_eq_getElem hix
                obtain ⟨r', hr', hri⟩ := hget i elems[i].1 (by rw [List.getElem?_map, hxi]; rfl)
                rw [hi] at hri; cases hri
                rw [hxi] at h3
                cases hcs : W.cells? base (a.add (i * P.cellsOf e)) (P.cellsOf e) with
                | none => rw [hcs] at h3; cases h3
                | some csi =>
                  rw [hcs] at h3
                  exact ⟨csi, rfl, ih n' e _ _ _ _ h3 hr'⟩
              have hsz : ∀ (i : Nat) r, rs[i]? = some r → r.length = P.cellsOf e ∧ (seeV P e r).cells = r := fun i r hi => by
                have := (List.all_eq_true.1 hall) r (List.mem_of_getElem? hi)
                rw [Bool.and_eq_true] at this
                have h1 := beq_true this.1
                rw [lenL_eq] at h1
                refine ⟨h1, ?_⟩
                unfold seeV
                cases hag : aggT P e with
                | true => rfl
                | false =>
                  have h2 := this.2
                  rw [hag] at h2
                  have h2 := beq_true h2
                  rw [lenL_eq] at h2
                  have hok := (key i r hi).choose_spec.2.2
                  match r, h2, hok with
                  | [x], _, hx => show x.cells = [x]; have := hx x (by simp); cases x <;> first | rfl | cases this
              have hmap : ∀ (i : Nat) x, (rs.map (seeV P e))[i]? = some x → ∃ r, rs[i]? = some r ∧ x.cells = r ∧ r.length = P.cellsOf e := fun i x hi => by
                rw [List.getElem?_map, Option.map_eq_some_iff] at hi
                obtain ⟨r, hr, rfl⟩ := hi
                exact ⟨r, hr, (hsz i r hr).2, (hsz i r hr).1⟩
              have hcell : ∀ (i : Nat) x (j : Nat) c, (rs.map (seeV P e))[i]? = some x → x.cells[j]? = some c → ∃ v, W.cell? ((a.add (i * P.cellsOf e)).add j) = some v ∧ Rep W cx v c ∧ v.oneC = true := fun i x j c hi hj => by
                obtain ⟨r, hr, hxr, hrl⟩ := hmap i x hi
                rw [hxr] at hj
                obtain ⟨csi, h3, h4, h5⟩ := key i r hr
                obtain ⟨h6, h7⟩ := cells_inv h3
                obtain ⟨v, hv, hrep⟩ := h4.get hj
                refine ⟨v, by rw [h7 j (by rw [← h6]; exact get_lt hv)]; exact hv, hrep, hrep.oneC (h5 c (List.mem_of_getElem? hj))⟩
              have hspot : rs ≠ [] → a.spot = none ∧ a.block < W.heap.size := fun hne => by
                obtain ⟨r, hr⟩ : ∃ r, rs[0]? = some r := by cases rs with | nil => exact absurd rfl hne | cons r _ => exact ⟨r, rfl⟩
                have hx : (rs.map (seeV P e))[0]? = some (seeV P e r) := by rw [List.getElem?_map, hr]; rfl
                obtain ⟨h1, h2⟩ := hsz 0 r hr
                have hj : 0 < (seeV P e r).cells.length := by rw [h2, h1]; exact hp
                obtain ⟨v, hv, _⟩ := hcell 0 _ 0 _ hx (List.getElem?_eq_getElem hj)
                have : (a.add (0 * P.cellsOf e)).add 0 = a := by simp [Addr.add]
                rw [this] at hv
                exact ⟨(cell_lt hv).2, (cell_lt hv).1⟩
              have hadd : ∀ (i j : Nat), rs ≠ [] → (a.add (i * P.cellsOf e)).add j = ⟨a.block, a.off + i * P.cellsOf e + j, none⟩ := fun i j hne => by
                obtain ⟨hs, _⟩ := hspot hne
                obtain ⟨b0, o0, s0⟩ := a
                dsimp only at hs
                subst hs
                rw [add_addr, add_addr]
              have hne : ∀ (i : Nat) x, (rs.map (seeV P e))[i]? = some x → rs ≠ [] := fun i x hi hnil => by rw [hnil] at hi; simp at hi
              refine one (.fsl (some a) a.block a.off len cap (rs.map (seeV P e)) false (P.cellsOf e) (fun i j => (W.cell? ⟨a.block, a.off + i * P.cellsOf e + j, none⟩).getD undef)
                (by rw [List.length_map, hl, hlen]) hlc (fun e => by cases e) (fun hne' => ?_) (fun i x hi => by obtain ⟨r, _, h1, h2⟩ := hmap i x hi; rw [h1, h2]) (fun i x j c hi hj => ?_) (fun i x j c hi hj => ?_) (fun i x j c hi hj => ?_)) rfl
              · have hrs' : rs ≠ [] := fun h => hne' (by rw [h]; rfl)
                obtain ⟨h1, h2⟩ := hspot hrs'
                obtain ⟨b0, o0, s0⟩ := a
                dsimp only at h1
                subst h1
                exact ⟨rfl, hown _, h2⟩
              · obtain ⟨v, hv, _⟩ := hcell i x j c hi hj
                rw [hadd i j (hne i x hi)] at hv
                rw [hv]; rfl
              · obtain ⟨v, hv, _, h3⟩ := hcell i x j c hi hj
                rw [hadd i j (hne i x hi)] at hv
                rw [hv]; exact h3
              · obtain ⟨v, hv, h3, _⟩ := hcell i x j c hi hj
                rw [hadd i j (hne i x hi)] at hv
                rw [hv]; exact h3
      | struct fs =>
        obtain ⟨xs, n', rfl, e1, hcl, hxl, hx⟩ := DataW.trod_struct hu h1
        cases e1
        obtain ⟨r, hr, h2⟩ := obind_some h2
        cases hn : Nat.beq (lenL r) (P.cellsOf t) with
        | false => rw [hn] at h2; cases h2
        | true =>
          rw [hn] at h2
          cases h2
          have hn := beq_true hn
          rw [lenL_eq] at hn
          have := seeF_rep (W := W) (cx := cx) (P := P) (see := seeA P m) (tr := fun t cs => DataW.trod enc P W base spare held n' t cs) (fun t cs d ps acs => ih n' t cs d ps acs) fs.toList cs 0 xs acs (by simpa using hxl) (fun i f hi => hx i f (by simpa using hi)) hr (by omega)
          simpa using this
      | array k e =>
        obtain ⟨xs, n', rfl, e1, hcl, hxl, hx⟩ := DataW.trod_array hu h1
        cases e1
        obtain ⟨rs, hrs, h2⟩ := obind_some h2
        cases hall : ((rs.all fun r => Nat.beq (lenL r) (P.cellsOf e)) && Nat.beq (Nat.mul k (P.cellsOf e)) (P.cellsOf t)) with
        | false => rw [hall] at h2; cases h2
        | true =>
          rw [hall] at h2
          cases h2
          rw [Bool.and_eq_true] at hall
          have hmul := beq_true hall.2
          obtain ⟨hl, hget⟩ := seeL_inv hrs
          rw [List.length_map, hxl] at hl
          have key : ∀ (i : Nat) r, rs[i]? = some r → RepL W cx ((cs.drop (i * P.cellsOf e)).take (P.cellsOf e)) r ∧ ∀ c ∈ r, okCell c = true := fun i r hi => by
            have hik : i < k := by rw [← hl]; exact get_lt hi
            have h3 := hx i hik
            have hix : i < xs.length := by rw [hxl]; exact hik
            have hxi : xs[i]? = some xs[i] := List.getElem?_eq_getElem hix
            obtain ⟨r', hr', hri⟩ := hget i xs[i].1 (by rw [List.getElem?_map, hxi]; rfl)
            rw [hi] at hri; cases hri
            exact ih n' e _ _ _ _ (h3.trans hxi) hr'
          refine ⟨catL_rep rs cs (by rw [hcl, hl]; exact hmul.symm) (fun r hr => ?_) fun i r hi => (key i r hi).1, fun c hc => ?_⟩
          · have := beq_true ((List.all_eq_true.1 hall.1) r hr)
            rwa [lenL_eq] at this
          · obtain ⟨r, hr, hc⟩ := catL_mem rs c hc
            obtain ⟨i, hi⟩ := List.getElem?_of_mem hr
            exact (key i r hi).2 c hc
      | _ => cases h2

/-- A package's variable that holds a datum. -/
theorem see_global {W : World} {n : String} {g : Nat} {t : TypeId} {cs : Array Value} {sp : Nat → Bool} {hd : Bool} {fuel m : Nat} {d : DataW H} {ps : List MemPlace} {acs : List AV} {base : Nat} (hg : P.globalNamed n = some g) (hv : W.var? P n = some cs)
    (h1 : DataW.trod enc P W base sp hd fuel t cs.toList = some (d, ps)) (h2 : seeA P m t d = some acs) (hne : acs ≠ []) : Rep W cx0 (.pointer (some ⟨g, 0, none⟩)) (.fptr (.agg acs) 0) := by
  obtain ⟨h3, h4⟩ := see_rep (cx := cx0) (fun _ h => h) m fuel t cs.toList d ps acs h1 h2
  have hcell := fun i => World.var?_cell hg hv i
  have hget : ∀ (j : Nat) c, acs[j]? = some c → ∃ v, W.cell? ⟨g, j, none⟩ = some v ∧ Rep W cx0 v c ∧ v.oneC = true := fun j c hj => by
    obtain ⟨v, hv1, hv2⟩ := h3.get hj
    exact ⟨v, by rw [hcell j]; simpa using hv1, hv2, hv2.oneC (h4 c (List.mem_of_getElem? hj))⟩
  have hlt : g < W.heap.size := by
    cases acs with
    | nil => exact absurd rfl hne
    | cons c _ => obtain ⟨v, hv1, _⟩ := hget 0 c rfl; exact (cell_lt hv1).1
  have := Rep.fptr (W := W) (cx := cx0) g 0 0 (.agg acs) (fun j => (W.cell? ⟨g, j, none⟩).getD undef) (fun h => h) hlt (fun j c hj => ?_) (fun j c hj => ?_) (fun j c hj => ?_)
  · simpa using this
  · obtain ⟨v, hv1, _⟩ := hget j c hj
    rw [Nat.zero_add, hv1]; rfl
  · obtain ⟨v, hv1, _, hv3⟩ := hget j c hj
    rw [hv1]; exact hv3
  · obtain ⟨v, hv1, hv2, _⟩ := hget j c hj
    rw [hv1]; exact hv2

/-- The arguments of a call. -/
def seeArgs (P : Program) (m : Nat) : List TypeId → List (DataW H) → Option (List AV)
  | [], ds => match ds with | [] => some [] | _ :: _ => none
  | t :: ts, ds => match ds with
    | [] => none
    | d :: ds => obind (seeA P m t d) fun a => bif aggT P t || Nat.beq (lenL a) 1 then obind (seeArgs P m ts ds) fun r => some (seeV P t a :: r) else none
end
end Go.AM
