/- The abstract machine, part five: what code comes to, without fuel; rules for unknown numbers. Conditions: none. -/
import Derived.Test.YtkbklpkbdccpdaaAmFour
set_option linter.unusedVariables false
set_option linter.unusedSimpArgs false
/-
  The abstract machine without fuel: what code comes to, as an equation for each kind of code.
-/
namespace Go.AM

section
variable {E : Env}

/-- More fuel yields the same, where anything was yielded. -/
def Sub (r r' : CRes) : Prop := r ≠ .bad → r' = r
def SubR (r r' : Res) : Prop := r ≠ .bad → r' = r
def SubF (call call' : CallF) : Prop := ∀ f l h, SubR (call f l h) (call' f l h)

theorem evOp_sub {call call' : CallF} (hc : SubF call call') (op : Op) (fr : Tr) (h : Heap) : SubR (evOp E call op fr h) (evOp E call' op fr h) := by
  cases op with
  | call c =>
    obtain ⟨callee, args, ts⟩ := c
    cases callee with
    | value f =>
      show SubR (callFn call (opv E f fr) (opvs E args.toList fr) h) (callFn call' (opv E f fr) (opvs E args.toList fr) h)
      cases opv E f fr with
      | fn g first caps =>
        cases g with
        | func n => exact hc _ _ _
        | _ => exact fun _ => rfl
      | _ => exact fun _ => rfl
    | _ => exact fun _ => rfl
  | _ => exact fun _ => rfl

theorem evOps_sub {call call' : CallF} (hc : SubF call call') : ∀ (l : List XOp) (fr : Tr) (h : Heap), Sub (evOps E call l fr h) (evOps E call' l fr h)
  | [], _, _ => fun _ => rfl
  | o :: l, fr, h => by
    show Sub (onOB (guardOk o.gd fr) .bad (evThen o.dst (evOps E call l) fr (evOp E call o.op fr h)) (evOps E call l (setDst o.dst skipped fr) h)) (onOB (guardOk o.gd fr) .bad (evThen o.dst (evOps E call' l) fr (evOp E call' o.op fr h)) (evOps E call' l (setDst o.dst skipped fr) h))
    cases guardOk o.gd fr with
    | none => exact fun _ => rfl
    | some b =>
      cases b with
      | false => exact evOps_sub hc l _ _
      | true =>
        show Sub (evThen o.dst (evOps E call l) fr (evOp E call o.op fr h)) (evThen o.dst (evOps E call' l) fr (evOp E call' o.op fr h))
        intro hb
        have hne : evOp E call o.op fr h ≠ .bad := fun e => by rw [e] at hb; exact hb rfl
        rw [evOp_sub hc o.op fr h hne]
        generalize evOp E call o.op fr h = r at hb hne ⊢
        cases r with
        | ok v h' => exact evOps_sub hc l _ _ hb
        | pan v h' => rfl
        | bad => exact absurd rfl hne

theorem evOpD_sub {call call' : CallF} (hc : SubF call call') (o : XOp) (fr : Tr) (h : Heap) (d : List Nat) : evOpD E call o fr h d ≠ .bad → evOpD E call' o fr h d = evOpD E call o fr h d := by
  intro hb
  unfold evOpD at hb ⊢
  have k1 : ∀ h, evOp E call o.op fr h ≠ .bad → evOp E call' o.op fr h = evOp E call o.op fr h := fun h => evOp_sub hc o.op fr h
  cases hq : o.quiet with
  | true =>
    rw [hq] at hb
    simp only [cond_true] at hb ⊢
    rw [k1 _ (fun e => by rw [e] at hb; exact hb rfl)]
  | false =>
    rw [hq] at hb
    simp only [cond_false] at hb ⊢
    cases hcf : o.careful with
    | false =>
      rw [hcf] at hb
      simp only [cond_false] at hb ⊢
      rw [k1 _ (fun e => by rw [e] at hb; exact hb rfl)]
    | true =>
      rw [hcf] at hb
      simp only [cond_true] at hb ⊢
      cases hr : readOk (readO E o.op fr) d with
      | false => rfl
      | true =>
        rw [hr] at hb
        simp only [cond_true] at hb ⊢
        rw [k1 _ (fun e => by rw [e] at hb; exact hb rfl)]
theorem evOpsD_sub {call call' : CallF} (hc : SubF call call') : ∀ (l : List XOp) (fr : Tr) (h : Heap) (d : List Nat), Sub (evOpsD E call l fr h d) (evOpsD E call' l fr h d)
  | [], _, _, _ => fun _ => rfl
  | o :: l, fr, h, d => by
    show Sub (onOB (guardOk o.gd fr) .bad (evThenD o.dst (evOpsD E call l) fr (evOpD E call o fr h d)) (evOpsD E call l (setDst o.dst skipped fr) h d)) (onOB (guardOk o.gd fr) .bad (evThenD o.dst (evOpsD E call' l) fr (evOpD E call' o fr h d)) (evOpsD E call' l (setDst o.dst skipped fr) h d))
    cases guardOk o.gd fr with
    | none => exact fun _ => rfl
    | some b =>
      cases b with
      | false => exact evOpsD_sub hc l _ _ _
      | true =>
        show Sub (evThenD o.dst (evOpsD E call l) fr (evOpD E call o fr h d)) (evThenD o.dst (evOpsD E call' l) fr (evOpD E call' o fr h d))
        intro hb
        have hne : evOpD E call o fr h d ≠ .bad := fun e => by rw [e] at hb; exact hb rfl
        rw [evOpD_sub hc o fr h d hne]
        generalize evOpD E call o fr h d = r at hb hne ⊢
        cases r with
        | ok v h' d' => exact evOpsD_sub hc l _ _ _ hb
        | pan v h' => rfl
        | bad => exact absurd rfl hne

theorem seqA_sub {b b' : Tr → Heap → CRes} {r r' : CRes} (hr : Sub r r') (hb : ∀ fr h, Sub (b fr h) (b' fr h)) : Sub (seqA b r) (seqA b' r') := by
  intro hne
  have hrne : r ≠ .bad := fun e => by rw [e] at hne; exact hne rfl
  rw [hr hrne]
  cases r with
  | ok e fr h => cases e with
    | normal => exact hb fr h hne
    | _ => rfl
  | pan v h => rfl
  | bad => exact absurd rfl hrne
theorem callA_sub {ih ih' : CodeF} (hi : ∀ c fr h, Sub (ih c fr h) (ih' c fr h)) : SubF (callA E ih) (callA E ih') := by
  intro f l h hb
  unfold callA at hb ⊢
  cases hf : E.fn f with
  | none => rfl
  | some fi =>
    rw [hf] at hb
    dsimp only at hb ⊢
    cases hn : Nat.ble (lenL l) fi.ntmps with
    | false => rfl
    | true =>
      rw [hn] at hb
      simp only [cond_true] at hb ⊢
      rw [hi _ _ _ (fun e => by rw [e] at hb; exact hb rfl)]
theorem step_sub {ih ih' : CodeF} (hi : ∀ c fr h, Sub (ih c fr h) (ih' c fr h)) (c : XC) (fr : Tr) (h : Heap) : Sub (step E ih c fr h) (step E ih' c fr h) := by
  have hcall := callA_sub (E := E) hi
  cases c with
  | reg d l =>
    cases d with
    | false => exact evOps_sub hcall l fr h
    | true => exact evOpsD_sub hcall l fr h []
  | seq a b => exact seqA_sub (hi a fr h) (hi b)
  | loop a => exact seqA_sub (hi a fr h) (hi (.loop a))
  | scope a => exact hi a fr h
  | block id a =>
    show Sub (blockA id (ih a fr h)) (blockA id (ih' a fr h))
    intro hne
    rw [hi _ _ _ (fun e => by rw [e] at hne; exact hne rfl)]
  | cond x a b =>
    show Sub (condA (ih a) (ih b) (opv E x fr) fr h) (condA (ih' a) (ih' b) (opv E x fr) fr h)
    cases opv E x fr with
    | bool t => cases t; exact hi b fr h; exact hi a fr h
    | _ => exact fun _ => rfl
  | _ => exact fun _ => rfl
theorem ev_sub : ∀ (n : Nat) (c : XC) (fr : Tr) (h : Heap), Sub (ev E n c fr h) (ev E (n + 1) c fr h)
  | 0, _, _, _ => fun h => absurd rfl h
  | n + 1, c, fr, h => step_sub (ev_sub n) c fr h
theorem ev_le {n m : Nat} (hm : n ≤ m) (c : XC) (fr : Tr) (h : Heap) : Sub (ev E n c fr h) (ev E m c fr h) := by
  obtain ⟨k, rfl⟩ : ∃ k, m = n + k := ⟨m - n, by omega⟩
  clear hm
  induction k with
  | zero => exact fun _ => rfl
  | succ k ih => exact fun hb => (ev_sub (n + k) c fr h (by rw [ih hb]; exact hb)).trans (ih hb)

/-! ### What code comes to -/
open Classical in
/-- What code comes to, with fuel enough. -/
noncomputable def evω (E : Env) : CodeF := fun c fr h => if hx : ∃ n, ev E n c fr h ≠ .bad then ev E hx.choose c fr h else .bad
noncomputable def callω (E : Env) : CallF := callA E (evω E)

/-- r is what a run with more and more fuel comes to. -/
structure Lim {R : Type} (bad : R) (g : Nat → R) (r : R) : Prop where
  ok : r ≠ bad → ∃ n, ∀ m, n ≤ m → g m = r
  no : r = bad → ∀ m, g m = bad

theorem ev_lim (c : XC) (fr : Tr) (h : Heap) : Lim .bad (fun n => ev E n c fr h) (evω E c fr h) := by
  unfold evω
  by_cases hx : ∃ n, ev E n c fr h ≠ .bad
  · rw [dif_pos hx]
    exact ⟨fun _ => ⟨hx.choose, fun m hm => ev_le hm c fr h hx.choose_spec⟩, fun e => absurd e hx.choose_spec⟩
  · rw [dif_neg hx]
    exact ⟨fun e => absurd rfl e, fun _ m => Classical.byContradiction fun hn => hx ⟨m, hn⟩⟩
theorem Lim.unique {R : Type} {bad : R} {g : Nat → R} {r r' : R} (h : Lim bad g r) (h' : Lim bad g r') : r = r' := by
  by_cases e : r = bad
  · by_cases e' : r' = bad
    · rw [e, e']
    · obtain ⟨n, hn⟩ := h'.ok e'
      exact absurd ((hn n (Nat.le_refl _)).symm.trans (h.no e n)) e'
  · by_cases e' : r' = bad
    · obtain ⟨n, hn⟩ := h.ok e
      exact absurd ((hn n (Nat.le_refl _)).symm.trans (h'.no e' n)) e
    · obtain ⟨n, hn⟩ := h.ok e
      obtain ⟨m, hm⟩ := h'.ok e'
      exact (hn (n + m) (by omega)).symm.trans (hm (n + m) (by omega))
theorem Lim.const {R : Type} {bad r : R} : Lim bad (fun _ => r) r := ⟨fun _ => ⟨0, fun _ _ => rfl⟩, fun e _ => e⟩
theorem Lim.shift {R : Type} {bad : R} {g : Nat → R} {r : R} (h : Lim bad (fun n => g (n + 1)) r) (h0 : g 0 = bad ∨ ∃ n, ∀ m, n ≤ m → g m = g 0) : Lim bad g r := by
  refine ⟨fun e => ?_, fun e m => ?_⟩
  · obtain ⟨n, hn⟩ := h.ok e
    exact ⟨n + 1, fun m hm => by have := hn (m - 1) (by omega); rwa [show m - 1 + 1 = m by omega] at this⟩
  · cases m with
    | succ m => exact h.no e m
    | zero =>
      rcases h0 with h0 | ⟨n, hn⟩
      · exact h0
      · rw [← hn (n + 1) (by omega)]; exact h.no e n

/-- One thing behind another one. -/
theorem Lim.bind {R S : Type} {bad : R} {bad' : S} {g : Nat → R} {r : R} {k : Nat → R → S} {s : R → S} (hg : Lim bad g r) (hk : ∀ n, k n bad = bad') (hs : s bad = bad') (hl : r ≠ bad → Lim bad' (fun n => k n r) (s r))
    (hearly : ∀ n, g n = bad ∨ g n = r) : Lim bad' (fun n => k n (g n)) (s r) := by
  by_cases e : r = bad
  · subst e
    have : ∀ n, k n (g n) = bad' := fun n => by rw [hg.no rfl n]; exact hk n
    refine ⟨fun e => absurd hs e, fun _ m => this m⟩
  · have hl := hl e
    refine ⟨fun e' => ?_, fun e' m => ?_⟩
    · obtain ⟨n, hn⟩ := hg.ok e
      obtain ⟨m, hm⟩ := hl.ok e'
      exact ⟨n + m, fun q hq => by show k q (g q) = _; rw [hn q (by omega)]; exact hm q (by omega)⟩
    · show k m (g m) = bad'
      rcases hearly m with h | h
      · rw [h]; exact hk m
      · rw [h]; exact hl.no e' m
theorem ev_early (c : XC) (fr : Tr) (h : Heap) (n : Nat) : ev E n c fr h = .bad ∨ ev E n c fr h = evω E c fr h := by
  by_cases e : ev E n c fr h = .bad
  · exact .inl e
  · right
    have hl := ev_lim (E := E) c fr h
    have hne : evω E c fr h ≠ .bad := fun e' => e (hl.no e' n)
    obtain ⟨m, hm⟩ := hl.ok hne
    have := ev_le (E := E) (show n ≤ n + m by omega) c fr h e
    rw [← hm (n + m) (by omega)]; exact this.symm

theorem callA_early {f : Nat} {l : List AV} {h : Heap} (n : Nat) : callA E (ev E n) f l h = .bad ∨ callA E (ev E n) f l h = callω E f l h := by
  by_cases e : callA E (ev E n) f l h = .bad
  · exact .inl e
  · right
    refine (callA_sub (E := E) (ih := ev E n) (ih' := evω E) (fun c fr h hb => ?_) f l h e).symm
    rcases ev_early (E := E) c fr h n with h' | h'
    · exact absurd h' hb
    · exact h'.symm
theorem callA_lim (f : Nat) (l : List AV) (h : Heap) : Lim .bad (fun n => callA E (ev E n) f l h) (callω E f l h) := by
  unfold callω callA
  cases hf : E.fn f with
  | none => exact .const
  | some fi =>
    dsimp only
    cases hn : Nat.ble (lenL l) fi.ntmps with
    | false => exact .const
    | true =>
      simp only [cond_true]
      exact (ev_lim fi.code (Tr.enter fi.ntmps l) h).bind (k := fun _ r => afterBody E fi.results r) (s := afterBody E fi.results) (fun _ => rfl) rfl (fun _ => .const) (ev_early _ _ _)

theorem evOp_lim (op : Op) (fr : Tr) (h : Heap) : Lim .bad (fun n => evOp E (callA E (ev E n)) op fr h) (evOp E (callω E) op fr h) ∧ ∀ n, evOp E (callA E (ev E n)) op fr h = .bad ∨ evOp E (callA E (ev E n)) op fr h = evOp E (callω E) op fr h := by
  have triv : ∀ {r : Res}, Lim .bad (fun _ : Nat => r) r ∧ ∀ _ : Nat, r = .bad ∨ r = r := ⟨.const, fun _ => .inr rfl⟩
  cases op with
  | call c =>
    obtain ⟨callee, args, ts⟩ := c
    cases callee with
    | value f =>
      show Lim .bad (fun n => callFn (callA E (ev E n)) (opv E f fr) (opvs E args.toList fr) h) (callFn (callω E) (opv E f fr) (opvs E args.toList fr) h) ∧ ∀ n, callFn (callA E (ev E n)) (opv E f fr) (opvs E args.toList fr) h = .bad ∨ callFn (callA E (ev E n)) (opv E f fr) (opvs E args.toList fr) h = callFn (callω E) (opv E f fr) (opvs E args.toList fr) h
      cases opv E f fr with
      | fn g first caps =>
        cases g with
        | func n => exact ⟨callA_lim _ _ _, fun m => callA_early m⟩
        | _ => exact triv
      | _ => exact triv
    | _ => exact triv
  | _ => exact triv

theorem evOps_lim : ∀ (l : List XOp) (fr : Tr) (h : Heap), Lim .bad (fun n => evOps E (callA E (ev E n)) l fr h) (evOps E (callω E) l fr h) ∧ ∀ n, evOps E (callA E (ev E n)) l fr h = .bad ∨ evOps E (callA E (ev E n)) l fr h = evOps E (callω E) l fr h
  | [], fr, h => ⟨.const, fun _ => .inr rfl⟩
  | o :: l, fr, h => by
    have e : ∀ call : CallF, evOps E call (o :: l) fr h = onOB (guardOk o.gd fr) .bad (evThen o.dst (evOps E call l) fr (evOp E call o.op fr h)) (evOps E call l (setDst o.dst skipped fr) h) := fun _ => rfl
    simp only [e]
    cases guardOk o.gd fr with
    | none => exact ⟨.const, fun _ => .inr rfl⟩
    | some b =>
      cases b with
      | false => exact evOps_lim l _ _
      | true =>
        show Lim .bad (fun n => evThen o.dst (evOps E (callA E (ev E n)) l) fr (evOp E (callA E (ev E n)) o.op fr h)) (evThen o.dst (evOps E (callω E) l) fr (evOp E (callω E) o.op fr h)) ∧ ∀ n, evThen o.dst (evOps E (callA E (ev E n)) l) fr (evOp E (callA E (ev E n)) o.op fr h) = .bad ∨ evThen o.dst (evOps E (callA E (ev E n)) l) fr (evOp E (callA E (ev E n)) o.op fr h) = evThen o.dst (evOps E (callω E) l) fr (evOp E (callω E) o.op fr h)
        obtain ⟨h1, h2⟩ := evOp_lim (E := E) o.op fr h
        refine ⟨h1.bind (k := fun n r => evThen o.dst (evOps E (callA E (ev E n)) l) fr r) (s := fun r => evThen o.dst (evOps E (callω E) l) fr r) (fun _ => rfl) rfl (fun hne => ?_) h2, fun n => ?_⟩
        · generalize evOp E (callω E) o.op fr h = r at hne
          cases r with
          | ok v h' => exact (evOps_lim l _ _).1
          | pan v h' => exact .const
          | bad => exact absurd rfl hne
        · rcases h2 n with h' | h'
          · rw [h']; exact .inl rfl
          · rw [h']
            generalize evOp E (callω E) o.op fr h = r
            cases r with
            | ok v h' => exact (evOps_lim l _ _).2 n
            | pan v h' => exact .inr rfl
            | bad => exact .inl rfl

theorem evOpsD_early (l : List XOp) (fr : Tr) (h : Heap) (d : List Nat) (n : Nat) : evOpsD E (callA E (ev E n)) l fr h d = .bad ∨ evOpsD E (callA E (ev E n)) l fr h d = evOpsD E (callω E) l fr h d := by
  by_cases e : evOpsD E (callA E (ev E n)) l fr h d = .bad
  · exact .inl e
  · right
    exact (evOpsD_sub (E := E) (fun f l h hb => (callA_early (E := E) (f := f) (l := l) (h := h) n).elim (fun h' => absurd h' hb) fun h' => h'.symm) l fr h d e).symm
theorem evOpD_lim (o : XOp) (fr : Tr) (h : Heap) (d : List Nat) : Lim .bad (fun n => evOpD E (callA E (ev E n)) o fr h d) (evOpD E (callω E) o fr h d) := by
  unfold evOpD
  cases o.quiet with
  | true =>
    simp only [cond_true]
    obtain ⟨h1, h2⟩ := evOp_lim (E := E) o.op fr { h with tch := [] }
    exact h1.bind (k := fun _ r => quietD o.solo h.next h.tch d r) (s := fun r => quietD o.solo h.next h.tch d r) (fun _ => rfl) rfl (fun _ => .const) h2
  | false =>
    simp only [cond_false]
    obtain ⟨h1, h2⟩ := evOp_lim (E := E) o.op fr h
    have key := h1.bind (k := fun _ r => plainD' o.solo d r) (s := fun r => plainD' o.solo d r) (fun _ => rfl) rfl (fun _ => .const) h2
    cases o.careful with
    | false => exact key
    | true =>
      simp only [cond_true]
      cases readOk (readO E o.op fr) d with
      | false => exact .const
      | true => exact key
theorem evOpD_early (o : XOp) (fr : Tr) (h : Heap) (d : List Nat) (n : Nat) : evOpD E (callA E (ev E n)) o fr h d = .bad ∨ evOpD E (callA E (ev E n)) o fr h d = evOpD E (callω E) o fr h d := by
  by_cases e : evOpD E (callA E (ev E n)) o fr h d = .bad
  · exact .inl e
  · right
    exact (evOpD_sub (E := E) (fun f l h hb => (callA_early (E := E) (f := f) (l := l) (h := h) n).elim (fun h' => absurd h' hb) fun h' => h'.symm) o fr h d e).symm
theorem evOpsD_lim : ∀ (l : List XOp) (fr : Tr) (h : Heap) (d : List Nat), Lim .bad (fun n => evOpsD E (callA E (ev E n)) l fr h d) (evOpsD E (callω E) l fr h d)
  | [], fr, h, d => .const
  | o :: l, fr, h, d => by
    have e : ∀ call : CallF, evOpsD E call (o :: l) fr h d = onOB (guardOk o.gd fr) .bad (evThenD o.dst (evOpsD E call l) fr (evOpD E call o fr h d)) (evOpsD E call l (setDst o.dst skipped fr) h d) := fun _ => rfl
    simp only [e]
    cases guardOk o.gd fr with
    | none => exact .const
    | some b =>
      cases b with
      | false => exact evOpsD_lim l _ _ _
      | true =>
        refine (evOpD_lim (E := E) o fr h d).bind (k := fun n r => evThenD o.dst (evOpsD E (callA E (ev E n)) l) fr r) (s := fun r => evThenD o.dst (evOpsD E (callω E) l) fr r) (fun _ => rfl) rfl (fun hne => ?_) (evOpD_early o fr h d)
        generalize evOpD E (callω E) o fr h d = r at hne
        cases r with
        | ok v h' d' => exact evOpsD_lim l _ _ _
        | pan v h' => exact .const
        | bad => exact absurd rfl hne

/-- The equation. -/
theorem evω_step (c : XC) (fr : Tr) (h : Heap) : evω E c fr h = step E (evω E) c fr h := by
  refine (ev_lim (E := E) c fr h).unique (Lim.shift ?_ (.inl rfl))
  show Lim .bad (fun n => step E (ev E n) c fr h) _
  cases c with
  | reg d l =>
    cases d with
    | false => exact (evOps_lim l fr h).1
    | true => exact evOpsD_lim l fr h []
  | seq a b =>
    refine (ev_lim (E := E) a fr h).bind (k := fun n r => seqA (ev E n b) r) (s := fun r => seqA (evω E b) r) (fun _ => rfl) rfl (fun hne => ?_) (ev_early a fr h)
    generalize evω E a fr h = r at hne
    cases r with
    | ok e fr' h' => cases e with
      | normal => exact ev_lim b fr' h'
      | _ => exact .const
    | pan v h' => exact .const
    | bad => exact absurd rfl hne
  | loop a =>
    refine (ev_lim (E := E) a fr h).bind (k := fun n r => seqA (ev E n (.loop a)) r) (s := fun r => seqA (evω E (.loop a)) r) (fun _ => rfl) rfl (fun hne => ?_) (ev_early a fr h)
    generalize evω E a fr h = r at hne
    cases r with
    | ok e fr' h' => cases e with
      | normal => exact ev_lim (.loop a) fr' h'
      | _ => exact .const
    | pan v h' => exact .const
    | bad => exact absurd rfl hne
  | scope a => exact ev_lim a fr h
  | block id a => exact (ev_lim (E := E) a fr h).bind (k := fun _ r => blockA id r) (s := fun r => blockA id r) (fun _ => rfl) rfl (fun _ => .const) (ev_early a fr h)
  | cond x a b =>
    show Lim .bad (fun n => condA (ev E n a) (ev E n b) (opv E x fr) fr h) (condA (evω E a) (evω E b) (opv E x fr) fr h)
    cases opv E x fr with
    | bool t => cases t; exact ev_lim b fr h; exact ev_lim a fr h
    | _ => exact .const
  | _ => exact .const

/-- A call that comes to something: some fuel is enough. -/
theorem run_of_callω {f : Nat} {l : List AV} {h : Heap} {r : Res} (hc : callω E f l h = r) (hb : r ≠ .bad) : ∃ n, run E n f l h = r := by
  obtain ⟨n, hn⟩ := (callA_lim (E := E) f l h).ok (by rw [hc]; exact hb)
  exact ⟨n, (hn n (Nat.le_refl _)).trans hc⟩
end
end Go.AM

/-
  The abstract machine: rules by which code is gone over with unknown numbers.
-/
namespace Go.AM

theorem Tr.has_mk' : ∀ (f n i : Nat), n < 2 ^ f → (Tr.mk f n).has i = decide (i < n)
  | 0, n, i, h => by
    have : n = 0 := by simpa using h
    subst this; simp [Tr.mk_zero]; rfl
  | f + 1, 0, i, _ => by simp [Tr.mk_succ_zero]; rfl
  | f + 1, k + 1, 0, _ => by rw [Tr.mk_succ]; simp [Tr.has_zero]
  | f + 1, k + 1, i + 1, h => by
    rw [Tr.mk_succ, Tr.has_succ]
    have e1 : Nat.shiftRight i 1 = i / 2 := Nat.shiftRight_eq_div_pow i 1
    have e2 : Nat.land i 1 = i % 2 := Nat.and_one_is_mod i
    have e3 : Nat.div (k + 1) 2 = (k + 1) / 2 := rfl
    have e4 : Nat.div k 2 = k / 2 := rfl
    rw [e1, e2, e3, e4]
    rw [Nat.pow_succ] at h
    rcases Nat.mod_two_eq_zero_or_one i with hi | hi <;> rw [hi]
    · show (Tr.mk f ((k + 1) / 2)).has (i / 2) = _
      rw [Tr.has_mk' f _ _ (by omega), decide_eq_decide]; omega
    · show (Tr.mk f (k / 2)).has (i / 2) = _
      rw [Tr.has_mk' f _ _ (by omega), decide_eq_decide]; omega

/-- A frame: its slots, and what was put into them. -/
noncomputable def fset (n : Nat) (l : List (Nat × AV)) : Tr := List.rec (motive := fun _ => Tr) (Tr.mk 20 n) (fun p _ t => t.set p.1 p.2) l
def look (l : List (Nat × AV)) (i : Nat) : AV := match l with | [] => .und | p :: r => if p.1 = i then p.2 else look r i
theorem fset_has (n i : Nat) (h : n < 1048576) : ∀ l, (fset n l).has i = decide (i < n)
  | [] => Tr.has_mk' 20 n i h
  | p :: l => by show ((fset n l).set p.1 p.2).has i = _; rw [Tr.has_set]; exact fset_has n i h l
theorem fset_get {n i : Nat} (h : n < 1048576) (hi : i < n) : ∀ l, (fset n l).get i = look l i
  | [] => Tr.get_mk 20 n i
  | p :: l => by
    show ((fset n l).set p.1 p.2).get i = if p.1 = i then p.2 else look l i
    by_cases e : p.1 = i
    · subst e; rw [Tr.get_set_eq, fset_has n _ h, if_pos rfl]; simp [hi]
    · rw [Tr.get_set_ne _ _ _ _ e, if_neg e]; exact fset_get h hi l
theorem fset_set (n i : Nat) (v : AV) (l : List (Nat × AV)) : (fset n l).set i v = fset n ((i, v) :: l) := rfl
theorem setDst_fset (n i : Nat) (v : AV) (l : List (Nat × AV)) : setDst (some i) v (fset n l) = fset n ((i, v) :: l) := rfl
theorem setDst_none (v : AV) (fr : Tr) : setDst none v fr = fr := rfl
theorem look_cons (j : Nat) (v : AV) (l : List (Nat × AV)) (i : Nat) : look ((j, v) :: l) i = if j = i then v else look l i := rfl
theorem look_nil (i : Nat) : look [] i = .und := rfl
theorem enter_eq (n : Nat) (l : List AV) : Tr.enter n l = Tr.setAll l 0 (fset n []) := rfl
theorem setAll_nil (i : Nat) (t : Tr) : Tr.setAll [] i t = t := rfl
theorem setAll_cons (v : AV) (l : List AV) (i n : Nat) (m : List (Nat × AV)) : Tr.setAll (v :: l) i (fset n m) = Tr.setAll l (i + 1) (fset n ((i, v) :: m)) := rfl

section
variable {E : Env} {fr : Tr} {h : Heap}
theorem w_skip : evω E .skip fr h = .ok .normal fr h := evω_step _ _ _
theorem w_ret : evω E .ret fr h = .ok .ret fr h := evω_step _ _ _
theorem w_exit (i : Nat) : evω E (.exit i) fr h = .ok (.exit i) fr h := evω_step _ _ _
theorem w_seq (a b : XC) : evω E (.seq a b) fr h = seqA (evω E b) (evω E a fr h) := evω_step _ _ _
theorem w_reg (l : List XOp) : evω E (.reg false l) fr h = evOps E (callω E) l fr h := evω_step _ _ _
theorem w_regD (l : List XOp) : evω E (.reg true l) fr h = evOpsD E (callω E) l fr h [] := evω_step _ _ _
theorem w_cond (x : Operand) (a b : XC) : evω E (.cond x a b) fr h = condA (evω E a) (evω E b) (opv E x fr) fr h := evω_step _ _ _
theorem w_block (i : Nat) (a : XC) : evω E (.block i a) fr h = blockA i (evω E a fr h) := evω_step _ _ _
theorem w_loop (a : XC) : evω E (.loop a) fr h = seqA (evω E (.loop a)) (evω E a fr h) := evω_step _ _ _
theorem w_scope (a : XC) : evω E (.scope a) fr h = evω E a fr h := evω_step _ _ _
theorem seqA_normal (b : Tr → Heap → CRes) (fr : Tr) (h : Heap) : seqA b (.ok .normal fr h) = b fr h := rfl
theorem seqA_ret (b : Tr → Heap → CRes) (fr : Tr) (h : Heap) : seqA b (.ok .ret fr h) = .ok .ret fr h := rfl
theorem seqA_exit (b : Tr → Heap → CRes) (i : Nat) (fr : Tr) (h : Heap) : seqA b (.ok (.exit i) fr h) = .ok (.exit i) fr h := rfl
theorem blockA_normal (i : Nat) (fr : Tr) (h : Heap) : blockA i (.ok .normal fr h) = .ok .normal fr h := rfl
theorem blockA_ret (i : Nat) (fr : Tr) (h : Heap) : blockA i (.ok .ret fr h) = .ok .ret fr h := rfl
theorem blockA_exit (i j : Nat) (fr : Tr) (h : Heap) : blockA i (.ok (.exit j) fr h) = if j = i then .ok .normal fr h else .ok (.exit j) fr h := by
  show (bif Nat.beq j i then CRes.ok .normal fr h else .ok (.exit j) fr h) = _
  by_cases e : j = i
  · subst e; simp
  · rw [Heap.beq_false e, if_neg e]; rfl
theorem condA_true (t f : Tr → Heap → CRes) : condA t f (.bool true) fr h = t fr h := rfl
theorem condA_false (t f : Tr → Heap → CRes) : condA t f (.bool false) fr h = f fr h := rfl

variable {call : CallF}
theorem o_nil : evOps E call [] fr h = .ok .normal fr h := rfl
theorem o_plain (d : Option Tmp) (op : Op) (q s c : Bool) (l : List XOp) : evOps E call (⟨d, op, none, q, s, c⟩ :: l) fr h = evThen d (evOps E call l) fr (evOp E call op fr h) := rfl
theorem o_guard (d : Option Tmp) (op : Op) (t : Tmp) (w q s c : Bool) (l : List XOp) :
    evOps E call (⟨d, op, some (some t, w), q, s, c⟩ :: l) fr h = onOB (isWant w (fr.get t)) .bad (evThen d (evOps E call l) fr (evOp E call op fr h)) (evOps E call l (setDst d skipped fr) h) := rfl
theorem o_skip {d : Option Tmp} {op : Op} {t : Tmp} {w q s c : Bool} {l : List XOp} (hg : isWant w (fr.get t) = some false) : evOps E call (⟨d, op, some (some t, w), q, s, c⟩ :: l) fr h = evOps E call l (setDst d skipped fr) h := by
  rw [o_guard, hg]; rfl
theorem o_done {d : Option Tmp} {op : Op} {t : Tmp} {w q s c : Bool} {l : List XOp} (hg : isWant w (fr.get t) = some true) : evOps E call (⟨d, op, some (some t, w), q, s, c⟩ :: l) fr h = evThen d (evOps E call l) fr (evOp E call op fr h) := by
  rw [o_guard, hg]; rfl
theorem evThen_ok (d : Option Tmp) (k : Tr → Heap → CRes) (v : AV) (h : Heap) : evThen d k fr (.ok v h) = k (setDst d v fr) h := rfl
theorem onOB_true {α : Type} (d t f : α) : onOB (some true) d t f = t := rfl
theorem onOB_false {α : Type} (d t f : α) : onOB (some false) d t f = f := rfl
theorem isWant_true (b : Bool) : isWant true (.bool b) = some b := rfl
theorem isWant_false (b : Bool) : isWant false (.bool b) = some (!b) := rfl
theorem isWant_skipped (w : Bool) : isWant w skipped = some false := rfl

theorem p_move (x : Operand) : evOp E call (.move x) fr h = .ok (opv E x fr) h := rfl
theorem p_assign (x : Operand) : evOp E call (.assign x) fr h = .ok (opv E x fr) h := rfl
def pickA (c a b : AV) (h : Heap) : Res := match c with | .bool t => (match t with | true => .ok a h | false => .ok b h) | _ => .bad
theorem p_pick (c a b : Operand) : evOp E call (.pick c a b) fr h = pickA (opv E c fr) (opv E a fr) (opv E b fr) h := by
  show (opv E c fr).onBool .bad (fun t => match t with | true => Res.ok (opv E a fr) h | false => .ok (opv E b fr) h) = _
  cases opv E c fr with
  | bool b => cases b <;> rfl
  | _ => rfl
theorem pickA_true (a b : AV) : pickA (.bool true) a b h = .ok a h := rfl
theorem pickA_false (a b : AV) : pickA (.bool false) a b h = .ok b h := rfl
theorem p_binOp (op : BinOp) (t u : Nat) (x y : Operand) : evOp E call (.binOp op t x y u) fr h = lift (binOpA op (flatOf E t) (opv E x fr) (opv E y fr)) h := rfl
theorem p_unOp (op : UnOp) (t : Nat) (x : Operand) : evOp E call (.unOp op t x) fr h = lift (unOpA op (opv E x fr)) h := rfl
def exA (x : AV) (i : Nat) (h : Heap) : Res := match x with | .tup vs => lift vs[i]? h | _ => .bad
theorem p_extract (t : Operand) (i : Nat) : evOp E call (.extract t i) fr h = exA (opv E t fr) i h := by
  show (opv E t fr).onTup .bad (fun vs => lift (nthL vs i) h) = _
  cases opv E t fr with
  | tup vs => show lift (nthL vs i) h = lift vs[i]? h; rw [nthL_eq]
  | _ => rfl
theorem exA_tup (vs : List AV) (i : Nat) : exA (.tup vs) i h = lift vs[i]? h := rfl
theorem p_call (f : Nat) (args : Array Operand) (ts : Array TypeId) : evOp E call (.call ⟨.value (.func f), args, ts⟩) fr h = call f (opvs E args.toList fr) h := by
  show call f (appL [] (appL (opvs E args.toList fr) [])) h = _
  rw [appL_eq, appL_eq]; simp
theorem lift_some' (v : AV) : lift (some v) h = .ok v h := rfl
theorem opvs_nil : opvs E [] fr = [] := rfl
theorem opvs_cons (x : Operand) (l : List Operand) : opvs E (x :: l) fr = opv E x fr :: opvs E l fr := rfl
theorem v_tmp {n i : Nat} (l : List (Nat × AV)) (h : n < 1048576) (hi : i < n) : opv E (.tmp i) (fset n l) = look l i := fset_get h hi l
theorem v_int (k : IntKind) (n : Int) : opv E (.const (.int k n)) fr = .int k n := rfl
theorem v_bool (b : Bool) : opv E (.const (.bool b)) fr = .bool b := rfl
theorem v_str (s : List UInt8) : opv E (.const (.string ⟨⟨s⟩⟩)) fr = .str s := rfl

theorem mkInt_eq (k : IntKind) (n : Int) : mkInt k n = some (.int k n) := forceI_eq _ _
theorem mkWrap_eq (k : IntKind) (n : Int) : mkWrap k n = some (.int k (k.wrap n)) := by unfold mkWrap; rw [mkInt_eq, wrapK_eq]
theorem mkBool_eq (b : Bool) : mkBool b = some (.bool b) := by cases b <;> rfl
theorem kindEq_refl (k : IntKind) : kindEq k k = true := (kindEq_iff k k).2 rfl
theorem int2_eq (k : IntKind) (a b : Int) (f : IntKind → Int → Int → Option AV) : int2 (.int k a) (.int k b) f = f k a b := by
  show (bif kindEq k k then f k a b else none) = _
  rw [kindEq_refl]; rfl
theorem b_add (fl : EqK) (k : IntKind) (a b : Int) : binOpA .add fl (.int k a) (.int k b) = some (.int k (k.wrap (a + b))) := by
  show int2 (.int k a) (.int k b) (fun k a b => mkWrap k (a + b)) = _; rw [int2_eq, mkWrap_eq]
theorem b_sub (fl : EqK) (k : IntKind) (a b : Int) : binOpA .sub fl (.int k a) (.int k b) = some (.int k (k.wrap (a - b))) := by
  show int2 _ _ _ = _; rw [int2_eq, mkWrap_eq]
theorem b_mul (fl : EqK) (k : IntKind) (a b : Int) : binOpA .mul fl (.int k a) (.int k b) = some (.int k (k.wrap (a * b))) := by
  show int2 _ _ _ = _; rw [int2_eq, mkWrap_eq]
theorem b_quo (fl : EqK) (k : IntKind) (a b : Int) (hb : b ≠ 0) : binOpA .quo fl (.int k a) (.int k b) = some (.int k (k.wrap (a.tdiv b))) := by
  show int2 (.int k a) (.int k b) (fun k a b => bif intEq b 0 then none else mkWrap k (a.tdiv b)) = _; rw [int2_eq, intEq_eq, mkWrap_eq]
  have e : (b == 0) = false := by simp [hb]
  rw [e]; rfl
theorem b_rem (fl : EqK) (k : IntKind) (a b : Int) (hb : b ≠ 0) : binOpA .rem fl (.int k a) (.int k b) = some (.int k (a.tmod b)) := by
  show int2 (.int k a) (.int k b) (fun k a b => bif intEq b 0 then none else mkInt k (a.tmod b)) = _; rw [int2_eq, intEq_eq, mkInt_eq]
  have e : (b == 0) = false := by simp [hb]
  rw [e]; rfl
theorem b_eql (fl : EqK) (k : IntKind) (a b : Int) : binOpA .eql fl (.int k a) (.int k b) = some (.bool (decide (a = b))) := by
  show obind (bif kindEq k k then some (intEq a b) else none) mkBool = _
  rw [kindEq_refl, intEq_eq]
  show mkBool (a == b) = _
  rw [mkBool_eq]; congr 2
theorem b_neq (fl : EqK) (k : IntKind) (a b : Int) : binOpA .neq fl (.int k a) (.int k b) = some (.bool (!decide (a = b))) := by
  show obind (bif kindEq k k then some (intEq a b) else none) (fun b => mkBool (!b)) = _
  rw [kindEq_refl, intEq_eq]
  show mkBool (!(a == b)) = _
  rw [mkBool_eq]; congr 2
theorem b_eqlS (fl : EqK) (a b : List UInt8) : binOpA .eql fl (.str a) (.str b) = some (.bool (decide (a = b))) := by
  show obind (some (strEq a b)) mkBool = _
  rw [strEq_eq]
  show mkBool (a == b) = _
  rw [mkBool_eq]; congr 2; by_cases e : a = b <;> simp [e]
theorem b_neqS (fl : EqK) (a b : List UInt8) : binOpA .neq fl (.str a) (.str b) = some (.bool (!decide (a = b))) := by
  show obind (some (strEq a b)) (fun b => mkBool (!b)) = _
  rw [strEq_eq]
  show mkBool (!(a == b)) = _
  rw [mkBool_eq]; congr 2; by_cases e : a = b <;> simp [e]
theorem b_eqlB (a b : Bool) : binOpA .eql .bool (.bool a) (.bool b) = some (.bool (decide (a = b))) := by
  show obind (some (a == b)) mkBool = _
  show mkBool (a == b) = _
  rw [mkBool_eq]; cases a <;> cases b <;> rfl
theorem b_neqB (a b : Bool) : binOpA .neq .bool (.bool a) (.bool b) = some (.bool (!decide (a = b))) := by
  show mkBool (!(a == b)) = _
  rw [mkBool_eq]; cases a <;> cases b <;> rfl
theorem b_lss (fl : EqK) (k : IntKind) (a b : Int) : binOpA .lss fl (.int k a) (.int k b) = some (.bool (decide (a < b))) := by
  show int2 _ _ _ = _; rw [int2_eq, mkBool_eq, intLe_eq]; congr 2; by_cases h : a < b <;> simp [h] <;> omega
theorem b_leq (fl : EqK) (k : IntKind) (a b : Int) : binOpA .leq fl (.int k a) (.int k b) = some (.bool (decide (a ≤ b))) := by
  show int2 _ _ _ = _; rw [int2_eq, mkBool_eq, intLe_eq]
theorem b_gtr (fl : EqK) (k : IntKind) (a b : Int) : binOpA .gtr fl (.int k a) (.int k b) = some (.bool (decide (b < a))) := by
  show int2 _ _ _ = _; rw [int2_eq, mkBool_eq, intLe_eq]; congr 2; by_cases h : b < a <;> simp [h] <;> omega
theorem b_geq (fl : EqK) (k : IntKind) (a b : Int) : binOpA .geq fl (.int k a) (.int k b) = some (.bool (decide (b ≤ a))) := by
  show int2 _ _ _ = _; rw [int2_eq, mkBool_eq, intLe_eq]
theorem u_neg (k : IntKind) (a : Int) : unOpA .neg (.int k a) = some (.int k (k.wrap (0 - a))) := mkWrap_eq _ _
theorem u_not (a : Bool) : unOpA .not (.bool a) = some (.bool (!a)) := mkBool_eq _
theorem c_int (k j : IntKind) (n : Int) : convertA (.int k) (.int j n) = some (.int k (k.wrap n)) := mkWrap_eq _ _
theorem p_convert (s d : Nat) (x : Operand) {ts td : TI} (hs : E.ti s = some ts) (hd : E.ti d = some td) : evOp E call (.convert s d x) fr h = lift (convertA td.desc (opv E x fr)) h := by
  show onTI E s .bad (fun _ => onTI E d .bad fun td => lift (convertA td.desc (opv E x fr)) h) = _
  unfold onTI; rw [hs]; dsimp only; rw [hd]

theorem call_eq {f : Nat} {args : List AV} {c : XC} {n : Nat} {rs : List ResultVar} (hf : E.fn f = some ⟨c, n, rs⟩) (hn : args.length ≤ n) : callω E f args h = afterBody E rs (evω E c (Tr.enter n args) h) := by
  unfold callω callA
  rw [hf]; dsimp only
  rw [lenL_eq, Nat.ble_eq_true_of_le hn]; rfl
theorem after_ret (rs : List ResultVar) : afterBody E rs (.ok .ret fr h) = resOf (resultsA E rs fr h) h := rfl
theorem after_normal (rs : List ResultVar) : afterBody E rs (.ok .normal fr h) = resOf (resultsA E rs fr h) h := rfl
theorem res_nil : resultsA E [] fr h = some [] := rfl
theorem res_tmp (t : Tmp) (l : List ResultVar) : resultsA E (.tmp t :: l) fr h = obind (resultsA E l fr h) fun vs => some (fr.get t :: vs) := rfl
theorem obind_some' {α β : Type} (a : α) (f : α → Option β) : obind (some a) f = f a := rfl
theorem resOf_some (vs : List AV) : resOf (some vs) h = .ok (oneOrTup vs) h := rfl
theorem one_one (v : AV) : oneOrTup [v] = v := rfl
theorem one_two (v w : AV) : oneOrTup [v, w] = .tup [v, w] := rfl
theorem one_nil : oneOrTup [] = .tup [] := rfl
theorem get_fset {n i : Nat} (l : List (Nat × AV)) (h : n < 1048576) (hi : i < n) : (fset n l).get i = look l i := fset_get h hi l
end
end Go.AM
