/- The abstract machine, part six: a program's tables, calls from outside, and what a row asks. Conditions: none. -/
import Derived.Test.YtcipkemddanppaaGreatAmFive
import Derived.Below
import Derived.Lib.IndexMore
import Derived.KernelRfl
import Derived.Shelf.LaysM
import Derived.Shelf.Strings.Search3
import Derived.Maps.RangeWalk
import Derived.Maps.Ext
import Derived.Laws.IdiomRangeMap
import Derived.Deep.LoopGhost
import Derived.WalkKit
import Derived.Shelf.SlIterI.Sorted
import Derived.ChangeSame
import Derived.ProofKit
set_option linter.unusedVariables false
set_option linter.unusedSimpArgs false
/-
  The abstract machine: what is told of a program's types and functions, reckoned from the program.
-/
namespace Go.AM

def allOne (l : List Value) : Bool := match l with | [] => true | v :: r => v.oneC && allOne r
theorem allOne_iff : ∀ (l : List Value), allOne l = true → OneL l
  | [], _ => fun v hv => by cases hv
  | v :: r, h => by
    unfold allOne at h
    rw [Bool.and_eq_true] at h
    intro u hu
    cases hu with
    | head => exact h.1
    | tail _ hu => exact allOne_iff r h.2 u hu

def isUnd (v : AV) : Bool := match v with | .und => true | _ => false

/-- One field of a struct that is held cell by cell. -/
def flatField (P : Program) (zs : List AV) (i : Nat) (f : Field) : Bool :=
  !(f.name == "_") && Nat.beq f.offset i && (match zs[i]? with
    | none => false
    | some z => match z with
      | .int k _ => (match P.underlying f.type with | some (.int k2) => kindEq k k2 | _ => false)
      | .bool _ => (match P.underlying f.type with | some .bool => true | _ => false)
      | .str _ => (match P.underlying f.type with | some .string => true | _ => false)
      | _ => false)
def flatFields (P : Program) (zs : List AV) : Nat → List Field → Bool
  | _, [] => true
  | i, f :: r => flatField P zs i f && flatFields P zs (i + 1) r
def flatOk (P : Program) (t : Nat) (zs : List AV) (fields : Array Field) : Bool :=
  flatFields P zs 0 fields.toList && Nat.beq zs.length fields.toList.length && !(P.eqGuardType P.depth t) && !(P.stoodInHeld t)
def fieldsHave (P : Program) (l : List Field) : Bool := l.all fun f => (P.info? f.type).isSome

def tdOf (P : Program) (t : Nat) (zs : List AV) (d : TypeDesc) : Option TD :=
  match d with
  | .int k => some (.int k)
  | .bool => some .bool
  | .string => some .string
  | .pointer e => some (.ptr e)
  | .slice e => some (.slice e)
  | .array n e => some (.array n e)
  | .map k e => some (.map k e)
  | .struct fields => bif fieldsHave P fields.toList then some (.struct (fields.toList.map fun f => (f.type, f.offset)) (flatOk P t zs fields)) else none
  | .interface ms => bif ms.isEmpty then some .iface else some .other
  | .func _ _ _ => some .func
  | _ => some .other
/-- What is told of a type: reckoned from the program. -/
noncomputable def tiOf (P : Program) (t : Nat) : Option TI :=
  match P.info? t with
  | none => none
  | some i => match i.zero with
    | none => none
    | some z => bif allOne z.cells.toList && !(isUnd (ofValue z)) && Nat.beq (ofValue z).cells.length i.size && (Nat.beq i.size 0 || Nat.blt 0 i.bytes) then
        (match P.underlying t with
        | none => none
        | some d => match tdOf P t (ofValue z).cells d with
          | none => none
          | some td => some ⟨td, i.size, i.bytes, ofValue z⟩) else none

theorem flatFields_get {P : Program} {zs : List AV} : ∀ (l : List Field) (k : Nat), flatFields P zs k l = true → ∀ (i : Nat) f, l[i]? = some f → flatField P zs (k + i) f = true
  | [], k, h, i, f, hf => by simp at hf
  | g :: r, k, h, i, f, hf => by
    unfold flatFields at h
    rw [Bool.and_eq_true] at h
    cases i with
    | zero => simp at hf; subst hf; exact h.1
    | succ i =>
      have := flatFields_get r (k + 1) h.2 i f (by simpa using hf)
      rw [show k + (i + 1) = k + 1 + i by omega]; exact this

theorem tdOf_ok {P : Program} {t : Nat} {d : TypeDesc} (hd : P.underlying t = some d) {x : TI} (h : tdOf P t x.zero.cells d = some x.desc) : descOk P t x := by
  unfold descOk
  cases d with
  | struct fields =>
    have h : (bif fieldsHave P fields.toList then some (TD.struct (fields.toList.map fun f => (f.type, f.offset)) (flatOk P t x.zero.cells fields)) else none) = some x.desc := h
    cases hh : fieldsHave P fields.toList with
    | false => rw [hh] at h; cases h
    | true =>
      rw [hh] at h
      have h := Option.some.inj h
      rw [← h]
      refine ⟨fields, hd, rfl, fun f hf => ?_, fun hfl => ?_⟩
      · have := (List.all_eq_true.1 hh) f hf
        exact Option.isSome_iff_exists.1 this
      · unfold flatOk at hfl
        simp only [Bool.and_eq_true, Bool.not_eq_true'] at hfl
        obtain ⟨⟨⟨h1, h2⟩, h3⟩, h4⟩ := hfl
        refine ⟨h3, h4, by have := beq_true h2; simpa using this, fun i f hf => ?_⟩
        have := flatFields_get _ _ h1 i f (by simpa using hf)
        rw [Nat.zero_add] at this
        unfold flatField at this
        simp only [Bool.and_eq_true, Bool.not_eq_true'] at this
        obtain ⟨⟨h5, h6⟩, h7⟩ := this
        refine ⟨fun e => by rw [e] at h5; simp at h5, beq_true h6, ?_⟩
        cases hz : x.zero.cells[i]? with
        | none => rw [hz] at h7; cases h7
        | some z =>
          refine ⟨z, rfl, ?_⟩
          rw [hz] at h7
          cases z with
          | int k n =>
            dsimp only at h7
            cases hu : P.underlying f.type with
            | none => rw [hu] at h7; cases h7
            | some d2 =>
              rw [hu] at h7
              cases d2 with
              | int k2 =>
                have e := (kindEq_iff _ _).1 h7
                subst e
                exact .inl ⟨k, n, rfl, rfl⟩
              | _ => cases h7
          | bool b =>
            dsimp only at h7
            cases hu : P.underlying f.type with
            | none => rw [hu] at h7; cases h7
            | some d2 =>
              rw [hu] at h7
              cases d2 with
              | bool => exact .inr (.inl ⟨b, rfl, rfl⟩)
              | _ => cases h7
          | str s =>
            dsimp only at h7
            cases hu : P.underlying f.type with
            | none => rw [hu] at h7; cases h7
            | some d2 =>
              rw [hu] at h7
              cases d2 with
              | string => exact .inr (.inr ⟨s, rfl, rfl⟩)
              | _ => cases h7
          | _ => cases h7
  | interface ms =>
    have h : (bif ms.isEmpty then some TD.iface else some TD.other) = some x.desc := h
    cases hm : ms.isEmpty with
    | true =>
      rw [hm] at h
      have h := Option.some.inj h
      rw [← h]
      have : ms = #[] := by simpa using hm
      subst this; exact hd
    | false =>
      rw [hm] at h
      have h := Option.some.inj h
      rw [← h]; exact ⟨_, hd, by simp, by simp, by simp⟩
  | _ => (have h := Option.some.inj h; rw [← h]; first | exact hd | exact ⟨_, hd, by simp, by simp, by simp⟩)

theorem tiOf_ok {P : Program} {t : Nat} {x : TI} (h : tiOf P t = some x) : TyOk P t x := by
  unfold tiOf at h
  cases hi : P.info? t with
  | none => rw [hi] at h; cases h
  | some i =>
    rw [hi] at h
    dsimp only at h
    cases hz : i.zero with
    | none => rw [hz] at h; cases h
    | some z =>
      rw [hz] at h
      dsimp only at h
      cases hg : (allOne z.cells.toList && !(isUnd (ofValue z)) && Nat.beq (ofValue z).cells.length i.size && (Nat.beq i.size 0 || Nat.blt 0 i.bytes)) with
      | false => rw [hg] at h; cases h
      | true =>
        rw [hg] at h
        simp only [cond_true] at h
        cases hu : P.underlying t with
        | none => rw [hu] at h; cases h
        | some d =>
          rw [hu] at h
          dsimp only at h
          cases htd : tdOf P t (ofValue z).cells d with
          | none => rw [htd] at h; cases h
          | some td =>
            rw [htd] at h
            cases h
            simp only [Bool.and_eq_true, Bool.not_eq_true', Bool.or_eq_true] at hg
            obtain ⟨⟨⟨h1, h2⟩, h3⟩, h4⟩ := hg
            have h3 := beq_true h3
            refine ⟨⟨i, z, hi, rfl, rfl, hz, fun W cx => ofValue_rep z, allOne_iff _ h1, fun e => ?_⟩, h3, fun hp => ?_, tdOf_ok hu htd⟩
            · have e : ofValue z = .und := e
              rw [e] at h2; cases h2
            · rcases h4 with h4 | h4
              · have := beq_true h4
                have hp : 0 < i.size := hp
                omega
              · exact blt_true h4

/-- What is told of a function: reckoned from the program. -/
noncomputable def fiOf (f : Func) : Option FI :=
  match f.body with
  | none => none
  | some c => bif f.name == "runtime.NumGoroutine" then none else some ⟨xc c, f.ntmps, f.results.toList, fmOf f.results.toList c⟩
noncomputable def fnOf (P : Program) (f : Nat) : Option FI := match P.funcs[f]? with | none => none | some fn => fiOf fn

theorem fnOf_ok {P : Program} {f : Nat} {x : FI} (h : fnOf P f = some x) : ∃ fn c, P.funcs[f]? = some fn ∧ fn.body = some c ∧ (fn.name == "runtime.NumGoroutine") = false ∧ x.code = xc c ∧ x.ntmps = fn.ntmps ∧ x.results = fn.results.toList ∧ x.mode = fmOf fn.results.toList c := by
  unfold fnOf at h
  cases hf : P.funcs[f]? with
  | none => rw [hf] at h; cases h
  | some fn =>
    rw [hf] at h
    have h : fiOf fn = some x := h
    unfold fiOf at h
    cases hb : fn.body with
    | none => rw [hb] at h; cases h
    | some c =>
      rw [hb] at h
      dsimp only at h
      cases hn : fn.name == "runtime.NumGoroutine" with
      | true => rw [hn] at h; cases h
      | false => rw [hn] at h; cases h; exact ⟨fn, c, rfl, hb, hn, rfl, rfl, rfl, rfl⟩

/-- .. of some functions. -/
noncomputable def fnSel (mask : Nat) (P : Program) (f : Nat) : Option FI := bif bit mask f then fnOf P f else none
theorem fnSel_ok {mask : Nat} {P : Program} {f : Nat} {x : FI} (h : fnSel mask P f = some x) : fnOf P f = some x := by
  unfold fnSel at h
  cases hb : bit mask f with
  | true => rw [hb] at h; exact h
  | false => rw [hb] at h; cases h

/-- A table that is told, and the one that is reckoned: alike below a number, and nothing above it. -/
theorem table_eq {α : Type} {g h : Nat → Option α} {n : Nat} (h1 : (List.range n).map g = (List.range n).map h) (h2 : ∀ t, n ≤ t → g t = none) {t : Nat} {x : α} (hx : g t = some x) : h t = some x := by
  rcases Nat.lt_or_ge t n with ht | ht
  · have e := congrArg (fun l => l[t]?) h1
    simp only [List.getElem?_map, List.getElem?_range ht, Option.map_some] at e
    rw [← Option.some.inj e]; exact hx
  · rw [h2 t ht] at hx; cases hx

theorem Heap.blt_false {t n : Nat} (h : n ≤ t) : Nat.blt t n = false := by
  cases e : Nat.blt t n
  · rfl
  · have := blt_true e; omega

/-- What is told of strings.Contains. -/
def ToldOk (E : Env) (P : Program) : Prop := ∀ f, E.told f = true → ∃ g fn c, E.mx = some g ∧ P.funcs[f]? = some fn ∧ fn.body = some c ∧ (fn.name == "runtime.NumGoroutine") = false ∧
    ∀ (s sub : ByteArray) (m : Int) (w : World), s.size < 4294967281 → w.cell? ⟨g, 0, none⟩ = some (.int .i64 m) → Calls P f #[.string s, .string sub] w fun e w' => e = .returned (.bool (contS sub.data.toList s.data.toList)) ∧ w' = w
theorem ToldOk.none {E : Env} {P : Program} (h : E.told = fun _ => false) : ToldOk E P := fun f hf => by rw [h] at hf; cases hf
/-- An environment that is the program's. -/
theorem envOk {E : Env} {P : Program} {n m mask : Nat} (h1 : (List.range n).map E.ti = (List.range n).map (tiOf P)) (h2 : ∀ t, n ≤ t → E.ti t = none) (h3 : (List.range m).map E.fn = (List.range m).map (fnSel mask P)) (h4 : ∀ t, m ≤ t → E.fn t = none)
    (ht : ToldOk E P) (hd : ∀ f ks, E.dlf f = some ks → DlfAt P f ks) (hs : ∀ f k, E.srt f k = true → SrtAt P f k) (h5 : P.follows .mixedOrders = true) : EnvOk E P :=
  ⟨fun t x hx => tiOf_ok (table_eq h1 h2 hx), fun f x hx => fnOf_ok (fnSel_ok (table_eq h3 h4 hx)), ht, hd, hs, h5⟩

theorem prefS_eq : ∀ (p s : List UInt8), prefS p s = p.isPrefixOf s
  | [], s => by simp [prefS]
  | x :: p, [] => rfl
  | x :: p, y :: s => by
    show (bif byteEq x y then prefS p s else false) = _
    rw [byteEq_eq, prefS_eq p s]
    cases h : x == y <;> simp [List.isPrefixOf, h]
theorem contS_eq (p : List UInt8) : ∀ (s : List UInt8), contS p s = Lib.contains s p
  | [] => by
    show prefS p [] = _
    rw [prefS_eq]
    unfold Lib.contains Lib.index
    cases p <;> simp
  | y :: r => by
    show (bif prefS p (y :: r) then true else contS p r) = _
    rw [prefS_eq, contS_eq p r]
    unfold Lib.contains
    rw [Lib.index]
    cases h : p.isPrefixOf (y :: r) with
    | true => simp
    | false =>
      have := Lib.index_ge r p
      simp only [cond_false, Bool.false_eq_true, if_false]
      by_cases h1 : Lib.index r p = -1
      · simp [h1]
      · have : (Lib.index r p == -1) = false := by simpa using h1
        rw [this]
        simp only [Bool.false_eq_true, if_false]
        rw [decide_eq_decide]
        omega

/-! ### A call from outside -/
def cx0 : Cx := ⟨fun _ => (0, 0, 0), 0, fun _ => False, fun _ => False⟩

theorem glNone {E : Env} {W : World} (h1 : E.gl = fun _ => none) (h2 : E.mx = none) : GlOk E W cx0 := ⟨(fun g v h => by rw [h1] at h; cases h), (fun g h => by rw [h2] at h; cases h)⟩
theorem glMx {E : Env} {W : World} {g : Nat} (h1 : E.gl = fun _ => none) (h2 : E.mx = some g) (h : ∃ m, W.cell? ⟨g, 0, none⟩ = some (.int .i64 m)) : GlOk E W cx0 :=
  ⟨(fun g v h => by rw [h1] at h; cases h), fun g' h' => by
    rw [h2] at h'
    cases h'
    refine ⟨h, fun e => e, ?_⟩
    obtain ⟨m, hm⟩ := h
    unfold World.cell? at hm
    cases hb : W.heap[g]? with
    | none => rw [show (⟨g, 0, none⟩ : Addr).block = g from rfl, hb] at hm; simp at hm
    | some o => exact lt_of_heap hb⟩
theorem sat0 {E : Env} {W : World} (hg : GlOk E W cx0) : Sat E W cx0 Heap.empty where
  nx := rfl
  objs id o ho := by cases ho
  inj id id' o o' ho := by cases ho
  gl := hg
  held b hb := hb.elim
  free id o ho := by cases ho

theorem Ext.below {W W' : World} {cx' : Cx} (h : Ext W cx0 W' cx') : RowKit.Below W.heap.size W W' :=
  ⟨h.out.1, h.out.2.1, h.out.2.2, h.sz, fun b hb => h.keep b hb (fun h => h)⟩

/-- A call that is told of, from outside: what was there is as it was. -/
theorem told {P : Program} {E : Env} {W : World} (hE : EnvOk E P) (hg : GlOk E W cx0) {n f : Nat} {args : Array Value} {l : List AV} (hl : RepL W cx0 args.toList l) {v : AV} {h' : Heap} (hr : run E n f l Heap.empty = .ok v h') :
    Calls P f args W fun e w' => ∃ vv cx', e = .returned vv ∧ Ext W cx0 w' cx' ∧ Rep w' cx' vv v := by
  have hb : run E n f l Heap.empty ≠ .bad := by rw [hr]; intro e; cases e
  refine (run_sound hE hl (sat0 hg) hb).mono fun e w' hp => ?_
  rw [hr] at hp
  cases e with
  | returned vv => obtain ⟨cx', h1, h2, h3⟩ := hp; exact ⟨vv, cx', rfl, h1, h3⟩
  | panicked c => exact hp.elim
  | outgrown => exact hp.elim

/-- The same, for a law: it says true. -/
def isTrue : Res → Bool
  | .ok v _ => (match v with | .bool b => b | _ => false)
  | _ => false
theorem told_true {P : Program} {E : Env} {W : World} (hE : EnvOk E P) (hg : GlOk E W cx0) {n f : Nat} {args : Array Value} {l : List AV} (hl : RepL W cx0 args.toList l) (hr : isTrue (run E n f l Heap.empty) = true) :
    Calls P f args W fun e w' => e = .returned (.bool true) ∧ RowKit.Below W.heap.size W w' := by
  cases hq : run E n f l Heap.empty with
  | bad => rw [hq] at hr; cases hr
  | pan v h => rw [hq] at hr; cases hr
  | ok v h =>
    rw [hq] at hr
    cases v with
    | bool b =>
      have hr : b = true := hr
      subst hr
      refine (told hE hg hl hq).mono fun e w' hp => ?_
      obtain ⟨vv, cx', rfl, h1, h2⟩ := hp
      rw [h2.bool_inv]
      exact ⟨rfl, h1.below⟩
    | _ => cases hr
end Go.AM

/-
  The abstract machine: strings.Contains is told of, off the library's contract.
-/
namespace Go.AM
open Go.Proofs Go.Shelf
theorem told_of {E : Env} {P : Program} {ρ : Ren} (L : LaysM.n144 P ρ) (h1 : ∀ f, E.told f = true → f = ρ.f 144) (h2 : E.mx = some (ρ.g 1)) : ToldOk E P := fun f hf => by
  have := h1 f hf
  subst this
  refine ⟨ρ.g 1, Body.n144 ρ, _, h2, L.f144, rfl, by kernel_rfl, fun s sub m w hs hm => ?_⟩
  rw [contS_eq]
  exact Go.Proofs.Any.strings_Contains { L with } s sub m w hs hm
end Go.AM

/-
  The abstract machine: maps.DeleteFunc: its loop, step by step, over whatever is kept.
-/
namespace Go.AM
open Go.Maps (Keyed)
/-- The loop under way: r: its iterator's block; K: the entries that are still there. -/
structure DlS (W : World) (b clock : Nat) (ents : Array MapEntry) (J : World → Prop) (K : MapEntry → Prop) (seen : Array Nat) (n : Nat) (wr : World) : Prop where
  ex : ∃ (es : Array MapEntry) (c0 : Nat), wr.heap[b]? = some (.map es clock) ∧ wr.heap[W.heap.size]? = some (.mapIter (some b) clock seen c0) ∧ clock ≤ c0 ∧ MapKept.Stamped es clock ∧ es.toList.Sublist ents.toList ∧
    (∀ x ∈ ents.toList, x ∈ es.toList ↔ K x) ∧ (leftOf es seen).size = n
  keep : J wr
  lt : W.heap.size < wr.heap.size
/-- What may be kept. -/
def DlJ (W : World) (b : Nat) (J : World → Prop) : Prop :=
  ∀ W1 W2, J W1 → W1.heap.size ≤ W2.heap.size → (∀ i, i ≠ b → i ≠ W.heap.size → i < W1.heap.size → W2.heap[i]? = W1.heap[i]?) → (∀ i, i < W1.heap.size → szOf W2 i = szOf W1 i) → W2.os = W1.os → W2.tape = W1.tape → W2.output = W1.output → J W2
section
variable {P : Program} {W : World} {b clock : Nat} {ents : Array MapEntry} {J : World → Prop} {K K' : MapEntry → Prop} {seen : Array Nat} {n : Nat} {wr : World} {pd : MapEntry → Bool}
theorem DlS.congr (h : DlS W b clock ents J K seen n wr) (hk : ∀ x ∈ ents.toList, K x ↔ K' x) : DlS W b clock ents J K' seen n wr := by
  obtain ⟨⟨es, c0, h1, h2, h3, h4, h5, h6, h7⟩, h8, h9⟩ := h
  exact ⟨⟨es, c0, h1, h2, h3, h4, h5, fun x hx => (h6 x hx).trans (hk x hx), h7⟩, h8, h9⟩
theorem DlS.left (h : DlS W b clock ents J K seen n wr) : wr.rangeLeft b W.heap.size = n := by
  obtain ⟨⟨es, c0, h1, h2, h3, h4, h5, h6, h7⟩, h8, h9⟩ := h
  simp only [World.rangeLeft, h1, h2]; exact h7
/-- Steps that leave the map and the iterator. -/
theorem DlS.step (h : DlS W b clock ents J K seen n wr) {w' : World} (hJ : J w') (hs : wr.heap.size ≤ w'.heap.size) (hb : w'.heap[b]? = wr.heap[b]?) (hr : w'.heap[W.heap.size]? = wr.heap[W.heap.size]?) : DlS W b clock ents J K seen n w' := by
  obtain ⟨⟨es, c0, h1, h2, h3, h4, h5, h6, h7⟩, h8, h9⟩ := h
  exact ⟨⟨es, c0, by rw [hb]; exact h1, by rw [hr]; exact h2, h3, h4, h5, h6, h7⟩, hJ, Nat.lt_of_lt_of_le h9 hs⟩
theorem szOf_none {w : World} {i : Nat} {o : Obj} (h : w.heap[i]? = some o) (ho : ∀ c t f, o ≠ .cells c t f) : szOf w i = 0 := by
  unfold szOf
  rw [h]
  cases o with
  | cells c t f => exact absurd rfl (ho c t f)
  | _ => rfl
theorem szOf_eq {w w' : World} {i : Nat} (h : w'.heap[i]? = w.heap[i]?) : szOf w' i = szOf w i := by unfold szOf; rw [h]
theorem DlS.start (hJ0 : J W) (hJ : DlJ W b J) (hb : W.heap[b]? = some (.map ents clock)) (hst : MapKept.Stamped ents clock) : DlS W b clock ents J (fun x => pd x = false ∨ x.born ∉ (#[] : Array Nat)) #[] (leftOf ents #[]).size (W.alloc (.mapIter (some b) clock #[] clock)) := by
  have hlt : b < W.heap.size := (Array.getElem?_eq_some_iff.1 hb).1
  refine ⟨⟨ents, clock, (heap_alloc_old W _ hlt).trans hb, heap_alloc_new W _, Nat.le_refl _, hst, List.Sublist.refl _, fun x hx => ⟨fun _ => .inr (by simp), fun _ => hx⟩, rfl⟩, ?_, by simp⟩
  exact hJ W _ hJ0 (by simp) (fun i _ _ hi => heap_alloc_old W _ hi) (fun i hi => szOf_eq (heap_alloc_old W _ hi)) rfl rfl rfl
theorem DlS.next (hJ : DlJ W b J) (hst : MapKept.Stamped ents clock) (hbr : b < W.heap.size) (h : DlS W b clock ents J (fun x => pd x = false ∨ x.born ∉ seen) seen n wr) (ty : TypeId) :
    (n = 0 ∧ (Instr.next (.pointer (some ⟨W.heap.size, 0, none⟩)) false ty).run P wr = .ok (.tuple #[.bool false]) wr ∧ ∃ ents', wr.heap[b]? = some (.map ents' clock) ∧ ents'.toList = ents.toList.filter fun e => !pd e) ∨
    ∃ e w' n', e ∈ ents.toList ∧ (pd e = false ∨ e.born ∉ seen) ∧ e.born ∉ seen ∧ (Instr.next (.pointer (some ⟨W.heap.size, 0, none⟩)) false ty).run P wr = .ok (.tuple #[.bool true, e.key, e.val]) w' ∧
      DlS W b clock ents J (fun x => pd x = false ∨ x.born ∉ seen) (seen.push e.born) n' w' ∧ n' < n ∧ (Instr.entry (.pointer (some ⟨W.heap.size, 0, none⟩))).run P w' = .ok (.tuple #[e.key, e.val]) w' := by
  obtain ⟨⟨es, c0, h1, h2, h3, h4, h5, h6, h7⟩, h8, h9⟩ := h
  have hne : W.heap.size ≠ b := Nat.ne_of_gt hbr
  rcases run_next_at (P := P) wr ty W.heap.size b clock c0 seen es clock h2 h1 h4.1 h3 with ⟨g1, g2⟩ | ⟨e, g1, w1, g2, g3⟩
  · refine .inl ⟨by rw [← h7]; exact g1, g2, es, h1, ?_⟩
    have hall := all_seen es seen g1
    have key : ∀ {l l0 : List MapEntry}, l.Sublist l0 → l0.Nodup → (∀ x ∈ l0, x ∈ l ↔ pd x = false) → l = l0.filter fun e => !pd e := by
      intro l l0 hs
      induction hs with
      | slnil => intro _ _; rfl
      | @cons l l0 a hs ih =>
        intro hn hk
        have hn := List.nodup_cons.1 hn
        have ha : pd a = true := by
          cases hp : pd a with
          | true => rfl
          | false => exact absurd (hs.subset ((hk a (by simp)).2 hp)) hn.1
        rw [List.filter_cons, ha]
        simp only [Bool.not_true, Bool.false_eq_true, if_false]
        exact ih hn.2 fun x hx => hk x (by simp [hx])
      | @cons_cons l l0 a hs ih =>
        intro hn hk
        have hn := List.nodup_cons.1 hn
        have ha : pd a = false := (hk a (by simp)).1 (by simp)
        rw [List.filter_cons, ha]
        simp only [Bool.not_false, if_true]
        congr 1
        refine ih hn.2 fun x hx => ?_
        have hxa : x ≠ a := fun e => hn.1 (by rw [← e]; exact hx)
        have := hk x (by simp [hx])
        simpa [hxa] using this
    have hnd : ents.toList.Nodup := (List.pairwise_map.1 hst.2.1).imp fun h e => h (by rw [e])
    refine key h5 hnd fun x hx => (h6 x hx).trans ⟨fun hk => hk.elim (fun h => h) fun hns => ?_, fun h => .inl h⟩
    have hxe : x ∈ es.toList := (h6 x hx).2 (.inr hns)
    have := hall x hxe
    exact absurd (by simpa using this) hns
  · obtain ⟨m1, m2⟩ := mem_left g1
    have hw1 : w1.heap = wr.heap ∧ w1.os = wr.os ∧ w1.tape = wr.tape ∧ w1.output = wr.output := by rcases g2 with rfl | rfl <;> exact ⟨rfl, rfl, rfl, rfl⟩
    obtain ⟨q1, q2, q3, q4⟩ := hw1
    have hr1 : W.heap.size < w1.heap.size := by rw [q1]; exact h9
    have hsame : ∀ i, i ≠ W.heap.size → (ChangeMaps.setBlock w1 W.heap.size (.mapIter (some b) clock (seen.push e.born) clock)).heap[i]? = wr.heap[i]? := fun i hi => by rw [← q1]; exact setBlock_ne w1 _ (fun e => hi e.symm)
    have hb' := (hsame b (fun e => hne e.symm)).trans h1
    have hi' : (ChangeMaps.setBlock w1 W.heap.size (.mapIter (some b) clock (seen.push e.born) clock)).heap[W.heap.size]? = some (.mapIter (some b) clock (seen.push e.born) clock) := setBlock_eq w1 (.mapIter (some b) clock (seen.push e.born) clock) hr1
    have hns : e.born ∉ seen := by simpa using m2
    have hsize : (ChangeMaps.setBlock w1 W.heap.size (.mapIter (some b) clock (seen.push e.born) clock)).heap.size = wr.heap.size := by simp [ChangeMaps.setBlock, q1]
    refine .inr ⟨e, _, (leftOf es (seen.push e.born)).size, h5.subset m1, .inr hns, hns, g3, ⟨⟨es, clock, hb', hi', Nat.le_refl _, h4, h5, h6, rfl⟩, ?_, by rw [hsize]; exact h9⟩, by rw [← h7]; exact left_shrinks es seen e g1, ?_⟩
    · refine hJ wr _ h8 (by rw [hsize]; exact Nat.le_refl _) (fun i _ hi _ => hsame i hi) (fun i hi => ?_) q2 q3 q4
      by_cases e1 : i = W.heap.size
      · subst e1
        rw [szOf_none hi' (by intro c t f e; cases e), szOf_none h2 (by intro c t f e; cases e)]
      · exact szOf_eq (hsame i e1)
    · exact run_entry_at _ W.heap.size b clock seen es clock e hi' hb' m1 h4.2.1
theorem DlS.stays (hst : MapKept.Stamped ents clock) {e : MapEntry} (he : e ∈ ents.toList) (hp : pd e = false) (h : DlS W b clock ents J (fun x => pd x = false ∨ x.born ∉ seen) (seen.push e.born) n wr) : DlS W b clock ents J (fun x => pd x = false ∨ x.born ∉ seen.push e.born) (seen.push e.born) n wr := by
  refine h.congr fun x hx => ?_
  by_cases hb : x.born = e.born
  · have : x = e := born_inj hst.2.1 hx he hb
    subst this
    simp [hp]
  · simp [hb]
theorem DlS.drop (hJ : DlJ W b J) (hbr : b < W.heap.size) (hst : MapKept.Stamped ents clock) (hsz : ents.size ≤ maxLen) {t k e0 ty : TypeId} (K0 : Keyed P k) (ht : P.underlying t = some (.map k e0)) (hkeys : ∀ x ∈ ents.toList, ∃ kl, keyOf P k x.key = some kl) {e : MapEntry} (he : e ∈ ents.toList) (hp : pd e = true)
    (h : DlS W b clock ents J (fun x => pd x = false ∨ x.born ∉ seen) (seen.push e.born) n wr) :
    ∃ w' n', (Builtin.delete_ #[t, k] ty #[.map (some b), e.key]).run P wr = .ok (.tuple #[]) w' ∧ DlS W b clock ents J (fun x => pd x = false ∨ x.born ∉ seen.push e.born) (seen.push e.born) n' w' ∧ n' ≤ n := by
  obtain ⟨⟨es, c0, h1, h2, h3, h4, h5, h6, h7⟩, h8, h9⟩ := h
  have F : WideElems.Fit (H := Unit) P k (fun _ => some (.nil, [])) es clock := ⟨by
    have := h5.length_le
    have : es.size ≤ ents.size := by simpa using this
    omega, h4, fun x hx => by
    obtain ⟨kl, hkl⟩ := hkeys x (h5.subset hx)
    exact ⟨(kl, .nil), by simp [WideElems.rd, hkl]⟩⟩
  obtain ⟨kl, hkl⟩ := hkeys e he
  obtain ⟨es', hrun, F', hle, _, hsub, hwho⟩ := fit_drop_who (ty := ty) K0 ht h1 F hkl
  have hne : W.heap.size ≠ b := Nat.ne_of_gt hbr
  have hblt : b < wr.heap.size := (Array.getElem?_eq_some_iff.1 h1).1
  have hsame : ∀ i, i ≠ b → (ChangeMaps.setBlock wr b (.map es' clock)).heap[i]? = wr.heap[i]? := fun i hi => setBlock_ne wr _ (fun e => hi e.symm)
  have hbb : (ChangeMaps.setBlock wr b (.map es' clock)).heap[b]? = some (.map es' clock) := setBlock_eq wr _ hblt
  have hsize : (ChangeMaps.setBlock wr b (.map es' clock)).heap.size = wr.heap.size := by simp [ChangeMaps.setBlock]
  refine ⟨_, (leftOf es' (seen.push e.born)).size, hrun, ⟨⟨es', c0, hbb, (hsame _ hne).trans h2, h3, F'.stamped, hsub.trans h5, fun x hx => ?_, rfl⟩, ?_, by rw [hsize]; exact h9⟩, ?_⟩
  · rw [hwho x, h6 x hx]
    by_cases hb : x.born = e.born
    · have : x = e := born_inj hst.2.1 hx he hb
      subst this
      simp [hp]
    · have hkey : x.key ≠ e.key := fun hk => hb (by rw [entry_eq_of_key ((MapKept.stamped_iff ents clock).1 hst).2.2 hx he hk])
      simp [hb, hkey]
  · refine hJ wr _ h8 (by rw [hsize]; exact Nat.le_refl _) (fun i hi _ _ => hsame i hi) (fun i hi => ?_) rfl rfl rfl
    by_cases e1 : i = b
    · subst e1
      rw [szOf_none hbb (by intro c t f e; cases e), szOf_none h1 (by intro c t f e; cases e)]
    · exact szOf_eq (hsame i e1)
  · rw [← h7]
    unfold leftOf
    have := (hsub.filter fun x => !(seen.push e.born).contains x.born).length_le
    rw [← Array.toList_filter, ← Array.toList_filter] at this
    exact this

/-! ### At the operations -/
variable {ops : Array Oper} {rest : List Oper} {o : Oper} {a : Act} {Q : Exit → Act → World → Prop}
theorem wpList_range_dl (hg : o.guard = none) (m : Operand) (t k e0 : TypeId) (hop : o.op = Op.range t m) (ht : P.underlying t = some (.map k e0)) (hm : a.eval m = .map (some b)) (hJ0 : J W) (hJ : DlJ W b J) (hb : W.heap[b]? = some (.map ents clock)) (hst : MapKept.Stamped ents clock) (pd : MapEntry → Bool)
    (hK : ∀ w', DlS W b clock ents J (fun x => pd x = false ∨ x.born ∉ (#[] : Array Nat)) #[] (leftOf ents #[]).size w' → wpList P ops Q rest (a.put o.dst (.pointer (some ⟨W.heap.size, 0, none⟩))) w') : wpList P ops Q (o :: rest) a W := by
  refine wpList_plain hg fun K' hK' => ?_
  have hrun := run_range_map (P := P) W t k e0 b ents clock ht hb
  unfold Oper.wp
  simp [execOp, hop, hm, hrun, Result.andThen]
  exact hK' _ _ (hK _ (DlS.start hJ0 hJ hb hst))
theorem wpList_next_dl (hg : o.guard = none) (it : Operand) (hop : o.op = Op.next it false) (hit : a.eval it = .pointer (some ⟨W.heap.size, 0, none⟩)) (hJ : DlJ W b J) (hst : MapKept.Stamped ents clock) (hbr : b < W.heap.size) (h : DlS W b clock ents J (fun x => pd x = false ∨ x.born ∉ seen) seen n wr)
    (hDone : (∃ ents', wr.heap[b]? = some (.map ents' clock) ∧ ents'.toList = ents.toList.filter fun e => !pd e) → wpList P ops Q rest (a.put o.dst (.tuple #[.bool false])) wr)
    (hMore : ∀ e w' n', e ∈ ents.toList → DlS W b clock ents J (fun x => pd x = false ∨ x.born ∉ seen) (seen.push e.born) n' w' → n' < n → (Instr.entry (.pointer (some ⟨W.heap.size, 0, none⟩))).run P w' = .ok (.tuple #[e.key, e.val]) w' →
      wpList P ops Q rest (a.put o.dst (.tuple #[.bool true, e.key, e.val])) w') : wpList P ops Q (o :: rest) a wr := by
  refine wpList_plain hg fun K' hK' => ?_
  unfold Oper.wp
  rcases h.next (P := P) hJ hst hbr o.type with ⟨_, hrun, hd⟩ | ⟨e, w', n', he, _, _, hrun, hs, hlt, hen⟩
  · simp [execOp, hop, hit, hrun, Result.andThen]
    exact hK' _ _ (hDone hd)
  · simp [execOp, hop, hit, hrun, Result.andThen]
    exact hK' _ _ (hMore e w' n' he hs hlt hen)
theorem wpList_delete_dl (hg : o.guard = none) (m x : Operand) (t k e0 : TypeId) (hop : o.op = Op.call { callee := Callee.builtin Builtin.delete, args := #[m, x], argTypes := #[t, k] }) (K0 : Keyed P k) (ht : P.underlying t = some (.map k e0)) (hm : a.eval m = .map (some b)) {e : MapEntry} (hx : a.eval x = e.key)
    (hJ : DlJ W b J) (hbr : b < W.heap.size) (hst : MapKept.Stamped ents clock) (hsz : ents.size ≤ maxLen) (hkeys : ∀ x ∈ ents.toList, ∃ kl, keyOf P k x.key = some kl) (he : e ∈ ents.toList) (hp : pd e = true)
    (h : DlS W b clock ents J (fun x => pd x = false ∨ x.born ∉ seen) (seen.push e.born) n wr)
    (hK : ∀ w' n', DlS W b clock ents J (fun x => pd x = false ∨ x.born ∉ seen.push e.born) (seen.push e.born) n' w' → n' ≤ n → wpList P ops Q rest (a.put o.dst (.tuple #[])) w') : wpList P ops Q (o :: rest) a wr := by
  refine wpList_plain hg fun K' hK' => ?_
  obtain ⟨w', n', hrun, h1, h2⟩ := h.drop (P := P) (ty := o.type) hJ hbr hst hsz K0 ht hkeys he hp
  unfold Oper.wp
  simp [execOp, hop, resolve, invoke, builtin, hm, hx, hrun, Result.andThen]
  exact hK' _ _ (hK w' n' h1 h2)
end
end Go.AM

/-
  The abstract machine: slices.Sorted at a map's keys: off the library's contracts.
-/
namespace Go.AM
open Go.Maps Go.RowKit Go.WideShapes Go.Sort
/-- What a map of ints' keys reads as, its elements unseen. -/
theorem owns_ints {P : Program} {t : TypeId} (ht : P.underlying t = some (.int .i64)) {W : World} {b : Nat} {ents : Array MapEntry} {clock : Nat} {ks : List Int} (hb : W.heap[b]? = some (.map ents clock)) (hst : MapKept.Stamped ents clock) (hsz : ents.size ≤ 1000000)
    (hk : ents.toList.map (·.key) = ks.map (Value.int .i64)) (hw : ∀ n ∈ ks, (Lit.int .i64 n).wf = true) :
    ∃ D : DataW Unit, W.ownsMap P t (fun _ => some (.nil, [])) b 1000000 D ∧ (intKeys D).Perm ks ∧ Maps.size D ≤ 1000000 := by
  have hkey : ∀ (l : List MapEntry) (ks : List Int), l.map (·.key) = ks.map (Value.int .i64) → (∀ n ∈ ks, (Lit.int .i64 n).wf = true) → (∀ x ∈ l, ∃ n, WideElems.rd (H := Unit) P t (fun _ => some (.nil, [])) x = some (.int .i64 n, .nil)) ∧ (l.map (WideElems.rg (H := Unit) P t fun _ => some (.nil, []))) = ks.map fun n => (Lit.int .i64 n, DataW.nil) := by
    intro l
    induction l with
    | nil => intro ks h _; cases ks with
      | nil => exact ⟨by simp, rfl⟩
      | cons _ _ => cases h
    | cons e l ih =>
      intro ks h hw
      cases ks with
      | nil => cases h
      | cons n ks =>
        simp only [List.map_cons, List.cons.injEq] at h
        obtain ⟨h1, h2⟩ := ih ks h.2 fun m hm => hw m (by simp [hm])
        have he : WideElems.rd (H := Unit) P t (fun _ => some (.nil, [])) e = some (.int .i64 n, .nil) := by
          have := keyOf_int_mk ht (hw n (by simp))
          simp [WideElems.rd, h.1, this]
        refine ⟨fun x hx => ?_, ?_⟩
        · rcases List.mem_cons.1 hx with rfl | hx
          · exact ⟨n, he⟩
          · exact h1 x hx
        · simp only [List.map_cons, h2, List.cons.injEq, and_true]
          simp [WideElems.rg, he]
  obtain ⟨h1, h2⟩ := hkey ents.toList ks hk hw
  have F : WideElems.Fit (H := Unit) P t (fun _ => some (.nil, [])) ents clock := ⟨Nat.le_trans hsz (by decide), hst, fun x hx => by
    obtain ⟨n, hn⟩ := h1 x hx
    exact ⟨_, hn⟩⟩
  refine ⟨_, ⟨ents, clock, hb, F, hsz, rfl⟩, ?_, ?_⟩
  · rw [h2]
    show (List.map (fun p : Lit × DataW Unit => intOf p.1) _).Perm ks
    refine ((sorted_perm _).map _).trans ?_
    rw [List.map_map]
    have : ((fun p : Lit × DataW Unit => intOf p.1) ∘ fun n : Int => (Lit.int .i64 n, DataW.nil)) = id := by funext n; rfl
    rw [this, List.map_id]
  · show List.length _ ≤ _
    rw [(sorted_perm _).length_eq, List.length_map]
    simpa using hsz
/-- From the contract to what is told. -/
theorem srtAt_of {P : Program} {f k t : Nat} (ht : P.underlying t = some (.int .i64)) (hf : HasBody P f)
    (hC : ∀ (W : World) (p o b : Nat) (D : DataW Unit), W.cell? ⟨p, o, none⟩ = some (.map (some b)) → W.ownsMap P t (fun _ => some (.nil, [])) b 1000000 D → Maps.size D ≤ 1000000 →
      Calls P f #[.func (.func k) #[] #[.pointer (some ⟨p, o, none⟩)]] W fun e W' => ∃ (v : Value) (ss : List Int), e = .returned v ∧ ss.Perm (intKeys D) ∧
        W'.ownsRow W.heap.size t 1 v ss.length ((ss.mergeSort fun x y => decide (x ≤ y)).map (Value.int .i64)) ∧ (v = .slice none 0 0 ↔ ss = []) ∧ Below W.heap.size W W') : SrtAt P f k := by
  refine ⟨hf, fun W p o b ents clock ks hc hb hst hsz hk hw => ?_⟩
  obtain ⟨D, h1, h2, h3⟩ := owns_ints ht hb hst hsz hk hw
  refine (hC W p o b D hc h1 h3).mono fun e W' hq => ?_
  obtain ⟨v, ss, rfl, hp, ⟨_, hrow⟩, hnil, hbel⟩ := hq
  have hpk : ss.Perm ks := hp.trans h2
  have hlen := hpk.length_eq
  refine ⟨v, rfl, hbel, ?_⟩
  by_cases hs : ss = []
  · refine .inl ⟨List.eq_nil_of_length_eq_zero (by rw [← hlen, hs]; rfl), hnil.2 hs⟩
  · rcases hrow with ⟨hv, _⟩ | ⟨g, cap, cur, hv, q1, q2, q3, q4, q5, q6⟩
    · exact absurd (hnil.1 hv) hs
    · refine .inr ⟨fun e => hs (List.eq_nil_of_length_eq_zero (by rw [hlen, e]; rfl)), g, cap, cur, t, by rw [hv, hlen], q1, q2, by omega, by omega, fun i n hi => ?_⟩
      rw [← (show (ss.mergeSort fun x y => decide (x ≤ y)) = ks.mergeSort fun x y => decide (x ≤ y) from mergeSort_of_perm_i hpk)] at hi
      have h9 : (cur.toList.take (ss.length * 1))[i]? = some (.int .i64 n) := by rw [q6, List.getElem?_map, hi]; rfl
      rw [List.getElem?_take] at h9
      split at h9
      · simpa using h9
      · cases h9
end Go.AM

/-
  The abstract machine: what a row asks of the world behind a call, off 'Below'.
-/
namespace Go.AM
open Go.ChangeShapes Go.WideShapes Go.ChangeAt Go.RowKit
section
variable {H : Type} {enc : TypeId × Value → H} {P : Program}
theorem post_of_below {f : Func} {s : ChangeSpec} {apart fresh handsOn again : Bool} {W W' : World} {args : Array Value} {v : Value} {ds gs : List (DataW H)} {before pa pv : List MemPlace}
    (hW : DataW.Whole enc P f.params.toList s.vars apart W args.toList ds gs before)
    (hres : ∀ (b : Nat) (sp : Nat → Bool) (hd : Bool), DataW.TrodAll enc P W' b sp hd f.resultTypes.toList (v.resultList f.resultTypes.size) (s.fn H (ds ++ gs)).results [])
    (hargs : ∀ sp : Nat → Bool, (∀ p ∈ before, sp p.block = true) → DataW.TrodAll enc P W' 0 sp true f.params.toList args.toList (s.fn H (ds ++ gs)).args pa)
    (hvars : ∀ sp : Nat → Bool, (∀ p ∈ before, sp p.block = true) → DataW.TrodVars enc P W' sp s.vars (s.fn H (ds ++ gs)).vars pv)
    (hps : before = pa ++ pv) (hb : Below W.heap.size W W')
    (hok : ∀ (j : Nat) (t : TypeId) (r : Value), f.resultTypes[j]? = some t → (v.resultList f.resultTypes.size)[j]? = some r → Value.okWide P W' .any 0 t r) :
    s.post enc P f apart fresh handsOn again W args v W' := by
  have hlt : ∀ p ∈ before, p.block < W.heap.size := fun p hp => by simpa using hW.lt p hp
  have hold : ∀ p ∈ before, (fun b => decide (b < W.heap.size)) p.block = true := fun p hp => by simpa using hW.lt p hp
  refine ⟨ds, gs, before, [], pa, pv, hW, hres _ _ _, hargs _ hold, hvars _ hold, World.keptBut_mono (fun p hp => ⟨hp, ?_⟩) (hb.frame (· ∈ before)), fun _ => ?_⟩
  · rw [hps, List.mem_append] at hp
    exact Or.inr hp
  · obtain ⟨_, _, _, _, _, hz, hn⟩ := hW
    refine ⟨hok, _, _, ([] ++ pa) ++ pv, ⟨[] ++ pa, pv, trodAll_append (hargs _ (fun _ _ => rfl)) (hres _ _ _), hvars _ (fun _ _ => rfl), rfl, ?_, ?_⟩, ?_⟩
    · intro b off hp
      have hm : MemPlace.cell b off ∈ before := by rw [hps]; simpa using hp
      have := hb.frozen (p := ⟨b, off, none⟩) (hlt _ hm)
      rw [this]
      exact hz b off hm
    · intro ha
      have := hn ha
      rw [hps] at this
      simpa using this
    · intro p hp _
      rw [hps]
      simpa using hp
end
end Go.AM
