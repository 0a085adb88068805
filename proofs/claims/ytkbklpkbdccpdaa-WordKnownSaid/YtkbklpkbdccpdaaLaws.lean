/- What each function of chapter 01 comes to, and that its laws hold on the abstract machine. Conditions: none. -/
import Derived.Test.YtkbklpkbdccpdaaCode
import Derived.OpenShut
set_option linter.unusedVariables false
set_option linter.unusedSimpArgs false
namespace Go.AM
theorem callω_of_run {E : Env} {n f : Nat} {l : List AV} {h : Heap} {r : Res} (hr : run E n f l h = r) (hb : r ≠ .bad) : callω E f l h = r := by
  have hl := callA_lim (E := E) f l h
  have hne : callω E f l h ≠ .bad := fun e => by
    have := hl.no e n
    have h2 : callA E (ev E n) f l h = r := hr
    rw [this] at h2; exact hb h2.symm
  rcases callA_early (E := E) (f := f) (l := l) (h := h) n with h' | h'
  · exact absurd (hr.symm.trans h') (fun e => hb e)
  · exact h'.symm.trans hr
end Go.AM
namespace Go.Proofs.Word
open Go Go.AM
noncomputable abbrev E : Env := AmEnv.env
theorem ti3 : E.ti 3 = some ⟨.int .i64, 1, 8, .int .i64 0⟩ := by kernel_rfl
theorem ti2 : E.ti 2 = some ⟨.int .i64, 1, 8, .int .i64 0⟩ := by kernel_rfl
theorem ti21 : E.ti 21 = some ⟨.int .i32, 1, 4, .int .i32 0⟩ := by kernel_rfl
theorem ti33 : E.ti 33 = some ⟨.int .u64, 1, 8, .int .u64 0⟩ := by kernel_rfl
theorem ti38 : E.ti 38 = some ⟨.int .i8, 1, 1, .int .i8 0⟩ := by kernel_rfl

/-- The numbers of 64 bits. -/
def In64 (n : Int) : Prop := -9223372036854775808 ≤ n ∧ n ≤ 9223372036854775807
def In32 (n : Int) : Prop := -2147483648 ≤ n ∧ n ≤ 2147483647
theorem wrap8_bmod (n : Int) : IntKind.wrap .i8 n = n.bmod 256 := by
  have : IntKind.wrap .i8 n = if n % 256 ≥ 128 then n % 256 - 256 else n % 256 := by
    simp [IntKind.wrap, IntKind.bits, IntKind.signed]
  rw [this, Int.bmod]; split <;> split <;> omega
theorem wrap32_bmod (n : Int) : IntKind.wrap .i32 n = n.bmod 4294967296 := by
  have : IntKind.wrap .i32 n = if n % 4294967296 ≥ 2147483648 then n % 4294967296 - 4294967296 else n % 4294967296 := by
    simp [IntKind.wrap, IntKind.bits, IntKind.signed]
  rw [this, Int.bmod]; split <;> split <;> omega
theorem wrap64_bmod (n : Int) : IntKind.wrap .i64 n = n.bmod 18446744073709551616 := by
  have : IntKind.wrap .i64 n = if n % 18446744073709551616 ≥ 9223372036854775808 then n % 18446744073709551616 - 18446744073709551616 else n % 18446744073709551616 := by
    simp [IntKind.wrap, IntKind.bits, IntKind.signed]
  rw [this, Int.bmod]; split <;> split <;> omega
theorem wrap64_id {n : Int} (h : In64 n) : IntKind.wrap .i64 n = n := by
  obtain ⟨h1, h2⟩ := h
  rw [wrap64_bmod, Int.bmod]; split <;> omega
theorem wrap32_id {n : Int} (h : In32 n) : IntKind.wrap .i32 n = n := by
  obtain ⟨h1, h2⟩ := h
  rw [wrap32_bmod, Int.bmod]; split <;> omega
theorem wrap32_in (n : Int) : In32 (IntKind.wrap .i32 n) := by
  rw [wrap32_bmod, Int.bmod]; constructor <;> split <;> omega
theorem wrap64_in (n : Int) : In64 (IntKind.wrap .i64 n) := by
  rw [wrap64_bmod, Int.bmod]; constructor <;> split <;> omega
theorem wrap8_in (n : Int) : -128 ≤ IntKind.wrap .i8 n ∧ IntKind.wrap .i8 n ≤ 127 := by
  rw [wrap8_bmod, Int.bmod]; constructor <;> split <;> omega
theorem In32.in64 {n : Int} (h : In32 n) : In64 n := ⟨by have := h.1; omega, by have := h.2; omega⟩
theorem wrap64_32 (n : Int) : IntKind.wrap .i64 (IntKind.wrap .i32 n) = IntKind.wrap .i32 n := wrap64_id (wrap32_in n).in64
theorem wrap64_8 (n : Int) : IntKind.wrap .i64 (IntKind.wrap .i8 n) = IntKind.wrap .i8 n := wrap64_id (by have := wrap8_in n; exact ⟨by omega, by omega⟩)

theorem len2 (a b : AV) : [a, b].length ≤ 19 := by simp
/-! ### Wrap -/
def wrapL (t v : Int) : Int := if t = 3 then IntKind.wrap .i8 v else if t = 1 then IntKind.wrap .i32 v else if t = 2 then v else 0
theorem Wrap_ok (t v : Int) (h : Heap) : callω E 12 [.int .i64 t, .int .i64 v] h = .ok (.int .i64 (wrapL t v)) h := by
  rw [call12 _ (by simp)]
  unfold wrapL
  by_cases h3 : t = 3
  · simp only [c12, h3, p_convert _ _ _ ti3 ti38, p_convert _ _ _ ti38 ti3, wrap64_8, enter_eq, setAll_cons, setAll_nil, w_seq, w_reg, o_nil, o_plain, o_skip, o_done, p_assign, p_move, p_pick, pickA_true, pickA_false, p_extract, exA_tup, p_call, opvs_nil, opvs_cons, v_int, v_bool, v_str, v_tmp, evThen_ok, setDst_fset, setDst_none, seqA_normal, seqA_ret, seqA_exit, w_block, blockA_normal, blockA_ret, blockA_exit, w_cond, condA_true, condA_false, w_ret, w_skip, w_exit, w_scope, p_binOp, b_add, b_sub, b_mul, b_eql, b_neq, b_eqlS, b_neqS, b_lss, b_leq, b_gtr, b_geq, p_unOp, u_neg, u_not, c_int, lift_some', look_cons, look_nil, isWant_true, isWant_false, isWant_skipped, Option.some.injEq, Bool.true_eq_false, Bool.false_eq_true, after_ret, after_normal, res_tmp, res_nil, obind_some', get_fset, resOf_some, one_one, one_two, one_nil, Nat.reduceAdd, Nat.reduceLT, Nat.reduceEqDiff, ↓reduceIte, decide_true, decide_false, Bool.not_true, Bool.not_false, List.getElem?_cons_zero, List.getElem?_cons_succ, List.getElem?_nil]
  by_cases h1 : t = 1
  · simp only [c12, h1, p_convert _ _ _ ti3 ti21, p_convert _ _ _ ti21 ti3, wrap64_32, Int.reduceEq, enter_eq, setAll_cons, setAll_nil, w_seq, w_reg, o_nil, o_plain, o_skip, o_done, p_assign, p_move, p_pick, pickA_true, pickA_false, p_extract, exA_tup, p_call, opvs_nil, opvs_cons, v_int, v_bool, v_str, v_tmp, evThen_ok, setDst_fset, setDst_none, seqA_normal, seqA_ret, seqA_exit, w_block, blockA_normal, blockA_ret, blockA_exit, w_cond, condA_true, condA_false, w_ret, w_skip, w_exit, w_scope, p_binOp, b_add, b_sub, b_mul, b_eql, b_neq, b_eqlS, b_neqS, b_lss, b_leq, b_gtr, b_geq, p_unOp, u_neg, u_not, c_int, lift_some', look_cons, look_nil, isWant_true, isWant_false, isWant_skipped, Option.some.injEq, Bool.true_eq_false, Bool.false_eq_true, after_ret, after_normal, res_tmp, res_nil, obind_some', get_fset, resOf_some, one_one, one_two, one_nil, Nat.reduceAdd, Nat.reduceLT, Nat.reduceEqDiff, ↓reduceIte, decide_true, decide_false, Bool.not_true, Bool.not_false, List.getElem?_cons_zero, List.getElem?_cons_succ, List.getElem?_nil]
  by_cases h2 : t = 2
  · simp only [c12, h2, Int.reduceEq, enter_eq, setAll_cons, setAll_nil, w_seq, w_reg, o_nil, o_plain, o_skip, o_done, p_assign, p_move, p_pick, pickA_true, pickA_false, p_extract, exA_tup, p_call, opvs_nil, opvs_cons, v_int, v_bool, v_str, v_tmp, evThen_ok, setDst_fset, setDst_none, seqA_normal, seqA_ret, seqA_exit, w_block, blockA_normal, blockA_ret, blockA_exit, w_cond, condA_true, condA_false, w_ret, w_skip, w_exit, w_scope, p_binOp, b_add, b_sub, b_mul, b_eql, b_neq, b_eqlS, b_neqS, b_lss, b_leq, b_gtr, b_geq, p_unOp, u_neg, u_not, c_int, lift_some', look_cons, look_nil, isWant_true, isWant_false, isWant_skipped, Option.some.injEq, Bool.true_eq_false, Bool.false_eq_true, after_ret, after_normal, res_tmp, res_nil, obind_some', get_fset, resOf_some, one_one, one_two, one_nil, Nat.reduceAdd, Nat.reduceLT, Nat.reduceEqDiff, ↓reduceIte, decide_true, decide_false, Bool.not_true, Bool.not_false, List.getElem?_cons_zero, List.getElem?_cons_succ, List.getElem?_nil]
  · simp only [c12, h3, h1, h2, enter_eq, setAll_cons, setAll_nil, w_seq, w_reg, o_nil, o_plain, o_skip, o_done, p_assign, p_move, p_pick, pickA_true, pickA_false, p_extract, exA_tup, p_call, opvs_nil, opvs_cons, v_int, v_bool, v_str, v_tmp, evThen_ok, setDst_fset, setDst_none, seqA_normal, seqA_ret, seqA_exit, w_block, blockA_normal, blockA_ret, blockA_exit, w_cond, condA_true, condA_false, w_ret, w_skip, w_exit, w_scope, p_binOp, b_add, b_sub, b_mul, b_eql, b_neq, b_eqlS, b_neqS, b_lss, b_leq, b_gtr, b_geq, p_unOp, u_neg, u_not, c_int, lift_some', look_cons, look_nil, isWant_true, isWant_false, isWant_skipped, Option.some.injEq, Bool.true_eq_false, Bool.false_eq_true, after_ret, after_normal, res_tmp, res_nil, obind_some', get_fset, resOf_some, one_one, one_two, one_nil, Nat.reduceAdd, Nat.reduceLT, Nat.reduceEqDiff, ↓reduceIte, decide_true, decide_false, Bool.not_true, Bool.not_false, List.getElem?_cons_zero, List.getElem?_cons_succ, List.getElem?_nil]

/-! ### kind -/
theorem kind_ok (long : Bool) (h : Heap) : callω E 10 [.bool long] h = .ok (.int .i64 (if long then 2 else 1)) h := by
  rw [call10 _ (by simp)]
  cases long <;> simp [c10, enter_eq, setAll_cons, setAll_nil, w_seq, w_reg, o_nil, o_plain, o_skip, o_done, p_assign, p_move, p_pick, pickA_true, pickA_false, p_extract, exA_tup, p_call, opvs_nil, opvs_cons, v_int, v_bool, v_str, v_tmp, evThen_ok, setDst_fset, setDst_none, seqA_normal, seqA_ret, seqA_exit, w_block, blockA_normal, blockA_ret, blockA_exit, w_cond, condA_true, condA_false, w_ret, w_skip, w_exit, w_scope, p_binOp, b_add, b_sub, b_mul, b_eql, b_neq, b_eqlS, b_neqS, b_lss, b_leq, b_gtr, b_geq, p_unOp, u_neg, u_not, c_int, lift_some', look_cons, look_nil, isWant_true, isWant_false, isWant_skipped, Option.some.injEq, Bool.true_eq_false, Bool.false_eq_true, after_ret, after_normal, res_tmp, res_nil, obind_some', get_fset, resOf_some, one_one, one_two, one_nil, Nat.reduceAdd, Nat.reduceLT, Nat.reduceEqDiff, ↓reduceIte, decide_true, decide_false, Bool.not_true, Bool.not_false, List.getElem?_cons_zero, List.getElem?_cons_succ, List.getElem?_nil]
theorem works_ok (h : Heap) : callω E 13 [] h = .ok (.bool true) h := callω_of_run (n := 1000) (by kernel_rfl) (by intro e; cases e)
theorem one32_ok (b : Bool) (h : Heap) : callω E 32 [.bool b] h = .ok (.int .i32 (if b then 1 else 0)) h := by
  rw [call32 _ (by simp)]
  cases b <;> simp [c32, enter_eq, setAll_cons, setAll_nil, w_seq, w_reg, o_nil, o_plain, o_skip, o_done, p_assign, p_move, p_pick, pickA_true, pickA_false, p_extract, exA_tup, p_call, opvs_nil, opvs_cons, v_int, v_bool, v_str, v_tmp, evThen_ok, setDst_fset, setDst_none, seqA_normal, seqA_ret, seqA_exit, w_block, blockA_normal, blockA_ret, blockA_exit, w_cond, condA_true, condA_false, w_ret, w_skip, w_exit, w_scope, p_binOp, b_add, b_sub, b_mul, b_eql, b_neq, b_eqlS, b_neqS, b_lss, b_leq, b_gtr, b_geq, p_unOp, u_neg, u_not, c_int, lift_some', look_cons, look_nil, isWant_true, isWant_false, isWant_skipped, Option.some.injEq, Bool.true_eq_false, Bool.false_eq_true, after_ret, after_normal, res_tmp, res_nil, obind_some', get_fset, resOf_some, one_one, one_two, one_nil, Nat.reduceAdd, Nat.reduceLT, Nat.reduceEqDiff, ↓reduceIte, decide_true, decide_false, Bool.not_true, Bool.not_false, List.getElem?_cons_zero, List.getElem?_cons_succ, List.getElem?_nil]
theorem one64_ok (b : Bool) (h : Heap) : callω E 33 [.bool b] h = .ok (.int .i64 (if b then 1 else 0)) h := by
  rw [call33 _ (by simp)]
  cases b <;> simp [c33, enter_eq, setAll_cons, setAll_nil, w_seq, w_reg, o_nil, o_plain, o_skip, o_done, p_assign, p_move, p_pick, pickA_true, pickA_false, p_extract, exA_tup, p_call, opvs_nil, opvs_cons, v_int, v_bool, v_str, v_tmp, evThen_ok, setDst_fset, setDst_none, seqA_normal, seqA_ret, seqA_exit, w_block, blockA_normal, blockA_ret, blockA_exit, w_cond, condA_true, condA_false, w_ret, w_skip, w_exit, w_scope, p_binOp, b_add, b_sub, b_mul, b_eql, b_neq, b_eqlS, b_neqS, b_lss, b_leq, b_gtr, b_geq, p_unOp, u_neg, u_not, c_int, lift_some', look_cons, look_nil, isWant_true, isWant_false, isWant_skipped, Option.some.injEq, Bool.true_eq_false, Bool.false_eq_true, after_ret, after_normal, res_tmp, res_nil, obind_some', get_fset, resOf_some, one_one, one_two, one_nil, Nat.reduceAdd, Nat.reduceLT, Nat.reduceEqDiff, ↓reduceIte, decide_true, decide_false, Bool.not_true, Bool.not_false, List.getElem?_cons_zero, List.getElem?_cons_succ, List.getElem?_nil]
end Go.Proofs.Word
namespace Go.AM
noncomputable def andK (k : IntKind) (a b : Int) : Int := wrapN k (Nat.land (modN a (pow2 k)) (modN b (pow2 k)))
noncomputable def orK (k : IntKind) (a b : Int) : Int := wrapN k (Nat.lor (modN a (pow2 k)) (modN b (pow2 k)))
noncomputable def xorK (k : IntKind) (a b : Int) : Int := wrapN k (Nat.xor (modN a (pow2 k)) (modN b (pow2 k)))
theorem b_and (fl : EqK) (k : IntKind) (a b : Int) : binOpA .and fl (.int k a) (.int k b) = some (.int k (andK k a b)) := by
  show int2 (.int k a) (.int k b) (fun k a b => mkInt k (wrapN k (Nat.land (modN a (pow2 k)) (modN b (pow2 k))))) = _; rw [int2_eq, mkInt_eq]; rfl
theorem b_or (fl : EqK) (k : IntKind) (a b : Int) : binOpA .or fl (.int k a) (.int k b) = some (.int k (orK k a b)) := by
  show int2 (.int k a) (.int k b) (fun k a b => mkInt k (wrapN k (Nat.lor (modN a (pow2 k)) (modN b (pow2 k))))) = _; rw [int2_eq, mkInt_eq]; rfl
theorem b_xor (fl : EqK) (k : IntKind) (a b : Int) : binOpA .xor fl (.int k a) (.int k b) = some (.int k (xorK k a b)) := by
  show int2 (.int k a) (.int k b) (fun k a b => mkInt k (wrapN k (Nat.xor (modN a (pow2 k)) (modN b (pow2 k))))) = _; rw [int2_eq, mkInt_eq]; rfl
theorem cut_eq (k : IntKind) (n : Nat) : (bif Nat.ble n (bitsOf k) then n else bitsOf k) = min n (bitsOf k) := by
  cases h : Nat.ble n (bitsOf k) with
  | true => have := ble_true h; simp; omega
  | false =>
    have : ¬ n ≤ bitsOf k := fun e => by rw [Nat.ble_eq_true_of_le e] at h; cases h
    simp; omega
theorem b_shl (fl : EqK) (k j : IntKind) (a : Int) (n : Nat) : binOpA .shl fl (.int k a) (.int j (n : Int)) = some (.int k (k.wrap (a * (2 ^ (min n (bitsOf k)) : Nat)))) := by
  show mkWrap k (a * Int.ofNat (Nat.pow 2 (bif Nat.ble n (bitsOf k) then n else bitsOf k))) = _
  rw [mkWrap_eq, cut_eq]; rfl
theorem b_shr (fl : EqK) (k j : IntKind) (a : Int) (n : Nat) : binOpA .shr fl (.int k a) (.int j (n : Int)) = some (.int k (a.fdiv (2 ^ (min n (bitsOf k)) : Nat))) := by
  show mkInt k (a.fdiv (Int.ofNat (Nat.pow 2 (bif Nat.ble n (bitsOf k) then n else bitsOf k)))) = _
  rw [mkInt_eq, cut_eq]; rfl
/-- The low bits of a number. -/
theorem andK_low (b : Int) (e : Nat) (he : e ≤ 32) : andK .u64 (IntKind.wrap .u64 b) ((2 ^ e - 1 : Nat) : Int) = ((b % (2 ^ e : Nat)).toNat : Int) := by
  have hp : (0 : Int) < 18446744073709551616 := by omega
  have h2 : (2 : Nat) ^ e ≤ 2 ^ 32 := Nat.pow_le_pow_right (by omega) he
  have h3 : 0 < 2 ^ e := Nat.two_pow_pos e
  have hdvd : (2 ^ e) ∣ 18446744073709551616 := ⟨2 ^ (64 - e), by rw [← Nat.pow_add, show e + (64 - e) = 64 by omega]⟩
  have hw : IntKind.wrap .u64 b = b % 18446744073709551616 := by simp [IntKind.wrap, IntKind.bits, IntKind.signed]
  have m1 : (modN (IntKind.wrap .u64 b) (pow2 .u64) : Int) = b % 18446744073709551616 := by
    rw [modN_eq _ _ (pow2_pos _), hw]; simp [pow2]
  have m2 : (modN ((2 ^ e - 1 : Nat) : Int) (pow2 .u64) : Int) = ((2 ^ e - 1 : Nat) : Int) := by
    rw [modN_eq _ _ (pow2_pos _)]
    exact Int.emod_eq_of_lt (by omega) (by simp only [pow2]; omega)
  unfold andK
  have m2' : modN ((2 ^ e - 1 : Nat) : Int) (pow2 .u64) = 2 ^ e - 1 := by omega
  rw [m2']
  have m3 : Nat.land (modN (IntKind.wrap .u64 b) (pow2 .u64)) (2 ^ e - 1) = modN (IntKind.wrap .u64 b) (pow2 .u64) % 2 ^ e := Nat.and_two_pow_sub_one_eq_mod _ _
  rw [m3]
  have hlt : modN (IntKind.wrap .u64 b) (pow2 .u64) % 2 ^ e < 2 ^ e := Nat.mod_lt _ h3
  have hwr : ∀ m : Nat, m < 18446744073709551616 → wrapN .u64 m = (m : Int) := fun m hm => by
    unfold wrapN
    cases e : Nat.ble (half .u64) m with
    | false => rfl
    | true =>
      have := ble_true e
      have hh : half .u64 = 18446744073709551616 := rfl
      omega
  rw [hwr _ (by have : (2 : Nat) ^ 32 = 4294967296 := by decide
                omega)]
  have : ((modN (IntKind.wrap .u64 b) (pow2 .u64) % 2 ^ e : Nat) : Int) = b % ((2 ^ e : Nat) : Int) := by
    rw [Int.natCast_emod, m1]
    exact Int.emod_emod_of_dvd b (show ((2 ^ e : Nat) : Int) ∣ ((18446744073709551616 : Nat) : Int) from Int.natCast_dvd_natCast.2 hdvd)
  rw [this]
  have := Int.emod_nonneg b (show ((2 ^ e : Nat) : Int) ≠ 0 by omega)
  omega
end Go.AM
namespace Go.Proofs.Word
open Go Go.AM
def divL (k : IntKind) (op : List UInt8) (a b : Int) : Int × Int :=
  if b = 0 then (0, 1)
  else if op = [37] ∧ b = -1 then (0, 0)
  else if op = [37] then (a.tmod b, 0)
  else if b = -1 ∧ a ≠ 0 ∧ k.wrap (0 - a) = a then (0, 2)
  else (k.wrap (a.tdiv b), 0)
noncomputable def doesL (k : IntKind) (m : Int) (op : List UInt8) (a b : Int) : Int :=
  if op = [43] then k.wrap (a + b) else if op = [45] then k.wrap (a - b) else if op = [42] then k.wrap (a * b)
  else if op = [38] then andK k a b else if op = [124] then orK k a b else if op = [94] then xorK k a b
  else if op = [60, 60] then k.wrap (a * (2 ^ (min (b % m).toNat (bitsOf k)) : Nat)) else if op = [62, 62] then a.fdiv (2 ^ (min (b % m).toNat (bitsOf k)) : Nat)
  else if op = [61, 61] then (if a = b then 1 else 0) else if op = [33, 61] then (if a = b then 0 else 1)
  else if op = [60] then (if a < b then 1 else 0) else if op = [60, 61] then (if a ≤ b then 1 else 0)
  else if op = [62] then (if b < a then 1 else 0) else if op = [62, 61] then (if b ≤ a then 1 else 0) else 0
theorem low32 (b : Int) : andK .u64 (IntKind.wrap .u64 b) (IntKind.wrap .u64 (IntKind.wrap .i64 (32 - 1))) = ((b % 32).toNat : Int) := by
  have : IntKind.wrap .u64 (IntKind.wrap .i64 (32 - 1)) = ((2 ^ 5 - 1 : Nat) : Int) := by decide
  rw [this]; exact andK_low b 5 (by omega)
theorem low64 (b : Int) : andK .u64 (IntKind.wrap .u64 b) (IntKind.wrap .u64 (IntKind.wrap .i64 (64 - 1))) = ((b % 64).toNat : Int) := by
  have : IntKind.wrap .u64 (IntKind.wrap .i64 (64 - 1)) = ((2 ^ 6 - 1 : Nat) : Int) := by decide
  rw [this]; exact andK_low b 6 (by omega)

theorem does32_ok (op : List UInt8) (a b : Int) (h : Heap) : callω E 28 [.str op, .int .i32 a, .int .i32 b, .int .i64 32] h = .ok (.int .i32 (doesL .i32 32 op a b)) h := by
  rw [call28 _ (by simp)]
  unfold doesL
  by_cases h0 : op = [43]
  · simp (implicitDefEqProofs := false) only [c28, eq_true h0, p_convert _ _ _ ti21 ti33, p_convert _ _ _ ti3 ti33, b_and, b_or, b_xor, low32, b_shl, b_shr, one32_ok, enter_eq, setAll_cons, setAll_nil, w_seq, w_reg, o_nil, o_plain, o_skip, o_done, p_assign, p_move, p_pick, pickA_true, pickA_false, p_extract, exA_tup, p_call, opvs_nil, opvs_cons, v_int, v_bool, v_str, v_tmp, evThen_ok, setDst_fset, setDst_none, seqA_normal, seqA_ret, seqA_exit, w_block, blockA_normal, blockA_ret, blockA_exit, w_cond, condA_true, condA_false, w_ret, w_skip, w_exit, w_scope, p_binOp, b_add, b_sub, b_mul, b_eql, b_neq, b_eqlS, b_neqS, b_lss, b_leq, b_gtr, b_geq, p_unOp, u_neg, u_not, c_int, lift_some', look_cons, look_nil, isWant_true, isWant_false, isWant_skipped, Option.some.injEq, Bool.true_eq_false, Bool.false_eq_true, after_ret, after_normal, res_tmp, res_nil, obind_some', get_fset, resOf_some, one_one, one_two, one_nil, Nat.reduceAdd, Nat.reduceLT, Nat.reduceEqDiff, ↓reduceIte, decide_true, decide_false, Bool.not_true, Bool.not_false, List.getElem?_cons_zero, List.getElem?_cons_succ, List.getElem?_nil]
  by_cases h1 : op = [45]
  · simp (implicitDefEqProofs := false) only [c28, eq_true h1, eq_false h0, p_convert _ _ _ ti21 ti33, p_convert _ _ _ ti3 ti33, b_and, b_or, b_xor, low32, b_shl, b_shr, one32_ok, enter_eq, setAll_cons, setAll_nil, w_seq, w_reg, o_nil, o_plain, o_skip, o_done, p_assign, p_move, p_pick, pickA_true, pickA_false, p_extract, exA_tup, p_call, opvs_nil, opvs_cons, v_int, v_bool, v_str, v_tmp, evThen_ok, setDst_fset, setDst_none, seqA_normal, seqA_ret, seqA_exit, w_block, blockA_normal, blockA_ret, blockA_exit, w_cond, condA_true, condA_false, w_ret, w_skip, w_exit, w_scope, p_binOp, b_add, b_sub, b_mul, b_eql, b_neq, b_eqlS, b_neqS, b_lss, b_leq, b_gtr, b_geq, p_unOp, u_neg, u_not, c_int, lift_some', look_cons, look_nil, isWant_true, isWant_false, isWant_skipped, Option.some.injEq, Bool.true_eq_false, Bool.false_eq_true, after_ret, after_normal, res_tmp, res_nil, obind_some', get_fset, resOf_some, one_one, one_two, one_nil, Nat.reduceAdd, Nat.reduceLT, Nat.reduceEqDiff, ↓reduceIte, decide_true, decide_false, Bool.not_true, Bool.not_false, List.getElem?_cons_zero, List.getElem?_cons_succ, List.getElem?_nil]
  by_cases h2 : op = [42]
  · simp (implicitDefEqProofs := false) only [c28, eq_true h2, eq_false h0, eq_false h1, p_convert _ _ _ ti21 ti33, p_convert _ _ _ ti3 ti33, b_and, b_or, b_xor, low32, b_shl, b_shr, one32_ok, enter_eq, setAll_cons, setAll_nil, w_seq, w_reg, o_nil, o_plain, o_skip, o_done, p_assign, p_move, p_pick, pickA_true, pickA_false, p_extract, exA_tup, p_call, opvs_nil, opvs_cons, v_int, v_bool, v_str, v_tmp, evThen_ok, setDst_fset, setDst_none, seqA_normal, seqA_ret, seqA_exit, w_block, blockA_normal, blockA_ret, blockA_exit, w_cond, condA_true, condA_false, w_ret, w_skip, w_exit, w_scope, p_binOp, b_add, b_sub, b_mul, b_eql, b_neq, b_eqlS, b_neqS, b_lss, b_leq, b_gtr, b_geq, p_unOp, u_neg, u_not, c_int, lift_some', look_cons, look_nil, isWant_true, isWant_false, isWant_skipped, Option.some.injEq, Bool.true_eq_false, Bool.false_eq_true, after_ret, after_normal, res_tmp, res_nil, obind_some', get_fset, resOf_some, one_one, one_two, one_nil, Nat.reduceAdd, Nat.reduceLT, Nat.reduceEqDiff, ↓reduceIte, decide_true, decide_false, Bool.not_true, Bool.not_false, List.getElem?_cons_zero, List.getElem?_cons_succ, List.getElem?_nil]
  by_cases h3 : op = [38]
  · simp (implicitDefEqProofs := false) only [c28, eq_true h3, eq_false h0, eq_false h1, eq_false h2, p_convert _ _ _ ti21 ti33, p_convert _ _ _ ti3 ti33, b_and, b_or, b_xor, low32, b_shl, b_shr, one32_ok, enter_eq, setAll_cons, setAll_nil, w_seq, w_reg, o_nil, o_plain, o_skip, o_done, p_assign, p_move, p_pick, pickA_true, pickA_false, p_extract, exA_tup, p_call, opvs_nil, opvs_cons, v_int, v_bool, v_str, v_tmp, evThen_ok, setDst_fset, setDst_none, seqA_normal, seqA_ret, seqA_exit, w_block, blockA_normal, blockA_ret, blockA_exit, w_cond, condA_true, condA_false, w_ret, w_skip, w_exit, w_scope, p_binOp, b_add, b_sub, b_mul, b_eql, b_neq, b_eqlS, b_neqS, b_lss, b_leq, b_gtr, b_geq, p_unOp, u_neg, u_not, c_int, lift_some', look_cons, look_nil, isWant_true, isWant_false, isWant_skipped, Option.some.injEq, Bool.true_eq_false, Bool.false_eq_true, after_ret, after_normal, res_tmp, res_nil, obind_some', get_fset, resOf_some, one_one, one_two, one_nil, Nat.reduceAdd, Nat.reduceLT, Nat.reduceEqDiff, ↓reduceIte, decide_true, decide_false, Bool.not_true, Bool.not_false, List.getElem?_cons_zero, List.getElem?_cons_succ, List.getElem?_nil]
  by_cases h4 : op = [124]
  · simp (implicitDefEqProofs := false) only [c28, eq_true h4, eq_false h0, eq_false h1, eq_false h2, eq_false h3, p_convert _ _ _ ti21 ti33, p_convert _ _ _ ti3 ti33, b_and, b_or, b_xor, low32, b_shl, b_shr, one32_ok, enter_eq, setAll_cons, setAll_nil, w_seq, w_reg, o_nil, o_plain, o_skip, o_done, p_assign, p_move, p_pick, pickA_true, pickA_false, p_extract, exA_tup, p_call, opvs_nil, opvs_cons, v_int, v_bool, v_str, v_tmp, evThen_ok, setDst_fset, setDst_none, seqA_normal, seqA_ret, seqA_exit, w_block, blockA_normal, blockA_ret, blockA_exit, w_cond, condA_true, condA_false, w_ret, w_skip, w_exit, w_scope, p_binOp, b_add, b_sub, b_mul, b_eql, b_neq, b_eqlS, b_neqS, b_lss, b_leq, b_gtr, b_geq, p_unOp, u_neg, u_not, c_int, lift_some', look_cons, look_nil, isWant_true, isWant_false, isWant_skipped, Option.some.injEq, Bool.true_eq_false, Bool.false_eq_true, after_ret, after_normal, res_tmp, res_nil, obind_some', get_fset, resOf_some, one_one, one_two, one_nil, Nat.reduceAdd, Nat.reduceLT, Nat.reduceEqDiff, ↓reduceIte, decide_true, decide_false, Bool.not_true, Bool.not_false, List.getElem?_cons_zero, List.getElem?_cons_succ, List.getElem?_nil]
  by_cases h5 : op = [94]
  · simp (implicitDefEqProofs := false) only [c28, eq_true h5, eq_false h0, eq_false h1, eq_false h2, eq_false h3, eq_false h4, p_convert _ _ _ ti21 ti33, p_convert _ _ _ ti3 ti33, b_and, b_or, b_xor, low32, b_shl, b_shr, one32_ok, enter_eq, setAll_cons, setAll_nil, w_seq, w_reg, o_nil, o_plain, o_skip, o_done, p_assign, p_move, p_pick, pickA_true, pickA_false, p_extract, exA_tup, p_call, opvs_nil, opvs_cons, v_int, v_bool, v_str, v_tmp, evThen_ok, setDst_fset, setDst_none, seqA_normal, seqA_ret, seqA_exit, w_block, blockA_normal, blockA_ret, blockA_exit, w_cond, condA_true, condA_false, w_ret, w_skip, w_exit, w_scope, p_binOp, b_add, b_sub, b_mul, b_eql, b_neq, b_eqlS, b_neqS, b_lss, b_leq, b_gtr, b_geq, p_unOp, u_neg, u_not, c_int, lift_some', look_cons, look_nil, isWant_true, isWant_false, isWant_skipped, Option.some.injEq, Bool.true_eq_false, Bool.false_eq_true, after_ret, after_normal, res_tmp, res_nil, obind_some', get_fset, resOf_some, one_one, one_two, one_nil, Nat.reduceAdd, Nat.reduceLT, Nat.reduceEqDiff, ↓reduceIte, decide_true, decide_false, Bool.not_true, Bool.not_false, List.getElem?_cons_zero, List.getElem?_cons_succ, List.getElem?_nil]
  by_cases h6 : op = [60, 60]
  · simp (implicitDefEqProofs := false) only [c28, eq_true h6, eq_false h0, eq_false h1, eq_false h2, eq_false h3, eq_false h4, eq_false h5, p_convert _ _ _ ti21 ti33, p_convert _ _ _ ti3 ti33, b_and, b_or, b_xor, low32, b_shl, b_shr, one32_ok, enter_eq, setAll_cons, setAll_nil, w_seq, w_reg, o_nil, o_plain, o_skip, o_done, p_assign, p_move, p_pick, pickA_true, pickA_false, p_extract, exA_tup, p_call, opvs_nil, opvs_cons, v_int, v_bool, v_str, v_tmp, evThen_ok, setDst_fset, setDst_none, seqA_normal, seqA_ret, seqA_exit, w_block, blockA_normal, blockA_ret, blockA_exit, w_cond, condA_true, condA_false, w_ret, w_skip, w_exit, w_scope, p_binOp, b_add, b_sub, b_mul, b_eql, b_neq, b_eqlS, b_neqS, b_lss, b_leq, b_gtr, b_geq, p_unOp, u_neg, u_not, c_int, lift_some', look_cons, look_nil, isWant_true, isWant_false, isWant_skipped, Option.some.injEq, Bool.true_eq_false, Bool.false_eq_true, after_ret, after_normal, res_tmp, res_nil, obind_some', get_fset, resOf_some, one_one, one_two, one_nil, Nat.reduceAdd, Nat.reduceLT, Nat.reduceEqDiff, ↓reduceIte, decide_true, decide_false, Bool.not_true, Bool.not_false, List.getElem?_cons_zero, List.getElem?_cons_succ, List.getElem?_nil]
  by_cases h7 : op = [62, 62]
  · simp (implicitDefEqProofs := false) only [c28, eq_true h7, eq_false h0, eq_false h1, eq_false h2, eq_false h3, eq_false h4, eq_false h5, eq_false h6, p_convert _ _ _ ti21 ti33, p_convert _ _ _ ti3 ti33, b_and, b_or, b_xor, low32, b_shl, b_shr, one32_ok, enter_eq, setAll_cons, setAll_nil, w_seq, w_reg, o_nil, o_plain, o_skip, o_done, p_assign, p_move, p_pick, pickA_true, pickA_false, p_extract, exA_tup, p_call, opvs_nil, opvs_cons, v_int, v_bool, v_str, v_tmp, evThen_ok, setDst_fset, setDst_none, seqA_normal, seqA_ret, seqA_exit, w_block, blockA_normal, blockA_ret, blockA_exit, w_cond, condA_true, condA_false, w_ret, w_skip, w_exit, w_scope, p_binOp, b_add, b_sub, b_mul, b_eql, b_neq, b_eqlS, b_neqS, b_lss, b_leq, b_gtr, b_geq, p_unOp, u_neg, u_not, c_int, lift_some', look_cons, look_nil, isWant_true, isWant_false, isWant_skipped, Option.some.injEq, Bool.true_eq_false, Bool.false_eq_true, after_ret, after_normal, res_tmp, res_nil, obind_some', get_fset, resOf_some, one_one, one_two, one_nil, Nat.reduceAdd, Nat.reduceLT, Nat.reduceEqDiff, ↓reduceIte, decide_true, decide_false, Bool.not_true, Bool.not_false, List.getElem?_cons_zero, List.getElem?_cons_succ, List.getElem?_nil]
  by_cases h8 : op = [61, 61]
  · simp (implicitDefEqProofs := false) only [c28, eq_true h8, eq_false h0, eq_false h1, eq_false h2, eq_false h3, eq_false h4, eq_false h5, eq_false h6, eq_false h7, p_convert _ _ _ ti21 ti33, p_convert _ _ _ ti3 ti33, b_and, b_or, b_xor, low32, b_shl, b_shr, one32_ok, enter_eq, setAll_cons, setAll_nil, w_seq, w_reg, o_nil, o_plain, o_skip, o_done, p_assign, p_move, p_pick, pickA_true, pickA_false, p_extract, exA_tup, p_call, opvs_nil, opvs_cons, v_int, v_bool, v_str, v_tmp, evThen_ok, setDst_fset, setDst_none, seqA_normal, seqA_ret, seqA_exit, w_block, blockA_normal, blockA_ret, blockA_exit, w_cond, condA_true, condA_false, w_ret, w_skip, w_exit, w_scope, p_binOp, b_add, b_sub, b_mul, b_eql, b_neq, b_eqlS, b_neqS, b_lss, b_leq, b_gtr, b_geq, p_unOp, u_neg, u_not, c_int, lift_some', look_cons, look_nil, isWant_true, isWant_false, isWant_skipped, Option.some.injEq, Bool.true_eq_false, Bool.false_eq_true, after_ret, after_normal, res_tmp, res_nil, obind_some', get_fset, resOf_some, one_one, one_two, one_nil, Nat.reduceAdd, Nat.reduceLT, Nat.reduceEqDiff, ↓reduceIte, decide_true, decide_false, Bool.not_true, Bool.not_false, List.getElem?_cons_zero, List.getElem?_cons_succ, List.getElem?_nil]
    try (split <;> simp_all)
  by_cases h9 : op = [33, 61]
  · simp (implicitDefEqProofs := false) only [c28, eq_true h9, eq_false h0, eq_false h1, eq_false h2, eq_false h3, eq_false h4, eq_false h5, eq_false h6, eq_false h7, eq_false h8, p_convert _ _ _ ti21 ti33, p_convert _ _ _ ti3 ti33, b_and, b_or, b_xor, low32, b_shl, b_shr, one32_ok, enter_eq, setAll_cons, setAll_nil, w_seq, w_reg, o_nil, o_plain, o_skip, o_done, p_assign, p_move, p_pick, pickA_true, pickA_false, p_extract, exA_tup, p_call, opvs_nil, opvs_cons, v_int, v_bool, v_str, v_tmp, evThen_ok, setDst_fset, setDst_none, seqA_normal, seqA_ret, seqA_exit, w_block, blockA_normal, blockA_ret, blockA_exit, w_cond, condA_true, condA_false, w_ret, w_skip, w_exit, w_scope, p_binOp, b_add, b_sub, b_mul, b_eql, b_neq, b_eqlS, b_neqS, b_lss, b_leq, b_gtr, b_geq, p_unOp, u_neg, u_not, c_int, lift_some', look_cons, look_nil, isWant_true, isWant_false, isWant_skipped, Option.some.injEq, Bool.true_eq_false, Bool.false_eq_true, after_ret, after_normal, res_tmp, res_nil, obind_some', get_fset, resOf_some, one_one, one_two, one_nil, Nat.reduceAdd, Nat.reduceLT, Nat.reduceEqDiff, ↓reduceIte, decide_true, decide_false, Bool.not_true, Bool.not_false, List.getElem?_cons_zero, List.getElem?_cons_succ, List.getElem?_nil]
    try (split <;> simp_all)
  by_cases h10 : op = [60]
  · simp (implicitDefEqProofs := false) only [c28, eq_true h10, eq_false h0, eq_false h1, eq_false h2, eq_false h3, eq_false h4, eq_false h5, eq_false h6, eq_false h7, eq_false h8, eq_false h9, p_convert _ _ _ ti21 ti33, p_convert _ _ _ ti3 ti33, b_and, b_or, b_xor, low32, b_shl, b_shr, one32_ok, enter_eq, setAll_cons, setAll_nil, w_seq, w_reg, o_nil, o_plain, o_skip, o_done, p_assign, p_move, p_pick, pickA_true, pickA_false, p_extract, exA_tup, p_call, opvs_nil, opvs_cons, v_int, v_bool, v_str, v_tmp, evThen_ok, setDst_fset, setDst_none, seqA_normal, seqA_ret, seqA_exit, w_block, blockA_normal, blockA_ret, blockA_exit, w_cond, condA_true, condA_false, w_ret, w_skip, w_exit, w_scope, p_binOp, b_add, b_sub, b_mul, b_eql, b_neq, b_eqlS, b_neqS, b_lss, b_leq, b_gtr, b_geq, p_unOp, u_neg, u_not, c_int, lift_some', look_cons, look_nil, isWant_true, isWant_false, isWant_skipped, Option.some.injEq, Bool.true_eq_false, Bool.false_eq_true, after_ret, after_normal, res_tmp, res_nil, obind_some', get_fset, resOf_some, one_one, one_two, one_nil, Nat.reduceAdd, Nat.reduceLT, Nat.reduceEqDiff, ↓reduceIte, decide_true, decide_false, Bool.not_true, Bool.not_false, List.getElem?_cons_zero, List.getElem?_cons_succ, List.getElem?_nil]
    try (split <;> simp_all)
  by_cases h11 : op = [60, 61]
  · simp (implicitDefEqProofs := false) only [c28, eq_true h11, eq_false h0, eq_false h1, eq_false h2, eq_false h3, eq_false h4, eq_false h5, eq_false h6, eq_false h7, eq_false h8, eq_false h9, eq_false h10, p_convert _ _ _ ti21 ti33, p_convert _ _ _ ti3 ti33, b_and, b_or, b_xor, low32, b_shl, b_shr, one32_ok, enter_eq, setAll_cons, setAll_nil, w_seq, w_reg, o_nil, o_plain, o_skip, o_done, p_assign, p_move, p_pick, pickA_true, pickA_false, p_extract, exA_tup, p_call, opvs_nil, opvs_cons, v_int, v_bool, v_str, v_tmp, evThen_ok, setDst_fset, setDst_none, seqA_normal, seqA_ret, seqA_exit, w_block, blockA_normal, blockA_ret, blockA_exit, w_cond, condA_true, condA_false, w_ret, w_skip, w_exit, w_scope, p_binOp, b_add, b_sub, b_mul, b_eql, b_neq, b_eqlS, b_neqS, b_lss, b_leq, b_gtr, b_geq, p_unOp, u_neg, u_not, c_int, lift_some', look_cons, look_nil, isWant_true, isWant_false, isWant_skipped, Option.some.injEq, Bool.true_eq_false, Bool.false_eq_true, after_ret, after_normal, res_tmp, res_nil, obind_some', get_fset, resOf_some, one_one, one_two, one_nil, Nat.reduceAdd, Nat.reduceLT, Nat.reduceEqDiff, ↓reduceIte, decide_true, decide_false, Bool.not_true, Bool.not_false, List.getElem?_cons_zero, List.getElem?_cons_succ, List.getElem?_nil]
    try (split <;> simp_all)
  by_cases h12 : op = [62]
  · simp (implicitDefEqProofs := false) only [c28, eq_true h12, eq_false h0, eq_false h1, eq_false h2, eq_false h3, eq_false h4, eq_false h5, eq_false h6, eq_false h7, eq_false h8, eq_false h9, eq_false h10, eq_false h11, p_convert _ _ _ ti21 ti33, p_convert _ _ _ ti3 ti33, b_and, b_or, b_xor, low32, b_shl, b_shr, one32_ok, enter_eq, setAll_cons, setAll_nil, w_seq, w_reg, o_nil, o_plain, o_skip, o_done, p_assign, p_move, p_pick, pickA_true, pickA_false, p_extract, exA_tup, p_call, opvs_nil, opvs_cons, v_int, v_bool, v_str, v_tmp, evThen_ok, setDst_fset, setDst_none, seqA_normal, seqA_ret, seqA_exit, w_block, blockA_normal, blockA_ret, blockA_exit, w_cond, condA_true, condA_false, w_ret, w_skip, w_exit, w_scope, p_binOp, b_add, b_sub, b_mul, b_eql, b_neq, b_eqlS, b_neqS, b_lss, b_leq, b_gtr, b_geq, p_unOp, u_neg, u_not, c_int, lift_some', look_cons, look_nil, isWant_true, isWant_false, isWant_skipped, Option.some.injEq, Bool.true_eq_false, Bool.false_eq_true, after_ret, after_normal, res_tmp, res_nil, obind_some', get_fset, resOf_some, one_one, one_two, one_nil, Nat.reduceAdd, Nat.reduceLT, Nat.reduceEqDiff, ↓reduceIte, decide_true, decide_false, Bool.not_true, Bool.not_false, List.getElem?_cons_zero, List.getElem?_cons_succ, List.getElem?_nil]
    try (split <;> simp_all)
  by_cases h13 : op = [62, 61]
  · simp (implicitDefEqProofs := false) only [c28, eq_true h13, eq_false h0, eq_false h1, eq_false h2, eq_false h3, eq_false h4, eq_false h5, eq_false h6, eq_false h7, eq_false h8, eq_false h9, eq_false h10, eq_false h11, eq_false h12, p_convert _ _ _ ti21 ti33, p_convert _ _ _ ti3 ti33, b_and, b_or, b_xor, low32, b_shl, b_shr, one32_ok, enter_eq, setAll_cons, setAll_nil, w_seq, w_reg, o_nil, o_plain, o_skip, o_done, p_assign, p_move, p_pick, pickA_true, pickA_false, p_extract, exA_tup, p_call, opvs_nil, opvs_cons, v_int, v_bool, v_str, v_tmp, evThen_ok, setDst_fset, setDst_none, seqA_normal, seqA_ret, seqA_exit, w_block, blockA_normal, blockA_ret, blockA_exit, w_cond, condA_true, condA_false, w_ret, w_skip, w_exit, w_scope, p_binOp, b_add, b_sub, b_mul, b_eql, b_neq, b_eqlS, b_neqS, b_lss, b_leq, b_gtr, b_geq, p_unOp, u_neg, u_not, c_int, lift_some', look_cons, look_nil, isWant_true, isWant_false, isWant_skipped, Option.some.injEq, Bool.true_eq_false, Bool.false_eq_true, after_ret, after_normal, res_tmp, res_nil, obind_some', get_fset, resOf_some, one_one, one_two, one_nil, Nat.reduceAdd, Nat.reduceLT, Nat.reduceEqDiff, ↓reduceIte, decide_true, decide_false, Bool.not_true, Bool.not_false, List.getElem?_cons_zero, List.getElem?_cons_succ, List.getElem?_nil]
    try (split <;> simp_all)
  · simp (implicitDefEqProofs := false) only [c28, eq_false h0, eq_false h1, eq_false h2, eq_false h3, eq_false h4, eq_false h5, eq_false h6, eq_false h7, eq_false h8, eq_false h9, eq_false h10, eq_false h11, eq_false h12, eq_false h13, p_convert _ _ _ ti21 ti33, p_convert _ _ _ ti3 ti33, b_and, b_or, b_xor, low32, b_shl, b_shr, one32_ok, enter_eq, setAll_cons, setAll_nil, w_seq, w_reg, o_nil, o_plain, o_skip, o_done, p_assign, p_move, p_pick, pickA_true, pickA_false, p_extract, exA_tup, p_call, opvs_nil, opvs_cons, v_int, v_bool, v_str, v_tmp, evThen_ok, setDst_fset, setDst_none, seqA_normal, seqA_ret, seqA_exit, w_block, blockA_normal, blockA_ret, blockA_exit, w_cond, condA_true, condA_false, w_ret, w_skip, w_exit, w_scope, p_binOp, b_add, b_sub, b_mul, b_eql, b_neq, b_eqlS, b_neqS, b_lss, b_leq, b_gtr, b_geq, p_unOp, u_neg, u_not, c_int, lift_some', look_cons, look_nil, isWant_true, isWant_false, isWant_skipped, Option.some.injEq, Bool.true_eq_false, Bool.false_eq_true, after_ret, after_normal, res_tmp, res_nil, obind_some', get_fset, resOf_some, one_one, one_two, one_nil, Nat.reduceAdd, Nat.reduceLT, Nat.reduceEqDiff, ↓reduceIte, decide_true, decide_false, Bool.not_true, Bool.not_false, List.getElem?_cons_zero, List.getElem?_cons_succ, List.getElem?_nil]
theorem does64_ok (op : List UInt8) (a b : Int) (h : Heap) : callω E 30 [.str op, .int .i64 a, .int .i64 b, .int .i64 64] h = .ok (.int .i64 (doesL .i64 64 op a b)) h := by
  rw [call30 _ (by simp)]
  unfold doesL
  by_cases h0 : op = [43]
  · simp (implicitDefEqProofs := false) only [c30, eq_true h0, p_convert _ _ _ ti2 ti33, p_convert _ _ _ ti3 ti33, b_and, b_or, b_xor, low64, b_shl, b_shr, one64_ok, enter_eq, setAll_cons, setAll_nil, w_seq, w_reg, o_nil, o_plain, o_skip, o_done, p_assign, p_move, p_pick, pickA_true, pickA_false, p_extract, exA_tup, p_call, opvs_nil, opvs_cons, v_int, v_bool, v_str, v_tmp, evThen_ok, setDst_fset, setDst_none, seqA_normal, seqA_ret, seqA_exit, w_block, blockA_normal, blockA_ret, blockA_exit, w_cond, condA_true, condA_false, w_ret, w_skip, w_exit, w_scope, p_binOp, b_add, b_sub, b_mul, b_eql, b_neq, b_eqlS, b_neqS, b_lss, b_leq, b_gtr, b_geq, p_unOp, u_neg, u_not, c_int, lift_some', look_cons, look_nil, isWant_true, isWant_false, isWant_skipped, Option.some.injEq, Bool.true_eq_false, Bool.false_eq_true, after_ret, after_normal, res_tmp, res_nil, obind_some', get_fset, resOf_some, one_one, one_two, one_nil, Nat.reduceAdd, Nat.reduceLT, Nat.reduceEqDiff, ↓reduceIte, decide_true, decide_false, Bool.not_true, Bool.not_false, List.getElem?_cons_zero, List.getElem?_cons_succ, List.getElem?_nil]
  by_cases h1 : op = [45]
  · simp (implicitDefEqProofs := false) only [c30, eq_true h1, eq_false h0, p_convert _ _ _ ti2 ti33, p_convert _ _ _ ti3 ti33, b_and, b_or, b_xor, low64, b_shl, b_shr, one64_ok, enter_eq, setAll_cons, setAll_nil, w_seq, w_reg, o_nil, o_plain, o_skip, o_done, p_assign, p_move, p_pick, pickA_true, pickA_false, p_extract, exA_tup, p_call, opvs_nil, opvs_cons, v_int, v_bool, v_str, v_tmp, evThen_ok, setDst_fset, setDst_none, seqA_normal, seqA_ret, seqA_exit, w_block, blockA_normal, blockA_ret, blockA_exit, w_cond, condA_true, condA_false, w_ret, w_skip, w_exit, w_scope, p_binOp, b_add, b_sub, b_mul, b_eql, b_neq, b_eqlS, b_neqS, b_lss, b_leq, b_gtr, b_geq, p_unOp, u_neg, u_not, c_int, lift_some', look_cons, look_nil, isWant_true, isWant_false, isWant_skipped, Option.some.injEq, Bool.true_eq_false, Bool.false_eq_true, after_ret, after_normal, res_tmp, res_nil, obind_some', get_fset, resOf_some, one_one, one_two, one_nil, Nat.reduceAdd, Nat.reduceLT, Nat.reduceEqDiff, ↓reduceIte, decide_true, decide_false, Bool.not_true, Bool.not_false, List.getElem?_cons_zero, List.getElem?_cons_succ, List.getElem?_nil]
  by_cases h2 : op = [42]
  · simp (implicitDefEqProofs := false) only [c30, eq_true h2, eq_false h0, eq_false h1, p_convert _ _ _ ti2 ti33, p_convert _ _ _ ti3 ti33, b_and, b_or, b_xor, low64, b_shl, b_shr, one64_ok, enter_eq, setAll_cons, setAll_nil, w_seq, w_reg, o_nil, o_plain, o_skip, o_done, p_assign, p_move, p_pick, pickA_true, pickA_false, p_extract, exA_tup, p_call, opvs_nil, opvs_cons, v_int, v_bool, v_str, v_tmp, evThen_ok, setDst_fset, setDst_none, seqA_normal, seqA_ret, seqA_exit, w_block, blockA_normal, blockA_ret, blockA_exit, w_cond, condA_true, condA_false, w_ret, w_skip, w_exit, w_scope, p_binOp, b_add, b_sub, b_mul, b_eql, b_neq, b_eqlS, b_neqS, b_lss, b_leq, b_gtr, b_geq, p_unOp, u_neg, u_not, c_int, lift_some', look_cons, look_nil, isWant_true, isWant_false, isWant_skipped, Option.some.injEq, Bool.true_eq_false, Bool.false_eq_true, after_ret, after_normal, res_tmp, res_nil, obind_some', get_fset, resOf_some, one_one, one_two, one_nil, Nat.reduceAdd, Nat.reduceLT, Nat.reduceEqDiff, ↓reduceIte, decide_true, decide_false, Bool.not_true, Bool.not_false, List.getElem?_cons_zero, List.getElem?_cons_succ, List.getElem?_nil]
  by_cases h3 : op = [38]
  · simp (implicitDefEqProofs := false) only [c30, eq_true h3, eq_false h0, eq_false h1, eq_false h2, p_convert _ _ _ ti2 ti33, p_convert _ _ _ ti3 ti33, b_and, b_or, b_xor, low64, b_shl, b_shr, one64_ok, enter_eq, setAll_cons, setAll_nil, w_seq, w_reg, o_nil, o_plain, o_skip, o_done, p_assign, p_move, p_pick, pickA_true, pickA_false, p_extract, exA_tup, p_call, opvs_nil, opvs_cons, v_int, v_bool, v_str, v_tmp, evThen_ok, setDst_fset, setDst_none, seqA_normal, seqA_ret, seqA_exit, w_block, blockA_normal, blockA_ret, blockA_exit, w_cond, condA_true, condA_false, w_ret, w_skip, w_exit, w_scope, p_binOp, b_add, b_sub, b_mul, b_eql, b_neq, b_eqlS, b_neqS, b_lss, b_leq, b_gtr, b_geq, p_unOp, u_neg, u_not, c_int, lift_some', look_cons, look_nil, isWant_true, isWant_false, isWant_skipped, Option.some.injEq, Bool.true_eq_false, Bool.false_eq_true, after_ret, after_normal, res_tmp, res_nil, obind_some', get_fset, resOf_some, one_one, one_two, one_nil, Nat.reduceAdd, Nat.reduceLT, Nat.reduceEqDiff, ↓reduceIte, decide_true, decide_false, Bool.not_true, Bool.not_false, List.getElem?_cons_zero, List.getElem?_cons_succ, List.getElem?_nil]
  by_cases h4 : op = [124]
  · simp (implicitDefEqProofs := false) only [c30, eq_true h4, eq_false h0, eq_false h1, eq_false h2, eq_false h3, p_convert _ _ _ ti2 ti33, p_convert _ _ _ ti3 ti33, b_and, b_or, b_xor, low64, b_shl, b_shr, one64_ok, enter_eq, setAll_cons, setAll_nil, w_seq, w_reg, o_nil, o_plain, o_skip, o_done, p_assign, p_move, p_pick, pickA_true, pickA_false, p_extract, exA_tup, p_call, opvs_nil, opvs_cons, v_int, v_bool, v_str, v_tmp, evThen_ok, setDst_fset, setDst_none, seqA_normal, seqA_ret, seqA_exit, w_block, blockA_normal, blockA_ret, blockA_exit, w_cond, condA_true, condA_false, w_ret, w_skip, w_exit, w_scope, p_binOp, b_add, b_sub, b_mul, b_eql, b_neq, b_eqlS, b_neqS, b_lss, b_leq, b_gtr, b_geq, p_unOp, u_neg, u_not, c_int, lift_some', look_cons, look_nil, isWant_true, isWant_false, isWant_skipped, Option.some.injEq, Bool.true_eq_false, Bool.false_eq_true, after_ret, after_normal, res_tmp, res_nil, obind_some', get_fset, resOf_some, one_one, one_two, one_nil, Nat.reduceAdd, Nat.reduceLT, Nat.reduceEqDiff, ↓reduceIte, decide_true, decide_false, Bool.not_true, Bool.not_false, List.getElem?_cons_zero, List.getElem?_cons_succ, List.getElem?_nil]
  by_cases h5 : op = [94]
  · simp (implicitDefEqProofs := false) only [c30, eq_true h5, eq_false h0, eq_false h1, eq_false h2, eq_false h3, eq_false h4, p_convert _ _ _ ti2 ti33, p_convert _ _ _ ti3 ti33, b_and, b_or, b_xor, low64, b_shl, b_shr, one64_ok, enter_eq, setAll_cons, setAll_nil, w_seq, w_reg, o_nil, o_plain, o_skip, o_done, p_assign, p_move, p_pick, pickA_true, pickA_false, p_extract, exA_tup, p_call, opvs_nil, opvs_cons, v_int, v_bool, v_str, v_tmp, evThen_ok, setDst_fset, setDst_none, seqA_normal, seqA_ret, seqA_exit, w_block, blockA_normal, blockA_ret, blockA_exit, w_cond, condA_true, condA_false, w_ret, w_skip, w_exit, w_scope, p_binOp, b_add, b_sub, b_mul, b_eql, b_neq, b_eqlS, b_neqS, b_lss, b_leq, b_gtr, b_geq, p_unOp, u_neg, u_not, c_int, lift_some', look_cons, look_nil, isWant_true, isWant_false, isWant_skipped, Option.some.injEq, Bool.true_eq_false, Bool.false_eq_true, after_ret, after_normal, res_tmp, res_nil, obind_some', get_fset, resOf_some, one_one, one_two, one_nil, Nat.reduceAdd, Nat.reduceLT, Nat.reduceEqDiff, ↓reduceIte, decide_true, decide_false, Bool.not_true, Bool.not_false, List.getElem?_cons_zero, List.getElem?_cons_succ, List.getElem?_nil]
  by_cases h6 : op = [60, 60]
  · simp (implicitDefEqProofs := false) only [c30, eq_true h6, eq_false h0, eq_false h1, eq_false h2, eq_false h3, eq_false h4, eq_false h5, p_convert _ _ _ ti2 ti33, p_convert _ _ _ ti3 ti33, b_and, b_or, b_xor, low64, b_shl, b_shr, one64_ok, enter_eq, setAll_cons, setAll_nil, w_seq, w_reg, o_nil, o_plain, o_skip, o_done, p_assign, p_move, p_pick, pickA_true, pickA_false, p_extract, exA_tup, p_call, opvs_nil, opvs_cons, v_int, v_bool, v_str, v_tmp, evThen_ok, setDst_fset, setDst_none, seqA_normal, seqA_ret, seqA_exit, w_block, blockA_normal, blockA_ret, blockA_exit, w_cond, condA_true, condA_false, w_ret, w_skip, w_exit, w_scope, p_binOp, b_add, b_sub, b_mul, b_eql, b_neq, b_eqlS, b_neqS, b_lss, b_leq, b_gtr, b_geq, p_unOp, u_neg, u_not, c_int, lift_some', look_cons, look_nil, isWant_true, isWant_false, isWant_skipped, Option.some.injEq, Bool.true_eq_false, Bool.false_eq_true, after_ret, after_normal, res_tmp, res_nil, obind_some', get_fset, resOf_some, one_one, one_two, one_nil, Nat.reduceAdd, Nat.reduceLT, Nat.reduceEqDiff, ↓reduceIte, decide_true, decide_false, Bool.not_true, Bool.not_false, List.getElem?_cons_zero, List.getElem?_cons_succ, List.getElem?_nil]
  by_cases h7 : op = [62, 62]
  · simp (implicitDefEqProofs := false) only [c30, eq_true h7, eq_false h0, eq_false h1, eq_false h2, eq_false h3, eq_false h4, eq_false h5, eq_false h6, p_convert _ _ _ ti2 ti33, p_convert _ _ _ ti3 ti33, b_and, b_or, b_xor, low64, b_shl, b_shr, one64_ok, enter_eq, setAll_cons, setAll_nil, w_seq, w_reg, o_nil, o_plain, o_skip, o_done, p_assign, p_move, p_pick, pickA_true, pickA_false, p_extract, exA_tup, p_call, opvs_nil, opvs_cons, v_int, v_bool, v_str, v_tmp, evThen_ok, setDst_fset, setDst_none, seqA_normal, seqA_ret, seqA_exit, w_block, blockA_normal, blockA_ret, blockA_exit, w_cond, condA_true, condA_false, w_ret, w_skip, w_exit, w_scope, p_binOp, b_add, b_sub, b_mul, b_eql, b_neq, b_eqlS, b_neqS, b_lss, b_leq, b_gtr, b_geq, p_unOp, u_neg, u_not, c_int, lift_some', look_cons, look_nil, isWant_true, isWant_false, isWant_skipped, Option.some.injEq, Bool.true_eq_false, Bool.false_eq_true, after_ret, after_normal, res_tmp, res_nil, obind_some', get_fset, resOf_some, one_one, one_two, one_nil, Nat.reduceAdd, Nat.reduceLT, Nat.reduceEqDiff, ↓reduceIte, decide_true, decide_false, Bool.not_true, Bool.not_false, List.getElem?_cons_zero, List.getElem?_cons_succ, List.getElem?_nil]
  by_cases h8 : op = [61, 61]
  · simp (implicitDefEqProofs := false) only [c30, eq_true h8, eq_false h0, eq_false h1, eq_false h2, eq_false h3, eq_false h4, eq_false h5, eq_false h6, eq_false h7, p_convert _ _ _ ti2 ti33, p_convert _ _ _ ti3 ti33, b_and, b_or, b_xor, low64, b_shl, b_shr, one64_ok, enter_eq, setAll_cons, setAll_nil, w_seq, w_reg, o_nil, o_plain, o_skip, o_done, p_assign, p_move, p_pick, pickA_true, pickA_false, p_extract, exA_tup, p_call, opvs_nil, opvs_cons, v_int, v_bool, v_str, v_tmp, evThen_ok, setDst_fset, setDst_none, seqA_normal, seqA_ret, seqA_exit, w_block, blockA_normal, blockA_ret, blockA_exit, w_cond, condA_true, condA_false, w_ret, w_skip, w_exit, w_scope, p_binOp, b_add, b_sub, b_mul, b_eql, b_neq, b_eqlS, b_neqS, b_lss, b_leq, b_gtr, b_geq, p_unOp, u_neg, u_not, c_int, lift_some', look_cons, look_nil, isWant_true, isWant_false, isWant_skipped, Option.some.injEq, Bool.true_eq_false, Bool.false_eq_true, after_ret, after_normal, res_tmp, res_nil, obind_some', get_fset, resOf_some, one_one, one_two, one_nil, Nat.reduceAdd, Nat.reduceLT, Nat.reduceEqDiff, ↓reduceIte, decide_true, decide_false, Bool.not_true, Bool.not_false, List.getElem?_cons_zero, List.getElem?_cons_succ, List.getElem?_nil]
    try (split <;> simp_all)
  by_cases h9 : op = [33, 61]
  · simp (implicitDefEqProofs := false) only [c30, eq_true h9, eq_false h0, eq_false h1, eq_false h2, eq_false h3, eq_false h4, eq_false h5, eq_false h6, eq_false h7, eq_false h8, p_convert _ _ _ ti2 ti33, p_convert _ _ _ ti3 ti33, b_and, b_or, b_xor, low64, b_shl, b_shr, one64_ok, enter_eq, setAll_cons, setAll_nil, w_seq, w_reg, o_nil, o_plain, o_skip, o_done, p_assign, p_move, p_pick, pickA_true, pickA_false, p_extract, exA_tup, p_call, opvs_nil, opvs_cons, v_int, v_bool, v_str, v_tmp, evThen_ok, setDst_fset, setDst_none, seqA_normal, seqA_ret, seqA_exit, w_block, blockA_normal, blockA_ret, blockA_exit, w_cond, condA_true, condA_false, w_ret, w_skip, w_exit, w_scope, p_binOp, b_add, b_sub, b_mul, b_eql, b_neq, b_eqlS, b_neqS, b_lss, b_leq, b_gtr, b_geq, p_unOp, u_neg, u_not, c_int, lift_some', look_cons, look_nil, isWant_true, isWant_false, isWant_skipped, Option.some.injEq, Bool.true_eq_false, Bool.false_eq_true, after_ret, after_normal, res_tmp, res_nil, obind_some', get_fset, resOf_some, one_one, one_two, one_nil, Nat.reduceAdd, Nat.reduceLT, Nat.reduceEqDiff, ↓reduceIte, decide_true, decide_false, Bool.not_true, Bool.not_false, List.getElem?_cons_zero, List.getElem?_cons_succ, List.getElem?_nil]
    try (split <;> simp_all)
  by_cases h10 : op = [60]
  · simp (implicitDefEqProofs := false) only [c30, eq_true h10, eq_false h0, eq_false h1, eq_false h2, eq_false h3, eq_false h4, eq_false h5, eq_false h6, eq_false h7, eq_false h8, eq_false h9, p_convert _ _ _ ti2 ti33, p_convert _ _ _ ti3 ti33, b_and, b_or, b_xor, low64, b_shl, b_shr, one64_ok, enter_eq, setAll_cons, setAll_nil, w_seq, w_reg, o_nil, o_plain, o_skip, o_done, p_assign, p_move, p_pick, pickA_true, pickA_false, p_extract, exA_tup, p_call, opvs_nil, opvs_cons, v_int, v_bool, v_str, v_tmp, evThen_ok, setDst_fset, setDst_none, seqA_normal, seqA_ret, seqA_exit, w_block, blockA_normal, blockA_ret, blockA_exit, w_cond, condA_true, condA_false, w_ret, w_skip, w_exit, w_scope, p_binOp, b_add, b_sub, b_mul, b_eql, b_neq, b_eqlS, b_neqS, b_lss, b_leq, b_gtr, b_geq, p_unOp, u_neg, u_not, c_int, lift_some', look_cons, look_nil, isWant_true, isWant_false, isWant_skipped, Option.some.injEq, Bool.true_eq_false, Bool.false_eq_true, after_ret, after_normal, res_tmp, res_nil, obind_some', get_fset, resOf_some, one_one, one_two, one_nil, Nat.reduceAdd, Nat.reduceLT, Nat.reduceEqDiff, ↓reduceIte, decide_true, decide_false, Bool.not_true, Bool.not_false, List.getElem?_cons_zero, List.getElem?_cons_succ, List.getElem?_nil]
    try (split <;> simp_all)
  by_cases h11 : op = [60, 61]
  · simp (implicitDefEqProofs := false) only [c30, eq_true h11, eq_false h0, eq_false h1, eq_false h2, eq_false h3, eq_false h4, eq_false h5, eq_false h6, eq_false h7, eq_false h8, eq_false h9, eq_false h10, p_convert _ _ _ ti2 ti33, p_convert _ _ _ ti3 ti33, b_and, b_or, b_xor, low64, b_shl, b_shr, one64_ok, enter_eq, setAll_cons, setAll_nil, w_seq, w_reg, o_nil, o_plain, o_skip, o_done, p_assign, p_move, p_pick, pickA_true, pickA_false, p_extract, exA_tup, p_call, opvs_nil, opvs_cons, v_int, v_bool, v_str, v_tmp, evThen_ok, setDst_fset, setDst_none, seqA_normal, seqA_ret, seqA_exit, w_block, blockA_normal, blockA_ret, blockA_exit, w_cond, condA_true, condA_false, w_ret, w_skip, w_exit, w_scope, p_binOp, b_add, b_sub, b_mul, b_eql, b_neq, b_eqlS, b_neqS, b_lss, b_leq, b_gtr, b_geq, p_unOp, u_neg, u_not, c_int, lift_some', look_cons, look_nil, isWant_true, isWant_false, isWant_skipped, Option.some.injEq, Bool.true_eq_false, Bool.false_eq_true, after_ret, after_normal, res_tmp, res_nil, obind_some', get_fset, resOf_some, one_one, one_two, one_nil, Nat.reduceAdd, Nat.reduceLT, Nat.reduceEqDiff, ↓reduceIte, decide_true, decide_false, Bool.not_true, Bool.not_false, List.getElem?_cons_zero, List.getElem?_cons_succ, List.getElem?_nil]
    try (split <;> simp_all)
  by_cases h12 : op = [62]
  · simp (implicitDefEqProofs := false) only [c30, eq_true h12, eq_false h0, eq_false h1, eq_false h2, eq_false h3, eq_false h4, eq_false h5, eq_false h6, eq_false h7, eq_false h8, eq_false h9, eq_false h10, eq_false h11, p_convert _ _ _ ti2 ti33, p_convert _ _ _ ti3 ti33, b_and, b_or, b_xor, low64, b_shl, b_shr, one64_ok, enter_eq, setAll_cons, setAll_nil, w_seq, w_reg, o_nil, o_plain, o_skip, o_done, p_assign, p_move, p_pick, pickA_true, pickA_false, p_extract, exA_tup, p_call, opvs_nil, opvs_cons, v_int, v_bool, v_str, v_tmp, evThen_ok, setDst_fset, setDst_none, seqA_normal, seqA_ret, seqA_exit, w_block, blockA_normal, blockA_ret, blockA_exit, w_cond, condA_true, condA_false, w_ret, w_skip, w_exit, w_scope, p_binOp, b_add, b_sub, b_mul, b_eql, b_neq, b_eqlS, b_neqS, b_lss, b_leq, b_gtr, b_geq, p_unOp, u_neg, u_not, c_int, lift_some', look_cons, look_nil, isWant_true, isWant_false, isWant_skipped, Option.some.injEq, Bool.true_eq_false, Bool.false_eq_true, after_ret, after_normal, res_tmp, res_nil, obind_some', get_fset, resOf_some, one_one, one_two, one_nil, Nat.reduceAdd, Nat.reduceLT, Nat.reduceEqDiff, ↓reduceIte, decide_true, decide_false, Bool.not_true, Bool.not_false, List.getElem?_cons_zero, List.getElem?_cons_succ, List.getElem?_nil]
    try (split <;> simp_all)
  by_cases h13 : op = [62, 61]
  · simp (implicitDefEqProofs := false) only [c30, eq_true h13, eq_false h0, eq_false h1, eq_false h2, eq_false h3, eq_false h4, eq_false h5, eq_false h6, eq_false h7, eq_false h8, eq_false h9, eq_false h10, eq_false h11, eq_false h12, p_convert _ _ _ ti2 ti33, p_convert _ _ _ ti3 ti33, b_and, b_or, b_xor, low64, b_shl, b_shr, one64_ok, enter_eq, setAll_cons, setAll_nil, w_seq, w_reg, o_nil, o_plain, o_skip, o_done, p_assign, p_move, p_pick, pickA_true, pickA_false, p_extract, exA_tup, p_call, opvs_nil, opvs_cons, v_int, v_bool, v_str, v_tmp, evThen_ok, setDst_fset, setDst_none, seqA_normal, seqA_ret, seqA_exit, w_block, blockA_normal, blockA_ret, blockA_exit, w_cond, condA_true, condA_false, w_ret, w_skip, w_exit, w_scope, p_binOp, b_add, b_sub, b_mul, b_eql, b_neq, b_eqlS, b_neqS, b_lss, b_leq, b_gtr, b_geq, p_unOp, u_neg, u_not, c_int, lift_some', look_cons, look_nil, isWant_true, isWant_false, isWant_skipped, Option.some.injEq, Bool.true_eq_false, Bool.false_eq_true, after_ret, after_normal, res_tmp, res_nil, obind_some', get_fset, resOf_some, one_one, one_two, one_nil, Nat.reduceAdd, Nat.reduceLT, Nat.reduceEqDiff, ↓reduceIte, decide_true, decide_false, Bool.not_true, Bool.not_false, List.getElem?_cons_zero, List.getElem?_cons_succ, List.getElem?_nil]
    try (split <;> simp_all)
  · simp (implicitDefEqProofs := false) only [c30, eq_false h0, eq_false h1, eq_false h2, eq_false h3, eq_false h4, eq_false h5, eq_false h6, eq_false h7, eq_false h8, eq_false h9, eq_false h10, eq_false h11, eq_false h12, eq_false h13, p_convert _ _ _ ti2 ti33, p_convert _ _ _ ti3 ti33, b_and, b_or, b_xor, low64, b_shl, b_shr, one64_ok, enter_eq, setAll_cons, setAll_nil, w_seq, w_reg, o_nil, o_plain, o_skip, o_done, p_assign, p_move, p_pick, pickA_true, pickA_false, p_extract, exA_tup, p_call, opvs_nil, opvs_cons, v_int, v_bool, v_str, v_tmp, evThen_ok, setDst_fset, setDst_none, seqA_normal, seqA_ret, seqA_exit, w_block, blockA_normal, blockA_ret, blockA_exit, w_cond, condA_true, condA_false, w_ret, w_skip, w_exit, w_scope, p_binOp, b_add, b_sub, b_mul, b_eql, b_neq, b_eqlS, b_neqS, b_lss, b_leq, b_gtr, b_geq, p_unOp, u_neg, u_not, c_int, lift_some', look_cons, look_nil, isWant_true, isWant_false, isWant_skipped, Option.some.injEq, Bool.true_eq_false, Bool.false_eq_true, after_ret, after_normal, res_tmp, res_nil, obind_some', get_fset, resOf_some, one_one, one_two, one_nil, Nat.reduceAdd, Nat.reduceLT, Nat.reduceEqDiff, ↓reduceIte, decide_true, decide_false, Bool.not_true, Bool.not_false, List.getElem?_cons_zero, List.getElem?_cons_succ, List.getElem?_nil]
end Go.Proofs.Word
namespace Go.Proofs.Word
open Go Go.AM
theorem two_int (k j : IntKind) (x : Int × Int) : AV.tup [.int k x.1, .int j x.2] = AV.tup [.int k x.1, .int j x.2] := rfl

theorem div32_ok (op : List UInt8) (a b : Int) (h : Heap) : callω E 27 [.str op, .int .i32 a, .int .i32 b] h = .ok (.tup [.int .i32 (divL .i32 op a b).1, .int .i64 (divL .i32 op a b).2]) h := by
  rw [call27 _ (by simp)]
  unfold divL
  by_cases h0 : b = 0
  · simp (implicitDefEqProofs := false) only [c27, h0, enter_eq, setAll_cons, setAll_nil, w_seq, w_reg, o_nil, o_plain, o_skip, o_done, p_assign, p_move, p_pick, pickA_true, pickA_false, p_extract, exA_tup, p_call, opvs_nil, opvs_cons, v_int, v_bool, v_str, v_tmp, evThen_ok, setDst_fset, setDst_none, seqA_normal, seqA_ret, seqA_exit, w_block, blockA_normal, blockA_ret, blockA_exit, w_cond, condA_true, condA_false, w_ret, w_skip, w_exit, w_scope, p_binOp, b_add, b_sub, b_mul, b_eql, b_neq, b_eqlS, b_neqS, b_lss, b_leq, b_gtr, b_geq, p_unOp, u_neg, u_not, c_int, lift_some', look_cons, look_nil, isWant_true, isWant_false, isWant_skipped, Option.some.injEq, Bool.true_eq_false, Bool.false_eq_true, after_ret, after_normal, res_tmp, res_nil, obind_some', get_fset, resOf_some, one_one, one_two, one_nil, Nat.reduceAdd, Nat.reduceLT, Nat.reduceEqDiff, ↓reduceIte, decide_true, decide_false, Bool.not_true, Bool.not_false, List.getElem?_cons_zero, List.getElem?_cons_succ, List.getElem?_nil, true_and, and_true, false_and, and_false, ne_eq, not_true, not_false_eq_true]
  by_cases hp : op = [37]
  · by_cases hm : b = -1
    · simp (implicitDefEqProofs := false) only [c27, eq_true hp, hm, Int.reduceNeg, Int.reduceEq, enter_eq, setAll_cons, setAll_nil, w_seq, w_reg, o_nil, o_plain, o_skip, o_done, p_assign, p_move, p_pick, pickA_true, pickA_false, p_extract, exA_tup, p_call, opvs_nil, opvs_cons, v_int, v_bool, v_str, v_tmp, evThen_ok, setDst_fset, setDst_none, seqA_normal, seqA_ret, seqA_exit, w_block, blockA_normal, blockA_ret, blockA_exit, w_cond, condA_true, condA_false, w_ret, w_skip, w_exit, w_scope, p_binOp, b_add, b_sub, b_mul, b_eql, b_neq, b_eqlS, b_neqS, b_lss, b_leq, b_gtr, b_geq, p_unOp, u_neg, u_not, c_int, lift_some', look_cons, look_nil, isWant_true, isWant_false, isWant_skipped, Option.some.injEq, Bool.true_eq_false, Bool.false_eq_true, after_ret, after_normal, res_tmp, res_nil, obind_some', get_fset, resOf_some, one_one, one_two, one_nil, Nat.reduceAdd, Nat.reduceLT, Nat.reduceEqDiff, ↓reduceIte, decide_true, decide_false, Bool.not_true, Bool.not_false, List.getElem?_cons_zero, List.getElem?_cons_succ, List.getElem?_nil, true_and, and_true, false_and, and_false, ne_eq, not_true, not_false_eq_true]
    · simp (implicitDefEqProofs := false) only [c27, eq_true hp, eq_false hm, eq_false h0, b_rem _ _ _ _ h0, enter_eq, setAll_cons, setAll_nil, w_seq, w_reg, o_nil, o_plain, o_skip, o_done, p_assign, p_move, p_pick, pickA_true, pickA_false, p_extract, exA_tup, p_call, opvs_nil, opvs_cons, v_int, v_bool, v_str, v_tmp, evThen_ok, setDst_fset, setDst_none, seqA_normal, seqA_ret, seqA_exit, w_block, blockA_normal, blockA_ret, blockA_exit, w_cond, condA_true, condA_false, w_ret, w_skip, w_exit, w_scope, p_binOp, b_add, b_sub, b_mul, b_eql, b_neq, b_eqlS, b_neqS, b_lss, b_leq, b_gtr, b_geq, p_unOp, u_neg, u_not, c_int, lift_some', look_cons, look_nil, isWant_true, isWant_false, isWant_skipped, Option.some.injEq, Bool.true_eq_false, Bool.false_eq_true, after_ret, after_normal, res_tmp, res_nil, obind_some', get_fset, resOf_some, one_one, one_two, one_nil, Nat.reduceAdd, Nat.reduceLT, Nat.reduceEqDiff, ↓reduceIte, decide_true, decide_false, Bool.not_true, Bool.not_false, List.getElem?_cons_zero, List.getElem?_cons_succ, List.getElem?_nil, true_and, and_true, false_and, and_false, ne_eq, not_true, not_false_eq_true]
  by_cases hm : b = -1
  · have hmt := eq_true hm
    by_cases ha : a = 0
    · simp (implicitDefEqProofs := false) only [c27, eq_false hp, eq_true hm, eq_false h0, eq_true ha, b_quo _ _ _ _ h0, enter_eq, setAll_cons, setAll_nil, w_seq, w_reg, o_nil, o_plain, o_skip, o_done, p_assign, p_move, p_pick, pickA_true, pickA_false, p_extract, exA_tup, p_call, opvs_nil, opvs_cons, v_int, v_bool, v_str, v_tmp, evThen_ok, setDst_fset, setDst_none, seqA_normal, seqA_ret, seqA_exit, w_block, blockA_normal, blockA_ret, blockA_exit, w_cond, condA_true, condA_false, w_ret, w_skip, w_exit, w_scope, p_binOp, b_add, b_sub, b_mul, b_eql, b_neq, b_eqlS, b_neqS, b_lss, b_leq, b_gtr, b_geq, p_unOp, u_neg, u_not, c_int, lift_some', look_cons, look_nil, isWant_true, isWant_false, isWant_skipped, Option.some.injEq, Bool.true_eq_false, Bool.false_eq_true, after_ret, after_normal, res_tmp, res_nil, obind_some', get_fset, resOf_some, one_one, one_two, one_nil, Nat.reduceAdd, Nat.reduceLT, Nat.reduceEqDiff, ↓reduceIte, decide_true, decide_false, Bool.not_true, Bool.not_false, List.getElem?_cons_zero, List.getElem?_cons_succ, List.getElem?_nil, true_and, and_true, false_and, and_false, ne_eq, not_true, not_false_eq_true]
    · by_cases hw : IntKind.wrap .i32 (0 - a) = a
      · simp (implicitDefEqProofs := false) only [c27, eq_false hp, eq_true hm, eq_false h0, eq_false ha, eq_true hw, b_quo _ _ _ _ h0, enter_eq, setAll_cons, setAll_nil, w_seq, w_reg, o_nil, o_plain, o_skip, o_done, p_assign, p_move, p_pick, pickA_true, pickA_false, p_extract, exA_tup, p_call, opvs_nil, opvs_cons, v_int, v_bool, v_str, v_tmp, evThen_ok, setDst_fset, setDst_none, seqA_normal, seqA_ret, seqA_exit, w_block, blockA_normal, blockA_ret, blockA_exit, w_cond, condA_true, condA_false, w_ret, w_skip, w_exit, w_scope, p_binOp, b_add, b_sub, b_mul, b_eql, b_neq, b_eqlS, b_neqS, b_lss, b_leq, b_gtr, b_geq, p_unOp, u_neg, u_not, c_int, lift_some', look_cons, look_nil, isWant_true, isWant_false, isWant_skipped, Option.some.injEq, Bool.true_eq_false, Bool.false_eq_true, after_ret, after_normal, res_tmp, res_nil, obind_some', get_fset, resOf_some, one_one, one_two, one_nil, Nat.reduceAdd, Nat.reduceLT, Nat.reduceEqDiff, ↓reduceIte, decide_true, decide_false, Bool.not_true, Bool.not_false, List.getElem?_cons_zero, List.getElem?_cons_succ, List.getElem?_nil, true_and, and_true, false_and, and_false, ne_eq, not_true, not_false_eq_true]
      · simp (implicitDefEqProofs := false) only [c27, eq_false hp, eq_true hm, eq_false h0, eq_false ha, eq_false hw, b_quo _ _ _ _ h0, enter_eq, setAll_cons, setAll_nil, w_seq, w_reg, o_nil, o_plain, o_skip, o_done, p_assign, p_move, p_pick, pickA_true, pickA_false, p_extract, exA_tup, p_call, opvs_nil, opvs_cons, v_int, v_bool, v_str, v_tmp, evThen_ok, setDst_fset, setDst_none, seqA_normal, seqA_ret, seqA_exit, w_block, blockA_normal, blockA_ret, blockA_exit, w_cond, condA_true, condA_false, w_ret, w_skip, w_exit, w_scope, p_binOp, b_add, b_sub, b_mul, b_eql, b_neq, b_eqlS, b_neqS, b_lss, b_leq, b_gtr, b_geq, p_unOp, u_neg, u_not, c_int, lift_some', look_cons, look_nil, isWant_true, isWant_false, isWant_skipped, Option.some.injEq, Bool.true_eq_false, Bool.false_eq_true, after_ret, after_normal, res_tmp, res_nil, obind_some', get_fset, resOf_some, one_one, one_two, one_nil, Nat.reduceAdd, Nat.reduceLT, Nat.reduceEqDiff, ↓reduceIte, decide_true, decide_false, Bool.not_true, Bool.not_false, List.getElem?_cons_zero, List.getElem?_cons_succ, List.getElem?_nil, true_and, and_true, false_and, and_false, ne_eq, not_true, not_false_eq_true]
  · simp (implicitDefEqProofs := false) only [c27, eq_false hp, eq_false hm, eq_false h0, b_quo _ _ _ _ h0, enter_eq, setAll_cons, setAll_nil, w_seq, w_reg, o_nil, o_plain, o_skip, o_done, p_assign, p_move, p_pick, pickA_true, pickA_false, p_extract, exA_tup, p_call, opvs_nil, opvs_cons, v_int, v_bool, v_str, v_tmp, evThen_ok, setDst_fset, setDst_none, seqA_normal, seqA_ret, seqA_exit, w_block, blockA_normal, blockA_ret, blockA_exit, w_cond, condA_true, condA_false, w_ret, w_skip, w_exit, w_scope, p_binOp, b_add, b_sub, b_mul, b_eql, b_neq, b_eqlS, b_neqS, b_lss, b_leq, b_gtr, b_geq, p_unOp, u_neg, u_not, c_int, lift_some', look_cons, look_nil, isWant_true, isWant_false, isWant_skipped, Option.some.injEq, Bool.true_eq_false, Bool.false_eq_true, after_ret, after_normal, res_tmp, res_nil, obind_some', get_fset, resOf_some, one_one, one_two, one_nil, Nat.reduceAdd, Nat.reduceLT, Nat.reduceEqDiff, ↓reduceIte, decide_true, decide_false, Bool.not_true, Bool.not_false, List.getElem?_cons_zero, List.getElem?_cons_succ, List.getElem?_nil, true_and, and_true, false_and, and_false, ne_eq, not_true, not_false_eq_true]
theorem div64_ok (op : List UInt8) (a b : Int) (h : Heap) : callω E 29 [.str op, .int .i64 a, .int .i64 b] h = .ok (.tup [.int .i64 (divL .i64 op a b).1, .int .i64 (divL .i64 op a b).2]) h := by
  rw [call29 _ (by simp)]
  unfold divL
  by_cases h0 : b = 0
  · simp (implicitDefEqProofs := false) only [c29, h0, enter_eq, setAll_cons, setAll_nil, w_seq, w_reg, o_nil, o_plain, o_skip, o_done, p_assign, p_move, p_pick, pickA_true, pickA_false, p_extract, exA_tup, p_call, opvs_nil, opvs_cons, v_int, v_bool, v_str, v_tmp, evThen_ok, setDst_fset, setDst_none, seqA_normal, seqA_ret, seqA_exit, w_block, blockA_normal, blockA_ret, blockA_exit, w_cond, condA_true, condA_false, w_ret, w_skip, w_exit, w_scope, p_binOp, b_add, b_sub, b_mul, b_eql, b_neq, b_eqlS, b_neqS, b_lss, b_leq, b_gtr, b_geq, p_unOp, u_neg, u_not, c_int, lift_some', look_cons, look_nil, isWant_true, isWant_false, isWant_skipped, Option.some.injEq, Bool.true_eq_false, Bool.false_eq_true, after_ret, after_normal, res_tmp, res_nil, obind_some', get_fset, resOf_some, one_one, one_two, one_nil, Nat.reduceAdd, Nat.reduceLT, Nat.reduceEqDiff, ↓reduceIte, decide_true, decide_false, Bool.not_true, Bool.not_false, List.getElem?_cons_zero, List.getElem?_cons_succ, List.getElem?_nil, true_and, and_true, false_and, and_false, ne_eq, not_true, not_false_eq_true]
  by_cases hp : op = [37]
  · by_cases hm : b = -1
    · simp (implicitDefEqProofs := false) only [c29, eq_true hp, hm, Int.reduceNeg, Int.reduceEq, enter_eq, setAll_cons, setAll_nil, w_seq, w_reg, o_nil, o_plain, o_skip, o_done, p_assign, p_move, p_pick, pickA_true, pickA_false, p_extract, exA_tup, p_call, opvs_nil, opvs_cons, v_int, v_bool, v_str, v_tmp, evThen_ok, setDst_fset, setDst_none, seqA_normal, seqA_ret, seqA_exit, w_block, blockA_normal, blockA_ret, blockA_exit, w_cond, condA_true, condA_false, w_ret, w_skip, w_exit, w_scope, p_binOp, b_add, b_sub, b_mul, b_eql, b_neq, b_eqlS, b_neqS, b_lss, b_leq, b_gtr, b_geq, p_unOp, u_neg, u_not, c_int, lift_some', look_cons, look_nil, isWant_true, isWant_false, isWant_skipped, Option.some.injEq, Bool.true_eq_false, Bool.false_eq_true, after_ret, after_normal, res_tmp, res_nil, obind_some', get_fset, resOf_some, one_one, one_two, one_nil, Nat.reduceAdd, Nat.reduceLT, Nat.reduceEqDiff, ↓reduceIte, decide_true, decide_false, Bool.not_true, Bool.not_false, List.getElem?_cons_zero, List.getElem?_cons_succ, List.getElem?_nil, true_and, and_true, false_and, and_false, ne_eq, not_true, not_false_eq_true]
    · simp (implicitDefEqProofs := false) only [c29, eq_true hp, eq_false hm, eq_false h0, b_rem _ _ _ _ h0, enter_eq, setAll_cons, setAll_nil, w_seq, w_reg, o_nil, o_plain, o_skip, o_done, p_assign, p_move, p_pick, pickA_true, pickA_false, p_extract, exA_tup, p_call, opvs_nil, opvs_cons, v_int, v_bool, v_str, v_tmp, evThen_ok, setDst_fset, setDst_none, seqA_normal, seqA_ret, seqA_exit, w_block, blockA_normal, blockA_ret, blockA_exit, w_cond, condA_true, condA_false, w_ret, w_skip, w_exit, w_scope, p_binOp, b_add, b_sub, b_mul, b_eql, b_neq, b_eqlS, b_neqS, b_lss, b_leq, b_gtr, b_geq, p_unOp, u_neg, u_not, c_int, lift_some', look_cons, look_nil, isWant_true, isWant_false, isWant_skipped, Option.some.injEq, Bool.true_eq_false, Bool.false_eq_true, after_ret, after_normal, res_tmp, res_nil, obind_some', get_fset, resOf_some, one_one, one_two, one_nil, Nat.reduceAdd, Nat.reduceLT, Nat.reduceEqDiff, ↓reduceIte, decide_true, decide_false, Bool.not_true, Bool.not_false, List.getElem?_cons_zero, List.getElem?_cons_succ, List.getElem?_nil, true_and, and_true, false_and, and_false, ne_eq, not_true, not_false_eq_true]
  by_cases hm : b = -1
  · have hmt := eq_true hm
    by_cases ha : a = 0
    · simp (implicitDefEqProofs := false) only [c29, eq_false hp, eq_true hm, eq_false h0, eq_true ha, b_quo _ _ _ _ h0, enter_eq, setAll_cons, setAll_nil, w_seq, w_reg, o_nil, o_plain, o_skip, o_done, p_assign, p_move, p_pick, pickA_true, pickA_false, p_extract, exA_tup, p_call, opvs_nil, opvs_cons, v_int, v_bool, v_str, v_tmp, evThen_ok, setDst_fset, setDst_none, seqA_normal, seqA_ret, seqA_exit, w_block, blockA_normal, blockA_ret, blockA_exit, w_cond, condA_true, condA_false, w_ret, w_skip, w_exit, w_scope, p_binOp, b_add, b_sub, b_mul, b_eql, b_neq, b_eqlS, b_neqS, b_lss, b_leq, b_gtr, b_geq, p_unOp, u_neg, u_not, c_int, lift_some', look_cons, look_nil, isWant_true, isWant_false, isWant_skipped, Option.some.injEq, Bool.true_eq_false, Bool.false_eq_true, after_ret, after_normal, res_tmp, res_nil, obind_some', get_fset, resOf_some, one_one, one_two, one_nil, Nat.reduceAdd, Nat.reduceLT, Nat.reduceEqDiff, ↓reduceIte, decide_true, decide_false, Bool.not_true, Bool.not_false, List.getElem?_cons_zero, List.getElem?_cons_succ, List.getElem?_nil, true_and, and_true, false_and, and_false, ne_eq, not_true, not_false_eq_true]
    · by_cases hw : IntKind.wrap .i64 (0 - a) = a
      · simp (implicitDefEqProofs := false) only [c29, eq_false hp, eq_true hm, eq_false h0, eq_false ha, eq_true hw, b_quo _ _ _ _ h0, enter_eq, setAll_cons, setAll_nil, w_seq, w_reg, o_nil, o_plain, o_skip, o_done, p_assign, p_move, p_pick, pickA_true, pickA_false, p_extract, exA_tup, p_call, opvs_nil, opvs_cons, v_int, v_bool, v_str, v_tmp, evThen_ok, setDst_fset, setDst_none, seqA_normal, seqA_ret, seqA_exit, w_block, blockA_normal, blockA_ret, blockA_exit, w_cond, condA_true, condA_false, w_ret, w_skip, w_exit, w_scope, p_binOp, b_add, b_sub, b_mul, b_eql, b_neq, b_eqlS, b_neqS, b_lss, b_leq, b_gtr, b_geq, p_unOp, u_neg, u_not, c_int, lift_some', look_cons, look_nil, isWant_true, isWant_false, isWant_skipped, Option.some.injEq, Bool.true_eq_false, Bool.false_eq_true, after_ret, after_normal, res_tmp, res_nil, obind_some', get_fset, resOf_some, one_one, one_two, one_nil, Nat.reduceAdd, Nat.reduceLT, Nat.reduceEqDiff, ↓reduceIte, decide_true, decide_false, Bool.not_true, Bool.not_false, List.getElem?_cons_zero, List.getElem?_cons_succ, List.getElem?_nil, true_and, and_true, false_and, and_false, ne_eq, not_true, not_false_eq_true]
      · simp (implicitDefEqProofs := false) only [c29, eq_false hp, eq_true hm, eq_false h0, eq_false ha, eq_false hw, b_quo _ _ _ _ h0, enter_eq, setAll_cons, setAll_nil, w_seq, w_reg, o_nil, o_plain, o_skip, o_done, p_assign, p_move, p_pick, pickA_true, pickA_false, p_extract, exA_tup, p_call, opvs_nil, opvs_cons, v_int, v_bool, v_str, v_tmp, evThen_ok, setDst_fset, setDst_none, seqA_normal, seqA_ret, seqA_exit, w_block, blockA_normal, blockA_ret, blockA_exit, w_cond, condA_true, condA_false, w_ret, w_skip, w_exit, w_scope, p_binOp, b_add, b_sub, b_mul, b_eql, b_neq, b_eqlS, b_neqS, b_lss, b_leq, b_gtr, b_geq, p_unOp, u_neg, u_not, c_int, lift_some', look_cons, look_nil, isWant_true, isWant_false, isWant_skipped, Option.some.injEq, Bool.true_eq_false, Bool.false_eq_true, after_ret, after_normal, res_tmp, res_nil, obind_some', get_fset, resOf_some, one_one, one_two, one_nil, Nat.reduceAdd, Nat.reduceLT, Nat.reduceEqDiff, ↓reduceIte, decide_true, decide_false, Bool.not_true, Bool.not_false, List.getElem?_cons_zero, List.getElem?_cons_succ, List.getElem?_nil, true_and, and_true, false_and, and_false, ne_eq, not_true, not_false_eq_true]
  · simp (implicitDefEqProofs := false) only [c29, eq_false hp, eq_false hm, eq_false h0, b_quo _ _ _ _ h0, enter_eq, setAll_cons, setAll_nil, w_seq, w_reg, o_nil, o_plain, o_skip, o_done, p_assign, p_move, p_pick, pickA_true, pickA_false, p_extract, exA_tup, p_call, opvs_nil, opvs_cons, v_int, v_bool, v_str, v_tmp, evThen_ok, setDst_fset, setDst_none, seqA_normal, seqA_ret, seqA_exit, w_block, blockA_normal, blockA_ret, blockA_exit, w_cond, condA_true, condA_false, w_ret, w_skip, w_exit, w_scope, p_binOp, b_add, b_sub, b_mul, b_eql, b_neq, b_eqlS, b_neqS, b_lss, b_leq, b_gtr, b_geq, p_unOp, u_neg, u_not, c_int, lift_some', look_cons, look_nil, isWant_true, isWant_false, isWant_skipped, Option.some.injEq, Bool.true_eq_false, Bool.false_eq_true, after_ret, after_normal, res_tmp, res_nil, obind_some', get_fset, resOf_some, one_one, one_two, one_nil, Nat.reduceAdd, Nat.reduceLT, Nat.reduceEqDiff, ↓reduceIte, decide_true, decide_false, Bool.not_true, Bool.not_false, List.getElem?_cons_zero, List.getElem?_cons_succ, List.getElem?_nil, true_and, and_true, false_and, and_false, ne_eq, not_true, not_false_eq_true]

noncomputable def core (k : IntKind) (m : Int) (op : List UInt8) (a b : Int) : Int × Int := if op = [47] ∨ op = [37] then divL k op a b else (doesL k m op a b, 0)


theorem wrapN32_in (m : Nat) (h : m < 4294967296) : In32 (wrapN .i32 m) := by
  unfold wrapN In32
  have hh : half .i32 = 2147483648 := rfl
  have hp : pow2 .i32 = 4294967296 := rfl
  rw [hh, hp]
  cases e : Nat.ble 2147483648 m with
  | true =>
    have := ble_true e
    have : Int.negSucc (Nat.sub (Nat.sub 4294967296 m) 1) = (m : Int) - 4294967296 := by
      have h2 : Nat.sub (Nat.sub 4294967296 m) 1 = 4294967296 - m - 1 := rfl
      rw [h2]; omega
    simp only [cond_true, this]; omega
  | false =>
    have : ¬ 2147483648 ≤ m := fun e' => by rw [Nat.ble_eq_true_of_le e'] at e; cases e
    simp only [cond_false, Int.ofNat_eq_natCast]; omega
theorem modN32_lt (n : Int) : modN n (pow2 .i32) < 4294967296 := by
  have := modN_eq n (pow2 .i32) (pow2_pos _)
  have h2 : pow2 .i32 = 4294967296 := rfl
  rw [h2] at this ⊢
  omega
theorem in_ite {c : Prop} [Decidable c] {x y : Int} (hx : In32 x) (hy : In32 y) : In32 (if c then x else y) := by by_cases h : c; rw [if_pos h]; exact hx; rw [if_neg h]; exact hy
theorem does32_in (m : Int) (op : List UInt8) (a b : Int) (ha : In32 a) : In32 (doesL .i32 m op a b) := by
  have z : In32 0 := ⟨by omega, by omega⟩
  have o : In32 1 := ⟨by omega, by omega⟩
  have hl := modN32_lt a
  have hr := modN32_lt b
  unfold doesL
  refine in_ite (wrap32_in _) (in_ite (wrap32_in _) (in_ite (wrap32_in _) (in_ite ?_ (in_ite ?_ (in_ite ?_ (in_ite (wrap32_in _) (in_ite ?_ (in_ite (in_ite o z) (in_ite (in_ite z o) (in_ite (in_ite o z) (in_ite (in_ite o z) (in_ite (in_ite o z) (in_ite (in_ite o z) z)))))))))))))
  · exact wrapN32_in _ (Nat.lt_of_le_of_lt Nat.and_le_left hl)
  · exact wrapN32_in _ (Nat.or_lt_two_pow (n := 32) hl hr)
  · exact wrapN32_in _ (Nat.xor_lt_two_pow (n := 32) hl hr)
  · obtain ⟨h1, h2⟩ := ha
    have hp : (0 : Int) < ((2 ^ (min (b % m).toNat (bitsOf .i32)) : Nat) : Int) := by have := Nat.two_pow_pos (min (b % m).toNat (bitsOf .i32)); omega
    generalize ((2 ^ (min (b % m).toNat (bitsOf .i32)) : Nat) : Int) = q at hp
    rw [Int.fdiv_eq_ediv_of_nonneg _ (by omega)]
    constructor
    · rcases Int.le_total 0 a with h | h
      · have := Int.ediv_nonneg h (show (0 : Int) ≤ q by omega); omega
      · have h3 : a * q ≤ a * 1 := Int.mul_le_mul_of_nonpos_left h (by omega)
        have := Int.le_ediv_of_mul_le hp (show a * q ≤ a by omega)
        omega
    · rcases Int.le_total 0 a with h | h
      · have := Int.ediv_le_self q h; omega
      · have := Int.ediv_neg_of_neg_of_pos (a := a) (b := q); have h5 := @Int.ediv_le_ediv a 0 q hp h; simp at h5; omega
theorem div32_in (op : List UInt8) (a b : Int) (ha : In32 a) : In32 (divL .i32 op a b).1 := by
  have z : In32 0 := ⟨by omega, by omega⟩
  unfold divL
  split
  · exact z
  split
  · exact z
  split
  · have h1 := Int.natAbs_tmod a b
    have h2 : (a.natAbs % b.natAbs) ≤ a.natAbs := Nat.mod_le _ _
    obtain ⟨h3, h4⟩ := ha
    have h5 := Int.tmod_nonneg (a := a) b
    have h6 := Int.tmod_nonneg (a := -a) b
    rw [Int.neg_tmod] at h6
    constructor <;> (show _ ≤ _) <;> rcases Int.le_total 0 a with h | h <;> first | (have := h5 h; simp only at *; omega) | (have := h6 (by omega); simp only at *; omega)
  split
  · exact z
  · exact wrap32_in _
theorem core32_in (m : Int) (op : List UInt8) (a b : Int) (ha : In32 a) : In32 (core .i32 m op a b).1 := by
  unfold core
  split
  · exact div32_in op a b ha
  · exact does32_in m op a b ha

theorem bin32_ok (op : List UInt8) (a b : Int) (h : Heap) : callω E 21 [.str op, .int .i32 a, .int .i32 b, .int .i64 32] h = .ok (.tup [.int .i64 (IntKind.wrap .i64 (core .i32 32 op a b).1), .int .i64 (core .i32 32 op a b).2]) h := by
  rw [call21 _ (by simp)]
  unfold core
  by_cases h1 : op = [47]
  · simp (implicitDefEqProofs := false) only [c21, eq_true h1, enter_eq, setAll_cons, setAll_nil, w_seq, w_reg, o_nil, o_plain, o_skip, o_done, p_assign, p_move, p_pick, pickA_true, pickA_false, p_extract, exA_tup, p_call, opvs_nil, opvs_cons, v_int, v_bool, v_str, v_tmp, evThen_ok, setDst_fset, setDst_none, seqA_normal, seqA_ret, seqA_exit, w_block, blockA_normal, blockA_ret, blockA_exit, w_cond, condA_true, condA_false, w_ret, w_skip, w_exit, w_scope, p_binOp, b_add, b_sub, b_mul, b_eql, b_neq, b_eqlS, b_neqS, b_lss, b_leq, b_gtr, b_geq, p_unOp, u_neg, u_not, c_int, lift_some', look_cons, look_nil, isWant_true, isWant_false, isWant_skipped, Option.some.injEq, Bool.true_eq_false, Bool.false_eq_true, after_ret, after_normal, res_tmp, res_nil, obind_some', get_fset, resOf_some, one_one, one_two, one_nil, Nat.reduceAdd, Nat.reduceLT, Nat.reduceEqDiff, ↓reduceIte, decide_true, decide_false, Bool.not_true, Bool.not_false, List.getElem?_cons_zero, List.getElem?_cons_succ, List.getElem?_nil, p_convert _ _ _ ti21 ti3, div32_ok, does32_ok, true_or, or_true, or_self, or_false, false_or]
  by_cases h2 : op = [37]
  · simp (implicitDefEqProofs := false) only [c21, eq_false h1, eq_true h2, enter_eq, setAll_cons, setAll_nil, w_seq, w_reg, o_nil, o_plain, o_skip, o_done, p_assign, p_move, p_pick, pickA_true, pickA_false, p_extract, exA_tup, p_call, opvs_nil, opvs_cons, v_int, v_bool, v_str, v_tmp, evThen_ok, setDst_fset, setDst_none, seqA_normal, seqA_ret, seqA_exit, w_block, blockA_normal, blockA_ret, blockA_exit, w_cond, condA_true, condA_false, w_ret, w_skip, w_exit, w_scope, p_binOp, b_add, b_sub, b_mul, b_eql, b_neq, b_eqlS, b_neqS, b_lss, b_leq, b_gtr, b_geq, p_unOp, u_neg, u_not, c_int, lift_some', look_cons, look_nil, isWant_true, isWant_false, isWant_skipped, Option.some.injEq, Bool.true_eq_false, Bool.false_eq_true, after_ret, after_normal, res_tmp, res_nil, obind_some', get_fset, resOf_some, one_one, one_two, one_nil, Nat.reduceAdd, Nat.reduceLT, Nat.reduceEqDiff, ↓reduceIte, decide_true, decide_false, Bool.not_true, Bool.not_false, List.getElem?_cons_zero, List.getElem?_cons_succ, List.getElem?_nil, p_convert _ _ _ ti21 ti3, div32_ok, does32_ok, true_or, or_true, or_self, or_false, false_or]
  · simp (implicitDefEqProofs := false) only [c21, eq_false h1, eq_false h2, enter_eq, setAll_cons, setAll_nil, w_seq, w_reg, o_nil, o_plain, o_skip, o_done, p_assign, p_move, p_pick, pickA_true, pickA_false, p_extract, exA_tup, p_call, opvs_nil, opvs_cons, v_int, v_bool, v_str, v_tmp, evThen_ok, setDst_fset, setDst_none, seqA_normal, seqA_ret, seqA_exit, w_block, blockA_normal, blockA_ret, blockA_exit, w_cond, condA_true, condA_false, w_ret, w_skip, w_exit, w_scope, p_binOp, b_add, b_sub, b_mul, b_eql, b_neq, b_eqlS, b_neqS, b_lss, b_leq, b_gtr, b_geq, p_unOp, u_neg, u_not, c_int, lift_some', look_cons, look_nil, isWant_true, isWant_false, isWant_skipped, Option.some.injEq, Bool.true_eq_false, Bool.false_eq_true, after_ret, after_normal, res_tmp, res_nil, obind_some', get_fset, resOf_some, one_one, one_two, one_nil, Nat.reduceAdd, Nat.reduceLT, Nat.reduceEqDiff, ↓reduceIte, decide_true, decide_false, Bool.not_true, Bool.not_false, List.getElem?_cons_zero, List.getElem?_cons_succ, List.getElem?_nil, p_convert _ _ _ ti21 ti3, div32_ok, does32_ok, true_or, or_true, or_self, or_false, false_or]
theorem bin64_ok (op : List UInt8) (a b : Int) (h : Heap) : callω E 22 [.str op, .int .i64 a, .int .i64 b, .int .i64 64] h = .ok (.tup [.int .i64 (core .i64 64 op a b).1, .int .i64 (core .i64 64 op a b).2]) h := by
  rw [call22 _ (by simp)]
  unfold core
  by_cases h1 : op = [47]
  · simp (implicitDefEqProofs := false) only [c22, eq_true h1, enter_eq, setAll_cons, setAll_nil, w_seq, w_reg, o_nil, o_plain, o_skip, o_done, p_assign, p_move, p_pick, pickA_true, pickA_false, p_extract, exA_tup, p_call, opvs_nil, opvs_cons, v_int, v_bool, v_str, v_tmp, evThen_ok, setDst_fset, setDst_none, seqA_normal, seqA_ret, seqA_exit, w_block, blockA_normal, blockA_ret, blockA_exit, w_cond, condA_true, condA_false, w_ret, w_skip, w_exit, w_scope, p_binOp, b_add, b_sub, b_mul, b_eql, b_neq, b_eqlS, b_neqS, b_lss, b_leq, b_gtr, b_geq, p_unOp, u_neg, u_not, c_int, lift_some', look_cons, look_nil, isWant_true, isWant_false, isWant_skipped, Option.some.injEq, Bool.true_eq_false, Bool.false_eq_true, after_ret, after_normal, res_tmp, res_nil, obind_some', get_fset, resOf_some, one_one, one_two, one_nil, Nat.reduceAdd, Nat.reduceLT, Nat.reduceEqDiff, ↓reduceIte, decide_true, decide_false, Bool.not_true, Bool.not_false, List.getElem?_cons_zero, List.getElem?_cons_succ, List.getElem?_nil, p_convert _ _ _ ti2 ti3, div64_ok, does64_ok, true_or, or_true, or_self, or_false, false_or]
  by_cases h2 : op = [37]
  · simp (implicitDefEqProofs := false) only [c22, eq_false h1, eq_true h2, enter_eq, setAll_cons, setAll_nil, w_seq, w_reg, o_nil, o_plain, o_skip, o_done, p_assign, p_move, p_pick, pickA_true, pickA_false, p_extract, exA_tup, p_call, opvs_nil, opvs_cons, v_int, v_bool, v_str, v_tmp, evThen_ok, setDst_fset, setDst_none, seqA_normal, seqA_ret, seqA_exit, w_block, blockA_normal, blockA_ret, blockA_exit, w_cond, condA_true, condA_false, w_ret, w_skip, w_exit, w_scope, p_binOp, b_add, b_sub, b_mul, b_eql, b_neq, b_eqlS, b_neqS, b_lss, b_leq, b_gtr, b_geq, p_unOp, u_neg, u_not, c_int, lift_some', look_cons, look_nil, isWant_true, isWant_false, isWant_skipped, Option.some.injEq, Bool.true_eq_false, Bool.false_eq_true, after_ret, after_normal, res_tmp, res_nil, obind_some', get_fset, resOf_some, one_one, one_two, one_nil, Nat.reduceAdd, Nat.reduceLT, Nat.reduceEqDiff, ↓reduceIte, decide_true, decide_false, Bool.not_true, Bool.not_false, List.getElem?_cons_zero, List.getElem?_cons_succ, List.getElem?_nil, p_convert _ _ _ ti2 ti3, div64_ok, does64_ok, true_or, or_true, or_self, or_false, false_or]
  · simp (implicitDefEqProofs := false) only [c22, eq_false h1, eq_false h2, enter_eq, setAll_cons, setAll_nil, w_seq, w_reg, o_nil, o_plain, o_skip, o_done, p_assign, p_move, p_pick, pickA_true, pickA_false, p_extract, exA_tup, p_call, opvs_nil, opvs_cons, v_int, v_bool, v_str, v_tmp, evThen_ok, setDst_fset, setDst_none, seqA_normal, seqA_ret, seqA_exit, w_block, blockA_normal, blockA_ret, blockA_exit, w_cond, condA_true, condA_false, w_ret, w_skip, w_exit, w_scope, p_binOp, b_add, b_sub, b_mul, b_eql, b_neq, b_eqlS, b_neqS, b_lss, b_leq, b_gtr, b_geq, p_unOp, u_neg, u_not, c_int, lift_some', look_cons, look_nil, isWant_true, isWant_false, isWant_skipped, Option.some.injEq, Bool.true_eq_false, Bool.false_eq_true, after_ret, after_normal, res_tmp, res_nil, obind_some', get_fset, resOf_some, one_one, one_two, one_nil, Nat.reduceAdd, Nat.reduceLT, Nat.reduceEqDiff, ↓reduceIte, decide_true, decide_false, Bool.not_true, Bool.not_false, List.getElem?_cons_zero, List.getElem?_cons_succ, List.getElem?_nil, p_convert _ _ _ ti2 ti3, div64_ok, does64_ok, true_or, or_true, or_self, or_false, false_or]

/-- What an operation makes of two numbers. -/
noncomputable def binL (t : Int) (op : List UInt8) (a b : Int) : Int × Int :=
  if t = 1 then core .i32 32 op (IntKind.wrap .i32 a) (IntKind.wrap .i32 b) else if t = 2 then core .i64 64 op a b else (0, 0)
theorem Bin_ok (t : Int) (op : List UInt8) (a b : Int) (h : Heap) : callω E 14 [.int .i64 t, .str op, .int .i64 a, .int .i64 b] h = .ok (.tup [.int .i64 (binL t op a b).1, .int .i64 (binL t op a b).2]) h := by
  rw [call14 _ (by simp)]
  unfold binL
  by_cases h1 : t = 1
  · simp (implicitDefEqProofs := false) only [c14, eq_true h1, p_convert _ _ _ ti3 ti21, bin32_ok, bin64_ok, wrap64_id (core32_in 32 op _ _ (wrap32_in _)).in64, enter_eq, setAll_cons, setAll_nil, w_seq, w_reg, o_nil, o_plain, o_skip, o_done, p_assign, p_move, p_pick, pickA_true, pickA_false, p_extract, exA_tup, p_call, opvs_nil, opvs_cons, v_int, v_bool, v_str, v_tmp, evThen_ok, setDst_fset, setDst_none, seqA_normal, seqA_ret, seqA_exit, w_block, blockA_normal, blockA_ret, blockA_exit, w_cond, condA_true, condA_false, w_ret, w_skip, w_exit, w_scope, p_binOp, b_add, b_sub, b_mul, b_eql, b_neq, b_eqlS, b_neqS, b_lss, b_leq, b_gtr, b_geq, p_unOp, u_neg, u_not, c_int, lift_some', look_cons, look_nil, isWant_true, isWant_false, isWant_skipped, Option.some.injEq, Bool.true_eq_false, Bool.false_eq_true, after_ret, after_normal, res_tmp, res_nil, obind_some', get_fset, resOf_some, one_one, one_two, one_nil, Nat.reduceAdd, Nat.reduceLT, Nat.reduceEqDiff, ↓reduceIte, decide_true, decide_false, Bool.not_true, Bool.not_false, List.getElem?_cons_zero, List.getElem?_cons_succ, List.getElem?_nil]
  by_cases h2 : t = 2
  · simp (implicitDefEqProofs := false) only [c14, eq_false h1, eq_true h2, bin32_ok, bin64_ok, enter_eq, setAll_cons, setAll_nil, w_seq, w_reg, o_nil, o_plain, o_skip, o_done, p_assign, p_move, p_pick, pickA_true, pickA_false, p_extract, exA_tup, p_call, opvs_nil, opvs_cons, v_int, v_bool, v_str, v_tmp, evThen_ok, setDst_fset, setDst_none, seqA_normal, seqA_ret, seqA_exit, w_block, blockA_normal, blockA_ret, blockA_exit, w_cond, condA_true, condA_false, w_ret, w_skip, w_exit, w_scope, p_binOp, b_add, b_sub, b_mul, b_eql, b_neq, b_eqlS, b_neqS, b_lss, b_leq, b_gtr, b_geq, p_unOp, u_neg, u_not, c_int, lift_some', look_cons, look_nil, isWant_true, isWant_false, isWant_skipped, Option.some.injEq, Bool.true_eq_false, Bool.false_eq_true, after_ret, after_normal, res_tmp, res_nil, obind_some', get_fset, resOf_some, one_one, one_two, one_nil, Nat.reduceAdd, Nat.reduceLT, Nat.reduceEqDiff, ↓reduceIte, decide_true, decide_false, Bool.not_true, Bool.not_false, List.getElem?_cons_zero, List.getElem?_cons_succ, List.getElem?_nil]
  · have : IntKind.wrap .i64 0 = 0 := by decide
    simp (implicitDefEqProofs := false) only [c14, eq_false h1, eq_false h2, bin32_ok, bin64_ok, this, enter_eq, setAll_cons, setAll_nil, w_seq, w_reg, o_nil, o_plain, o_skip, o_done, p_assign, p_move, p_pick, pickA_true, pickA_false, p_extract, exA_tup, p_call, opvs_nil, opvs_cons, v_int, v_bool, v_str, v_tmp, evThen_ok, setDst_fset, setDst_none, seqA_normal, seqA_ret, seqA_exit, w_block, blockA_normal, blockA_ret, blockA_exit, w_cond, condA_true, condA_false, w_ret, w_skip, w_exit, w_scope, p_binOp, b_add, b_sub, b_mul, b_eql, b_neq, b_eqlS, b_neqS, b_lss, b_leq, b_gtr, b_geq, p_unOp, u_neg, u_not, c_int, lift_some', look_cons, look_nil, isWant_true, isWant_false, isWant_skipped, Option.some.injEq, Bool.true_eq_false, Bool.false_eq_true, after_ret, after_normal, res_tmp, res_nil, obind_some', get_fset, resOf_some, one_one, one_two, one_nil, Nat.reduceAdd, Nat.reduceLT, Nat.reduceEqDiff, ↓reduceIte, decide_true, decide_false, Bool.not_true, Bool.not_false, List.getElem?_cons_zero, List.getElem?_cons_succ, List.getElem?_nil]
/-- The same, of a kind; -1, where it traps. -/
noncomputable def lawL (t : Int) (op : List UInt8) (a b : Int) : Int := if (binL t op a b).2 = 0 then (binL t op a b).1 else -1
theorem law_ok (t : Int) (op : List UInt8) (a b : Int) (h : Heap) : callω E 11 [.int .i64 t, .str op, .int .i64 a, .int .i64 b] h = .ok (.int .i64 (lawL t op a b)) h := by
  rw [call11 _ (by simp)]
  unfold lawL
  by_cases h1 : (binL t op a b).2 = 0
  · simp (implicitDefEqProofs := false) only [c11, eq_true h1, Bin_ok, enter_eq, setAll_cons, setAll_nil, w_seq, w_reg, o_nil, o_plain, o_skip, o_done, p_assign, p_move, p_pick, pickA_true, pickA_false, p_extract, exA_tup, p_call, opvs_nil, opvs_cons, v_int, v_bool, v_str, v_tmp, evThen_ok, setDst_fset, setDst_none, seqA_normal, seqA_ret, seqA_exit, w_block, blockA_normal, blockA_ret, blockA_exit, w_cond, condA_true, condA_false, w_ret, w_skip, w_exit, w_scope, p_binOp, b_add, b_sub, b_mul, b_eql, b_neq, b_eqlS, b_neqS, b_lss, b_leq, b_gtr, b_geq, p_unOp, u_neg, u_not, c_int, lift_some', look_cons, look_nil, isWant_true, isWant_false, isWant_skipped, Option.some.injEq, Bool.true_eq_false, Bool.false_eq_true, after_ret, after_normal, res_tmp, res_nil, obind_some', get_fset, resOf_some, one_one, one_two, one_nil, Nat.reduceAdd, Nat.reduceLT, Nat.reduceEqDiff, ↓reduceIte, decide_true, decide_false, Bool.not_true, Bool.not_false, List.getElem?_cons_zero, List.getElem?_cons_succ, List.getElem?_nil]
  · simp (implicitDefEqProofs := false) only [c11, eq_false h1, Bin_ok, enter_eq, setAll_cons, setAll_nil, w_seq, w_reg, o_nil, o_plain, o_skip, o_done, p_assign, p_move, p_pick, pickA_true, pickA_false, p_extract, exA_tup, p_call, opvs_nil, opvs_cons, v_int, v_bool, v_str, v_tmp, evThen_ok, setDst_fset, setDst_none, seqA_normal, seqA_ret, seqA_exit, w_block, blockA_normal, blockA_ret, blockA_exit, w_cond, condA_true, condA_false, w_ret, w_skip, w_exit, w_scope, p_binOp, b_add, b_sub, b_mul, b_eql, b_neq, b_eqlS, b_neqS, b_lss, b_leq, b_gtr, b_geq, p_unOp, u_neg, u_not, c_int, lift_some', look_cons, look_nil, isWant_true, isWant_false, isWant_skipped, Option.some.injEq, Bool.true_eq_false, Bool.false_eq_true, after_ret, after_normal, res_tmp, res_nil, obind_some', get_fset, resOf_some, one_one, one_two, one_nil, Nat.reduceAdd, Nat.reduceLT, Nat.reduceEqDiff, ↓reduceIte, decide_true, decide_false, Bool.not_true, Bool.not_false, List.getElem?_cons_zero, List.getElem?_cons_succ, List.getElem?_nil]
end Go.Proofs.Word
namespace Go.AM
section
variable {E : Env} {fr : Tr} {h : Heap} {call : CallF}
theorem p_indexAddr {t : Nat} {ti : TI} (ht : E.ti t = some ti) (x ix : Operand) : evOp E call (.indexAddr t x ix) fr h = lift (obind (asNat (opv E ix fr)) fun i => indexAddrA E ti.desc i (opv E x fr)) h := by
  show onTI E t Res.bad (fun ti => lift (obind (asNat (opv E ix fr)) fun i => indexAddrA E ti.desc i (opv E x fr)) h) = _
  unfold onTI; rw [ht]
theorem p_load {t : Nat} {ti : TI} (ht : E.ti t = some ti) (x : Operand) : evOp E call (.load t x) fr h = lift (loadA ti (opv E x fr) h) h := by
  show onTI E t Res.bad (fun ti => lift (loadA ti (opv E x fr) h) h) = _
  unfold onTI; rw [ht]
theorem load_push (ti : TI) (i off sz : Nat) (es : List AV) : loadA ti (.ptr h.next i off) (h.push (.row es sz)) = obind es[i]? fun v => partOf ti v.cells off := by
  show (h.push (.row es sz)).onRow h.next none (fun es _ => obind (nthL es i) fun v => partOf ti v.cells off) = _
  unfold Heap.onRow
  rw [Heap.get_push_eq]
  dsimp only; rw [nthL_eq]
theorem asNat0 (k : IntKind) : asNat (.int k 0) = some 0 := rfl
theorem asNat1 (k : IntKind) : asNat (.int k 1) = some 1 := rfl
end
end Go.AM
namespace Go.Proofs.Word
open Go Go.AM
theorem ti9 : E.ti 9 = some ⟨.string, 1, 16, .str []⟩ := by kernel_rfl
theorem ti23 : E.ti 23 = some ⟨.slice 9, 1, 24, .nilsl⟩ := by kernel_rfl
theorem part_str (s : List UInt8) : partOf ⟨.string, 1, 16, .str []⟩ (AV.str s).cells 0 = some (.str s) := rfl
theorem bs23 {call : CallF} (fr : Tr) (h : Heap) : evOp E call (.buildSlice 23 2 #[(0, .const (.string ⟨#[43]⟩)), (1, .const (.string ⟨#[42]⟩))]) fr h = .ok (.msl h.next 0 2 1) (h.push (.row [.str [43], .str [42]] 1)) := by kernel_rfl
theorem ia0 (id : Nat) : indexAddrA E (.slice 9) 0 (.msl id 0 2 1) = some (.ptr id 0 0) := by kernel_rfl
theorem ia1 (id : Nat) : indexAddrA E (.slice 9) 1 (.msl id 0 2 1) = some (.ptr id 1 0) := by kernel_rfl

/-! ### The ring -/
theorem add1 (a b : Int) : lawL 1 [43] a b = (a + b).bmod 4294967296 := by
  simp [lawL, binL, core, doesL, wrap32_bmod]
theorem sub1 (a b : Int) : lawL 1 [45] a b = (a - b).bmod 4294967296 := by
  simp [lawL, binL, core, doesL, wrap32_bmod]
theorem mul1 (a b : Int) : lawL 1 [42] a b = (a * b).bmod 4294967296 := by
  simp [lawL, binL, core, doesL, wrap32_bmod]
theorem add2 (a b : Int) : lawL 2 [43] a b = (a + b).bmod 18446744073709551616 := by
  simp [lawL, binL, core, doesL, wrap64_bmod]
theorem sub2 (a b : Int) : lawL 2 [45] a b = (a - b).bmod 18446744073709551616 := by
  simp [lawL, binL, core, doesL, wrap64_bmod]
theorem mul2 (a b : Int) : lawL 2 [42] a b = (a * b).bmod 18446744073709551616 := by
  simp [lawL, binL, core, doesL, wrap64_bmod]
theorem wrapL1 (a : Int) : wrapL 1 a = a.bmod 4294967296 := by simp [wrapL, wrap32_bmod]
theorem wrapL2 {a : Int} (h : In64 a) : wrapL 2 a = a.bmod 18446744073709551616 := by rw [← wrap64_bmod, wrap64_id h]; simp [wrapL]
structure RingOk (t : Int) (a b c : Int) : Prop where
  ac : lawL t [43] a b = lawL t [43] b a
  aa : lawL t [43] (lawL t [43] a b) c = lawL t [43] a (lawL t [43] b c)
  mc : lawL t [42] a b = lawL t [42] b a
  ma : lawL t [42] (lawL t [42] a b) c = lawL t [42] a (lawL t [42] b c)
  d : lawL t [42] a (lawL t [43] b c) = lawL t [43] (lawL t [42] a b) (lawL t [42] a c)
  s : lawL t [43] (lawL t [45] a b) b = wrapL t a
  z : lawL t [43] a 0 = wrapL t a
  o : lawL t [42] a 1 = wrapL t a
theorem ring_ok (long : Bool) {a b c : Int} (ha : In64 a) : RingOk (if long then 2 else 1) a b c := by
  cases long
  · refine ⟨?_, ?_, ?_, ?_, ?_, ?_, ?_, ?_⟩ <;> simp only [add1, sub1, mul1, wrapL1, Bool.false_eq_true, if_false, Int.bmod_add_bmod, Int.add_bmod_bmod, Int.bmod_mul_bmod, Int.mul_bmod_bmod]
    · rw [Int.add_comm]
    · rw [Int.add_assoc]
    · rw [Int.mul_comm]
    · rw [Int.mul_assoc]
    · rw [Int.mul_add]
    · rw [show a - b + b = a by omega]
    · rw [Int.add_zero]
    · rw [Int.mul_one]
  · refine ⟨?_, ?_, ?_, ?_, ?_, ?_, ?_, ?_⟩ <;> simp only [add2, sub2, mul2, wrapL2 ha, if_true, Int.bmod_add_bmod, Int.add_bmod_bmod, Int.bmod_mul_bmod, Int.mul_bmod_bmod]
    · rw [Int.add_comm]
    · rw [Int.add_assoc]
    · rw [Int.mul_comm]
    · rw [Int.mul_assoc]
    · rw [Int.mul_add]
    · rw [show a - b + b = a by omega]
    · rw [Int.add_zero]
    · rw [Int.mul_one]
end Go.Proofs.Word
namespace Go.Proofs.Word
open Go Go.AM
set_option maxHeartbeats 4000000 in
theorem Ring_k (long : Bool) {a b c : Int} (ha : In64 a) (h : Heap) : callω E 3 [.bool long, .int .i64 a, .int .i64 b, .int .i64 c] h = .ok (.bool true) (h.push (.row [.str [43], .str [42]] 1)) := by
  obtain ⟨ac, aa, mc, ma, d, s, z, o⟩ := ring_ok long (b := b) (c := c) ha
  rw [call3 _ (by simp)]
  have e1 : IntKind.wrap .i64 1 = 1 := by decide
  have e2 : IntKind.wrap .i64 2 = 2 := by decide
  have e01 : (0 : Int) < 2 := by decide
  have e12 : (1 : Int) < 2 := by decide
  have e22 : ((2 : Int) < 2) = False := by decide
  simp (maxSteps := 1000000) (implicitDefEqProofs := false) only [c3, kind_ok, law_ok, Wrap_ok, works_ok, bs23, w_loop, p_indexAddr ti23, p_load ti9, asNat0, asNat1, ia0, ia1, load_push, part_str, eq_true ac, eq_true aa, eq_true mc, eq_true ma, eq_true d, eq_true s, eq_true z, eq_true o, e1, e2, eq_true e01, eq_true e12, e22, Int.reduceAdd, Int.zero_add, Int.reduceLT, enter_eq, setAll_cons, setAll_nil, w_seq, w_reg, o_nil, o_plain, o_skip, o_done, p_assign, p_move, p_pick, pickA_true, pickA_false, p_extract, exA_tup, p_call, opvs_nil, opvs_cons, v_int, v_bool, v_str, v_tmp, evThen_ok, setDst_fset, setDst_none, seqA_normal, seqA_ret, seqA_exit, w_block, blockA_normal, blockA_ret, blockA_exit, w_cond, condA_true, condA_false, w_ret, w_skip, w_exit, w_scope, p_binOp, b_add, b_sub, b_mul, b_eql, b_neq, b_eqlS, b_neqS, b_lss, b_leq, b_gtr, b_geq, p_unOp, u_neg, u_not, c_int, lift_some', look_cons, look_nil, isWant_true, isWant_false, isWant_skipped, Option.some.injEq, Bool.true_eq_false, Bool.false_eq_true, after_ret, after_normal, res_tmp, res_nil, obind_some', get_fset, resOf_some, one_one, one_two, one_nil, Nat.reduceAdd, Nat.reduceLT, Nat.reduceEqDiff, ↓reduceIte, decide_true, decide_false, Bool.not_true, Bool.not_false, List.getElem?_cons_zero, List.getElem?_cons_succ, List.getElem?_nil]
theorem Ring_ok (long : Bool) {a b c : Int} (ha : In64 a) (h : Heap) : ∃ h', callω E 3 [.bool long, .int .i64 a, .int .i64 b, .int .i64 c] h = .ok (.bool true) h' := ⟨_, Ring_k long ha h⟩
end Go.Proofs.Word
namespace Go.Proofs.Word
open Go Go.AM Go.RowKit Go.ChangeShapes Go.WideShapes Go.ChangeAt
/-- A law that comes to true, as a call of the model. -/
theorem told {P : Program} {f : Nat} {args : Array Value} {l : List AV} {w : World} (hE : EnvOk E P) (hl : RepL w cx0 args.toList l) (hc : ∃ h', callω E f l Heap.empty = .ok (.bool true) h') :
    Calls P f args w fun e w' => e = .returned (.bool true) ∧ Below w.heap.size w w' := by
  obtain ⟨h', hc⟩ := hc
  obtain ⟨n, hn⟩ := run_of_callω hc (by intro e; cases e)
  exact told_true hE (fun _ _ h => by cases h) hl (n := n) (by rw [hn]; rfl)
theorem in64_of {n : Int} (h : (Lit.int .i64 n).wf = true) : In64 n := bounds_i64 h
end Go.Proofs.Word
namespace Go.Proofs.Word
open Go Go.AM
theorem fl4 : flatOf E 4 = .bool := by kernel_rfl
theorem w0 : IntKind.wrap .i64 0 = 0 := by decide
theorem w1 : IntKind.wrap .i64 1 = 1 := by decide
theorem w2 : IntKind.wrap .i64 2 = 2 := by decide
/-! ### The order -/
structure OrderOk (t : Int) (a b : Int) : Prop where
  lt : lawL t [60] a b = if wrapL t a < wrapL t b then 1 else 0
  eq : lawL t [61, 61] a b = if wrapL t a = wrapL t b then 1 else 0
  gt : lawL t [62] a b = if wrapL t b < wrapL t a then 1 else 0
  le : lawL t [60, 61] a b = if wrapL t a ≤ wrapL t b then 1 else 0
  ge : lawL t [62, 61] a b = if wrapL t b ≤ wrapL t a then 1 else 0
  ne : lawL t [33, 61] a b = if wrapL t a = wrapL t b then 0 else 1
  tg : lawL t [62] b a = if wrapL t a < wrapL t b then 1 else 0
theorem order_ok (long : Bool) (a b : Int) : OrderOk (if long then 2 else 1) a b := by
  cases long <;> refine ⟨?_, ?_, ?_, ?_, ?_, ?_, ?_⟩ <;> simp [lawL, binL, core, doesL, wrapL]
theorem Order_ok (long : Bool) (a b : Int) (h : Heap) : callω E 4 [.bool long, .int .i64 a, .int .i64 b] h = .ok (.bool true) h := by
  obtain ⟨lt, eq, gt, le, ge, ne, tg⟩ := order_ok long a b
  rw [call4 _ (by simp)]
  generalize ht : (if long = true then (2 : Int) else 1) = t at *
  generalize hx : wrapL t a = x at *
  generalize hy : wrapL t b = y at *
  rcases Int.lt_trichotomy x y with hxy | hxy | hxy
  · rw [if_pos hxy] at lt tg
    rw [if_neg (by omega)] at eq gt ge ne
    rw [if_pos (by omega)] at le
    have n1 : ¬ x = y := by omega
    have n2 : ¬ y < x := by omega
    simp (maxSteps := 1000000) (implicitDefEqProofs := false) only [c4, kind_ok, law_ok, Wrap_ok, works_ok, ht, hx, hy, lt, eq, gt, le, ge, ne, tg, eq_true hxy, eq_false n1, eq_false n2, fl4, b_neqB, w0, w1, Int.reduceAdd, Int.reduceSub, Int.reduceEq, Int.add_zero, Int.sub_zero, enter_eq, setAll_cons, setAll_nil, w_seq, w_reg, o_nil, o_plain, o_skip, o_done, p_assign, p_move, p_pick, pickA_true, pickA_false, p_extract, exA_tup, p_call, opvs_nil, opvs_cons, v_int, v_bool, v_str, v_tmp, evThen_ok, setDst_fset, setDst_none, seqA_normal, seqA_ret, seqA_exit, w_block, blockA_normal, blockA_ret, blockA_exit, w_cond, condA_true, condA_false, w_ret, w_skip, w_exit, w_scope, p_binOp, b_add, b_sub, b_mul, b_eql, b_neq, b_eqlS, b_neqS, b_lss, b_leq, b_gtr, b_geq, p_unOp, u_neg, u_not, c_int, lift_some', look_cons, look_nil, isWant_true, isWant_false, isWant_skipped, Option.some.injEq, Bool.true_eq_false, Bool.false_eq_true, after_ret, after_normal, res_tmp, res_nil, obind_some', get_fset, resOf_some, one_one, one_two, one_nil, Nat.reduceAdd, Nat.reduceLT, Nat.reduceEqDiff, ↓reduceIte, decide_true, decide_false, Bool.not_true, Bool.not_false, List.getElem?_cons_zero, List.getElem?_cons_succ, List.getElem?_nil]
  · rw [if_neg (by omega)] at lt gt tg
    rw [if_pos hxy] at eq ne
    rw [if_pos (by omega)] at le ge
    have n1 : ¬ x < y := by omega
    have n2 : ¬ y < x := by omega
    simp (maxSteps := 1000000) (implicitDefEqProofs := false) only [c4, kind_ok, law_ok, Wrap_ok, works_ok, ht, hx, hy, lt, eq, gt, le, ge, ne, tg, eq_true hxy, eq_false n1, eq_false n2, fl4, b_neqB, w0, w1, Int.reduceAdd, Int.reduceSub, Int.reduceEq, Int.add_zero, Int.sub_zero, Int.lt_irrefl, enter_eq, setAll_cons, setAll_nil, w_seq, w_reg, o_nil, o_plain, o_skip, o_done, p_assign, p_move, p_pick, pickA_true, pickA_false, p_extract, exA_tup, p_call, opvs_nil, opvs_cons, v_int, v_bool, v_str, v_tmp, evThen_ok, setDst_fset, setDst_none, seqA_normal, seqA_ret, seqA_exit, w_block, blockA_normal, blockA_ret, blockA_exit, w_cond, condA_true, condA_false, w_ret, w_skip, w_exit, w_scope, p_binOp, b_add, b_sub, b_mul, b_eql, b_neq, b_eqlS, b_neqS, b_lss, b_leq, b_gtr, b_geq, p_unOp, u_neg, u_not, c_int, lift_some', look_cons, look_nil, isWant_true, isWant_false, isWant_skipped, Option.some.injEq, Bool.true_eq_false, Bool.false_eq_true, after_ret, after_normal, res_tmp, res_nil, obind_some', get_fset, resOf_some, one_one, one_two, one_nil, Nat.reduceAdd, Nat.reduceLT, Nat.reduceEqDiff, ↓reduceIte, decide_true, decide_false, Bool.not_true, Bool.not_false, List.getElem?_cons_zero, List.getElem?_cons_succ, List.getElem?_nil]
  · rw [if_neg (by omega)] at lt eq le ne tg
    rw [if_pos hxy] at gt
    rw [if_pos (by omega)] at ge
    have n1 : ¬ x = y := by omega
    have n2 : ¬ x < y := by omega
    simp (maxSteps := 1000000) (implicitDefEqProofs := false) only [c4, kind_ok, law_ok, Wrap_ok, works_ok, ht, hx, hy, lt, eq, gt, le, ge, ne, tg, eq_true hxy, eq_false n1, eq_false n2, fl4, b_neqB, w0, w1, Int.reduceAdd, Int.reduceSub, Int.reduceEq, Int.add_zero, Int.sub_zero, enter_eq, setAll_cons, setAll_nil, w_seq, w_reg, o_nil, o_plain, o_skip, o_done, p_assign, p_move, p_pick, pickA_true, pickA_false, p_extract, exA_tup, p_call, opvs_nil, opvs_cons, v_int, v_bool, v_str, v_tmp, evThen_ok, setDst_fset, setDst_none, seqA_normal, seqA_ret, seqA_exit, w_block, blockA_normal, blockA_ret, blockA_exit, w_cond, condA_true, condA_false, w_ret, w_skip, w_exit, w_scope, p_binOp, b_add, b_sub, b_mul, b_eql, b_neq, b_eqlS, b_neqS, b_lss, b_leq, b_gtr, b_geq, p_unOp, u_neg, u_not, c_int, lift_some', look_cons, look_nil, isWant_true, isWant_false, isWant_skipped, Option.some.injEq, Bool.true_eq_false, Bool.false_eq_true, after_ret, after_normal, res_tmp, res_nil, obind_some', get_fset, resOf_some, one_one, one_two, one_nil, Nat.reduceAdd, Nat.reduceLT, Nat.reduceEqDiff, ↓reduceIte, decide_true, decide_false, Bool.not_true, Bool.not_false, List.getElem?_cons_zero, List.getElem?_cons_succ, List.getElem?_nil]
end Go.Proofs.Word
namespace Go.AM
section
variable {E : Env} {fr : Tr} {h : Heap} {call : CallF}
theorem p_makeMap (t : Nat) : evOp E call (.makeMap t none) fr h = .ok (.map h.next) (h.push (.mapo [])) := rfl
theorem p_insert {t id : Nat} {ti : TI} {m k x : Operand} {es es' : List (AV × AV)} (ht : E.ti t = some ti) (hk : keyOk E ti.desc (opv E k fr) = true) (hm : opv E m fr = .map id) (hg : h.get id = some (.mapo es))
    (hp : putEntry (opv E k fr) (opv E x fr) es = some es') : evOp E call (.insert t m k x) fr h = .ok .und (h.set id (.mapo es')) := by
  show onTI E t Res.bad (fun ti => bif keyOk E ti.desc (opv E k fr) then
    ((opv E m fr).onMap .bad fun id => h.onMapo id .bad fun es => match putEntry (opv E k fr) (opv E x fr) es with
    | some es' => .ok .und (h.set id (.mapo es'))
    | none => .bad) else .bad) = _
  unfold onTI; rw [ht]; dsimp only; rw [hk]; simp only [cond_true]; rw [hm]
  show h.onMapo id Res.bad _ = _
  unfold Heap.onMapo; rw [hg]; dsimp only; rw [hp]
theorem p_lookup {t id : Nat} {ti te : TI} {m k : Operand} {es : List (AV × AV)} {r : Option AV} (ht : E.ti t = some ti) (hk : keyOk E ti.desc (opv E k fr) = true) (he : mapElem E ti.desc = some te) (hm : opv E m fr = .map id) (hg : h.get id = some (.mapo es))
    (hf : findEntry (opv E k fr) es = some r) : evOp E call (.lookup t m k false) fr h = .ok (lookupR false te.zero r) h := by
  show onTI E t Res.bad (fun ti => lift (guardO (keyOk E ti.desc (opv E k fr)) (obind (mapElem E ti.desc) fun te => obind (mapEs (opv E m fr) h) fun es => obind (findEntry (opv E k fr) es) fun r => some (lookupR false te.zero r))) h) = _
  unfold onTI; rw [ht]; dsimp only; rw [hk, he, hm]
  have : mapEs (.map id) h = some es := by
    show h.onMapo id none some = _
    unfold Heap.onMapo; rw [hg]
  simp only [guardO, cond_true, obind]; rw [this]; dsimp only; rw [hf]; rfl
end
end Go.AM
namespace Go.Proofs.Word
open Go Go.AM
theorem ti41 : E.ti 41 = some ⟨.map 3 3, 1, 8, .nilmap⟩ := by kernel_rfl
def i64 (n : Int) : AV := .int .i64 n
noncomputable def hW1 (h : Heap) : Heap := h.push (.mapo [])
noncomputable def hW2 (h : Heap) : Heap := (hW1 h).set h.next (.mapo [(.int .i64 3, .int .i64 8)])
noncomputable def hW3 (h : Heap) : Heap := (hW2 h).set h.next (.mapo [(.int .i64 3, .int .i64 8), (.int .i64 1, .int .i64 32)])
/-- The heap, with the map that 'Width' lays. -/
noncomputable def hW (h : Heap) : Heap := (hW3 h).set h.next (.mapo [(.int .i64 3, .int .i64 8), (.int .i64 1, .int .i64 32), (.int .i64 2, .int .i64 64)])
theorem gW1 (h : Heap) : (hW1 h).get h.next = some (.mapo []) := Heap.get_push_eq _ _
theorem gW2 (h : Heap) : (hW2 h).get h.next = some (.mapo [(.int .i64 3, .int .i64 8)]) := Heap.get_set_eq _ _ (gW1 h)
theorem gW3 (h : Heap) : (hW3 h).get h.next = some (.mapo [(.int .i64 3, .int .i64 8), (.int .i64 1, .int .i64 32)]) := Heap.get_set_eq _ _ (gW2 h)
theorem gW (h : Heap) : (hW h).get h.next = some (.mapo [(.int .i64 3, .int .i64 8), (.int .i64 1, .int .i64 32), (.int .i64 2, .int .i64 64)]) := Heap.get_set_eq _ _ (gW3 h)
section
variable {call : CallF}
theorem mk41 (fr : Tr) (h : Heap) : evOp E call (.makeMap 41 none) fr h = .ok (.map h.next) (hW1 h) := rfl
theorem ins1 (h : Heap) (l : List (Nat × AV)) : evOp E call (.insert 41 (.tmp 3) (.const (.int .i64 3)) (.const (.int .i64 8))) (fset 7 ((3, .map h.next) :: l)) (hW1 h) = .ok .und (hW2 h) :=
  p_insert ti41 (by kernel_rfl) (by rw [v_tmp _ (by decide) (by decide)]; rfl) (gW1 h) rfl
theorem ins2 (h : Heap) (l : List (Nat × AV)) : evOp E call (.insert 41 (.tmp 3) (.const (.int .i64 1)) (.const (.int .i64 32))) (fset 7 ((3, .map h.next) :: l)) (hW2 h) = .ok .und (hW3 h) :=
  p_insert ti41 (by kernel_rfl) (by rw [v_tmp _ (by decide) (by decide)]; rfl) (gW2 h) rfl
theorem ins3 (h : Heap) (l : List (Nat × AV)) : evOp E call (.insert 41 (.tmp 3) (.const (.int .i64 2)) (.const (.int .i64 64))) (fset 7 ((3, .map h.next) :: l)) (hW3 h) = .ok .und (hW h) :=
  p_insert ti41 (by kernel_rfl) (by rw [v_tmp _ (by decide) (by decide)]; rfl) (gW3 h) rfl
def widthL (t : Int) : Int := if t = 3 then 8 else if t = 1 then 32 else if t = 2 then 64 else 0
theorem look41 (h : Heap) (t : Int) (l : List (Nat × AV)) : evOp E call (.lookup 41 (.tmp 4) (.tmp 5) false) (fset 7 ((5, .int .i64 t) :: (4, .map h.next) :: l)) (hW h) = .ok (.int .i64 (widthL t)) (hW h) := by
  have hk : opv E (.tmp 5) (fset 7 ((5, .int .i64 t) :: (4, .map h.next) :: l)) = .int .i64 t := by rw [v_tmp _ (by decide) (by decide)]; rfl
  have hm : opv E (.tmp 4) (fset 7 ((5, .int .i64 t) :: (4, .map h.next) :: l)) = .map h.next := by rw [v_tmp _ (by decide) (by decide)]; rfl
  have hf : ∀ (x : Int), findEntry (.int .i64 t) [(.int .i64 3, .int .i64 8), (.int .i64 1, .int .i64 32), (.int .i64 2, .int .i64 64)] = some (if t = 3 then some (AV.int .i64 8) else if t = 1 then some (AV.int .i64 32) else if t = 2 then some (AV.int .i64 64) else none) := by
    intro _
    have ke : ∀ n : Int, keyEq (.int .i64 t) (.int .i64 n) = some (decide (t = n)) := fun n => by
      show some (intEq t n) = _
      rw [intEq_eq]; congr 1
    show onOB (keyEq (.int .i64 t) (.int .i64 3)) none (some (some (AV.int .i64 8))) (onOB (keyEq (.int .i64 t) (.int .i64 1)) none (some (some (AV.int .i64 32))) (onOB (keyEq (.int .i64 t) (.int .i64 2)) none (some (some (AV.int .i64 64))) (some none))) = _
    rw [ke, ke, ke]
    by_cases h3 : t = 3
    · simp [h3, onOB]
    by_cases h1 : t = 1
    · simp [h1, onOB]
    by_cases h2 : t = 2
    · simp [h2, onOB]
    · simp [h1, h2, h3, onOB]
  have he : mapElem E (TD.map 3 3) = some ⟨.int .i64, 1, 8, .int .i64 0⟩ := by kernel_rfl
  have hko : keyOk E (TD.map 3 3) (.int .i64 t) = true := by kernel_rfl
  rw [p_lookup (te := ⟨.int .i64, 1, 8, .int .i64 0⟩) ti41 (by rw [hk]; exact hko) he hm (gW h) (by rw [hk]; exact hf 0)]
  unfold widthL
  by_cases h3 : t = 3
  · simp [h3]; rfl
  by_cases h1 : t = 1
  · simp [h1]; rfl
  by_cases h2 : t = 2
  · simp [h2]; rfl
  · simp [h1, h2, h3]; rfl
end
theorem Width_ok (t : Int) (h : Heap) : callω E 16 [.int .i64 t] h = .ok (.int .i64 (widthL t)) (hW h) := by
  rw [call16 _ (by simp)]
  simp (implicitDefEqProofs := false) only [c16, mk41, ins1, ins2, ins3, look41, enter_eq, setAll_cons, setAll_nil, w_seq, w_reg, o_nil, o_plain, o_skip, o_done, p_assign, p_move, p_pick, pickA_true, pickA_false, p_extract, exA_tup, p_call, opvs_nil, opvs_cons, v_int, v_bool, v_str, v_tmp, evThen_ok, setDst_fset, setDst_none, seqA_normal, seqA_ret, seqA_exit, w_block, blockA_normal, blockA_ret, blockA_exit, w_cond, condA_true, condA_false, w_ret, w_skip, w_exit, w_scope, p_binOp, b_add, b_sub, b_mul, b_eql, b_neq, b_eqlS, b_neqS, b_lss, b_leq, b_gtr, b_geq, p_unOp, u_neg, u_not, c_int, lift_some', look_cons, look_nil, isWant_true, isWant_false, isWant_skipped, Option.some.injEq, Bool.true_eq_false, Bool.false_eq_true, after_ret, after_normal, res_tmp, res_nil, obind_some', get_fset, resOf_some, one_one, one_two, one_nil, Nat.reduceAdd, Nat.reduceLT, Nat.reduceEqDiff, ↓reduceIte, decide_true, decide_false, Bool.not_true, Bool.not_false, List.getElem?_cons_zero, List.getElem?_cons_succ, List.getElem?_nil]
theorem near_ok {a b : Int} (ha : In64 a) (hb : In64 b) (h : Heap) : callω E 19 [.int .i64 a, .int .i64 b] h = .ok (.bool (decide (a.natAbs < b.natAbs))) h := by
  rw [call19 _ (by simp)]
  have na : 0 < a → IntKind.wrap .i64 (0 - a) = -a := fun h => by rw [wrap64_id ⟨by have := ha.2; omega, by omega⟩]; omega
  have nb : 0 < b → IntKind.wrap .i64 (0 - b) = -b := fun h => by rw [wrap64_id ⟨by have := hb.2; omega, by omega⟩]; omega
  by_cases h1 : 0 < a <;> by_cases h2 : 0 < b
  · simp (implicitDefEqProofs := false) only [c19, eq_true h1, eq_true h2, na h1, nb h2, enter_eq, setAll_cons, setAll_nil, w_seq, w_reg, o_nil, o_plain, o_skip, o_done, p_assign, p_move, p_pick, pickA_true, pickA_false, p_extract, exA_tup, p_call, opvs_nil, opvs_cons, v_int, v_bool, v_str, v_tmp, evThen_ok, setDst_fset, setDst_none, seqA_normal, seqA_ret, seqA_exit, w_block, blockA_normal, blockA_ret, blockA_exit, w_cond, condA_true, condA_false, w_ret, w_skip, w_exit, w_scope, p_binOp, b_add, b_sub, b_mul, b_eql, b_neq, b_eqlS, b_neqS, b_lss, b_leq, b_gtr, b_geq, p_unOp, u_neg, u_not, c_int, lift_some', look_cons, look_nil, isWant_true, isWant_false, isWant_skipped, Option.some.injEq, Bool.true_eq_false, Bool.false_eq_true, after_ret, after_normal, res_tmp, res_nil, obind_some', get_fset, resOf_some, one_one, one_two, one_nil, Nat.reduceAdd, Nat.reduceLT, Nat.reduceEqDiff, ↓reduceIte, decide_true, decide_false, Bool.not_true, Bool.not_false, List.getElem?_cons_zero, List.getElem?_cons_succ, List.getElem?_nil]
    congr 3; simp; omega
  · simp (implicitDefEqProofs := false) only [c19, eq_true h1, eq_false h2, na h1, enter_eq, setAll_cons, setAll_nil, w_seq, w_reg, o_nil, o_plain, o_skip, o_done, p_assign, p_move, p_pick, pickA_true, pickA_false, p_extract, exA_tup, p_call, opvs_nil, opvs_cons, v_int, v_bool, v_str, v_tmp, evThen_ok, setDst_fset, setDst_none, seqA_normal, seqA_ret, seqA_exit, w_block, blockA_normal, blockA_ret, blockA_exit, w_cond, condA_true, condA_false, w_ret, w_skip, w_exit, w_scope, p_binOp, b_add, b_sub, b_mul, b_eql, b_neq, b_eqlS, b_neqS, b_lss, b_leq, b_gtr, b_geq, p_unOp, u_neg, u_not, c_int, lift_some', look_cons, look_nil, isWant_true, isWant_false, isWant_skipped, Option.some.injEq, Bool.true_eq_false, Bool.false_eq_true, after_ret, after_normal, res_tmp, res_nil, obind_some', get_fset, resOf_some, one_one, one_two, one_nil, Nat.reduceAdd, Nat.reduceLT, Nat.reduceEqDiff, ↓reduceIte, decide_true, decide_false, Bool.not_true, Bool.not_false, List.getElem?_cons_zero, List.getElem?_cons_succ, List.getElem?_nil]
    congr 3; simp; omega
  · simp (implicitDefEqProofs := false) only [c19, eq_false h1, eq_true h2, nb h2, enter_eq, setAll_cons, setAll_nil, w_seq, w_reg, o_nil, o_plain, o_skip, o_done, p_assign, p_move, p_pick, pickA_true, pickA_false, p_extract, exA_tup, p_call, opvs_nil, opvs_cons, v_int, v_bool, v_str, v_tmp, evThen_ok, setDst_fset, setDst_none, seqA_normal, seqA_ret, seqA_exit, w_block, blockA_normal, blockA_ret, blockA_exit, w_cond, condA_true, condA_false, w_ret, w_skip, w_exit, w_scope, p_binOp, b_add, b_sub, b_mul, b_eql, b_neq, b_eqlS, b_neqS, b_lss, b_leq, b_gtr, b_geq, p_unOp, u_neg, u_not, c_int, lift_some', look_cons, look_nil, isWant_true, isWant_false, isWant_skipped, Option.some.injEq, Bool.true_eq_false, Bool.false_eq_true, after_ret, after_normal, res_tmp, res_nil, obind_some', get_fset, resOf_some, one_one, one_two, one_nil, Nat.reduceAdd, Nat.reduceLT, Nat.reduceEqDiff, ↓reduceIte, decide_true, decide_false, Bool.not_true, Bool.not_false, List.getElem?_cons_zero, List.getElem?_cons_succ, List.getElem?_nil]
    congr 3; simp; omega
  · simp (implicitDefEqProofs := false) only [c19, eq_false h1, eq_false h2, enter_eq, setAll_cons, setAll_nil, w_seq, w_reg, o_nil, o_plain, o_skip, o_done, p_assign, p_move, p_pick, pickA_true, pickA_false, p_extract, exA_tup, p_call, opvs_nil, opvs_cons, v_int, v_bool, v_str, v_tmp, evThen_ok, setDst_fset, setDst_none, seqA_normal, seqA_ret, seqA_exit, w_block, blockA_normal, blockA_ret, blockA_exit, w_cond, condA_true, condA_false, w_ret, w_skip, w_exit, w_scope, p_binOp, b_add, b_sub, b_mul, b_eql, b_neq, b_eqlS, b_neqS, b_lss, b_leq, b_gtr, b_geq, p_unOp, u_neg, u_not, c_int, lift_some', look_cons, look_nil, isWant_true, isWant_false, isWant_skipped, Option.some.injEq, Bool.true_eq_false, Bool.false_eq_true, after_ret, after_normal, res_tmp, res_nil, obind_some', get_fset, resOf_some, one_one, one_two, one_nil, Nat.reduceAdd, Nat.reduceLT, Nat.reduceEqDiff, ↓reduceIte, decide_true, decide_false, Bool.not_true, Bool.not_false, List.getElem?_cons_zero, List.getElem?_cons_succ, List.getElem?_nil]
    congr 3; simp; omega
end Go.Proofs.Word
namespace Go.Proofs.Word
open Go Go.AM
/-! ### Quotients and rests -/
theorem b_eqlB' (a b : Bool) : binOpA .eql (flatOf E 4) (.bool a) (.bool b) = some (.bool (decide (a = b))) := by rw [fl4]; exact b_eqlB a b
theorem tmod_small (A B : Int) : (A.tmod B).natAbs ≤ A.natAbs := by
  rw [Int.natAbs_tmod]; exact Nat.mod_le _ _
theorem tmod_lt (A : Int) {B : Int} (hB : B ≠ 0) : (A.tmod B).natAbs < B.natAbs := by
  rw [Int.natAbs_tmod]; exact Nat.mod_lt _ (by omega)
theorem tmod_sign (A B : Int) : (0 ≤ A → 0 ≤ A.tmod B) ∧ (A ≤ 0 → A.tmod B ≤ 0) := by
  refine ⟨fun h => Int.tmod_nonneg B h, fun h => ?_⟩
  have := Int.tmod_nonneg (a := -A) B (by omega)
  rw [Int.neg_tmod] at this; omega
theorem tmod_in {A : Int} (B : Int) (h : In64 A) : In64 (A.tmod B) := by
  have h1 := tmod_small A B
  have h2 := tmod_sign A B
  obtain ⟨x, y⟩ := h
  rcases Int.le_total 0 A with h | h
  · have := h2.1 h; exact ⟨by omega, by omega⟩
  · have := h2.2 h; exact ⟨by omega, by omega⟩
theorem prod_in {A : Int} (B : Int) (h : In64 A) : In64 (A.tdiv B * B) ∧ A.tdiv B * B + A.tmod B = A := by
  have e : A.tdiv B * B + A.tmod B = A := by rw [Int.mul_comm]; exact Int.mul_tdiv_add_tmod A B
  refine ⟨?_, e⟩
  have h1 := tmod_small A B
  have h2 := tmod_sign A B
  obtain ⟨x, y⟩ := h
  rcases Int.le_total 0 A with h | h
  · have := h2.1 h; exact ⟨by omega, by omega⟩
  · have := h2.2 h; exact ⟨by omega, by omega⟩
theorem Divides_core (long : Bool) {a b t A B least : Int} (ht : (if long = true then (2 : Int) else 1) = t) (hA : wrapL t a = A) (hB : wrapL t b = B) (hA64 : In64 A) (hB64 : In64 B)
    (hsh : ∀ fl, binOpA .shl fl (.int .i64 (-1)) (.int .u64 (IntKind.wrap .u64 (IntKind.wrap .i64 (widthL t - 1)))) = some (.int .i64 least))
    (h0 : B = 0 → binL t [47] a b = (0, 1) ∧ binL t [37] a b = (0, 1)) (h2 : A = least → B = -1 → binL t [47] a b = (0, 2) ∧ binL t [37] a b = (0, 0))
    (h3 : B ≠ 0 → ¬ (A = least ∧ B = -1) → binL t [47] a b = (A.tdiv B, 0) ∧ binL t [37] a b = (A.tmod B, 0)) (h : Heap) :
    ∃ h', callω E 7 [.bool long, .int .i64 a, .int .i64 b] h = .ok (.bool true) h' ∧ (h' = h ∨ h' = hW h) := by
  by_cases hB0 : B = 0
  · obtain ⟨q, r⟩ := h0 hB0
    refine ⟨h, ?_, .inl rfl⟩
    rw [call7 _ (by simp)]
    simp (maxSteps := 1000000) (implicitDefEqProofs := false) only [c7, kind_ok, Bin_ok, Wrap_ok, works_ok, ht, hA, hB, q, r, eq_true hB0, enter_eq, setAll_cons, setAll_nil, w_seq, w_reg, o_nil, o_plain, o_skip, o_done, p_assign, p_move, p_pick, pickA_true, pickA_false, p_extract, exA_tup, p_call, opvs_nil, opvs_cons, v_int, v_bool, v_str, v_tmp, evThen_ok, setDst_fset, setDst_none, seqA_normal, seqA_ret, seqA_exit, w_block, blockA_normal, blockA_ret, blockA_exit, w_cond, condA_true, condA_false, w_ret, w_skip, w_exit, w_scope, p_binOp, b_add, b_sub, b_mul, b_eql, b_neq, b_eqlS, b_neqS, b_lss, b_leq, b_gtr, b_geq, p_unOp, u_neg, u_not, c_int, lift_some', look_cons, look_nil, isWant_true, isWant_false, isWant_skipped, Option.some.injEq, Bool.true_eq_false, Bool.false_eq_true, after_ret, after_normal, res_tmp, res_nil, obind_some', get_fset, resOf_some, one_one, one_two, one_nil, Nat.reduceAdd, Nat.reduceLT, Nat.reduceEqDiff, ↓reduceIte, decide_true, decide_false, Bool.not_true, Bool.not_false, List.getElem?_cons_zero, List.getElem?_cons_succ, List.getElem?_nil]
  · refine ⟨hW h, ?_, .inr rfl⟩
    rw [call7 _ (by simp)]
    have main : ¬ (A = least ∧ B = -1) → ∀ P : Prop, ((A = least) = True ∧ (B = -1) = False ∨ (A = least) = False) →
        afterBody AmEnv.env [.tmp 6] (evω AmEnv.env c7 (Tr.enter 117 [.bool long, .int .i64 a, .int .i64 b]) h) = .ok (.bool true) (hW h) := by
      intro hne _ hcase
      obtain ⟨q, r⟩ := h3 hB0 hne
      obtain ⟨hp, he⟩ := prod_in B hA64
      have e1 := wrap64_id hp
      have e2 := wrap64_id (show In64 (A.tdiv B * B + A.tmod B) by rw [he]; exact hA64)
      have nr : ∀ h, callω E 19 [.int .i64 (A.tmod B), .int .i64 B] h = .ok (.bool true) h := fun h => by rw [near_ok (tmod_in B hA64) hB64, decide_eq_true (tmod_lt A hB0)]
      have hs := tmod_sign A B
      by_cases hr : A.tmod B = 0
      · rcases hcase with ⟨c1, c2⟩ | c1
        · simp (maxSteps := 1000000) (implicitDefEqProofs := false) only [c7, kind_ok, Bin_ok, Wrap_ok, works_ok, Width_ok, ht, hA, hB, q, r, eq_false hB0, c1, c2, p_convert _ _ _ ti3 ti33, hsh, e1, e2, he, wrap64_id hA64, nr, eq_true hr, enter_eq, setAll_cons, setAll_nil, w_seq, w_reg, o_nil, o_plain, o_skip, o_done, p_assign, p_move, p_pick, pickA_true, pickA_false, p_extract, exA_tup, p_call, opvs_nil, opvs_cons, v_int, v_bool, v_str, v_tmp, evThen_ok, setDst_fset, setDst_none, seqA_normal, seqA_ret, seqA_exit, w_block, blockA_normal, blockA_ret, blockA_exit, w_cond, condA_true, condA_false, w_ret, w_skip, w_exit, w_scope, p_binOp, b_add, b_sub, b_mul, b_eql, b_neq, b_eqlS, b_neqS, b_lss, b_leq, b_gtr, b_geq, p_unOp, u_neg, u_not, c_int, lift_some', look_cons, look_nil, isWant_true, isWant_false, isWant_skipped, Option.some.injEq, Bool.true_eq_false, Bool.false_eq_true, after_ret, after_normal, res_tmp, res_nil, obind_some', get_fset, resOf_some, one_one, one_two, one_nil, Nat.reduceAdd, Nat.reduceLT, Nat.reduceEqDiff, ↓reduceIte, decide_true, decide_false, Bool.not_true, Bool.not_false, List.getElem?_cons_zero, List.getElem?_cons_succ, List.getElem?_nil]
        · simp (maxSteps := 1000000) (implicitDefEqProofs := false) only [c7, kind_ok, Bin_ok, Wrap_ok, works_ok, Width_ok, ht, hA, hB, q, r, eq_false hB0, c1, p_convert _ _ _ ti3 ti33, hsh, e1, e2, he, wrap64_id hA64, nr, eq_true hr, enter_eq, setAll_cons, setAll_nil, w_seq, w_reg, o_nil, o_plain, o_skip, o_done, p_assign, p_move, p_pick, pickA_true, pickA_false, p_extract, exA_tup, p_call, opvs_nil, opvs_cons, v_int, v_bool, v_str, v_tmp, evThen_ok, setDst_fset, setDst_none, seqA_normal, seqA_ret, seqA_exit, w_block, blockA_normal, blockA_ret, blockA_exit, w_cond, condA_true, condA_false, w_ret, w_skip, w_exit, w_scope, p_binOp, b_add, b_sub, b_mul, b_eql, b_neq, b_eqlS, b_neqS, b_lss, b_leq, b_gtr, b_geq, p_unOp, u_neg, u_not, c_int, lift_some', look_cons, look_nil, isWant_true, isWant_false, isWant_skipped, Option.some.injEq, Bool.true_eq_false, Bool.false_eq_true, after_ret, after_normal, res_tmp, res_nil, obind_some', get_fset, resOf_some, one_one, one_two, one_nil, Nat.reduceAdd, Nat.reduceLT, Nat.reduceEqDiff, ↓reduceIte, decide_true, decide_false, Bool.not_true, Bool.not_false, List.getElem?_cons_zero, List.getElem?_cons_succ, List.getElem?_nil]
      · by_cases hn : A < 0
        · have hn' : A.tmod B < 0 := by have := hs.2 (by omega); omega
          rcases hcase with ⟨c1, c2⟩ | c1
          · simp (maxSteps := 1000000) (implicitDefEqProofs := false) only [c7, kind_ok, Bin_ok, Wrap_ok, works_ok, Width_ok, ht, hA, hB, q, r, eq_false hB0, c1, c2, p_convert _ _ _ ti3 ti33, hsh, e1, e2, he, wrap64_id hA64, nr, eq_false hr, eq_true hn, eq_true hn', b_eqlB', enter_eq, setAll_cons, setAll_nil, w_seq, w_reg, o_nil, o_plain, o_skip, o_done, p_assign, p_move, p_pick, pickA_true, pickA_false, p_extract, exA_tup, p_call, opvs_nil, opvs_cons, v_int, v_bool, v_str, v_tmp, evThen_ok, setDst_fset, setDst_none, seqA_normal, seqA_ret, seqA_exit, w_block, blockA_normal, blockA_ret, blockA_exit, w_cond, condA_true, condA_false, w_ret, w_skip, w_exit, w_scope, p_binOp, b_add, b_sub, b_mul, b_eql, b_neq, b_eqlS, b_neqS, b_lss, b_leq, b_gtr, b_geq, p_unOp, u_neg, u_not, c_int, lift_some', look_cons, look_nil, isWant_true, isWant_false, isWant_skipped, Option.some.injEq, Bool.true_eq_false, Bool.false_eq_true, after_ret, after_normal, res_tmp, res_nil, obind_some', get_fset, resOf_some, one_one, one_two, one_nil, Nat.reduceAdd, Nat.reduceLT, Nat.reduceEqDiff, ↓reduceIte, decide_true, decide_false, Bool.not_true, Bool.not_false, List.getElem?_cons_zero, List.getElem?_cons_succ, List.getElem?_nil]
          · simp (maxSteps := 1000000) (implicitDefEqProofs := false) only [c7, kind_ok, Bin_ok, Wrap_ok, works_ok, Width_ok, ht, hA, hB, q, r, eq_false hB0, c1, p_convert _ _ _ ti3 ti33, hsh, e1, e2, he, wrap64_id hA64, nr, eq_false hr, eq_true hn, eq_true hn', b_eqlB', enter_eq, setAll_cons, setAll_nil, w_seq, w_reg, o_nil, o_plain, o_skip, o_done, p_assign, p_move, p_pick, pickA_true, pickA_false, p_extract, exA_tup, p_call, opvs_nil, opvs_cons, v_int, v_bool, v_str, v_tmp, evThen_ok, setDst_fset, setDst_none, seqA_normal, seqA_ret, seqA_exit, w_block, blockA_normal, blockA_ret, blockA_exit, w_cond, condA_true, condA_false, w_ret, w_skip, w_exit, w_scope, p_binOp, b_add, b_sub, b_mul, b_eql, b_neq, b_eqlS, b_neqS, b_lss, b_leq, b_gtr, b_geq, p_unOp, u_neg, u_not, c_int, lift_some', look_cons, look_nil, isWant_true, isWant_false, isWant_skipped, Option.some.injEq, Bool.true_eq_false, Bool.false_eq_true, after_ret, after_normal, res_tmp, res_nil, obind_some', get_fset, resOf_some, one_one, one_two, one_nil, Nat.reduceAdd, Nat.reduceLT, Nat.reduceEqDiff, ↓reduceIte, decide_true, decide_false, Bool.not_true, Bool.not_false, List.getElem?_cons_zero, List.getElem?_cons_succ, List.getElem?_nil]
        · have hn' : ¬ A.tmod B < 0 := by have := hs.1 (by omega); omega
          rcases hcase with ⟨c1, c2⟩ | c1
          · simp (maxSteps := 1000000) (implicitDefEqProofs := false) only [c7, kind_ok, Bin_ok, Wrap_ok, works_ok, Width_ok, ht, hA, hB, q, r, eq_false hB0, c1, c2, p_convert _ _ _ ti3 ti33, hsh, e1, e2, he, wrap64_id hA64, nr, eq_false hr, eq_false hn, eq_false hn', b_eqlB', enter_eq, setAll_cons, setAll_nil, w_seq, w_reg, o_nil, o_plain, o_skip, o_done, p_assign, p_move, p_pick, pickA_true, pickA_false, p_extract, exA_tup, p_call, opvs_nil, opvs_cons, v_int, v_bool, v_str, v_tmp, evThen_ok, setDst_fset, setDst_none, seqA_normal, seqA_ret, seqA_exit, w_block, blockA_normal, blockA_ret, blockA_exit, w_cond, condA_true, condA_false, w_ret, w_skip, w_exit, w_scope, p_binOp, b_add, b_sub, b_mul, b_eql, b_neq, b_eqlS, b_neqS, b_lss, b_leq, b_gtr, b_geq, p_unOp, u_neg, u_not, c_int, lift_some', look_cons, look_nil, isWant_true, isWant_false, isWant_skipped, Option.some.injEq, Bool.true_eq_false, Bool.false_eq_true, after_ret, after_normal, res_tmp, res_nil, obind_some', get_fset, resOf_some, one_one, one_two, one_nil, Nat.reduceAdd, Nat.reduceLT, Nat.reduceEqDiff, ↓reduceIte, decide_true, decide_false, Bool.not_true, Bool.not_false, List.getElem?_cons_zero, List.getElem?_cons_succ, List.getElem?_nil]
          · simp (maxSteps := 1000000) (implicitDefEqProofs := false) only [c7, kind_ok, Bin_ok, Wrap_ok, works_ok, Width_ok, ht, hA, hB, q, r, eq_false hB0, c1, p_convert _ _ _ ti3 ti33, hsh, e1, e2, he, wrap64_id hA64, nr, eq_false hr, eq_false hn, eq_false hn', b_eqlB', enter_eq, setAll_cons, setAll_nil, w_seq, w_reg, o_nil, o_plain, o_skip, o_done, p_assign, p_move, p_pick, pickA_true, pickA_false, p_extract, exA_tup, p_call, opvs_nil, opvs_cons, v_int, v_bool, v_str, v_tmp, evThen_ok, setDst_fset, setDst_none, seqA_normal, seqA_ret, seqA_exit, w_block, blockA_normal, blockA_ret, blockA_exit, w_cond, condA_true, condA_false, w_ret, w_skip, w_exit, w_scope, p_binOp, b_add, b_sub, b_mul, b_eql, b_neq, b_eqlS, b_neqS, b_lss, b_leq, b_gtr, b_geq, p_unOp, u_neg, u_not, c_int, lift_some', look_cons, look_nil, isWant_true, isWant_false, isWant_skipped, Option.some.injEq, Bool.true_eq_false, Bool.false_eq_true, after_ret, after_normal, res_tmp, res_nil, obind_some', get_fset, resOf_some, one_one, one_two, one_nil, Nat.reduceAdd, Nat.reduceLT, Nat.reduceEqDiff, ↓reduceIte, decide_true, decide_false, Bool.not_true, Bool.not_false, List.getElem?_cons_zero, List.getElem?_cons_succ, List.getElem?_nil]
    by_cases hl : A = least
    · by_cases hm : B = -1
      · obtain ⟨q, r⟩ := h2 hl hm
        simp (maxSteps := 1000000) (implicitDefEqProofs := false) only [c7, kind_ok, Bin_ok, Wrap_ok, works_ok, Width_ok, ht, hA, hB, q, r, eq_false hB0, eq_true hl, eq_true hm, p_convert _ _ _ ti3 ti33, hsh, enter_eq, setAll_cons, setAll_nil, w_seq, w_reg, o_nil, o_plain, o_skip, o_done, p_assign, p_move, p_pick, pickA_true, pickA_false, p_extract, exA_tup, p_call, opvs_nil, opvs_cons, v_int, v_bool, v_str, v_tmp, evThen_ok, setDst_fset, setDst_none, seqA_normal, seqA_ret, seqA_exit, w_block, blockA_normal, blockA_ret, blockA_exit, w_cond, condA_true, condA_false, w_ret, w_skip, w_exit, w_scope, p_binOp, b_add, b_sub, b_mul, b_eql, b_neq, b_eqlS, b_neqS, b_lss, b_leq, b_gtr, b_geq, p_unOp, u_neg, u_not, c_int, lift_some', look_cons, look_nil, isWant_true, isWant_false, isWant_skipped, Option.some.injEq, Bool.true_eq_false, Bool.false_eq_true, after_ret, after_normal, res_tmp, res_nil, obind_some', get_fset, resOf_some, one_one, one_two, one_nil, Nat.reduceAdd, Nat.reduceLT, Nat.reduceEqDiff, ↓reduceIte, decide_true, decide_false, Bool.not_true, Bool.not_false, List.getElem?_cons_zero, List.getElem?_cons_succ, List.getElem?_nil]
      · exact main (fun e => hm e.2) True (.inl ⟨eq_true hl, eq_false hm⟩)
    · exact main (fun e => hl e.1) True (.inr (eq_false hl))
theorem divL_facts (k : IntKind) (least : Int) (A B : Int) (hid : ∀ n, least ≤ n → n ≤ -least - 1 → k.wrap n = n) (hA : least ≤ A ∧ A ≤ -least - 1) (hl : least < 0) (hw : k.wrap (-least) = least) :
    (B = 0 → divL k [47] A B = (0, 1) ∧ divL k [37] A B = (0, 1)) ∧ (A = least → B = -1 → divL k [47] A B = (0, 2) ∧ divL k [37] A B = (0, 0)) ∧
    (B ≠ 0 → ¬ (A = least ∧ B = -1) → divL k [47] A B = (A.tdiv B, 0) ∧ divL k [37] A B = (A.tmod B, 0)) := by
  refine ⟨fun h => by simp [divL, h], fun h1 h2 => ?_, fun h1 h2 => ?_⟩
  · subst h1; subst h2
    have e : k.wrap (0 - A) = A := by rw [show (0 : Int) - A = -A by omega]; exact hw
    have hA0 : A ≠ 0 := by omega
    simp [divL, e, hA0, hw]
  · have hq : k.wrap (A.tdiv B) = A.tdiv B := by
      by_cases hm : B = -1
      · subst hm
        rw [show A.tdiv (-1) = -A by rw [Int.tdiv_neg, Int.tdiv_one]]
        have : A ≠ least := fun e => h2 ⟨e, rfl⟩
        exact hid _ (by omega) (by omega)
      · have hab : (A.tdiv B).natAbs ≤ A.natAbs := by rw [Int.natAbs_tdiv]; exact Nat.div_le_self _ _
        by_cases hp : 0 ≤ A.tdiv B
        · by_cases hmax : A.tdiv B = -least
          · exfalso
            have hA' : A.natAbs = (-least).natAbs := by omega
            have h9 : (A.tdiv B).natAbs = A.natAbs / B.natAbs := Int.natAbs_tdiv A B
            have hdiv : A.natAbs / B.natAbs = A.natAbs := by omega
            have hB1 : B.natAbs = 1 := by
              rcases Nat.lt_or_ge 1 B.natAbs with h | h
              · have := Nat.div_lt_self (show 0 < A.natAbs by omega) h; omega
              · omega
            have hB' : B = 1 := by omega
            subst hB'
            rw [Int.tdiv_one] at hmax; omega
          · exact hid _ (by omega) (by omega)
        · exact hid _ (by omega) (by omega)
    have hno : ¬ (B = -1 ∧ A ≠ 0 ∧ k.wrap (0 - A) = A) := by
      rintro ⟨h3, h4, h5⟩
      have : A ≠ least := fun e => h2 ⟨e, h3⟩
      rw [hid _ (by omega) (by omega)] at h5; omega
    refine ⟨?_, ?_⟩
    · simp only [divL, h1, if_false, hno, hq]; simp
    · by_cases hm : B = -1
      · subst hm; simp [divL, Int.tmod_neg]
      · simp [divL, h1, hm]
theorem Divides_k (long : Bool) {a b : Int} (ha : In64 a) (hb : In64 b) (h : Heap) : ∃ h', callω E 7 [.bool long, .int .i64 a, .int .i64 b] h = .ok (.bool true) h' ∧ (h' = h ∨ h' = hW h) := by
  cases long
  · have hA := wrap32_in a
    have hB := wrap32_in b
    have e : ∀ x, wrapL 1 x = IntKind.wrap .i32 x := fun x => by simp [wrapL]
    have e2 : ∀ op, op = [47] ∨ op = [37] → binL 1 op a b = divL .i32 op (IntKind.wrap .i32 a) (IntKind.wrap .i32 b) := fun op ho => by simp [binL, core, ho]
    obtain ⟨f1, f2, f3⟩ := divL_facts .i32 (-2147483648) (IntKind.wrap .i32 a) (IntKind.wrap .i32 b) (fun n h1 h2 => wrap32_id ⟨h1, by omega⟩) ⟨hA.1, by have := hA.2; omega⟩ (by omega) (by decide)
    refine Divides_core false (t := 1) rfl (e a) (e b) hA.in64 hB.in64 (least := -2147483648) (fun fl => by kernel_rfl) (fun h => ?_) (fun h h' => ?_) (fun h h' => ?_) h
    · rw [e2 _ (.inl rfl), e2 _ (.inr rfl)]; exact f1 h
    · rw [e2 _ (.inl rfl), e2 _ (.inr rfl)]; exact f2 h h'
    · rw [e2 _ (.inl rfl), e2 _ (.inr rfl)]; exact f3 h h'
  · have e : ∀ x, wrapL 2 x = x := fun x => by simp [wrapL]
    have e2 : ∀ op, op = [47] ∨ op = [37] → binL 2 op a b = divL .i64 op a b := fun op ho => by simp [binL, core, ho]
    obtain ⟨f1, f2, f3⟩ := divL_facts .i64 (-9223372036854775808) a b (fun n h1 h2 => wrap64_id ⟨h1, by omega⟩) ⟨ha.1, by have := ha.2; omega⟩ (by omega) (by decide)
    refine Divides_core true (t := 2) rfl (e a) (e b) ha hb (least := -9223372036854775808) (fun fl => by kernel_rfl) (fun h => ?_) (fun h h' => ?_) (fun h h' => ?_) h
    · rw [e2 _ (.inl rfl), e2 _ (.inr rfl)]; exact f1 h
    · rw [e2 _ (.inl rfl), e2 _ (.inr rfl)]; exact f2 h h'
    · rw [e2 _ (.inl rfl), e2 _ (.inr rfl)]; exact f3 h h'
theorem Divides_ok (long : Bool) {a b : Int} (ha : In64 a) (hb : In64 b) (h : Heap) : ∃ h', callω E 7 [.bool long, .int .i64 a, .int .i64 b] h = .ok (.bool true) h' := by
  obtain ⟨h', e, _⟩ := Divides_k long ha hb h
  exact ⟨h', e⟩
end Go.Proofs.Word
namespace Go.Proofs.Word
open Go Go.AM
/-! ### What is brought to a type -/
theorem trap_zero (t : Int) (op : List UInt8) (a b : Int) : (binL t op a b).2 = 0 ∨ (binL t op a b).1 = 0 := by
  have d : ∀ k (a b : Int), (divL k op a b).2 = 0 ∨ (divL k op a b).1 = 0 := fun k a b => by
    unfold divL
    split
    · exact .inr rfl
    split
    · exact .inl rfl
    split
    · exact .inl rfl
    split
    · exact .inr rfl
    · exact .inl rfl
  have c : ∀ k m (a b : Int), (core k m op a b).2 = 0 ∨ (core k m op a b).1 = 0 := fun k m a b => by
    unfold core
    split
    · exact d k a b
    · exact .inl rfl
  unfold binL
  split
  · exact c _ _ _ _
  split
  · exact c _ _ _ _
  · exact .inl rfl
theorem Wraps_small {t v times a w M X lo hi y tr : Int} {op : List UInt8} (hw : widthL t = w) (hw0 : ¬ w = 0) (hlt : w < 64) (h64 : ¬ w = 64) (hX : wrapL t v = X) (hXX : wrapL t X = X)
    (hs1 : ∀ fl, binOpA .shl fl (.int .i64 times) (.int .u64 (IntKind.wrap .u64 w)) = some (.int .i64 (IntKind.wrap .i64 (times * M))))
    (hmore : wrapL t (IntKind.wrap .i64 (v + IntKind.wrap .i64 (times * M))) = X)
    (hlo : ∀ fl, binOpA .shl fl (.int .i64 (-1)) (.int .u64 (IntKind.wrap .u64 (IntKind.wrap .i64 (w - 1)))) = some (.int .i64 lo)) (hlo' : ¬ X < lo)
    (hhi : ∀ fl, binOpA .shl fl (.int .i64 1) (.int .u64 (IntKind.wrap .u64 (IntKind.wrap .i64 (w - 1)))) = some (.int .i64 hi)) (hhi' : ¬ hi ≤ X)
    (hM : ∀ fl, binOpA .shl fl (.int .i64 1) (.int .u64 (IntKind.wrap .u64 w)) = some (.int .i64 M)) (hM0 : M ≠ 0) (hrem : (IntKind.wrap .i64 (v - X)).tmod M = 0)
    (hy : binL t op a v = (y, tr)) (hz : binL t op a (IntKind.wrap .i64 (v + IntKind.wrap .i64 (times * M))) = (y, tr)) (hyy : wrapL t y = y) (htr : tr = 0 ∨ y = 0) (h : Heap) :
    callω E 6 [.int .i64 t, .int .i64 v, .int .i64 times, .str op, .int .i64 a] h = .ok (.bool true) (hW h) := by
  rw [call6 _ (by simp)]
  rcases htr with ht0 | hy0
  · simp (maxSteps := 1000000) (implicitDefEqProofs := false) only [c6, Width_ok, Bin_ok, Wrap_ok, works_ok, hw, eq_false hw0, eq_true hlt, eq_false h64, hX, hXX, hs1, hmore, hlo, eq_false hlo', hhi, eq_false hhi', hM, b_rem _ _ _ _ hM0, hrem, hy, hz, hyy, eq_true ht0, p_convert _ _ _ ti3 ti33, enter_eq, setAll_cons, setAll_nil, w_seq, w_reg, o_nil, o_plain, o_skip, o_done, p_assign, p_move, p_pick, pickA_true, pickA_false, p_extract, exA_tup, p_call, opvs_nil, opvs_cons, v_int, v_bool, v_str, v_tmp, evThen_ok, setDst_fset, setDst_none, seqA_normal, seqA_ret, seqA_exit, w_block, blockA_normal, blockA_ret, blockA_exit, w_cond, condA_true, condA_false, w_ret, w_skip, w_exit, w_scope, p_binOp, b_add, b_sub, b_mul, b_eql, b_neq, b_eqlS, b_neqS, b_lss, b_leq, b_gtr, b_geq, p_unOp, u_neg, u_not, c_int, lift_some', look_cons, look_nil, isWant_true, isWant_false, isWant_skipped, Option.some.injEq, Bool.true_eq_false, Bool.false_eq_true, after_ret, after_normal, res_tmp, res_nil, obind_some', get_fset, resOf_some, one_one, one_two, one_nil, Nat.reduceAdd, Nat.reduceLT, Nat.reduceEqDiff, ↓reduceIte, decide_true, decide_false, Bool.not_true, Bool.not_false, List.getElem?_cons_zero, List.getElem?_cons_succ, List.getElem?_nil]
  · by_cases ht0 : tr = 0
    · simp (maxSteps := 1000000) (implicitDefEqProofs := false) only [c6, Width_ok, Bin_ok, Wrap_ok, works_ok, hw, eq_false hw0, eq_true hlt, eq_false h64, hX, hXX, hs1, hmore, hlo, eq_false hlo', hhi, eq_false hhi', hM, b_rem _ _ _ _ hM0, hrem, hy, hz, hyy, eq_true ht0, p_convert _ _ _ ti3 ti33, enter_eq, setAll_cons, setAll_nil, w_seq, w_reg, o_nil, o_plain, o_skip, o_done, p_assign, p_move, p_pick, pickA_true, pickA_false, p_extract, exA_tup, p_call, opvs_nil, opvs_cons, v_int, v_bool, v_str, v_tmp, evThen_ok, setDst_fset, setDst_none, seqA_normal, seqA_ret, seqA_exit, w_block, blockA_normal, blockA_ret, blockA_exit, w_cond, condA_true, condA_false, w_ret, w_skip, w_exit, w_scope, p_binOp, b_add, b_sub, b_mul, b_eql, b_neq, b_eqlS, b_neqS, b_lss, b_leq, b_gtr, b_geq, p_unOp, u_neg, u_not, c_int, lift_some', look_cons, look_nil, isWant_true, isWant_false, isWant_skipped, Option.some.injEq, Bool.true_eq_false, Bool.false_eq_true, after_ret, after_normal, res_tmp, res_nil, obind_some', get_fset, resOf_some, one_one, one_two, one_nil, Nat.reduceAdd, Nat.reduceLT, Nat.reduceEqDiff, ↓reduceIte, decide_true, decide_false, Bool.not_true, Bool.not_false, List.getElem?_cons_zero, List.getElem?_cons_succ, List.getElem?_nil]
    · simp (maxSteps := 1000000) (implicitDefEqProofs := false) only [c6, Width_ok, Bin_ok, Wrap_ok, works_ok, hw, eq_false hw0, eq_true hlt, eq_false h64, hX, hXX, hs1, hmore, hlo, eq_false hlo', hhi, eq_false hhi', hM, b_rem _ _ _ _ hM0, hrem, hy, hz, hyy, eq_false ht0, eq_true hy0, p_convert _ _ _ ti3 ti33, enter_eq, setAll_cons, setAll_nil, w_seq, w_reg, o_nil, o_plain, o_skip, o_done, p_assign, p_move, p_pick, pickA_true, pickA_false, p_extract, exA_tup, p_call, opvs_nil, opvs_cons, v_int, v_bool, v_str, v_tmp, evThen_ok, setDst_fset, setDst_none, seqA_normal, seqA_ret, seqA_exit, w_block, blockA_normal, blockA_ret, blockA_exit, w_cond, condA_true, condA_false, w_ret, w_skip, w_exit, w_scope, p_binOp, b_add, b_sub, b_mul, b_eql, b_neq, b_eqlS, b_neqS, b_lss, b_leq, b_gtr, b_geq, p_unOp, u_neg, u_not, c_int, lift_some', look_cons, look_nil, isWant_true, isWant_false, isWant_skipped, Option.some.injEq, Bool.true_eq_false, Bool.false_eq_true, after_ret, after_normal, res_tmp, res_nil, obind_some', get_fset, resOf_some, one_one, one_two, one_nil, Nat.reduceAdd, Nat.reduceLT, Nat.reduceEqDiff, ↓reduceIte, decide_true, decide_false, Bool.not_true, Bool.not_false, List.getElem?_cons_zero, List.getElem?_cons_succ, List.getElem?_nil]
theorem bmod_cong {m : Nat} {k : Nat} (v times : Int) (hm : m * k = 18446744073709551616) : (IntKind.wrap .i64 (v + IntKind.wrap .i64 (times * (m : Int)))).bmod m = v.bmod m := by
  have hd : ∀ n : Int, (IntKind.wrap .i64 n).bmod m = n.bmod m := fun n => by
    rw [wrap64_bmod]
    have h1 : (n.bmod 18446744073709551616) % ((18446744073709551616 : Nat) : Int) = n % ((18446744073709551616 : Nat) : Int) := Int.bmod_emod
    have h2 : ∀ a b : Int, a % 18446744073709551616 = b % 18446744073709551616 → a.bmod m = b.bmod m := fun a b h => by
      have h3 : a % m = b % m := by
        have h4 : (m : Int) ∣ 18446744073709551616 := ⟨k, by rw [← Int.natCast_mul, hm]; rfl⟩
        rw [← Int.emod_emod_of_dvd a h4, ← Int.emod_emod_of_dvd b h4, h]
      unfold Int.bmod; rw [h3]
    exact h2 _ _ h1
  rw [hd, ← Int.add_bmod_bmod, hd, Int.mul_comm, Int.add_bmod_bmod, Int.add_mul_bmod_self_left]
theorem rem_zero {m k : Nat} (v : Int) (hm : m * k = 18446744073709551616) (hp : 0 < m) : (IntKind.wrap .i64 (v - v.bmod m)).tmod m = 0 := by
  have h4 : (m : Int) ∣ 18446744073709551616 := ⟨k, by rw [← Int.natCast_mul, hm]; rfl⟩
  have h5 : (m : Int) ∣ v - v.bmod m := Int.dvd_self_sub_bmod
  have h6 : (m : Int) ∣ IntKind.wrap .i64 (v - v.bmod m) := by
    rw [wrap64_bmod]
    have h7 : (18446744073709551616 : Int) ∣ (v - v.bmod m) - (v - v.bmod m).bmod 18446744073709551616 := Int.dvd_self_sub_bmod
    have h8 := Int.dvd_sub h5 (Int.dvd_trans h4 h7)
    rwa [show (v - v.bmod m) - ((v - v.bmod m) - (v - v.bmod m).bmod 18446744073709551616) = (v - v.bmod m).bmod 18446744073709551616 by omega] at h8
  exact Int.tmod_eq_zero_of_dvd h6
theorem Wraps_k (t : Int) {v times a : Int} (op : List UInt8) (hv : In64 v) (h : Heap) : callω E 6 [.int .i64 t, .int .i64 v, .int .i64 times, .str op, .int .i64 a] h = .ok (.bool true) (hW h) := by
  by_cases h3 : t = 3
  · subst h3
    have e : ∀ x, wrapL 3 x = x.bmod 256 := fun x => by simp [wrapL, wrap8_bmod]
    have hb := wrap8_in v
    rw [wrap8_bmod] at hb
    refine Wraps_small (w := 8) (M := 256) (X := v.bmod 256) (lo := -128) (hi := 128) (y := 0) (tr := 0) rfl (by omega) (by omega) (by omega) (e v) (by rw [e, Int.bmod_bmod]) (fun fl => ?_) (by rw [e]; exact bmod_cong (m := 256) (k := 72057594037927936) v times (by decide)) (fun fl => by kernel_rfl) (by omega) (fun fl => by kernel_rfl) (by omega) (fun fl => by kernel_rfl) (by omega) (rem_zero (m := 256) (k := 72057594037927936) v (by decide) (by decide)) (by simp [binL]) (by simp [binL]) (by decide) (.inl rfl) h
    exact b_shl fl .i64 .u64 times 8
  by_cases h1 : t = 1
  · subst h1
    have e : ∀ x, wrapL 1 x = x.bmod 4294967296 := fun x => by simp [wrapL, wrap32_bmod]
    have hb := wrap32_in v
    rw [wrap32_bmod] at hb
    have hm := bmod_cong (m := 4294967296) (k := 4294967296) v times (by decide)
    have hin : In32 (binL 1 op a v).1 := core32_in 32 op _ _ (wrap32_in a)
    refine Wraps_small (w := 32) (M := 4294967296) (X := v.bmod 4294967296) (lo := -2147483648) (hi := 2147483648) (y := (binL 1 op a v).1) (tr := (binL 1 op a v).2) rfl (by omega) (by omega) (by omega) (e v) (by rw [e, Int.bmod_bmod]) (fun fl => ?_) (by rw [e]; exact hm) (fun fl => by kernel_rfl) (by have := hb.1; omega) (fun fl => by kernel_rfl) (by have := hb.2; omega) (fun fl => by kernel_rfl) (by omega) (rem_zero (m := 4294967296) (k := 4294967296) v (by decide) (by decide)) rfl ?_ (by rw [e, ← wrap32_bmod, wrap32_id hin]) (trap_zero 1 op a v) h
    · exact b_shl fl .i64 .u64 times 32
    · show binL 1 op a _ = binL 1 op a v
      simp only [binL, if_true, wrap32_bmod]
      rw [show (IntKind.wrap .i64 (v + IntKind.wrap .i64 (times * 4294967296))).bmod 4294967296 = v.bmod 4294967296 from hm]
  by_cases h2 : t = 2
  · subst h2
    have e : ∀ x, wrapL 2 x = x := fun x => by simp [wrapL]
    have hw : widthL 2 = 64 := rfl
    have htr := trap_zero 2 op a v
    have n0 : ((64 : Int) = 0) = False := by decide
    have n1 : ((64 : Int) < 64) = False := by decide
    generalize hy : binL 2 op a v = y at htr
    obtain ⟨y, tr⟩ := y
    dsimp only at htr
    rw [call6 _ (by simp)]
    by_cases ht0 : tr = 0
    · simp (maxSteps := 1000000) (implicitDefEqProofs := false) only [c6, Width_ok, Bin_ok, Wrap_ok, works_ok, hw, n0, n1, e, hy, eq_true ht0, enter_eq, setAll_cons, setAll_nil, w_seq, w_reg, o_nil, o_plain, o_skip, o_done, p_assign, p_move, p_pick, pickA_true, pickA_false, p_extract, exA_tup, p_call, opvs_nil, opvs_cons, v_int, v_bool, v_str, v_tmp, evThen_ok, setDst_fset, setDst_none, seqA_normal, seqA_ret, seqA_exit, w_block, blockA_normal, blockA_ret, blockA_exit, w_cond, condA_true, condA_false, w_ret, w_skip, w_exit, w_scope, p_binOp, b_add, b_sub, b_mul, b_eql, b_neq, b_eqlS, b_neqS, b_lss, b_leq, b_gtr, b_geq, p_unOp, u_neg, u_not, c_int, lift_some', look_cons, look_nil, isWant_true, isWant_false, isWant_skipped, Option.some.injEq, Bool.true_eq_false, Bool.false_eq_true, after_ret, after_normal, res_tmp, res_nil, obind_some', get_fset, resOf_some, one_one, one_two, one_nil, Nat.reduceAdd, Nat.reduceLT, Nat.reduceEqDiff, ↓reduceIte, decide_true, decide_false, Bool.not_true, Bool.not_false, List.getElem?_cons_zero, List.getElem?_cons_succ, List.getElem?_nil]
    · have hy0 : y = 0 := htr.resolve_left ht0
      simp (maxSteps := 1000000) (implicitDefEqProofs := false) only [c6, Width_ok, Bin_ok, Wrap_ok, works_ok, hw, n0, n1, e, hy, eq_false ht0, eq_true hy0, enter_eq, setAll_cons, setAll_nil, w_seq, w_reg, o_nil, o_plain, o_skip, o_done, p_assign, p_move, p_pick, pickA_true, pickA_false, p_extract, exA_tup, p_call, opvs_nil, opvs_cons, v_int, v_bool, v_str, v_tmp, evThen_ok, setDst_fset, setDst_none, seqA_normal, seqA_ret, seqA_exit, w_block, blockA_normal, blockA_ret, blockA_exit, w_cond, condA_true, condA_false, w_ret, w_skip, w_exit, w_scope, p_binOp, b_add, b_sub, b_mul, b_eql, b_neq, b_eqlS, b_neqS, b_lss, b_leq, b_gtr, b_geq, p_unOp, u_neg, u_not, c_int, lift_some', look_cons, look_nil, isWant_true, isWant_false, isWant_skipped, Option.some.injEq, Bool.true_eq_false, Bool.false_eq_true, after_ret, after_normal, res_tmp, res_nil, obind_some', get_fset, resOf_some, one_one, one_two, one_nil, Nat.reduceAdd, Nat.reduceLT, Nat.reduceEqDiff, ↓reduceIte, decide_true, decide_false, Bool.not_true, Bool.not_false, List.getElem?_cons_zero, List.getElem?_cons_succ, List.getElem?_nil]
  · have hw : widthL t = 0 := by simp [widthL, h1, h2, h3]
    have hX : wrapL t v = 0 := by simp [wrapL, h1, h2, h3]
    have hy : binL t op a v = (0, 0) := by simp [binL, h1, h2]
    rw [call6 _ (by simp)]
    simp (maxSteps := 1000000) (implicitDefEqProofs := false) only [c6, Width_ok, Bin_ok, Wrap_ok, works_ok, hw, hX, hy, enter_eq, setAll_cons, setAll_nil, w_seq, w_reg, o_nil, o_plain, o_skip, o_done, p_assign, p_move, p_pick, pickA_true, pickA_false, p_extract, exA_tup, p_call, opvs_nil, opvs_cons, v_int, v_bool, v_str, v_tmp, evThen_ok, setDst_fset, setDst_none, seqA_normal, seqA_ret, seqA_exit, w_block, blockA_normal, blockA_ret, blockA_exit, w_cond, condA_true, condA_false, w_ret, w_skip, w_exit, w_scope, p_binOp, b_add, b_sub, b_mul, b_eql, b_neq, b_eqlS, b_neqS, b_lss, b_leq, b_gtr, b_geq, p_unOp, u_neg, u_not, c_int, lift_some', look_cons, look_nil, isWant_true, isWant_false, isWant_skipped, Option.some.injEq, Bool.true_eq_false, Bool.false_eq_true, after_ret, after_normal, res_tmp, res_nil, obind_some', get_fset, resOf_some, one_one, one_two, one_nil, Nat.reduceAdd, Nat.reduceLT, Nat.reduceEqDiff, ↓reduceIte, decide_true, decide_false, Bool.not_true, Bool.not_false, List.getElem?_cons_zero, List.getElem?_cons_succ, List.getElem?_nil]
theorem Wraps_ok (t : Int) {v times a : Int} (op : List UInt8) (hv : In64 v) (h : Heap) : ∃ h', callω E 6 [.int .i64 t, .int .i64 v, .int .i64 times, .str op, .int .i64 a] h = .ok (.bool true) h' := ⟨_, Wraps_k t op hv h⟩
end Go.Proofs.Word
namespace Go.Proofs.Word
open Go Go.AM
/-! ### Bits -/
theorem or_and_nat : ∀ (n a b : Nat), a ≤ n → (a ||| b) + (a &&& b) = a + b ∧ (a ^^^ b) + 2 * (a &&& b) = a + b
  | 0, a, b, h => by
    have : a = 0 := by omega
    subst this; simp
  | n + 1, a, b, h => by
    by_cases ha : a = 0
    · subst ha; simp
    obtain ⟨h1, h2⟩ := or_and_nat n (a / 2) (b / 2) (by omega)
    have d1 : (a ||| b) / 2 = a / 2 ||| b / 2 := Nat.or_div_two
    have d2 : (a &&& b) / 2 = a / 2 &&& b / 2 := Nat.and_div_two
    have d3 : (a ^^^ b) / 2 = a / 2 ^^^ b / 2 := Nat.xor_div_two
    have m1 : (a ||| b) % 2 = (a % 2 ||| b % 2) := Nat.or_mod_two_pow (n := 1)
    have m2 : (a &&& b) % 2 = (a % 2 &&& b % 2) := Nat.and_mod_two_pow (n := 1)
    have m3 : (a ^^^ b) % 2 = (a % 2 ^^^ b % 2) := Nat.xor_mod_two_pow (n := 1)
    rcases Nat.mod_two_eq_zero_or_one a with ea | ea <;> rcases Nat.mod_two_eq_zero_or_one b with eb | eb <;> rw [ea, eb] at m1 m2 m3
    · have q1 : (a ||| b) % 2 = 0 := m1
      have q2 : (a &&& b) % 2 = 0 := m2
      have q3 : (a ^^^ b) % 2 = 0 := m3
      omega
    · have q1 : (a ||| b) % 2 = 1 := m1
      have q2 : (a &&& b) % 2 = 0 := m2
      have q3 : (a ^^^ b) % 2 = 1 := m3
      omega
    · have q1 : (a ||| b) % 2 = 1 := m1
      have q2 : (a &&& b) % 2 = 0 := m2
      have q3 : (a ^^^ b) % 2 = 1 := m3
      omega
    · have q1 : (a ||| b) % 2 = 1 := m1
      have q2 : (a &&& b) % 2 = 1 := m2
      have q3 : (a ^^^ b) % 2 = 0 := m3
      omega
end Go.Proofs.Word
namespace Go.Proofs.Word
open Go Go.AM
noncomputable section
def body8_0 : XC :=
  (.seq
      (.seq
      (.reg false [
        ⟨some 83, .move (.tmp 13), none, false, true, false⟩,
        ⟨some 84, .move (.tmp 8), none, false, true, false⟩,
        ⟨some 85, .binOp .lss 3 (.tmp 83) (.tmp 84) 3, none, false, true, false⟩])
      (.cond (.tmp 85)
        .skip
        (.exit 0)))
      (.seq
      (.block 1
        (.seq
        (.seq
        (.reg false [
          ⟨some 88, .move (.tmp 7), none, false, true, false⟩,
          ⟨some 89, .move (.tmp 1), none, false, true, false⟩,
          ⟨some 90, .move (.tmp 13), none, false, true, false⟩,
          ⟨some 91, .call ⟨.value (.func 11), #[.tmp 88, .const (.string ⟨#[60, 60]⟩), .tmp 89, .tmp 90], #[3, 9, 3, 3]⟩, none, false, true, false⟩,
          ⟨some 92, .move (.tmp 11), none, false, true, false⟩,
          ⟨some 93, .binOp .neq 3 (.tmp 91) (.tmp 92) 3, none, false, true, false⟩,
          ⟨some 94, .move (.tmp 93), none, false, true, false⟩,
          ⟨some 95, .move (.tmp 7), some (some 94, false), false, true, false⟩,
          ⟨some 96, .move (.tmp 1), some (some 94, false), false, true, false⟩,
          ⟨some 97, .move (.tmp 13), some (some 94, false), false, true, false⟩,
          ⟨some 98, .call ⟨.value (.func 11), #[.tmp 95, .const (.string ⟨#[62, 62]⟩), .tmp 96, .tmp 97], #[3, 9, 3, 3]⟩, some (some 94, false), false, true, false⟩,
          ⟨some 99, .move (.tmp 12), some (some 94, false), false, true, false⟩,
          ⟨some 100, .binOp .neq 3 (.tmp 98) (.tmp 99) 3, some (some 94, false), false, true, false⟩,
          ⟨some 101, .pick (.tmp 94) (.const (.bool true)) (.tmp 100), none, false, true, false⟩,
          ⟨some 102, .move (.tmp 101), none, false, true, false⟩,
          ⟨some 103, .move (.tmp 7), some (some 102, false), false, true, false⟩,
          ⟨some 104, .move (.tmp 1), some (some 102, false), false, true, false⟩,
          ⟨some 105, .move (.tmp 13), some (some 102, false), false, true, false⟩,
          ⟨some 106, .move (.tmp 8), some (some 102, false), false, true, false⟩,
          ⟨some 107, .binOp .add 3 (.tmp 105) (.tmp 106) 3, some (some 102, false), false, true, false⟩,
          ⟨some 108, .call ⟨.value (.func 11), #[.tmp 103, .const (.string ⟨#[60, 60]⟩), .tmp 104, .tmp 107], #[3, 9, 3, 3]⟩, some (some 102, false), false, true, false⟩,
          ⟨some 109, .move (.tmp 11), some (some 102, false), false, true, false⟩,
          ⟨some 110, .binOp .neq 3 (.tmp 108) (.tmp 109) 3, some (some 102, false), false, true, false⟩,
          ⟨some 111, .pick (.tmp 102) (.const (.bool true)) (.tmp 110), none, false, true, false⟩,
          ⟨some 112, .move (.tmp 111), none, false, true, false⟩,
          ⟨some 113, .move (.tmp 7), some (some 112, false), false, true, false⟩,
          ⟨some 114, .move (.tmp 1), some (some 112, false), false, true, false⟩,
          ⟨some 115, .move (.tmp 13), some (some 112, false), false, true, false⟩,
          ⟨some 116, .move (.tmp 8), some (some 112, false), false, true, false⟩,
          ⟨some 117, .binOp .sub 3 (.tmp 115) (.tmp 116) 3, some (some 112, false), false, true, false⟩,
          ⟨some 118, .call ⟨.value (.func 11), #[.tmp 113, .const (.string ⟨#[62, 62]⟩), .tmp 114, .tmp 117], #[3, 9, 3, 3]⟩, some (some 112, false), false, true, false⟩,
          ⟨some 119, .move (.tmp 12), some (some 112, false), false, true, false⟩,
          ⟨some 120, .binOp .neq 3 (.tmp 118) (.tmp 119) 3, some (some 112, false), false, true, false⟩,
          ⟨some 121, .pick (.tmp 112) (.const (.bool true)) (.tmp 120), none, false, true, false⟩])
        (.cond (.tmp 121)
          (.seq
          (.reg false [
            ⟨some 6, .assign (.const (.bool false)), none, false, true, false⟩])
          .ret)
          .skip))
        (.seq
        (.reg false [
          ⟨some 122, .move (.tmp 7), none, false, true, false⟩,
          ⟨some 123, .move (.tmp 11), none, false, true, false⟩,
          ⟨some 124, .move (.tmp 11), none, false, true, false⟩,
          ⟨some 125, .call ⟨.value (.func 11), #[.tmp 122, .const (.string ⟨#[43]⟩), .tmp 123, .tmp 124], #[3, 9, 3, 3]⟩, none, false, true, false⟩,
          ⟨some 11, .assign (.tmp 125), none, false, true, false⟩])
        (.seq
        (.reg false [
          ⟨some 126, .move (.tmp 7), none, false, true, false⟩,
          ⟨some 127, .move (.tmp 12), none, false, true, false⟩,
          ⟨some 128, .call ⟨.value (.func 11), #[.tmp 126, .const (.string ⟨#[38]⟩), .tmp 127, .const (.int .i64 1)], #[3, 9, 3, 3]⟩, none, false, true, false⟩,
          ⟨some 14, .assign (.tmp 128), none, false, true, false⟩])
        (.reg false [
          ⟨some 129, .move (.tmp 12), none, false, true, false⟩,
          ⟨some 130, .move (.tmp 14), none, false, true, false⟩,
          ⟨some 131, .binOp .sub 3 (.tmp 129) (.tmp 130) 3, none, false, true, false⟩,
          ⟨some 132, .binOp .quo 3 (.tmp 131) (.const (.int .i64 2)) 3, none, false, true, false⟩,
          ⟨some 12, .assign (.tmp 132), none, false, true, false⟩])))))
      (.reg false [
        ⟨some 86, .move (.tmp 13), none, false, true, false⟩,
        ⟨some 87, .binOp .add 3 (.tmp 86) (.const (.int .i64 1)) 3, none, false, true, false⟩,
        ⟨some 13, .assign (.tmp 87), none, false, true, false⟩])))
def d8 : XC :=
  (.seq
  (.reg false [
    ⟨some 6, .assign (.const (.bool false)), none, false, true, false⟩])
  (.seq
  (.reg false [
    ⟨some 15, .move (.tmp 0), none, false, true, false⟩,
    ⟨some 16, .call ⟨.value (.func 10), #[.tmp 15], #[4]⟩, none, false, true, false⟩,
    ⟨some 7, .assign (.tmp 16), none, false, true, false⟩])
  (.seq
  (.reg false [
    ⟨some 17, .move (.tmp 7), none, false, true, false⟩,
    ⟨some 18, .call ⟨.value (.func 16), #[.tmp 17], #[3]⟩, none, false, true, false⟩,
    ⟨some 8, .assign (.tmp 18), none, false, true, false⟩])
  (.seq
  (.reg false [
    ⟨some 19, .move (.tmp 7), none, false, true, false⟩,
    ⟨some 20, .move (.tmp 1), none, false, true, false⟩,
    ⟨some 21, .move (.tmp 2), none, false, true, false⟩,
    ⟨some 22, .call ⟨.value (.func 11), #[.tmp 19, .const (.string ⟨#[43]⟩), .tmp 20, .tmp 21], #[3, 9, 3, 3]⟩, none, false, true, false⟩,
    ⟨some 9, .assign (.tmp 22), none, false, true, false⟩])
  (.seq
  (.reg false [
    ⟨some 23, .move (.tmp 7), none, false, true, false⟩,
    ⟨some 24, .move (.tmp 1), none, false, true, false⟩,
    ⟨some 25, .move (.tmp 2), none, false, true, false⟩,
    ⟨some 26, .call ⟨.value (.func 11), #[.tmp 23, .const (.string ⟨#[38]⟩), .tmp 24, .tmp 25], #[3, 9, 3, 3]⟩, none, false, true, false⟩,
    ⟨some 10, .assign (.tmp 26), none, false, true, false⟩])
  (.seq
  (.seq
  (.reg false [
    ⟨some 27, .move (.tmp 7), none, false, true, false⟩,
    ⟨some 28, .move (.tmp 7), none, false, true, false⟩,
    ⟨some 29, .move (.tmp 1), none, false, true, false⟩,
    ⟨some 30, .move (.tmp 2), none, false, true, false⟩,
    ⟨some 31, .call ⟨.value (.func 11), #[.tmp 28, .const (.string ⟨#[124]⟩), .tmp 29, .tmp 30], #[3, 9, 3, 3]⟩, none, false, true, false⟩,
    ⟨some 32, .move (.tmp 10), none, false, true, false⟩,
    ⟨some 33, .call ⟨.value (.func 11), #[.tmp 27, .const (.string ⟨#[43]⟩), .tmp 31, .tmp 32], #[3, 9, 3, 3]⟩, none, false, true, false⟩,
    ⟨some 34, .move (.tmp 9), none, false, true, false⟩,
    ⟨some 35, .binOp .neq 3 (.tmp 33) (.tmp 34) 3, none, false, true, false⟩,
    ⟨some 36, .move (.tmp 35), none, false, true, false⟩,
    ⟨some 37, .move (.tmp 7), some (some 36, false), false, true, false⟩,
    ⟨some 38, .move (.tmp 7), some (some 36, false), false, true, false⟩,
    ⟨some 39, .move (.tmp 1), some (some 36, false), false, true, false⟩,
    ⟨some 40, .move (.tmp 2), some (some 36, false), false, true, false⟩,
    ⟨some 41, .call ⟨.value (.func 11), #[.tmp 38, .const (.string ⟨#[94]⟩), .tmp 39, .tmp 40], #[3, 9, 3, 3]⟩, some (some 36, false), false, true, false⟩,
    ⟨some 42, .move (.tmp 7), some (some 36, false), false, true, false⟩,
    ⟨some 43, .move (.tmp 10), some (some 36, false), false, true, false⟩,
    ⟨some 44, .move (.tmp 10), some (some 36, false), false, true, false⟩,
    ⟨some 45, .call ⟨.value (.func 11), #[.tmp 42, .const (.string ⟨#[43]⟩), .tmp 43, .tmp 44], #[3, 9, 3, 3]⟩, some (some 36, false), false, true, false⟩,
    ⟨some 46, .call ⟨.value (.func 11), #[.tmp 37, .const (.string ⟨#[43]⟩), .tmp 41, .tmp 45], #[3, 9, 3, 3]⟩, some (some 36, false), false, true, false⟩,
    ⟨some 47, .move (.tmp 9), some (some 36, false), false, true, false⟩,
    ⟨some 48, .binOp .neq 3 (.tmp 46) (.tmp 47) 3, some (some 36, false), false, true, false⟩,
    ⟨some 49, .pick (.tmp 36) (.const (.bool true)) (.tmp 48), none, false, true, false⟩])
  (.cond (.tmp 49)
    (.seq
    (.reg false [
      ⟨some 6, .assign (.const (.bool false)), none, false, true, false⟩])
    .ret)
    .skip))
  (.seq
  (.seq
  (.reg false [
    ⟨some 50, .move (.tmp 7), none, false, true, false⟩,
    ⟨some 51, .move (.tmp 7), none, false, true, false⟩,
    ⟨some 52, .move (.tmp 1), none, false, true, false⟩,
    ⟨some 53, .move (.tmp 2), none, false, true, false⟩,
    ⟨some 54, .call ⟨.value (.func 11), #[.tmp 51, .const (.string ⟨#[94]⟩), .tmp 52, .tmp 53], #[3, 9, 3, 3]⟩, none, false, true, false⟩,
    ⟨some 55, .move (.tmp 2), none, false, true, false⟩,
    ⟨some 56, .call ⟨.value (.func 11), #[.tmp 50, .const (.string ⟨#[94]⟩), .tmp 54, .tmp 55], #[3, 9, 3, 3]⟩, none, false, true, false⟩,
    ⟨some 57, .move (.tmp 7), none, false, true, false⟩,
    ⟨some 58, .move (.tmp 1), none, false, true, false⟩,
    ⟨some 59, .call ⟨.value (.func 12), #[.tmp 57, .tmp 58], #[3, 3]⟩, none, false, true, false⟩,
    ⟨some 60, .binOp .neq 3 (.tmp 56) (.tmp 59) 3, none, false, true, false⟩,
    ⟨some 61, .move (.tmp 60), none, false, true, false⟩,
    ⟨some 62, .move (.tmp 7), some (some 61, false), false, true, false⟩,
    ⟨some 63, .move (.tmp 1), some (some 61, false), false, true, false⟩,
    ⟨some 64, .call ⟨.value (.func 11), #[.tmp 62, .const (.string ⟨#[38]⟩), .tmp 63, .const (.int .i64 (-1))], #[3, 9, 3, 3]⟩, some (some 61, false), false, true, false⟩,
    ⟨some 65, .move (.tmp 7), some (some 61, false), false, true, false⟩,
    ⟨some 66, .move (.tmp 1), some (some 61, false), false, true, false⟩,
    ⟨some 67, .call ⟨.value (.func 12), #[.tmp 65, .tmp 66], #[3, 3]⟩, some (some 61, false), false, true, false⟩,
    ⟨some 68, .binOp .neq 3 (.tmp 64) (.tmp 67) 3, some (some 61, false), false, true, false⟩,
    ⟨some 69, .pick (.tmp 61) (.const (.bool true)) (.tmp 68), none, false, true, false⟩,
    ⟨some 70, .move (.tmp 69), none, false, true, false⟩,
    ⟨some 71, .move (.tmp 7), some (some 70, false), false, true, false⟩,
    ⟨some 72, .move (.tmp 1), some (some 70, false), false, true, false⟩,
    ⟨some 73, .call ⟨.value (.func 11), #[.tmp 71, .const (.string ⟨#[124]⟩), .tmp 72, .const (.int .i64 0)], #[3, 9, 3, 3]⟩, some (some 70, false), false, true, false⟩,
    ⟨some 74, .move (.tmp 7), some (some 70, false), false, true, false⟩,
    ⟨some 75, .move (.tmp 1), some (some 70, false), false, true, false⟩,
    ⟨some 76, .call ⟨.value (.func 12), #[.tmp 74, .tmp 75], #[3, 3]⟩, some (some 70, false), false, true, false⟩,
    ⟨some 77, .binOp .neq 3 (.tmp 73) (.tmp 76) 3, some (some 70, false), false, true, false⟩,
    ⟨some 78, .pick (.tmp 70) (.const (.bool true)) (.tmp 77), none, false, true, false⟩])
  (.cond (.tmp 78)
    (.seq
    (.reg false [
      ⟨some 6, .assign (.const (.bool false)), none, false, true, false⟩])
    .ret)
    .skip))
  (.seq
  (.reg false [
    ⟨some 79, .move (.tmp 7), none, false, true, false⟩,
    ⟨some 80, .move (.tmp 1), none, false, true, false⟩,
    ⟨some 81, .call ⟨.value (.func 12), #[.tmp 79, .tmp 80], #[3, 3]⟩, none, false, true, false⟩,
    ⟨some 11, .assign (.tmp 81), none, false, true, false⟩])
  (.seq
  (.reg false [
    ⟨some 82, .move (.tmp 11), none, false, true, false⟩,
    ⟨some 12, .assign (.tmp 82), none, false, true, false⟩])
  (.seq
  (.seq
  (.reg false [
    ⟨some 13, .assign (.const (.int .i64 0)), none, false, true, false⟩])
  (.block 0
    (.loop body8_0)))
  (.seq
  (.reg false [
    ⟨some 133, .call ⟨.value (.func 13), #[], #[]⟩, none, false, true, false⟩,
    ⟨some 6, .assign (.tmp 133), none, false, true, false⟩])
  .ret)))))))))))
theorem d8_eq : c8 = d8 := rfl
def body24_0 : XC :=
  (.seq
      (.seq
      (.reg false [
        ⟨some 19, .move (.tmp 11), none, false, true, false⟩,
        ⟨some 20, .binOp .geq 3 (.tmp 19) (.const (.int .i64 0)) 3, none, false, true, false⟩])
      (.cond (.tmp 20)
        .skip
        (.exit 0)))
      (.seq
      (.block 1
        (.seq
        (.reg false [
          ⟨some 23, .move (.tmp 2), none, false, true, false⟩,
          ⟨some 24, .move (.tmp 11), none, false, true, false⟩,
          ⟨some 25, .call ⟨.value (.func 31), #[.tmp 23, .tmp 24], #[3, 3]⟩, none, false, true, false⟩,
          ⟨some 12, .assign (.tmp 25), none, false, true, false⟩])
        (.seq
        (.reg false [
          ⟨some 26, .move (.tmp 3), none, false, true, false⟩,
          ⟨some 27, .move (.tmp 11), none, false, true, false⟩,
          ⟨some 28, .call ⟨.value (.func 31), #[.tmp 26, .tmp 27], #[3, 3]⟩, none, false, true, false⟩,
          ⟨some 13, .assign (.tmp 28), none, false, true, false⟩])
        (.seq
        (.reg false [
          ⟨some 14, .assign (.const (.bool false)), none, false, true, false⟩])
        (.seq
        (.seq
        (.reg false [
          ⟨some 29, .move (.tmp 1), none, false, true, false⟩])
        (.block 2
          (.seq
          (.reg false [
            ⟨some 31, .binOp .eql 9 (.tmp 29) (.const (.string ⟨#[38]⟩)) 9, none, false, true, false⟩,
            ⟨some 30, .assign (.tmp 31), none, false, true, false⟩])
          (.cond (.tmp 30)
            (.reg false [
              ⟨some 32, .move (.tmp 12), none, false, true, false⟩,
              ⟨some 33, .move (.tmp 32), none, false, true, false⟩,
              ⟨some 34, .move (.tmp 13), some (some 33, true), false, true, false⟩,
              ⟨some 35, .pick (.tmp 33) (.tmp 34) (.const (.bool false)), none, false, true, false⟩,
              ⟨some 14, .assign (.tmp 35), none, false, true, false⟩])
            (.seq
            (.reg false [
              ⟨some 37, .binOp .eql 9 (.tmp 29) (.const (.string ⟨#[124]⟩)) 9, none, false, true, false⟩,
              ⟨some 36, .assign (.tmp 37), none, false, true, false⟩])
            (.cond (.tmp 36)
              (.reg false [
                ⟨some 38, .move (.tmp 12), none, false, true, false⟩,
                ⟨some 39, .move (.tmp 38), none, false, true, false⟩,
                ⟨some 40, .move (.tmp 13), some (some 39, false), false, true, false⟩,
                ⟨some 41, .pick (.tmp 39) (.const (.bool true)) (.tmp 40), none, false, true, false⟩,
                ⟨some 14, .assign (.tmp 41), none, false, true, false⟩])
              (.seq
              (.reg false [
                ⟨some 43, .binOp .eql 9 (.tmp 29) (.const (.string ⟨#[94]⟩)) 9, none, false, true, false⟩,
                ⟨some 42, .assign (.tmp 43), none, false, true, false⟩])
              (.cond (.tmp 42)
                (.reg false [
                  ⟨some 44, .move (.tmp 12), none, false, true, false⟩,
                  ⟨some 45, .move (.tmp 13), none, false, true, false⟩,
                  ⟨some 46, .binOp .neq 4 (.tmp 44) (.tmp 45) 4, none, false, true, false⟩,
                  ⟨some 14, .assign (.tmp 46), none, false, true, false⟩])
                .skip))))))))
        (.seq
        (.reg false [
          ⟨some 47, .move (.tmp 10), none, false, true, false⟩,
          ⟨some 48, .binOp .mul 48 (.tmp 47) (.const (.int .u64 2)) 48, none, false, true, false⟩,
          ⟨some 10, .assign (.tmp 48), none, false, true, false⟩])
        (.seq
        (.reg false [
          ⟨some 49, .move (.tmp 14), none, false, true, false⟩])
        (.cond (.tmp 49)
          (.reg false [
            ⟨some 50, .move (.tmp 10), none, false, true, false⟩,
            ⟨some 51, .binOp .add 48 (.tmp 50) (.const (.int .u64 1)) 48, none, false, true, false⟩,
            ⟨some 10, .assign (.tmp 51), none, false, true, false⟩])
          .skip))))))))
      (.reg false [
        ⟨some 21, .move (.tmp 11), none, false, true, false⟩,
        ⟨some 22, .binOp .sub 3 (.tmp 21) (.const (.int .i64 1)) 3, none, false, true, false⟩,
        ⟨some 11, .assign (.tmp 22), none, false, true, false⟩])))
def d24 : XC :=
  (.seq
  (.reg false [
    ⟨some 8, .assign (.const (.int .i64 0)), none, false, true, false⟩])
  (.seq
  (.reg false [
    ⟨some 15, .move (.tmp 0), none, false, true, false⟩,
    ⟨some 16, .call ⟨.value (.func 17), #[.tmp 15], #[3]⟩, none, false, true, false⟩,
    ⟨some 9, .assign (.tmp 16), none, false, true, false⟩])
  (.seq
  (.reg false [
    ⟨some 10, .assign (.const (.int .u64 0)), none, false, true, false⟩])
  (.seq
  (.seq
  (.reg false [
    ⟨some 17, .move (.tmp 9), none, false, true, false⟩,
    ⟨some 18, .binOp .sub 3 (.tmp 17) (.const (.int .i64 1)) 3, none, false, true, false⟩,
    ⟨some 11, .assign (.tmp 18), none, false, true, false⟩])
  (.block 0
    (.loop body24_0)))
  (.seq
  (.reg false [
    ⟨some 52, .move (.tmp 0), none, false, true, false⟩,
    ⟨some 53, .move (.tmp 10), none, false, true, false⟩,
    ⟨some 54, .convert 48 3 (.tmp 53), none, false, true, false⟩,
    ⟨some 55, .call ⟨.value (.func 18), #[.tmp 52, .tmp 54], #[3, 3]⟩, none, false, true, false⟩,
    ⟨some 8, .assign (.tmp 55), none, false, true, false⟩])
  .ret)))))
theorem d24_eq : c24 = d24 := rfl
def body25_0 : XC :=
  (.seq
      (.seq
      (.reg false [
        ⟨some 22, .move (.tmp 11), none, false, true, false⟩,
        ⟨some 23, .move (.tmp 10), none, false, true, false⟩,
        ⟨some 24, .binOp .lss 3 (.tmp 22) (.tmp 23) 3, none, false, true, false⟩])
      (.cond (.tmp 24)
        .skip
        (.exit 0)))
      (.seq
      (.block 1
        (.seq
        (.reg false [
          ⟨some 27, .move (.tmp 1), none, false, true, false⟩,
          ⟨some 28, .binOp .eql 9 (.tmp 27) (.const (.string ⟨#[60, 60]⟩)) 9, none, false, true, false⟩])
        (.cond (.tmp 28)
          (.reg false [
            ⟨some 29, .move (.tmp 0), none, false, true, false⟩,
            ⟨some 30, .move (.tmp 2), none, false, true, false⟩,
            ⟨some 31, .move (.tmp 2), none, false, true, false⟩,
            ⟨some 32, .binOp .add 3 (.tmp 30) (.tmp 31) 3, none, false, true, false⟩,
            ⟨some 33, .call ⟨.value (.func 18), #[.tmp 29, .tmp 32], #[3, 3]⟩, none, false, true, false⟩,
            ⟨some 2, .assign (.tmp 33), none, false, true, false⟩])
          (.seq
          (.reg false [
            ⟨some 34, .move (.tmp 2), none, false, true, false⟩,
            ⟨some 35, .binOp .lss 3 (.tmp 34) (.const (.int .i64 0)) 3, none, false, true, false⟩,
            ⟨some 36, .move (.tmp 35), none, false, true, false⟩,
            ⟨some 37, .move (.tmp 2), some (some 36, true), false, true, false⟩,
            ⟨some 38, .binOp .rem 3 (.tmp 37) (.const (.int .i64 2)) 3, some (some 36, true), false, true, false⟩,
            ⟨some 39, .binOp .neq 3 (.tmp 38) (.const (.int .i64 0)) 3, some (some 36, true), false, true, false⟩,
            ⟨some 40, .pick (.tmp 36) (.tmp 39) (.const (.bool false)), none, false, true, false⟩])
          (.cond (.tmp 40)
            (.reg false [
              ⟨some 41, .move (.tmp 2), none, false, true, false⟩,
              ⟨some 42, .binOp .quo 3 (.tmp 41) (.const (.int .i64 2)) 3, none, false, true, false⟩,
              ⟨some 43, .binOp .sub 3 (.tmp 42) (.const (.int .i64 1)) 3, none, false, true, false⟩,
              ⟨some 2, .assign (.tmp 43), none, false, true, false⟩])
            (.reg false [
              ⟨some 44, .move (.tmp 2), none, false, true, false⟩,
              ⟨some 45, .binOp .quo 3 (.tmp 44) (.const (.int .i64 2)) 3, none, false, true, false⟩,
              ⟨some 2, .assign (.tmp 45), none, false, true, false⟩]))))))
      (.reg false [
        ⟨some 25, .move (.tmp 11), none, false, true, false⟩,
        ⟨some 26, .binOp .add 3 (.tmp 25) (.const (.int .i64 1)) 3, none, false, true, false⟩,
        ⟨some 11, .assign (.tmp 26), none, false, true, false⟩])))
def d25 : XC :=
  (.seq
  (.reg false [
    ⟨some 8, .assign (.const (.int .i64 0)), none, false, true, false⟩])
  (.seq
  (.reg false [
    ⟨some 12, .move (.tmp 0), none, false, true, false⟩,
    ⟨some 13, .call ⟨.value (.func 17), #[.tmp 12], #[3]⟩, none, false, true, false⟩,
    ⟨some 9, .assign (.tmp 13), none, false, true, false⟩])
  (.seq
  (.reg false [
    ⟨some 14, .move (.tmp 3), none, false, true, false⟩,
    ⟨some 15, .move (.tmp 9), none, false, true, false⟩,
    ⟨some 16, .binOp .rem 3 (.tmp 14) (.tmp 15) 3, none, false, true, false⟩,
    ⟨some 10, .assign (.tmp 16), none, false, true, false⟩])
  (.seq
  (.seq
  (.reg false [
    ⟨some 17, .move (.tmp 10), none, false, true, false⟩,
    ⟨some 18, .binOp .lss 3 (.tmp 17) (.const (.int .i64 0)) 3, none, false, true, false⟩])
  (.cond (.tmp 18)
    (.reg false [
      ⟨some 19, .move (.tmp 10), none, false, true, false⟩,
      ⟨some 20, .move (.tmp 9), none, false, true, false⟩,
      ⟨some 21, .binOp .add 3 (.tmp 19) (.tmp 20) 3, none, false, true, false⟩,
      ⟨some 10, .assign (.tmp 21), none, false, true, false⟩])
    .skip))
  (.seq
  (.seq
  (.reg false [
    ⟨some 11, .assign (.const (.int .i64 0)), none, false, true, false⟩])
  (.block 0
    (.loop body25_0)))
  (.seq
  (.reg false [
    ⟨some 46, .move (.tmp 2), none, false, true, false⟩,
    ⟨some 8, .assign (.tmp 46), none, false, true, false⟩])
  .ret))))))
theorem d25_eq : c25 = d25 := rfl
def body31_0 : XC :=
  (.seq
      (.seq
      (.reg false [
        ⟨some 9, .move (.tmp 6), none, false, true, false⟩,
        ⟨some 10, .move (.tmp 1), none, false, true, false⟩,
        ⟨some 11, .binOp .lss 3 (.tmp 9) (.tmp 10) 3, none, false, true, false⟩])
      (.cond (.tmp 11)
        .skip
        (.exit 0)))
      (.seq
      (.block 1
        (.reg false [
          ⟨some 14, .move (.tmp 5), none, false, true, false⟩,
          ⟨some 15, .binOp .quo 48 (.tmp 14) (.const (.int .u64 2)) 48, none, false, true, false⟩,
          ⟨some 5, .assign (.tmp 15), none, false, true, false⟩]))
      (.reg false [
        ⟨some 12, .move (.tmp 6), none, false, true, false⟩,
        ⟨some 13, .binOp .add 3 (.tmp 12) (.const (.int .i64 1)) 3, none, false, true, false⟩,
        ⟨some 6, .assign (.tmp 13), none, false, true, false⟩])))
def d31 : XC :=
  (.seq
  (.reg false [
    ⟨some 4, .assign (.const (.bool false)), none, false, true, false⟩])
  (.seq
  (.reg false [
    ⟨some 7, .move (.tmp 0), none, false, true, false⟩,
    ⟨some 8, .convert 3 48 (.tmp 7), none, false, true, false⟩,
    ⟨some 5, .assign (.tmp 8), none, false, true, false⟩])
  (.seq
  (.seq
  (.reg false [
    ⟨some 6, .assign (.const (.int .i64 0)), none, false, true, false⟩])
  (.block 0
    (.loop body31_0)))
  (.seq
  (.reg false [
    ⟨some 16, .move (.tmp 5), none, false, true, false⟩,
    ⟨some 17, .binOp .rem 48 (.tmp 16) (.const (.int .u64 2)) 48, none, false, true, false⟩,
    ⟨some 18, .binOp .eql 48 (.tmp 17) (.const (.int .u64 1)) 48, none, false, true, false⟩,
    ⟨some 4, .assign (.tmp 18), none, false, true, false⟩])
  .ret))))
theorem d31_eq : c31 = d31 := rfl
end
end Go.Proofs.Word
namespace Go.Proofs.Word
open Go Go.AM
/-- A number's bits, as a natural number. -/
def ub (M : Nat) (n : Int) : Nat := (n % (M : Int)).toNat
theorem ub_cast {M : Nat} (hM : 0 < M) (n : Int) : (ub M n : Int) = n % M := by
  have := Int.emod_nonneg n (show (M : Int) ≠ 0 by omega)
  unfold ub; omega
theorem ub_lt {M : Nat} (hM : 0 < M) (n : Int) : ub M n < M := by
  have h1 := ub_cast hM n
  have := Int.emod_lt_of_pos n (show (0 : Int) < M by omega)
  omega
theorem ub_bmod {M : Nat} (hM : 0 < M) (n : Int) : ub M (n.bmod M) = ub M n := by
  unfold ub; rw [Int.bmod_emod]
theorem ub_nat {M m : Nat} (h : m < M) : ub M (m : Int) = m := by
  unfold ub; rw [Int.emod_eq_of_lt (by omega) (by omega)]; omega
theorem bmod_ub {M : Nat} (hM : 0 < M) (n : Int) : ((ub M n : Nat) : Int).bmod M = n.bmod M := by
  rw [ub_cast hM, Int.emod_bmod]
theorem modN_ub (k : IntKind) (n : Int) : modN n (pow2 k) = ub (pow2 k) n := by
  have h1 := modN_eq n (pow2 k) (pow2_pos k)
  have h2 := ub_cast (pow2_pos k) n
  omega
theorem wrapN32_bmod {m : Nat} (h : m < 4294967296) : wrapN .i32 m = (m : Int).bmod 4294967296 := by
  rw [← wrap32_bmod, ← wrapK_eq]
  unfold wrapK
  have : modN (m : Int) (pow2 .i32) = m := by rw [modN_ub]; exact ub_nat h
  rw [this]
theorem wrapN64_bmod {m : Nat} (h : m < 18446744073709551616) : wrapN .i64 m = (m : Int).bmod 18446744073709551616 := by
  rw [← wrap64_bmod, ← wrapK_eq]
  unfold wrapK
  have : modN (m : Int) (pow2 .i64) = m := by rw [modN_ub]; exact ub_nat h
  rw [this]
structure BitOps (t : Int) (w : Nat) (M : Nat) : Prop where
  hM : M = 2 ^ w
  hw2 : 32 ≤ w ∧ w ≤ 64
  add : ∀ a b, lawL t [43] a b = (a + b).bmod M
  band : ∀ a b, lawL t [38] a b = ((ub M a &&& ub M b : Nat) : Int).bmod M
  bor : ∀ a b, lawL t [124] a b = ((ub M a ||| ub M b : Nat) : Int).bmod M
  bxor : ∀ a b, lawL t [94] a b = ((ub M a ^^^ ub M b : Nat) : Int).bmod M
  shl : ∀ a (i : Nat) (j : Int), i < w → j % w = i → lawL t [60, 60] a j = (a * (2 ^ i : Nat)).bmod M
  shr : ∀ a (i : Nat) (j : Int), i < w → j % w = i → lawL t [62, 62] a j = wrapL t a / (2 ^ i : Nat)
  width : widthL t = w
theorem bits1 : BitOps 1 32 4294967296 where
  hM := by decide
  hw2 := by decide
  add a b := add1 a b
  band a b := by
    have h1 := ub_lt (M := 4294967296) (by decide) a
    have e : lawL 1 [38] a b = andK .i32 (IntKind.wrap .i32 a) (IntKind.wrap .i32 b) := by simp [lawL, binL, core, doesL]
    rw [e]; unfold andK
    rw [modN_ub, modN_ub, wrap32_bmod, wrap32_bmod]
    show wrapN .i32 (ub 4294967296 (a.bmod 4294967296) &&& ub 4294967296 (b.bmod 4294967296)) = _
    rw [ub_bmod (by decide), ub_bmod (by decide), wrapN32_bmod (Nat.lt_of_le_of_lt Nat.and_le_left h1)]
  bor a b := by
    have h1 := ub_lt (M := 4294967296) (by decide) a
    have h2 := ub_lt (M := 4294967296) (by decide) b
    have e : lawL 1 [124] a b = orK .i32 (IntKind.wrap .i32 a) (IntKind.wrap .i32 b) := by simp [lawL, binL, core, doesL]
    rw [e]; unfold orK
    rw [modN_ub, modN_ub, wrap32_bmod, wrap32_bmod]
    show wrapN .i32 (ub 4294967296 (a.bmod 4294967296) ||| ub 4294967296 (b.bmod 4294967296)) = _
    rw [ub_bmod (by decide), ub_bmod (by decide), wrapN32_bmod (Nat.or_lt_two_pow (n := 32) h1 h2)]
  bxor a b := by
    have h1 := ub_lt (M := 4294967296) (by decide) a
    have h2 := ub_lt (M := 4294967296) (by decide) b
    have e : lawL 1 [94] a b = xorK .i32 (IntKind.wrap .i32 a) (IntKind.wrap .i32 b) := by simp [lawL, binL, core, doesL]
    rw [e]; unfold xorK
    rw [modN_ub, modN_ub, wrap32_bmod, wrap32_bmod]
    show wrapN .i32 (ub 4294967296 (a.bmod 4294967296) ^^^ ub 4294967296 (b.bmod 4294967296)) = _
    rw [ub_bmod (by decide), ub_bmod (by decide), wrapN32_bmod (Nat.xor_lt_two_pow (n := 32) h1 h2)]
  shl a i j hi hj := by
    have e : (IntKind.wrap .i32 j % 32).toNat = i := by
      rw [wrap32_bmod, ← Int.emod_emod_of_dvd _ (show (32 : Int) ∣ ((4294967296 : Nat) : Int) by decide), Int.bmod_emod, Int.emod_emod_of_dvd _ (show (32 : Int) ∣ ((4294967296 : Nat) : Int) by decide)]
      have : j % (32 : Int) = i := hj
      omega
    have hm : min i (bitsOf .i32) = i := by simp [bitsOf]; omega
    simp only [lawL, binL, core, doesL, e, hm]
    simp [wrap32_bmod]
  shr a i j hi hj := by
    have e : (IntKind.wrap .i32 j % 32).toNat = i := by
      rw [wrap32_bmod, ← Int.emod_emod_of_dvd _ (show (32 : Int) ∣ ((4294967296 : Nat) : Int) by decide), Int.bmod_emod, Int.emod_emod_of_dvd _ (show (32 : Int) ∣ ((4294967296 : Nat) : Int) by decide)]
      have : j % (32 : Int) = i := hj
      omega
    have hm : min i (bitsOf .i32) = i := by simp [bitsOf]; omega
    have hf : ∀ x : Int, x.fdiv ((2 ^ i : Nat) : Int) = x / ((2 ^ i : Nat) : Int) := fun x => Int.fdiv_eq_ediv_of_nonneg _ (Int.natCast_nonneg _)
    simp only [lawL, binL, core, doesL, e, hm, hf]
    simp [wrapL]
  width := rfl
theorem bits2 : BitOps 2 64 18446744073709551616 where
  hM := by decide
  hw2 := by decide
  add a b := add2 a b
  band a b := by
    have h1 := ub_lt (M := 18446744073709551616) (by decide) a
    have e : lawL 2 [38] a b = andK .i64 a b := by simp [lawL, binL, core, doesL]
    rw [e]; unfold andK
    rw [modN_ub, modN_ub]
    exact wrapN64_bmod (Nat.lt_of_le_of_lt Nat.and_le_left h1)
  bor a b := by
    have h1 := ub_lt (M := 18446744073709551616) (by decide) a
    have h2 := ub_lt (M := 18446744073709551616) (by decide) b
    have e : lawL 2 [124] a b = orK .i64 a b := by simp [lawL, binL, core, doesL]
    rw [e]; unfold orK
    rw [modN_ub, modN_ub]
    exact wrapN64_bmod (Nat.or_lt_two_pow (n := 64) h1 h2)
  bxor a b := by
    have h1 := ub_lt (M := 18446744073709551616) (by decide) a
    have h2 := ub_lt (M := 18446744073709551616) (by decide) b
    have e : lawL 2 [94] a b = xorK .i64 a b := by simp [lawL, binL, core, doesL]
    rw [e]; unfold xorK
    rw [modN_ub, modN_ub]
    exact wrapN64_bmod (Nat.xor_lt_two_pow (n := 64) h1 h2)
  shl a i j hi hj := by
    have e : (j % 64).toNat = i := by
      have : j % (64 : Int) = i := hj
      omega
    have hm : min i (bitsOf .i64) = i := by simp [bitsOf]; omega
    simp only [lawL, binL, core, doesL, e, hm]
    simp [wrap64_bmod]
  shr a i j hi hj := by
    have e : (j % 64).toNat = i := by
      have : j % (64 : Int) = i := hj
      omega
    have hm : min i (bitsOf .i64) = i := by simp [bitsOf]; omega
    have hf : ∀ x : Int, x.fdiv ((2 ^ i : Nat) : Int) = x / ((2 ^ i : Nat) : Int) := fun x => Int.fdiv_eq_ediv_of_nonneg _ (Int.natCast_nonneg _)
    simp only [lawL, binL, core, doesL, e, hm, hf]
    simp [wrapL]
  width := rfl
structure BitFacts (t a b : Int) : Prop where
  s1 : lawL t [43] (lawL t [124] a b) (lawL t [38] a b) = lawL t [43] a b
  s2 : lawL t [43] (lawL t [94] a b) (lawL t [43] (lawL t [38] a b) (lawL t [38] a b)) = lawL t [43] a b
  x3 : lawL t [94] (lawL t [94] a b) b = wrapL t a
  a4 : lawL t [38] a (-1) = wrapL t a
  o5 : lawL t [124] a 0 = wrapL t a
theorem bit_facts {t : Int} {w M : Nat} (B : BitOps t w M) {a : Int} (b : Int) (hw : wrapL t a = a.bmod M) : BitFacts t a b := by
  have hM : 0 < M := by rw [B.hM]; exact Nat.two_pow_pos w
  obtain ⟨e1, e2⟩ := or_and_nat (ub M a) (ub M a) (ub M b) (Nat.le_refl _)
  have c1 : ((ub M a ||| ub M b : Nat) : Int) + ((ub M a &&& ub M b : Nat) : Int) = (ub M a : Int) + (ub M b : Int) := by omega
  have c2 : ((ub M a ^^^ ub M b : Nat) : Int) + (((ub M a &&& ub M b : Nat) : Int) + ((ub M a &&& ub M b : Nat) : Int)) = (ub M a : Int) + (ub M b : Int) := by omega
  have ab : ((ub M a : Int) + (ub M b : Int)).bmod M = (a + b).bmod M := by
    rw [← Int.bmod_add_bmod, bmod_ub hM, Int.bmod_add_bmod, ← Int.add_bmod_bmod, bmod_ub hM, Int.add_bmod_bmod]
  have la := ub_lt hM a
  have lb := ub_lt hM b
  have lx : ub M a ^^^ ub M b < M := by rw [B.hM] at la lb ⊢; exact Nat.xor_lt_two_pow la lb
  refine ⟨?_, ?_, ?_, ?_, ?_⟩
  · rw [B.add, B.bor, B.band, B.add, Int.bmod_add_bmod, Int.add_bmod_bmod, c1, ab]
  · rw [B.add, B.bxor, B.band, B.add, B.add, Int.bmod_add_bmod, Int.add_bmod_bmod, ← Int.add_assoc, Int.add_bmod_bmod, Int.add_right_comm, Int.add_bmod_bmod, Int.add_assoc, c2, ab]
  · rw [B.bxor, B.bxor, ub_bmod hM, ub_nat lx, Nat.xor_assoc, Nat.xor_self, Nat.xor_zero, bmod_ub hM, hw]
  · have : ub M (-1) = 2 ^ w - 1 := by
      have h1 := ub_cast hM (-1)
      have h2 : (-1 : Int) % (M : Int) = M - 1 := by
        rw [show (-1 : Int) = (M - 1) + (-1) * M by omega, Int.add_mul_emod_self_right, Int.emod_eq_of_lt (by omega) (by omega)]
      have := B.hM
      omega
    rw [B.band, this, Nat.and_two_pow_sub_one_eq_mod, Nat.mod_eq_of_lt (by rw [← B.hM]; exact la), bmod_ub hM, hw]
  · have : ub M 0 = 0 := by unfold ub; simp
    rw [B.bor, this, Nat.or_zero, bmod_ub hM, hw]
end Go.Proofs.Word
namespace Go.Proofs.Word
open Go Go.AM
/-- What the loop of 'WordBits' keeps. -/
structure BitsAt (t a : Int) (w M i : Nat) (l : List (Nat × AV)) : Prop where
  l7 : AM.look l 7 = .int .i64 t
  l8 : AM.look l 8 = .int .i64 w
  l1 : AM.look l 1 = .int .i64 a
  l11 : AM.look l 11 = .int .i64 ((a * (2 ^ i : Nat)).bmod M)
  l12 : AM.look l 12 = .int .i64 (wrapL t a / (2 ^ i : Nat))
  l13 : AM.look l 13 = .int .i64 i
set_option maxHeartbeats 4000000 in
theorem bits_step {t a : Int} {w M i : Nat} (B : BitOps t w M) (hi : i < w) (hA : -9223372036854775808 ≤ wrapL t a ∧ wrapL t a ≤ 9223372036854775807) {l : List (Nat × AV)} (hl : BitsAt t a w M i l) (K : Tr → Heap → CRes) (h : Heap) :
    ∃ l2, seqA K (evω E body8_0 (fset 134 l) h) = K (fset 134 l2) h ∧ BitsAt t a w M (i + 1) l2 := by
  obtain ⟨l7, l8, l1, l11, l12, l13⟩ := hl
  have hw := B.hw2
  have hM : 0 < M := by rw [B.hM]; exact Nat.two_pow_pos w
  have hi' : (i : Int) < (w : Int) := by omega
  have hq : (i : Int) % (w : Int) = i := Int.emod_eq_of_lt (by omega) hi'
  have e1 : IntKind.wrap .i64 ((i : Int) + (w : Int)) = (i : Int) + w := wrap64_id ⟨by omega, by omega⟩
  have e2 : IntKind.wrap .i64 ((i : Int) - (w : Int)) = (i : Int) - w := wrap64_id ⟨by omega, by omega⟩
  have e3 : IntKind.wrap .i64 ((i : Int) + 1) = ((i + 1 : Nat) : Int) := by rw [wrap64_id ⟨by omega, by omega⟩]; omega
  have f1 := B.shl a i i hi hq
  have f2 := B.shr a i i hi hq
  have f3 := B.shl a i ((i : Int) + w) hi (by rw [Int.add_emod_right]; exact hq)
  have f4 := B.shr a i ((i : Int) - w) hi (by rw [Int.sub_emod_right]; exact hq)
  have f5 : lawL t [43] ((a * (2 ^ i : Nat)).bmod M) ((a * (2 ^ i : Nat)).bmod M) = (a * (2 ^ (i + 1) : Nat)).bmod M := by
    rw [B.add, Int.bmod_add_bmod, Int.add_bmod_bmod, ← Int.mul_add]
    have : ((2 ^ i : Nat) : Int) + ((2 ^ i : Nat) : Int) = ((2 ^ (i + 1) : Nat) : Int) := by rw [Nat.pow_succ]; omega
    rw [this]
  have hp : (0 : Int) < ((2 ^ i : Nat) : Int) := by have := Nat.two_pow_pos i; omega
  have hr : In64 (wrapL t a / (2 ^ i : Nat)) := by
    generalize ((2 ^ i : Nat) : Int) = q at hp
    generalize wrapL t a = A at hA
    obtain ⟨x, y⟩ := hA
    constructor
    · rcases Int.le_total 0 A with h | h
      · have := Int.ediv_nonneg h (show (0 : Int) ≤ q by omega); omega
      · have h3 : A * q ≤ A * 1 := Int.mul_le_mul_of_nonpos_left h (by omega)
        have := Int.le_ediv_of_mul_le hp (show A * q ≤ A by omega)
        omega
    · rcases Int.le_total 0 A with h | h
      · have := Int.ediv_le_self q h; omega
      · have h5 := Int.ediv_le_ediv hp h; simp at h5; omega
  have hnext : wrapL t a / (2 ^ (i + 1) : Nat) = (wrapL t a / (2 ^ i : Nat)) / 2 := by
    rw [Int.ediv_ediv_of_nonneg (by omega)]
    have : ((2 ^ i : Nat) : Int) * 2 = ((2 ^ (i + 1) : Nat) : Int) := by rw [Nat.pow_succ]; omega
    rw [this]
  have hev : M % 2 = 0 := by
    have := B.hM
    obtain ⟨k, rfl⟩ : ∃ k, w = k + 1 := ⟨w - 1, by omega⟩
    rw [this, Nat.pow_succ]; omega
  have hM2 : 4 ≤ M := by
    have h4 : (2 : Nat) ^ 2 ≤ 2 ^ w := Nat.pow_le_pow_right (by omega) (by omega)
    rw [B.hM]; exact h4
  generalize hR : wrapL t a / (2 ^ i : Nat) = R at *
  generalize hL : (a * (2 ^ i : Nat)).bmod M = L at *
  have f6 : lawL t [38] R 1 = R % 2 := by
    rw [B.band]
    have h1 : ub M 1 = 1 := by unfold ub; rw [Int.emod_eq_of_lt (by omega) (by omega)]; rfl
    have h2 : (ub M R : Int) = R % M := ub_cast hM R
    rw [h1, Nat.and_one_is_mod]
    have h3 : ((ub M R % 2 : Nat) : Int) = R % 2 := by
      rw [Int.natCast_emod, h2]
      exact Int.emod_emod_of_dvd R (show ((2 : Nat) : Int) ∣ (M : Int) from Int.natCast_dvd_natCast.2 (Nat.dvd_of_mod_eq_zero hev))
    rw [h3]
    have h4 : 0 ≤ R % 2 ∧ R % 2 ≤ 1 := by omega
    unfold Int.bmod
    rw [Int.emod_eq_of_lt (by omega) (by omega)]; rw [if_pos (by omega)]
  have e4 : IntKind.wrap .i64 (R - R % 2) = R - R % 2 := wrap64_id ⟨by have := hr.1; omega, by have := hr.2; omega⟩
  have e5 : IntKind.wrap .i64 ((R - R % 2).tdiv 2) = R / 2 := by
    have h1 : (R - R % 2).tdiv 2 = R / 2 := by
      rw [Int.tdiv_eq_ediv_of_dvd (show (2 : Int) ∣ R - R % 2 by omega)]; omega
    rw [h1]; exact wrap64_id ⟨by have := hr.1; omega, by have := hr.2; omega⟩
  apply Exists.intro
  refine And.intro ?_ ?_
  · simp (maxSteps := 1000000) (implicitDefEqProofs := false) only [body8_0, l7, l8, l1, l11, l12, l13, law_ok, eq_true hi', e1, e2, e3, f1, f2, f3, f4, f5, f6, e4, e5, b_quo _ _ _ _ (show (2 : Int) ≠ 0 by decide), enter_eq, setAll_cons, setAll_nil, w_seq, w_reg, o_nil, o_plain, o_skip, o_done, p_assign, p_move, p_pick, pickA_true, pickA_false, p_extract, exA_tup, p_call, opvs_nil, opvs_cons, v_int, v_bool, v_str, v_tmp, evThen_ok, setDst_fset, setDst_none, seqA_normal, seqA_ret, seqA_exit, w_block, blockA_normal, blockA_ret, blockA_exit, w_cond, condA_true, condA_false, w_ret, w_skip, w_exit, w_scope, p_binOp, b_add, b_sub, b_mul, b_eql, b_neq, b_eqlS, b_neqS, b_lss, b_leq, b_gtr, b_geq, p_unOp, u_neg, u_not, c_int, lift_some', look_cons, look_nil, isWant_true, isWant_false, isWant_skipped, Option.some.injEq, Bool.true_eq_false, Bool.false_eq_true, after_ret, after_normal, res_tmp, res_nil, obind_some', get_fset, resOf_some, one_one, one_two, one_nil, Nat.reduceAdd, Nat.reduceLT, Nat.reduceEqDiff, ↓reduceIte, decide_true, decide_false, Bool.not_true, Bool.not_false, List.getElem?_cons_zero, List.getElem?_cons_succ, List.getElem?_nil]
    rfl
  · refine ⟨?_, ?_, ?_, ?_, ?_, ?_⟩
    · simp only [look_cons, Nat.reduceEqDiff, ↓reduceIte, l7]
    · simp only [look_cons, Nat.reduceEqDiff, ↓reduceIte, l8]
    · simp only [look_cons, Nat.reduceEqDiff, ↓reduceIte, l1]
    · simp only [look_cons, Nat.reduceEqDiff, ↓reduceIte]
    · simp only [look_cons, Nat.reduceEqDiff, ↓reduceIte, hnext]
    · simp only [look_cons, Nat.reduceEqDiff, ↓reduceIte]
end Go.Proofs.Word
namespace Go.Proofs.Word
open Go Go.AM
theorem bits_end {t a : Int} {w M : Nat} {l : List (Nat × AV)} (hl : BitsAt t a w M w l) (h : Heap) : ∃ l', evω E (.loop body8_0) (fset 134 l) h = .ok (.exit 0) (fset 134 l') h := by
  obtain ⟨l7, l8, l1, l11, l12, l13⟩ := hl
  rw [w_loop]
  apply Exists.intro
  simp (maxSteps := 1000000) (implicitDefEqProofs := false) only [body8_0, l8, l13, Int.lt_irrefl, enter_eq, setAll_cons, setAll_nil, w_seq, w_reg, o_nil, o_plain, o_skip, o_done, p_assign, p_move, p_pick, pickA_true, pickA_false, p_extract, exA_tup, p_call, opvs_nil, opvs_cons, v_int, v_bool, v_str, v_tmp, evThen_ok, setDst_fset, setDst_none, seqA_normal, seqA_ret, seqA_exit, w_block, blockA_normal, blockA_ret, blockA_exit, w_cond, condA_true, condA_false, w_ret, w_skip, w_exit, w_scope, p_binOp, b_add, b_sub, b_mul, b_eql, b_neq, b_eqlS, b_neqS, b_lss, b_leq, b_gtr, b_geq, p_unOp, u_neg, u_not, c_int, lift_some', look_cons, look_nil, isWant_true, isWant_false, isWant_skipped, Option.some.injEq, Bool.true_eq_false, Bool.false_eq_true, after_ret, after_normal, res_tmp, res_nil, obind_some', get_fset, resOf_some, one_one, one_two, one_nil, Nat.reduceAdd, Nat.reduceLT, Nat.reduceEqDiff, ↓reduceIte, decide_true, decide_false, Bool.not_true, Bool.not_false, List.getElem?_cons_zero, List.getElem?_cons_succ, List.getElem?_nil]
  rfl
theorem bits_loop {t a : Int} {w M : Nat} (B : BitOps t w M) (hA : -9223372036854775808 ≤ wrapL t a ∧ wrapL t a ≤ 9223372036854775807) (h : Heap) : ∀ (n i : Nat) (l : List (Nat × AV)), i + n = w → BitsAt t a w M i l →
    ∃ l', evω E (.loop body8_0) (fset 134 l) h = .ok (.exit 0) (fset 134 l') h
  | 0, i, l, hn, hl => by
    have : i = w := by omega
    subst this
    exact bits_end hl h
  | n + 1, i, l, hn, hl => by
    obtain ⟨l2, h1, h2⟩ := bits_step B (show i < w by omega) hA hl (evω E (.loop body8_0)) h
    obtain ⟨l', h3⟩ := bits_loop B hA h n (i + 1) l2 (by omega) h2
    exact ⟨l', by rw [w_loop, h1, h3]⟩
open Classical in
noncomputable def bitsOut (L : List (Nat × AV)) (h : Heap) : List (Nat × AV) :=
  if hx : ∃ l', evω E (.loop body8_0) (fset 134 L) h = .ok (.exit 0) (fset 134 l') h then hx.choose else []
theorem bits_loopS {t a : Int} {w M : Nat} (B : BitOps t w M) (hw : wrapL t a = a.bmod M) (hA : -9223372036854775808 ≤ wrapL t a ∧ wrapL t a ≤ 9223372036854775807) {L : List (Nat × AV)} {h : Heap}
    (l7 : AM.look L 7 = .int .i64 t) (l8 : AM.look L 8 = .int .i64 w) (l1 : AM.look L 1 = .int .i64 a) (l11 : AM.look L 11 = .int .i64 (wrapL t a)) (l12 : AM.look L 12 = .int .i64 (wrapL t a)) (l13 : AM.look L 13 = .int .i64 0) :
    evω E (.loop body8_0) (fset 134 L) h = .ok (.exit 0) (fset 134 (bitsOut L h)) h := by
  have hx : ∃ l', evω E (.loop body8_0) (fset 134 L) h = .ok (.exit 0) (fset 134 l') h :=
    bits_loop B hA h w 0 L (by omega) ⟨l7, l8, l1, by rw [l11, hw]; simp, by rw [l12]; simp, l13⟩
  unfold bitsOut
  rw [dif_pos hx]
  exact hx.choose_spec
set_option maxHeartbeats 4000000 in
theorem Bits_core (long : Bool) {t a b : Int} {w M : Nat} (ht : (if long = true then (2 : Int) else 1) = t) (B : BitOps t w M) (hw : wrapL t a = a.bmod M) (hA : -9223372036854775808 ≤ wrapL t a ∧ wrapL t a ≤ 9223372036854775807) (h : Heap) :
    callω E 8 [.bool long, .int .i64 a, .int .i64 b] h = .ok (.bool true) (hW h) := by
  obtain ⟨s1, s2, x3, a4, o5⟩ := bit_facts B b hw
  rw [call8 _ (by simp), d8_eq]
  simp (maxSteps := 2000000) (implicitDefEqProofs := false) only [d8, kind_ok, law_ok, Wrap_ok, works_ok, Width_ok, ht, B.width, s1, s2, x3, a4, o5, bits_loopS B hw hA, enter_eq, setAll_cons, setAll_nil, w_seq, w_reg, o_nil, o_plain, o_skip, o_done, p_assign, p_move, p_pick, pickA_true, pickA_false, p_extract, exA_tup, p_call, opvs_nil, opvs_cons, v_int, v_bool, v_str, v_tmp, evThen_ok, setDst_fset, setDst_none, seqA_normal, seqA_ret, seqA_exit, w_block, blockA_normal, blockA_ret, blockA_exit, w_cond, condA_true, condA_false, w_ret, w_skip, w_exit, w_scope, p_binOp, b_add, b_sub, b_mul, b_eql, b_neq, b_eqlS, b_neqS, b_lss, b_leq, b_gtr, b_geq, p_unOp, u_neg, u_not, c_int, lift_some', look_cons, look_nil, isWant_true, isWant_false, isWant_skipped, Option.some.injEq, Bool.true_eq_false, Bool.false_eq_true, after_ret, after_normal, res_tmp, res_nil, obind_some', get_fset, resOf_some, one_one, one_two, one_nil, Nat.reduceAdd, Nat.reduceLT, Nat.reduceEqDiff, ↓reduceIte, decide_true, decide_false, Bool.not_true, Bool.not_false, List.getElem?_cons_zero, List.getElem?_cons_succ, List.getElem?_nil]
theorem Bits_k (long : Bool) {a b : Int} (ha : In64 a) (h : Heap) : callω E 8 [.bool long, .int .i64 a, .int .i64 b] h = .ok (.bool true) (hW h) := by
  cases long
  · refine Bits_core false (t := 1) rfl bits1 (wrapL1 a) ?_ h
    have := (wrap32_in a).in64
    rw [wrapL1, ← wrap32_bmod]; exact this
  · refine Bits_core true (t := 2) rfl bits2 (wrapL2 ha) ?_ h
    have e : wrapL 2 a = a := by simp [wrapL]
    rw [e]; exact ha
theorem Bits_ok (long : Bool) {a b : Int} (ha : In64 a) (h : Heap) : ∃ h', callω E 8 [.bool long, .int .i64 a, .int .i64 b] h = .ok (.bool true) h' := ⟨_, Bits_k long ha h⟩
end Go.Proofs.Word
