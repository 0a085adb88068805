/- The document's answer of chapter 01, and that it is the program's. Conditions: none. -/
import Derived.Test.YtkbklpkbdccpdaaLaws
set_option linter.unusedVariables false
set_option linter.unusedSimpArgs false
namespace Go.Proofs.Word
open Go Go.AM
/-! ### The document's answer: what has no loops -/
theorem RWidth_ok (t : Int) (h : Heap) : callω E 17 [.int .i64 t] h = .ok (.int .i64 (widthL t)) h := by
  rw [call17 _ (by simp)]
  unfold widthL
  by_cases h3 : t = 3
  · have h1 : ¬ t = 1 := by omega
    have h2 : ¬ t = 2 := by omega
    simp (implicitDefEqProofs := false) only [c17, eq_true h3, eq_false h1, eq_false h2, enter_eq, setAll_cons, setAll_nil, w_seq, w_reg, o_nil, o_plain, o_skip, o_done, p_assign, p_move, p_pick, pickA_true, pickA_false, p_extract, exA_tup, p_call, opvs_nil, opvs_cons, v_int, v_bool, v_str, v_tmp, evThen_ok, setDst_fset, setDst_none, seqA_normal, seqA_ret, seqA_exit, w_block, blockA_normal, blockA_ret, blockA_exit, w_cond, condA_true, condA_false, w_ret, w_skip, w_exit, w_scope, p_binOp, b_add, b_sub, b_mul, b_eql, b_neq, b_eqlS, b_neqS, b_lss, b_leq, b_gtr, b_geq, p_unOp, u_neg, u_not, c_int, lift_some', look_cons, look_nil, isWant_true, isWant_false, isWant_skipped, Option.some.injEq, Bool.true_eq_false, Bool.false_eq_true, after_ret, after_normal, res_tmp, res_nil, obind_some', get_fset, resOf_some, one_one, one_two, one_nil, Nat.reduceAdd, Nat.reduceLT, Nat.reduceEqDiff, ↓reduceIte, decide_true, decide_false, Bool.not_true, Bool.not_false, List.getElem?_cons_zero, List.getElem?_cons_succ, List.getElem?_nil]
  by_cases h1 : t = 1
  · have h2 : ¬ t = 2 := by omega
    simp (implicitDefEqProofs := false) only [c17, eq_true h1, eq_false h3, eq_false h2, enter_eq, setAll_cons, setAll_nil, w_seq, w_reg, o_nil, o_plain, o_skip, o_done, p_assign, p_move, p_pick, pickA_true, pickA_false, p_extract, exA_tup, p_call, opvs_nil, opvs_cons, v_int, v_bool, v_str, v_tmp, evThen_ok, setDst_fset, setDst_none, seqA_normal, seqA_ret, seqA_exit, w_block, blockA_normal, blockA_ret, blockA_exit, w_cond, condA_true, condA_false, w_ret, w_skip, w_exit, w_scope, p_binOp, b_add, b_sub, b_mul, b_eql, b_neq, b_eqlS, b_neqS, b_lss, b_leq, b_gtr, b_geq, p_unOp, u_neg, u_not, c_int, lift_some', look_cons, look_nil, isWant_true, isWant_false, isWant_skipped, Option.some.injEq, Bool.true_eq_false, Bool.false_eq_true, after_ret, after_normal, res_tmp, res_nil, obind_some', get_fset, resOf_some, one_one, one_two, one_nil, Nat.reduceAdd, Nat.reduceLT, Nat.reduceEqDiff, ↓reduceIte, decide_true, decide_false, Bool.not_true, Bool.not_false, List.getElem?_cons_zero, List.getElem?_cons_succ, List.getElem?_nil]
  by_cases h2 : t = 2
  · simp (implicitDefEqProofs := false) only [c17, eq_true h2, eq_false h3, eq_false h1, enter_eq, setAll_cons, setAll_nil, w_seq, w_reg, o_nil, o_plain, o_skip, o_done, p_assign, p_move, p_pick, pickA_true, pickA_false, p_extract, exA_tup, p_call, opvs_nil, opvs_cons, v_int, v_bool, v_str, v_tmp, evThen_ok, setDst_fset, setDst_none, seqA_normal, seqA_ret, seqA_exit, w_block, blockA_normal, blockA_ret, blockA_exit, w_cond, condA_true, condA_false, w_ret, w_skip, w_exit, w_scope, p_binOp, b_add, b_sub, b_mul, b_eql, b_neq, b_eqlS, b_neqS, b_lss, b_leq, b_gtr, b_geq, p_unOp, u_neg, u_not, c_int, lift_some', look_cons, look_nil, isWant_true, isWant_false, isWant_skipped, Option.some.injEq, Bool.true_eq_false, Bool.false_eq_true, after_ret, after_normal, res_tmp, res_nil, obind_some', get_fset, resOf_some, one_one, one_two, one_nil, Nat.reduceAdd, Nat.reduceLT, Nat.reduceEqDiff, ↓reduceIte, decide_true, decide_false, Bool.not_true, Bool.not_false, List.getElem?_cons_zero, List.getElem?_cons_succ, List.getElem?_nil]
  · simp (implicitDefEqProofs := false) only [c17, eq_false h2, eq_false h3, eq_false h1, enter_eq, setAll_cons, setAll_nil, w_seq, w_reg, o_nil, o_plain, o_skip, o_done, p_assign, p_move, p_pick, pickA_true, pickA_false, p_extract, exA_tup, p_call, opvs_nil, opvs_cons, v_int, v_bool, v_str, v_tmp, evThen_ok, setDst_fset, setDst_none, seqA_normal, seqA_ret, seqA_exit, w_block, blockA_normal, blockA_ret, blockA_exit, w_cond, condA_true, condA_false, w_ret, w_skip, w_exit, w_scope, p_binOp, b_add, b_sub, b_mul, b_eql, b_neq, b_eqlS, b_neqS, b_lss, b_leq, b_gtr, b_geq, p_unOp, u_neg, u_not, c_int, lift_some', look_cons, look_nil, isWant_true, isWant_false, isWant_skipped, Option.some.injEq, Bool.true_eq_false, Bool.false_eq_true, after_ret, after_normal, res_tmp, res_nil, obind_some', get_fset, resOf_some, one_one, one_two, one_nil, Nat.reduceAdd, Nat.reduceLT, Nat.reduceEqDiff, ↓reduceIte, decide_true, decide_false, Bool.not_true, Bool.not_false, List.getElem?_cons_zero, List.getElem?_cons_succ, List.getElem?_nil]
theorem Rone_ok (b : Bool) (h : Heap) : callω E 26 [.bool b] h = .ok (.int .i64 (if b then 1 else 0)) h := by
  rw [call26 _ (by simp)]
  cases b <;> simp [c26, enter_eq, setAll_cons, setAll_nil, w_seq, w_reg, o_nil, o_plain, o_skip, o_done, p_assign, p_move, p_pick, pickA_true, pickA_false, p_extract, exA_tup, p_call, opvs_nil, opvs_cons, v_int, v_bool, v_str, v_tmp, evThen_ok, setDst_fset, setDst_none, seqA_normal, seqA_ret, seqA_exit, w_block, blockA_normal, blockA_ret, blockA_exit, w_cond, condA_true, condA_false, w_ret, w_skip, w_exit, w_scope, p_binOp, b_add, b_sub, b_mul, b_eql, b_neq, b_eqlS, b_neqS, b_lss, b_leq, b_gtr, b_geq, p_unOp, u_neg, u_not, c_int, lift_some', look_cons, look_nil, isWant_true, isWant_false, isWant_skipped, Option.some.injEq, Bool.true_eq_false, Bool.false_eq_true, after_ret, after_normal, res_tmp, res_nil, obind_some', get_fset, resOf_some, one_one, one_two, one_nil, Nat.reduceAdd, Nat.reduceLT, Nat.reduceEqDiff, ↓reduceIte, decide_true, decide_false, Bool.not_true, Bool.not_false, List.getElem?_cons_zero, List.getElem?_cons_succ, List.getElem?_nil]
theorem RWrap_core {t v w m hf x : Int} (hw : widthL t = w) (w0 : ¬ w = 0) (w64 : ¬ w = 64) (hm0 : m ≠ 0) (hs : ∀ fl, binOpA .shl fl (.int .i64 1) (.int .u64 (IntKind.wrap .u64 w)) = some (.int .i64 m)) (hh : IntKind.wrap .i64 (m.tdiv 2) = hf)
    (hx : (if hf ≤ (if v.tmod m < 0 then IntKind.wrap .i64 (v.tmod m + m) else v.tmod m) then IntKind.wrap .i64 ((if v.tmod m < 0 then IntKind.wrap .i64 (v.tmod m + m) else v.tmod m) - m) else (if v.tmod m < 0 then IntKind.wrap .i64 (v.tmod m + m) else v.tmod m)) = x) (h : Heap) :
    callω E 18 [.int .i64 t, .int .i64 v] h = .ok (.int .i64 x) h := by
  rw [call18 _ (by simp), ← hx]
  by_cases hr : v.tmod m < 0
  · by_cases hq : hf ≤ IntKind.wrap .i64 (v.tmod m + m)
    · simp (maxSteps := 1000000) (implicitDefEqProofs := false) only [c18, RWidth_ok, hw, eq_false w0, eq_false w64, hs, b_rem _ _ _ _ hm0, b_quo _ _ _ _ (show (2 : Int) ≠ 0 by decide), hh, eq_true hr, eq_true hq, p_convert _ _ _ ti3 ti33, enter_eq, setAll_cons, setAll_nil, w_seq, w_reg, o_nil, o_plain, o_skip, o_done, p_assign, p_move, p_pick, pickA_true, pickA_false, p_extract, exA_tup, p_call, opvs_nil, opvs_cons, v_int, v_bool, v_str, v_tmp, evThen_ok, setDst_fset, setDst_none, seqA_normal, seqA_ret, seqA_exit, w_block, blockA_normal, blockA_ret, blockA_exit, w_cond, condA_true, condA_false, w_ret, w_skip, w_exit, w_scope, p_binOp, b_add, b_sub, b_mul, b_eql, b_neq, b_eqlS, b_neqS, b_lss, b_leq, b_gtr, b_geq, p_unOp, u_neg, u_not, c_int, lift_some', look_cons, look_nil, isWant_true, isWant_false, isWant_skipped, Option.some.injEq, Bool.true_eq_false, Bool.false_eq_true, after_ret, after_normal, res_tmp, res_nil, obind_some', get_fset, resOf_some, one_one, one_two, one_nil, Nat.reduceAdd, Nat.reduceLT, Nat.reduceEqDiff, ↓reduceIte, decide_true, decide_false, Bool.not_true, Bool.not_false, List.getElem?_cons_zero, List.getElem?_cons_succ, List.getElem?_nil]
    · simp (maxSteps := 1000000) (implicitDefEqProofs := false) only [c18, RWidth_ok, hw, eq_false w0, eq_false w64, hs, b_rem _ _ _ _ hm0, b_quo _ _ _ _ (show (2 : Int) ≠ 0 by decide), hh, eq_true hr, eq_false hq, p_convert _ _ _ ti3 ti33, enter_eq, setAll_cons, setAll_nil, w_seq, w_reg, o_nil, o_plain, o_skip, o_done, p_assign, p_move, p_pick, pickA_true, pickA_false, p_extract, exA_tup, p_call, opvs_nil, opvs_cons, v_int, v_bool, v_str, v_tmp, evThen_ok, setDst_fset, setDst_none, seqA_normal, seqA_ret, seqA_exit, w_block, blockA_normal, blockA_ret, blockA_exit, w_cond, condA_true, condA_false, w_ret, w_skip, w_exit, w_scope, p_binOp, b_add, b_sub, b_mul, b_eql, b_neq, b_eqlS, b_neqS, b_lss, b_leq, b_gtr, b_geq, p_unOp, u_neg, u_not, c_int, lift_some', look_cons, look_nil, isWant_true, isWant_false, isWant_skipped, Option.some.injEq, Bool.true_eq_false, Bool.false_eq_true, after_ret, after_normal, res_tmp, res_nil, obind_some', get_fset, resOf_some, one_one, one_two, one_nil, Nat.reduceAdd, Nat.reduceLT, Nat.reduceEqDiff, ↓reduceIte, decide_true, decide_false, Bool.not_true, Bool.not_false, List.getElem?_cons_zero, List.getElem?_cons_succ, List.getElem?_nil]
  · by_cases hq : hf ≤ v.tmod m
    · simp (maxSteps := 1000000) (implicitDefEqProofs := false) only [c18, RWidth_ok, hw, eq_false w0, eq_false w64, hs, b_rem _ _ _ _ hm0, b_quo _ _ _ _ (show (2 : Int) ≠ 0 by decide), hh, eq_false hr, eq_true hq, p_convert _ _ _ ti3 ti33, enter_eq, setAll_cons, setAll_nil, w_seq, w_reg, o_nil, o_plain, o_skip, o_done, p_assign, p_move, p_pick, pickA_true, pickA_false, p_extract, exA_tup, p_call, opvs_nil, opvs_cons, v_int, v_bool, v_str, v_tmp, evThen_ok, setDst_fset, setDst_none, seqA_normal, seqA_ret, seqA_exit, w_block, blockA_normal, blockA_ret, blockA_exit, w_cond, condA_true, condA_false, w_ret, w_skip, w_exit, w_scope, p_binOp, b_add, b_sub, b_mul, b_eql, b_neq, b_eqlS, b_neqS, b_lss, b_leq, b_gtr, b_geq, p_unOp, u_neg, u_not, c_int, lift_some', look_cons, look_nil, isWant_true, isWant_false, isWant_skipped, Option.some.injEq, Bool.true_eq_false, Bool.false_eq_true, after_ret, after_normal, res_tmp, res_nil, obind_some', get_fset, resOf_some, one_one, one_two, one_nil, Nat.reduceAdd, Nat.reduceLT, Nat.reduceEqDiff, ↓reduceIte, decide_true, decide_false, Bool.not_true, Bool.not_false, List.getElem?_cons_zero, List.getElem?_cons_succ, List.getElem?_nil]
    · simp (maxSteps := 1000000) (implicitDefEqProofs := false) only [c18, RWidth_ok, hw, eq_false w0, eq_false w64, hs, b_rem _ _ _ _ hm0, b_quo _ _ _ _ (show (2 : Int) ≠ 0 by decide), hh, eq_false hr, eq_false hq, p_convert _ _ _ ti3 ti33, enter_eq, setAll_cons, setAll_nil, w_seq, w_reg, o_nil, o_plain, o_skip, o_done, p_assign, p_move, p_pick, pickA_true, pickA_false, p_extract, exA_tup, p_call, opvs_nil, opvs_cons, v_int, v_bool, v_str, v_tmp, evThen_ok, setDst_fset, setDst_none, seqA_normal, seqA_ret, seqA_exit, w_block, blockA_normal, blockA_ret, blockA_exit, w_cond, condA_true, condA_false, w_ret, w_skip, w_exit, w_scope, p_binOp, b_add, b_sub, b_mul, b_eql, b_neq, b_eqlS, b_neqS, b_lss, b_leq, b_gtr, b_geq, p_unOp, u_neg, u_not, c_int, lift_some', look_cons, look_nil, isWant_true, isWant_false, isWant_skipped, Option.some.injEq, Bool.true_eq_false, Bool.false_eq_true, after_ret, after_normal, res_tmp, res_nil, obind_some', get_fset, resOf_some, one_one, one_two, one_nil, Nat.reduceAdd, Nat.reduceLT, Nat.reduceEqDiff, ↓reduceIte, decide_true, decide_false, Bool.not_true, Bool.not_false, List.getElem?_cons_zero, List.getElem?_cons_succ, List.getElem?_nil]
theorem tmod_bmod {m : Nat} (hm : 0 < m) (hm2 : m % 2 = 0) (hb : m ≤ 4294967296) (v : Int) :
    (if ((m / 2 : Nat) : Int) ≤ (if v.tmod m < 0 then IntKind.wrap .i64 (v.tmod m + m) else v.tmod m) then IntKind.wrap .i64 ((if v.tmod m < 0 then IntKind.wrap .i64 (v.tmod m + m) else v.tmod m) - m) else (if v.tmod m < 0 then IntKind.wrap .i64 (v.tmod m + m) else v.tmod m)) = v.bmod m := by
  have e0 : (v.tmod m).natAbs < m := by
    have := tmod_lt v (B := (m : Int)) (by omega); simpa using this
  have e1 : (if v.tmod m < 0 then IntKind.wrap .i64 (v.tmod m + m) else v.tmod m) = v % m := by
    have hd : (v.tmod m) % m = v % m := by
      rw [Int.tmod_eq_emod]; split
      · simp
      · rw [Int.sub_emod, Int.emod_emod]; simp
    split
    · rename_i hneg
      rw [wrap64_id ⟨by omega, by omega⟩, ← hd, ← Int.add_emod_right, Int.emod_eq_of_lt (by omega) (by omega)]
    · rw [← hd, Int.emod_eq_of_lt (by omega) (by omega)]
  rw [e1]
  have h1 := Int.emod_nonneg v (show (m : Int) ≠ 0 by omega)
  have h2 := Int.emod_lt_of_pos v (show (0 : Int) < m by omega)
  have hbm : v.bmod m = if v % m < ((m : Int) + 1) / 2 then v % m else v % m - m := rfl
  rw [hbm]
  by_cases hh : ((m / 2 : Nat) : Int) ≤ v % m
  · rw [if_pos hh, if_neg (by omega), wrap64_id ⟨by omega, by omega⟩]
  · rw [if_neg hh, if_pos (by omega)]
theorem RWrap_ok (t : Int) {v : Int} (hv : In64 v) (h : Heap) : callω E 18 [.int .i64 t, .int .i64 v] h = .ok (.int .i64 (wrapL t v)) h := by
  by_cases h3 : t = 3
  · subst h3
    exact RWrap_core (w := 8) (m := 256) (hf := 128) rfl (by omega) (by omega) (by omega) (fun fl => by kernel_rfl) (by decide) (by rw [show wrapL 3 v = v.bmod 256 by simp [wrapL, wrap8_bmod]]; exact tmod_bmod (m := 256) (by decide) (by decide) (by decide) v) h
  by_cases h1 : t = 1
  · subst h1
    exact RWrap_core (w := 32) (m := 4294967296) (hf := 2147483648) rfl (by omega) (by omega) (by omega) (fun fl => by kernel_rfl) (by decide) (by rw [wrapL1]; exact tmod_bmod (m := 4294967296) (by decide) (by decide) (by decide) v) h
  by_cases h2 : t = 2
  · subst h2
    have hw : widthL 2 = 64 := rfl
    have e : wrapL 2 v = v := by simp [wrapL]
    have q : IntKind.wrap .i64 ((64 : Int).tdiv 64) = 1 := by decide
    have n0 : ((64 : Int) = 0) = False := by decide
    rw [call18 _ (by simp), e]
    simp (maxSteps := 1000000) (implicitDefEqProofs := false) only [c18, RWidth_ok, hw, n0, q, b_quo _ _ _ _ (show (64 : Int) ≠ 0 by decide), Int.mul_one, wrap64_id hv, enter_eq, setAll_cons, setAll_nil, w_seq, w_reg, o_nil, o_plain, o_skip, o_done, p_assign, p_move, p_pick, pickA_true, pickA_false, p_extract, exA_tup, p_call, opvs_nil, opvs_cons, v_int, v_bool, v_str, v_tmp, evThen_ok, setDst_fset, setDst_none, seqA_normal, seqA_ret, seqA_exit, w_block, blockA_normal, blockA_ret, blockA_exit, w_cond, condA_true, condA_false, w_ret, w_skip, w_exit, w_scope, p_binOp, b_add, b_sub, b_mul, b_eql, b_neq, b_eqlS, b_neqS, b_lss, b_leq, b_gtr, b_geq, p_unOp, u_neg, u_not, c_int, lift_some', look_cons, look_nil, isWant_true, isWant_false, isWant_skipped, Option.some.injEq, Bool.true_eq_false, Bool.false_eq_true, after_ret, after_normal, res_tmp, res_nil, obind_some', get_fset, resOf_some, one_one, one_two, one_nil, Nat.reduceAdd, Nat.reduceLT, Nat.reduceEqDiff, ↓reduceIte, decide_true, decide_false, Bool.not_true, Bool.not_false, List.getElem?_cons_zero, List.getElem?_cons_succ, List.getElem?_nil]
  · have hw : widthL t = 0 := by simp [widthL, h1, h2, h3]
    have e : wrapL t v = 0 := by simp [wrapL, h1, h2, h3]
    have q : IntKind.wrap .i64 ((0 : Int).tdiv 64) = 0 := by decide
    have q0 : IntKind.wrap .i64 0 = 0 := by decide
    rw [call18 _ (by simp), e]
    simp (maxSteps := 1000000) (implicitDefEqProofs := false) only [c18, RWidth_ok, hw, q, q0, b_quo _ _ _ _ (show (64 : Int) ≠ 0 by decide), Int.mul_zero, enter_eq, setAll_cons, setAll_nil, w_seq, w_reg, o_nil, o_plain, o_skip, o_done, p_assign, p_move, p_pick, pickA_true, pickA_false, p_extract, exA_tup, p_call, opvs_nil, opvs_cons, v_int, v_bool, v_str, v_tmp, evThen_ok, setDst_fset, setDst_none, seqA_normal, seqA_ret, seqA_exit, w_block, blockA_normal, blockA_ret, blockA_exit, w_cond, condA_true, condA_false, w_ret, w_skip, w_exit, w_scope, p_binOp, b_add, b_sub, b_mul, b_eql, b_neq, b_eqlS, b_neqS, b_lss, b_leq, b_gtr, b_geq, p_unOp, u_neg, u_not, c_int, lift_some', look_cons, look_nil, isWant_true, isWant_false, isWant_skipped, Option.some.injEq, Bool.true_eq_false, Bool.false_eq_true, after_ret, after_normal, res_tmp, res_nil, obind_some', get_fset, resOf_some, one_one, one_two, one_nil, Nat.reduceAdd, Nat.reduceLT, Nat.reduceEqDiff, ↓reduceIte, decide_true, decide_false, Bool.not_true, Bool.not_false, List.getElem?_cons_zero, List.getElem?_cons_succ, List.getElem?_nil]
end Go.Proofs.Word
namespace Go.Proofs.Word
open Go Go.AM
theorem ti48 : E.ti 48 = some ⟨.int .u64, 1, 8, .int .u64 0⟩ := by kernel_rfl
theorem RDiv_ok {t : Int} {k : IntKind} (op : List UInt8) {a b : Int} (ha : In64 a) (hn : wrapL t (IntKind.wrap .i64 (0 - a)) = k.wrap (0 - a)) (hm : ¬ (a ≠ 0 ∧ k.wrap (0 - a) = a) → IntKind.wrap .i64 (0 - a) = k.wrap (a.tdiv (-1)))
    (hq : b ≠ -1 → IntKind.wrap .i64 (a.tdiv b) = k.wrap (a.tdiv b)) (h : Heap) : callω E 23 [.int .i64 t, .str op, .int .i64 a, .int .i64 b] h = .ok (.tup [.int .i64 (divL k op a b).1, .int .i64 (divL k op a b).2]) h := by
  rw [call23 _ (by simp)]
  have hw := fun h => RWrap_ok t (wrap64_in (0 - a)) h
  rw [hn] at hw
  unfold divL
  by_cases h0 : b = 0
  · simp (maxSteps := 1000000) (implicitDefEqProofs := false) only [c23, eq_true h0, enter_eq, setAll_cons, setAll_nil, w_seq, w_reg, o_nil, o_plain, o_skip, o_done, p_assign, p_move, p_pick, pickA_true, pickA_false, p_extract, exA_tup, p_call, opvs_nil, opvs_cons, v_int, v_bool, v_str, v_tmp, evThen_ok, setDst_fset, setDst_none, seqA_normal, seqA_ret, seqA_exit, w_block, blockA_normal, blockA_ret, blockA_exit, w_cond, condA_true, condA_false, w_ret, w_skip, w_exit, w_scope, p_binOp, b_add, b_sub, b_mul, b_eql, b_neq, b_eqlS, b_neqS, b_lss, b_leq, b_gtr, b_geq, p_unOp, u_neg, u_not, c_int, lift_some', look_cons, look_nil, isWant_true, isWant_false, isWant_skipped, Option.some.injEq, Bool.true_eq_false, Bool.false_eq_true, after_ret, after_normal, res_tmp, res_nil, obind_some', get_fset, resOf_some, one_one, one_two, one_nil, Nat.reduceAdd, Nat.reduceLT, Nat.reduceEqDiff, ↓reduceIte, decide_true, decide_false, Bool.not_true, Bool.not_false, List.getElem?_cons_zero, List.getElem?_cons_succ, List.getElem?_nil]
  by_cases h1 : b = -1
  · by_cases hp : op = [37]
    · simp (maxSteps := 1000000) (implicitDefEqProofs := false) only [c23, eq_false h0, eq_true h1, eq_true hp, true_and, and_true, enter_eq, setAll_cons, setAll_nil, w_seq, w_reg, o_nil, o_plain, o_skip, o_done, p_assign, p_move, p_pick, pickA_true, pickA_false, p_extract, exA_tup, p_call, opvs_nil, opvs_cons, v_int, v_bool, v_str, v_tmp, evThen_ok, setDst_fset, setDst_none, seqA_normal, seqA_ret, seqA_exit, w_block, blockA_normal, blockA_ret, blockA_exit, w_cond, condA_true, condA_false, w_ret, w_skip, w_exit, w_scope, p_binOp, b_add, b_sub, b_mul, b_eql, b_neq, b_eqlS, b_neqS, b_lss, b_leq, b_gtr, b_geq, p_unOp, u_neg, u_not, c_int, lift_some', look_cons, look_nil, isWant_true, isWant_false, isWant_skipped, Option.some.injEq, Bool.true_eq_false, Bool.false_eq_true, after_ret, after_normal, res_tmp, res_nil, obind_some', get_fset, resOf_some, one_one, one_two, one_nil, Nat.reduceAdd, Nat.reduceLT, Nat.reduceEqDiff, ↓reduceIte, decide_true, decide_false, Bool.not_true, Bool.not_false, List.getElem?_cons_zero, List.getElem?_cons_succ, List.getElem?_nil]
    · by_cases hc : k.wrap (0 - a) = a
      · by_cases hz : a = 0
        · have hm' : IntKind.wrap .i64 (0 - a) = k.wrap (a.tdiv b) := by rw [h1]; exact hm (fun e => e.1 hz)
          rw [hm'] at hw
          simp (maxSteps := 1000000) (implicitDefEqProofs := false) only [c23, hw, hm', eq_false h0, eq_true h1, eq_false hp, eq_true hc, eq_true hz, ne_eq, not_true, not_false_eq_true, true_and, and_true, false_and, and_false, enter_eq, setAll_cons, setAll_nil, w_seq, w_reg, o_nil, o_plain, o_skip, o_done, p_assign, p_move, p_pick, pickA_true, pickA_false, p_extract, exA_tup, p_call, opvs_nil, opvs_cons, v_int, v_bool, v_str, v_tmp, evThen_ok, setDst_fset, setDst_none, seqA_normal, seqA_ret, seqA_exit, w_block, blockA_normal, blockA_ret, blockA_exit, w_cond, condA_true, condA_false, w_ret, w_skip, w_exit, w_scope, p_binOp, b_add, b_sub, b_mul, b_eql, b_neq, b_eqlS, b_neqS, b_lss, b_leq, b_gtr, b_geq, p_unOp, u_neg, u_not, c_int, lift_some', look_cons, look_nil, isWant_true, isWant_false, isWant_skipped, Option.some.injEq, Bool.true_eq_false, Bool.false_eq_true, after_ret, after_normal, res_tmp, res_nil, obind_some', get_fset, resOf_some, one_one, one_two, one_nil, Nat.reduceAdd, Nat.reduceLT, Nat.reduceEqDiff, ↓reduceIte, decide_true, decide_false, Bool.not_true, Bool.not_false, List.getElem?_cons_zero, List.getElem?_cons_succ, List.getElem?_nil]
        · simp (maxSteps := 1000000) (implicitDefEqProofs := false) only [c23, hw, eq_false h0, eq_true h1, eq_false hp, eq_true hc, eq_false hz, ne_eq, not_true, not_false_eq_true, true_and, and_true, false_and, and_false, enter_eq, setAll_cons, setAll_nil, w_seq, w_reg, o_nil, o_plain, o_skip, o_done, p_assign, p_move, p_pick, pickA_true, pickA_false, p_extract, exA_tup, p_call, opvs_nil, opvs_cons, v_int, v_bool, v_str, v_tmp, evThen_ok, setDst_fset, setDst_none, seqA_normal, seqA_ret, seqA_exit, w_block, blockA_normal, blockA_ret, blockA_exit, w_cond, condA_true, condA_false, w_ret, w_skip, w_exit, w_scope, p_binOp, b_add, b_sub, b_mul, b_eql, b_neq, b_eqlS, b_neqS, b_lss, b_leq, b_gtr, b_geq, p_unOp, u_neg, u_not, c_int, lift_some', look_cons, look_nil, isWant_true, isWant_false, isWant_skipped, Option.some.injEq, Bool.true_eq_false, Bool.false_eq_true, after_ret, after_normal, res_tmp, res_nil, obind_some', get_fset, resOf_some, one_one, one_two, one_nil, Nat.reduceAdd, Nat.reduceLT, Nat.reduceEqDiff, ↓reduceIte, decide_true, decide_false, Bool.not_true, Bool.not_false, List.getElem?_cons_zero, List.getElem?_cons_succ, List.getElem?_nil]
      · have hm' : IntKind.wrap .i64 (0 - a) = k.wrap (a.tdiv b) := by rw [h1]; exact hm (fun e => hc e.2)
        rw [hm'] at hw
        simp (maxSteps := 1000000) (implicitDefEqProofs := false) only [c23, hw, hm', eq_false h0, eq_true h1, eq_false hp, eq_false hc, ne_eq, not_true, not_false_eq_true, true_and, and_true, false_and, and_false, enter_eq, setAll_cons, setAll_nil, w_seq, w_reg, o_nil, o_plain, o_skip, o_done, p_assign, p_move, p_pick, pickA_true, pickA_false, p_extract, exA_tup, p_call, opvs_nil, opvs_cons, v_int, v_bool, v_str, v_tmp, evThen_ok, setDst_fset, setDst_none, seqA_normal, seqA_ret, seqA_exit, w_block, blockA_normal, blockA_ret, blockA_exit, w_cond, condA_true, condA_false, w_ret, w_skip, w_exit, w_scope, p_binOp, b_add, b_sub, b_mul, b_eql, b_neq, b_eqlS, b_neqS, b_lss, b_leq, b_gtr, b_geq, p_unOp, u_neg, u_not, c_int, lift_some', look_cons, look_nil, isWant_true, isWant_false, isWant_skipped, Option.some.injEq, Bool.true_eq_false, Bool.false_eq_true, after_ret, after_normal, res_tmp, res_nil, obind_some', get_fset, resOf_some, one_one, one_two, one_nil, Nat.reduceAdd, Nat.reduceLT, Nat.reduceEqDiff, ↓reduceIte, decide_true, decide_false, Bool.not_true, Bool.not_false, List.getElem?_cons_zero, List.getElem?_cons_succ, List.getElem?_nil]
  · by_cases hp : op = [37]
    · simp (maxSteps := 1000000) (implicitDefEqProofs := false) only [c23, eq_false h0, eq_false h1, eq_true hp, b_rem _ _ _ _ h0, true_and, and_true, false_and, and_false, enter_eq, setAll_cons, setAll_nil, w_seq, w_reg, o_nil, o_plain, o_skip, o_done, p_assign, p_move, p_pick, pickA_true, pickA_false, p_extract, exA_tup, p_call, opvs_nil, opvs_cons, v_int, v_bool, v_str, v_tmp, evThen_ok, setDst_fset, setDst_none, seqA_normal, seqA_ret, seqA_exit, w_block, blockA_normal, blockA_ret, blockA_exit, w_cond, condA_true, condA_false, w_ret, w_skip, w_exit, w_scope, p_binOp, b_add, b_sub, b_mul, b_eql, b_neq, b_eqlS, b_neqS, b_lss, b_leq, b_gtr, b_geq, p_unOp, u_neg, u_not, c_int, lift_some', look_cons, look_nil, isWant_true, isWant_false, isWant_skipped, Option.some.injEq, Bool.true_eq_false, Bool.false_eq_true, after_ret, after_normal, res_tmp, res_nil, obind_some', get_fset, resOf_some, one_one, one_two, one_nil, Nat.reduceAdd, Nat.reduceLT, Nat.reduceEqDiff, ↓reduceIte, decide_true, decide_false, Bool.not_true, Bool.not_false, List.getElem?_cons_zero, List.getElem?_cons_succ, List.getElem?_nil]
    · simp (maxSteps := 1000000) (implicitDefEqProofs := false) only [c23, eq_false h0, eq_false h1, eq_false hp, b_quo _ _ _ _ h0, hq h1, true_and, and_true, false_and, and_false, enter_eq, setAll_cons, setAll_nil, w_seq, w_reg, o_nil, o_plain, o_skip, o_done, p_assign, p_move, p_pick, pickA_true, pickA_false, p_extract, exA_tup, p_call, opvs_nil, opvs_cons, v_int, v_bool, v_str, v_tmp, evThen_ok, setDst_fset, setDst_none, seqA_normal, seqA_ret, seqA_exit, w_block, blockA_normal, blockA_ret, blockA_exit, w_cond, condA_true, condA_false, w_ret, w_skip, w_exit, w_scope, p_binOp, b_add, b_sub, b_mul, b_eql, b_neq, b_eqlS, b_neqS, b_lss, b_leq, b_gtr, b_geq, p_unOp, u_neg, u_not, c_int, lift_some', look_cons, look_nil, isWant_true, isWant_false, isWant_skipped, Option.some.injEq, Bool.true_eq_false, Bool.false_eq_true, after_ret, after_normal, res_tmp, res_nil, obind_some', get_fset, resOf_some, one_one, one_two, one_nil, Nat.reduceAdd, Nat.reduceLT, Nat.reduceEqDiff, ↓reduceIte, decide_true, decide_false, Bool.not_true, Bool.not_false, List.getElem?_cons_zero, List.getElem?_cons_succ, List.getElem?_nil]
/-! ### One bit -/
abbrev M64 : Nat := 18446744073709551616
theorem wrapU_nat {m : Nat} (hm : m < M64) : IntKind.wrap .u64 (m : Int) = (m : Int) := by
  have : IntKind.wrap .u64 (m : Int) = (m : Int) % 18446744073709551616 := by simp [IntKind.wrap, IntKind.bits, IntKind.signed]
  rw [this]; exact Int.emod_eq_of_lt (by omega) (by have : m < 18446744073709551616 := hm; omega)
theorem wrapU_ub (n : Int) : IntKind.wrap .u64 n = ((ub M64 n : Nat) : Int) := by
  have : IntKind.wrap .u64 n = n % 18446744073709551616 := by simp [IntKind.wrap, IntKind.bits, IntKind.signed]
  rw [this, ub_cast (by decide)]; rfl
theorem half_nat (m : Nat) (hm : m < M64) : IntKind.wrap .u64 ((m : Int).tdiv 2) = ((m / 2 : Nat) : Int) := by
  have : (m : Int).tdiv 2 = ((m / 2 : Nat) : Int) := rfl
  rw [this, wrapU_nat (by have : m < 18446744073709551616 := hm; show m / 2 < 18446744073709551616; omega)]
structure BitAt (x at' i : Nat) (l : List (Nat × AV)) : Prop where
  l5 : AM.look l 5 = .int .u64 ((x / 2 ^ i : Nat) : Int)
  l6 : AM.look l 6 = .int .i64 i
  l1 : AM.look l 1 = .int .i64 at'
theorem bit_step {x at' i : Nat} (hx : x < M64) (hi : i < at') (hat : at' ≤ 64) {l : List (Nat × AV)} (hl : BitAt x at' i l) (K : Tr → Heap → CRes) (h : Heap) :
    ∃ l2, seqA K (evω E body31_0 (fset 19 l) h) = K (fset 19 l2) h ∧ BitAt x at' (i + 1) l2 := by
  obtain ⟨l5, l6, l1⟩ := hl
  have hi' : (i : Int) < (at' : Int) := by omega
  have e3 : IntKind.wrap .i64 ((i : Int) + 1) = ((i + 1 : Nat) : Int) := by rw [wrap64_id ⟨by omega, by omega⟩]; omega
  have hd : x / 2 ^ i / 2 = x / 2 ^ (i + 1) := by rw [Nat.div_div_eq_div_mul, Nat.pow_succ]
  have e4 := half_nat (x / 2 ^ i) (Nat.lt_of_le_of_lt (Nat.div_le_self _ _) hx)
  rw [hd] at e4
  apply Exists.intro
  refine And.intro ?_ ?_
  · simp (maxSteps := 1000000) (implicitDefEqProofs := false) only [body31_0, l5, l6, l1, eq_true hi', e3, e4, b_quo _ _ _ _ (show (2 : Int) ≠ 0 by decide), enter_eq, setAll_cons, setAll_nil, w_seq, w_reg, o_nil, o_plain, o_skip, o_done, p_assign, p_move, p_pick, pickA_true, pickA_false, p_extract, exA_tup, p_call, opvs_nil, opvs_cons, v_int, v_bool, v_str, v_tmp, evThen_ok, setDst_fset, setDst_none, seqA_normal, seqA_ret, seqA_exit, w_block, blockA_normal, blockA_ret, blockA_exit, w_cond, condA_true, condA_false, w_ret, w_skip, w_exit, w_scope, p_binOp, b_add, b_sub, b_mul, b_eql, b_neq, b_eqlS, b_neqS, b_lss, b_leq, b_gtr, b_geq, p_unOp, u_neg, u_not, c_int, lift_some', look_cons, look_nil, isWant_true, isWant_false, isWant_skipped, Option.some.injEq, Bool.true_eq_false, Bool.false_eq_true, after_ret, after_normal, res_tmp, res_nil, obind_some', get_fset, resOf_some, one_one, one_two, one_nil, Nat.reduceAdd, Nat.reduceLT, Nat.reduceEqDiff, ↓reduceIte, decide_true, decide_false, Bool.not_true, Bool.not_false, List.getElem?_cons_zero, List.getElem?_cons_succ, List.getElem?_nil]
    rfl
  · refine ⟨?_, ?_, ?_⟩
    · simp only [look_cons, Nat.reduceEqDiff, ↓reduceIte]
    · simp only [look_cons, Nat.reduceEqDiff, ↓reduceIte]
    · simp only [look_cons, Nat.reduceEqDiff, ↓reduceIte, l1]
theorem bit_loop {x at' : Nat} (hx : x < M64) (hat : at' ≤ 64) (h : Heap) : ∀ (n i : Nat) (l : List (Nat × AV)), i + n = at' → BitAt x at' i l → ∃ l', evω E (.loop body31_0) (fset 19 l) h = .ok (.exit 0) (fset 19 l') h ∧ AM.look l' 5 = .int .u64 ((x / 2 ^ at' : Nat) : Int)
  | 0, i, l, hn, hl => by
    have : i = at' := by omega
    subst this
    obtain ⟨l5, l6, l1⟩ := hl
    rw [w_loop]
    apply Exists.intro
    refine And.intro ?_ ?_
    · simp (maxSteps := 1000000) (implicitDefEqProofs := false) only [body31_0, l6, l1, Int.lt_irrefl, enter_eq, setAll_cons, setAll_nil, w_seq, w_reg, o_nil, o_plain, o_skip, o_done, p_assign, p_move, p_pick, pickA_true, pickA_false, p_extract, exA_tup, p_call, opvs_nil, opvs_cons, v_int, v_bool, v_str, v_tmp, evThen_ok, setDst_fset, setDst_none, seqA_normal, seqA_ret, seqA_exit, w_block, blockA_normal, blockA_ret, blockA_exit, w_cond, condA_true, condA_false, w_ret, w_skip, w_exit, w_scope, p_binOp, b_add, b_sub, b_mul, b_eql, b_neq, b_eqlS, b_neqS, b_lss, b_leq, b_gtr, b_geq, p_unOp, u_neg, u_not, c_int, lift_some', look_cons, look_nil, isWant_true, isWant_false, isWant_skipped, Option.some.injEq, Bool.true_eq_false, Bool.false_eq_true, after_ret, after_normal, res_tmp, res_nil, obind_some', get_fset, resOf_some, one_one, one_two, one_nil, Nat.reduceAdd, Nat.reduceLT, Nat.reduceEqDiff, ↓reduceIte, decide_true, decide_false, Bool.not_true, Bool.not_false, List.getElem?_cons_zero, List.getElem?_cons_succ, List.getElem?_nil]
      rfl
    · simp only [look_cons, Nat.reduceEqDiff, ↓reduceIte, l5]
  | n + 1, i, l, hn, hl => by
    obtain ⟨l2, h1, h2⟩ := bit_step hx (show i < at' by omega) hat hl (evω E (.loop body31_0)) h
    obtain ⟨l', h3, h4⟩ := bit_loop hx hat h n (i + 1) l2 (by omega) h2
    exact ⟨l', by rw [w_loop, h1, h3], h4⟩
open Classical in
noncomputable def bitOut (x at' : Nat) (L : List (Nat × AV)) (h : Heap) : List (Nat × AV) :=
  if hx : ∃ l', evω E (.loop body31_0) (fset 19 L) h = .ok (.exit 0) (fset 19 l') h ∧ AM.look l' 5 = .int .u64 ((x / 2 ^ at' : Nat) : Int) then hx.choose else []
theorem bit_loopS {x at' : Nat} (hx : x < M64) (hat : at' ≤ 64) {L : List (Nat × AV)} {h : Heap} (l5 : AM.look L 5 = .int .u64 (x : Int)) (l6 : AM.look L 6 = .int .i64 0) (l1 : AM.look L 1 = .int .i64 at') :
    evω E (.loop body31_0) (fset 19 L) h = .ok (.exit 0) (fset 19 (bitOut x at' L h)) h ∧ AM.look (bitOut x at' L h) 5 = .int .u64 ((x / 2 ^ at' : Nat) : Int) := by
  have hx := bit_loop hx hat h at' 0 L (by omega) ⟨by rw [l5]; simp, l6, l1⟩
  unfold bitOut
  rw [dif_pos hx]
  exact hx.choose_spec
theorem Bit_ok (v : Int) {at' : Nat} (hat : at' ≤ 64) (h : Heap) : callω E 31 [.int .i64 v, .int .i64 at'] h = .ok (.bool ((ub M64 v).testBit at')) h := by
  have hx := ub_lt (M := M64) (by decide) v
  rw [call31 _ (by simp), d31_eq]
  have e1 := wrapU_ub v
  have e2 : decide ((((ub M64 v / 2 ^ at' : Nat) : Int).tmod 2) = 1) = (ub M64 v).testBit at' := by
    rw [Nat.testBit_eq_decide_div_mod_eq, decide_eq_decide]
    have : (((ub M64 v / 2 ^ at' : Nat) : Int).tmod 2) = ((ub M64 v / 2 ^ at' % 2 : Nat) : Int) := rfl
    rw [this]; omega
  have hS := fun {L} {h} l5 l6 l1 => bit_loopS (L := L) (h := h) hx hat l5 l6 l1
  have hS1 := fun {L} {h} l5 l6 l1 => (bit_loopS (L := L) (h := h) hx hat l5 l6 l1).1
  have hS2 : ∀ (L : List (Nat × AV)) (h : Heap), AM.look L 5 = .int .u64 ((ub M64 v : Nat) : Int) → AM.look L 6 = .int .i64 0 → AM.look L 1 = .int .i64 at' → AM.look (bitOut (ub M64 v) at' L h) 5 = .int .u64 ((ub M64 v / 2 ^ at' : Nat) : Int) := fun L h l5 l6 l1 => (bit_loopS (L := L) (h := h) hx hat l5 l6 l1).2
  simp (maxSteps := 1000000) (implicitDefEqProofs := false) only [d31, p_convert _ _ _ ti3 ti48, e1, hS1, hS2, b_rem _ _ _ _ (show (2 : Int) ≠ 0 by decide), e2, enter_eq, setAll_cons, setAll_nil, w_seq, w_reg, o_nil, o_plain, o_skip, o_done, p_assign, p_move, p_pick, pickA_true, pickA_false, p_extract, exA_tup, p_call, opvs_nil, opvs_cons, v_int, v_bool, v_str, v_tmp, evThen_ok, setDst_fset, setDst_none, seqA_normal, seqA_ret, seqA_exit, w_block, blockA_normal, blockA_ret, blockA_exit, w_cond, condA_true, condA_false, w_ret, w_skip, w_exit, w_scope, p_binOp, b_add, b_sub, b_mul, b_eql, b_neq, b_eqlS, b_neqS, b_lss, b_leq, b_gtr, b_geq, p_unOp, u_neg, u_not, c_int, lift_some', look_cons, look_nil, isWant_true, isWant_false, isWant_skipped, Option.some.injEq, Bool.true_eq_false, Bool.false_eq_true, after_ret, after_normal, res_tmp, res_nil, obind_some', get_fset, resOf_some, one_one, one_two, one_nil, Nat.reduceAdd, Nat.reduceLT, Nat.reduceEqDiff, ↓reduceIte, decide_true, decide_false, Bool.not_true, Bool.not_false, List.getElem?_cons_zero, List.getElem?_cons_succ, List.getElem?_nil]
end Go.Proofs.Word
namespace Go.Proofs.Word
open Go Go.AM
/-! ### Bit by bit -/
/-- What is done to each bit. -/
inductive BitOp where | band | bor | bxor
def BitOp.str : BitOp → List UInt8 | .band => [38] | .bor => [124] | .bxor => [94]
def BitOp.nat : BitOp → Nat → Nat → Nat | .band => fun x y => x &&& y | .bor => fun x y => x ||| y | .bxor => fun x y => x ^^^ y
def BitOp.bool : BitOp → Bool → Bool → Bool | .band => fun x y => x && y | .bor => fun x y => x || y | .bxor => fun x y => !decide (x = y)
theorem BitOp.test (o : BitOp) (x y i : Nat) : (o.nat x y).testBit i = o.bool (x.testBit i) (y.testBit i) := by
  cases o
  · exact Nat.testBit_and x y i
  · exact Nat.testBit_or x y i
  · show (x ^^^ y).testBit i = _
    rw [Nat.testBit_xor]
    show _ = !decide (x.testBit i = y.testBit i)
    cases x.testBit i <;> cases y.testBit i <;> rfl
theorem BitOp.lt (o : BitOp) {x y w : Nat} (hx : x < 2 ^ w) (hy : y < 2 ^ w) : o.nat x y < 2 ^ w := by
  cases o
  · exact Nat.lt_of_le_of_lt Nat.and_le_left hx
  · exact Nat.or_lt_two_pow hx hy
  · exact Nat.xor_lt_two_pow hx hy
theorem BitOp.mod (o : BitOp) (x y w : Nat) : o.nat x y % 2 ^ w = o.nat (x % 2 ^ w) (y % 2 ^ w) := by
  cases o
  · exact Nat.and_mod_two_pow
  · exact Nat.or_mod_two_pow
  · exact Nat.xor_mod_two_pow
structure BitsAt2 (T : AV) (o : BitOp) (a b : Int) (z n : Nat) (l : List (Nat × AV)) : Prop where
  l0 : AM.look l 0 = T
  l1 : AM.look l 1 = .str o.str
  l2 : AM.look l 2 = .int .i64 a
  l3 : AM.look l 3 = .int .i64 b
  l10 : AM.look l 10 = .int .u64 ((z / 2 ^ n : Nat) : Int)
  l11 : AM.look l 11 = .int .i64 ((n : Int) - 1)
theorem half_step (z m : Nat) : z / 2 ^ m = 2 * (z / 2 ^ (m + 1)) + (if z.testBit m then 1 else 0) := by
  have h1 : z / 2 ^ (m + 1) = z / 2 ^ m / 2 := by rw [Nat.div_div_eq_div_mul, Nat.pow_succ]
  rw [h1, Nat.testBit_eq_decide_div_mod_eq]
  by_cases h : z / 2 ^ m % 2 = 1
  · rw [if_pos (by simpa using h)]; omega
  · rw [if_neg (by simpa using h)]; omega
theorem b_neqB' (a b : Bool) : binOpA .neq (flatOf E 4) (.bool a) (.bool b) = some (.bool (!decide (a = b))) := by rw [fl4]; exact b_neqB a b
theorem bits2_step {T : AV} (o : BitOp) {a b : Int} {z m w : Nat} (hz : z = o.nat (ub M64 a) (ub M64 b) % 2 ^ w) (hw : w ≤ 64) (hm : m < w) {l : List (Nat × AV)} (hl : BitsAt2 T o a b z (m + 1) l) (K : Tr → Heap → CRes) (h : Heap) :
    ∃ l2, seqA K (evω E body24_0 (fset 56 l) h) = K (fset 56 l2) h ∧ BitsAt2 T o a b z m l2 := by
  obtain ⟨l0, l1, l2, l3, l10, l11⟩ := hl
  have hge : (0 : Int) ≤ (m : Int) := by omega
  have e0 : ((m + 1 : Nat) : Int) - 1 = (m : Int) := by omega
  have e1 : IntKind.wrap .i64 ((m : Int) - 1) = (m : Int) - 1 := wrap64_id ⟨by omega, by omega⟩
  rw [e0] at l11
  have hzl : z < M64 := by
    have h1 : z < 2 ^ w := by rw [hz]; exact Nat.mod_lt _ (Nat.two_pow_pos w)
    have h2 : (2 : Nat) ^ w ≤ 2 ^ 64 := Nat.pow_le_pow_right (by omega) hw
    have h3 : (2 : Nat) ^ 64 = M64 := by decide
    omega
  have hbit : z.testBit m = o.bool ((ub M64 a).testBit m) ((ub M64 b).testBit m) := by
    rw [hz, Nat.testBit_mod_two_pow, ← o.test]; simp [hm]
  have hst := half_step z m
  have hlt : z / 2 ^ m < M64 := Nat.lt_of_le_of_lt (Nat.div_le_self _ _) hzl
  have d2 : IntKind.wrap .u64 (((z / 2 ^ (m + 1) : Nat) : Int) * 2) = ((2 * (z / 2 ^ (m + 1)) : Nat) : Int) := by
    have : ((z / 2 ^ (m + 1) : Nat) : Int) * 2 = ((2 * (z / 2 ^ (m + 1)) : Nat) : Int) := by omega
    rw [this]; exact wrapU_nat (by have : z / 2 ^ m < M64 := hlt; omega)
  have B1 := fun h => Bit_ok a (at' := m) (by omega) h
  have B2 := fun h => Bit_ok b (at' := m) (by omega) h
  have q1 : (([124] : List UInt8) = [38]) = False := by simp
  have q2 : (([94] : List UInt8) = [38]) = False := by simp
  have q3 : (([94] : List UInt8) = [124]) = False := by simp
  have fin : ∀ bit : Bool, o.bool ((ub M64 a).testBit m) ((ub M64 b).testBit m) = bit →
      ∃ l2, seqA K (evω E body24_0 (fset 56 l) h) = K (fset 56 l2) h ∧ BitsAt2 T o a b z m l2 := by
    intro bit hb
    rw [hbit, hb] at hst
    generalize hx : (ub M64 a).testBit m = x at *
    generalize hy : (ub M64 b).testBit m = y at *
    cases bit with
    | false =>
      have d4 : ((2 * (z / 2 ^ (m + 1)) : Nat) : Int) = ((z / 2 ^ m : Nat) : Int) := by rw [hst]; simp
      cases o <;> cases x <;> cases y <;> first | (cases hb; done) | skip
      all_goals
        apply Exists.intro
        refine And.intro ?_ ?_
        · simp (maxSteps := 1000000) (implicitDefEqProofs := false) only [body24_0, l1, l2, l3, l10, l11, eq_true hge, e1, B1, B2, hx, hy, d2, d4, BitOp.str, q1, q2, q3, b_neqB', Bool.true_eq_false, Bool.false_eq_true, enter_eq, setAll_cons, setAll_nil, w_seq, w_reg, o_nil, o_plain, o_skip, o_done, p_assign, p_move, p_pick, pickA_true, pickA_false, p_extract, exA_tup, p_call, opvs_nil, opvs_cons, v_int, v_bool, v_str, v_tmp, evThen_ok, setDst_fset, setDst_none, seqA_normal, seqA_ret, seqA_exit, w_block, blockA_normal, blockA_ret, blockA_exit, w_cond, condA_true, condA_false, w_ret, w_skip, w_exit, w_scope, p_binOp, b_add, b_sub, b_mul, b_eql, b_neq, b_eqlS, b_neqS, b_lss, b_leq, b_gtr, b_geq, p_unOp, u_neg, u_not, c_int, lift_some', look_cons, look_nil, isWant_true, isWant_false, isWant_skipped, Option.some.injEq, Bool.true_eq_false, Bool.false_eq_true, after_ret, after_normal, res_tmp, res_nil, obind_some', get_fset, resOf_some, one_one, one_two, one_nil, Nat.reduceAdd, Nat.reduceLT, Nat.reduceEqDiff, ↓reduceIte, decide_true, decide_false, Bool.not_true, Bool.not_false, List.getElem?_cons_zero, List.getElem?_cons_succ, List.getElem?_nil]
          rfl
        · refine ⟨?_, ?_, ?_, ?_, ?_, ?_⟩ <;> simp only [look_cons, Nat.reduceEqDiff, ↓reduceIte, l0, l1, l2, l3]
    | true =>
      have d4 : IntKind.wrap .u64 (((2 * (z / 2 ^ (m + 1)) : Nat) : Int) + 1) = ((z / 2 ^ m : Nat) : Int) := by
        have : ((2 * (z / 2 ^ (m + 1)) : Nat) : Int) + 1 = ((z / 2 ^ m : Nat) : Int) := by rw [hst]; simp
        rw [this]; exact wrapU_nat hlt
      cases o <;> cases x <;> cases y <;> first | (cases hb; done) | skip
      all_goals
        apply Exists.intro
        refine And.intro ?_ ?_
        · simp (maxSteps := 1000000) (implicitDefEqProofs := false) only [body24_0, l1, l2, l3, l10, l11, eq_true hge, e1, B1, B2, hx, hy, d2, d4, BitOp.str, q1, q2, q3, b_neqB', Bool.true_eq_false, Bool.false_eq_true, enter_eq, setAll_cons, setAll_nil, w_seq, w_reg, o_nil, o_plain, o_skip, o_done, p_assign, p_move, p_pick, pickA_true, pickA_false, p_extract, exA_tup, p_call, opvs_nil, opvs_cons, v_int, v_bool, v_str, v_tmp, evThen_ok, setDst_fset, setDst_none, seqA_normal, seqA_ret, seqA_exit, w_block, blockA_normal, blockA_ret, blockA_exit, w_cond, condA_true, condA_false, w_ret, w_skip, w_exit, w_scope, p_binOp, b_add, b_sub, b_mul, b_eql, b_neq, b_eqlS, b_neqS, b_lss, b_leq, b_gtr, b_geq, p_unOp, u_neg, u_not, c_int, lift_some', look_cons, look_nil, isWant_true, isWant_false, isWant_skipped, Option.some.injEq, Bool.true_eq_false, Bool.false_eq_true, after_ret, after_normal, res_tmp, res_nil, obind_some', get_fset, resOf_some, one_one, one_two, one_nil, Nat.reduceAdd, Nat.reduceLT, Nat.reduceEqDiff, ↓reduceIte, decide_true, decide_false, Bool.not_true, Bool.not_false, List.getElem?_cons_zero, List.getElem?_cons_succ, List.getElem?_nil]
          rfl
        · refine ⟨?_, ?_, ?_, ?_, ?_, ?_⟩ <;> simp only [look_cons, Nat.reduceEqDiff, ↓reduceIte, l0, l1, l2, l3]
  exact fin _ rfl
end Go.Proofs.Word
namespace Go.Proofs.Word
open Go Go.AM
theorem bits2_loop {T : AV} (o : BitOp) {a b : Int} {z w : Nat} (hz : z = o.nat (ub M64 a) (ub M64 b) % 2 ^ w) (hw : w ≤ 64) (h : Heap) : ∀ (n : Nat) (l : List (Nat × AV)), n ≤ w → BitsAt2 T o a b z n l →
    ∃ l', evω E (.loop body24_0) (fset 56 l) h = .ok (.exit 0) (fset 56 l') h ∧ AM.look l' 10 = .int .u64 (z : Int) ∧ AM.look l' 0 = T
  | 0, l, hn, hl => by
    obtain ⟨l0, l1, l2, l3, l10, l11⟩ := hl
    have hge : ¬ (0 : Int) ≤ ((0 : Nat) : Int) - 1 := by omega
    rw [w_loop]
    apply Exists.intro
    refine ⟨?_, ?_, ?_⟩
    · simp (maxSteps := 1000000) (implicitDefEqProofs := false) only [body24_0, l11, eq_false hge, enter_eq, setAll_cons, setAll_nil, w_seq, w_reg, o_nil, o_plain, o_skip, o_done, p_assign, p_move, p_pick, pickA_true, pickA_false, p_extract, exA_tup, p_call, opvs_nil, opvs_cons, v_int, v_bool, v_str, v_tmp, evThen_ok, setDst_fset, setDst_none, seqA_normal, seqA_ret, seqA_exit, w_block, blockA_normal, blockA_ret, blockA_exit, w_cond, condA_true, condA_false, w_ret, w_skip, w_exit, w_scope, p_binOp, b_add, b_sub, b_mul, b_eql, b_neq, b_eqlS, b_neqS, b_lss, b_leq, b_gtr, b_geq, p_unOp, u_neg, u_not, c_int, lift_some', look_cons, look_nil, isWant_true, isWant_false, isWant_skipped, Option.some.injEq, Bool.true_eq_false, Bool.false_eq_true, after_ret, after_normal, res_tmp, res_nil, obind_some', get_fset, resOf_some, one_one, one_two, one_nil, Nat.reduceAdd, Nat.reduceLT, Nat.reduceEqDiff, ↓reduceIte, decide_true, decide_false, Bool.not_true, Bool.not_false, List.getElem?_cons_zero, List.getElem?_cons_succ, List.getElem?_nil]
      rfl
    · simp only [look_cons, Nat.reduceEqDiff, ↓reduceIte, l10]; simp
    · simp only [look_cons, Nat.reduceEqDiff, ↓reduceIte, l0]
  | n + 1, l, hn, hl => by
    obtain ⟨l2, h1, h2⟩ := bits2_step o hz hw (show n < w by omega) hl (evω E (.loop body24_0)) h
    obtain ⟨l', h3, h4⟩ := bits2_loop o hz hw h n l2 (by omega) h2
    exact ⟨l', by rw [w_loop, h1, h3], h4⟩
open Classical in
noncomputable def bits2Out (z : Nat) (L : List (Nat × AV)) (h : Heap) : List (Nat × AV) :=
  if hx : ∃ l', evω E (.loop body24_0) (fset 56 L) h = .ok (.exit 0) (fset 56 l') h ∧ AM.look l' 10 = .int .u64 (z : Int) ∧ AM.look l' 0 = AM.look L 0 then hx.choose else []
theorem bits2_loopS (o : BitOp) {a b T : Int} {z w : Nat} (hz : z = o.nat (ub M64 a) (ub M64 b) % 2 ^ w) (hw : w ≤ 64) {L : List (Nat × AV)} {h : Heap} (l0 : AM.look L 0 = .int .i64 T) (l1 : AM.look L 1 = .str o.str) (l2 : AM.look L 2 = .int .i64 a) (l3 : AM.look L 3 = .int .i64 b) (l10 : AM.look L 10 = .int .u64 0) (l11 : AM.look L 11 = .int .i64 ((w : Int) - 1)) :
    evω E (.loop body24_0) (fset 56 L) h = .ok (.exit 0) (fset 56 (bits2Out z L h)) h ∧ AM.look (bits2Out z L h) 10 = .int .u64 (z : Int) ∧ AM.look (bits2Out z L h) 0 = .int .i64 T := by
  have hz0 : z / 2 ^ w = 0 := Nat.div_eq_of_lt (by rw [hz]; exact Nat.mod_lt _ (Nat.two_pow_pos w))
  have hx := bits2_loop (T := AM.look L 0) o hz hw h w L (Nat.le_refl _) ⟨rfl, l1, l2, l3, by rw [l10, hz0]; rfl, l11⟩
  unfold bits2Out
  rw [dif_pos hx]
  exact ⟨hx.choose_spec.1, hx.choose_spec.2.1, hx.choose_spec.2.2.trans l0⟩
theorem RBits_ok (o : BitOp) {t : Int} {w M : Nat} (B : BitOps t w M) (hwr : ∀ z : Nat, wrapL t (IntKind.wrap .i64 (z : Int)) = (z : Int).bmod M) (a b : Int) (h : Heap) :
    callω E 24 [.int .i64 t, .str o.str, .int .i64 a, .int .i64 b] h = .ok (.int .i64 (((o.nat (ub M64 a) (ub M64 b) % 2 ^ w : Nat) : Int).bmod M)) h := by
  have hw := B.hw2
  have e1 : IntKind.wrap .i64 ((w : Int) - 1) = (w : Int) - 1 := wrap64_id ⟨by omega, by omega⟩
  generalize hz : o.nat (ub M64 a) (ub M64 b) % 2 ^ w = z
  have hS1 := fun {L} {h} l0 l1 l2 l3 l10 l11 => (bits2_loopS o (T := t) (L := L) (h := h) hz.symm hw.2 l0 l1 l2 l3 l10 l11).1
  have hS2 : ∀ (L : List (Nat × AV)) (h : Heap), AM.look L 0 = .int .i64 t → AM.look L 1 = .str o.str → AM.look L 2 = .int .i64 a → AM.look L 3 = .int .i64 b → AM.look L 10 = .int .u64 0 → AM.look L 11 = .int .i64 ((w : Int) - 1) → AM.look (bits2Out z L h) 10 = .int .u64 (z : Int) := fun L h l0 l1 l2 l3 l10 l11 => (bits2_loopS o (L := L) (h := h) hz.symm hw.2 l0 l1 l2 l3 l10 l11).2.1
  have hS3 : ∀ (L : List (Nat × AV)) (h : Heap), AM.look L 0 = .int .i64 t → AM.look L 1 = .str o.str → AM.look L 2 = .int .i64 a → AM.look L 3 = .int .i64 b → AM.look L 10 = .int .u64 0 → AM.look L 11 = .int .i64 ((w : Int) - 1) → AM.look (bits2Out z L h) 0 = .int .i64 t := fun L h l0 l1 l2 l3 l10 l11 => (bits2_loopS o (L := L) (h := h) hz.symm hw.2 l0 l1 l2 l3 l10 l11).2.2
  have hW := fun h => RWrap_ok t (wrap64_in (z : Int)) h
  rw [hwr] at hW
  rw [call24 _ (by simp), d24_eq]
  simp (maxSteps := 1000000) (implicitDefEqProofs := false) only [d24, RWidth_ok, B.width, e1, hS1, hS2, hS3, p_convert _ _ _ ti48 ti3, hW, enter_eq, setAll_cons, setAll_nil, w_seq, w_reg, o_nil, o_plain, o_skip, o_done, p_assign, p_move, p_pick, pickA_true, pickA_false, p_extract, exA_tup, p_call, opvs_nil, opvs_cons, v_int, v_bool, v_str, v_tmp, evThen_ok, setDst_fset, setDst_none, seqA_normal, seqA_ret, seqA_exit, w_block, blockA_normal, blockA_ret, blockA_exit, w_cond, condA_true, condA_false, w_ret, w_skip, w_exit, w_scope, p_binOp, b_add, b_sub, b_mul, b_eql, b_neq, b_eqlS, b_neqS, b_lss, b_leq, b_gtr, b_geq, p_unOp, u_neg, u_not, c_int, lift_some', look_cons, look_nil, isWant_true, isWant_false, isWant_skipped, Option.some.injEq, Bool.true_eq_false, Bool.false_eq_true, after_ret, after_normal, res_tmp, res_nil, obind_some', get_fset, resOf_some, one_one, one_two, one_nil, Nat.reduceAdd, Nat.reduceLT, Nat.reduceEqDiff, ↓reduceIte, decide_true, decide_false, Bool.not_true, Bool.not_false, List.getElem?_cons_zero, List.getElem?_cons_succ, List.getElem?_nil]
/-! ### Place by place -/
structure ShiftAt (T : AV) (op : List UInt8) (n i : Nat) (f : Nat → Int) (l : List (Nat × AV)) : Prop where
  l0 : AM.look l 0 = T
  l1 : AM.look l 1 = .str op
  l2 : AM.look l 2 = .int .i64 (f i)
  l10 : AM.look l 10 = .int .i64 n
  l11 : AM.look l 11 = .int .i64 i
theorem shift_step {t : Int} {op : List UInt8} {n i : Nat} {f : Nat → Int} (hi : i < n) (hn : n ≤ 64) (hop : op = [60, 60] ∨ op = [62, 62]) (hl1 : op = [60, 60] → ∀ h, callω E 18 [.int .i64 t, .int .i64 (IntKind.wrap .i64 (f i + f i))] h = .ok (.int .i64 (f (i + 1))) h)
    (hr1 : op = [62, 62] → In64 (f i) ∧ f (i + 1) = f i / 2) {l : List (Nat × AV)} (hl : ShiftAt (.int .i64 t) op n i f l) (K : Tr → Heap → CRes) (h : Heap) :
    ∃ l2, seqA K (evω E body25_0 (fset 47 l) h) = K (fset 47 l2) h ∧ ShiftAt (.int .i64 t) op n (i + 1) f l2 := by
  obtain ⟨l0, l1, l2, l10, l11⟩ := hl
  have hi' : (i : Int) < (n : Int) := by omega
  have e3 : IntKind.wrap .i64 ((i : Int) + 1) = ((i + 1 : Nat) : Int) := by rw [wrap64_id ⟨by omega, by omega⟩]; omega
  have q : (([62, 62] : List UInt8) = [60, 60]) = False := by simp
  rcases hop with hop | hop
  · have hW := hl1 hop
    subst hop
    apply Exists.intro
    refine And.intro ?_ ?_
    · simp (maxSteps := 1000000) (implicitDefEqProofs := false) only [body25_0, l0, l1, l2, l10, l11, eq_true hi', e3, hW, enter_eq, setAll_cons, setAll_nil, w_seq, w_reg, o_nil, o_plain, o_skip, o_done, p_assign, p_move, p_pick, pickA_true, pickA_false, p_extract, exA_tup, p_call, opvs_nil, opvs_cons, v_int, v_bool, v_str, v_tmp, evThen_ok, setDst_fset, setDst_none, seqA_normal, seqA_ret, seqA_exit, w_block, blockA_normal, blockA_ret, blockA_exit, w_cond, condA_true, condA_false, w_ret, w_skip, w_exit, w_scope, p_binOp, b_add, b_sub, b_mul, b_eql, b_neq, b_eqlS, b_neqS, b_lss, b_leq, b_gtr, b_geq, p_unOp, u_neg, u_not, c_int, lift_some', look_cons, look_nil, isWant_true, isWant_false, isWant_skipped, Option.some.injEq, Bool.true_eq_false, Bool.false_eq_true, after_ret, after_normal, res_tmp, res_nil, obind_some', get_fset, resOf_some, one_one, one_two, one_nil, Nat.reduceAdd, Nat.reduceLT, Nat.reduceEqDiff, ↓reduceIte, decide_true, decide_false, Bool.not_true, Bool.not_false, List.getElem?_cons_zero, List.getElem?_cons_succ, List.getElem?_nil]
      rfl
    · refine ⟨?_, ?_, ?_, ?_, ?_⟩ <;> simp only [look_cons, Nat.reduceEqDiff, ↓reduceIte, l0, l1, l10]
  · obtain ⟨hin, hf⟩ := hr1 hop
    subst hop
    generalize hF : f i = F at *
    have h2 : (2 : Int) ≠ 0 := by decide
    have hm2 := tmod_lt F (B := 2) h2
    by_cases hneg : F < 0
    · by_cases hodd : F.tmod 2 = 0
      · have e4 : IntKind.wrap .i64 (F.tdiv 2) = F / 2 := by
          have : F.tdiv 2 = F / 2 := Int.tdiv_eq_ediv_of_dvd (Int.dvd_of_tmod_eq_zero hodd)
          rw [this]; exact wrap64_id ⟨by have := hin.1; omega, by have := hin.2; omega⟩
        apply Exists.intro
        refine And.intro ?_ ?_
        · simp (maxSteps := 1000000) (implicitDefEqProofs := false) only [body25_0, l0, l1, l2, l10, l11, eq_true hi', e3, q, eq_true hneg, eq_true hodd, b_rem _ _ _ _ h2, b_quo _ _ _ _ h2, e4, enter_eq, setAll_cons, setAll_nil, w_seq, w_reg, o_nil, o_plain, o_skip, o_done, p_assign, p_move, p_pick, pickA_true, pickA_false, p_extract, exA_tup, p_call, opvs_nil, opvs_cons, v_int, v_bool, v_str, v_tmp, evThen_ok, setDst_fset, setDst_none, seqA_normal, seqA_ret, seqA_exit, w_block, blockA_normal, blockA_ret, blockA_exit, w_cond, condA_true, condA_false, w_ret, w_skip, w_exit, w_scope, p_binOp, b_add, b_sub, b_mul, b_eql, b_neq, b_eqlS, b_neqS, b_lss, b_leq, b_gtr, b_geq, p_unOp, u_neg, u_not, c_int, lift_some', look_cons, look_nil, isWant_true, isWant_false, isWant_skipped, Option.some.injEq, Bool.true_eq_false, Bool.false_eq_true, after_ret, after_normal, res_tmp, res_nil, obind_some', get_fset, resOf_some, one_one, one_two, one_nil, Nat.reduceAdd, Nat.reduceLT, Nat.reduceEqDiff, ↓reduceIte, decide_true, decide_false, Bool.not_true, Bool.not_false, List.getElem?_cons_zero, List.getElem?_cons_succ, List.getElem?_nil]
          rfl
        · refine ⟨?_, ?_, ?_, ?_, ?_⟩ <;> simp only [look_cons, Nat.reduceEqDiff, ↓reduceIte, l0, l1, l10, hf]
      · have e5 : F.tdiv 2 - 1 = F / 2 := by
          have h5 := Int.mul_tdiv_add_tmod F 2
          have h6 := (tmod_sign F 2).2 (by omega)
          omega
        have e4 : IntKind.wrap .i64 (F.tdiv 2) = F.tdiv 2 := wrap64_id ⟨by have := hin.1; omega, by have := hin.2; omega⟩
        have e6 : IntKind.wrap .i64 (F.tdiv 2 - 1) = F / 2 := by rw [e5]; exact wrap64_id ⟨by have := hin.1; omega, by have := hin.2; omega⟩
        apply Exists.intro
        refine And.intro ?_ ?_
        · simp (maxSteps := 1000000) (implicitDefEqProofs := false) only [body25_0, l0, l1, l2, l10, l11, eq_true hi', e3, q, eq_true hneg, eq_false hodd, b_rem _ _ _ _ h2, b_quo _ _ _ _ h2, e4, e6, enter_eq, setAll_cons, setAll_nil, w_seq, w_reg, o_nil, o_plain, o_skip, o_done, p_assign, p_move, p_pick, pickA_true, pickA_false, p_extract, exA_tup, p_call, opvs_nil, opvs_cons, v_int, v_bool, v_str, v_tmp, evThen_ok, setDst_fset, setDst_none, seqA_normal, seqA_ret, seqA_exit, w_block, blockA_normal, blockA_ret, blockA_exit, w_cond, condA_true, condA_false, w_ret, w_skip, w_exit, w_scope, p_binOp, b_add, b_sub, b_mul, b_eql, b_neq, b_eqlS, b_neqS, b_lss, b_leq, b_gtr, b_geq, p_unOp, u_neg, u_not, c_int, lift_some', look_cons, look_nil, isWant_true, isWant_false, isWant_skipped, Option.some.injEq, Bool.true_eq_false, Bool.false_eq_true, after_ret, after_normal, res_tmp, res_nil, obind_some', get_fset, resOf_some, one_one, one_two, one_nil, Nat.reduceAdd, Nat.reduceLT, Nat.reduceEqDiff, ↓reduceIte, decide_true, decide_false, Bool.not_true, Bool.not_false, List.getElem?_cons_zero, List.getElem?_cons_succ, List.getElem?_nil]
          rfl
        · refine ⟨?_, ?_, ?_, ?_, ?_⟩ <;> simp only [look_cons, Nat.reduceEqDiff, ↓reduceIte, l0, l1, l10, hf]
    · have e4 : IntKind.wrap .i64 (F.tdiv 2) = F / 2 := by
        have : F.tdiv 2 = F / 2 := Int.tdiv_eq_ediv_of_nonneg (by omega)
        rw [this]; exact wrap64_id ⟨by have := hin.1; omega, by have := hin.2; omega⟩
      apply Exists.intro
      refine And.intro ?_ ?_
      · simp (maxSteps := 1000000) (implicitDefEqProofs := false) only [body25_0, l0, l1, l2, l10, l11, eq_true hi', e3, q, eq_false hneg, b_rem _ _ _ _ h2, b_quo _ _ _ _ h2, e4, enter_eq, setAll_cons, setAll_nil, w_seq, w_reg, o_nil, o_plain, o_skip, o_done, p_assign, p_move, p_pick, pickA_true, pickA_false, p_extract, exA_tup, p_call, opvs_nil, opvs_cons, v_int, v_bool, v_str, v_tmp, evThen_ok, setDst_fset, setDst_none, seqA_normal, seqA_ret, seqA_exit, w_block, blockA_normal, blockA_ret, blockA_exit, w_cond, condA_true, condA_false, w_ret, w_skip, w_exit, w_scope, p_binOp, b_add, b_sub, b_mul, b_eql, b_neq, b_eqlS, b_neqS, b_lss, b_leq, b_gtr, b_geq, p_unOp, u_neg, u_not, c_int, lift_some', look_cons, look_nil, isWant_true, isWant_false, isWant_skipped, Option.some.injEq, Bool.true_eq_false, Bool.false_eq_true, after_ret, after_normal, res_tmp, res_nil, obind_some', get_fset, resOf_some, one_one, one_two, one_nil, Nat.reduceAdd, Nat.reduceLT, Nat.reduceEqDiff, ↓reduceIte, decide_true, decide_false, Bool.not_true, Bool.not_false, List.getElem?_cons_zero, List.getElem?_cons_succ, List.getElem?_nil]
        rfl
      · refine ⟨?_, ?_, ?_, ?_, ?_⟩ <;> simp only [look_cons, Nat.reduceEqDiff, ↓reduceIte, l0, l1, l10, hf]
end Go.Proofs.Word
namespace Go.Proofs.Word
open Go Go.AM
theorem shift_loop {t : Int} {op : List UInt8} {n : Nat} {f : Nat → Int} (hn : n ≤ 64) (hop : op = [60, 60] ∨ op = [62, 62]) (hl1 : op = [60, 60] → ∀ i, i < n → ∀ h, callω E 18 [.int .i64 t, .int .i64 (IntKind.wrap .i64 (f i + f i))] h = .ok (.int .i64 (f (i + 1))) h)
    (hr1 : op = [62, 62] → ∀ i, i < n → In64 (f i) ∧ f (i + 1) = f i / 2) (h : Heap) : ∀ (m i : Nat) (l : List (Nat × AV)), i + m = n → ShiftAt (.int .i64 t) op n i f l →
    ∃ l', evω E (.loop body25_0) (fset 47 l) h = .ok (.exit 0) (fset 47 l') h ∧ AM.look l' 2 = .int .i64 (f n)
  | 0, i, l, hm, hl => by
    have : i = n := by omega
    subst this
    obtain ⟨l0, l1, l2, l10, l11⟩ := hl
    rw [w_loop]
    apply Exists.intro
    refine And.intro ?_ ?_
    · simp (maxSteps := 1000000) (implicitDefEqProofs := false) only [body25_0, l10, l11, Int.lt_irrefl, enter_eq, setAll_cons, setAll_nil, w_seq, w_reg, o_nil, o_plain, o_skip, o_done, p_assign, p_move, p_pick, pickA_true, pickA_false, p_extract, exA_tup, p_call, opvs_nil, opvs_cons, v_int, v_bool, v_str, v_tmp, evThen_ok, setDst_fset, setDst_none, seqA_normal, seqA_ret, seqA_exit, w_block, blockA_normal, blockA_ret, blockA_exit, w_cond, condA_true, condA_false, w_ret, w_skip, w_exit, w_scope, p_binOp, b_add, b_sub, b_mul, b_eql, b_neq, b_eqlS, b_neqS, b_lss, b_leq, b_gtr, b_geq, p_unOp, u_neg, u_not, c_int, lift_some', look_cons, look_nil, isWant_true, isWant_false, isWant_skipped, Option.some.injEq, Bool.true_eq_false, Bool.false_eq_true, after_ret, after_normal, res_tmp, res_nil, obind_some', get_fset, resOf_some, one_one, one_two, one_nil, Nat.reduceAdd, Nat.reduceLT, Nat.reduceEqDiff, ↓reduceIte, decide_true, decide_false, Bool.not_true, Bool.not_false, List.getElem?_cons_zero, List.getElem?_cons_succ, List.getElem?_nil]
      rfl
    · simp only [look_cons, Nat.reduceEqDiff, ↓reduceIte, l2]
  | m + 1, i, l, hm, hl => by
    obtain ⟨l2, h1, h2⟩ := shift_step (show i < n by omega) hn hop (fun e => hl1 e i (by omega)) (fun e => hr1 e i (by omega)) hl (evω E (.loop body25_0)) h
    obtain ⟨l', h3, h4⟩ := shift_loop hn hop hl1 hr1 h m (i + 1) l2 (by omega) h2
    exact ⟨l', by rw [w_loop, h1, h3], h4⟩
open Classical in
noncomputable def shiftOut (x : Int) (L : List (Nat × AV)) (h : Heap) : List (Nat × AV) :=
  if hx : ∃ l', evω E (.loop body25_0) (fset 47 L) h = .ok (.exit 0) (fset 47 l') h ∧ AM.look l' 2 = .int .i64 x then hx.choose else []
theorem shift_loopS {t : Int} {op : List UInt8} {n : Nat} {f : Nat → Int} (hn : n ≤ 64) (hop : op = [60, 60] ∨ op = [62, 62]) (hl1 : op = [60, 60] → ∀ i, i < n → ∀ h, callω E 18 [.int .i64 t, .int .i64 (IntKind.wrap .i64 (f i + f i))] h = .ok (.int .i64 (f (i + 1))) h)
    (hr1 : op = [62, 62] → ∀ i, i < n → In64 (f i) ∧ f (i + 1) = f i / 2) {L : List (Nat × AV)} {h : Heap} (l0 : AM.look L 0 = .int .i64 t) (l1 : AM.look L 1 = .str op) (l2 : AM.look L 2 = .int .i64 (f 0)) (l10 : AM.look L 10 = .int .i64 n) (l11 : AM.look L 11 = .int .i64 0) :
    evω E (.loop body25_0) (fset 47 L) h = .ok (.exit 0) (fset 47 (shiftOut (f n) L h)) h ∧ AM.look (shiftOut (f n) L h) 2 = .int .i64 (f n) := by
  have hx := shift_loop hn hop hl1 hr1 h n 0 L (by omega) ⟨l0, l1, l2, l10, l11⟩
  unfold shiftOut
  rw [dif_pos hx]
  exact hx.choose_spec
theorem RShift_ok {t : Int} {w M : Nat} (B : BitOps t w M) {op : List UInt8} {a b : Int} {n : Nat} {f : Nat → Int} (hb : b % w = n) (hnw : n < w) (hop : op = [60, 60] ∨ op = [62, 62]) (hl1 : op = [60, 60] → ∀ i, i < n → ∀ h, callω E 18 [.int .i64 t, .int .i64 (IntKind.wrap .i64 (f i + f i))] h = .ok (.int .i64 (f (i + 1))) h)
    (hr1 : op = [62, 62] → ∀ i, i < n → In64 (f i) ∧ f (i + 1) = f i / 2) (ha : a = f 0) (h : Heap) : callω E 25 [.int .i64 t, .str op, .int .i64 a, .int .i64 b] h = .ok (.int .i64 (f n)) h := by
  have hw := B.hw2
  have hn : n ≤ 64 := by omega
  have hw0 : (w : Int) ≠ 0 := by omega
  have hlt := tmod_lt b hw0
  have hS1 := fun {L} {h} l0 l1 l2 l10 l11 => (shift_loopS hn hop hl1 hr1 (L := L) (h := h) l0 l1 l2 l10 l11).1
  have hS2 : ∀ (L : List (Nat × AV)) (h : Heap), AM.look L 0 = .int .i64 t → AM.look L 1 = .str op → AM.look L 2 = .int .i64 (f 0) → AM.look L 10 = .int .i64 n → AM.look L 11 = .int .i64 0 → AM.look (shiftOut (f n) L h) 2 = .int .i64 (f n) := fun L h l0 l1 l2 l10 l11 => (shift_loopS hn hop hl1 hr1 (L := L) (h := h) l0 l1 l2 l10 l11).2
  rw [call25 _ (by simp), d25_eq, ha]
  have hd : (b.tmod w) % w = b % w := by
    rw [Int.tmod_eq_emod]; split
    · simp
    · rw [Int.sub_emod, Int.emod_emod]; simp
  by_cases hr : b.tmod w < 0
  · have e1 : IntKind.wrap .i64 (b.tmod w + w) = (n : Int) := by
      rw [wrap64_id ⟨by omega, by omega⟩, ← hb, ← hd, ← Int.add_emod_right, Int.emod_eq_of_lt (by omega) (by omega)]
    simp (maxSteps := 1000000) (implicitDefEqProofs := false) only [d25, RWidth_ok, B.width, b_rem _ _ _ _ hw0, eq_true hr, e1, hS1, hS2, enter_eq, setAll_cons, setAll_nil, w_seq, w_reg, o_nil, o_plain, o_skip, o_done, p_assign, p_move, p_pick, pickA_true, pickA_false, p_extract, exA_tup, p_call, opvs_nil, opvs_cons, v_int, v_bool, v_str, v_tmp, evThen_ok, setDst_fset, setDst_none, seqA_normal, seqA_ret, seqA_exit, w_block, blockA_normal, blockA_ret, blockA_exit, w_cond, condA_true, condA_false, w_ret, w_skip, w_exit, w_scope, p_binOp, b_add, b_sub, b_mul, b_eql, b_neq, b_eqlS, b_neqS, b_lss, b_leq, b_gtr, b_geq, p_unOp, u_neg, u_not, c_int, lift_some', look_cons, look_nil, isWant_true, isWant_false, isWant_skipped, Option.some.injEq, Bool.true_eq_false, Bool.false_eq_true, after_ret, after_normal, res_tmp, res_nil, obind_some', get_fset, resOf_some, one_one, one_two, one_nil, Nat.reduceAdd, Nat.reduceLT, Nat.reduceEqDiff, ↓reduceIte, decide_true, decide_false, Bool.not_true, Bool.not_false, List.getElem?_cons_zero, List.getElem?_cons_succ, List.getElem?_nil]
  · have e1 : b.tmod w = (n : Int) := by
      rw [← hb, ← hd, Int.emod_eq_of_lt (by omega) (by omega)]
    have hr' : ¬ (n : Int) < 0 := by omega
    simp (maxSteps := 1000000) (implicitDefEqProofs := false) only [d25, RWidth_ok, B.width, b_rem _ _ _ _ hw0, e1, eq_false hr', hS1, hS2, enter_eq, setAll_cons, setAll_nil, w_seq, w_reg, o_nil, o_plain, o_skip, o_done, p_assign, p_move, p_pick, pickA_true, pickA_false, p_extract, exA_tup, p_call, opvs_nil, opvs_cons, v_int, v_bool, v_str, v_tmp, evThen_ok, setDst_fset, setDst_none, seqA_normal, seqA_ret, seqA_exit, w_block, blockA_normal, blockA_ret, blockA_exit, w_cond, condA_true, condA_false, w_ret, w_skip, w_exit, w_scope, p_binOp, b_add, b_sub, b_mul, b_eql, b_neq, b_eqlS, b_neqS, b_lss, b_leq, b_gtr, b_geq, p_unOp, u_neg, u_not, c_int, lift_some', look_cons, look_nil, isWant_true, isWant_false, isWant_skipped, Option.some.injEq, Bool.true_eq_false, Bool.false_eq_true, after_ret, after_normal, res_tmp, res_nil, obind_some', get_fset, resOf_some, one_one, one_two, one_nil, Nat.reduceAdd, Nat.reduceLT, Nat.reduceEqDiff, ↓reduceIte, decide_true, decide_false, Bool.not_true, Bool.not_false, List.getElem?_cons_zero, List.getElem?_cons_succ, List.getElem?_nil]
end Go.Proofs.Word
namespace Go.Proofs.Word
open Go Go.AM
/-! ### The document's answer -/
structure RefOps (t : Int) (w M : Nat) (k : IntKind) : Prop where
  B : BitOps t w M
  dvd : w ∣ M
  sub64 : M ∣ M64
  hwr : ∀ x : Int, wrapL t (IntKind.wrap .i64 x) = x.bmod M
  hA : ∀ a, In64 a → wrapL t a = a.bmod M
  rng : ∀ a, In64 a → In64 (wrapL t a)
  sub : ∀ a b, lawL t [45] a b = (a - b).bmod M
  mul : ∀ a b, lawL t [42] a b = (a * b).bmod M
  ne : ∀ op a b, ¬ op = [47] → ¬ op = [37] → binL t op a b = (lawL t op a b, 0)
  div : ∀ op a b, op = [47] ∨ op = [37] → binL t op a b = divL k op (wrapL t a) (wrapL t b)
  dn : ∀ a, In64 a → wrapL t (IntKind.wrap .i64 (0 - wrapL t a)) = k.wrap (0 - wrapL t a)
  dm : ∀ a, In64 a → ¬ (wrapL t a ≠ 0 ∧ k.wrap (0 - wrapL t a) = wrapL t a) → IntKind.wrap .i64 (0 - wrapL t a) = k.wrap ((wrapL t a).tdiv (-1))
  dq : ∀ a b, In64 a → wrapL t b ≠ -1 → IntKind.wrap .i64 ((wrapL t a).tdiv (wrapL t b)) = k.wrap ((wrapL t a).tdiv (wrapL t b))
  ty : t = 1 ∨ t = 2
theorem bmod64 {m k : Nat} (n : Int) (hm : m * k = M64) : (IntKind.wrap .i64 n).bmod m = n.bmod m := by
  have := bmod_cong (m := m) (k := k) n 0 hm
  have h0 : IntKind.wrap .i64 0 = 0 := by decide
  simpa [h0] using this
theorem ref1 : RefOps 1 32 4294967296 .i32 where
  B := bits1
  dvd := by decide
  sub64 := by decide
  hwr x := by rw [wrapL1]; exact bmod64 (k := 4294967296) x (by decide)
  hA a _ := wrapL1 a
  rng a _ := by rw [wrapL1, ← wrap32_bmod]; exact (wrap32_in a).in64
  sub := sub1
  mul := mul1
  ne op a b h1 h2 := by simp [lawL, binL, core, h1, h2]
  div op a b h := by simp [binL, core, h, wrapL]
  dn a _ := by
    rw [wrapL1, wrapL1, bmod64 (m := 4294967296) (k := 4294967296) _ (by decide), ← wrap32_bmod]
  dm a _ hn := by
    have h1 := wrap32_in a
    have e : wrapL 1 a = IntKind.wrap .i32 a := by rw [wrapL1, wrap32_bmod]
    rw [e] at hn ⊢
    generalize IntKind.wrap .i32 a = A at *
    obtain ⟨x, y⟩ := h1
    have e2 : A.tdiv (-1) = 0 - A := by rw [Int.tdiv_neg, Int.tdiv_one]; omega
    have hne : A ≠ -2147483648 := by
      intro h; subst h; exact hn ⟨by decide, by decide⟩
    rw [e2, wrap64_id ⟨by omega, by omega⟩, wrap32_id ⟨by omega, by omega⟩]
  dq a b _ hn := by
    have h1 := wrap32_in a
    have h2 := wrap32_in b
    have e : ∀ x, wrapL 1 x = IntKind.wrap .i32 x := fun x => by rw [wrapL1, wrap32_bmod]
    rw [e] at hn ⊢
    rw [e] 
    generalize IntKind.wrap .i32 a = A at *
    generalize IntKind.wrap .i32 b = D at *
    obtain ⟨x, y⟩ := h1
    have h9 : (A.tdiv D).natAbs = A.natAbs / D.natAbs := Int.natAbs_tdiv A D
    have h8 : A.natAbs / D.natAbs ≤ A.natAbs := Nat.div_le_self _ _
    have hr : In32 (A.tdiv D) := by
      refine ⟨by omega, ?_⟩
      by_cases hp : A.tdiv D ≤ 2147483647
      · exact hp
      · exfalso
        have hq : A.natAbs / D.natAbs = A.natAbs := by omega
        have hD : D.natAbs = 1 := by
          rcases Nat.lt_or_ge 1 D.natAbs with h | h
          · have := Nat.div_lt_self (show 0 < A.natAbs by omega) h; omega
          · have : D.natAbs ≠ 0 := fun e => by rw [e] at hq; simp at hq; omega
            omega
        have hD1 : D = 1 := by omega
        subst hD1
        rw [Int.tdiv_one] at hp; omega
    rw [wrap64_id hr.in64, wrap32_id hr]
  ty := .inl rfl
theorem ref2 : RefOps 2 64 18446744073709551616 .i64 where
  B := bits2
  dvd := by decide
  sub64 := by decide
  hwr x := by simp [wrapL, wrap64_bmod]
  hA a h := wrapL2 h
  rng a h := by simpa [wrapL] using h
  sub := sub2
  mul := mul2
  ne op a b h1 h2 := by simp [lawL, binL, core, h1, h2]
  div op a b h := by simp [binL, core, h, wrapL]
  dn a _ := by simp [wrapL]
  dm a h hn := by
    have e : wrapL 2 a = a := by simp [wrapL]
    rw [e, show a.tdiv (-1) = 0 - a by rw [Int.tdiv_neg, Int.tdiv_one]; omega]
  dq a b _ _ := rfl
  ty := .inr rfl
theorem ub_sub {M : Nat} (hM : 0 < M) (hd : M ∣ M64) (a A : Int) (hA : A = a.bmod M) : ub M64 A % M = ub M a := by
  have h1 := ub_cast (M := M64) (by decide) A
  have h2 := ub_cast hM a
  have h3 : ((ub M64 A % M : Nat) : Int) = a % M := by
    rw [Int.natCast_emod, h1, Int.emod_emod_of_dvd A (Int.natCast_dvd_natCast.2 hd), hA, Int.bmod_emod]
  omega
theorem hone {p : Prop} [Decidable p] (h : Heap) : callω E 26 [.bool (decide p)] h = .ok (.int .i64 (if p then 1 else 0)) h := by
  rw [Rone_ok]; simp
theorem hone' {p : Prop} [Decidable p] (h : Heap) : callω E 26 [.bool (!decide p)] h = .ok (.int .i64 (if p then 0 else 1)) h := by
  rw [Rone_ok]; by_cases hp : p <;> simp [hp]
set_option maxHeartbeats 4000000 in
theorem RBin_kind {t : Int} {w M : Nat} {k : IntKind} (R : RefOps t w M k) (long : Bool) (hlong : (if long = true then (2 : Int) else 1) = t) (op : List UInt8) {a b : Int} (ha : In64 a) (hb : In64 b) (h : Heap) :
    callω E 15 [.int .i64 t, .str op, .int .i64 a, .int .i64 b] h = .ok (.tup [.int .i64 (binL t op a b).1, .int .i64 (binL t op a b).2]) h := by
  have hM : 0 < M := by rw [R.B.hM]; exact Nat.two_pow_pos w
  have hw2 := R.B.hw2
  obtain ⟨olt, oeq, ogt, ole, oge, one', otg⟩ := (hlong ▸ order_ok long a b : OrderOk t a b)
  have hWa := fun h => RWrap_ok t ha h
  have hWb := fun h => RWrap_ok t hb h
  have hW : ∀ (x : Int) (h : Heap), callω E 18 [.int .i64 t, .int .i64 (IntKind.wrap .i64 x)] h = .ok (.int .i64 (x.bmod M)) h := fun x h => by rw [RWrap_ok t (wrap64_in x), R.hwr]
  have eA := R.hA a ha
  have eB := R.hA b hb
  have rA := R.rng a ha
  have hDiv := fun h => RDiv_ok (t := t) (k := k) op (b := wrapL t b) rA (R.dn a ha) (R.dm a ha) (fun hne => R.dq a b ha hne) h
  have hBits : ∀ (o : BitOp), op = o.str → ∀ h, callω E 24 [.int .i64 t, .str op, .int .i64 (wrapL t a), .int .i64 (wrapL t b)] h = .ok (.int .i64 (((o.nat (ub M a) (ub M b) : Nat) : Int).bmod M)) h := fun o ho h => by
    rw [ho, RBits_ok o R.B (fun z => R.hwr z), o.mod, ← R.B.hM, ub_sub hM R.sub64 a _ eA, ub_sub hM R.sub64 b _ eB]
  have hbw : wrapL t b % w = b % w := by
    have hd : (w : Int) ∣ (M : Int) := Int.natCast_dvd_natCast.2 R.dvd
    rw [eB, ← Int.emod_emod_of_dvd _ hd, Int.bmod_emod, Int.emod_emod_of_dvd _ hd]
  have hb0 := Int.emod_nonneg b (show (w : Int) ≠ 0 by omega)
  have hbl := Int.emod_lt_of_pos b (show (0 : Int) < w by omega)
  obtain ⟨n, hn⟩ : ∃ n : Nat, b % w = n := ⟨(b % w).toNat, by omega⟩
  have hnw : n < w := by omega
  have fS : ∀ i : Nat, ((wrapL t a * (2 ^ i : Nat)).bmod M + (wrapL t a * (2 ^ i : Nat)).bmod M).bmod M = (wrapL t a * (2 ^ (i + 1) : Nat)).bmod M := fun i => by
    rw [Int.bmod_add_bmod, Int.add_bmod_bmod, ← Int.mul_add]
    have : ((2 ^ i : Nat) : Int) + ((2 ^ i : Nat) : Int) = ((2 ^ (i + 1) : Nat) : Int) := by rw [Nat.pow_succ]; omega
    rw [this]
  have hShl : op = [60, 60] → ∀ h, callω E 25 [.int .i64 t, .str op, .int .i64 (wrapL t a), .int .i64 (wrapL t b)] h = .ok (.int .i64 ((a * (2 ^ n : Nat)).bmod M)) h := fun ho h => by
    have := RShift_ok R.B (op := op) (a := wrapL t a) (b := wrapL t b) (n := n) (f := fun i => (wrapL t a * (2 ^ i : Nat)).bmod M) (by rw [hbw, hn]) hnw (.inl ho) (fun _ i _ h => by rw [hW]; simp only [fS]) (fun e => by rw [ho] at e; cases e) (by show wrapL t a = _; rw [eA]; simp) h
    rw [this]
    have : (wrapL t a * ((2 ^ n : Nat) : Int)).bmod M = (a * ((2 ^ n : Nat) : Int)).bmod M := by rw [eA, Int.bmod_mul_bmod]
    simp only [this]
  have hShr : op = [62, 62] → ∀ h, callω E 25 [.int .i64 t, .str op, .int .i64 (wrapL t a), .int .i64 (wrapL t b)] h = .ok (.int .i64 (wrapL t a / (2 ^ n : Nat))) h := fun ho h => by
    exact RShift_ok R.B (op := op) (a := wrapL t a) (b := wrapL t b) (n := n) (f := fun i => wrapL t a / (2 ^ i : Nat)) (by rw [hbw, hn]) hnw (.inr ho) (fun e => by rw [ho] at e; cases e) (fun _ i _ => by
      have hp : (0 : Int) < ((2 ^ i : Nat) : Int) := by have := Nat.two_pow_pos i; omega
      refine ⟨?_, ?_⟩
      · generalize ((2 ^ i : Nat) : Int) = q at hp
        generalize wrapL t a = A at rA
        obtain ⟨x, y⟩ := rA
        constructor
        · rcases Int.le_total 0 A with h | h
          · have := Int.ediv_nonneg h (show (0 : Int) ≤ q by omega); omega
          · have h3 : A * q ≤ A * 1 := Int.mul_le_mul_of_nonpos_left h (by omega)
            have := Int.le_ediv_of_mul_le hp (show A * q ≤ A by omega)
            omega
        · rcases Int.le_total 0 A with h | h
          · have := Int.ediv_le_self q h; omega
          · have h5 := Int.ediv_le_ediv hp h; simp at h5; omega
      · show wrapL t a / ((2 ^ (i + 1) : Nat) : Int) = wrapL t a / ((2 ^ i : Nat) : Int) / 2
        rw [Int.ediv_ediv_of_nonneg (by omega)]
        have : ((2 ^ i : Nat) : Int) * 2 = ((2 ^ (i + 1) : Nat) : Int) := by rw [Nat.pow_succ]; omega
        rw [this]) (by show wrapL t a = wrapL t a / ((2 ^ 0 : Nat) : Int); simp) h
  have ht1 : (t = 1) = True ∨ ((t = 1) = False ∧ (t = 2) = True) := by
    rcases R.ty with e | e
    · exact .inl (eq_true e)
    · exact .inr ⟨eq_false (by omega), eq_true e⟩
  rw [call15 _ (by simp)]
  by_cases h0 : op = [43]
  · skip
    have hbin : binL t op a b = ((wrapL t a + wrapL t b).bmod M, 0) := by
      rw [R.ne op a b (by rw [h0]; decide) (by rw [h0]; decide), h0]; rw [R.B.add, eA, eB, Int.bmod_add_bmod, Int.add_bmod_bmod]
    rcases ht1 with t1 | ⟨t1, t2⟩
    · simp (maxSteps := 1000000) (implicitDefEqProofs := false) only [c15, t1, hWa, hWb, hW, eq_true h0, hbin, hone, hone', enter_eq, setAll_cons, setAll_nil, w_seq, w_reg, o_nil, o_plain, o_skip, o_done, p_assign, p_move, p_pick, pickA_true, pickA_false, p_extract, exA_tup, p_call, opvs_nil, opvs_cons, v_int, v_bool, v_str, v_tmp, evThen_ok, setDst_fset, setDst_none, seqA_normal, seqA_ret, seqA_exit, w_block, blockA_normal, blockA_ret, blockA_exit, w_cond, condA_true, condA_false, w_ret, w_skip, w_exit, w_scope, p_binOp, b_add, b_sub, b_mul, b_eql, b_neq, b_eqlS, b_neqS, b_lss, b_leq, b_gtr, b_geq, p_unOp, u_neg, u_not, c_int, lift_some', look_cons, look_nil, isWant_true, isWant_false, isWant_skipped, Option.some.injEq, Bool.true_eq_false, Bool.false_eq_true, after_ret, after_normal, res_tmp, res_nil, obind_some', get_fset, resOf_some, one_one, one_two, one_nil, Nat.reduceAdd, Nat.reduceLT, Nat.reduceEqDiff, ↓reduceIte, decide_true, decide_false, Bool.not_true, Bool.not_false, List.getElem?_cons_zero, List.getElem?_cons_succ, List.getElem?_nil]
    · simp (maxSteps := 1000000) (implicitDefEqProofs := false) only [c15, t1, t2, hWa, hWb, hW, eq_true h0, hbin, hone, hone', enter_eq, setAll_cons, setAll_nil, w_seq, w_reg, o_nil, o_plain, o_skip, o_done, p_assign, p_move, p_pick, pickA_true, pickA_false, p_extract, exA_tup, p_call, opvs_nil, opvs_cons, v_int, v_bool, v_str, v_tmp, evThen_ok, setDst_fset, setDst_none, seqA_normal, seqA_ret, seqA_exit, w_block, blockA_normal, blockA_ret, blockA_exit, w_cond, condA_true, condA_false, w_ret, w_skip, w_exit, w_scope, p_binOp, b_add, b_sub, b_mul, b_eql, b_neq, b_eqlS, b_neqS, b_lss, b_leq, b_gtr, b_geq, p_unOp, u_neg, u_not, c_int, lift_some', look_cons, look_nil, isWant_true, isWant_false, isWant_skipped, Option.some.injEq, Bool.true_eq_false, Bool.false_eq_true, after_ret, after_normal, res_tmp, res_nil, obind_some', get_fset, resOf_some, one_one, one_two, one_nil, Nat.reduceAdd, Nat.reduceLT, Nat.reduceEqDiff, ↓reduceIte, decide_true, decide_false, Bool.not_true, Bool.not_false, List.getElem?_cons_zero, List.getElem?_cons_succ, List.getElem?_nil]
  by_cases h1 : op = [45]
  · skip
    have hbin : binL t op a b = ((wrapL t a - wrapL t b).bmod M, 0) := by
      rw [R.ne op a b (by rw [h1]; decide) (by rw [h1]; decide), h1]; rw [R.sub, eA, eB, Int.bmod_sub_bmod, Int.sub_bmod_bmod]
    rcases ht1 with t1 | ⟨t1, t2⟩
    · simp (maxSteps := 1000000) (implicitDefEqProofs := false) only [c15, t1, hWa, hWb, hW, eq_false h0, eq_true h1, hbin, hone, hone', enter_eq, setAll_cons, setAll_nil, w_seq, w_reg, o_nil, o_plain, o_skip, o_done, p_assign, p_move, p_pick, pickA_true, pickA_false, p_extract, exA_tup, p_call, opvs_nil, opvs_cons, v_int, v_bool, v_str, v_tmp, evThen_ok, setDst_fset, setDst_none, seqA_normal, seqA_ret, seqA_exit, w_block, blockA_normal, blockA_ret, blockA_exit, w_cond, condA_true, condA_false, w_ret, w_skip, w_exit, w_scope, p_binOp, b_add, b_sub, b_mul, b_eql, b_neq, b_eqlS, b_neqS, b_lss, b_leq, b_gtr, b_geq, p_unOp, u_neg, u_not, c_int, lift_some', look_cons, look_nil, isWant_true, isWant_false, isWant_skipped, Option.some.injEq, Bool.true_eq_false, Bool.false_eq_true, after_ret, after_normal, res_tmp, res_nil, obind_some', get_fset, resOf_some, one_one, one_two, one_nil, Nat.reduceAdd, Nat.reduceLT, Nat.reduceEqDiff, ↓reduceIte, decide_true, decide_false, Bool.not_true, Bool.not_false, List.getElem?_cons_zero, List.getElem?_cons_succ, List.getElem?_nil]
    · simp (maxSteps := 1000000) (implicitDefEqProofs := false) only [c15, t1, t2, hWa, hWb, hW, eq_false h0, eq_true h1, hbin, hone, hone', enter_eq, setAll_cons, setAll_nil, w_seq, w_reg, o_nil, o_plain, o_skip, o_done, p_assign, p_move, p_pick, pickA_true, pickA_false, p_extract, exA_tup, p_call, opvs_nil, opvs_cons, v_int, v_bool, v_str, v_tmp, evThen_ok, setDst_fset, setDst_none, seqA_normal, seqA_ret, seqA_exit, w_block, blockA_normal, blockA_ret, blockA_exit, w_cond, condA_true, condA_false, w_ret, w_skip, w_exit, w_scope, p_binOp, b_add, b_sub, b_mul, b_eql, b_neq, b_eqlS, b_neqS, b_lss, b_leq, b_gtr, b_geq, p_unOp, u_neg, u_not, c_int, lift_some', look_cons, look_nil, isWant_true, isWant_false, isWant_skipped, Option.some.injEq, Bool.true_eq_false, Bool.false_eq_true, after_ret, after_normal, res_tmp, res_nil, obind_some', get_fset, resOf_some, one_one, one_two, one_nil, Nat.reduceAdd, Nat.reduceLT, Nat.reduceEqDiff, ↓reduceIte, decide_true, decide_false, Bool.not_true, Bool.not_false, List.getElem?_cons_zero, List.getElem?_cons_succ, List.getElem?_nil]
  by_cases h2 : op = [42]
  · skip
    have hbin : binL t op a b = ((wrapL t a * wrapL t b).bmod M, 0) := by
      rw [R.ne op a b (by rw [h2]; decide) (by rw [h2]; decide), h2]; rw [R.mul, eA, eB, Int.bmod_mul_bmod, Int.mul_bmod_bmod]
    rcases ht1 with t1 | ⟨t1, t2⟩
    · simp (maxSteps := 1000000) (implicitDefEqProofs := false) only [c15, t1, hWa, hWb, hW, eq_false h0, eq_false h1, eq_true h2, hbin, hone, hone', enter_eq, setAll_cons, setAll_nil, w_seq, w_reg, o_nil, o_plain, o_skip, o_done, p_assign, p_move, p_pick, pickA_true, pickA_false, p_extract, exA_tup, p_call, opvs_nil, opvs_cons, v_int, v_bool, v_str, v_tmp, evThen_ok, setDst_fset, setDst_none, seqA_normal, seqA_ret, seqA_exit, w_block, blockA_normal, blockA_ret, blockA_exit, w_cond, condA_true, condA_false, w_ret, w_skip, w_exit, w_scope, p_binOp, b_add, b_sub, b_mul, b_eql, b_neq, b_eqlS, b_neqS, b_lss, b_leq, b_gtr, b_geq, p_unOp, u_neg, u_not, c_int, lift_some', look_cons, look_nil, isWant_true, isWant_false, isWant_skipped, Option.some.injEq, Bool.true_eq_false, Bool.false_eq_true, after_ret, after_normal, res_tmp, res_nil, obind_some', get_fset, resOf_some, one_one, one_two, one_nil, Nat.reduceAdd, Nat.reduceLT, Nat.reduceEqDiff, ↓reduceIte, decide_true, decide_false, Bool.not_true, Bool.not_false, List.getElem?_cons_zero, List.getElem?_cons_succ, List.getElem?_nil]
    · simp (maxSteps := 1000000) (implicitDefEqProofs := false) only [c15, t1, t2, hWa, hWb, hW, eq_false h0, eq_false h1, eq_true h2, hbin, hone, hone', enter_eq, setAll_cons, setAll_nil, w_seq, w_reg, o_nil, o_plain, o_skip, o_done, p_assign, p_move, p_pick, pickA_true, pickA_false, p_extract, exA_tup, p_call, opvs_nil, opvs_cons, v_int, v_bool, v_str, v_tmp, evThen_ok, setDst_fset, setDst_none, seqA_normal, seqA_ret, seqA_exit, w_block, blockA_normal, blockA_ret, blockA_exit, w_cond, condA_true, condA_false, w_ret, w_skip, w_exit, w_scope, p_binOp, b_add, b_sub, b_mul, b_eql, b_neq, b_eqlS, b_neqS, b_lss, b_leq, b_gtr, b_geq, p_unOp, u_neg, u_not, c_int, lift_some', look_cons, look_nil, isWant_true, isWant_false, isWant_skipped, Option.some.injEq, Bool.true_eq_false, Bool.false_eq_true, after_ret, after_normal, res_tmp, res_nil, obind_some', get_fset, resOf_some, one_one, one_two, one_nil, Nat.reduceAdd, Nat.reduceLT, Nat.reduceEqDiff, ↓reduceIte, decide_true, decide_false, Bool.not_true, Bool.not_false, List.getElem?_cons_zero, List.getElem?_cons_succ, List.getElem?_nil]
  by_cases h3 : op = [47]
  · skip
    have hbin := R.div op a b (.inl h3)
    rcases ht1 with t1 | ⟨t1, t2⟩
    · simp (maxSteps := 1000000) (implicitDefEqProofs := false) only [c15, t1, hWa, hWb, hW, eq_false h0, eq_false h1, eq_false h2, eq_true h3, hbin, hDiv, hone, hone', enter_eq, setAll_cons, setAll_nil, w_seq, w_reg, o_nil, o_plain, o_skip, o_done, p_assign, p_move, p_pick, pickA_true, pickA_false, p_extract, exA_tup, p_call, opvs_nil, opvs_cons, v_int, v_bool, v_str, v_tmp, evThen_ok, setDst_fset, setDst_none, seqA_normal, seqA_ret, seqA_exit, w_block, blockA_normal, blockA_ret, blockA_exit, w_cond, condA_true, condA_false, w_ret, w_skip, w_exit, w_scope, p_binOp, b_add, b_sub, b_mul, b_eql, b_neq, b_eqlS, b_neqS, b_lss, b_leq, b_gtr, b_geq, p_unOp, u_neg, u_not, c_int, lift_some', look_cons, look_nil, isWant_true, isWant_false, isWant_skipped, Option.some.injEq, Bool.true_eq_false, Bool.false_eq_true, after_ret, after_normal, res_tmp, res_nil, obind_some', get_fset, resOf_some, one_one, one_two, one_nil, Nat.reduceAdd, Nat.reduceLT, Nat.reduceEqDiff, ↓reduceIte, decide_true, decide_false, Bool.not_true, Bool.not_false, List.getElem?_cons_zero, List.getElem?_cons_succ, List.getElem?_nil]
    · simp (maxSteps := 1000000) (implicitDefEqProofs := false) only [c15, t1, t2, hWa, hWb, hW, eq_false h0, eq_false h1, eq_false h2, eq_true h3, hbin, hDiv, hone, hone', enter_eq, setAll_cons, setAll_nil, w_seq, w_reg, o_nil, o_plain, o_skip, o_done, p_assign, p_move, p_pick, pickA_true, pickA_false, p_extract, exA_tup, p_call, opvs_nil, opvs_cons, v_int, v_bool, v_str, v_tmp, evThen_ok, setDst_fset, setDst_none, seqA_normal, seqA_ret, seqA_exit, w_block, blockA_normal, blockA_ret, blockA_exit, w_cond, condA_true, condA_false, w_ret, w_skip, w_exit, w_scope, p_binOp, b_add, b_sub, b_mul, b_eql, b_neq, b_eqlS, b_neqS, b_lss, b_leq, b_gtr, b_geq, p_unOp, u_neg, u_not, c_int, lift_some', look_cons, look_nil, isWant_true, isWant_false, isWant_skipped, Option.some.injEq, Bool.true_eq_false, Bool.false_eq_true, after_ret, after_normal, res_tmp, res_nil, obind_some', get_fset, resOf_some, one_one, one_two, one_nil, Nat.reduceAdd, Nat.reduceLT, Nat.reduceEqDiff, ↓reduceIte, decide_true, decide_false, Bool.not_true, Bool.not_false, List.getElem?_cons_zero, List.getElem?_cons_succ, List.getElem?_nil]
  by_cases h4 : op = [37]
  · skip
    have hbin := R.div op a b (.inr h4)
    rcases ht1 with t1 | ⟨t1, t2⟩
    · simp (maxSteps := 1000000) (implicitDefEqProofs := false) only [c15, t1, hWa, hWb, hW, eq_false h0, eq_false h1, eq_false h2, eq_false h3, eq_true h4, hbin, hDiv, hone, hone', enter_eq, setAll_cons, setAll_nil, w_seq, w_reg, o_nil, o_plain, o_skip, o_done, p_assign, p_move, p_pick, pickA_true, pickA_false, p_extract, exA_tup, p_call, opvs_nil, opvs_cons, v_int, v_bool, v_str, v_tmp, evThen_ok, setDst_fset, setDst_none, seqA_normal, seqA_ret, seqA_exit, w_block, blockA_normal, blockA_ret, blockA_exit, w_cond, condA_true, condA_false, w_ret, w_skip, w_exit, w_scope, p_binOp, b_add, b_sub, b_mul, b_eql, b_neq, b_eqlS, b_neqS, b_lss, b_leq, b_gtr, b_geq, p_unOp, u_neg, u_not, c_int, lift_some', look_cons, look_nil, isWant_true, isWant_false, isWant_skipped, Option.some.injEq, Bool.true_eq_false, Bool.false_eq_true, after_ret, after_normal, res_tmp, res_nil, obind_some', get_fset, resOf_some, one_one, one_two, one_nil, Nat.reduceAdd, Nat.reduceLT, Nat.reduceEqDiff, ↓reduceIte, decide_true, decide_false, Bool.not_true, Bool.not_false, List.getElem?_cons_zero, List.getElem?_cons_succ, List.getElem?_nil]
    · simp (maxSteps := 1000000) (implicitDefEqProofs := false) only [c15, t1, t2, hWa, hWb, hW, eq_false h0, eq_false h1, eq_false h2, eq_false h3, eq_true h4, hbin, hDiv, hone, hone', enter_eq, setAll_cons, setAll_nil, w_seq, w_reg, o_nil, o_plain, o_skip, o_done, p_assign, p_move, p_pick, pickA_true, pickA_false, p_extract, exA_tup, p_call, opvs_nil, opvs_cons, v_int, v_bool, v_str, v_tmp, evThen_ok, setDst_fset, setDst_none, seqA_normal, seqA_ret, seqA_exit, w_block, blockA_normal, blockA_ret, blockA_exit, w_cond, condA_true, condA_false, w_ret, w_skip, w_exit, w_scope, p_binOp, b_add, b_sub, b_mul, b_eql, b_neq, b_eqlS, b_neqS, b_lss, b_leq, b_gtr, b_geq, p_unOp, u_neg, u_not, c_int, lift_some', look_cons, look_nil, isWant_true, isWant_false, isWant_skipped, Option.some.injEq, Bool.true_eq_false, Bool.false_eq_true, after_ret, after_normal, res_tmp, res_nil, obind_some', get_fset, resOf_some, one_one, one_two, one_nil, Nat.reduceAdd, Nat.reduceLT, Nat.reduceEqDiff, ↓reduceIte, decide_true, decide_false, Bool.not_true, Bool.not_false, List.getElem?_cons_zero, List.getElem?_cons_succ, List.getElem?_nil]
  by_cases h5 : op = [38]
  · skip
    have hbin : binL t op a b = (((ub M a &&& ub M b : Nat) : Int).bmod M, 0) := by
      rw [R.ne op a b h3 h4, h5]; rw [R.B.band]
    have hcall := hBits .band h5
    simp only [BitOp.nat] at hcall
    rcases ht1 with t1 | ⟨t1, t2⟩
    · simp (maxSteps := 1000000) (implicitDefEqProofs := false) only [c15, t1, hWa, hWb, hW, eq_false h0, eq_false h1, eq_false h2, eq_false h3, eq_false h4, eq_true h5, hbin, hcall, hone, hone', enter_eq, setAll_cons, setAll_nil, w_seq, w_reg, o_nil, o_plain, o_skip, o_done, p_assign, p_move, p_pick, pickA_true, pickA_false, p_extract, exA_tup, p_call, opvs_nil, opvs_cons, v_int, v_bool, v_str, v_tmp, evThen_ok, setDst_fset, setDst_none, seqA_normal, seqA_ret, seqA_exit, w_block, blockA_normal, blockA_ret, blockA_exit, w_cond, condA_true, condA_false, w_ret, w_skip, w_exit, w_scope, p_binOp, b_add, b_sub, b_mul, b_eql, b_neq, b_eqlS, b_neqS, b_lss, b_leq, b_gtr, b_geq, p_unOp, u_neg, u_not, c_int, lift_some', look_cons, look_nil, isWant_true, isWant_false, isWant_skipped, Option.some.injEq, Bool.true_eq_false, Bool.false_eq_true, after_ret, after_normal, res_tmp, res_nil, obind_some', get_fset, resOf_some, one_one, one_two, one_nil, Nat.reduceAdd, Nat.reduceLT, Nat.reduceEqDiff, ↓reduceIte, decide_true, decide_false, Bool.not_true, Bool.not_false, List.getElem?_cons_zero, List.getElem?_cons_succ, List.getElem?_nil]
    · simp (maxSteps := 1000000) (implicitDefEqProofs := false) only [c15, t1, t2, hWa, hWb, hW, eq_false h0, eq_false h1, eq_false h2, eq_false h3, eq_false h4, eq_true h5, hbin, hcall, hone, hone', enter_eq, setAll_cons, setAll_nil, w_seq, w_reg, o_nil, o_plain, o_skip, o_done, p_assign, p_move, p_pick, pickA_true, pickA_false, p_extract, exA_tup, p_call, opvs_nil, opvs_cons, v_int, v_bool, v_str, v_tmp, evThen_ok, setDst_fset, setDst_none, seqA_normal, seqA_ret, seqA_exit, w_block, blockA_normal, blockA_ret, blockA_exit, w_cond, condA_true, condA_false, w_ret, w_skip, w_exit, w_scope, p_binOp, b_add, b_sub, b_mul, b_eql, b_neq, b_eqlS, b_neqS, b_lss, b_leq, b_gtr, b_geq, p_unOp, u_neg, u_not, c_int, lift_some', look_cons, look_nil, isWant_true, isWant_false, isWant_skipped, Option.some.injEq, Bool.true_eq_false, Bool.false_eq_true, after_ret, after_normal, res_tmp, res_nil, obind_some', get_fset, resOf_some, one_one, one_two, one_nil, Nat.reduceAdd, Nat.reduceLT, Nat.reduceEqDiff, ↓reduceIte, decide_true, decide_false, Bool.not_true, Bool.not_false, List.getElem?_cons_zero, List.getElem?_cons_succ, List.getElem?_nil]
  by_cases h6 : op = [124]
  · skip
    have hbin : binL t op a b = (((ub M a ||| ub M b : Nat) : Int).bmod M, 0) := by
      rw [R.ne op a b h3 h4, h6]; rw [R.B.bor]
    have hcall := hBits .bor h6
    simp only [BitOp.nat] at hcall
    rcases ht1 with t1 | ⟨t1, t2⟩
    · simp (maxSteps := 1000000) (implicitDefEqProofs := false) only [c15, t1, hWa, hWb, hW, eq_false h0, eq_false h1, eq_false h2, eq_false h3, eq_false h4, eq_false h5, eq_true h6, hbin, hcall, hone, hone', enter_eq, setAll_cons, setAll_nil, w_seq, w_reg, o_nil, o_plain, o_skip, o_done, p_assign, p_move, p_pick, pickA_true, pickA_false, p_extract, exA_tup, p_call, opvs_nil, opvs_cons, v_int, v_bool, v_str, v_tmp, evThen_ok, setDst_fset, setDst_none, seqA_normal, seqA_ret, seqA_exit, w_block, blockA_normal, blockA_ret, blockA_exit, w_cond, condA_true, condA_false, w_ret, w_skip, w_exit, w_scope, p_binOp, b_add, b_sub, b_mul, b_eql, b_neq, b_eqlS, b_neqS, b_lss, b_leq, b_gtr, b_geq, p_unOp, u_neg, u_not, c_int, lift_some', look_cons, look_nil, isWant_true, isWant_false, isWant_skipped, Option.some.injEq, Bool.true_eq_false, Bool.false_eq_true, after_ret, after_normal, res_tmp, res_nil, obind_some', get_fset, resOf_some, one_one, one_two, one_nil, Nat.reduceAdd, Nat.reduceLT, Nat.reduceEqDiff, ↓reduceIte, decide_true, decide_false, Bool.not_true, Bool.not_false, List.getElem?_cons_zero, List.getElem?_cons_succ, List.getElem?_nil]
    · simp (maxSteps := 1000000) (implicitDefEqProofs := false) only [c15, t1, t2, hWa, hWb, hW, eq_false h0, eq_false h1, eq_false h2, eq_false h3, eq_false h4, eq_false h5, eq_true h6, hbin, hcall, hone, hone', enter_eq, setAll_cons, setAll_nil, w_seq, w_reg, o_nil, o_plain, o_skip, o_done, p_assign, p_move, p_pick, pickA_true, pickA_false, p_extract, exA_tup, p_call, opvs_nil, opvs_cons, v_int, v_bool, v_str, v_tmp, evThen_ok, setDst_fset, setDst_none, seqA_normal, seqA_ret, seqA_exit, w_block, blockA_normal, blockA_ret, blockA_exit, w_cond, condA_true, condA_false, w_ret, w_skip, w_exit, w_scope, p_binOp, b_add, b_sub, b_mul, b_eql, b_neq, b_eqlS, b_neqS, b_lss, b_leq, b_gtr, b_geq, p_unOp, u_neg, u_not, c_int, lift_some', look_cons, look_nil, isWant_true, isWant_false, isWant_skipped, Option.some.injEq, Bool.true_eq_false, Bool.false_eq_true, after_ret, after_normal, res_tmp, res_nil, obind_some', get_fset, resOf_some, one_one, one_two, one_nil, Nat.reduceAdd, Nat.reduceLT, Nat.reduceEqDiff, ↓reduceIte, decide_true, decide_false, Bool.not_true, Bool.not_false, List.getElem?_cons_zero, List.getElem?_cons_succ, List.getElem?_nil]
  by_cases h7 : op = [94]
  · skip
    have hbin : binL t op a b = (((ub M a ^^^ ub M b : Nat) : Int).bmod M, 0) := by
      rw [R.ne op a b h3 h4, h7]; rw [R.B.bxor]
    have hcall := hBits .bxor h7
    simp only [BitOp.nat] at hcall
    rcases ht1 with t1 | ⟨t1, t2⟩
    · simp (maxSteps := 1000000) (implicitDefEqProofs := false) only [c15, t1, hWa, hWb, hW, eq_false h0, eq_false h1, eq_false h2, eq_false h3, eq_false h4, eq_false h5, eq_false h6, eq_true h7, hbin, hcall, hone, hone', enter_eq, setAll_cons, setAll_nil, w_seq, w_reg, o_nil, o_plain, o_skip, o_done, p_assign, p_move, p_pick, pickA_true, pickA_false, p_extract, exA_tup, p_call, opvs_nil, opvs_cons, v_int, v_bool, v_str, v_tmp, evThen_ok, setDst_fset, setDst_none, seqA_normal, seqA_ret, seqA_exit, w_block, blockA_normal, blockA_ret, blockA_exit, w_cond, condA_true, condA_false, w_ret, w_skip, w_exit, w_scope, p_binOp, b_add, b_sub, b_mul, b_eql, b_neq, b_eqlS, b_neqS, b_lss, b_leq, b_gtr, b_geq, p_unOp, u_neg, u_not, c_int, lift_some', look_cons, look_nil, isWant_true, isWant_false, isWant_skipped, Option.some.injEq, Bool.true_eq_false, Bool.false_eq_true, after_ret, after_normal, res_tmp, res_nil, obind_some', get_fset, resOf_some, one_one, one_two, one_nil, Nat.reduceAdd, Nat.reduceLT, Nat.reduceEqDiff, ↓reduceIte, decide_true, decide_false, Bool.not_true, Bool.not_false, List.getElem?_cons_zero, List.getElem?_cons_succ, List.getElem?_nil]
    · simp (maxSteps := 1000000) (implicitDefEqProofs := false) only [c15, t1, t2, hWa, hWb, hW, eq_false h0, eq_false h1, eq_false h2, eq_false h3, eq_false h4, eq_false h5, eq_false h6, eq_true h7, hbin, hcall, hone, hone', enter_eq, setAll_cons, setAll_nil, w_seq, w_reg, o_nil, o_plain, o_skip, o_done, p_assign, p_move, p_pick, pickA_true, pickA_false, p_extract, exA_tup, p_call, opvs_nil, opvs_cons, v_int, v_bool, v_str, v_tmp, evThen_ok, setDst_fset, setDst_none, seqA_normal, seqA_ret, seqA_exit, w_block, blockA_normal, blockA_ret, blockA_exit, w_cond, condA_true, condA_false, w_ret, w_skip, w_exit, w_scope, p_binOp, b_add, b_sub, b_mul, b_eql, b_neq, b_eqlS, b_neqS, b_lss, b_leq, b_gtr, b_geq, p_unOp, u_neg, u_not, c_int, lift_some', look_cons, look_nil, isWant_true, isWant_false, isWant_skipped, Option.some.injEq, Bool.true_eq_false, Bool.false_eq_true, after_ret, after_normal, res_tmp, res_nil, obind_some', get_fset, resOf_some, one_one, one_two, one_nil, Nat.reduceAdd, Nat.reduceLT, Nat.reduceEqDiff, ↓reduceIte, decide_true, decide_false, Bool.not_true, Bool.not_false, List.getElem?_cons_zero, List.getElem?_cons_succ, List.getElem?_nil]
  by_cases h8 : op = [60, 60]
  · skip
    have hbin : binL t op a b = ((a * (2 ^ n : Nat)).bmod M, 0) := by
      rw [R.ne op a b h3 h4, h8]; rw [R.B.shl a n b hnw hn]
    have hcall := hShl h8
    rcases ht1 with t1 | ⟨t1, t2⟩
    · simp (maxSteps := 1000000) (implicitDefEqProofs := false) only [c15, t1, hWa, hWb, hW, eq_false h0, eq_false h1, eq_false h2, eq_false h3, eq_false h4, eq_false h5, eq_false h6, eq_false h7, eq_true h8, hbin, hcall, hone, hone', enter_eq, setAll_cons, setAll_nil, w_seq, w_reg, o_nil, o_plain, o_skip, o_done, p_assign, p_move, p_pick, pickA_true, pickA_false, p_extract, exA_tup, p_call, opvs_nil, opvs_cons, v_int, v_bool, v_str, v_tmp, evThen_ok, setDst_fset, setDst_none, seqA_normal, seqA_ret, seqA_exit, w_block, blockA_normal, blockA_ret, blockA_exit, w_cond, condA_true, condA_false, w_ret, w_skip, w_exit, w_scope, p_binOp, b_add, b_sub, b_mul, b_eql, b_neq, b_eqlS, b_neqS, b_lss, b_leq, b_gtr, b_geq, p_unOp, u_neg, u_not, c_int, lift_some', look_cons, look_nil, isWant_true, isWant_false, isWant_skipped, Option.some.injEq, Bool.true_eq_false, Bool.false_eq_true, after_ret, after_normal, res_tmp, res_nil, obind_some', get_fset, resOf_some, one_one, one_two, one_nil, Nat.reduceAdd, Nat.reduceLT, Nat.reduceEqDiff, ↓reduceIte, decide_true, decide_false, Bool.not_true, Bool.not_false, List.getElem?_cons_zero, List.getElem?_cons_succ, List.getElem?_nil]
    · simp (maxSteps := 1000000) (implicitDefEqProofs := false) only [c15, t1, t2, hWa, hWb, hW, eq_false h0, eq_false h1, eq_false h2, eq_false h3, eq_false h4, eq_false h5, eq_false h6, eq_false h7, eq_true h8, hbin, hcall, hone, hone', enter_eq, setAll_cons, setAll_nil, w_seq, w_reg, o_nil, o_plain, o_skip, o_done, p_assign, p_move, p_pick, pickA_true, pickA_false, p_extract, exA_tup, p_call, opvs_nil, opvs_cons, v_int, v_bool, v_str, v_tmp, evThen_ok, setDst_fset, setDst_none, seqA_normal, seqA_ret, seqA_exit, w_block, blockA_normal, blockA_ret, blockA_exit, w_cond, condA_true, condA_false, w_ret, w_skip, w_exit, w_scope, p_binOp, b_add, b_sub, b_mul, b_eql, b_neq, b_eqlS, b_neqS, b_lss, b_leq, b_gtr, b_geq, p_unOp, u_neg, u_not, c_int, lift_some', look_cons, look_nil, isWant_true, isWant_false, isWant_skipped, Option.some.injEq, Bool.true_eq_false, Bool.false_eq_true, after_ret, after_normal, res_tmp, res_nil, obind_some', get_fset, resOf_some, one_one, one_two, one_nil, Nat.reduceAdd, Nat.reduceLT, Nat.reduceEqDiff, ↓reduceIte, decide_true, decide_false, Bool.not_true, Bool.not_false, List.getElem?_cons_zero, List.getElem?_cons_succ, List.getElem?_nil]
  by_cases h9 : op = [62, 62]
  · skip
    have hbin : binL t op a b = (wrapL t a / (2 ^ n : Nat), 0) := by
      rw [R.ne op a b h3 h4, h9]; rw [R.B.shr a n b hnw hn]
    have hcall := hShr h9
    rcases ht1 with t1 | ⟨t1, t2⟩
    · simp (maxSteps := 1000000) (implicitDefEqProofs := false) only [c15, t1, hWa, hWb, hW, eq_false h0, eq_false h1, eq_false h2, eq_false h3, eq_false h4, eq_false h5, eq_false h6, eq_false h7, eq_false h8, eq_true h9, hbin, hcall, hone, hone', enter_eq, setAll_cons, setAll_nil, w_seq, w_reg, o_nil, o_plain, o_skip, o_done, p_assign, p_move, p_pick, pickA_true, pickA_false, p_extract, exA_tup, p_call, opvs_nil, opvs_cons, v_int, v_bool, v_str, v_tmp, evThen_ok, setDst_fset, setDst_none, seqA_normal, seqA_ret, seqA_exit, w_block, blockA_normal, blockA_ret, blockA_exit, w_cond, condA_true, condA_false, w_ret, w_skip, w_exit, w_scope, p_binOp, b_add, b_sub, b_mul, b_eql, b_neq, b_eqlS, b_neqS, b_lss, b_leq, b_gtr, b_geq, p_unOp, u_neg, u_not, c_int, lift_some', look_cons, look_nil, isWant_true, isWant_false, isWant_skipped, Option.some.injEq, Bool.true_eq_false, Bool.false_eq_true, after_ret, after_normal, res_tmp, res_nil, obind_some', get_fset, resOf_some, one_one, one_two, one_nil, Nat.reduceAdd, Nat.reduceLT, Nat.reduceEqDiff, ↓reduceIte, decide_true, decide_false, Bool.not_true, Bool.not_false, List.getElem?_cons_zero, List.getElem?_cons_succ, List.getElem?_nil]
    · simp (maxSteps := 1000000) (implicitDefEqProofs := false) only [c15, t1, t2, hWa, hWb, hW, eq_false h0, eq_false h1, eq_false h2, eq_false h3, eq_false h4, eq_false h5, eq_false h6, eq_false h7, eq_false h8, eq_true h9, hbin, hcall, hone, hone', enter_eq, setAll_cons, setAll_nil, w_seq, w_reg, o_nil, o_plain, o_skip, o_done, p_assign, p_move, p_pick, pickA_true, pickA_false, p_extract, exA_tup, p_call, opvs_nil, opvs_cons, v_int, v_bool, v_str, v_tmp, evThen_ok, setDst_fset, setDst_none, seqA_normal, seqA_ret, seqA_exit, w_block, blockA_normal, blockA_ret, blockA_exit, w_cond, condA_true, condA_false, w_ret, w_skip, w_exit, w_scope, p_binOp, b_add, b_sub, b_mul, b_eql, b_neq, b_eqlS, b_neqS, b_lss, b_leq, b_gtr, b_geq, p_unOp, u_neg, u_not, c_int, lift_some', look_cons, look_nil, isWant_true, isWant_false, isWant_skipped, Option.some.injEq, Bool.true_eq_false, Bool.false_eq_true, after_ret, after_normal, res_tmp, res_nil, obind_some', get_fset, resOf_some, one_one, one_two, one_nil, Nat.reduceAdd, Nat.reduceLT, Nat.reduceEqDiff, ↓reduceIte, decide_true, decide_false, Bool.not_true, Bool.not_false, List.getElem?_cons_zero, List.getElem?_cons_succ, List.getElem?_nil]
  by_cases h10 : op = [61, 61]
  · skip
    have hbin : binL t op a b = (if wrapL t a = wrapL t b then 1 else 0, 0) := by
      rw [R.ne op a b h3 h4, h10]; rw [oeq]
    rcases ht1 with t1 | ⟨t1, t2⟩
    · simp (maxSteps := 1000000) (implicitDefEqProofs := false) only [c15, t1, hWa, hWb, hW, eq_false h0, eq_false h1, eq_false h2, eq_false h3, eq_false h4, eq_false h5, eq_false h6, eq_false h7, eq_false h8, eq_false h9, eq_true h10, hbin, hone, hone', enter_eq, setAll_cons, setAll_nil, w_seq, w_reg, o_nil, o_plain, o_skip, o_done, p_assign, p_move, p_pick, pickA_true, pickA_false, p_extract, exA_tup, p_call, opvs_nil, opvs_cons, v_int, v_bool, v_str, v_tmp, evThen_ok, setDst_fset, setDst_none, seqA_normal, seqA_ret, seqA_exit, w_block, blockA_normal, blockA_ret, blockA_exit, w_cond, condA_true, condA_false, w_ret, w_skip, w_exit, w_scope, p_binOp, b_add, b_sub, b_mul, b_eql, b_neq, b_eqlS, b_neqS, b_lss, b_leq, b_gtr, b_geq, p_unOp, u_neg, u_not, c_int, lift_some', look_cons, look_nil, isWant_true, isWant_false, isWant_skipped, Option.some.injEq, Bool.true_eq_false, Bool.false_eq_true, after_ret, after_normal, res_tmp, res_nil, obind_some', get_fset, resOf_some, one_one, one_two, one_nil, Nat.reduceAdd, Nat.reduceLT, Nat.reduceEqDiff, ↓reduceIte, decide_true, decide_false, Bool.not_true, Bool.not_false, List.getElem?_cons_zero, List.getElem?_cons_succ, List.getElem?_nil]
    · simp (maxSteps := 1000000) (implicitDefEqProofs := false) only [c15, t1, t2, hWa, hWb, hW, eq_false h0, eq_false h1, eq_false h2, eq_false h3, eq_false h4, eq_false h5, eq_false h6, eq_false h7, eq_false h8, eq_false h9, eq_true h10, hbin, hone, hone', enter_eq, setAll_cons, setAll_nil, w_seq, w_reg, o_nil, o_plain, o_skip, o_done, p_assign, p_move, p_pick, pickA_true, pickA_false, p_extract, exA_tup, p_call, opvs_nil, opvs_cons, v_int, v_bool, v_str, v_tmp, evThen_ok, setDst_fset, setDst_none, seqA_normal, seqA_ret, seqA_exit, w_block, blockA_normal, blockA_ret, blockA_exit, w_cond, condA_true, condA_false, w_ret, w_skip, w_exit, w_scope, p_binOp, b_add, b_sub, b_mul, b_eql, b_neq, b_eqlS, b_neqS, b_lss, b_leq, b_gtr, b_geq, p_unOp, u_neg, u_not, c_int, lift_some', look_cons, look_nil, isWant_true, isWant_false, isWant_skipped, Option.some.injEq, Bool.true_eq_false, Bool.false_eq_true, after_ret, after_normal, res_tmp, res_nil, obind_some', get_fset, resOf_some, one_one, one_two, one_nil, Nat.reduceAdd, Nat.reduceLT, Nat.reduceEqDiff, ↓reduceIte, decide_true, decide_false, Bool.not_true, Bool.not_false, List.getElem?_cons_zero, List.getElem?_cons_succ, List.getElem?_nil]
  by_cases h11 : op = [33, 61]
  · skip
    have hbin : binL t op a b = (if wrapL t a = wrapL t b then 0 else 1, 0) := by
      rw [R.ne op a b h3 h4, h11]; rw [one']
    rcases ht1 with t1 | ⟨t1, t2⟩
    · simp (maxSteps := 1000000) (implicitDefEqProofs := false) only [c15, t1, hWa, hWb, hW, eq_false h0, eq_false h1, eq_false h2, eq_false h3, eq_false h4, eq_false h5, eq_false h6, eq_false h7, eq_false h8, eq_false h9, eq_false h10, eq_true h11, hbin, hone, hone', enter_eq, setAll_cons, setAll_nil, w_seq, w_reg, o_nil, o_plain, o_skip, o_done, p_assign, p_move, p_pick, pickA_true, pickA_false, p_extract, exA_tup, p_call, opvs_nil, opvs_cons, v_int, v_bool, v_str, v_tmp, evThen_ok, setDst_fset, setDst_none, seqA_normal, seqA_ret, seqA_exit, w_block, blockA_normal, blockA_ret, blockA_exit, w_cond, condA_true, condA_false, w_ret, w_skip, w_exit, w_scope, p_binOp, b_add, b_sub, b_mul, b_eql, b_neq, b_eqlS, b_neqS, b_lss, b_leq, b_gtr, b_geq, p_unOp, u_neg, u_not, c_int, lift_some', look_cons, look_nil, isWant_true, isWant_false, isWant_skipped, Option.some.injEq, Bool.true_eq_false, Bool.false_eq_true, after_ret, after_normal, res_tmp, res_nil, obind_some', get_fset, resOf_some, one_one, one_two, one_nil, Nat.reduceAdd, Nat.reduceLT, Nat.reduceEqDiff, ↓reduceIte, decide_true, decide_false, Bool.not_true, Bool.not_false, List.getElem?_cons_zero, List.getElem?_cons_succ, List.getElem?_nil]
    · simp (maxSteps := 1000000) (implicitDefEqProofs := false) only [c15, t1, t2, hWa, hWb, hW, eq_false h0, eq_false h1, eq_false h2, eq_false h3, eq_false h4, eq_false h5, eq_false h6, eq_false h7, eq_false h8, eq_false h9, eq_false h10, eq_true h11, hbin, hone, hone', enter_eq, setAll_cons, setAll_nil, w_seq, w_reg, o_nil, o_plain, o_skip, o_done, p_assign, p_move, p_pick, pickA_true, pickA_false, p_extract, exA_tup, p_call, opvs_nil, opvs_cons, v_int, v_bool, v_str, v_tmp, evThen_ok, setDst_fset, setDst_none, seqA_normal, seqA_ret, seqA_exit, w_block, blockA_normal, blockA_ret, blockA_exit, w_cond, condA_true, condA_false, w_ret, w_skip, w_exit, w_scope, p_binOp, b_add, b_sub, b_mul, b_eql, b_neq, b_eqlS, b_neqS, b_lss, b_leq, b_gtr, b_geq, p_unOp, u_neg, u_not, c_int, lift_some', look_cons, look_nil, isWant_true, isWant_false, isWant_skipped, Option.some.injEq, Bool.true_eq_false, Bool.false_eq_true, after_ret, after_normal, res_tmp, res_nil, obind_some', get_fset, resOf_some, one_one, one_two, one_nil, Nat.reduceAdd, Nat.reduceLT, Nat.reduceEqDiff, ↓reduceIte, decide_true, decide_false, Bool.not_true, Bool.not_false, List.getElem?_cons_zero, List.getElem?_cons_succ, List.getElem?_nil]
  by_cases h12 : op = [60]
  · skip
    have hbin : binL t op a b = (if wrapL t a < wrapL t b then 1 else 0, 0) := by
      rw [R.ne op a b h3 h4, h12]; rw [olt]
    rcases ht1 with t1 | ⟨t1, t2⟩
    · simp (maxSteps := 1000000) (implicitDefEqProofs := false) only [c15, t1, hWa, hWb, hW, eq_false h0, eq_false h1, eq_false h2, eq_false h3, eq_false h4, eq_false h5, eq_false h6, eq_false h7, eq_false h8, eq_false h9, eq_false h10, eq_false h11, eq_true h12, hbin, hone, hone', enter_eq, setAll_cons, setAll_nil, w_seq, w_reg, o_nil, o_plain, o_skip, o_done, p_assign, p_move, p_pick, pickA_true, pickA_false, p_extract, exA_tup, p_call, opvs_nil, opvs_cons, v_int, v_bool, v_str, v_tmp, evThen_ok, setDst_fset, setDst_none, seqA_normal, seqA_ret, seqA_exit, w_block, blockA_normal, blockA_ret, blockA_exit, w_cond, condA_true, condA_false, w_ret, w_skip, w_exit, w_scope, p_binOp, b_add, b_sub, b_mul, b_eql, b_neq, b_eqlS, b_neqS, b_lss, b_leq, b_gtr, b_geq, p_unOp, u_neg, u_not, c_int, lift_some', look_cons, look_nil, isWant_true, isWant_false, isWant_skipped, Option.some.injEq, Bool.true_eq_false, Bool.false_eq_true, after_ret, after_normal, res_tmp, res_nil, obind_some', get_fset, resOf_some, one_one, one_two, one_nil, Nat.reduceAdd, Nat.reduceLT, Nat.reduceEqDiff, ↓reduceIte, decide_true, decide_false, Bool.not_true, Bool.not_false, List.getElem?_cons_zero, List.getElem?_cons_succ, List.getElem?_nil]
    · simp (maxSteps := 1000000) (implicitDefEqProofs := false) only [c15, t1, t2, hWa, hWb, hW, eq_false h0, eq_false h1, eq_false h2, eq_false h3, eq_false h4, eq_false h5, eq_false h6, eq_false h7, eq_false h8, eq_false h9, eq_false h10, eq_false h11, eq_true h12, hbin, hone, hone', enter_eq, setAll_cons, setAll_nil, w_seq, w_reg, o_nil, o_plain, o_skip, o_done, p_assign, p_move, p_pick, pickA_true, pickA_false, p_extract, exA_tup, p_call, opvs_nil, opvs_cons, v_int, v_bool, v_str, v_tmp, evThen_ok, setDst_fset, setDst_none, seqA_normal, seqA_ret, seqA_exit, w_block, blockA_normal, blockA_ret, blockA_exit, w_cond, condA_true, condA_false, w_ret, w_skip, w_exit, w_scope, p_binOp, b_add, b_sub, b_mul, b_eql, b_neq, b_eqlS, b_neqS, b_lss, b_leq, b_gtr, b_geq, p_unOp, u_neg, u_not, c_int, lift_some', look_cons, look_nil, isWant_true, isWant_false, isWant_skipped, Option.some.injEq, Bool.true_eq_false, Bool.false_eq_true, after_ret, after_normal, res_tmp, res_nil, obind_some', get_fset, resOf_some, one_one, one_two, one_nil, Nat.reduceAdd, Nat.reduceLT, Nat.reduceEqDiff, ↓reduceIte, decide_true, decide_false, Bool.not_true, Bool.not_false, List.getElem?_cons_zero, List.getElem?_cons_succ, List.getElem?_nil]
  by_cases h13 : op = [60, 61]
  · skip
    have hbin : binL t op a b = (if wrapL t a ≤ wrapL t b then 1 else 0, 0) := by
      rw [R.ne op a b h3 h4, h13]; rw [ole]
    rcases ht1 with t1 | ⟨t1, t2⟩
    · simp (maxSteps := 1000000) (implicitDefEqProofs := false) only [c15, t1, hWa, hWb, hW, eq_false h0, eq_false h1, eq_false h2, eq_false h3, eq_false h4, eq_false h5, eq_false h6, eq_false h7, eq_false h8, eq_false h9, eq_false h10, eq_false h11, eq_false h12, eq_true h13, hbin, hone, hone', enter_eq, setAll_cons, setAll_nil, w_seq, w_reg, o_nil, o_plain, o_skip, o_done, p_assign, p_move, p_pick, pickA_true, pickA_false, p_extract, exA_tup, p_call, opvs_nil, opvs_cons, v_int, v_bool, v_str, v_tmp, evThen_ok, setDst_fset, setDst_none, seqA_normal, seqA_ret, seqA_exit, w_block, blockA_normal, blockA_ret, blockA_exit, w_cond, condA_true, condA_false, w_ret, w_skip, w_exit, w_scope, p_binOp, b_add, b_sub, b_mul, b_eql, b_neq, b_eqlS, b_neqS, b_lss, b_leq, b_gtr, b_geq, p_unOp, u_neg, u_not, c_int, lift_some', look_cons, look_nil, isWant_true, isWant_false, isWant_skipped, Option.some.injEq, Bool.true_eq_false, Bool.false_eq_true, after_ret, after_normal, res_tmp, res_nil, obind_some', get_fset, resOf_some, one_one, one_two, one_nil, Nat.reduceAdd, Nat.reduceLT, Nat.reduceEqDiff, ↓reduceIte, decide_true, decide_false, Bool.not_true, Bool.not_false, List.getElem?_cons_zero, List.getElem?_cons_succ, List.getElem?_nil]
    · simp (maxSteps := 1000000) (implicitDefEqProofs := false) only [c15, t1, t2, hWa, hWb, hW, eq_false h0, eq_false h1, eq_false h2, eq_false h3, eq_false h4, eq_false h5, eq_false h6, eq_false h7, eq_false h8, eq_false h9, eq_false h10, eq_false h11, eq_false h12, eq_true h13, hbin, hone, hone', enter_eq, setAll_cons, setAll_nil, w_seq, w_reg, o_nil, o_plain, o_skip, o_done, p_assign, p_move, p_pick, pickA_true, pickA_false, p_extract, exA_tup, p_call, opvs_nil, opvs_cons, v_int, v_bool, v_str, v_tmp, evThen_ok, setDst_fset, setDst_none, seqA_normal, seqA_ret, seqA_exit, w_block, blockA_normal, blockA_ret, blockA_exit, w_cond, condA_true, condA_false, w_ret, w_skip, w_exit, w_scope, p_binOp, b_add, b_sub, b_mul, b_eql, b_neq, b_eqlS, b_neqS, b_lss, b_leq, b_gtr, b_geq, p_unOp, u_neg, u_not, c_int, lift_some', look_cons, look_nil, isWant_true, isWant_false, isWant_skipped, Option.some.injEq, Bool.true_eq_false, Bool.false_eq_true, after_ret, after_normal, res_tmp, res_nil, obind_some', get_fset, resOf_some, one_one, one_two, one_nil, Nat.reduceAdd, Nat.reduceLT, Nat.reduceEqDiff, ↓reduceIte, decide_true, decide_false, Bool.not_true, Bool.not_false, List.getElem?_cons_zero, List.getElem?_cons_succ, List.getElem?_nil]
  by_cases h14 : op = [62]
  · skip
    have hbin : binL t op a b = (if wrapL t b < wrapL t a then 1 else 0, 0) := by
      rw [R.ne op a b h3 h4, h14]; rw [ogt]
    rcases ht1 with t1 | ⟨t1, t2⟩
    · simp (maxSteps := 1000000) (implicitDefEqProofs := false) only [c15, t1, hWa, hWb, hW, eq_false h0, eq_false h1, eq_false h2, eq_false h3, eq_false h4, eq_false h5, eq_false h6, eq_false h7, eq_false h8, eq_false h9, eq_false h10, eq_false h11, eq_false h12, eq_false h13, eq_true h14, hbin, hone, hone', enter_eq, setAll_cons, setAll_nil, w_seq, w_reg, o_nil, o_plain, o_skip, o_done, p_assign, p_move, p_pick, pickA_true, pickA_false, p_extract, exA_tup, p_call, opvs_nil, opvs_cons, v_int, v_bool, v_str, v_tmp, evThen_ok, setDst_fset, setDst_none, seqA_normal, seqA_ret, seqA_exit, w_block, blockA_normal, blockA_ret, blockA_exit, w_cond, condA_true, condA_false, w_ret, w_skip, w_exit, w_scope, p_binOp, b_add, b_sub, b_mul, b_eql, b_neq, b_eqlS, b_neqS, b_lss, b_leq, b_gtr, b_geq, p_unOp, u_neg, u_not, c_int, lift_some', look_cons, look_nil, isWant_true, isWant_false, isWant_skipped, Option.some.injEq, Bool.true_eq_false, Bool.false_eq_true, after_ret, after_normal, res_tmp, res_nil, obind_some', get_fset, resOf_some, one_one, one_two, one_nil, Nat.reduceAdd, Nat.reduceLT, Nat.reduceEqDiff, ↓reduceIte, decide_true, decide_false, Bool.not_true, Bool.not_false, List.getElem?_cons_zero, List.getElem?_cons_succ, List.getElem?_nil]
    · simp (maxSteps := 1000000) (implicitDefEqProofs := false) only [c15, t1, t2, hWa, hWb, hW, eq_false h0, eq_false h1, eq_false h2, eq_false h3, eq_false h4, eq_false h5, eq_false h6, eq_false h7, eq_false h8, eq_false h9, eq_false h10, eq_false h11, eq_false h12, eq_false h13, eq_true h14, hbin, hone, hone', enter_eq, setAll_cons, setAll_nil, w_seq, w_reg, o_nil, o_plain, o_skip, o_done, p_assign, p_move, p_pick, pickA_true, pickA_false, p_extract, exA_tup, p_call, opvs_nil, opvs_cons, v_int, v_bool, v_str, v_tmp, evThen_ok, setDst_fset, setDst_none, seqA_normal, seqA_ret, seqA_exit, w_block, blockA_normal, blockA_ret, blockA_exit, w_cond, condA_true, condA_false, w_ret, w_skip, w_exit, w_scope, p_binOp, b_add, b_sub, b_mul, b_eql, b_neq, b_eqlS, b_neqS, b_lss, b_leq, b_gtr, b_geq, p_unOp, u_neg, u_not, c_int, lift_some', look_cons, look_nil, isWant_true, isWant_false, isWant_skipped, Option.some.injEq, Bool.true_eq_false, Bool.false_eq_true, after_ret, after_normal, res_tmp, res_nil, obind_some', get_fset, resOf_some, one_one, one_two, one_nil, Nat.reduceAdd, Nat.reduceLT, Nat.reduceEqDiff, ↓reduceIte, decide_true, decide_false, Bool.not_true, Bool.not_false, List.getElem?_cons_zero, List.getElem?_cons_succ, List.getElem?_nil]
  by_cases h15 : op = [62, 61]
  · skip
    have hbin : binL t op a b = (if wrapL t b ≤ wrapL t a then 1 else 0, 0) := by
      rw [R.ne op a b h3 h4, h15]; rw [oge]
    rcases ht1 with t1 | ⟨t1, t2⟩
    · simp (maxSteps := 1000000) (implicitDefEqProofs := false) only [c15, t1, hWa, hWb, hW, eq_false h0, eq_false h1, eq_false h2, eq_false h3, eq_false h4, eq_false h5, eq_false h6, eq_false h7, eq_false h8, eq_false h9, eq_false h10, eq_false h11, eq_false h12, eq_false h13, eq_false h14, eq_true h15, hbin, hone, hone', enter_eq, setAll_cons, setAll_nil, w_seq, w_reg, o_nil, o_plain, o_skip, o_done, p_assign, p_move, p_pick, pickA_true, pickA_false, p_extract, exA_tup, p_call, opvs_nil, opvs_cons, v_int, v_bool, v_str, v_tmp, evThen_ok, setDst_fset, setDst_none, seqA_normal, seqA_ret, seqA_exit, w_block, blockA_normal, blockA_ret, blockA_exit, w_cond, condA_true, condA_false, w_ret, w_skip, w_exit, w_scope, p_binOp, b_add, b_sub, b_mul, b_eql, b_neq, b_eqlS, b_neqS, b_lss, b_leq, b_gtr, b_geq, p_unOp, u_neg, u_not, c_int, lift_some', look_cons, look_nil, isWant_true, isWant_false, isWant_skipped, Option.some.injEq, Bool.true_eq_false, Bool.false_eq_true, after_ret, after_normal, res_tmp, res_nil, obind_some', get_fset, resOf_some, one_one, one_two, one_nil, Nat.reduceAdd, Nat.reduceLT, Nat.reduceEqDiff, ↓reduceIte, decide_true, decide_false, Bool.not_true, Bool.not_false, List.getElem?_cons_zero, List.getElem?_cons_succ, List.getElem?_nil]
    · simp (maxSteps := 1000000) (implicitDefEqProofs := false) only [c15, t1, t2, hWa, hWb, hW, eq_false h0, eq_false h1, eq_false h2, eq_false h3, eq_false h4, eq_false h5, eq_false h6, eq_false h7, eq_false h8, eq_false h9, eq_false h10, eq_false h11, eq_false h12, eq_false h13, eq_false h14, eq_true h15, hbin, hone, hone', enter_eq, setAll_cons, setAll_nil, w_seq, w_reg, o_nil, o_plain, o_skip, o_done, p_assign, p_move, p_pick, pickA_true, pickA_false, p_extract, exA_tup, p_call, opvs_nil, opvs_cons, v_int, v_bool, v_str, v_tmp, evThen_ok, setDst_fset, setDst_none, seqA_normal, seqA_ret, seqA_exit, w_block, blockA_normal, blockA_ret, blockA_exit, w_cond, condA_true, condA_false, w_ret, w_skip, w_exit, w_scope, p_binOp, b_add, b_sub, b_mul, b_eql, b_neq, b_eqlS, b_neqS, b_lss, b_leq, b_gtr, b_geq, p_unOp, u_neg, u_not, c_int, lift_some', look_cons, look_nil, isWant_true, isWant_false, isWant_skipped, Option.some.injEq, Bool.true_eq_false, Bool.false_eq_true, after_ret, after_normal, res_tmp, res_nil, obind_some', get_fset, resOf_some, one_one, one_two, one_nil, Nat.reduceAdd, Nat.reduceLT, Nat.reduceEqDiff, ↓reduceIte, decide_true, decide_false, Bool.not_true, Bool.not_false, List.getElem?_cons_zero, List.getElem?_cons_succ, List.getElem?_nil]
  · skip
    have hbin : binL t op a b = (0, 0) := by
      rw [R.ne op a b h3 h4]
      have hd : ∀ k m x y, doesL k m op x y = 0 := fun k m x y => by simp [doesL, h0, h1, h2, h3, h4, h5, h6, h7, h8, h9, h10, h11, h12, h13, h14, h15]
      rcases R.ty with e | e <;> subst e <;> simp [lawL, binL, core, h3, h4, hd]
    rcases ht1 with t1 | ⟨t1, t2⟩
    · simp (maxSteps := 1000000) (implicitDefEqProofs := false) only [c15, t1, hWa, hWb, hW, eq_false h0, eq_false h1, eq_false h2, eq_false h3, eq_false h4, eq_false h5, eq_false h6, eq_false h7, eq_false h8, eq_false h9, eq_false h10, eq_false h11, eq_false h12, eq_false h13, eq_false h14, eq_false h15, hbin, hone, hone', enter_eq, setAll_cons, setAll_nil, w_seq, w_reg, o_nil, o_plain, o_skip, o_done, p_assign, p_move, p_pick, pickA_true, pickA_false, p_extract, exA_tup, p_call, opvs_nil, opvs_cons, v_int, v_bool, v_str, v_tmp, evThen_ok, setDst_fset, setDst_none, seqA_normal, seqA_ret, seqA_exit, w_block, blockA_normal, blockA_ret, blockA_exit, w_cond, condA_true, condA_false, w_ret, w_skip, w_exit, w_scope, p_binOp, b_add, b_sub, b_mul, b_eql, b_neq, b_eqlS, b_neqS, b_lss, b_leq, b_gtr, b_geq, p_unOp, u_neg, u_not, c_int, lift_some', look_cons, look_nil, isWant_true, isWant_false, isWant_skipped, Option.some.injEq, Bool.true_eq_false, Bool.false_eq_true, after_ret, after_normal, res_tmp, res_nil, obind_some', get_fset, resOf_some, one_one, one_two, one_nil, Nat.reduceAdd, Nat.reduceLT, Nat.reduceEqDiff, ↓reduceIte, decide_true, decide_false, Bool.not_true, Bool.not_false, List.getElem?_cons_zero, List.getElem?_cons_succ, List.getElem?_nil]
    · simp (maxSteps := 1000000) (implicitDefEqProofs := false) only [c15, t1, t2, hWa, hWb, hW, eq_false h0, eq_false h1, eq_false h2, eq_false h3, eq_false h4, eq_false h5, eq_false h6, eq_false h7, eq_false h8, eq_false h9, eq_false h10, eq_false h11, eq_false h12, eq_false h13, eq_false h14, eq_false h15, hbin, hone, hone', enter_eq, setAll_cons, setAll_nil, w_seq, w_reg, o_nil, o_plain, o_skip, o_done, p_assign, p_move, p_pick, pickA_true, pickA_false, p_extract, exA_tup, p_call, opvs_nil, opvs_cons, v_int, v_bool, v_str, v_tmp, evThen_ok, setDst_fset, setDst_none, seqA_normal, seqA_ret, seqA_exit, w_block, blockA_normal, blockA_ret, blockA_exit, w_cond, condA_true, condA_false, w_ret, w_skip, w_exit, w_scope, p_binOp, b_add, b_sub, b_mul, b_eql, b_neq, b_eqlS, b_neqS, b_lss, b_leq, b_gtr, b_geq, p_unOp, u_neg, u_not, c_int, lift_some', look_cons, look_nil, isWant_true, isWant_false, isWant_skipped, Option.some.injEq, Bool.true_eq_false, Bool.false_eq_true, after_ret, after_normal, res_tmp, res_nil, obind_some', get_fset, resOf_some, one_one, one_two, one_nil, Nat.reduceAdd, Nat.reduceLT, Nat.reduceEqDiff, ↓reduceIte, decide_true, decide_false, Bool.not_true, Bool.not_false, List.getElem?_cons_zero, List.getElem?_cons_succ, List.getElem?_nil]
theorem RBin_ok (t : Int) (op : List UInt8) {a b : Int} (ha : In64 a) (hb : In64 b) (h : Heap) :
    callω E 15 [.int .i64 t, .str op, .int .i64 a, .int .i64 b] h = .ok (.tup [.int .i64 (binL t op a b).1, .int .i64 (binL t op a b).2]) h := by
  by_cases h1 : t = 1
  · subst h1; exact RBin_kind ref1 false rfl op ha hb h
  by_cases h2 : t = 2
  · subst h2; exact RBin_kind ref2 true rfl op ha hb h
  · have hbin : binL t op a b = (0, 0) := by simp [binL, h1, h2]
    rw [call15 _ (by simp)]
    simp (maxSteps := 1000000) (implicitDefEqProofs := false) only [c15, eq_false h1, eq_false h2, hbin, enter_eq, setAll_cons, setAll_nil, w_seq, w_reg, o_nil, o_plain, o_skip, o_done, p_assign, p_move, p_pick, pickA_true, pickA_false, p_extract, exA_tup, p_call, opvs_nil, opvs_cons, v_int, v_bool, v_str, v_tmp, evThen_ok, setDst_fset, setDst_none, seqA_normal, seqA_ret, seqA_exit, w_block, blockA_normal, blockA_ret, blockA_exit, w_cond, condA_true, condA_false, w_ret, w_skip, w_exit, w_scope, p_binOp, b_add, b_sub, b_mul, b_eql, b_neq, b_eqlS, b_neqS, b_lss, b_leq, b_gtr, b_geq, p_unOp, u_neg, u_not, c_int, lift_some', look_cons, look_nil, isWant_true, isWant_false, isWant_skipped, Option.some.injEq, Bool.true_eq_false, Bool.false_eq_true, after_ret, after_normal, res_tmp, res_nil, obind_some', get_fset, resOf_some, one_one, one_two, one_nil, Nat.reduceAdd, Nat.reduceLT, Nat.reduceEqDiff, ↓reduceIte, decide_true, decide_false, Bool.not_true, Bool.not_false, List.getElem?_cons_zero, List.getElem?_cons_succ, List.getElem?_nil]
theorem Bins_ok (t : Int) (op : List UInt8) {a b : Int} (ha : In64 a) (hb : In64 b) (h : Heap) : ∃ h', callω E 5 [.int .i64 t, .str op, .int .i64 a, .int .i64 b] h = .ok (.bool true) h' := by
  refine ⟨hW h, ?_⟩
  have hR := fun h => RBin_ok t op ha hb h
  have hWr := fun h => RWrap_ok t ha h
  rw [call5 _ (by simp)]
  simp (maxSteps := 1000000) (implicitDefEqProofs := false) only [c5, Bin_ok, hR, Width_ok, RWidth_ok, Wrap_ok, hWr, works_ok, enter_eq, setAll_cons, setAll_nil, w_seq, w_reg, o_nil, o_plain, o_skip, o_done, p_assign, p_move, p_pick, pickA_true, pickA_false, p_extract, exA_tup, p_call, opvs_nil, opvs_cons, v_int, v_bool, v_str, v_tmp, evThen_ok, setDst_fset, setDst_none, seqA_normal, seqA_ret, seqA_exit, w_block, blockA_normal, blockA_ret, blockA_exit, w_cond, condA_true, condA_false, w_ret, w_skip, w_exit, w_scope, p_binOp, b_add, b_sub, b_mul, b_eql, b_neq, b_eqlS, b_neqS, b_lss, b_leq, b_gtr, b_geq, p_unOp, u_neg, u_not, c_int, lift_some', look_cons, look_nil, isWant_true, isWant_false, isWant_skipped, Option.some.injEq, Bool.true_eq_false, Bool.false_eq_true, after_ret, after_normal, res_tmp, res_nil, obind_some', get_fset, resOf_some, one_one, one_two, one_nil, Nat.reduceAdd, Nat.reduceLT, Nat.reduceEqDiff, ↓reduceIte, decide_true, decide_false, Bool.not_true, Bool.not_false, List.getElem?_cons_zero, List.getElem?_cons_succ, List.getElem?_nil]
end Go.Proofs.Word
