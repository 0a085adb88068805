/- The document's answer of chapter 01, and that it is the program's. Conditions: none. -/
import Derived.Test.YtkbklpkbdccpdaaLaws
set_option linter.unusedVariables false
set_option linter.unusedSimpArgs false
namespace Go.Proofs.Word
open Go Go.AM
/-! ### The document's answer: what has no loops -/
theorem RWidth_ok (t : Int) (h : Heap) : callω E 17 [.int .i64 t] h = .ok (.int .i64 (widthL t)) h := by
  rw [call17 _ (by simp)]
  unfold widthL
  by_cases h3 : t = 3
  · have h1 : ¬ t = 1 := by omega
    have h2 : ¬ t = 2 := by omega
    simp (implicitDefEqProofs := false) only [c17, eq_true h3, eq_false h1, eq_false h2, enter_eq, setAll_cons, setAll_nil, w_seq, w_reg, o_nil, o_plain, o_skip, o_done, p_assign, p_move, p_pick, pickA_true, pickA_false, p_extract, exA_tup, p_call, opvs_nil, opvs_cons, v_int, v_bool, v_str, v_tmp, evThen_ok, setDst_fset, setDst_none, seqA_normal, seqA_ret, seqA_exit, w_block, blockA_normal, blockA_ret, blockA_exit, w_cond, condA_true, condA_false, w_ret, w_skip, w_exit, w_scope, p_binOp, b_add, b_sub, b_mul, b_eql, b_neq, b_eqlS, b_neqS, b_lss, b_leq, b_gtr, b_geq, p_unOp, u_neg, u_not, c_int, lift_some', look_cons, look_nil, isWant_true, isWant_false, isWant_skipped, Option.some.injEq, Bool.true_eq_false, Bool.false_eq_true, after_ret, after_normal, res_tmp, res_nil, obind_some', get_fset, resOf_some, one_one, one_two, one_nil, Nat.reduceAdd, Nat.reduceLT, Nat.reduceEqDiff, ↓reduceIte, decide_true, decide_false, Bool.not_true, Bool.not_false, List.getElem?_cons_zero, List.getElem?_cons_succ, List.getElem?_nil]
  by_cases h1 : t = 1
  · have h2 : ¬ t = 2 := by omega
    simp (implicitDefEqProofs := false) only [c17, eq_true h1, eq_false h3, eq_false h2, enter_eq, setAll_cons, setAll_nil, w_seq, w_reg, o_nil, o_plain, o_skip, o_done, p_assign, p_move, p_pick, pickA_true, pickA_false, p_extract, exA_tup, p_call, opvs_nil, opvs_cons, v_int, v_bool, v_str, v_tmp, evThen_ok, setDst_fset, setDst_none, seqA_normal, seqA_ret, seqA_exit, w_block, blockA_normal, blockA_ret, blockA_exit, w_cond, condA_true, condA_false, w_ret, w_skip, w_exit, w_scope, p_binOp, b_add, b_sub, b_mul, b_eql, b_neq, b_eqlS, b_neqS, b_lss, b_leq, b_gtr, b_geq, p_unOp, u_neg, u_not, c_int, lift_some', look_cons, look_nil, isWant_true, isWant_false, isWant_skipped, Option.some.injEq, Bool.true_eq_false, Bool.false_eq_true, after_ret, after_normal, res_tmp, res_nil, obind_some', get_fset, resOf_some, one_one, one_two, one_nil, Nat.reduceAdd, Nat.reduceLT, Nat.reduceEqDiff, ↓reduceIte, decide_true, decide_false, Bool.not_true, Bool.not_false, List.getElem?_cons_zero, List.getElem?_cons_succ, List.getElem?_nil]
  by_cases h2 : t = 2
  · simp (implicitDefEqProofs := false) only [c17, eq_true h2, eq_false h3, eq_false h1, enter_eq, setAll_cons, setAll_nil, w_seq, w_reg, o_nil, o_plain, o_skip, o_done, p_assign, p_move, p_pick, pickA_true, pickA_false, p_extract, exA_tup, p_call, opvs_nil, opvs_cons, v_int, v_bool, v_str, v_tmp, evThen_ok, setDst_fset, setDst_none, seqA_normal, seqA_ret, seqA_exit, w_block, blockA_normal, blockA_ret, blockA_exit, w_cond, condA_true, condA_false, w_ret, w_skip, w_exit, w_scope, p_binOp, b_add, b_sub, b_mul, b_eql, b_neq, b_eqlS, b_neqS, b_lss, b_leq, b_gtr, b_geq, p_unOp, u_neg, u_not, c_int, lift_some', look_cons, look_nil, isWant_true, isWant_false, isWant_skipped, Option.some.injEq, Bool.true_eq_false, Bool.false_eq_true, after_ret, after_normal, res_tmp, res_nil, obind_some', get_fset, resOf_some, one_one, one_two, one_nil, Nat.reduceAdd, Nat.reduceLT, Nat.reduceEqDiff, ↓reduceIte, decide_true, decide_false, Bool.not_true, Bool.not_false, List.getElem?_cons_zero, List.getElem?_cons_succ, List.getElem?_nil]
  · simp (implicitDefEqProofs := false) only [c17, eq_false h2, eq_false h3, eq_false h1, enter_eq, setAll_cons, setAll_nil, w_seq, w_reg, o_nil, o_plain, o_skip, o_done, p_assign, p_move, p_pick, pickA_true, pickA_false, p_extract, exA_tup, p_call, opvs_nil, opvs_cons, v_int, v_bool, v_str, v_tmp, evThen_ok, setDst_fset, setDst_none, seqA_normal, seqA_ret, seqA_exit, w_block, blockA_normal, blockA_ret, blockA_exit, w_cond, condA_true, condA_false, w_ret, w_skip, w_exit, w_scope, p_binOp, b_add, b_sub, b_mul, b_eql, b_neq, b_eqlS, b_neqS, b_lss, b_leq, b_gtr, b_geq, p_unOp, u_neg, u_not, c_int, lift_some', look_cons, look_nil, isWant_true, isWant_false, isWant_skipped, Option.some.injEq, Bool.true_eq_false, Bool.false_eq_true, after_ret, after_normal, res_tmp, res_nil, obind_some', get_fset, resOf_some, one_one, one_two, one_nil, Nat.reduceAdd, Nat.reduceLT, Nat.reduceEqDiff, ↓reduceIte, decide_true, decide_false, Bool.not_true, Bool.not_false, List.getElem?_cons_zero, List.getElem?_cons_succ, List.getElem?_nil]
theorem Rone_ok (b : Bool) (h : Heap) : callω E 26 [.bool b] h = .ok (.int .i64 (if b then 1 else 0)) h := by
  rw [call26 _ (by simp)]
  cases b <;> simp [c26, enter_eq, setAll_cons, setAll_nil, w_seq, w_reg, o_nil, o_plain, o_skip, o_done, p_assign, p_move, p_pick, pickA_true, pickA_false, p_extract, exA_tup, p_call, opvs_nil, opvs_cons, v_int, v_bool, v_str, v_tmp, evThen_ok, setDst_fset, setDst_none, seqA_normal, seqA_ret, seqA_exit, w_block, blockA_normal, blockA_ret, blockA_exit, w_cond, condA_true, condA_false, w_ret, w_skip, w_exit, w_scope, p_binOp, b_add, b_sub, b_mul, b_eql, b_neq, b_eqlS, b_neqS, b_lss, b_leq, b_gtr, b_geq, p_unOp, u_neg, u_not, c_int, lift_some', look_cons, look_nil, isWant_true, isWant_false, isWant_skipped, Option.some.injEq, Bool.true_eq_false, Bool.false_eq_true, after_ret, after_normal, res_tmp, res_nil, obind_some', get_fset, resOf_some, one_one, one_two, one_nil, Nat.reduceAdd, Nat.reduceLT, Nat.reduceEqDiff, ↓reduceIte, decide_true, decide_false, Bool.not_true, Bool.not_false, List.getElem?_cons_zero, List.getElem?_cons_succ, List.getElem?_nil]
theorem RWrap_core {t v w m hf x : Int} (hw : widthL t = w) (w0 : ¬ w = 0) (w64 : ¬ w = 64) (hm0 : m ≠ 0) (hs : ∀ fl, binOpA .shl fl (.int .i64 1) (.int .u64 (IntKind.wrap .u64 w)) = some (.int .i64 m)) (hh : IntKind.wrap .i64 (m.tdiv 2) = hf)
    (hx : (if hf ≤ (if v.tmod m < 0 then IntKind.wrap .i64 (v.tmod m + m) else v.tmod m) then IntKind.wrap .i64 ((if v.tmod m < 0 then IntKind.wrap .i64 (v.tmod m + m) else v.tmod m) - m) else (if v.tmod m < 0 then IntKind.wrap .i64 (v.tmod m + m) else v.tmod m)) = x) (h : Heap) :
    callω E 18 [.int .i64 t, .int .i64 v] h = .ok (.int .i64 x) h := by
  rw [call18 _ (by simp), ← hx]
  by_cases hr : v.tmod m < 0
  · by_cases hq : hf ≤ IntKind.wrap .i64 (v.tmod m + m)
    · simp (maxSteps := 1000000) (implicitDefEqProofs := false) only [c18, RWidth_ok, hw, eq_false w0, eq_false w64, hs, b_rem _ _ _ _ hm0, b_quo _ _ _ _ (show (2 : Int) ≠ 0 by decide), hh, eq_true hr, eq_true hq, p_convert _ _ _ ti3 ti33, enter_eq, setAll_cons, setAll_nil, w_seq, w_reg, o_nil, o_plain, o_skip, o_done, p_assign, p_move, p_pick, pickA_true, pickA_false, p_extract, exA_tup, p_call, opvs_nil, opvs_cons, v_int, v_bool, v_str, v_tmp, evThen_ok, setDst_fset, setDst_none, seqA_normal, seqA_ret, seqA_exit, w_block, blockA_normal, blockA_ret, blockA_exit, w_cond, condA_true, condA_false, w_ret, w_skip, w_exit, w_scope, p_binOp, b_add, b_sub, b_mul, b_eql, b_neq, b_eqlS, b_neqS, b_lss, b_leq, b_gtr, b_geq, p_unOp, u_neg, u_not, c_int, lift_some', look_cons, look_nil, isWant_true, isWant_false, isWant_skipped, Option.some.injEq, Bool.true_eq_false, Bool.false_eq_true, after_ret, after_normal, res_tmp, res_nil, obind_some', get_fset, resOf_some, one_one, one_two, one_nil, Nat.reduceAdd, Nat.reduceLT, Nat.reduceEqDiff, ↓reduceIte, decide_true, decide_false, Bool.not_true, Bool.not_false, List.getElem?_cons_zero, List.getElem?_cons_succ, List.getElem?_nil]
    · simp (maxSteps := 1000000) (implicitDefEqProofs := false) only [c18, RWidth_ok, hw, eq_false w0, eq_false w64, hs, b_rem _ _ _ _ hm0, b_quo _ _ _ _ (show (2 : Int) ≠ 0 by decide), hh, eq_true hr, eq_false hq, p_convert _ _ _ ti3 ti33, enter_eq, setAll_cons, setAll_nil, w_seq, w_reg, o_nil, o_plain, o_skip, o_done, p_assign, p_move, p_pick, pickA_true, pickA_false, p_extract, exA_tup, p_call, opvs_nil, opvs_cons, v_int, v_bool, v_str, v_tmp, evThen_ok, setDst_fset, setDst_none, seqA_normal, seqA_ret, seqA_exit, w_block, blockA_normal, blockA_ret, blockA_exit, w_cond, condA_true, condA_false, w_ret, w_skip, w_exit, w_scope, p_binOp, b_add, b_sub, b_mul, b_eql, b_neq, b_eqlS, b_neqS, b_lss, b_leq, b_gtr, b_geq, p_unOp, u_neg, u_not, c_int, lift_some', look_cons, look_nil, isWant_true, isWant_false, isWant_skipped, Option.some.injEq, Bool.true_eq_false, Bool.false_eq_true, after_ret, after_normal, res_tmp, res_nil, obind_some', get_fset, resOf_some, one_one, one_two, one_nil, Nat.reduceAdd, Nat.reduceLT, Nat.reduceEqDiff, ↓reduceIte, decide_true, decide_false, Bool.not_true, Bool.not_false, List.getElem?_cons_zero, List.getElem?_cons_succ, List.getElem?_nil]
  · by_cases hq : hf ≤ v.tmod m
    · simp (maxSteps := 1000000) (implicitDefEqProofs := false) only [c18, RWidth_ok, hw, eq_false w0, eq_false w64, hs, b_rem _ _ _ _ hm0, b_quo _ _ _ _ (show (2 : Int) ≠ 0 by decide), hh, eq_false hr, eq_true hq, p_convert _ _ _ ti3 ti33, enter_eq, setAll_cons, setAll_nil, w_seq, w_reg, o_nil, o_plain, o_skip, o_done, p_assign, p_move, p_pick, pickA_true, pickA_false, p_extract, exA_tup, p_call, opvs_nil, opvs_cons, v_int, v_bool, v_str, v_tmp, evThen_ok, setDst_fset, setDst_none, seqA_normal, seqA_ret, seqA_exit, w_block, blockA_normal, blockA_ret, blockA_exit, w_cond, condA_true, condA_false, w_ret, w_skip, w_exit, w_scope, p_binOp, b_add, b_sub, b_mul, b_eql, b_neq, b_eqlS, b_neqS, b_lss, b_leq, b_gtr, b_geq, p_unOp, u_neg, u_not, c_int, lift_some', look_cons, look_nil, isWant_true, isWant_false, isWant_skipped, Option.some.injEq, Bool.true_eq_false, Bool.false_eq_true, after_ret, after_normal, res_tmp, res_nil, obind_some', get_fset, resOf_some, one_one, one_two, one_nil, Nat.reduceAdd, Nat.reduceLT, Nat.reduceEqDiff, ↓reduceIte, decide_true, decide_false, Bool.not_true, Bool.not_false, List.getElem?_cons_zero, List.getElem?_cons_succ, List.getElem?_nil]
    · simp (maxSteps := 1000000) (implicitDefEqProofs := false) only [c18, RWidth_ok, hw, eq_false w0, eq_false w64, hs, b_rem _ _ _ _ hm0, b_quo _ _ _ _ (show (2 : Int) ≠ 0 by decide), hh, eq_false hr, eq_false hq, p_convert _ _ _ ti3 ti33, enter_eq, setAll_cons, setAll_nil, w_seq, w_reg, o_nil, o_plain, o_skip, o_done, p_assign, p_move, p_pick, pickA_true, pickA_false, p_extract, exA_tup, p_call, opvs_nil, opvs_cons, v_int, v_bool, v_str, v_tmp, evThen_ok, setDst_fset, setDst_none, seqA_normal, seqA_ret, seqA_exit, w_block, blockA_normal, blockA_ret, blockA_exit, w_cond, condA_true, condA_false, w_ret, w_skip, w_exit, w_scope, p_binOp, b_add, b_sub, b_mul, b_eql, b_neq, b_eqlS, b_neqS, b_lss, b_leq, b_gtr, b_geq, p_unOp, u_neg, u_not, c_int, lift_some', look_cons, look_nil, isWant_true, isWant_false, isWant_skipped, Option.some.injEq, Bool.true_eq_false, Bool.false_eq_true, after_ret, after_normal, res_tmp, res_nil, obind_some', get_fset, resOf_some, one_one, one_two, one_nil, Nat.reduceAdd, Nat.reduceLT, Nat.reduceEqDiff, ↓reduceIte, decide_true, decide_false, Bool.not_true, Bool.not_false, List.getElem?_cons_zero, List.getElem?_cons_succ, List.getElem?_nil]
theorem tmod_bmod {m : Nat} (hm : 0 < m) (hm2 : m % 2 = 0) (hb : m ≤ 4294967296) (v : Int) :
    (if ((m / 2 : Nat) : Int) ≤ (if v.tmod m < 0 then IntKind.wrap .i64 (v.tmod m + m) else v.tmod m) then IntKind.wrap .i64 ((if v.tmod m < 0 then IntKind.wrap .i64 (v.tmod m + m) else v.tmod m) - m) else (if v.tmod m < 0 then IntKind.wrap .i64 (v.tmod m + m) else v.tmod m)) = v.bmod m := by
  have e0 : (v.tmod m).natAbs < m := by
    have := tmod_lt v (B := (m : Int)) (by omega); simpa using this
  have e1 : (if v.tmod m < 0 then IntKind.wrap .i64 (v.tmod m + m) else v.tmod m) = v % m := by
    have hd : (v.tmod m) % m = v % m := by
      rw [Int.tmod_eq_emod]; split
      · simp
      · rw [Int.sub_emod, Int.emod_emod]; simp
    split
    · rename_i hneg
      rw [wrap64_id ⟨by omega, by omega⟩, ← hd, ← Int.add_emod_right, Int.emod_eq_of_lt (by omega) (by omega)]
    · rw [← hd, Int.emod_eq_of_lt (by omega) (by omega)]
  rw [e1]
  have h1 := Int.emod_nonneg v (show (m : Int) ≠ 0 by omega)
  have h2 := Int.emod_lt_of_pos v (show (0 : Int) < m by omega)
  have hbm : v.bmod m = if v % m < ((m : Int) + 1) / 2 then v % m else v % m - m := rfl
  rw [hbm]
  by_cases hh : ((m / 2 : Nat) : Int) ≤ v % m
  · rw [if_pos hh, if_neg (by omega), wrap64_id ⟨by omega, by omega⟩]
  · rw [if_neg hh, if_pos (by omega)]
theorem RWrap_ok (t : Int) {v : Int} (hv : In64 v) (h : Heap) : callω E 18 [.int .i64 t, .int .i64 v] h = .ok (.int .i64 (wrapL t v)) h := by
  by_cases h3 : t = 3
  · subst h3
    exact RWrap_core (w := 8) (m := 256) (hf := 128) rfl (by omega) (by omega) (by omega) (fun fl => by kernel_rfl) (by decide) (by rw [show wrapL 3 v = v.bmod 256 by simp [wrapL, wrap8_bmod]]; exact tmod_bmod (m := 256) (by decide) (by decide) (by decide) v) h
  by_cases h1 : t = 1
  · subst h1
    exact RWrap_core (w := 32) (m := 4294967296) (hf := 2147483648) rfl (by omega) (by omega) (by omega) (fun fl => by kernel_rfl) (by decide) (by rw [wrapL1]; exact tmod_bmod (m := 4294967296) (by decide) (by decide) (by decide) v) h
  by_cases h2 : t = 2
  · subst h2
    have hw : widthL 2 = 64 := rfl
    have e : wrapL 2 v = v := by simp [wrapL]
    have q : IntKind.wrap .i64 ((64 : Int).tdiv 64) = 1 := by decide
    have n0 : ((64 : Int) = 0) = False := by decide
    rw [call18 _ (by simp), e]
    simp (maxSteps := 1000000) (implicitDefEqProofs := false) only [c18, RWidth_ok, hw, n0, q, b_quo _ _ _ _ (show (64 : Int) ≠ 0 by decide), Int.mul_one, wrap64_id hv, enter_eq, setAll_cons, setAll_nil, w_seq, w_reg, o_nil, o_plain, o_skip, o_done, p_assign, p_move, p_pick, pickA_true, pickA_false, p_extract, exA_tup, p_call, opvs_nil, opvs_cons, v_int, v_bool, v_str, v_tmp, evThen_ok, setDst_fset, setDst_none, seqA_normal, seqA_ret, seqA_exit, w_block, blockA_normal, blockA_ret, blockA_exit, w_cond, condA_true, condA_false, w_ret, w_skip, w_exit, w_scope, p_binOp, b_add, b_sub, b_mul, b_eql, b_neq, b_eqlS, b_neqS, b_lss, b_leq, b_gtr, b_geq, p_unOp, u_neg, u_not, c_int, lift_some', look_cons, look_nil, isWant_true, isWant_false, isWant_skipped, Option.some.injEq, Bool.true_eq_false, Bool.false_eq_true, after_ret, after_normal, res_tmp, res_nil, obind_some', get_fset, resOf_some, one_one, one_two, one_nil, Nat.reduceAdd, Nat.reduceLT, Nat.reduceEqDiff, ↓reduceIte, decide_true, decide_false, Bool.not_true, Bool.not_false, List.getElem?_cons_zero, List.getElem?_cons_succ, List.getElem?_nil]
  · have hw : widthL t = 0 := by simp [widthL, h1, h2, h3]
    have e : wrapL t v = 0 := by simp [wrapL, h1, h2, h3]
    have q : IntKind.wrap .i64 ((0 : Int).tdiv 64) = 0 := by decide
    have q0 : IntKind.wrap .i64 0 = 0 := by decide
    rw [call18 _ (by simp), e]
    simp (maxSteps := 1000000) (implicitDefEqProofs := false) only [c18, RWidth_ok, hw, q, q0, b_quo _ _ _ _ (show (64 : Int) ≠ 0 by decide), Int.mul_zero, enter_eq, setAll_cons, setAll_nil, w_seq, w_reg, o_nil, o_plain, o_skip, o_done, p_assign, p_move, p_pick, pickA_true, pickA_false, p_extract, exA_tup, p_call, opvs_nil, opvs_cons, v_int, v_bool, v_str, v_tmp, evThen_ok, setDst_fset, setDst_none, seqA_normal, seqA_ret, seqA_exit, w_block, blockA_normal, blockA_ret, blockA_exit, w_cond, condA_true, condA_false, w_ret, w_skip, w_exit, w_scope, p_binOp, b_add, b_sub, b_mul, b_eql, b_neq, b_eqlS, b_neqS, b_lss, b_leq, b_gtr, b_geq, p_unOp, u_neg, u_not, c_int, lift_some', look_cons, look_nil, isWant_true, isWant_false, isWant_skipped, Option.some.injEq, Bool.true_eq_false, Bool.false_eq_true, after_ret, after_normal, res_tmp, res_nil, obind_some', get_fset, resOf_some, one_one, one_two, one_nil, Nat.reduceAdd, Nat.reduceLT, Nat.reduceEqDiff, ↓reduceIte, decide_true, decide_false, Bool.not_true, Bool.not_false, List.getElem?_cons_zero, List.getElem?_cons_succ, List.getElem?_nil]
end Go.Proofs.Word
namespace Go.Proofs.Word
open Go Go.AM
theorem ti48 : E.ti 48 = some ⟨.int .u64, 1, 8, .int .u64 0⟩ := by kernel_rfl
theorem RDiv_ok {t : Int} {k : IntKind} (op : List UInt8) {a b : Int} (ha : In64 a) (hn : wrapL t (IntKind.wrap .i64 (0 - a)) = k.wrap (0 - a)) (hm : ¬ (a ≠ 0 ∧ k.wrap (0 - a) = a) → IntKind.wrap .i64 (0 - a) = k.wrap (a.tdiv (-1)))
    (hq : b ≠ -1 → IntKind.wrap .i64 (a.tdiv b) = k.wrap (a.tdiv b)) (h : Heap) : callω E 23 [.int .i64 t, .str op, .int .i64 a, .int .i64 b] h = .ok (.tup [.int .i64 (divL k op a b).1, .int .i64 (divL k op a b).2]) h := by
  rw [call23 _ (by simp)]
  have hw := fun h => RWrap_ok t (wrap64_in (0 - a)) h
  rw [hn] at hw
  unfold divL
  by_cases h0 : b = 0
  · simp (maxSteps := 1000000) (implicitDefEqProofs := false) only [c23, eq_true h0, enter_eq, setAll_cons, setAll_nil, w_seq, w_reg, o_nil, o_plain, o_skip, o_done, p_assign, p_move, p_pick, pickA_true, pickA_false, p_extract, exA_tup, p_call, opvs_nil, opvs_cons, v_int, v_bool, v_str, v_tmp, evThen_ok, setDst_fset, setDst_none, seqA_normal, seqA_ret, seqA_exit, w_block, blockA_normal, blockA_ret, blockA_exit, w_cond, condA_true, condA_false, w_ret, w_skip, w_exit, w_scope, p_binOp, b_add, b_sub, b_mul, b_eql, b_neq, b_eqlS, b_neqS, b_lss, b_leq, b_gtr, b_geq, p_unOp, u_neg, u_not, c_int, lift_some', look_cons, look_nil, isWant_true, isWant_false, isWant_skipped, Option.some.injEq, Bool.true_eq_false, Bool.false_eq_true, after_ret, after_normal, res_tmp, res_nil, obind_some', get_fset, resOf_some, one_one, one_two, one_nil, Nat.reduceAdd, Nat.reduceLT, Nat.reduceEqDiff, ↓reduceIte, decide_true, decide_false, Bool.not_true, Bool.not_false, List.getElem?_cons_zero, List.getElem?_cons_succ, List.getElem?_nil]
  by_cases h1 : b = -1
  · by_cases hp : op = [37]
    · simp (maxSteps := 1000000) (implicitDefEqProofs := false) only [c23, eq_false h0, eq_true h1, eq_true hp, true_and, and_true, enter_eq, setAll_cons, setAll_nil, w_seq, w_reg, o_nil, o_plain, o_skip, o_done, p_assign, p_move, p_pick, pickA_true, pickA_false, p_extract, exA_tup, p_call, opvs_nil, opvs_cons, v_int, v_bool, v_str, v_tmp, evThen_ok, setDst_fset, setDst_none, seqA_normal, seqA_ret, seqA_exit, w_block, blockA_normal, blockA_ret, blockA_exit, w_cond, condA_true, condA_false, w_ret, w_skip, w_exit, w_scope, p_binOp, b_add, b_sub, b_mul, b_eql, b_neq, b_eqlS, b_neqS, b_lss, b_leq, b_gtr, b_geq, p_unOp, u_neg, u_not, c_int, lift_some', look_cons, look_nil, isWant_true, isWant_false, isWant_skipped, Option.some.injEq, Bool.true_eq_false, Bool.false_eq_true, after_ret, after_normal, res_tmp, res_nil, obind_some', get_fset, resOf_some, one_one, one_two, one_nil, Nat.reduceAdd, Nat.reduceLT, Nat.reduceEqDiff, ↓reduceIte, decide_true, decide_false, Bool.not_true, Bool.not_false, List.getElem?_cons_zero, List.getElem?_cons_succ, List.getElem?_nil]
    · by_cases hc : k.wrap (0 - a) = a
      · by_cases hz : a = 0
        · have hm' : IntKind.wrap .i64 (0 - a) = k.wrap (a.tdiv b) := by rw [h1]; exact hm (fun e => e.1 hz)
          rw [hm'] at hw
          simp (maxSteps := 1000000) (implicitDefEqProofs := false) only [c23, hw, hm', eq_false h0, eq_true h1, eq_false hp, eq_true hc, eq_true hz, ne_eq, not_true, not_false_eq_true, true_and, and_true, false_and, and_false, enter_eq, setAll_cons, setAll_nil, w_seq, w_reg, o_nil, o_plain, o_skip, o_done, p_assign, p_move, p_pick, pickA_true, pickA_false, p_extract, exA_tup, p_call, opvs_nil, opvs_cons, v_int, v_bool, v_str, v_tmp, evThen_ok, setDst_fset, setDst_none, seqA_normal, seqA_ret, seqA_exit, w_block, blockA_normal, blockA_ret, blockA_exit, w_cond, condA_true, condA_false, w_ret, w_skip, w_exit, w_scope, p_binOp, b_add, b_sub, b_mul, b_eql, b_neq, b_eqlS, b_neqS, b_lss, b_leq, b_gtr, b_geq, p_unOp, u_neg, u_not, c_int, lift_some', look_cons, look_nil, isWant_true, isWant_false, isWant_skipped, Option.some.injEq, Bool.true_eq_false, Bool.false_eq_true, after_ret, after_normal, res_tmp, res_nil, obind_some', get_fset, resOf_some, one_one, one_two, one_nil, Nat.reduceAdd, Nat.reduceLT, Nat.reduceEqDiff, ↓reduceIte, decide_true, decide_false, Bool.not_true, Bool.not_false, List.getElem?_cons_zero, List.getElem?_cons_succ, List.getElem?_nil]
        · simp (maxSteps := 1000000) (implicitDefEqProofs := false) only [c23, hw, eq_false h0, eq_true h1, eq_false hp, eq_true hc, eq_false hz, ne_eq, not_true, not_false_eq_true, true_and, and_true, false_and, and_false, enter_eq, setAll_cons, setAll_nil, w_seq, w_reg, o_nil, o_plain, o_skip, o_done, p_assign, p_move, p_pick, pickA_true, pickA_false, p_extract, exA_tup, p_call, opvs_nil, opvs_cons, v_int, v_bool, v_str, v_tmp, evThen_ok, setDst_fset, setDst_none, seqA_normal, seqA_ret, seqA_exit, w_block, blockA_normal, blockA_ret, blockA_exit, w_cond, condA_true, condA_false, w_ret, w_skip, w_exit, w_scope, p_binOp, b_add, b_sub, b_mul, b_eql, b_neq, b_eqlS, b_neqS, b_lss, b_leq, b_gtr, b_geq, p_unOp, u_neg, u_not, c_int, lift_some', look_cons, look_nil, isWant_true, isWant_false, isWant_skipped, Option.some.injEq, Bool.true_eq_false, Bool.false_eq_true, after_ret, after_normal, res_tmp, res_nil, obind_some', get_fset, resOf_some, one_one, one_two, one_nil, Nat.reduceAdd, Nat.reduceLT, Nat.reduceEqDiff, ↓reduceIte, decide_true, decide_false, Bool.not_true, Bool.not_false, List.getElem?_cons_zero, List.getElem?_cons_succ, List.getElem?_nil]
      · have hm' : IntKind.wrap .i64 (0 - a) = k.wrap (a.tdiv b) := by rw [h1]; exact hm (fun e => hc e.2)
        rw [hm'] at hw
        simp (maxSteps := 1000000) (implicitDefEqProofs := false) only [c23, hw, hm', eq_false h0, eq_true h1, eq_false hp, eq_false hc, ne_eq, not_true, not_false_eq_true, true_and, and_true, false_and, and_false, enter_eq, setAll_cons, setAll_nil, w_seq, w_reg, o_nil, o_plain, o_skip, o_done, p_assign, p_move, p_pick, pickA_true, pickA_false, p_extract, exA_tup, p_call, opvs_nil, opvs_cons, v_int, v_bool, v_str, v_tmp, evThen_ok, setDst_fset, setDst_none, seqA_normal, seqA_ret, seqA_exit, w_block, blockA_normal, blockA_ret, blockA_exit, w_cond, condA_true, condA_false, w_ret, w_skip, w_exit, w_scope, p_binOp, b_add, b_sub, b_mul, b_eql, b_neq, b_eqlS, b_neqS, b_lss, b_leq, b_gtr, b_geq, p_unOp, u_neg, u_not, c_int, lift_some', look_cons, look_nil, isWant_true, isWant_false, isWant_skipped, Option.some.injEq, Bool.true_eq_false, Bool.false_eq_true, after_ret, after_normal, res_tmp, res_nil, obind_some', get_fset, resOf_some, one_one, one_two, one_nil, Nat.reduceAdd, Nat.reduceLT, Nat.reduceEqDiff, ↓reduceIte, decide_true, decide_false, Bool.not_true, Bool.not_false, List.getElem?_cons_zero, List.getElem?_cons_succ, List.getElem?_nil]
  · by_cases hp : op = [37]
    · simp (maxSteps := 1000000) (implicitDefEqProofs := false) only [c23, eq_false h0, eq_false h1, eq_true hp, b_rem _ _ _ _ h0, true_and, and_true, false_and, and_false, enter_eq, setAll_cons, setAll_nil, w_seq, w_reg, o_nil, o_plain, o_skip, o_done, p_assign, p_move, p_pick, pickA_true, pickA_false, p_extract, exA_tup, p_call, opvs_nil, opvs_cons, v_int, v_bool, v_str, v_tmp, evThen_ok, setDst_fset, setDst_none, seqA_normal, seqA_ret, seqA_exit, w_block, blockA_normal, blockA_ret, blockA_exit, w_cond, condA_true, condA_false, w_ret, w_skip, w_exit, w_scope, p_binOp, b_add, b_sub, b_mul, b_eql, b_neq, b_eqlS, b_neqS, b_lss, b_leq, b_gtr, b_geq, p_unOp, u_neg, u_not, c_int, lift_some', look_cons, look_nil, isWant_true, isWant_false, isWant_skipped, Option.some.injEq, Bool.true_eq_false, Bool.false_eq_true, after_ret, after_normal, res_tmp, res_nil, obind_some', get_fset, resOf_some, one_one, one_two, one_nil, Nat.reduceAdd, Nat.reduceLT, Nat.reduceEqDiff, ↓reduceIte, decide_true, decide_false, Bool.not_true, Bool.not_false, List.getElem?_cons_zero, List.getElem?_cons_succ, List.getElem?_nil]
    · simp (maxSteps := 1000000) (implicitDefEqProofs := false) only [c23, eq_false h0, eq_false h1, eq_false hp, b_quo _ _ _ _ h0, hq h1, true_and, and_true, false_and, and_false, enter_eq, setAll_cons, setAll_nil, w_seq, w_reg, o_nil, o_plain, o_skip, o_done, p_assign, p_move, p_pick, pickA_true, pickA_false, p_extract, exA_tup, p_call, opvs_nil, opvs_cons, v_int, v_bool, v_str, v_tmp, evThen_ok, setDst_fset, setDst_none, seqA_normal, seqA_ret, seqA_exit, w_block, blockA_normal, blockA_ret, blockA_exit, w_cond, condA_true, condA_false, w_ret, w_skip, w_exit, w_scope, p_binOp, b_add, b_sub, b_mul, b_eql, b_neq, b_eqlS, b_neqS, b_lss, b_leq, b_gtr, b_geq, p_unOp, u_neg, u_not, c_int, lift_some', look_cons, look_nil, isWant_true, isWant_false, isWant_skipped, Option.some.injEq, Bool.true_eq_false, Bool.false_eq_true, after_ret, after_normal, res_tmp, res_nil, obind_some', get_fset, resOf_some, one_one, one_two, one_nil, Nat.reduceAdd, Nat.reduceLT, Nat.reduceEqDiff, ↓reduceIte, decide_true, decide_false, Bool.not_true, Bool.not_false, List.getElem?_cons_zero, List.getElem?_cons_succ, List.getElem?_nil]
/-! ### One bit -/
abbrev M64 : Nat := 18446744073709551616
theorem wrapU_nat {m : Nat} (hm : m < M64) : IntKind.wrap .u64 (m : Int) = (m : Int) := by
  have : IntKind.wrap .u64 (m : Int) = (m : Int) % 18446744073709551616 := by simp [IntKind.wrap, IntKind.bits, IntKind.signed]
  rw [this]; exact Int.emod_eq_of_lt (by omega) (by have : m < 18446744073709551616 := hm; omega)
theorem wrapU_ub (n : Int) : IntKind.wrap .u64 n = ((ub M64 n : Nat) : Int) := by
  have : IntKind.wrap .u64 n = n % 18446744073709551616 := by simp [IntKind.wrap, IntKind.bits, IntKind.signed]
  rw [this, ub_cast (by decide)]; rfl
theorem half_nat (m : Nat) (hm : m < M64) : IntKind.wrap .u64 ((m : Int).tdiv 2) = ((m / 2 : Nat) : Int) := by
  have : (m : Int).tdiv 2 = ((m / 2 : Nat) : Int) := rfl
  rw [this, wrapU_nat (by have : m < 18446744073709551616 := hm; show m / 2 < 18446744073709551616; omega)]
structure BitAt (x at' i : Nat) (l : List (Nat × AV)) : Prop where
  l5 : AM.look l 5 = .int .u64 ((x / 2 ^ i : Nat) : Int)
  l6 : AM.look l 6 = .int .i64 i
  l1 : AM.look l 1 = .int .i64 at'
theorem bit_step {x at' i : Nat} (hx : x < M64) (hi : i < at') (hat : at' ≤ 64) {l : List (Nat × AV)} (hl : BitAt x at' i l) (K : Tr → Heap → CRes) (h : Heap) :
    ∃ l2, seqA K (evω E body31_0 (fset 19 l) h) = K (fset 19 l2) h ∧ BitAt x at' (i + 1) l2 := by
  obtain ⟨l5, l6, l1⟩ := hl
  have hi' : (i : Int) < (at' : Int) := by omega
  have e3 : IntKind.wrap .i64 ((i : Int) + 1) = ((i + 1 : Nat) : Int) := by rw [wrap64_id ⟨by omega, by omega⟩]; omega
  have hd : x / 2 ^ i / 2 = x / 2 ^ (i + 1) := by rw [Nat.div_div_eq_div_mul, Nat.pow_succ]
  have e4 := half_nat (x / 2 ^ i) (Nat.lt_of_le_of_lt (Nat.div_le_self _ _) hx)
  rw [hd] at e4
  apply Exists.intro
  refine And.intro ?_ ?_
  · simp (maxSteps := 1000000) (implicitDefEqProofs := false) only [body31_0, l5, l6, l1, eq_true hi', e3, e4, b_quo _ _ _ _ (show (2 : Int) ≠ 0 by decide), enter_eq, setAll_cons, setAll_nil, w_seq, w_reg, o_nil, o_plain, o_skip, o_done, p_assign, p_move, p_pick, pickA_true, pickA_false, p_extract, exA_tup, p_call, opvs_nil, opvs_cons, v_int, v_bool, v_str, v_tmp, evThen_ok, setDst_fset, setDst_none, seqA_normal, seqA_ret, seqA_exit, w_block, blockA_normal, blockA_ret, blockA_exit, w_cond, condA_true, condA_false, w_ret, w_skip, w_exit, w_scope, p_binOp, b_add, b_sub, b_mul, b_eql, b_neq, b_eqlS, b_neqS, b_lss, b_leq, b_gtr, b_geq, p_unOp, u_neg, u_not, c_int, lift_some', look_cons, look_nil, isWant_true, isWant_false, isWant_skipped, Option.some.injEq, Bool.true_eq_false, Bool.false_eq_true, after_ret, after_normal, res_tmp, res_nil, obind_some', get_fset, resOf_some, one_one, one_two, one_nil, Nat.reduceAdd, Nat.reduceLT, Nat.reduceEqDiff, ↓reduceIte, decide_true, decide_false, Bool.not_true, Bool.not_false, List.getElem?_cons_zero, List.getElem?_cons_succ, List.getElem?_nil]
    rfl
  · refine ⟨?_, ?_, ?_⟩
    · simp only [look_cons, Nat.reduceEqDiff, ↓reduceIte]
    · simp only [look_cons, Nat.reduceEqDiff, ↓reduceIte]
    · simp only [look_cons, Nat.reduceEqDiff, ↓reduceIte, l1]
theorem bit_loop {x at' : Nat} (hx : x < M64) (hat : at' ≤ 64) (h : Heap) : ∀ (n i : Nat) (l : List (Nat × AV)), i + n = at' → BitAt x at' i l → ∃ l', evω E (.loop body31_0) (fset 19 l) h = .ok (.exit 0) (fset 19 l') h ∧ AM.look l' 5 = .int .u64 ((x / 2 ^ at' : Nat) : Int)
  | 0, i, l, hn, hl => by
    have : i = at' := by omega
    subst this
    obtain ⟨l5, l6, l1⟩ := hl
    rw [w_loop]
    apply Exists.intro
    refine And.intro ?_ ?_
    · simp (maxSteps := 1000000) (implicitDefEqProofs := false) only [body31_0, l6, l1, Int.lt_irrefl, enter_eq, setAll_cons, setAll_nil, w_seq, w_reg, o_nil, o_plain, o_skip, o_done, p_assign, p_move, p_pick, pickA_true, pickA_false, p_extract, exA_tup, p_call, opvs_nil, opvs_cons, v_int, v_bool, v_str, v_tmp, evThen_ok, setDst_fset, setDst_none, seqA_normal, seqA_ret, seqA_exit, w_block, blockA_normal, blockA_ret, blockA_exit, w_cond, condA_true, condA_false, w_ret, w_skip, w_exit, w_scope, p_binOp, b_add, b_sub, b_mul, b_eql, b_neq, b_eqlS, b_neqS, b_lss, b_leq, b_gtr, b_geq, p_unOp, u_neg, u_not, c_int, lift_some', look_cons, look_nil, isWant_true, isWant_false, isWant_skipped, Option.some.injEq, Bool.true_eq_false, Bool.false_eq_true, after_ret, after_normal, res_tmp, res_nil, obind_some', get_fset, resOf_some, one_one, one_two, one_nil, Nat.reduceAdd, Nat.reduceLT, Nat.reduceEqDiff, ↓reduceIte, decide_true, decide_false, Bool.not_true, Bool.not_false, List.getElem?_cons_zero, List.getElem?_cons_succ, List.getElem?_nil]
      rfl
    · simp only [look_cons, Nat.reduceEqDiff, ↓reduceIte, l5]
  | n + 1, i, l, hn, hl => by
    obtain ⟨l2, h1, h2⟩ := bit_step hx (show i < at' by omega) hat hl (evω E (.loop body31_0)) h
    obtain ⟨l', h3, h4⟩ := bit_loop hx hat h n (i + 1) l2 (by omega) h2
    exact ⟨l', by rw [w_loop, h1, h3], h4⟩
open Classical in
noncomputable def bitOut (x at' : Nat) (L : List (Nat × AV)) (h : Heap) : List (Nat × AV) :=
  if hx : ∃ l', evω E (.loop body31_0) (fset 19 L) h = .ok (.exit 0) (fset 19 l') h ∧ AM.look l' 5 = .int .u64 ((x / 2 ^ at' : Nat) : Int) then hx.choose else []
theorem bit_loopS {x at' : Nat} (hx : x < M64) (hat : at' ≤ 64) {L : List (Nat × AV)} {h : Heap} (l5 : AM.look L 5 = .int .u64 (x : Int)) (l6 : AM.look L 6 = .int .i64 0) (l1 : AM.look L 1 = .int .i64 at') :
    evω E (.loop body31_0) (fset 19 L) h = .ok (.exit 0) (fset 19 (bitOut x at' L h)) h ∧ AM.look (bitOut x at' L h) 5 = .int .u64 ((x / 2 ^ at' : Nat) : Int) := by
  have hx := bit_loop hx hat h at' 0 L (by omega) ⟨by rw [l5]; simp, l6, l1⟩
  unfold bitOut
  rw [dif_pos hx]
  exact hx.choose_spec
theorem Bit_ok (v : Int) {at' : Nat} (hat : at' ≤ 64) (h : Heap) : callω E 31 [.int .i64 v, .int .i64 at'] h = .ok (.bool ((ub M64 v).testBit at')) h := by
  have hx := ub_lt (M := M64) (by decide) v
  rw [call31 _ (by simp), d31_eq]
  have e1 := wrapU_ub v
  have e2 : decide ((((ub M64 v / 2 ^ at' : Nat) : Int).tmod 2) = 1) = (ub M64 v).testBit at' := by
    rw [Nat.testBit_eq_decide_div_mod_eq, decide_eq_decide]
    have : (((ub M64 v / 2 ^ at' : Nat) : Int).tmod 2) = ((ub M64 v / 2 ^ at' % 2 : Nat) : Int) := rfl
    rw [this]; omega
  have hS := fun {L} {h} l5 l6 l1 => bit_loopS (L := L) (h := h) hx hat l5 l6 l1
  have hS1 := fun {L} {h} l5 l6 l1 => (bit_loopS (L := L) (h := h) hx hat l5 l6 l1).1
  have hS2 : ∀ (L : List (Nat × AV)) (h : Heap), AM.look L 5 = .int .u64 ((ub M64 v : Nat) : Int) → AM.look L 6 = .int .i64 0 → AM.look L 1 = .int .i64 at' → AM.look (bitOut (ub M64 v) at' L h) 5 = .int .u64 ((ub M64 v / 2 ^ at' : Nat) : Int) := fun L h l5 l6 l1 => (bit_loopS (L := L) (h := h) hx hat l5 l6 l1).2
  simp (maxSteps := 1000000) (implicitDefEqProofs := false) only [d31, p_convert _ _ _ ti3 ti48, e1, hS1, hS2, b_rem _ _ _ _ (show (2 : Int) ≠ 0 by decide), e2, enter_eq, setAll_cons, setAll_nil, w_seq, w_reg, o_nil, o_plain, o_skip, o_done, p_assign, p_move, p_pick, pickA_true, pickA_false, p_extract, exA_tup, p_call, opvs_nil, opvs_cons, v_int, v_bool, v_str, v_tmp, evThen_ok, setDst_fset, setDst_none, seqA_normal, seqA_ret, seqA_exit, w_block, blockA_normal, blockA_ret, blockA_exit, w_cond, condA_true, condA_false, w_ret, w_skip, w_exit, w_scope, p_binOp, b_add, b_sub, b_mul, b_eql, b_neq, b_eqlS, b_neqS, b_lss, b_leq, b_gtr, b_geq, p_unOp, u_neg, u_not, c_int, lift_some', look_cons, look_nil, isWant_true, isWant_false, isWant_skipped, Option.some.injEq, Bool.true_eq_false, Bool.false_eq_true, after_ret, after_normal, res_tmp, res_nil, obind_some', get_fset, resOf_some, one_one, one_two, one_nil, Nat.reduceAdd, Nat.reduceLT, Nat.reduceEqDiff, ↓reduceIte, decide_true, decide_false, Bool.not_true, Bool.not_false, List.getElem?_cons_zero, List.getElem?_cons_succ, List.getElem?_nil]
end Go.Proofs.Word
namespace Go.Proofs.Word
open Go Go.AM
/-! ### Bit by bit -/
/-- What is done to each bit. -/
inductive BitOp where | band | bor | bxor
def BitOp.str : BitOp → List UInt8 | .band => [38] | .bor => [124] | .bxor => [94]
def BitOp.nat : BitOp → Nat → Nat → Nat | .band => fun x y => x &&& y | .bor => fun x y => x ||| y | .bxor => fun x y => x ^^^ y
def BitOp.bool : BitOp → Bool → Bool → Bool | .band => fun x y => x && y | .bor => fun x y => x || y | .bxor => fun x y => !decide (x = y)
theorem BitOp.test (o : BitOp) (x y i : Nat) : (o.nat x y).testBit i = o.bool (x.testBit i) (y.testBit i) := by
  cases o
  · exact Nat.testBit_and x y i
  · exact Nat.testBit_or x y i
  · show (x ^^^ y).testBit i = _
    rw [Nat.testBit_xor]
    show _ = !decide (x.testBit i = y.testBit i)
    cases x.testBit i <;> cases y.testBit i <;> rfl
theorem BitOp.lt (o : BitOp) {x y w : Nat} (hx : x < 2 ^ w) (hy : y < 2 ^ w) : o.nat x y < 2 ^ w := by
  cases o
  · exact Nat.lt_of_le_of_lt Nat.and_le_left hx
  · exact Nat.or_lt_two_pow hx hy
  · exact Nat.xor_lt_two_pow hx hy
theorem BitOp.mod (o : BitOp) (x y w : Nat) : o.nat x y % 2 ^ w = o.nat (x % 2 ^ w) (y % 2 ^ w) := by
  cases o
  · exact Nat.and_mod_two_pow
  · exact Nat.or_mod_two_pow
  · exact Nat.xor_mod_two_pow
structure BitsAt2 (T : AV) (o : BitOp) (a b : Int) (z n : Nat) (l : List (Nat × AV)) : Prop where
  l0 : AM.look l 0 = T
  l1 : AM.look l 1 = .str o.str
  l2 : AM.look l 2 = .int .i64 a
  l3 : AM.look l 3 = .int .i64 b
  l10 : AM.look l 10 = .int .u64 ((z / 2 ^ n : Nat) : Int)
  l11 : AM.look l 11 = .int .i64 ((n : Int) - 1)
theorem half_step (z m : Nat) : z / 2 ^ m = 2 * (z / 2 ^ (m + 1)) + (if z.testBit m then 1 else 0) := by
  have h1 : z / 2 ^ (m + 1) = z / 2 ^ m / 2 := by rw [Nat.div_div_eq_div_mul, Nat.pow_succ]
  rw [h1, Nat.testBit_eq_decide_div_mod_eq]
  by_cases h : z / 2 ^ m % 2 = 1
  · rw [if_pos (by simpa using h)]; omega
  · rw [if_neg (by simpa using h)]; omega
theorem b_neqB' (a b : Bool) : binOpA .neq (flatOf E 4) (.bool a) (.bool b) = some (.bool (!decide (a = b))) := by rw [fl4]; exact b_neqB a b
theorem bits2_step {T : AV} (o : BitOp) {a b : Int} {z m w : Nat} (hz : z = o.nat (ub M64 a) (ub M64 b) % 2 ^ w) (hw : w ≤ 64) (hm : m < w) {l : List (Nat × AV)} (hl : BitsAt2 T o a b z (m + 1) l) (K : Tr → Heap → CRes) (h : Heap) :
    ∃ l2, seqA K (evω E body24_0 (fset 56 l) h) = K (fset 56 l2) h ∧ BitsAt2 T o a b z m l2 := by
  obtain ⟨l0, l1, l2, l3, l10, l11⟩ := hl
  have hge : (0 : Int) ≤ (m : Int) := by omega
  have e0 : ((m + 1 : Nat) : Int) - 1 = (m : Int) := by omega
  have e1 : IntKind.wrap .i64 ((m : Int) - 1) = (m : Int) - 1 := wrap64_id ⟨by omega, by omega⟩
  rw [e0] at l11
  have hzl : z < M64 := by
    have h1 : z < 2 ^ w := by rw [hz]; exact Nat.mod_lt _ (Nat.two_pow_pos w)
    have h2 : (2 : Nat) ^ w ≤ 2 ^ 64 := Nat.pow_le_pow_right (by omega) hw
    have h3 : (2 : Nat) ^ 64 = M64 := by decide
    omega
  have hbit : z.testBit m = o.bool ((ub M64 a).testBit m) ((ub M64 b).testBit m) := by
    rw [hz, Nat.testBit_mod_two_pow, ← o.test]; simp [hm]
  have hst := half_step z m
  have hlt : z / 2 ^ m < M64 := Nat.lt_of_le_of_lt (Nat.div_le_self _ _) hzl
  have d2 : IntKind.wrap .u64 (((z / 2 ^ (m + 1) : Nat) : Int) * 2) = ((2 * (z / 2 ^ (m + 1)) : Nat) : Int) := by
    have : ((z / 2 ^ (m + 1) : Nat) : Int) * 2 = ((2 * (z / 2 ^ (m + 1)) : Nat) : Int) := by omega
    rw [this]; exact wrapU_nat (by have : z / 2 ^ m < M64 := hlt; omega)
  have B1 := fun h => Bit_ok a (at' := m) (by omega) h
  have B2 := fun h => Bit_ok b (at' := m) (by omega) h
  have q1 : (([124] : List UInt8) = [38]) = False := by simp
  have q2 : (([94] : List UInt8) = [38]) = False := by simp
  have q3 : (([94] : List UInt8) = [124]) = False := by simp
  have fin : ∀ bit : Bool, o.bool ((ub M64 a).testBit m) ((ub M64 b).testBit m) = bit →
      ∃ l2, seqA K (evω E body24_0 (fset 56 l) h) = K (fset 56 l2) h ∧ BitsAt2 T o a b z m l2 := by
    intro bit hb
    rw [hbit, hb] at hst
    generalize hx : (ub M64 a).testBit m = x at *
    generalize hy : (ub M64 b).testBit m = y at *
    cases bit with
    | false =>
      have d4 : ((2 * (z / 2 ^ (m + 1)) : Nat) : Int) = ((z / 2 ^ m : Nat) : Int) := by rw [hst]; simp
      cases o <;> cases x <;> cases y <;> first | (cases hb; done) | skip
      all_goals
        apply Exists.intro
        refine And.intro ?_ ?_
        · simp (maxSteps := 1000000) (implicitDefEqProofs := false) only [body24_0, l1, l2, l3, l10, l11, eq_true hge, e1, B1, B2, hx, hy, d2, d4, BitOp.str, q1, q2, q3, b_neqB', Bool.true_eq_false, Bool.false_eq_true, enter_eq, setAll_cons, setAll_nil, w_seq, w_reg, o_nil, o_plain, o_skip, o_done, p_assign, p_move, p_pick, pickA_true, pickA_false, p_extract, exA_tup, p_call, opvs_nil, opvs_cons, v_int, v_bool, v_str, v_tmp, evThen_ok, setDst_fset, setDst_none, seqA_normal, seqA_ret, seqA_exit, w_block, blockA_normal, blockA_ret, blockA_exit, w_cond, condA_true, condA_false, w_ret, w_skip, w_exit, w_scope, p_binOp, b_add, b_sub, b_mul, b_eql, b_neq, b_eqlS, b_neqS, b_lss, b_leq, b_gtr, b_geq, p_unOp, u_neg, u_not, c_int, lift_some', look_cons, look_nil, isWant_true, isWant_false, isWant_skipped, Option.some.injEq, Bool.true_eq_false, Bool.false_eq_true, after_ret, after_normal, res_tmp, res_nil, obind_some', get_fset, resOf_some, one_one, one_two, one_nil, Nat.reduceAdd, Nat.reduceLT, Nat.reduceEqDiff, ↓reduceIte, decide_true, decide_false, Bool.not_true, Bool.not_false, List.getElem?_cons_zero, List.getElem?_cons_succ, List.getElem?_nil]
          rfl
        · refine ⟨?_, ?_, ?_, ?_, ?_, ?_⟩ <;> simp only [look_cons, Nat.reduceEqDiff, ↓reduceIte, l0, l1, l2, l3]
    | true =>
      have d4 : IntKind.wrap .u64 (((2 * (z / 2 ^ (m + 1)) : Nat) : Int) + 1) = ((z / 2 ^ m : Nat) : Int) := by
        have : ((2 * (z / 2 ^ (m + 1)) : Nat) : Int) + 1 = ((z / 2 ^ m : Nat) : Int) := by rw [hst]; simp
        rw [this]; exact wrapU_nat hlt
      cases o <;> cases x <;> cases y <;> first | (cases hb; done) | skip
      all_goals
        apply Exists.intro
        refine And.intro ?_ ?_
        · simp (maxSteps := 1000000) (implicitDefEqProofs := false) only [body24_0, l1, l2, l3, l10, l11, eq_true hge, e1, B1, B2, hx, hy, d2, d4, BitOp.str, q1, q2, q3, b_neqB', Bool.true_eq_false, Bool.false_eq_true, enter_eq, setAll_cons, setAll_nil, w_seq, w_reg, o_nil, o_plain, o_skip, o_done, p_assign, p_move, p_pick, pickA_true, pickA_false, p_extract, exA_tup, p_call, opvs_nil, opvs_cons, v_int, v_bool, v_str, v_tmp, evThen_ok, setDst_fset, setDst_none, seqA_normal, seqA_ret, seqA_exit, w_block, blockA_normal, blockA_ret, blockA_exit, w_cond, condA_true, condA_false, w_ret, w_skip, w_exit, w_scope, p_binOp, b_add, b_sub, b_mul, b_eql, b_neq, b_eqlS, b_neqS, b_lss, b_leq, b_gtr, b_geq, p_unOp, u_neg, u_not, c_int, lift_some', look_cons, look_nil, isWant_true, isWant_false, isWant_skipped, Option.some.injEq, Bool.true_eq_false, Bool.false_eq_true, after_ret, after_normal, res_tmp, res_nil, obind_some', get_fset, resOf_some, one_one, one_two, one_nil, Nat.reduceAdd, Nat.reduceLT, Nat.reduceEqDiff, ↓reduceIte, decide_true, decide_false, Bool.not_true, Bool.not_false, List.getElem?_cons_zero, List.getElem?_cons_succ, List.getElem?_nil]
          rfl
        · refine ⟨?_, ?_, ?_, ?_, ?_, ?_⟩ <;> simp only [look_cons, Nat.reduceEqDiff, ↓reduceIte, l0, l1, l2, l3]
  exact fin _ rfl
end Go.Proofs.Word
namespace Go.Proofs.Word
open Go Go.AM
theorem bits2_loop {T : AV} (o : BitOp) {a b : Int} {z w : Nat} (hz : z = o.nat (ub M64 a) (ub M64 b) % 2 ^ w) (hw : w ≤ 64) (h : Heap) : ∀ (n : Nat) (l : List (Nat × AV)), n ≤ w → BitsAt2 T o a b z n l →
    ∃ l', evω E (.loop body24_0) (fset 56 l) h = .ok (.exit 0) (fset 56 l') h ∧ AM.look l' 10 = .int .u64 (z : Int) ∧ AM.look l' 0 = T
  | 0, l, hn, hl => by
    obtain ⟨l0, l1, l2, l3, l10, l11⟩ := hl
    have hge : ¬ (0 : Int) ≤ ((0 : Nat) : Int) - 1 := by omega
    rw [w_loop]
    apply Exists.intro
    refine ⟨?_, ?_, ?_⟩
    · simp (maxSteps := 1000000) (implicitDefEqProofs := false) only [body24_0, l11, eq_false hge, enter_eq, setAll_cons, setAll_nil, w_seq, w_reg, o_nil, o_plain, o_skip, o_done, p_assign, p_move, p_pick, pickA_true, pickA_false, p_extract, exA_tup, p_call, opvs_nil, opvs_cons, v_int, v_bool, v_str, v_tmp, evThen_ok, setDst_fset, setDst_none, seqA_normal, seqA_ret, seqA_exit, w_block, blockA_normal, blockA_ret, blockA_exit, w_cond, condA_true, condA_false, w_ret, w_skip, w_exit, w_scope, p_binOp, b_add, b_sub, b_mul, b_eql, b_neq, b_eqlS, b_neqS, b_lss, b_leq, b_gtr, b_geq, p_unOp, u_neg, u_not, c_int, lift_some', look_cons, look_nil, isWant_true, isWant_false, isWant_skipped, Option.some.injEq, Bool.true_eq_false, Bool.false_eq_true, after_ret, after_normal, res_tmp, res_nil, obind_some', get_fset, resOf_some, one_one, one_two, one_nil, Nat.reduceAdd, Nat.reduceLT, Nat.reduceEqDiff, ↓reduceIte, decide_true, decide_false, Bool.not_true, Bool.not_false, List.getElem?_cons_zero, List.getElem?_cons_succ, List.getElem?_nil]
      rfl
    · simp only [look_cons, Nat.reduceEqDiff, ↓reduceIte, l10]; simp
    · simp only [look_cons, Nat.reduceEqDiff, ↓reduceIte, l0]
  | n + 1, l, hn, hl => by
    obtain ⟨l2, h1, h2⟩ := bits2_step o hz hw (show n < w by omega) hl (evω E (.loop body24_0)) h
    obtain ⟨l', h3, h4⟩ := bits2_loop o hz hw h n l2 (by omega) h2
    exact ⟨l', by rw [w_loop, h1, h3], h4⟩
open Classical in
noncomputable def bits2Out (z : Nat) (L : List (Nat × AV)) (h : Heap) : List (Nat × AV) :=
  if hx : ∃ l', evω E (.loop body24_0) (fset 56 L) h = .ok (.exit 0) (fset 56 l') h ∧ AM.look l' 10 = .int .u64 (z : Int) ∧ AM.look l' 0 = AM.look L 0 then hx.choose else []
theorem bits2_loopS (o : BitOp) {a b T : Int} {z w : Nat} (hz : z = o.nat (ub M64 a) (ub M64 b) % 2 ^ w) (hw : w ≤ 64) {L : List (Nat × AV)} {h : Heap} (l0 : AM.look L 0 = .int .i64 T) (l1 : AM.look L 1 = .str o.str) (l2 : AM.look L 2 = .int .i64 a) (l3 : AM.look L 3 = .int .i64 b) (l10 : AM.look L 10 = .int .u64 0) (l11 : AM.look L 11 = .int .i64 ((w : Int) - 1)) :
    evω E (.loop body24_0) (fset 56 L) h = .ok (.exit 0) (fset 56 (bits2Out z L h)) h ∧ AM.look (bits2Out z L h) 10 = .int .u64 (z : Int) ∧ AM.look (bits2Out z L h) 0 = .int .i64 T := by
  have hz0 : z / 2 ^ w = 0 := Nat.div_eq_of_lt (by rw [hz]; exact Nat.mod_lt _ (Nat.two_pow_pos w))
  have hx := bits2_loop (T := AM.look L 0) o hz hw h w L (Nat.le_refl _) ⟨rfl, l1, l2, l3, by rw [l10, hz0]; rfl, l11⟩
  unfold bits2Out
  rw [dif_pos hx]
  exact ⟨hx.choose_spec.1, hx.choose_spec.2.1, hx.choose_spec.2.2.trans l0⟩
theorem RBits_ok (o : BitOp) {t : Int} {w M : Nat} (B : BitOps t w M) (hwr : ∀ z : Nat, wrapL t (IntKind.wrap .i64 (z : Int)) = (z : Int).bmod M) (a b : Int) (h : Heap) :
    callω E 24 [.int .i64 t, .str o.str, .int .i64 a, .int .i64 b] h = .ok (.int .i64 (((o.nat (ub M64 a) (ub M64 b) % 2 ^ w : Nat) : Int).bmod M)) h := by
  have hw := B.hw2
  have e1 : IntKind.wrap .i64 ((w : Int) - 1) = (w : Int) - 1 := wrap64_id ⟨by omega, by omega⟩
  generalize hz : o.nat (ub M64 a) (ub M64 b) % 2 ^ w = z
  have hS1 := fun {L} {h} l0 l1 l2 l3 l10 l11 => (bits2_loopS o (T := t) (L := L) (h := h) hz.symm hw.2 l0 l1 l2 l3 l10 l11).1
  have hS2 : ∀ (L : List (Nat × AV)) (h : Heap), AM.look L 0 = .int .i64 t → AM.look L 1 = .str o.str → AM.look L 2 = .int .i64 a → AM.look L 3 = .int .i64 b → AM.look L 10 = .int .u64 0 → AM.look L 11 = .int .i64 ((w : Int) - 1) → AM.look (bits2Out z L h) 10 = .int .u64 (z : Int) := fun L h l0 l1 l2 l3 l10 l11 => (bits2_loopS o (L := L) (h := h) hz.symm hw.2 l0 l1 l2 l3 l10 l11).2.1
  have hS3 : ∀ (L : List (Nat × AV)) (h : Heap), AM.look L 0 = .int .i64 t → AM.look L 1 = .str o.str → AM.look L 2 = .int .i64 a → AM.look L 3 = .int .i64 b → AM.look L 10 = .int .u64 0 → AM.look L 11 = .int .i64 ((w : Int) - 1) → AM.look (bits2Out z L h) 0 = .int .i64 t := fun L h l0 l1 l2 l3 l10 l11 => (bits2_loopS o (L := L) (h := h) hz.symm hw.2 l0 l1 l2 l3 l10 l11).2.2
  have hW := fun h => RWrap_ok t (wrap64_in (z : Int)) h
  rw [hwr] at hW
  rw [call24 _ (by simp), d24_eq]
  simp (maxSteps := 1000000) (implicitDefEqProofs := false) only [d24, RWidth_ok, B.width, e1, hS1, hS2, hS3, p_convert _ _ _ ti48 ti3, hW, enter_eq, setAll_cons, setAll_nil, w_seq, w_reg, o_nil, o_plain, o_skip, o_done, p_assign, p_move, p_pick, pickA_true, pickA_false, p_extract, exA_tup, p_call, opvs_nil, opvs_cons, v_int, v_bool, v_str, v_tmp, evThen_ok, setDst_fset, setDst_none, seqA_normal, seqA_ret, seqA_exit, w_block, blockA_normal, blockA_ret, blockA_exit, w_cond, condA_true, condA_false, w_ret, w_skip, w_exit, w_scope, p_binOp, b_add, b_sub, b_mul, b_eql, b_neq, b_eqlS, b_neqS, b_lss, b_leq, b_gtr, b_geq, p_unOp, u_neg, u_not, c_int, lift_some', look_cons, look_nil, isWant_true, isWant_false, isWant_skipped, Option.some.injEq, Bool.true_eq_false, Bool.false_eq_true, after_ret, after_normal, res_tmp, res_nil, obind_some', get_fset, resOf_some, one_one, one_two, one_nil, Nat.reduceAdd, Nat.reduceLT, Nat.reduceEqDiff, ↓reduceIte, decide_true, decide_false, Bool.not_true, Bool.not_false, List.getElem?_cons_zero, List.getElem?_cons_succ, List.getElem?_nil]
/-! ### Place by place -/
structure ShiftAt (T : AV) (op : List UInt8) (n i : Nat) (f : Nat → Int) (l : List (Nat × AV)) : Prop where
  l0 : AM.look l 0 = T
  l1 : AM.look l 1 = .str op
  l2 : AM.look l 2 = .int .i64 (f i)
  l10 : AM.look l 10 = .int .i64 n
  l11 : AM.look l 11 = .int .i64 i
theorem shift_step {t : Int} {op : List UInt8} {n i : Nat} {f : Nat → Int} (hi : i < n) (hn : n ≤ 64) (hop : op = [60, 60] ∨ op = [62, 62]) (hl1 : op = [60, 60] → ∀ h, callω E 18 [.int .i64 t, .int .i64 (IntKind.wrap .i64 (f i + f i))] h = .ok (.int .i64 (f (i + 1))) h)
    (hr1 : op = [62, 62] → In64 (f i) ∧ f (i + 1) = f i / 2) {l : List (Nat × AV)} (hl : ShiftAt (.int .i64 t) op n i f l) (K : Tr → Heap → CRes) (h : Heap) :
    ∃ l2, seqA K (evω E body25_0 (fset 47 l) h) = K (fset 47 l2) h ∧ ShiftAt (.int .i64 t) op n (i + 1) f l2 := by
  obtain ⟨l0, l1, l2, l10, l11⟩ := hl
  have hi' : (i : Int) < (n : Int) := by omega
  have e3 : IntKind.wrap .i64 ((i : Int) + 1) = ((i + 1 : Nat) : Int) := by rw [wrap64_id ⟨by omega, by omega⟩]; omega
  have q : (([62, 62] : List UInt8) = [60, 60]) = False := by simp
  rcases hop with hop | hop
  · have hW := hl1 hop
    subst hop
    apply Exists.intro
    refine And.intro ?_ ?_
    · simp (maxSteps := 1000000) (implicitDefEqProofs := false) only [body25_0, l0, l1, l2, l10, l11, eq_true hi', e3, hW, enter_eq, setAll_cons, setAll_nil, w_seq, w_reg, o_nil, o_plain, o_skip, o_done, p_assign, p_move, p_pick, pickA_true, pickA_false, p_extract, exA_tup, p_call, opvs_nil, opvs_cons, v_int, v_bool, v_str, v_tmp, evThen_ok, setDst_fset, setDst_none, seqA_normal, seqA_ret, seqA_exit, w_block, blockA_normal, blockA_ret, blockA_exit, w_cond, condA_true, condA_false, w_ret, w_skip, w_exit, w_scope, p_binOp, b_add, b_sub, b_mul, b_eql, b_neq, b_eqlS, b_neqS, b_lss, b_leq, b_gtr, b_geq, p_unOp, u_neg, u_not, c_int, lift_some', look_cons, look_nil, isWant_true, isWant_false, isWant_skipped, Option.some.injEq, Bool.true_eq_false, Bool.false_eq_true, after_ret, after_normal, res_tmp, res_nil, obind_some', get_fset, resOf_some, one_one, one_two, one_nil, Nat.reduceAdd, Nat.reduceLT, Nat.reduceEqDiff, ↓reduceIte, decide_true, decide_false, Bool.not_true, Bool.not_false, List.getElem?_cons_zero, List.getElem?_cons_succ, List.getElem?_nil]
      rfl
    · refine ⟨?_, ?_, ?_, ?_, ?_⟩ <;> simp only [look_cons, Nat.reduceEqDiff, ↓reduceIte, l0, l1, l10]
  · obtain ⟨hin, hf⟩ := hr1 hop
    subst hop
    generalize hF : f i = F at *
    have h2 : (2 : Int) ≠ 0 := by decide
    have hm2 := tmod_lt F (B := 2) h2
    by_cases hneg : F < 0
    · by_cases hodd : F.tmod 2 = 0
      · have e4 : IntKind.wrap .i64 (F.tdiv 2) = F / 2 := by
          have : F.tdiv 2 = F / 2 := Int.tdiv_eq_ediv_of_dvd (Int.dvd_of_tmod_eq_zero hodd)
          rw [this]; exact wrap64_id ⟨by have := hin.1; omega, by have := hin.2; omega⟩
        apply Exists.intro
        refine And.intro ?_ ?_
        · simp (maxSteps := 1000000) (implicitDefEqProofs := false) only [body25_0, l0, l1, l2, l10, l11, eq_true hi', e3, q, eq_true hneg, eq_true hodd, b_rem _ _ _ _ h2, b_quo _ _ _ _ h2, e4, enter_eq, setAll_cons, setAll_nil, w_seq, w_reg, o_nil, o_plain, o_skip, o_done, p_assign, p_move, p_pick, pickA_true, pickA_false, p_extract, exA_tup, p_call, opvs_nil, opvs_cons, v_int, v_bool, v_str, v_tmp, evThen_ok, setDst_fset, setDst_none, seqA_normal, seqA_ret, seqA_exit, w_block, blockA_normal, blockA_ret, blockA_exit, w_cond, condA_true, condA_false, w_ret, w_skip, w_exit, w_scope, p_binOp, b_add, b_sub, b_mul, b_eql, b_neq, b_eqlS, b_neqS, b_lss, b_leq, b_gtr, b_geq, p_unOp, u_neg, u_not, c_int, lift_some', look_cons, look_nil, isWant_true, isWant_false, isWant_skipped, Option.some.injEq, Bool.true_eq_false, Bool.false_eq_true, after_ret, after_normal, res_tmp, res_nil, obind_some', get_fset, resOf_some, one_one, one_two, one_nil, Nat.reduceAdd, Nat.reduceLT, Nat.reduceEqDiff, ↓reduceIte, decide_true, decide_false, Bool.not_true, Bool.not_false, List.getElem?_cons_zero, List.getElem?_cons_succ, List.getElem?_nil]
          rfl
        · refine ⟨?_, ?_, ?_, ?_, ?_⟩ <;> simp only [look_cons, Nat.reduceEqDiff, ↓reduceIte, l0, l1, l10, hf]
      · have e5 : F.tdiv 2 - 1 = F / 2 := by
          have h5 := Int.mul_tdiv_add_tmod F 2
          have h6 := (tmod_sign F 2).2 (by omega)
          omega
        have e4 : IntKind.wrap .i64 (F.tdiv 2) = F.tdiv 2 := wrap64_id ⟨by have := hin.1; omega, by have := hin.2; omega⟩
        have e6 : IntKind.wrap .i64 (F.tdiv 2 - 1) = F / 2 := by rw [e5]; exact wrap64_id ⟨by have := hin.1; omega, by have := hin.2; omega⟩
        apply Exists.intro
        refine And.intro ?_ ?_
        · simp (maxSteps := 1000000) (implicitDefEqProofs := false) only [body25_0, l0, l1, l2, l10, l11, eq_true hi', e3, q, eq_true hneg, eq_false hodd, b_rem _ _ _ _ h2, b_quo _ _ _ _ h2, e4, e6, enter_eq, setAll_cons, setAll_nil, w_seq, w_reg, o_nil, o_plain, o_skip, o_done, p_assign, p_move, p_pick, pickA_true, pickA_false, p_extract, exA_tup, p_call, opvs_nil, opvs_cons, v_int, v_bool, v_str, v_tmp, evThen_ok, setDst_fset, setDst_none, seqA_normal, seqA_ret, seqA_exit, w_block, blockA_normal, blockA_ret, blockA_exit, w_cond, condA_true, condA_false, w_ret, w_skip, w_exit, w_scope, p_binOp, b_add, b_sub, b_mul, b_eql, b_neq, b_eqlS, b_neqS, b_lss, b_leq, b_gtr, b_geq, p_unOp, u_neg, u_not, c_int, lift_some', look_cons, look_nil, isWant_true, isWant_false, isWant_skipped, Option.some.injEq, Bool.true_eq_false, Bool.false_eq_true, after_ret, after_normal, res_tmp, res_nil, obind_some', get_fset, resOf_some, one_one, one_two, one_nil, Nat.reduceAdd, Nat.reduceLT, Nat.reduceEqDiff, ↓reduceIte, decide_true, decide_false, Bool.not_true, Bool.not_false, List.getElem?_cons_zero, List.getElem?_cons_succ, List.getElem?_nil]
          rfl
        · refine ⟨?_, ?_, ?_, ?_, ?_⟩ <;> simp only [look_cons, Nat.reduceEqDiff, ↓reduceIte, l0, l1, l10, hf]
    · have e4 : IntKind.wrap .i64 (F.tdiv 2) = F / 2 := by
        have : F.tdiv 2 = F / 2 := Int.tdiv_eq_ediv_of_nonneg (by omega)
        rw [this]; exact wrap64_id ⟨by have := hin.1; omega, by have := hin.2; omega⟩
      apply Exists.intro
      refine And.intro ?_ ?_
      · simp (maxSteps := 1000000) (implicitDefEqProofs := false) only [body25_0, l0, l1, l2, l10, l11, eq_true hi', e3, q, eq_false hneg, b_rem _ _ _ _ h2, b_quo _ _ _ _ h2, e4, enter_eq, setAll_cons, setAll_nil, w_seq, w_reg, o_nil, o_plain, o_skip, o_done, p_assign, p_move, p_pick, pickA_true, pickA_false, p_extract, exA_tup, p_call, opvs_nil, opvs_cons, v_int, v_bool, v_str, v_tmp, evThen_ok, setDst_fset, setDst_none, seqA_normal, seqA_ret, seqA_exit, w_block, blockA_normal, blockA_ret, blockA_exit, w_cond, condA_true, condA_false, w_ret, w_skip, w_exit, w_scope, p_binOp, b_add, b_sub, b_mul, b_eql, b_neq, b_eqlS, b_neqS, b_lss, b_leq, b_gtr, b_geq, p_unOp, u_neg, u_not, c_int, lift_some', look_cons, look_nil, isWant_true, isWant_false, isWant_skipped, Option.some.injEq, Bool.true_eq_false, Bool.false_eq_true, after_ret, after_normal, res_tmp, res_nil, obind_some', get_fset, resOf_some, one_one, one_two, one_nil, Nat.reduceAdd, Nat.reduceLT, Nat.reduceEqDiff, ↓reduceIte, decide_true, decide_false, Bool.not_true, Bool.not_false, List.getElem?_cons_zero, List.getElem?_cons_succ, List.getElem?_nil]
        rfl
      · refine ⟨?_, ?_, ?_, ?_, ?_⟩ <;> simp only [look_cons, Nat.reduceEqDiff, ↓reduceIte, l0, l1, l10, hf]
end Go.Proofs.Word
namespace Go.Proofs.Word
open Go Go.AM
theorem shift_loop {t : Int} {op : List UInt8} {n : Nat} {f : Nat → Int} (hn : n ≤ 64) (hop : op = [60, 60] ∨ op = [62, 62]) (hl1 : op = [60, 60] → ∀ i, i < n → ∀ h, callω E 18 [.int .i64 t, .int .i64 (IntKind.wrap .i64 (f i + f i))] h = .ok (.int .i64 (f (i + 1))) h)
    (hr1 : op = [62, 62] → ∀ i, i < n → In64 (f i) ∧ f (i + 1) = f i / 2) (h : Heap) : ∀ (m i : Nat) (l : List (Nat × AV)), i + m = n → ShiftAt (.int .i64 t) op n i f l →
    ∃ l', evω E (.loop body25_0) (fset 47 l) h = .ok (.exit 0) (fset 47 l') h ∧ AM.look l' 2 = .int .i64 (f n)
  | 0, i, l, hm, hl => by
    have : i = n := by omega
    subst this
    obtain ⟨l0, l1, l2, l10, l11⟩ := hl
    rw [w_loop]
    apply Exists.intro
    refine And.intro ?_ ?_
    · simp (maxSteps := 1000000) (implicitDefEqProofs := false) only [body25_0, l10, l11, Int.lt_irrefl, enter_eq, setAll_cons, setAll_nil, w_seq, w_reg, o_nil, o_plain, o_skip, o_done, p_assign, p_move, p_pick, pickA_true, pickA_false, p_extract, exA_tup, p_call, opvs_nil, opvs_cons, v_int, v_bool, v_str, v_tmp, evThen_ok, setDst_fset, setDst_none, seqA_normal, seqA_ret, seqA_exit, w_block, blockA_normal, blockA_ret, blockA_exit, w_cond, condA_true, condA_false, w_ret, w_skip, w_exit, w_scope, p_binOp, b_add, b_sub, b_mul, b_eql, b_neq, b_eqlS, b_neqS, b_lss, b_leq, b_gtr, b_geq, p_unOp, u_neg, u_not, c_int, lift_some', look_cons, look_nil, isWant_true, isWant_false, isWant_skipped, Option.some.injEq, Bool.true_eq_false, Bool.false_eq_true, after_ret, after_normal, res_tmp, res_nil, obind_some', get_fset, resOf_some, one_one, one_two, one_nil, Nat.reduceAdd, Nat.reduceLT, Nat.reduceEqDiff, ↓reduceIte, decide_true, decide_false, Bool.not_true, Bool.not_false, List.getElem?_cons_zero, List.getElem?_cons_succ, List.getElem?_nil]
      rfl
    · simp only [look_cons, Nat.reduceEqDiff, ↓reduceIte, l2]
  | m + 1, i, l, hm, hl => by
    obtain ⟨l2, h1, h2⟩ := shift_step (show i < n by omega) hn hop (fun e => hl1 e i (by omega)) (fun e => hr1 e i (by omega)) hl (evω E (.loop body25_0)) h
    obtain ⟨l', h3, h4⟩ := shift_loop hn hop hl1 hr1 h m (i + 1) l2 (by omega) h2
    exact ⟨l', by rw [w_loop, h1, h3], h4⟩
open Classical in
noncomputable def shiftOut (x : Int) (L : List (Nat × AV)) (h : Heap) : List (Nat × AV) :=
  if hx : ∃ l', evω E (.loop body25_0) (fset 47 L) h = .ok (.exit 0) (fset 47 l') h ∧ AM.look l' 2 = .int .i64 x then hx.choose else []
theorem shift_loopS {t : Int} {op : List UInt8} {n : Nat} {f : Nat → Int} (hn : n ≤ 64) (hop : op = [60, 60] ∨ op = [62, 62]) (hl1 : op = [60, 60] → ∀ i, i < n → ∀ h, callω E 18 [.int .i64 t, .int .i64 (IntKind.wrap .i64 (f i + f i))] h = .ok (.int .i64 (f (i + 1))) h)
    (hr1 : op = [62, 62] → ∀ i, i < n → In64 (f i) ∧ f (i + 1) = f i / 2) {L : List (Nat × AV)} {h : Heap} (l0 : AM.look L 0 = .int .i64 t) (l1 : AM.look L 1 = .str op) (l2 : AM.look L 2 = .int .i64 (f 0)) (l10 : AM.look L 10 = .int .i64 n) (l11 : AM.look L 11 = .int .i64 0) :
    evω E (.loop body25_0) (fset 47 L) h = .ok (.exit 0) (fset 47 (shiftOut (f n) L h)) h ∧ AM.look (shiftOut (f n) L h) 2 = .int .i64 (f n) := by
  have hx := shift_loop hn hop hl1 hr1 h n 0 L (by omega) ⟨l0, l1, l2, l10, l11⟩
  unfold shiftOut
  rw [dif_pos hx]
  exact hx.choose_spec
theorem RShift_ok {t : Int} {w M : Nat} (B : BitOps t w M) {op : List UInt8} {a b : Int} {n : Nat} {f : Nat → Int} (hb : b % w = n) (hnw : n < w) (hop : op = [60, 60] ∨ op = [62, 62]) (hl1 : op = [60, 60] → ∀ i, i < n → ∀ h, callω E 18 [.int .i64 t, .int .i64 (IntKind.wrap .i64 (f i + f i))] h = .ok (.int .i64 (f (i + 1))) h)
    (hr1 : op = [62, 62] → ∀ i, i < n → In64 (f i) ∧ f (i + 1) = f i / 2) (ha : a = f 0) (h : Heap) : callω E 25 [.int .i64 t, .str op, .int .i64 a, .int .i64 b] h = .ok (.int .i64 (f n)) h := by
  have hw := B.hw2
  have hn : n ≤ 64 := by omega
  have hw0 : (w : Int) ≠ 0 := by omega
  have hlt := tmod_lt b hw0
  have hS1 := fun {L} {h} l0 l1 l2 l10 l11 => (shift_loopS hn hop hl1 hr1 (L := L) (h := h) l0 l1 l2 l10 l11).1
  have hS2 : ∀ (L : List (Nat × AV)) (h : Heap), AM.look L 0 = .int .i64 t → AM.look L 1 = .str op → AM.look L 2 = .int .i64 (f 0) → AM.look L 10 = .int .i64 n → AM.look L 11 = .int .i64 0 → AM.look (shiftOut (f n) L h) 2 = .int .i64 (f n) := fun L h l0 l1 l2 l10 l11 => (shift_loopS hn hop hl1 hr1 (L := L) (h := h) l0 l1 l2 l10 l11).2
  rw [call25 _ (by simp), d25_eq, ha]
  have hd : (b.tmod w) % w = b % w := by
    rw [Int.tmod_eq_emod]; split
    · simp
    · rw [Int.sub_emod, Int.emod_emod]; simp
  by_cases hr : b.tmod w < 0
  · have e1 : IntKind.wrap .i64 (b.tmod w + w) = (n : Int) := by
      rw [wrap64_id ⟨by omega, by omega⟩, ← hb, ← hd, ← Int.add_emod_right, Int.emod_eq_of_lt (by omega) (by omega)]
    simp (maxSteps := 1000000) (implicitDefEqProofs := false) only [d25, RWidth_ok, B.width, b_rem _ _ _ _ hw0, eq_true hr, e1, hS1, hS2, enter_eq, setAll_cons, setAll_nil, w_seq, w_reg, o_nil, o_plain, o_skip, o_done, p_assign, p_move, p_pick, pickA_true, pickA_false, p_extract, exA_tup, p_call, opvs_nil, opvs_cons, v_int, v_bool, v_str, v_tmp, evThen_ok, setDst_fset, setDst_none, seqA_normal, seqA_ret, seqA_exit, w_block, blockA_normal, blockA_ret, blockA_exit, w_cond, condA_true, condA_false, w_ret, w_skip, w_exit, w_scope, p_binOp, b_add, b_sub, b_mul, b_eql, b_neq, b_eqlS, b_neqS, b_lss, b_leq, b_gtr, b_geq, p_unOp, u_neg, u_not, c_int, lift_some', look_cons, look_nil, isWant_true, isWant_false, isWant_skipped, Option.some.injEq, Bool.true_eq_false, Bool.false_eq_true, after_ret, after_normal, res_tmp, res_nil, obind_some', get_fset, resOf_some, one_one, one_two, one_nil, Nat.reduceAdd, Nat.reduceLT, Nat.reduceEqDiff, ↓reduceIte, decide_true, decide_false, Bool.not_true, Bool.not_false, List.getElem?_cons_zero, List.getElem?_cons_succ, List.getElem?_nil]
  · have e1 : b.tmod w = (n : Int) := by
      rw [← hb, ← hd, Int.emod_eq_of_lt (by omega) (by omega)]
    have hr' : ¬ (n : Int) < 0 := by omega
    simp (maxSteps := 1000000) (implicitDefEqProofs := false) only [d25, RWidth_ok, B.width, b_rem _ _ _ _ hw0, e1, eq_false hr', hS1, hS2, enter_eq, setAll_cons, setAll_nil, w_seq, w_reg, o_nil, o_plain, o_skip, o_done, p_assign, p_move, p_pick, pickA_true, pickA_false, p_extract, exA_tup, p_call, opvs_nil, opvs_cons, v_int, v_bool, v_str, v_tmp, evThen_ok, setDst_fset, setDst_none, seqA_normal, seqA_ret, seqA_exit, w_block, blockA_normal, blockA_ret, blockA_exit, w_cond, condA_true, condA_false, w_ret, w_skip, w_exit, w_scope, p_binOp, b_add, b_sub, b_mul, b_eql, b_neq, b_eqlS, b_neqS, b_lss, b_leq, b_gtr, b_geq, p_unOp, u_neg, u_not, c_int, lift_some', look_cons, look_nil, isWant_true, isWant_false, isWant_skipped, Option.some.injEq, Bool.true_eq_false, Bool.false_eq_true, after_ret, after_normal, res_tmp, res_nil, obind_some', get_fset, resOf_some, one_one, one_two, one_nil, Nat.reduceAdd, Nat.reduceLT, Nat.reduceEqDiff, ↓reduceIte, decide_true, decide_false, Bool.not_true, Bool.not_false, List.getElem?_cons_zero, List.getElem?_cons_succ, List.getElem?_nil]
end Go.Proofs.Word
namespace Go.Proofs.Word
open Go Go.AM
/-! ### The document's answer -/
structure RefOps (t : Int) (w M : Nat) (k : IntKind) : Prop where
  B : BitOps t w M
  dvd : w ∣ M
  sub64 : M ∣ M64
  hwr : ∀ x : Int, wrapL t (IntKind.wrap .i64 x) = x.bmod M
  hA : ∀ a, In64 a → wrapL t a = a.bmod M
  rng : ∀ a, In64 a → In64 (wrapL t a)
  sub : ∀ a b, lawL t [45] a b = (a - b).bmod M
  mul : ∀ a b, lawL t [42] a b = (a * b).bmod M
  ne : ∀ op a b, ¬ op = [47] → ¬ op = [37] → binL t op a b = (lawL t op a b, 0)
  div : ∀ op a b, op = [47] ∨ op = [37] → binL t op a b = divL k op (wrapL t a) (wrapL t b)
  dn : ∀ a, In64 a → wrapL t (IntKind.wrap .i64 (0 - wrapL t a)) = k.wrap (0 - wrapL t a)
  dm : ∀ a, In64 a → ¬ (wrapL t a ≠ 0 ∧ k.wrap (0 - wrapL t a) = wrapL t a) → IntKind.wrap .i64 (0 - wrapL t a) = k.wrap ((wrapL t a).tdiv (-1))
  dq : ∀ a b, In64 a → wrapL t b ≠ -1 → IntKind.wrap .i64 ((wrapL t a).tdiv (wrapL t b)) = k.wrap ((wrapL t a).tdiv (wrapL t b))
  ty : t = 1 ∨ t = 2
theorem bmod64 {m k : Nat} (n : Int) (hm : m * k = M64) : (IntKind.wrap .i64 n).bmod m = n.bmod m := by
  have := bmod_cong (m := m) (k := k) n 0 hm
  have h0 : IntKind.wrap .i64 0 = 0 := by decide
  simpa [h0] using this
theorem ref1 : RefOps 1 32 4294967296 .i32 where
  B := bits1
  dvd := by decide
  sub64 := by decide
  hwr x := by rw [wrapL1]; exact bmod64 (k := 4294967296) x (by decide)
  hA a _ := wrapL1 a
  rng a _ := by rw [wrapL1, ← wrap32_bmod]; exact (wrap32_in a).in64
  sub := sub1
  mul := mul1
  ne op a b h1 h2 := by simp [lawL, binL, core, h1, h2]
  div op a b h := by simp [binL, core, h, wrapL]
  dn a _ := by
    rw [wrapL1, wrapL1, bmod64 (m := 4294967296) (k := 4294967296) _ (by decide), ← wrap32_bmod]
  dm a _ hn := by
    have h1 := wrap32_in a
    have e : wrapL 1 a = IntKind.wrap .i32 a := by rw [wrapL1, wrap32_bmod]
    rw [e] at hn ⊢
    generalize IntKind.wrap .i32 a = A at *
    obtain ⟨x, y⟩ := h1
    have e2 : A.tdiv (-1) = 0 - A := by rw [Int.tdiv_neg, Int.tdiv_one]; omega
    have hne : A ≠ -2147483648 := by
      intro h; subst h; exact hn ⟨by decide, by decide⟩
    rw [e2, wrap64_id ⟨by omega, by omega⟩, wrap32_id ⟨by omega, by omega⟩]
  dq a b _ hn := by
    have h1 := wrap32_in a
    have h2 := wrap32_in b
    have e : ∀ x, wrapL 1 x = IntKind.wrap .i32 x := fun x => by rw [wrapL1, wrap32_bmod]
    rw [e] at hn ⊢
    rw [e] 
    generalize IntKind.wrap .i32 a = A at *
    generalize IntKind.wrap .i32 b = D at *
    obtain ⟨x, y⟩ := h1
    have h9 : (A.tdiv D).natAbs = A.natAbs / D.natAbs := Int.natAbs_tdiv A D
    have h8 : A.natAbs / D.natAbs ≤ A.natAbs := Nat.div_le_self _ _
    have hr : In32 (A.tdiv D) := by
      refine ⟨by omega, ?_⟩
      by_cases hp : A.tdiv D ≤ 2147483647
      · exact hp
      · exfalso
        have hq : A.natAbs / D.natAbs = A.natAbs := by omega
        have hD : D.natAbs = 1 := by
          rcases Nat.lt_or_ge 1 D.natAbs with h | h
          · have := Nat.div_lt_self (show 0 < A.natAbs by omega) h; omega
          · have : D.natAbs ≠ 0 := fun e => by rw [e] at hq; simp at hq; omega
            omega
        have hD1 : D = 1 := by omega
        subst hD1
        rw [Int.tdiv_one] at hp; omega
    rw [wrap64_id hr.in64, wrap32_id hr]
  ty := .inl rfl
theorem ref2 : RefOps 2 64 18446744073709551616 .i64 where
  B := bits2
  dvd := by decide
  sub64 := by decide
  hwr x := by simp [wrapL, wrap64_bmod]
  hA a h := wrapL2 h
  rng a h := by simpa [wrapL] using h
  sub := sub2
  mul := mul2
  ne op a b h1 h2 := by simp [lawL, binL, core, h1, h2]
  div op a b h := by simp [binL, core, h, wrapL]
  dn a _ := by simp [wrapL]
  dm a h hn := by
    have e : wrapL 2 a = a := by simp [wrapL]
    rw [e, show a.tdiv (-1) = 0 - a by rw [Int.tdiv_neg, Int.tdiv_one]; omega]
  dq a b _ _ := rfl
  ty := .inr rfl
theorem ub_sub {M : Nat} (hM : 0 < M) (hd : M ∣ M64) (a A : Int) (hA : A = a.bmod M) : ub M64 A % M = ub M a := by
  have h1 := ub_cast (M := M64) (by decide) A
  have h2 := ub_cast hM a
  have h3 : ((ub M64 A % M : Nat) : Int) = a % M := by
    rw [Int.natCast_emod, h1, Int.emod_emod_of_dvd A (Int.natCast_dvd_natCast.2 hd), hA, Int.bmod_emod]
  omega
theorem hone {p : Prop} [Decidable p] (h : Heap) : callω E 26 [.bool (decide p)] h = .ok (.int .i64 (if p then 1 else 0)) h := by
  rw [Rone_ok]; simp
theorem hone' {p : Prop} [Decidable p] (h : Heap) : callω E 26 [.bool (!decide p)] h = .ok (.int .i64 (if p then 0 else 1)) h := by
  rw [Rone_ok]; by_cases hp : p <;> simp [hp]
set_option maxHeartbeats 4000000 in
theorem RBin_kind {t : Int} {w M : Nat} {k : IntKind} (R : RefOps t w M k) (long : Bool) (hlong : (if long = true then (2 : Int) else 1) = t) (op : List UInt8) {a b : Int} (ha : In64 a) (hb : In64 b) (h : Heap) :
    callω E 15 [.int .i64 t, .str op, .int .i64 a, .int .i64 b] h = .ok (.tup [.int .i64 (binL t op a b).1, .int .i64 (binL t op a b).2]) h := by
  have hM : 0 < M := by rw [R.B.hM]; exact Nat.two_pow_pos w
  have hw2 := R.B.hw2
  obtain ⟨olt, oeq, ogt, ole, oge, one', otg⟩ := (hlong ▸ order_ok long a b : OrderOk t a b)
  have hWa := fun h => RWrap_ok t ha h
  have hWb := fun h => RWrap_ok t hb h
  have hW : ∀ (x : Int) (h : Heap), callω E 18 [.int .i64 t, .int .i64 (IntKind.wrap .i64 x)] h = .ok (.int .i64 (x.bmod M)) h := fun x h => by rw [RWrap_ok t (wrap64_in x), R.hwr]
  have eA := R.hA a ha
  have eB := R.hA b hb
  have rA := R.rng a ha
  have hDiv := fun h => RDiv_ok (t := t) (k := k) op (b := wrapL t b) rA (R.dn a ha) (R.dm a ha) (fun hne => R.dq a b ha hne) h
  have hBits : ∀ (o : BitOp), op = o.str → ∀ h, callω E 24 [.int .i64 t, .str op, .int .i64 (wrapL t a), .int .i64 (wrapL t b)] h = .ok (.int .i64 (((o.nat (ub M a) (ub M b) : Nat) : Int).bmod M)) h := fun o ho h => by
    rw [ho, RBits_ok o R.B (fun z => R.hwr z), o.mod, ← R.B.hM, ub_sub hM R.sub64 a _ eA, ub_sub hM R.sub64 b _ eB]
  have hbw : wrapL t b % w = b % w := by
    have hd : (w : Int) ∣ (M : Int) := Int.natCast_dvd_natCast.2 R.dvd
    rw [eB, ← Int.emod_emod_of_dvd _ hd, Int.bmod_emod, Int.emod_emod_of_dvd _ hd]
  have hb0 := Int.emod_nonneg b (show (w : Int) ≠ 0 by omega)
  have hbl := Int.emod_lt_of_pos b (show (0 : Int) < w by omega)
  obtain ⟨n, hn⟩ : ∃ n : Nat, b % w = n := ⟨(b % w).toNat, by omega⟩
  have hnw : n < w := by omega
  have fS : ∀ i : Nat, ((wrapL t a * (2 ^ i : Nat)).bmod M + (wrapL t a * (2 ^ i : Nat)).bmod M).bmod M = (wrapL t a * (2 ^ (i + 1) : Nat)).bmod M := fun i => by
    rw [Int.bmod_add_bmod, Int.add_bmod_bmod, ← Int.mul_add]
    have : ((2 ^ i : Nat) : Int) + ((2 ^ i : Nat) : Int) = ((2 ^ (i + 1) : Nat) : Int) := by rw [Nat.pow_succ]; omega
    rw [this]
  have hShl : op = [60, 60] → ∀ h, callω E 25 [.int .i64 t, .str op, .int .i64 (wrapL t a), .int .i64 (wrapL t b)] h = .ok (.int .i64 ((a * (2 ^ n : Nat)).bmod M)) h := fun ho h => by
    have := RShift_ok R.B (op := op) (a := wrapL t a) (b := wrapL t b) (n := n) (f := fun i => (wrapL t a * (2 ^ i : Nat)).bmod M) (by rw [hbw, hn]) hnw (.inl ho) (fun _ i _ h => by rw [hW]; simp only [fS]) (fun e => by rw [ho] at e; cases e) (by show wrapL t a = _; rw [eA]; simp) h
    rw [this]
    have : (wrapL t a * ((2 ^ n : Nat) : Int)).bmod M = (a * ((2 ^ n : Nat) : Int)).bmod M := by rw [eA, Int.bmod_mul_bmod]
    simp only [this]
  have hShr : op = [62, 62] → ∀ h, callω E 25 [.int .i64 t, .str op, .int .i64 (wrapL t a), .int .i64 (wrapL t b)] h = .ok (.int .i64 (wrapL t a / (2 ^ n : Nat))) h := fun ho h => by
    exact RShift_ok R.B (op := op) (a := wrapL t a) (b := wrapL t b) (n := n) (f := fun i => wrapL t a / (2 ^ i : Nat)) (by rw [hbw, hn]) hnw (.inr ho) (fun e => by rw [ho] at e; cases e) (fun _ i _ => by
      have hp : (0 : Int) < ((2 ^ i : Nat) : Int) := by have := Nat.two_pow_pos i; omega
      refine ⟨?_, ?_⟩
      · generalize ((2 ^ i : Nat) : Int) = q at hp
        generalize wrapL t a = A at rA
        obtain ⟨x, y⟩ := rA
        constructor
        · rcases Int.le_total 0 A with h | h
          · have := Int.ediv_nonneg h (show (0 : Int) ≤ q by omega); omega
          · have h3 : A * q ≤ A * 1 := Int.mul_le_mul_of_nonpos_left h (by omega)
            have := Int.le_ediv_of_mul_le hp (show A * q ≤ A by omega)
            omega
        · rcases Int.le_total 0 A with h | h
          · have := Int.ediv_le_self q h; omega
          · have h5 := Int.ediv_le_ediv hp h; simp at h5; omega
      · show wrapL t a / ((2 ^ (i + 1) : Nat) : Int) = wrapL t a / ((2 ^ i : Nat) : Int) / 2
        rw [Int.ediv_ediv_of_nonneg (by omega)]
        have : ((2 ^ i : Nat) : Int) * 2 = ((2 ^ (i + 1) : Nat) : Int) := by rw [Nat.pow_succ]; omega
        rw [this]) (by show wrapL t a = wrapL t a / ((2 ^ 0 : Nat) : Int); simp) h
  have ht1 : (t = 1) = True ∨ ((t = 1) = False ∧ (t = 2) = True) := by
    rcases R.ty with e | e
    · exact .inl (eq_true e)
    · exact .inr ⟨eq_false (by omega), eq_true e⟩
  rw [call15 _ (by simp)]
  by_cases h0 : op = [43]
  · skip
    have hbin : binL t op a b = ((wrapL t a + wrapL t b).bmod M, 0) := by
      rw [R.ne op a b (by rw [h0]; decide) (by rw [h0]; decide), h0]; rw [R.B.add, eA, eB, Int.bmod_add_bmod, Int.add_bmod_bmod]
    rcases ht1 with t1 | ⟨t1, t2⟩
    · simp (maxSteps := 1000000) (implicitDefEqProofs := false) only [c15, t1, hWa, hWb, hW, eq_true h0, hbin, hone, hone', enter_eq, setAll_cons, setAll_nil, w_seq, w_reg, o_nil, o_plain, o_skip, o_done, p_assign, p_move, p_pick, pickA_true, pickA_false, p_extract, exA_tup, p_call, opvs_nil, opvs_cons, v_int, v_bool, v_str, v_tmp, evThen_ok, setDst_fset, setDst_none, seqA_normal, seqA_ret, seqA_exit, w_block, blockA_normal, blockA_ret, blockA_exit, w_cond, condA_true, condA_false, w_ret, w_skip, w_exit, w_scope, p_binOp, b_add, b_sub, b_mul, b_eql, b_neq, b_eqlS, b_neqS, b_lss, b_leq, b_gtr, b_geq, p_unOp, u_neg, u_not, c_int, lift_some', look_cons, look_nil, isWant_true, isWant_false, isWant_skipped, Option.some.injEq, Bool.true_eq_false, Bool.false_eq_true, after_ret, after_normal, res_tmp, res_nil, obind_some', get_fset, resOf_some, one_one, one_two, one_nil, Nat.reduceAdd, Nat.reduceLT, Nat.reduceEqDiff, ↓reduceIte, decide_true, decide_false, Bool.not_true, Bool.not_false, List.getElem?_cons_zero, List.getElem?_cons_succ, List.getElem?_nil]
    · simp (maxSteps := 1000000) (implicitDefEqProofs := false) only [c15, t1, t2, hWa, hWb, hW, eq_true h0, hbin, hone, hone', enter_eq, setAll_cons, setAll_nil, w_seq, w_reg, o_nil, o_plain, o_skip, o_done, p_assign, p_move, p_pick, pickA_true, pickA_false, p_extract, exA_tup, p_call, opvs_nil, opvs_cons, v_int, v_bool, v_str, v_tmp, evThen_ok, setDst_fset, setDst_none, seqA_normal, seqA_ret, seqA_exit, w_block, blockA_normal, blockA_ret, blockA_exit, w_cond, condA_true, condA_false, w_ret, w_skip, w_exit, w_scope, p_binOp, b_add, b_sub, b_mul, b_eql, b_neq, b_eqlS, b_neqS, b_lss, b_leq, b_gtr, b_geq, p_unOp, u_neg, u_not, c_int, lift_some', look_cons, look_nil, isWant_true, isWant_false, isWant_skipped, Option.some.injEq, Bool.true_eq_false, Bool.false_eq_true, after_ret, after_normal, res_tmp, res_nil, obind_some', get_fset, resOf_some, one_one, one_two, one_nil, Nat.reduceAdd, Nat.reduceLT, Nat.reduceEqDiff, ↓reduceIte, decide_true, decide_false, Bool.not_true, Bool.not_false, List.getElem?_cons_zero, List.getElem?_cons_succ, List.getElem?_nil]
  by_cases h1 : op = [45]
  · skip
    have hbin : binL t op a b = ((wrapL t a - wrapL t b).bmod M, 0) := by
      rw [R.ne op a b (by rw [h1]; decide) (by rw [h1]; decide), h1]; rw [R.sub, eA, eB, Int.bmod_sub_bmod, Int.sub_bmod_bmod]
    rcases ht1 with t1 | ⟨t1, t2⟩
    · simp (maxSteps := 1000000) (implicitDefEqProofs := false) only [c15, t1, hWa, hWb, hW, eq_false h0, eq_true h1, hbin, hone, hone', enter_eq, setAll_cons, setAll_nil, w_seq, w_reg, o_nil, o_plain, o_skip, o_done, p_assign, p_move, p_pick, pickA_true, pickA_false, p_extract, exA_tup, p_call, opvs_nil, opvs_cons, v_int, v_bool, v_str, v_tmp, evThen_ok, setDst_fset, setDst_none, seqA_normal, seqA_ret, seqA_exit, w_block, blockA_normal, blockA_ret, blockA_exit, w_cond, condA_true, condA_false, w_ret, w_skip, w_exit, w_scope, p_binOp, b_add, b_sub, b_mul, b_eql, b_neq, b_eqlS, b_neqS, b_lss, b_leq, b_gtr, b_geq, p_unOp, u_neg, u_not, c_int, lift_some', look_cons, look_nil, isWant_true, isWant_false, isWant_skipped, Option.some.injEq, Bool.true_eq_false, Bool.false_eq_true, after_ret, after_normal, res_tmp, res_nil, obind_some', get_fset, resOf_some, one_one, one_two, one_nil, Nat.reduceAdd, Nat.reduceLT, Nat.reduceEqDiff, ↓reduceIte, decide_true, decide_false, Bool.not_true, Bool.not_false, List.getElem?_cons_zero, List.getElem?_cons_succ, List.getElem?_nil]
    · simp (maxSteps := 1000000) (implicitDefEqProofs := false) only [c15, t1, t2, hWa, hWb, hW, eq_false h0, eq_true h1, hbin, hone, hone', enter_eq, setAll_cons, setAll_nil, w_seq, w_reg, o_nil, o_plain, o_skip, o_done, p_assign, p_move, p_pick, pickA_true, pickA_false, p_extract, exA_tup, p_call, opvs_nil, opvs_cons, v_int, v_bool, v_str, v_tmp, evThen_ok, setDst_fset, setDst_none, seqA_normal, seqA_ret, seqA_exit, w_block, blockA_normal, blockA_ret, blockA_exit, w_cond, condA_true, condA_false, w_ret, w_skip, w_exit, w_scope, p_binOp, b_add, b_sub, b_mul, b_eql, b_neq, b_eqlS, b_neqS, b_lss, b_leq, b_gtr, b_geq, p_unOp, u_neg, u_not, c_int, lift_some', look_cons, look_nil, isWant_true, isWant_false, isWant_skipped, Option.some.injEq, Bool.true_eq_false, Bool.false_eq_true, after_ret, after_normal, res_tmp, res_nil, obind_some', get_fset, resOf_some, one_one, one_two, one_nil, Nat.reduceAdd, Nat.reduceLT, Nat.reduceEqDiff, ↓reduceIte, decide_true, decide_false, Bool.not_true, Bool.not_false, List.getElem?_cons_zero, List.getElem?_cons_succ, List.getElem?_nil]
  by_cases h2 : op = [42]
  · skip
    have hbin : binL t op a b = ((wrapL t a * wrapL t b).bmod M, 0) := by
      rw [R.ne op a b (by rw [h2]; decide) (by rw [h2]; decide), h2]; rw [R.mul, eA, eB, Int.bmod_mul_bmod, Int.mul_bmod_bmod]
    rcases ht1 with t1 | ⟨t1, t2⟩
    · simp (maxSteps := 1000000) (implicitDefEqProofs := false) only [c15, t1, hWa, hWb, hW, eq_false h0, eq_false h1, eq_true h2, hbin, hone, hone', enter_eq, setAll_cons, setAll_nil, w_seq, w_reg, o_nil, o_plain, o_skip, o_done, p_assign, p_move, p_pick, pickA_true, pickA_false, p_extract, exA_tup, p_call, opvs_nil, opvs_cons, v_int, v_bool, v_str, v_tmp, evThen_ok, setDst_fset, setDst_none, seqA_normal, seqA_ret, seqA_exit, w_block, blockA_normal, blockA_ret, blockA_exit, w_cond, condA_true, condA_false, w_ret, w_skip, w_exit, w_scope, p_binOp, b_add, b_sub, b_mul, b_eql, b_neq, b_eqlS, b_neqS, b_lss, b_leq, b_gtr, b_geq, p_unOp, u_neg, u_not, c_int, lift_some', look_cons, look_nil, isWant_true, isWant_false, isWant_skipped, Option.some.injEq, Bool.true_eq_false, Bool.false_eq_true, after_ret, after_normal, res_tmp, res_nil, obind_some', get_fset, resOf_some, one_one, one_two, one_nil, Nat.reduceAdd, Nat.reduceLT, Nat.reduceEqDiff, ↓reduceIte, decide_true, decide_false, Bool.not_true, Bool.not_false, List.getElem?_cons_zero, List.getElem?_cons_succ, List.getElem?_nil]
    · simp (maxSteps := 1000000) (implicitDefEqProofs := false) only [c15, t1, t2, hWa, hWb, hW, eq_false h0, eq_false h1, eq_true h2, hbin, hone, hone', enter_eq, setAll_cons, setAll_nil, w_seq, w_reg, o_nil, o_plain, o_skip, o_done, p_assign, p_move, p_pick, pickA_true, pickA_false, p_extract, exA_tup, p_call, opvs_nil, opvs_cons, v_int, v_bool, v_str, v_tmp, evThen_ok, setDst_fset, setDst_none, seqA_normal, seqA_ret, seqA_exit, w_block, blockA_normal, blockA_ret, blockA_exit, w_cond, condA_true, condA_false, w_ret, w_skip, w_exit, w_scope, p_binOp, b_add, b_sub, b_mul, b_eql, b_neq, b_eqlS, b_neqS, b_lss, b_leq, b_gtr, b_geq, p_unOp, u_neg, u_not, c_int, lift_some', look_cons, look_nil, isWant_true, isWant_false, isWant_skipped, Option.some.injEq, Bool.true_eq_false, Bool.false_eq_true, after_ret, after_normal, res_tmp, res_nil, obind_some', get_fset, resOf_some, one_one, one_two, one_nil, Nat.reduceAdd, Nat.reduceLT, Nat.reduceEqDiff, ↓reduceIte, decide_true, decide_false, Bool.not_true, Bool.not_false, List.getElem?_cons_zero, List.getElem?_cons_succ, List.getElem?_nil]
  by_cases h3 : op = [47]
  · skip
    have hbin := R.div op a b (.inl h3)
    rcases ht1 with t1 | ⟨t1, t2⟩
    · simp (maxSteps := 1000000) (implicitDefEqProofs := false) only [c15, t1, hWa, hWb, hW, eq_false h0, eq_false h1, eq_false h2, eq_true h3, hbin, hDiv, hone, hone', enter_eq, setAll_cons, setAll_nil, w_seq, w_reg, o_nil, o_plain, o_skip, o_done, p_assign, p_move, p_pick, pickA_true, pickA_false, p_extract, exA_tup, p_call, opvs_nil, opvs_cons, v_int, v_bool, v_str, v_tmp, evThen_ok, setDst_fset, setDst_none, seqA_normal, seqA_ret, seqA_exit, w_block, blockA_normal, blockA_ret, blockA_exit, w_cond, condA_true, condA_false, w_ret, w_skip, w_exit, w_scope, p_binOp, b_add, b_sub, b_mul, b_eql, b_neq, b_eqlS, b_neqS, b_lss, b_leq, b_gtr, b_geq, p_unOp, u_neg, u_not, c_int, lift_some', look_cons, look_nil, isWant_true, isWant_false, isWant_skipped, Option.some.injEq, Bool.true_eq_false, Bool.false_eq_true, after_ret, after_normal, res_tmp, res_nil, obind_some', get_fset, resOf_some, one_one, one_two, one_nil, Nat.reduceAdd, Nat.reduceLT, Nat.reduceEqDiff, ↓reduceIte, decide_true, decide_false, Bool.not_true, Bool.not_false, List.getElem?_cons_zero, List.getElem?_cons_succ, List.getElem?_nil]
    · simp (maxSteps := 1000000) (implicitDefEqProofs := false) only [c15, t1, t2, hWa, hWb, hW, eq_false h0, eq_false h1, eq_false h2, eq_true h3, hbin, hDiv, hone, hone', enter_eq, setAll_cons, setAll_nil, w_seq, w_reg, o_nil, o_plain, o_skip, o_done, p_assign, p_move, p_pick, pickA_true, pickA_false, p_extract, exA_tup, p_call, opvs_nil, opvs_cons, v_int, v_bool, v_str, v_tmp, evThen_ok, setDst_fset, setDst_none, seqA_normal, seqA_ret, seqA_exit, w_block, blockA_normal, blockA_ret, blockA_exit, w_cond, condA_true, condA_false, w_ret, w_skip, w_exit, w_scope, p_binOp, b_add, b_sub, b_mul, b_eql, b_neq, b_eqlS, b_neqS, b_lss, b_leq, b_gtr, b_geq, p_unOp, u_neg, u_not, c_int, lift_some', look_cons, look_nil, isWant_true, isWant_false, isWant_skipped, Option.some.injEq, Bool.true_eq_false, Bool.false_eq_true, after_ret, after_normal, res_tmp, res_nil, obind_some', get_fset, resOf_some, one_one, one_two, one_nil, Nat.reduceAdd, Nat.reduceLT, Nat.reduceEqDiff, ↓reduceIte, decide_true, decide_false, Bool.not_true, Bool.not_false, List.getElem?_cons_zero, List.getElem?_cons_succ, List.getElem?_nil]
  by_cases h4 : op = [37]
  · skip
    have hbin := R.div op a b (.inr h4)
    rcases ht1 with t1 | ⟨t1, t2⟩
    · simp (maxSteps := 1000000) (implicitDefEqProofs := false) only [c15, t1, hWa, hWb, hW, eq_false h0, eq_false h1, eq_false h2, eq_false h3, eq_true h4, hbin, hDiv, hone, hone', enter_eq, setAll_cons, setAll_nil, w_seq, w_reg, o_nil, o_plain, o_skip, o_done, p_assign, p_move, p_pick, pickA_true, pickA_false, p_extract, exA_tup, p_call, opvs_nil, opvs_cons, v_int, v_bool, v_str, v_tmp, evThen_ok, setDst_fset, setDst_none, seqA_normal, seqA_ret, seqA_exit, w_block, blockA_normal, blockA_ret, blockA_exit, w_cond, condA_true, condA_false, w_ret, w_skip, w_exit, w_scope, p_binOp, b_add, b_sub, b_mul, b_eql, b_neq, b_eqlS, b_neqS, b_lss, b_leq, b_gtr, b_geq, p_unOp, u_neg, u_not, c_int, lift_some', look_cons, look_nil, isWant_true, isWant_false, isWant_skipped, Option.some.injEq, Bool.true_eq_false, Bool.false_eq_true, after_ret, after_normal, res_tmp, res_nil, obind_some', get_fset, resOf_some, one_one, one_two, one_nil, Nat.reduceAdd, Nat.reduceLT, Nat.reduceEqDiff, ↓reduceIte, decide_true, decide_false, Bool.not_true, Bool.not_false, List.getElem?_cons_zero, List.getElem?_cons_succ, List.getElem?_nil]
    · simp (maxSteps := 1000000) (implicitDefEqProofs := false) only [c15, t1, t2, hWa, hWb, hW, eq_false h0, eq_false h1, eq_false h2, eq_false h3, eq_true h4, hbin, hDiv, hone, hone', enter_eq, setAll_cons, setAll_nil, w_seq, w_reg, o_nil, o_plain, o_skip, o_done, p_assign, p_move, p_pick, pickA_true, pickA_false, p_extract, exA_tup, p_call, opvs_nil, opvs_cons, v_int, v_bool, v_str, v_tmp, evThen_ok, setDst_fset, setDst_none, seqA_normal, seqA_ret, seqA_exit, w_block, blockA_normal, blockA_ret, blockA_exit, w_cond, condA_true, condA_false, w_ret, w_skip, w_exit, w_scope, p_binOp, b_add, b_sub, b_mul, b_eql, b_neq, b_eqlS, b_neqS, b_lss, b_leq, b_gtr, b_geq, p_unOp, u_neg, u_not, c_int, lift_some', look_cons, look_nil, isWant_true, isWant_false, isWant_skipped, Option.some.injEq, Bool.true_eq_false, Bool.false_eq_true, after_ret, after_normal, res_tmp, res_nil, obind_some', get_fset, resOf_some, one_one, one_two, one_nil, Nat.reduceAdd, Nat.reduceLT, Nat.reduceEqDiff, ↓reduceIte, decide_true, decide_false, Bool.not_true, Bool.not_false, List.getElem?_cons_zero, List.getElem?_cons_succ, List.getElem?_nil]
  by_cases h5 : op = [38]
  · skip
    have hbin : binL t op a b = (((ub M a &&& ub M b : Nat) : Int).bmod M, 0) := by
      rw [R.ne op a b h3 h4, h5]; rw [R.B.band]
    have hcall := hBits .band h5
    simp only [BitOp.nat] at hcall
    rcases ht1 with t1 | ⟨t1, t2⟩
    · simp (maxSteps := 1000000) (implicitDefEqProofs := false) only [c15, t1, hWa, hWb, hW, eq_false h0, eq_false h1, eq_false h2, eq_false h3, eq_false h4, eq_true h5, hbin, hcall, hone, hone', enter_eq, setAll_cons, setAll_nil, w_seq, w_reg, o_nil, o_plain, o_skip, o_done, p_assign, p_move, p_pick, pickA_true, pickA_false, p_extract, exA_tup, p_call, opvs_nil, opvs_cons, v_int, v_bool, v_str, v_tmp, evThen_ok, setDst_fset, setDst_none, seqA_normal, seqA_ret, seqA_exit, w_block, blockA_normal, blockA_ret, blockA_exit, w_cond, condA_true, condA_false, w_ret, w_skip, w_exit, w_scope, p_binOp, b_add, b_sub, b_mul, b_eql, b_neq, b_eqlS, b_neqS, b_lss, b_leq, b_gtr, b_geq, p_unOp, u_neg, u_not, c_int, lift_some', look_cons, look_nil, isWant_true, isWant_false, isWant_skipped, Option.some.injEq, Bool.true_eq_false, Bool.false_eq_true, after_ret, after_normal, res_tmp, res_nil, obind_some', get_fset, resOf_some, one_one, one_two, one_nil, Nat.reduceAdd, Nat.reduceLT, Nat.reduceEqDiff, ↓reduceIte, decide_true, decide_false, Bool.not_true, Bool.not_false, List.getElem?_cons_zero, List.getElem?_cons_succ, List.getElem?_nil]
    · simp (maxSteps := 1000000) (implicitDefEqProofs := false) only [c15, t1, t2, hWa, hWb, hW, eq_false h0, eq_false h1, eq_false h2, eq_false h3, eq_false h4, eq_true h5, hbin, hcall, hone, hone', enter_eq, setAll_cons, setAll_nil, w_seq, w_reg, o_nil, o_plain, o_skip, o_done, p_assign, p_move, p_pick, pickA_true, pickA_false, p_extract, exA_tup, p_call, opvs_nil, opvs_cons, v_int, v_bool, v_str, v_tmp, evThen_ok, setDst_fset, setDst_none, seqA_normal, seqA_ret, seqA_exit, w_block, blockA_normal, blockA_ret, blockA_exit, w_cond, condA_true, condA_false, w_ret, w_skip, w_exit, w_scope, p_binOp, b_add, b_sub, b_mul, b_eql, b_neq, b_eqlS, b_neqS, b_lss, b_leq, b_gtr, b_geq, p_unOp, u_neg, u_not, c_int, lift_some', look_cons, look_nil, isWant_true, isWant_false, isWant_skipped, Option.some.injEq, Bool.true_eq_false, Bool.false_eq_true, after_ret, after_normal, res_tmp, res_nil, obind_some', get_fset, resOf_some, one_one, one_two, one_nil, Nat.reduceAdd, Nat.reduceLT, Nat.reduceEqDiff, ↓reduceIte, decide_true, decide_false, Bool.not_true, Bool.not_false, List.getElem?_cons_zero, List.getElem?_cons_succ, List.getElem?_nil]
  by_cases h6 : op = [124]
  · skip
    have hbin : binL t op a b = (((ub M a ||| ub M b : Nat) : Int).bmod M, 0) := by
      rw [R.ne op a b h3 h4, h6]; rw [R.B.bor]
    have hcall := hBits .bor h6
    simp only [BitOp.nat] at hcall
    rcases ht1 with t1 | ⟨t1, t2⟩
    · simp (maxSteps := 1000000) (implicitDefEqProofs := false) only [c15, t1, hWa, hWb, hW, eq_false h0, eq_false h1, eq_false h2, eq_false h3, eq_false h4, eq_false h5, eq_true h6, hbin, hcall, hone, hone', enter_eq, setAll_cons, setAll_nil, w_seq, w_reg, o_nil, o_plain, o_skip, o_done, p_assign, p_move, p_pick, pickA_true, pickA_false, p_extract, exA_tup, p_call, opvs_nil, opvs_cons, v_int, v_bool, v_str, v_tmp, evThen_ok, setDst_fset, setDst_none, seqA_normal, seqA_ret, seqA_exit, w_block, blockA_normal, blockA_ret, blockA_exit, w_cond, condA_true, condA_false, w_ret, w_skip, w_exit, w_scope, p_binOp, b_add, b_sub, b_mul, b_eql, b_neq, b_eqlS, b_neqS, b_lss, b_leq, b_gtr, b_geq, p_unOp, u_neg, u_not, c_int, lift_some', look_cons, look_nil, isWant_true, isWant_false, isWant_skipped, Option.some.injEq, Bool.true_eq_false, Bool.false_eq_true, after_ret, after_normal, res_tmp, res_nil, obind_some', get_fset, resOf_some, one_one, one_two, one_nil, Nat.reduceAdd, Nat.reduceLT, Nat.reduceEqDiff, ↓reduceIte, decide_true, decide_false, Bool.not_true, Bool.not_false, List.getElem?_cons_zero, List.getElem?_cons_succ, List.getElem?_nil]
    · simp (maxSteps := 1000000) (implicitDefEqProofs := false) only [c15, t1, t2, hWa, hWb, hW, eq_false h0, eq_false h1, eq_false h2, eq_false h3, eq_false h4, eq_false h5, eq_true h6, hbin, hcall, hone, hone', enter_eq, setAll_cons, setAll_nil, w_seq, w_reg, o_nil, o_plain, o_skip, o_done, p_assign, p_move, p_pick, pickA_true, pickA_false, p_extract, exA_tup, p_call, opvs_nil, opvs_cons, v_int, v_bool, v_str, v_tmp, evThen_ok, setDst_fset, setDst_none, seqA_normal, seqA_ret, seqA_exit, w_block, blockA_normal, blockA_ret, blockA_exit, w_cond, condA_true, condA_false, w_ret, w_skip, w_exit, w_scope, p_binOp, b_add, b_sub, b_mul, b_eql, b_neq, b_eqlS, b_neqS, b_lss, b_leq, b_gtr, b_geq, p_unOp, u_neg, u_not, c_int, lift_some', look_cons, look_nil, isWant_true, isWant_false, isWant_skipped, Option.some.injEq, Bool.true_eq_false, Bool.false_eq_true, after_ret, after_normal, res_tmp, res_nil, obind_some', get_fset, resOf_some, one_one, one_two, one_nil, Nat.reduceAdd, Nat.reduceLT, Nat.reduceEqDiff, ↓reduceIte, decide_true, decide_false, Bool.not_true, Bool.not_false, List.getElem?_cons_zero, List.getElem?_cons_succ, List.getElem?_nil]
  by_cases h7 : op = [94]
  · skip
    have hbin : binL t op a b = (((ub M a ^^^ ub M b : Nat) : Int).bmod M, 0) := by
      rw [R.ne op a b h3 h4, h7]; rw [R.B.bxor]
    have hcall := hBits .bxor h7
    simp only [BitOp.nat] at hcall
    rcases ht1 with t1 | ⟨t1, t2⟩
    · simp (maxSteps := 1000000) (implicitDefEqProofs := false) only [c15, t1, hWa, hWb, hW, eq_false h0, eq_false h1, eq_false h2, eq_false h3, eq_false h4, eq_false h5, eq_false h6, eq_true h7, hbin, hcall, hone, hone', enter_eq, setAll_cons, setAll_nil, w_seq, w_reg, o_nil, o_plain, o_skip, o_done, p_assign, p_move, p_pick, pickA_true, pickA_false, p_extract, exA_tup, p_call, opvs_nil, opvs_cons, v_int, v_bool, v_str, v_tmp, evThen_ok, setDst_fset, setDst_none, seqA_normal, seqA_ret, seqA_exit, w_block, blockA_normal, blockA_ret, blockA_exit, w_cond, condA_true, condA_false, w_ret, w_skip, w_exit, w_scope, p_binOp, b_add, b_sub, b_mul, b_eql, b_neq, b_eqlS, b_neqS, b_lss, b_leq, b_gtr, b_geq, p_unOp, u_neg, u_not, c_int, lift_some', look_cons, look_nil, isWant_true, isWant_false, isWant_skipped, Option.some.injEq, Bool.true_eq_false, Bool.false_eq_true, after_ret, after_normal, res_tmp, res_nil, obind_some', get_fset, resOf_some, one_one, one_two, one_nil, Nat.reduceAdd, Nat.reduceLT, Nat.reduceEqDiff, ↓reduceIte, decide_true, decide_false, Bool.not_true, Bool.not_false, List.getElem?_cons_zero, List.getElem?_cons_succ, List.getElem?_nil]
    · simp (maxSteps := 1000000) (implicitDefEqProofs := false) only [c15, t1, t2, hWa, hWb, hW, eq_false h0, eq_false h1, eq_false h2, eq_false h3, eq_false h4, eq_false h5, eq_false h6, eq_true h7, hbin, hcall, hone, hone', enter_eq, setAll_cons, setAll_nil, w_seq, w_reg, o_nil, o_plain, o_skip, o_done, p_assign, p_move, p_pick, pickA_true, pickA_false, p_extract, exA_tup, p_call, opvs_nil, opvs_cons, v_int, v_bool, v_str, v_tmp, evThen_ok, setDst_fset, setDst_none, seqA_normal, seqA_ret, seqA_exit, w_block, blockA_normal, blockA_ret, blockA_exit, w_cond, condA_true, condA_false, w_ret, w_skip, w_exit, w_scope, p_binOp, b_add, b_sub, b_mul, b_eql, b_neq, b_eqlS, b_neqS, b_lss, b_leq, b_gtr, b_geq, p_unOp, u_neg, u_not, c_int, lift_some', look_cons, look_nil, isWant_true, isWant_false, isWant_skipped, Option.some.injEq, Bool.true_eq_false, Bool.false_eq_true, after_ret, after_normal, res_tmp, res_nil, obind_some', get_fset, resOf_some, one_one, one_two, one_nil, Nat.reduceAdd, Nat.reduceLT, Nat.reduceEqDiff, ↓reduceIte, decide_true, decide_false, Bool.not_true, Bool.not_false, List.getElem?_cons_zero, List.getElem?_cons_succ, List.getElem?_nil]
  by_cases h8 : op = [60, 60]
  · skip
    have hbin : binL t op a b = ((a * (2 ^ n : Nat)).bmod M, 0) := by
      rw [R.ne op a b h3 h4, h8]; rw [R.B.shl a n b hnw hn]
    have hcall := hShl h8
    rcases ht1 with t1 | ⟨t1, t2⟩
    · simp (maxSteps := 1000000) (implicitDefEqProofs := false) only [c15, t1, hWa, hWb, hW, eq_false h0, eq_false h1, eq_false h2, eq_false h3, eq_false h4, eq_false h5, eq_false h6, eq_false h7, eq_true h8, hbin, hcall, hone, hone', enter_eq, setAll_cons, setAll_nil, w_seq, w_reg, o_nil, o_plain, o_skip, o_done, p_assign, p_move, p_pick, pickA_true, pickA_false, p_extract, exA_tup, p_call, opvs_nil, opvs_cons, v_int, v_bool, v_str, v_tmp, evThen_ok, setDst_fset, setDst_none, seqA_normal, seqA_ret, seqA_exit, w_block, blockA_normal, blockA_ret, blockA_exit, w_cond, condA_true, condA_false, w_ret, w_skip, w_exit, w_scope, p_binOp, b_add, b_sub, b_mul, b_eql, b_neq, b_eqlS, b_neqS, b_lss, b_leq, b_gtr, b_geq, p_unOp, u_neg, u_not, c_int, lift_some', look_cons, look_nil, isWant_true, isWant_false, isWant_skipped, Option.some.injEq, Bool.true_eq_false, Bool.false_eq_true, after_ret, after_normal, res_tmp, res_nil, obind_some', get_fset, resOf_some, one_one, one_two, one_nil, Nat.reduceAdd, Nat.reduceLT, Nat.reduceEqDiff, ↓reduceIte, decide_true, decide_false, Bool.not_true, Bool.not_false, List.getElem?_cons_zero, List.getElem?_cons_succ, List.getElem?_nil]
    · simp (maxSteps := 1000000) (implicitDefEqProofs := false) only [c15, t1, t2, hWa, hWb, hW, eq_false h0, eq_false h1, eq_false h2, eq_false h3, eq_false h4, eq_false h5, eq_false h6, eq_false h7, eq_true h8, hbin, hcall, hone, hone', enter_eq, setAll_cons, setAll_nil, w_seq, w_reg, o_nil, o_plain, o_skip, o_done, p_assign, p_move, p_pick, pickA_true, pickA_false, p_extract, exA_tup, p_call, opvs_nil, opvs_cons, v_int, v_bool, v_str, v_tmp, evThen_ok, setDst_fset, setDst_none, seqA_normal, seqA_ret, seqA_exit, w_block, blockA_normal, blockA_ret, blockA_exit, w_cond, condA_true, condA_false, w_ret, w_skip, w_exit, w_scope, p_binOp, b_add, b_sub, b_mul, b_eql, b_neq, b_eqlS, b_neqS, b_lss, b_leq, b_gtr, b_geq, p_unOp, u_neg, u_not, c_int, lift_some', look_cons, look_nil, isWant_true, isWant_false, isWant_skipped, Option.some.injEq, Bool.true_eq_false, Bool.false_eq_true, after_ret, after_normal, res_tmp, res_nil, obind_some', get_fset, resOf_some, one_one, one_two, one_nil, Nat.reduceAdd, Nat.reduceLT, Nat.reduceEqDiff, ↓reduceIte, decide_true, decide_false, Bool.not_true, Bool.not_false, List.getElem?_cons_zero, List.getElem?_cons_succ, List.getElem?_nil]
  by_cases h9 : op = [62, 62]
  · skip
    have hbin : binL t op a b = (wrapL t a / (2 ^ n : Nat), 0) := by
      rw [R.ne op a b h3 h4, h9]; rw [R.B.shr a n b hnw hn]
    have hcall := hShr h9
    rcases ht1 with t1 | ⟨t1, t2⟩
    · simp (maxSteps := 1000000) (implicitDefEqProofs := false) only [c15, t1, hWa, hWb, hW, eq_false h0, eq_false h1, eq_false h2, eq_false h3, eq_false h4, eq_false h5, eq_false h6, eq_false h7, eq_false h8, eq_true h9, hbin, hcall, hone, hone', enter_eq, setAll_cons, setAll_nil, w_seq, w_reg, o_nil, o_plain, o_skip, o_done, p_assign, p_move, p_pick, pickA_true, pickA_false, p_extract, exA_tup, p_call, opvs_nil, opvs_cons, v_int, v_bool, v_str, v_tmp, evThen_ok, setDst_fset, setDst_none, seqA_normal, seqA_ret, seqA_exit, w_block, blockA_normal, blockA_ret, blockA_exit, w_cond, condA_true, condA_false, w_ret, w_skip, w_exit, w_scope, p_binOp, b_add, b_sub, b_mul, b_eql, b_neq, b_eqlS, b_neqS, b_lss, b_leq, b_gtr, b_geq, p_unOp, u_neg, u_not, c_int, lift_some', look_cons, look_nil, isWant_true, isWant_false, isWant_skipped, Option.some.injEq, Bool.true_eq_false, Bool.false_eq_true, after_ret, after_normal, res_tmp, res_nil, obind_some', get_fset, resOf_some, one_one, one_two, one_nil, Nat.reduceAdd, Nat.reduceLT, Nat.reduceEqDiff, ↓reduceIte, decide_true, decide_false, Bool.not_true, Bool.not_false, List.getElem?_cons_zero, List.getElem?_cons_succ, List.getElem?_nil]
    · simp (maxSteps := 1000000) (implicitDefEqProofs := false) only [c15, t1, t2, hWa, hWb, hW, eq_false h0, eq_false h1, eq_false h2, eq_false h3, eq_false h4, eq_false h5, eq_false h6, eq_false h7, eq_false h8, eq_true h9, hbin, hcall, hone, hone', enter_eq, setAll_cons, setAll_nil, w_seq, w_reg, o_nil, o_plain, o_skip, o_done, p_assign, p_move, p_pick, pickA_true, pickA_false, p_extract, exA_tup, p_call, opvs_nil, opvs_cons, v_int, v_bool, v_str, v_tmp, evThen_ok, setDst_fset, setDst_none, seqA_normal, seqA_ret, seqA_exit, w_block, blockA_normal, blockA_ret, blockA_exit, w_cond, condA_true, condA_false, w_ret, w_skip, w_exit, w_scope, p_binOp, b_add, b_sub, b_mul, b_eql, b_neq, b_eqlS, b_neqS, b_lss, b_leq, b_gtr, b_geq, p_unOp, u_neg, u_not, c_int, lift_some', look_cons, look_nil, isWant_true, isWant_false, isWant_skipped, Option.some.injEq, Bool.true_eq_false, Bool.false_eq_true, after_ret, after_normal, res_tmp, res_nil, obind_some', get_fset, resOf_some, one_one, one_two, one_nil, Nat.reduceAdd, Nat.reduceLT, Nat.reduceEqDiff, ↓reduceIte, decide_true, decide_false, Bool.not_true, Bool.not_false, List.getElem?_cons_zero, List.getElem?_cons_succ, List.getElem?_nil]
  by_cases h10 : op = [61, 61]
  · skip
    have hbin : binL t op a b = (if wrapL t a = wrapL t b then 1 else 0, 0) := by
      rw [R.ne op a b h3 h4, h10]; rw [oeq]
    rcases ht1 with t1 | ⟨t1, t2⟩
    · simp (maxSteps := 1000000) (implicitDefEqProofs := false) only [c15, t1, hWa, hWb, hW, eq_false h0, eq_false h1, eq_false h2, eq_false h3, eq_false h4, eq_false h5, eq_false h6, eq_false h7, eq_false h8, eq_false h9, eq_true h10, hbin, hone, hone', enter_eq, setAll_cons, setAll_nil, w_seq, w_reg, o_nil, o_plain, o_skip, o_done, p_assign, p_move, p_pick, pickA_true, pickA_false, p_extract, exA_tup, p_call, opvs_nil, opvs_cons, v_int, v_bool, v_str, v_tmp, evThen_ok, setDst_fset, setDst_none, seqA_normal, seqA_ret, seqA_exit, w_block, blockA_normal, blockA_ret, blockA_exit, w_cond, condA_true, condA_false, w_ret, w_skip, w_exit, w_scope, p_binOp, b_add, b_sub, b_mul, b_eql, b_neq, b_eqlS, b_neqS, b_lss, b_leq, b_gtr, b_geq, p_unOp, u_neg, u_not, c_int, lift_some', look_cons, look_nil, isWant_true, isWant_false, isWant_skipped, Option.some.injEq, Bool.true_eq_false, Bool.false_eq_true, after_ret, after_normal, res_tmp, res_nil, obind_some', get_fset, resOf_some, one_one, one_two, one_nil, Nat.reduceAdd, Nat.reduceLT, Nat.reduceEqDiff, ↓reduceIte, decide_true, decide_false, Bool.not_true, Bool.not_false, List.getElem?_cons_zero, List.getElem?_cons_succ, List.getElem?_nil]
    · simp (maxSteps := 1000000) (implicitDefEqProofs := false) only [c15, t1, t2, hWa, hWb, hW, eq_false h0, eq_false h1, eq_false h2, eq_false h3, eq_false h4, eq_false h5, eq_false h6, eq_false h7, eq_false h8, eq_false h9, eq_true h10, hbin, hone, hone', enter_eq, setAll_cons, setAll_nil, w_seq, w_reg, o_nil, o_plain, o_skip, o_done, p_assign, p_move, p_pick, pickA_true, pickA_false, p_extract, exA_tup, p_call, opvs_nil, opvs_cons, v_int, v_bool, v_str, v_tmp, evThen_ok, setDst_fset, setDst_none, seqA_normal, seqA_ret, seqA_exit, w_block, blockA_normal, blockA_ret, blockA_exit, w_cond, condA_true, condA_false, w_ret, w_skip, w_exit, w_scope, p_binOp, b_add, b_sub, b_mul, b_eql, b_neq, b_eqlS, b_neqS, b_lss, b_leq, b_gtr, b_geq, p_unOp, u_neg, u_not, c_int, lift_some', look_cons, look_nil, isWant_true, isWant_false, isWant_skipped, Option.some.injEq, Bool.true_eq_false, Bool.false_eq_true, after_ret, after_normal, res_tmp, res_nil, obind_some', get_fset, resOf_some, one_one, one_two, one_nil, Nat.reduceAdd, Nat.reduceLT, Nat.reduceEqDiff, ↓reduceIte, decide_true, decide_false, Bool.not_true, Bool.not_false, List.getElem?_cons_zero, List.getElem?_cons_succ, List.getElem?_nil]
  by_cases h11 : op = [33, 61]
  · skip
    have hbin : binL t op a b = (if wrapL t a = wrapL t b then 0 else 1, 0) := by
      rw [R.ne op a b h3 h4, h11]; rw [one']
    rcases ht1 with t1 | ⟨t1, t2⟩
    · simp (maxSteps := 1000000) (implicitDefEqProofs := false) only [c15, t1, hWa, hWb, hW, eq_false h0, eq_false h1, eq_false h2, eq_false h3, eq_false h4, eq_false h5, eq_false h6, eq_false h7, eq_false h8, eq_false h9, eq_false h10, eq_true h11, hbin, hone, hone', enter_eq, setAll_cons, setAll_nil, w_seq, w_reg, o_nil, o_plain, o_skip, o_done, p_assign, p_move, p_pick, pickA_true, pickA_false, p_extract, exA_tup, p_call, opvs_nil, opvs_cons, v_int, v_bool, v_str, v_tmp, evThen_ok, setDst_fset, setDst_none, seqA_normal, seqA_ret, seqA_exit, w_block, blockA_normal, blockA_ret, blockA_exit, w_cond, condA_true, condA_false, w_ret, w_skip, w_exit, w_scope, p_binOp, b_add, b_sub, b_mul, b_eql, b_neq, b_eqlS, b_neqS, b_lss, b_leq, b_gtr, b_geq, p_unOp, u_neg, u_not, c_int, lift_some', look_cons, look_nil, isWant_true, isWant_false, isWant_skipped, Option.some.injEq, Bool.true_eq_false, Bool.false_eq_true, after_ret, after_normal, res_tmp, res_nil, obind_some', get_fset, resOf_some, one_one, one_two, one_nil, Nat.reduceAdd, Nat.reduceLT, Nat.reduceEqDiff, ↓reduceIte, decide_true, decide_false, Bool.not_true, Bool.not_false, List.getElem?_cons_zero, List.getElem?_cons_succ, List.getElem?_nil]
    · simp (maxSteps := 1000000) (implicitDefEqProofs := false) only [c15, t1, t2, hWa, hWb, hW, eq_false h0, eq_false h1, eq_false h2, eq_false h3, eq_false h4, eq_false h5, eq_false h6, eq_false h7, eq_false h8, eq_false h9, eq_false h10, eq_true h11, hbin, hone, hone', enter_eq, setAll_cons, setAll_nil, w_seq, w_reg, o_nil, o_plain, o_skip, o_done, p_assign, p_move, p_pick, pickA_true, pickA_false, p_extract, exA_tup, p_call, opvs_nil, opvs_cons, v_int, v_bool, v_str, v_tmp, evThen_ok, setDst_fset, setDst_none, seqA_normal, seqA_ret, seqA_exit, w_block, blockA_normal, blockA_ret, blockA_exit, w_cond, condA_true, condA_false, w_ret, w_skip, w_exit, w_scope, p_binOp, b_add, b_sub, b_mul, b_eql, b_neq, b_eqlS, b_neqS, b_lss, b_leq, b_gtr, b_geq, p_unOp, u_neg, u_not, c_int, lift_some', look_cons, look_nil, isWant_true, isWant_false, isWant_skipped, Option.some.injEq, Bool.true_eq_false, Bool.false_eq_true, after_ret, after_normal, res_tmp, res_nil, obind_some', get_fset, resOf_some, one_one, one_two, one_nil, Nat.reduceAdd, Nat.reduceLT, Nat.reduceEqDiff, ↓reduceIte, decide_true, decide_false, Bool.not_true, Bool.not_false, List.getElem?_cons_zero, List.getElem?_cons_succ, List.getElem?_nil]
  by_cases h12 : op = [60]
  · skip
    have hbin : binL t op a b = (if wrapL t a < wrapL t b then 1 else 0, 0) := by
      rw [R.ne op a b h3 h4, h12]; rw [olt]
    rcases ht1 with t1 | ⟨t1, t2⟩
    · simp (maxSteps := 1000000) (implicitDefEqProofs := false) only [c15, t1, hWa, hWb, hW, eq_false h0, eq_false h1, eq_false h2, eq_false h3, eq_false h4, eq_false h5, eq_false h6, eq_false h7, eq_false h8, eq_false h9, eq_false h10, eq_false h11, eq_true h12, hbin, hone, hone', enter_eq, setAll_cons, setAll_nil, w_seq, w_reg, o_nil, o_plain, o_skip, o_done, p_assign, p_move, p_pick, pickA_true, pickA_false, p_extract, exA_tup, p_call, opvs_nil, opvs_cons, v_int, v_bool, v_str, v_tmp, evThen_ok, setDst_fset, setDst_none, seqA_normal, seqA_ret, seqA_exit, w_block, blockA_normal, blockA_ret, blockA_exit, w_cond, condA_true, condA_false, w_ret, w_skip, w_exit, w_scope, p_binOp, b_add, b_sub, b_mul, b_eql, b_neq, b_eqlS, b_neqS, b_lss, b_leq, b_gtr, b_geq, p_unOp, u_neg, u_not, c_int, lift_some', look_cons, look_nil, isWant_true, isWant_false, isWant_skipped, Option.some.injEq, Bool.true_eq_false, Bool.false_eq_true, after_ret, after_normal, res_tmp, res_nil, obind_some', get_fset, resOf_some, one_one, one_two, one_nil, Nat.reduceAdd, Nat.reduceLT, Nat.reduceEqDiff, ↓reduceIte, decide_true, decide_false, Bool.not_true, Bool.not_false, List.getElem?_cons_zero, List.getElem?_cons_succ, List.getElem?_nil]
    · simp (maxSteps := 1000000) (implicitDefEqProofs := false) only [c15, t1, t2, hWa, hWb, hW, eq_false h0, eq_false h1, eq_false h2, eq_false h3, eq_false h4, eq_false h5, eq_false h6, eq_false h7, eq_false h8, eq_false h9, eq_false h10, eq_false h11, eq_true h12, hbin, hone, hone', enter_eq, setAll_cons, setAll_nil, w_seq, w_reg, o_nil, o_plain, o_skip, o_done, p_assign, p_move, p_pick, pickA_true, pickA_false, p_extract, exA_tup, p_call, opvs_nil, opvs_cons, v_int, v_bool, v_str, v_tmp, evThen_ok, setDst_fset, setDst_none, seqA_normal, seqA_ret, seqA_exit, w_block, blockA_normal, blockA_ret, blockA_exit, w_cond, condA_true, condA_false, w_ret, w_skip, w_exit, w_scope, p_binOp, b_add, b_sub, b_mul, b_eql, b_neq, b_eqlS, b_neqS, b_lss, b_leq, b_gtr, b_geq, p_unOp, u_neg, u_not, c_int, lift_some', look_cons, look_nil, isWant_true, isWant_false, isWant_skipped, Option.some.injEq, Bool.true_eq_false, Bool.false_eq_true, after_ret, after_normal, res_tmp, res_nil, obind_some', get_fset, resOf_some, one_one, one_two, one_nil, Nat.reduceAdd, Nat.reduceLT, Nat.reduceEqDiff, ↓reduceIte, decide_true, decide_false, Bool.not_true, Bool.not_false, List.getElem?_cons_zero, List.getElem?_cons_succ, List.getElem?_nil]
  by_cases h13 : op = [60, 61]
  · skip
    have hbin : binL t op a b = (if wrapL t a ≤ wrapL t b then 1 else 0, 0) := by
      rw [R.ne op a b h3 h4, h13]; rw [ole]
    rcases ht1 with t1 | ⟨t1, t2⟩
    · simp (maxSteps := 1000000) (implicitDefEqProofs := false) only [c15, t1, hWa, hWb, hW, eq_false h0, eq_false h1, eq_false h2, eq_false h3, eq_false h4, eq_false h5, eq_false h6, eq_false h7, eq_false h8, eq_false h9, eq_false h10, eq_false h11, eq_false h12, eq_true h13, hbin, hone, hone', enter_eq, setAll_cons, setAll_nil, w_seq, w_reg, o_nil, o_plain, o_skip, o_done, p_assign, p_move, p_pick, pickA_true, pickA_false, p_extract, exA_tup, p_call, opvs_nil, opvs_cons, v_int, v_bool, v_str, v_tmp, evThen_ok, setDst_fset, setDst_none, seqA_normal, seqA_ret, seqA_exit, w_block, blockA_normal, blockA_ret, blockA_exit, w_cond, condA_true, condA_false, w_ret, w_skip, w_exit, w_scope, p_binOp, b_add, b_sub, b_mul, b_eql, b_neq, b_eqlS, b_neqS, b_lss, b_leq, b_gtr, b_geq, p_unOp, u_neg, u_not, c_int, lift_some', look_cons, look_nil, isWant_true, isWant_false, isWant_skipped, Option.some.injEq, Bool.true_eq_false, Bool.false_eq_true, after_ret, after_normal, res_tmp, res_nil, obind_some', get_fset, resOf_some, one_one, one_two, one_nil, Nat.reduceAdd, Nat.reduceLT, Nat.reduceEqDiff, ↓reduceIte, decide_true, decide_false, Bool.not_true, Bool.not_false, List.getElem?_cons_zero, List.getElem?_cons_succ, List.getElem?_nil]
    · simp (maxSteps := 1000000) (implicitDefEqProofs := false) only [c15, t1, t2, hWa, hWb, hW, eq_false h0, eq_false h1, eq_false h2, eq_false h3, eq_false h4, eq_false h5, eq_false h6, eq_false h7, eq_false h8, eq_false h9, eq_false h10, eq_false h11, eq_false h12, eq_true h13, hbin, hone, hone', enter_eq, setAll_cons, setAll_nil, w_seq, w_reg, o_nil, o_plain, o_skip, o_done, p_assign, p_move, p_pick, pickA_true, pickA_false, p_extract, exA_tup, p_call, opvs_nil, opvs_cons, v_int, v_bool, v_str, v_tmp, evThen_ok, setDst_fset, setDst_none, seqA_normal, seqA_ret, seqA_exit, w_block, blockA_normal, blockA_ret, blockA_exit, w_cond, condA_true, condA_false, w_ret, w_skip, w_exit, w_scope, p_binOp, b_add, b_sub, b_mul, b_eql, b_neq, b_eqlS, b_neqS, b_lss, b_leq, b_gtr, b_geq, p_unOp, u_neg, u_not, c_int, lift_some', look_cons, look_nil, isWant_true, isWant_false, isWant_skipped, Option.some.injEq, Bool.true_eq_false, Bool.false_eq_true, after_ret, after_normal, res_tmp, res_nil, obind_some', get_fset, resOf_some, one_one, one_two, one_nil, Nat.reduceAdd, Nat.reduceLT, Nat.reduceEqDiff, ↓reduceIte, decide_true, decide_false, Bool.not_true, Bool.not_false, List.getElem?_cons_zero, List.getElem?_cons_succ, List.getElem?_nil]
  by_cases h14 : op = [62]
  · skip
    have hbin : binL t op a b = (if wrapL t b < wrapL t a then 1 else 0, 0) := by
      rw [R.ne op a b h3 h4, h14]; rw [ogt]
    rcases ht1 with t1 | ⟨t1, t2⟩
    · simp (maxSteps := 1000000) (implicitDefEqProofs := false) only [c15, t1, hWa, hWb, hW, eq_false h0, eq_false h1, eq_false h2, eq_false h3, eq_false h4, eq_false h5, eq_false h6, eq_false h7, eq_false h8, eq_false h9, eq_false h10, eq_false h11, eq_false h12, eq_false h13, eq_true h14, hbin, hone, hone', enter_eq, setAll_cons, setAll_nil, w_seq, w_reg, o_nil, o_plain, o_skip, o_done, p_assign, p_move, p_pick, pickA_true, pickA_false, p_extract, exA_tup, p_call, opvs_nil, opvs_cons, v_int, v_bool, v_str, v_tmp, evThen_ok, setDst_fset, setDst_none, seqA_normal, seqA_ret, seqA_exit, w_block, blockA_normal, blockA_ret, blockA_exit, w_cond, condA_true, condA_false, w_ret, w_skip, w_exit, w_scope, p_binOp, b_add, b_sub, b_mul, b_eql, b_neq, b_eqlS, b_neqS, b_lss, b_leq, b_gtr, b_geq, p_unOp, u_neg, u_not, c_int, lift_some', look_cons, look_nil, isWant_true, isWant_false, isWant_skipped, Option.some.injEq, Bool.true_eq_false, Bool.false_eq_true, after_ret, after_normal, res_tmp, res_nil, obind_some', get_fset, resOf_some, one_one, one_two, one_nil, Nat.reduceAdd, Nat.reduceLT, Nat.reduceEqDiff, ↓reduceIte, decide_true, decide_false, Bool.not_true, Bool.not_false, List.getElem?_cons_zero, List.getElem?_cons_succ, List.getElem?_nil]
    · simp (maxSteps := 1000000) (implicitDefEqProofs := false) only [c15, t1, t2, hWa, hWb, hW, eq_false h0, eq_false h1, eq_false h2, eq_false h3, eq_false h4, eq_false h5, eq_false h6, eq_false h7, eq_false h8, eq_false h9, eq_false h10, eq_false h11, eq_false h12, eq_false h13, eq_true h14, hbin, hone, hone', enter_eq, setAll_cons, setAll_nil, w_seq, w_reg, o_nil, o_plain, o_skip, o_done, p_assign, p_move, p_pick, pickA_true, pickA_false, p_extract, exA_tup, p_call, opvs_nil, opvs_cons, v_int, v_bool, v_str, v_tmp, evThen_ok, setDst_fset, setDst_none, seqA_normal, seqA_ret, seqA_exit, w_block, blockA_normal, blockA_ret, blockA_exit, w_cond, condA_true, condA_false, w_ret, w_skip, w_exit, w_scope, p_binOp, b_add, b_sub, b_mul, b_eql, b_neq, b_eqlS, b_neqS, b_lss, b_leq, b_gtr, b_geq, p_unOp, u_neg, u_not, c_int, lift_some', look_cons, look_nil, isWant_true, isWant_false, isWant_skipped, Option.some.injEq, Bool.true_eq_false, Bool.false_eq_true, after_ret, after_normal, res_tmp, res_nil, obind_some', get_fset, resOf_some, one_one, one_two, one_nil, Nat.reduceAdd, Nat.reduceLT, Nat.reduceEqDiff, ↓reduceIte, decide_true, decide_false, Bool.not_true, Bool.not_false, List.getElem?_cons_zero, List.getElem?_cons_succ, List.getElem?_nil]
  by_cases h15 : op = [62, 61]
  · skip
    have hbin : binL t op a b = (if wrapL t b ≤ wrapL t a then 1 else 0, 0) := by
      rw [R.ne op a b h3 h4, h15]; rw [oge]
    rcases ht1 with t1 | ⟨t1, t2⟩
    · simp (maxSteps := 1000000) (implicitDefEqProofs := false) only [c15, t1, hWa, hWb, hW, eq_false h0, eq_false h1, eq_false h2, eq_false h3, eq_false h4, eq_false h5, eq_false h6, eq_false h7, eq_false h8, eq_false h9, eq_false h10, eq_false h11, eq_false h12, eq_false h13, eq_false h14, eq_true h15, hbin, hone, hone', enter_eq, setAll_cons, setAll_nil, w_seq, w_reg, o_nil, o_plain, o_skip, o_done, p_assign, p_move, p_pick, pickA_true, pickA_false, p_extract, exA_tup, p_call, opvs_nil, opvs_cons, v_int, v_bool, v_str, v_tmp, evThen_ok, setDst_fset, setDst_none, seqA_normal, seqA_ret, seqA_exit, w_block, blockA_normal, blockA_ret, blockA_exit, w_cond, condA_true, condA_false, w_ret, w_skip, w_exit, w_scope, p_binOp, b_add, b_sub, b_mul, b_eql, b_neq, b_eqlS, b_neqS, b_lss, b_leq, b_gtr, b_geq, p_unOp, u_neg, u_not, c_int, lift_some', look_cons, look_nil, isWant_true, isWant_false, isWant_skipped, Option.some.injEq, Bool.true_eq_false, Bool.false_eq_true, after_ret, after_normal, res_tmp, res_nil, obind_some', get_fset, resOf_some, one_one, one_two, one_nil, Nat.reduceAdd, Nat.reduceLT, Nat.reduceEqDiff, ↓reduceIte, decide_true, decide_false, Bool.not_true, Bool.not_false, List.getElem?_cons_zero, List.getElem?_cons_succ, List.getElem?_nil]
    · simp (maxSteps := 1000000) (implicitDefEqProofs := false) only [c15, t1, t2, hWa, hWb, hW, eq_false h0, eq_false h1, eq_false h2, eq_false h3, eq_false h4, eq_false h5, eq_false h6, eq_false h7, eq_false h8, eq_false h9, eq_false h10, eq_false h11, eq_false h12, eq_false h13, eq_false h14, eq_true h15, hbin, hone, hone', enter_eq, setAll_cons, setAll_nil, w_seq, w_reg, o_nil, o_plain, o_skip, o_done, p_assign, p_move, p_pick, pickA_true, pickA_false, p_extract, exA_tup, p_call, opvs_nil, opvs_cons, v_int, v_bool, v_str, v_tmp, evThen_ok, setDst_fset, setDst_none, seqA_normal, seqA_ret, seqA_exit, w_block, blockA_normal, blockA_ret, blockA_exit, w_cond, condA_true, condA_false, w_ret, w_skip, w_exit, w_scope, p_binOp, b_add, b_sub, b_mul, b_eql, b_neq, b_eqlS, b_neqS, b_lss, b_leq, b_gtr, b_geq, p_unOp, u_neg, u_not, c_int, lift_some', look_cons, look_nil, isWant_true, isWant_false, isWant_skipped, Option.some.injEq, Bool.true_eq_false, Bool.false_eq_true, after_ret, after_normal, res_tmp, res_nil, obind_some', get_fset, resOf_some, one_one, one_two, one_nil, Nat.reduceAdd, Nat.reduceLT, Nat.reduceEqDiff, ↓reduceIte, decide_true, decide_false, Bool.not_true, Bool.not_false, List.getElem?_cons_zero, List.getElem?_cons_succ, List.getElem?_nil]
  · skip
    have hbin : binL t op a b = (0, 0) := by
      rw [R.ne op a b h3 h4]
      have hd : ∀ k m x y, doesL k m op x y = 0 := fun k m x y => by simp [doesL, h0, h1, h2, h3, h4, h5, h6, h7, h8, h9, h10, h11, h12, h13, h14, h15]
      rcases R.ty with e | e <;> subst e <;> simp [lawL, binL, core, h3, h4, hd]
    rcases ht1 with t1 | ⟨t1, t2⟩
    · simp (maxSteps := 1000000) (implicitDefEqProofs := false) only [c15, t1, hWa, hWb, hW, eq_false h0, eq_false h1, eq_false h2, eq_false h3, eq_false h4, eq_false h5, eq_false h6, eq_false h7, eq_false h8, eq_false h9, eq_false h10, eq_false h11, eq_false h12, eq_false h13, eq_false h14, eq_false h15, hbin, hone, hone', enter_eq, setAll_cons, setAll_nil, w_seq, w_reg, o_nil, o_plain, o_skip, o_done, p_assign, p_move, p_pick, pickA_true, pickA_false, p_extract, exA_tup, p_call, opvs_nil, opvs_cons, v_int, v_bool, v_str, v_tmp, evThen_ok, setDst_fset, setDst_none, seqA_normal, seqA_ret, seqA_exit, w_block, blockA_normal, blockA_ret, blockA_exit, w_cond, condA_true, condA_false, w_ret, w_skip, w_exit, w_scope, p_binOp, b_add, b_sub, b_mul, b_eql, b_neq, b_eqlS, b_neqS, b_lss, b_leq, b_gtr, b_geq, p_unOp, u_neg, u_not, c_int, lift_some', look_cons, look_nil, isWant_true, isWant_false, isWant_skipped, Option.some.injEq, Bool.true_eq_false, Bool.false_eq_true, after_ret, after_normal, res_tmp, res_nil, obind_some', get_fset, resOf_some, one_one, one_two, one_nil, Nat.reduceAdd, Nat.reduceLT, Nat.reduceEqDiff, ↓reduceIte, decide_true, decide_false, Bool.not_true, Bool.not_false, List.getElem?_cons_zero, List.getElem?_cons_succ, List.getElem?_nil]
    · simp (maxSteps := 1000000) (implicitDefEqProofs := false) only [c15, t1, t2, hWa, hWb, hW, eq_false h0, eq_false h1, eq_false h2, eq_false h3, eq_false h4, eq_false h5, eq_false h6, eq_false h7, eq_false h8, eq_false h9, eq_false h10, eq_false h11, eq_false h12, eq_false h13, eq_false h14, eq_false h15, hbin, hone, hone', enter_eq, setAll_cons, setAll_nil, w_seq, w_reg, o_nil, o_plain, o_skip, o_done, p_assign, p_move, p_pick, pickA_true, pickA_false, p_extract, exA_tup, p_call, opvs_nil, opvs_cons, v_int, v_bool, v_str, v_tmp, evThen_ok, setDst_fset, setDst_none, seqA_normal, seqA_ret, seqA_exit, w_block, blockA_normal, blockA_ret, blockA_exit, w_cond, condA_true, condA_false, w_ret, w_skip, w_exit, w_scope, p_binOp, b_add, b_sub, b_mul, b_eql, b_neq, b_eqlS, b_neqS, b_lss, b_leq, b_gtr, b_geq, p_unOp, u_neg, u_not, c_int, lift_some', look_cons, look_nil, isWant_true, isWant_false, isWant_skipped, Option.some.injEq, Bool.true_eq_false, Bool.false_eq_true, after_ret, after_normal, res_tmp, res_nil, obind_some', get_fset, resOf_some, one_one, one_two, one_nil, Nat.reduceAdd, Nat.reduceLT, Nat.reduceEqDiff, ↓reduceIte, decide_true, decide_false, Bool.not_true, Bool.not_false, List.getElem?_cons_zero, List.getElem?_cons_succ, List.getElem?_nil]
theorem RBin_ok (t : Int) (op : List UInt8) {a b : Int} (ha : In64 a) (hb : In64 b) (h : Heap) :
    callω E 15 [.int .i64 t, .str op, .int .i64 a, .int .i64 b] h = .ok (.tup [.int .i64 (binL t op a b).1, .int .i64 (binL t op a b).2]) h := by
  by_cases h1 : t = 1
  · subst h1; exact RBin_kind ref1 false rfl op ha hb h
  by_cases h2 : t = 2
  · subst h2; exact RBin_kind ref2 true rfl op ha hb h
  · have hbin : binL t op a b = (0, 0) := by simp [binL, h1, h2]
    rw [call15 _ (by simp)]
    simp (maxSteps := 1000000) (implicitDefEqProofs := false) only [c15, eq_false h1, eq_false h2, hbin, enter_eq, setAll_cons, setAll_nil, w_seq, w_reg, o_nil, o_plain, o_skip, o_done, p_assign, p_move, p_pick, pickA_true, pickA_false, p_extract, exA_tup, p_call, opvs_nil, opvs_cons, v_int, v_bool, v_str, v_tmp, evThen_ok, setDst_fset, setDst_none, seqA_normal, seqA_ret, seqA_exit, w_block, blockA_normal, blockA_ret, blockA_exit, w_cond, condA_true, condA_false, w_ret, w_skip, w_exit, w_scope, p_binOp, b_add, b_sub, b_mul, b_eql, b_neq, b_eqlS, b_neqS, b_lss, b_leq, b_gtr, b_geq, p_unOp, u_neg, u_not, c_int, lift_some', look_cons, look_nil, isWant_true, isWant_false, isWant_skipped, Option.some.injEq, Bool.true_eq_false, Bool.false_eq_true, after_ret, after_normal, res_tmp, res_nil, obind_some', get_fset, resOf_some, one_one, one_two, one_nil, Nat.reduceAdd, Nat.reduceLT, Nat.reduceEqDiff, ↓reduceIte, decide_true, decide_false, Bool.not_true, Bool.not_false, List.getElem?_cons_zero, List.getElem?_cons_succ, List.getElem?_nil]
theorem Bins_k (t : Int) (op : List UInt8) {a b : Int} (ha : In64 a) (hb : In64 b) (h : Heap) : callω E 5 [.int .i64 t, .str op, .int .i64 a, .int .i64 b] h = .ok (.bool true) (hW h) := by
  have hR := fun h => RBin_ok t op ha hb h
  have hWr := fun h => RWrap_ok t ha h
  rw [call5 _ (by simp)]
  simp (maxSteps := 1000000) (implicitDefEqProofs := false) only [c5, Bin_ok, hR, Width_ok, RWidth_ok, Wrap_ok, hWr, works_ok, enter_eq, setAll_cons, setAll_nil, w_seq, w_reg, o_nil, o_plain, o_skip, o_done, p_assign, p_move, p_pick, pickA_true, pickA_false, p_extract, exA_tup, p_call, opvs_nil, opvs_cons, v_int, v_bool, v_str, v_tmp, evThen_ok, setDst_fset, setDst_none, seqA_normal, seqA_ret, seqA_exit, w_block, blockA_normal, blockA_ret, blockA_exit, w_cond, condA_true, condA_false, w_ret, w_skip, w_exit, w_scope, p_binOp, b_add, b_sub, b_mul, b_eql, b_neq, b_eqlS, b_neqS, b_lss, b_leq, b_gtr, b_geq, p_unOp, u_neg, u_not, c_int, lift_some', look_cons, look_nil, isWant_true, isWant_false, isWant_skipped, Option.some.injEq, Bool.true_eq_false, Bool.false_eq_true, after_ret, after_normal, res_tmp, res_nil, obind_some', get_fset, resOf_some, one_one, one_two, one_nil, Nat.reduceAdd, Nat.reduceLT, Nat.reduceEqDiff, ↓reduceIte, decide_true, decide_false, Bool.not_true, Bool.not_false, List.getElem?_cons_zero, List.getElem?_cons_succ, List.getElem?_nil]
theorem Bins_ok (t : Int) (op : List UInt8) {a b : Int} (ha : In64 a) (hb : In64 b) (h : Heap) : ∃ h', callω E 5 [.int .i64 t, .str op, .int .i64 a, .int .i64 b] h = .ok (.bool true) h' := ⟨_, Bins_k t op ha hb h⟩
end Go.Proofs.Word
namespace Go.Proofs.Word
open Go Go.AM
noncomputable section
def body9_0 : XC :=
  (.seq
                        (.seq
                        (.reg false [
                          ⟨some 35, .move (.tmp 6), none, false, true, false⟩,
                          ⟨some 36, .move (.tmp 2), none, false, true, false⟩,
                          ⟨some 37, .call ⟨.builtin .len, #[.tmp 36], #[23]⟩, none, false, true, false⟩,
                          ⟨some 38, .binOp .lss 3 (.tmp 35) (.tmp 37) 3, none, false, true, false⟩])
                        (.cond (.tmp 38)
                          .skip
                          (.exit 6)))
                        (.seq
                        (.block 7
                          (.seq
                          (.reg true [
                            ⟨some 41, .move (.tmp 5), none, false, false, false⟩,
                            ⟨some 42, .move (.tmp 2), none, false, false, false⟩,
                            ⟨some 43, .move (.tmp 6), none, false, false, false⟩,
                            ⟨some 44, .indexAddr 23 (.tmp 42) (.tmp 43), none, false, false, false⟩,
                            ⟨some 45, .load 9 (.tmp 44), none, false, false, false⟩,
                            ⟨some 46, .move (.tmp 1), none, false, false, false⟩,
                            ⟨some 47, .move (.tmp 3), none, false, false, false⟩,
                            ⟨some 48, .indexAddr 36 (.tmp 46) (.tmp 47), none, false, false, false⟩,
                            ⟨some 49, .load 3 (.tmp 48), none, false, false, false⟩,
                            ⟨some 50, .move (.tmp 1), none, false, false, false⟩,
                            ⟨some 51, .move (.tmp 4), none, false, true, false⟩,
                            ⟨some 52, .indexAddr 36 (.tmp 50) (.tmp 51), none, false, true, false⟩,
                            ⟨some 53, .load 3 (.tmp 52), none, false, true, false⟩,
                            ⟨some 54, .call ⟨.value (.func 5), #[.tmp 41, .tmp 45, .tmp 49, .tmp 53], #[3, 9, 3, 3]⟩, none, false, true, false⟩,
                            ⟨some 55, .unOp .not 4 (.tmp 54), none, false, true, false⟩])
                          (.cond (.tmp 55)
                            (.seq
                            (.reg false [
                              ⟨some 0, .assign (.const (.bool false)), none, false, true, false⟩])
                            .ret)
                            .skip)))
                        (.reg false [
                          ⟨some 39, .move (.tmp 6), none, false, true, false⟩,
                          ⟨some 40, .binOp .add 3 (.tmp 39) (.const (.int .i64 1)) 3, none, false, true, false⟩,
                          ⟨some 6, .assign (.tmp 40), none, false, true, false⟩])))
def body9_1 : XC :=
  (.seq
                  (.seq
                  (.reg false [
                    ⟨some 31, .move (.tmp 5), none, false, true, false⟩,
                    ⟨some 32, .binOp .lss 3 (.tmp 31) (.const (.int .i64 5)) 3, none, false, true, false⟩])
                  (.cond (.tmp 32)
                    .skip
                    (.exit 4)))
                  (.seq
                  (.block 5
                    (.seq
                    (.seq
                    (.reg false [
                      ⟨some 6, .assign (.const (.int .i64 0)), none, false, true, false⟩])
                    (.block 6
                      (.loop body9_0)))
                    (.seq
                    (.reg true [
                      ⟨some 56, .move (.tmp 5), none, false, false, false⟩,
                      ⟨some 57, .move (.tmp 1), none, false, false, false⟩,
                      ⟨some 58, .move (.tmp 3), none, false, false, false⟩,
                      ⟨some 59, .indexAddr 36 (.tmp 57) (.tmp 58), none, false, false, false⟩,
                      ⟨some 60, .load 3 (.tmp 59), none, false, false, false⟩,
                      ⟨some 61, .move (.tmp 4), none, false, false, false⟩,
                      ⟨some 62, .move (.tmp 2), none, false, false, false⟩,
                      ⟨some 63, .move (.tmp 4), none, false, false, false⟩,
                      ⟨some 64, .move (.tmp 2), none, false, false, false⟩,
                      ⟨some 65, .call ⟨.builtin .len, #[.tmp 64], #[23]⟩, none, false, false, false⟩,
                      ⟨some 66, .binOp .rem 3 (.tmp 63) (.tmp 65) 3, none, false, false, false⟩,
                      ⟨some 67, .indexAddr 23 (.tmp 62) (.tmp 66), none, false, false, false⟩,
                      ⟨some 68, .load 9 (.tmp 67), none, false, false, false⟩,
                      ⟨some 69, .move (.tmp 1), none, false, false, false⟩,
                      ⟨some 70, .move (.tmp 4), none, false, true, false⟩,
                      ⟨some 71, .indexAddr 36 (.tmp 69) (.tmp 70), none, false, true, false⟩,
                      ⟨some 72, .load 3 (.tmp 71), none, false, true, false⟩,
                      ⟨some 73, .call ⟨.value (.func 6), #[.tmp 56, .tmp 60, .tmp 61, .tmp 68, .tmp 72], #[3, 3, 3, 9, 3]⟩, none, false, true, false⟩,
                      ⟨some 74, .unOp .not 4 (.tmp 73), none, false, true, false⟩])
                    (.cond (.tmp 74)
                      (.seq
                      (.reg false [
                        ⟨some 0, .assign (.const (.bool false)), none, false, true, false⟩])
                      .ret)
                      .skip))))
                  (.reg false [
                    ⟨some 33, .move (.tmp 5), none, false, true, false⟩,
                    ⟨some 34, .binOp .add 3 (.tmp 33) (.const (.int .i64 1)) 3, none, false, true, false⟩,
                    ⟨some 5, .assign (.tmp 34), none, false, true, false⟩])))
def body9_2 : XC :=
  (.seq
            (.seq
            (.reg false [
              ⟨some 25, .move (.tmp 4), none, false, true, false⟩,
              ⟨some 26, .move (.tmp 1), none, false, true, false⟩,
              ⟨some 27, .call ⟨.builtin .len, #[.tmp 26], #[36]⟩, none, false, true, false⟩,
              ⟨some 28, .binOp .lss 3 (.tmp 25) (.tmp 27) 3, none, false, true, false⟩])
            (.cond (.tmp 28)
              .skip
              (.exit 2)))
            (.seq
            (.block 3
              (.seq
              (.seq
              (.reg false [
                ⟨some 5, .assign (.const (.int .i64 (-1))), none, false, true, false⟩])
              (.block 4
                (.loop body9_1)))
              (.seq
              (.reg true [
                ⟨some 75, .move (.tmp 3), none, false, false, false⟩,
                ⟨some 76, .binOp .rem 3 (.tmp 75) (.const (.int .i64 2)) 3, none, false, false, false⟩,
                ⟨some 77, .binOp .eql 3 (.tmp 76) (.const (.int .i64 0)) 3, none, false, false, false⟩,
                ⟨some 78, .move (.tmp 1), none, false, false, false⟩,
                ⟨some 79, .move (.tmp 3), none, false, false, false⟩,
                ⟨some 80, .indexAddr 36 (.tmp 78) (.tmp 79), none, false, false, false⟩,
                ⟨some 81, .load 3 (.tmp 80), none, false, false, false⟩,
                ⟨some 82, .move (.tmp 1), none, false, false, false⟩,
                ⟨some 83, .move (.tmp 4), none, false, true, false⟩,
                ⟨some 84, .indexAddr 36 (.tmp 82) (.tmp 83), none, false, true, false⟩,
                ⟨some 85, .load 3 (.tmp 84), none, false, true, false⟩,
                ⟨some 86, .call ⟨.value (.func 7), #[.tmp 77, .tmp 81, .tmp 85], #[4, 3, 3]⟩, none, false, true, false⟩,
                ⟨some 87, .unOp .not 4 (.tmp 86), none, false, true, false⟩,
                ⟨some 88, .move (.tmp 87), none, false, true, false⟩,
                ⟨some 89, .move (.tmp 4), some (some 88, false), false, false, false⟩,
                ⟨some 90, .binOp .rem 3 (.tmp 89) (.const (.int .i64 2)) 3, some (some 88, false), false, false, false⟩,
                ⟨some 91, .binOp .eql 3 (.tmp 90) (.const (.int .i64 0)) 3, some (some 88, false), false, false, false⟩,
                ⟨some 92, .move (.tmp 1), some (some 88, false), false, false, false⟩,
                ⟨some 93, .move (.tmp 3), some (some 88, false), false, false, false⟩,
                ⟨some 94, .indexAddr 36 (.tmp 92) (.tmp 93), some (some 88, false), false, false, false⟩,
                ⟨some 95, .load 3 (.tmp 94), some (some 88, false), false, false, false⟩,
                ⟨some 96, .move (.tmp 1), some (some 88, false), false, false, false⟩,
                ⟨some 97, .move (.tmp 4), some (some 88, false), false, true, false⟩,
                ⟨some 98, .indexAddr 36 (.tmp 96) (.tmp 97), some (some 88, false), false, true, false⟩,
                ⟨some 99, .load 3 (.tmp 98), some (some 88, false), false, true, false⟩,
                ⟨some 100, .call ⟨.value (.func 4), #[.tmp 91, .tmp 95, .tmp 99], #[4, 3, 3]⟩, some (some 88, false), false, true, false⟩,
                ⟨some 101, .unOp .not 4 (.tmp 100), some (some 88, false), false, true, false⟩,
                ⟨some 102, .pick (.tmp 88) (.const (.bool true)) (.tmp 101), none, false, true, false⟩,
                ⟨some 103, .move (.tmp 102), none, false, true, false⟩,
                ⟨some 104, .move (.tmp 3), some (some 103, false), false, false, false⟩,
                ⟨some 105, .binOp .rem 3 (.tmp 104) (.const (.int .i64 2)) 3, some (some 103, false), false, false, false⟩,
                ⟨some 106, .binOp .eql 3 (.tmp 105) (.const (.int .i64 0)) 3, some (some 103, false), false, false, false⟩,
                ⟨some 107, .move (.tmp 1), some (some 103, false), false, false, false⟩,
                ⟨some 108, .move (.tmp 3), some (some 103, false), false, false, false⟩,
                ⟨some 109, .indexAddr 36 (.tmp 107) (.tmp 108), some (some 103, false), false, false, false⟩,
                ⟨some 110, .load 3 (.tmp 109), some (some 103, false), false, false, false⟩,
                ⟨some 111, .move (.tmp 1), some (some 103, false), false, false, false⟩,
                ⟨some 112, .move (.tmp 4), some (some 103, false), false, true, false⟩,
                ⟨some 113, .indexAddr 36 (.tmp 111) (.tmp 112), some (some 103, false), false, true, false⟩,
                ⟨some 114, .load 3 (.tmp 113), some (some 103, false), false, true, false⟩,
                ⟨some 115, .call ⟨.value (.func 3), #[.tmp 106, .tmp 110, .tmp 114, .const (.int .i64 3)], #[4, 3, 3, 3]⟩, some (some 103, false), false, true, false⟩,
                ⟨some 116, .unOp .not 4 (.tmp 115), some (some 103, false), false, true, false⟩,
                ⟨some 117, .pick (.tmp 103) (.const (.bool true)) (.tmp 116), none, false, true, false⟩])
              (.cond (.tmp 117)
                (.seq
                (.reg false [
                  ⟨some 0, .assign (.const (.bool false)), none, false, true, false⟩])
                .ret)
                .skip))))
            (.reg false [
              ⟨some 29, .move (.tmp 4), none, false, true, false⟩,
              ⟨some 30, .binOp .add 3 (.tmp 29) (.const (.int .i64 1)) 3, none, false, true, false⟩,
              ⟨some 4, .assign (.tmp 30), none, false, true, false⟩])))
def body9_3 : XC :=
  (.seq
      (.seq
      (.reg false [
        ⟨some 19, .move (.tmp 3), none, false, true, false⟩,
        ⟨some 20, .move (.tmp 1), none, false, true, false⟩,
        ⟨some 21, .call ⟨.builtin .len, #[.tmp 20], #[36]⟩, none, false, true, false⟩,
        ⟨some 22, .binOp .lss 3 (.tmp 19) (.tmp 21) 3, none, false, true, false⟩])
      (.cond (.tmp 22)
        .skip
        (.exit 0)))
      (.seq
      (.block 1
        (.seq
        (.seq
        (.reg false [
          ⟨some 4, .assign (.const (.int .i64 0)), none, false, true, false⟩])
        (.block 2
          (.loop body9_2)))
        (.seq
        (.reg true [
          ⟨some 118, .move (.tmp 1), none, false, false, false⟩,
          ⟨some 119, .move (.tmp 3), none, false, true, false⟩,
          ⟨some 120, .indexAddr 36 (.tmp 118) (.tmp 119), none, false, true, false⟩,
          ⟨some 121, .load 3 (.tmp 120), none, false, true, false⟩,
          ⟨some 122, .call ⟨.value (.func 8), #[.const (.bool true), .tmp 121, .const (.int .i64 5)], #[4, 3, 3]⟩, none, false, true, false⟩,
          ⟨some 123, .unOp .not 4 (.tmp 122), none, false, true, false⟩,
          ⟨some 124, .move (.tmp 123), none, false, true, false⟩,
          ⟨some 125, .move (.tmp 1), some (some 124, false), false, false, false⟩,
          ⟨some 126, .move (.tmp 3), some (some 124, false), false, false, false⟩,
          ⟨some 127, .indexAddr 36 (.tmp 125) (.tmp 126), some (some 124, false), false, false, false⟩,
          ⟨some 128, .load 3 (.tmp 127), some (some 124, false), false, false, false⟩,
          ⟨some 129, .move (.tmp 1), some (some 124, false), false, false, false⟩,
          ⟨some 130, .move (.tmp 1), some (some 124, false), false, false, false⟩,
          ⟨some 131, .call ⟨.builtin .len, #[.tmp 130], #[36]⟩, some (some 124, false), false, false, false⟩,
          ⟨some 132, .binOp .sub 3 (.tmp 131) (.const (.int .i64 1)) 3, some (some 124, false), false, false, false⟩,
          ⟨some 133, .move (.tmp 3), some (some 124, false), false, true, false⟩,
          ⟨some 134, .binOp .sub 3 (.tmp 132) (.tmp 133) 3, some (some 124, false), false, true, false⟩,
          ⟨some 135, .indexAddr 36 (.tmp 129) (.tmp 134), some (some 124, false), false, true, false⟩,
          ⟨some 136, .load 3 (.tmp 135), some (some 124, false), false, true, false⟩,
          ⟨some 137, .call ⟨.value (.func 8), #[.const (.bool false), .tmp 128, .tmp 136], #[4, 3, 3]⟩, some (some 124, false), false, true, false⟩,
          ⟨some 138, .unOp .not 4 (.tmp 137), some (some 124, false), false, true, false⟩,
          ⟨some 139, .pick (.tmp 124) (.const (.bool true)) (.tmp 138), none, false, true, false⟩])
        (.cond (.tmp 139)
          (.seq
          (.reg false [
            ⟨some 0, .assign (.const (.bool false)), none, false, true, false⟩])
          .ret)
          .skip))))
      (.reg false [
        ⟨some 23, .move (.tmp 3), none, false, true, false⟩,
        ⟨some 24, .binOp .add 3 (.tmp 23) (.const (.int .i64 1)) 3, none, false, true, false⟩,
        ⟨some 3, .assign (.tmp 24), none, false, true, false⟩])))
def d9 : XC :=
  (.seq
  (.reg false [
    ⟨some 0, .assign (.const (.bool false)), none, false, true, false⟩])
  (.seq
  (.reg false [
    ⟨some 15, .buildSlice 36 32 #[(0, .const (.int .i64 (-9223372036854775808))), (1, .const (.int .i64 (-9223372036854775807))), (2, .const (.int .i64 (-4294967297))), (3, .const (.int .i64 (-4294967296))), (4, .const (.int .i64 (-2147483649))), (5, .const (.int .i64 (-2147483648))), (6, .const (.int .i64 (-2147483647))), (7, .const (.int .i64 (-129))), (8, .const (.int .i64 (-128))), (9, .const (.int .i64 (-7))), (10, .const (.int .i64 (-2))), (11, .const (.int .i64 (-1))), (12, .const (.int .i64 0)), (13, .const (.int .i64 1)), (14, .const (.int .i64 2)), (15, .const (.int .i64 7)), (16, .const (.int .i64 31)), (17, .const (.int .i64 32)), (18, .const (.int .i64 33)), (19, .const (.int .i64 63)), (20, .const (.int .i64 64)), (21, .const (.int .i64 127)), (22, .const (.int .i64 128)), (23, .const (.int .i64 200)), (24, .const (.int .i64 255)), (25, .const (.int .i64 256)), (26, .const (.int .i64 2147483647)), (27, .const (.int .i64 2147483648)), (28, .const (.int .i64 4294967295)), (29, .const (.int .i64 4294967296)), (30, .const (.int .i64 4611686018427387909)), (31, .const (.int .i64 9223372036854775807))], none, false, true, false⟩,
    ⟨some 1, .assign (.tmp 15), none, false, true, false⟩])
  (.seq
  (.reg false [
    ⟨some 16, .call ⟨.value (.func 20), #[], #[]⟩, none, false, true, false⟩,
    ⟨some 17, .buildSlice 23 3 #[(0, .const (.string ⟨#[]⟩)), (1, .const (.string ⟨#[63]⟩)), (2, .const (.string ⟨#[43, 32]⟩))], none, false, true, false⟩,
    ⟨some 18, .call ⟨.builtin .append, #[.tmp 16, .tmp 17], #[23, 23]⟩, none, false, true, false⟩,
    ⟨some 2, .assign (.tmp 18), none, false, true, false⟩])
  (.seq
  (.seq
  (.reg false [
    ⟨some 3, .assign (.const (.int .i64 0)), none, false, true, false⟩])
  (.block 0
    (.loop body9_3)))
  (.seq
  (.reg false [
    ⟨some 141, .call ⟨.value (.func 14), #[.const (.int .i64 1), .const (.string ⟨#[60, 60]⟩), .const (.int .i64 1), .const (.int .i64 33)], #[3, 9, 3, 3]⟩, none, false, true, false⟩,
    ⟨some 140, .move (.tmp 141), none, false, true, false⟩,
    ⟨some 142, .extract (.tmp 140) 0, none, false, true, false⟩,
    ⟨some 143, .extract (.tmp 140) 1, none, false, true, false⟩,
    ⟨some 7, .assign (.tmp 142), none, false, true, false⟩,
    ⟨some 8, .assign (.tmp 143), none, false, true, false⟩])
  (.seq
  (.reg false [
    ⟨some 145, .call ⟨.value (.func 14), #[.const (.int .i64 1), .const (.string ⟨#[62, 62]⟩), .const (.int .i64 (-5)), .const (.int .i64 (-1))], #[3, 9, 3, 3]⟩, none, false, true, false⟩,
    ⟨some 144, .move (.tmp 145), none, false, true, false⟩,
    ⟨some 146, .extract (.tmp 144) 0, none, false, true, false⟩,
    ⟨some 147, .extract (.tmp 144) 1, none, false, true, false⟩,
    ⟨some 9, .assign (.tmp 146), none, false, true, false⟩,
    ⟨some 10, .assign (.tmp 147), none, false, true, false⟩])
  (.seq
  (.reg false [
    ⟨some 149, .call ⟨.value (.func 14), #[.const (.int .i64 1), .const (.string ⟨#[37]⟩), .const (.int .i64 (-7)), .const (.int .i64 2)], #[3, 9, 3, 3]⟩, none, false, true, false⟩,
    ⟨some 148, .move (.tmp 149), none, false, true, false⟩,
    ⟨some 150, .extract (.tmp 148) 0, none, false, true, false⟩,
    ⟨some 151, .extract (.tmp 148) 1, none, false, true, false⟩,
    ⟨some 11, .assign (.tmp 150), none, false, true, false⟩,
    ⟨some 12, .assign (.tmp 151), none, false, true, false⟩])
  (.seq
  (.reg false [
    ⟨some 153, .call ⟨.value (.func 14), #[.const (.int .i64 2), .const (.string ⟨#[43]⟩), .const (.int .i64 2147483647), .const (.int .i64 1)], #[3, 9, 3, 3]⟩, none, false, true, false⟩,
    ⟨some 152, .move (.tmp 153), none, false, true, false⟩,
    ⟨some 154, .extract (.tmp 152) 0, none, false, true, false⟩,
    ⟨some 155, .extract (.tmp 152) 1, none, false, true, false⟩,
    ⟨some 13, .assign (.tmp 154), none, false, true, false⟩,
    ⟨some 14, .assign (.tmp 155), none, false, true, false⟩])
  (.seq
  (.reg false [
    ⟨some 156, .move (.tmp 7), none, false, true, false⟩,
    ⟨some 157, .binOp .eql 3 (.tmp 156) (.const (.int .i64 2)) 3, none, false, true, false⟩,
    ⟨some 158, .move (.tmp 157), none, false, true, false⟩,
    ⟨some 159, .move (.tmp 9), some (some 158, true), false, true, false⟩,
    ⟨some 160, .binOp .eql 3 (.tmp 159) (.const (.int .i64 (-1))) 3, some (some 158, true), false, true, false⟩,
    ⟨some 161, .pick (.tmp 158) (.tmp 160) (.const (.bool false)), none, false, true, false⟩,
    ⟨some 162, .move (.tmp 161), none, false, true, false⟩,
    ⟨some 163, .move (.tmp 11), some (some 162, true), false, true, false⟩,
    ⟨some 164, .binOp .eql 3 (.tmp 163) (.const (.int .i64 (-1))) 3, some (some 162, true), false, true, false⟩,
    ⟨some 165, .pick (.tmp 162) (.tmp 164) (.const (.bool false)), none, false, true, false⟩,
    ⟨some 166, .move (.tmp 165), none, false, true, false⟩,
    ⟨some 167, .move (.tmp 13), some (some 166, true), false, true, false⟩,
    ⟨some 168, .binOp .eql 3 (.tmp 167) (.const (.int .i64 2147483648)) 3, some (some 166, true), false, true, false⟩,
    ⟨some 169, .pick (.tmp 166) (.tmp 168) (.const (.bool false)), none, false, true, false⟩,
    ⟨some 170, .move (.tmp 169), none, false, true, false⟩,
    ⟨some 171, .move (.tmp 14), some (some 170, true), false, true, false⟩,
    ⟨some 172, .binOp .eql 3 (.tmp 171) (.const (.int .i64 0)) 3, some (some 170, true), false, true, false⟩,
    ⟨some 173, .pick (.tmp 170) (.tmp 172) (.const (.bool false)), none, false, true, false⟩,
    ⟨some 174, .move (.tmp 173), none, false, true, false⟩,
    ⟨some 175, .call ⟨.value (.func 13), #[], #[]⟩, some (some 174, true), false, true, false⟩,
    ⟨some 176, .pick (.tmp 174) (.tmp 175) (.const (.bool false)), none, false, true, false⟩,
    ⟨some 0, .assign (.tmp 176), none, false, true, false⟩])
  .ret)))))))))
theorem d9_eq : c9 = d9 := rfl
end
end Go.Proofs.Word
namespace Go.AM
section
variable {E : Env} {fr : Tr} {h : Heap} {call : CallF}
theorem D_nil (dd : List Nat) : evOpsD E call [] fr h dd = .ok .normal fr h := rfl
/-- What follows an operation of a region that draws its order. -/
noncomputable def dThen (d : Option Tmp) (k : Tr → Heap → List Nat → CRes) (fr : Tr) (dd : List Nat) (s : Bool) (r : Res) : CRes := evThenD d k fr (plainD' s dd r)
theorem dThen_ok (d : Option Tmp) (k : Tr → Heap → List Nat → CRes) (fr : Tr) (dd : List Nat) (s : Bool) (v : AV) (h : Heap) : dThen d k fr dd s (.ok v h) = k (setDst d v fr) h dd := rfl
theorem D_plain (d : Option Tmp) (op : Op) (s : Bool) (l : List XOp) (dd : List Nat) : evOpsD E call (⟨d, op, none, false, s, false⟩ :: l) fr h dd = dThen d (evOpsD E call l) fr dd s (evOp E call op fr h) := rfl
theorem D_skip {d : Option Tmp} {op : Op} {t : Tmp} {w s : Bool} {l : List XOp} {dd : List Nat} (hg : isWant w (fr.get t) = some false) : evOpsD E call (⟨d, op, some (some t, w), false, s, false⟩ :: l) fr h dd = evOpsD E call l (setDst d skipped fr) h dd := by
  show onOB (isWant w (fr.get t)) CRes.bad _ _ = _
  rw [hg]; rfl
theorem D_done {d : Option Tmp} {op : Op} {t : Tmp} {w s : Bool} {l : List XOp} {dd : List Nat} (hg : isWant w (fr.get t) = some true) : evOpsD E call (⟨d, op, some (some t, w), false, s, false⟩ :: l) fr h dd = dThen d (evOpsD E call l) fr dd s (evOp E call op fr h) := by
  show onOB (isWant w (fr.get t)) CRes.bad _ _ = _
  rw [hg]; rfl
theorem asNat_cast (k : IntKind) (n : Nat) : asNat (.int k (n : Int)) = some n := rfl
noncomputable def lenR (ti : TI) (x : AV) (h : Heap) : Res := lift2 (obind (lenA ti.desc x h) fun n => forceN n fun n => some (.int .i64 (Int.ofNat n), h))
theorem p_lenS {t : Nat} {ti : TI} (ht : E.ti t = some ti) (x : Operand) : evOp E call (.call ⟨.builtin .len, #[x], #[t]⟩) fr h = lenR ti (opv E x fr) h := by
  show lift2 (onTI E t none fun ti => obind (lenA ti.desc (opv E x fr) h) fun n => forceN n fun n => some (.int .i64 (Int.ofNat n), h)) = _
  unfold onTI; rw [ht]; rfl
theorem lenR_msl {e s b : Nat} {z : AV} (id off n sz : Nat) : lenR ⟨.slice e, s, b, z⟩ (.msl id off n sz) h = .ok (.int .i64 (n : Int)) h := by
  show lift2 (forceN n fun n => some (.int .i64 (Int.ofNat n), h)) = _
  rw [forceN_eq]; rfl
theorem load_row {ti : TI} {id i off sz : Nat} {es : List AV} {v : AV} (hg : h.get id = some (.row es sz)) (hi : es[i]? = some v) : loadA ti (.ptr id i off) h = partOf ti v.cells off := by
  show h.onRow id none (fun es _ => obind (nthL es i) fun v => partOf ti v.cells off) = _
  unfold Heap.onRow
  rw [hg]
  dsimp only; rw [nthL_eq, hi]; rfl
theorem indexAddr_msl {e i id n sz : Nat} {te : TI} (ht : E.ti e = some te) (hi : i < n) (hs : sz = te.size) : indexAddrA E (.slice e) i (.msl id 0 n sz) = some (.ptr id i 0) := by
  show onTI E e none (fun te => guardO (Nat.blt i n && Nat.beq sz te.size) (forceN (Nat.add 0 i) fun o => some (AV.ptr id o 0))) = _
  unfold onTI; rw [ht]; dsimp only
  have h1 : Nat.blt i n = true := Nat.ble_eq_true_of_le hi
  have h2 : Nat.beq sz te.size = true := by rw [hs]; simp
  rw [h1, h2, forceN_eq]
  simp [guardO]
end
end Go.AM
namespace Go.Proofs.Word
open Go Go.AM
theorem ti36 : E.ti 36 = some ⟨.slice 3, 1, 24, .nilsl⟩ := by kernel_rfl
def numsI : List Int := [-9223372036854775808, -9223372036854775807, -4294967297, -4294967296, -2147483649, -2147483648, -2147483647, -129, -128, -7, -2, -1, 0, 1, 2, 7, 31, 32, 33, 63, 64, 127, 128, 200, 255, 256, 2147483647, 2147483648, 4294967295, 4294967296, 4611686018427387909, 9223372036854775807]
def opsS : List (List UInt8) := [[43], [45], [42], [47], [37], [38], [124], [94], [60, 60], [62, 62], [61, 61], [33, 61], [60], [60, 61], [62], [62, 61], [], [63], [43, 32]]
def numsA : List AV := numsI.map (.int .i64 ·)
def opsA : List AV := opsS.map .str
theorem nums_at {i : Nat} (hi : i < 32) : ∃ a, numsA[i]? = some (.int .i64 a) ∧ In64 a := by
  have hl : i < numsI.length := hi
  refine ⟨numsI[i], by unfold numsA; rw [List.getElem?_map, List.getElem?_eq_getElem hl]; rfl, ?_⟩
  have hall : ∀ a ∈ numsI, In64 a := by
    intro a ha
    simp only [numsI, List.mem_cons, List.not_mem_nil, or_false] at ha
    unfold In64; omega
  exact hall _ (List.getElem_mem hl)
theorem ops_at {i : Nat} (hi : i < 19) : ∃ s, opsA[i]? = some (.str s) := by
  have hl : i < opsS.length := hi
  exact ⟨opsS[i], by unfold opsA; rw [List.getElem?_map, List.getElem?_eq_getElem hl]; rfl⟩
theorem Keeps.set_new {h h1 : Heap} (k : Keeps h h1) {id : Nat} (hid : h.next ≤ id) (x : AObj) : Keeps h (h1.set id x) :=
  ⟨k.next, fun i hi => (Heap.get_set_ne h1 x (by omega)).trans (k.get i hi)⟩
theorem hW_keeps (h : Heap) : Keeps h (hW h) :=
  Keeps.set_new (Keeps.set_new (Keeps.set_new (Keeps.push h _) (Nat.le_refl _) _) (Nat.le_refl _) _) (Nat.le_refl _) _
/-- The two rows of 'WordKnown'. -/
structure Hp (id1 id2 : Nat) (h : Heap) : Prop where
  g1 : h.get id1 = some (.row numsA 1)
  g2 : h.get id2 = some (.row opsA 1)
  n1 : id1 < h.next
  n2 : id2 < h.next
theorem Hp.keep {id1 id2 : Nat} {h h' : Heap} (H : Hp id1 id2 h) (k : Keeps h h') : Hp id1 id2 h' :=
  ⟨(k.get _ H.n1).trans H.g1, (k.get _ H.n2).trans H.g2, Nat.lt_of_lt_of_le H.n1 k.next, Nat.lt_of_lt_of_le H.n2 k.next⟩
/-- What the loops of 'WordKnown' keep. -/
structure At9 (id1 id2 i k : Nat) (t : AV) (l : List (Nat × AV)) : Prop where
  l1 : AM.look l 1 = .msl id1 0 32 1
  l2 : AM.look l 2 = .msl id2 0 19 1
  l3 : AM.look l 3 = .int .i64 i
  l4 : AM.look l 4 = .int .i64 k
  l5 : AM.look l 5 = t
theorem part_int (a : Int) : partOf ⟨.int .i64, 1, 8, .int .i64 0⟩ (AV.int .i64 a).cells 0 = some (.int .i64 a) := rfl
theorem L6_step {id1 id2 i k o : Nat} {t : Int} {l : List (Nat × AV)} {h : Heap} (hi : i < 32) (hk : k < 32) (ho : o < 19) (A : At9 id1 id2 i k (.int .i64 t) l) (l6 : AM.look l 6 = .int .i64 o) (H : Hp id1 id2 h) (K : Tr → Heap → CRes) :
    ∃ l2, seqA K (evω E body9_0 (fset 177 l) h) = K (fset 177 l2) (hW h) ∧ At9 id1 id2 i k (.int .i64 t) l2 ∧ AM.look l2 6 = .int .i64 ((o + 1 : Nat) : Int) := by
  obtain ⟨l1, l2, l3, l4, l5⟩ := A
  obtain ⟨g1, g2, n1, n2⟩ := H
  obtain ⟨a, ea, ha⟩ := nums_at hi
  obtain ⟨b, eb, hb⟩ := nums_at hk
  obtain ⟨s, es⟩ := ops_at ho
  have ho' : (o : Int) < ((19 : Nat) : Int) := by omega
  have e3 : IntKind.wrap .i64 ((o : Int) + 1) = ((o + 1 : Nat) : Int) := by rw [wrap64_id ⟨by omega, by omega⟩]; omega
  have hB := fun h => Bins_k t s ha hb h
  have x1 := indexAddr_msl (E := E) (id := id1) (sz := 1) ti3 hi rfl
  have x2 := indexAddr_msl (E := E) (id := id1) (sz := 1) ti3 hk rfl
  have x3 := indexAddr_msl (E := E) (id := id2) (sz := 1) ti9 ho rfl
  have y1 := load_row (ti := ⟨.int .i64, 1, 8, .int .i64 0⟩) (off := 0) g1 ea
  have y2 := load_row (ti := ⟨.int .i64, 1, 8, .int .i64 0⟩) (off := 0) g1 eb
  have y3 := load_row (ti := ⟨.string, 1, 16, .str []⟩) (off := 0) g2 es
  apply Exists.intro
  refine ⟨?_, ?_, ?_⟩
  · simp (maxSteps := 1000000) (implicitDefEqProofs := false) only [body9_0, l1, l2, l3, l4, l5, l6, eq_true ho', e3, hB, p_lenS ti23, lenR_msl, w_regD, D_nil, D_plain, D_skip, D_done, dThen_ok, p_indexAddr ti23, p_indexAddr ti36, p_load ti9, p_load ti3, asNat_cast, x1, x2, x3, y1, y2, y3, part_int, part_str, enter_eq, setAll_cons, setAll_nil, w_seq, w_reg, o_nil, o_plain, o_skip, o_done, p_assign, p_move, p_pick, pickA_true, pickA_false, p_extract, exA_tup, p_call, opvs_nil, opvs_cons, v_int, v_bool, v_str, v_tmp, evThen_ok, setDst_fset, setDst_none, seqA_normal, seqA_ret, seqA_exit, w_block, blockA_normal, blockA_ret, blockA_exit, w_cond, condA_true, condA_false, w_ret, w_skip, w_exit, w_scope, p_binOp, b_add, b_sub, b_mul, b_eql, b_neq, b_eqlS, b_neqS, b_lss, b_leq, b_gtr, b_geq, p_unOp, u_neg, u_not, c_int, lift_some', look_cons, look_nil, isWant_true, isWant_false, isWant_skipped, Option.some.injEq, Bool.true_eq_false, Bool.false_eq_true, after_ret, after_normal, res_tmp, res_nil, obind_some', get_fset, resOf_some, one_one, one_two, one_nil, Nat.reduceAdd, Nat.reduceLT, Nat.reduceEqDiff, ↓reduceIte, decide_true, decide_false, Bool.not_true, Bool.not_false, List.getElem?_cons_zero, List.getElem?_cons_succ, List.getElem?_nil]
    rfl
  · refine ⟨?_, ?_, ?_, ?_, ?_⟩ <;> simp only [look_cons, Nat.reduceEqDiff, ↓reduceIte, l1, l2, l3, l4, l5]
  · simp only [look_cons, Nat.reduceEqDiff, ↓reduceIte]
end Go.Proofs.Word
namespace Go.Proofs.Word
open Go Go.AM
theorem L6 {id1 id2 i k : Nat} {t : Int} (hi : i < 32) (hk : k < 32) : ∀ (m o : Nat) (l : List (Nat × AV)) (h : Heap), o + m = 19 → At9 id1 id2 i k (.int .i64 t) l → AM.look l 6 = .int .i64 o → Hp id1 id2 h →
    ∃ l' h', evω E (.loop body9_0) (fset 177 l) h = .ok (.exit 6) (fset 177 l') h' ∧ At9 id1 id2 i k (.int .i64 t) l' ∧ Keeps h h'
  | 0, o, l, h, hm, A, l6, H => by
    have : o = 19 := by omega
    subst this
    obtain ⟨l1, l2, l3, l4, l5⟩ := A
    rw [w_loop]
    apply Exists.intro
    apply Exists.intro
    refine ⟨?_, ?_, ?_⟩
    · simp (maxSteps := 1000000) (implicitDefEqProofs := false) only [body9_0, l2, l6, Int.lt_irrefl, p_lenS ti23, lenR_msl, enter_eq, setAll_cons, setAll_nil, w_seq, w_reg, o_nil, o_plain, o_skip, o_done, p_assign, p_move, p_pick, pickA_true, pickA_false, p_extract, exA_tup, p_call, opvs_nil, opvs_cons, v_int, v_bool, v_str, v_tmp, evThen_ok, setDst_fset, setDst_none, seqA_normal, seqA_ret, seqA_exit, w_block, blockA_normal, blockA_ret, blockA_exit, w_cond, condA_true, condA_false, w_ret, w_skip, w_exit, w_scope, p_binOp, b_add, b_sub, b_mul, b_eql, b_neq, b_eqlS, b_neqS, b_lss, b_leq, b_gtr, b_geq, p_unOp, u_neg, u_not, c_int, lift_some', look_cons, look_nil, isWant_true, isWant_false, isWant_skipped, Option.some.injEq, Bool.true_eq_false, Bool.false_eq_true, after_ret, after_normal, res_tmp, res_nil, obind_some', get_fset, resOf_some, one_one, one_two, one_nil, Nat.reduceAdd, Nat.reduceLT, Nat.reduceEqDiff, ↓reduceIte, decide_true, decide_false, Bool.not_true, Bool.not_false, List.getElem?_cons_zero, List.getElem?_cons_succ, List.getElem?_nil]
      rfl
    · refine ⟨?_, ?_, ?_, ?_, ?_⟩ <;> simp only [look_cons, Nat.reduceEqDiff, ↓reduceIte, l1, l2, l3, l4, l5]
    · exact Keeps.refl h
  | m + 1, o, l, h, hm, A, l6, H => by
    obtain ⟨l2, h1, h2, h3⟩ := L6_step hi hk (show o < 19 by omega) A l6 H (evω E (.loop body9_0))
    obtain ⟨l', h', h4, h5, h6⟩ := L6 hi hk m (o + 1) l2 (hW h) (by omega) h2 h3 (H.keep (hW_keeps h))
    exact ⟨l', h', by rw [w_loop, h1, h4], h5, (hW_keeps h).trans h6⟩
theorem L4_step {id1 id2 i k : Nat} {t : Int} {l : List (Nat × AV)} {h : Heap} (hi : i < 32) (hk : k < 32) (ht : -1 ≤ t ∧ t < 5) (A : At9 id1 id2 i k (.int .i64 t) l) (H : Hp id1 id2 h) (K : Tr → Heap → CRes) :
    ∃ l2 h2, seqA K (evω E body9_1 (fset 177 l) h) = K (fset 177 l2) h2 ∧ At9 id1 id2 i k (.int .i64 (t + 1)) l2 ∧ Keeps h h2 := by
  have A0 : At9 id1 id2 i k (.int .i64 t) ((6, .int .i64 0) :: (32, .bool true) :: (31, .int .i64 t) :: l) := by
    obtain ⟨l1, l2, l3, l4, l5⟩ := A
    refine ⟨?_, ?_, ?_, ?_, ?_⟩ <;> simp only [look_cons, Nat.reduceEqDiff, ↓reduceIte, l1, l2, l3, l4, l5]
  obtain ⟨l', h', e, A', k'⟩ := L6 hi hk 19 0 ((6, .int .i64 0) :: (32, .bool true) :: (31, .int .i64 t) :: l) h (by omega) A0 rfl H
  obtain ⟨l1, l2, l3, l4, l5⟩ := A
  obtain ⟨m1, m2, m3, m4, m5⟩ := A'
  obtain ⟨g1, g2, n1, n2⟩ := H.keep k'
  obtain ⟨a, ea, ha⟩ := nums_at hi
  obtain ⟨b, eb, hb⟩ := nums_at hk
  have hkm : k % 19 < 19 := Nat.mod_lt _ (by omega)
  obtain ⟨s, es⟩ := ops_at hkm
  have ht' : t < 5 := ht.2
  have e3 : IntKind.wrap .i64 (t + 1) = t + 1 := wrap64_id ⟨by omega, by omega⟩
  have em : (k : Int).tmod ((19 : Nat) : Int) = ((k % 19 : Nat) : Int) := rfl
  have hB := fun h => Wraps_k t (times := (k : Int)) (a := b) s ha h
  have x1 := indexAddr_msl (E := E) (id := id1) (sz := 1) ti3 hi rfl
  have x2 := indexAddr_msl (E := E) (id := id1) (sz := 1) ti3 hk rfl
  have x3 := indexAddr_msl (E := E) (id := id2) (sz := 1) ti9 hkm rfl
  have y1 := load_row (ti := ⟨.int .i64, 1, 8, .int .i64 0⟩) (off := 0) g1 ea
  have y2 := load_row (ti := ⟨.int .i64, 1, 8, .int .i64 0⟩) (off := 0) g1 eb
  have y3 := load_row (ti := ⟨.string, 1, 16, .str []⟩) (off := 0) g2 es
  apply Exists.intro
  apply Exists.intro
  refine ⟨?_, ?_, ?_⟩
  · simp (maxSteps := 1000000) (implicitDefEqProofs := false) only [body9_1, l1, l2, l3, l4, l5, e, m1, m2, m3, m4, m5, eq_true ht', e3, em, hB, b_rem _ _ _ _ (show ((19 : Nat) : Int) ≠ 0 by decide), p_lenS ti23, lenR_msl, w_regD, D_nil, D_plain, D_skip, D_done, dThen_ok, p_indexAddr ti23, p_indexAddr ti36, p_load ti9, p_load ti3, asNat_cast, x1, x2, x3, y1, y2, y3, part_int, part_str, enter_eq, setAll_cons, setAll_nil, w_seq, w_reg, o_nil, o_plain, o_skip, o_done, p_assign, p_move, p_pick, pickA_true, pickA_false, p_extract, exA_tup, p_call, opvs_nil, opvs_cons, v_int, v_bool, v_str, v_tmp, evThen_ok, setDst_fset, setDst_none, seqA_normal, seqA_ret, seqA_exit, w_block, blockA_normal, blockA_ret, blockA_exit, w_cond, condA_true, condA_false, w_ret, w_skip, w_exit, w_scope, p_binOp, b_add, b_sub, b_mul, b_eql, b_neq, b_eqlS, b_neqS, b_lss, b_leq, b_gtr, b_geq, p_unOp, u_neg, u_not, c_int, lift_some', look_cons, look_nil, isWant_true, isWant_false, isWant_skipped, Option.some.injEq, Bool.true_eq_false, Bool.false_eq_true, after_ret, after_normal, res_tmp, res_nil, obind_some', get_fset, resOf_some, one_one, one_two, one_nil, Nat.reduceAdd, Nat.reduceLT, Nat.reduceEqDiff, ↓reduceIte, decide_true, decide_false, Bool.not_true, Bool.not_false, List.getElem?_cons_zero, List.getElem?_cons_succ, List.getElem?_nil]
    rfl
  · refine ⟨?_, ?_, ?_, ?_, ?_⟩ <;> simp only [look_cons, Nat.reduceEqDiff, ↓reduceIte, m1, m2, m3, m4]
  · exact k'.trans (hW_keeps h')
theorem L4 {id1 id2 i k : Nat} (hi : i < 32) (hk : k < 32) : ∀ (m j : Nat) (l : List (Nat × AV)) (h : Heap), j + m = 6 → At9 id1 id2 i k (.int .i64 ((j : Int) - 1)) l → Hp id1 id2 h →
    ∃ l' h', evω E (.loop body9_1) (fset 177 l) h = .ok (.exit 4) (fset 177 l') h' ∧ At9 id1 id2 i k (.int .i64 5) l' ∧ Keeps h h'
  | 0, j, l, h, hm, A, H => by
    have : j = 6 := by omega
    subst this
    obtain ⟨l1, l2, l3, l4, l5⟩ := A
    have l5 : AM.look l 5 = .int .i64 5 := l5
    rw [w_loop]
    apply Exists.intro
    apply Exists.intro
    refine ⟨?_, ?_, ?_⟩
    · simp (maxSteps := 1000000) (implicitDefEqProofs := false) only [body9_1, l5, Int.lt_irrefl, enter_eq, setAll_cons, setAll_nil, w_seq, w_reg, o_nil, o_plain, o_skip, o_done, p_assign, p_move, p_pick, pickA_true, pickA_false, p_extract, exA_tup, p_call, opvs_nil, opvs_cons, v_int, v_bool, v_str, v_tmp, evThen_ok, setDst_fset, setDst_none, seqA_normal, seqA_ret, seqA_exit, w_block, blockA_normal, blockA_ret, blockA_exit, w_cond, condA_true, condA_false, w_ret, w_skip, w_exit, w_scope, p_binOp, b_add, b_sub, b_mul, b_eql, b_neq, b_eqlS, b_neqS, b_lss, b_leq, b_gtr, b_geq, p_unOp, u_neg, u_not, c_int, lift_some', look_cons, look_nil, isWant_true, isWant_false, isWant_skipped, Option.some.injEq, Bool.true_eq_false, Bool.false_eq_true, after_ret, after_normal, res_tmp, res_nil, obind_some', get_fset, resOf_some, one_one, one_two, one_nil, Nat.reduceAdd, Nat.reduceLT, Nat.reduceEqDiff, ↓reduceIte, decide_true, decide_false, Bool.not_true, Bool.not_false, List.getElem?_cons_zero, List.getElem?_cons_succ, List.getElem?_nil]
      rfl
    · refine ⟨?_, ?_, ?_, ?_, ?_⟩ <;> simp only [look_cons, Nat.reduceEqDiff, ↓reduceIte, l1, l2, l3, l4, l5]
    · exact Keeps.refl h
  | m + 1, j, l, h, hm, A, H => by
    obtain ⟨l2, h2, h1, h3, h4⟩ := L4_step hi hk (show -1 ≤ (j : Int) - 1 ∧ (j : Int) - 1 < 5 by omega) A H (evω E (.loop body9_1))
    rw [show (j : Int) - 1 + 1 = ((j + 1 : Nat) : Int) - 1 by omega] at h3
    obtain ⟨l', h', h5, h6, h7⟩ := L4 hi hk m (j + 1) l2 h2 (by omega) h3 (H.keep h4)
    exact ⟨l', h', by rw [w_loop, h1, h5], h6, h4.trans h7⟩
end Go.Proofs.Word
namespace Go.Proofs.Word
open Go Go.AM
/-- What the two outer loops keep. -/
structure At4 (id1 id2 i k : Nat) (l : List (Nat × AV)) : Prop where
  l1 : AM.look l 1 = .msl id1 0 32 1
  l2 : AM.look l 2 = .msl id2 0 19 1
  l3 : AM.look l 3 = .int .i64 i
  l4 : AM.look l 4 = .int .i64 k
theorem L2_step {id1 id2 i k : Nat} {l : List (Nat × AV)} {h : Heap} (hi : i < 32) (hk : k < 32) (A : At4 id1 id2 i k l) (H : Hp id1 id2 h) (K : Tr → Heap → CRes) :
    ∃ l2 h2, seqA K (evω E body9_2 (fset 177 l) h) = K (fset 177 l2) h2 ∧ At4 id1 id2 i (k + 1) l2 ∧ Keeps h h2 := by
  obtain ⟨l1, l2, l3, l4⟩ := A
  have A0 : At9 id1 id2 i k (.int .i64 (((0 : Nat) : Int) - 1)) ((5, .int .i64 (-1)) :: (28, .bool true) :: (27, .int .i64 ((32 : Nat) : Int)) :: (26, .msl id1 0 32 1) :: (25, .int .i64 k) :: l) := by
    rw [show ((0 : Nat) : Int) - 1 = -1 by decide]
    refine ⟨?_, ?_, ?_, ?_, ?_⟩ <;> simp only [look_cons, Nat.reduceEqDiff, ↓reduceIte, l1, l2, l3, l4]
  obtain ⟨l', h', e, A', k'⟩ := L4 hi hk 6 0 _ h (by omega) A0 H
  obtain ⟨m1, m2, m3, m4, m5⟩ := A'
  have H' := H.keep k'
  obtain ⟨a, ea, ha⟩ := nums_at hi
  obtain ⟨b, eb, hb⟩ := nums_at hk
  have hk' : (k : Int) < ((32 : Nat) : Int) := by omega
  have e3 : IntKind.wrap .i64 ((k : Int) + 1) = ((k + 1 : Nat) : Int) := by rw [wrap64_id ⟨by omega, by omega⟩]; omega
  obtain ⟨hd, eD, kD⟩ := Divides_k (decide ((i : Int).tmod 2 = 0)) ha hb h'
  have kD : Keeps h' hd := by
    rcases kD with rfl | rfl
    · exact Keeps.refl _
    · exact hW_keeps _
  have Hd := H'.keep kD
  have eO := Order_ok (decide ((k : Int).tmod 2 = 0)) a b hd
  have eR := Ring_k (decide ((i : Int).tmod 2 = 0)) (b := b) (c := 3) ha hd
  have x1 := indexAddr_msl (E := E) (id := id1) (sz := 1) ti3 hi rfl
  have x2 := indexAddr_msl (E := E) (id := id1) (sz := 1) ti3 hk rfl
  have y1 := load_row (ti := ⟨.int .i64, 1, 8, .int .i64 0⟩) (off := 0) H'.g1 ea
  have y2 := load_row (ti := ⟨.int .i64, 1, 8, .int .i64 0⟩) (off := 0) H'.g1 eb
  have z1 := load_row (ti := ⟨.int .i64, 1, 8, .int .i64 0⟩) (off := 0) Hd.g1 ea
  have z2 := load_row (ti := ⟨.int .i64, 1, 8, .int .i64 0⟩) (off := 0) Hd.g1 eb
  apply Exists.intro
  apply Exists.intro
  refine ⟨?_, ?_, ?_⟩
  · simp (maxSteps := 1000000) (implicitDefEqProofs := false) only [body9_2, l1, l2, l3, l4, e, m1, m2, m3, m4, m5, eq_true hk', e3, eD, eO, eR, b_rem _ _ _ _ (show (2 : Int) ≠ 0 by decide), p_lenS ti23, p_lenS ti36, lenR_msl, w_regD, D_nil, D_plain, D_skip, D_done, dThen_ok, p_indexAddr ti23, p_indexAddr ti36, p_load ti9, p_load ti3, asNat_cast, x1, x2, y1, y2, z1, z2, part_int, part_str, enter_eq, setAll_cons, setAll_nil, w_seq, w_reg, o_nil, o_plain, o_skip, o_done, p_assign, p_move, p_pick, pickA_true, pickA_false, p_extract, exA_tup, p_call, opvs_nil, opvs_cons, v_int, v_bool, v_str, v_tmp, evThen_ok, setDst_fset, setDst_none, seqA_normal, seqA_ret, seqA_exit, w_block, blockA_normal, blockA_ret, blockA_exit, w_cond, condA_true, condA_false, w_ret, w_skip, w_exit, w_scope, p_binOp, b_add, b_sub, b_mul, b_eql, b_neq, b_eqlS, b_neqS, b_lss, b_leq, b_gtr, b_geq, p_unOp, u_neg, u_not, c_int, lift_some', look_cons, look_nil, isWant_true, isWant_false, isWant_skipped, Option.some.injEq, Bool.true_eq_false, Bool.false_eq_true, after_ret, after_normal, res_tmp, res_nil, obind_some', get_fset, resOf_some, one_one, one_two, one_nil, Nat.reduceAdd, Nat.reduceLT, Nat.reduceEqDiff, ↓reduceIte, decide_true, decide_false, Bool.not_true, Bool.not_false, List.getElem?_cons_zero, List.getElem?_cons_succ, List.getElem?_nil]
    rfl
  · refine ⟨?_, ?_, ?_, ?_⟩ <;> simp only [look_cons, Nat.reduceEqDiff, ↓reduceIte, m1, m2, m3]
  · exact (k'.trans kD).trans (Keeps.push _ _)
theorem L2 {id1 id2 i : Nat} (hi : i < 32) : ∀ (m k : Nat) (l : List (Nat × AV)) (h : Heap), k + m = 32 → At4 id1 id2 i k l → Hp id1 id2 h →
    ∃ l' h', evω E (.loop body9_2) (fset 177 l) h = .ok (.exit 2) (fset 177 l') h' ∧ At4 id1 id2 i 32 l' ∧ Keeps h h'
  | 0, k, l, h, hm, A, H => by
    have : k = 32 := by omega
    subst this
    obtain ⟨l1, l2, l3, l4⟩ := A
    rw [w_loop]
    apply Exists.intro
    apply Exists.intro
    refine ⟨?_, ?_, ?_⟩
    · simp (maxSteps := 1000000) (implicitDefEqProofs := false) only [body9_2, l1, l4, Int.lt_irrefl, p_lenS ti36, lenR_msl, enter_eq, setAll_cons, setAll_nil, w_seq, w_reg, o_nil, o_plain, o_skip, o_done, p_assign, p_move, p_pick, pickA_true, pickA_false, p_extract, exA_tup, p_call, opvs_nil, opvs_cons, v_int, v_bool, v_str, v_tmp, evThen_ok, setDst_fset, setDst_none, seqA_normal, seqA_ret, seqA_exit, w_block, blockA_normal, blockA_ret, blockA_exit, w_cond, condA_true, condA_false, w_ret, w_skip, w_exit, w_scope, p_binOp, b_add, b_sub, b_mul, b_eql, b_neq, b_eqlS, b_neqS, b_lss, b_leq, b_gtr, b_geq, p_unOp, u_neg, u_not, c_int, lift_some', look_cons, look_nil, isWant_true, isWant_false, isWant_skipped, Option.some.injEq, Bool.true_eq_false, Bool.false_eq_true, after_ret, after_normal, res_tmp, res_nil, obind_some', get_fset, resOf_some, one_one, one_two, one_nil, Nat.reduceAdd, Nat.reduceLT, Nat.reduceEqDiff, ↓reduceIte, decide_true, decide_false, Bool.not_true, Bool.not_false, List.getElem?_cons_zero, List.getElem?_cons_succ, List.getElem?_nil]
      rfl
    · refine ⟨?_, ?_, ?_, ?_⟩ <;> simp only [look_cons, Nat.reduceEqDiff, ↓reduceIte, l1, l2, l3, l4]
    · exact Keeps.refl h
  | m + 1, k, l, h, hm, A, H => by
    obtain ⟨l2, h2, h1, h3, h4⟩ := L2_step hi (show k < 32 by omega) A H (evω E (.loop body9_2))
    obtain ⟨l', h', h5, h6, h7⟩ := L2 hi m (k + 1) l2 h2 (by omega) h3 (H.keep h4)
    exact ⟨l', h', by rw [w_loop, h1, h5], h6, h4.trans h7⟩
structure At3 (id1 id2 i : Nat) (l : List (Nat × AV)) : Prop where
  l1 : AM.look l 1 = .msl id1 0 32 1
  l2 : AM.look l 2 = .msl id2 0 19 1
  l3 : AM.look l 3 = .int .i64 i
theorem L0_step {id1 id2 i : Nat} {l : List (Nat × AV)} {h : Heap} (hi : i < 32) (A : At3 id1 id2 i l) (H : Hp id1 id2 h) (K : Tr → Heap → CRes) :
    ∃ l2 h2, seqA K (evω E body9_3 (fset 177 l) h) = K (fset 177 l2) h2 ∧ At3 id1 id2 (i + 1) l2 ∧ Keeps h h2 := by
  obtain ⟨l1, l2, l3⟩ := A
  have A0 : At4 id1 id2 i 0 ((4, .int .i64 0) :: (22, .bool true) :: (21, .int .i64 ((32 : Nat) : Int)) :: (20, .msl id1 0 32 1) :: (19, .int .i64 i) :: l) := by
    refine ⟨?_, ?_, ?_, ?_⟩ <;> simp only [look_cons, Nat.reduceEqDiff, ↓reduceIte, l1, l2, l3] <;> rfl
  obtain ⟨l', h', e, A', k'⟩ := L2 hi 32 0 _ h (by omega) A0 H
  obtain ⟨m1, m2, m3, m4⟩ := A'
  have H' := H.keep k'
  have hj : 31 - i < 32 := by omega
  obtain ⟨a, ea, ha⟩ := nums_at hi
  obtain ⟨b, eb, hb⟩ := nums_at hj
  have hi' : (i : Int) < ((32 : Nat) : Int) := by omega
  have e3 : IntKind.wrap .i64 ((i : Int) + 1) = ((i + 1 : Nat) : Int) := by rw [wrap64_id ⟨by omega, by omega⟩]; omega
  have e7 : IntKind.wrap .i64 (((32 : Nat) : Int) - 1) = 31 := by decide
  have e8 : IntKind.wrap .i64 (31 - (i : Int)) = ((31 - i : Nat) : Int) := by rw [wrap64_id ⟨by omega, by omega⟩]; omega
  have eB1 := Bits_k true (b := 5) ha h'
  have Hd := H'.keep (hW_keeps h')
  have eB2 := Bits_k false (b := b) ha (hW h')
  have x1 := indexAddr_msl (E := E) (id := id1) (sz := 1) ti3 hi rfl
  have x2 := indexAddr_msl (E := E) (id := id1) (sz := 1) ti3 hj rfl
  have y1 := load_row (ti := ⟨.int .i64, 1, 8, .int .i64 0⟩) (off := 0) H'.g1 ea
  have z1 := load_row (ti := ⟨.int .i64, 1, 8, .int .i64 0⟩) (off := 0) Hd.g1 ea
  have z2 := load_row (ti := ⟨.int .i64, 1, 8, .int .i64 0⟩) (off := 0) Hd.g1 eb
  apply Exists.intro
  apply Exists.intro
  refine ⟨?_, ?_, ?_⟩
  · simp (maxSteps := 1000000) (implicitDefEqProofs := false) only [body9_3, l1, l2, l3, e, m1, m2, m3, m4, eq_true hi', e3, e7, e8, eB1, eB2, p_lenS ti23, p_lenS ti36, lenR_msl, w_regD, D_nil, D_plain, D_skip, D_done, dThen_ok, p_indexAddr ti23, p_indexAddr ti36, p_load ti9, p_load ti3, asNat_cast, x1, x2, y1, z1, z2, part_int, part_str, enter_eq, setAll_cons, setAll_nil, w_seq, w_reg, o_nil, o_plain, o_skip, o_done, p_assign, p_move, p_pick, pickA_true, pickA_false, p_extract, exA_tup, p_call, opvs_nil, opvs_cons, v_int, v_bool, v_str, v_tmp, evThen_ok, setDst_fset, setDst_none, seqA_normal, seqA_ret, seqA_exit, w_block, blockA_normal, blockA_ret, blockA_exit, w_cond, condA_true, condA_false, w_ret, w_skip, w_exit, w_scope, p_binOp, b_add, b_sub, b_mul, b_eql, b_neq, b_eqlS, b_neqS, b_lss, b_leq, b_gtr, b_geq, p_unOp, u_neg, u_not, c_int, lift_some', look_cons, look_nil, isWant_true, isWant_false, isWant_skipped, Option.some.injEq, Bool.true_eq_false, Bool.false_eq_true, after_ret, after_normal, res_tmp, res_nil, obind_some', get_fset, resOf_some, one_one, one_two, one_nil, Nat.reduceAdd, Nat.reduceLT, Nat.reduceEqDiff, ↓reduceIte, decide_true, decide_false, Bool.not_true, Bool.not_false, List.getElem?_cons_zero, List.getElem?_cons_succ, List.getElem?_nil]
    rfl
  · refine ⟨?_, ?_, ?_⟩ <;> simp only [look_cons, Nat.reduceEqDiff, ↓reduceIte, m1, m2]
  · exact (k'.trans (hW_keeps _)).trans (hW_keeps _)
theorem L0 {id1 id2 : Nat} : ∀ (m i : Nat) (l : List (Nat × AV)) (h : Heap), i + m = 32 → At3 id1 id2 i l → Hp id1 id2 h →
    ∃ l' h', evω E (.loop body9_3) (fset 177 l) h = .ok (.exit 0) (fset 177 l') h'
  | 0, i, l, h, hm, A, H => by
    have : i = 32 := by omega
    subst this
    obtain ⟨l1, l2, l3⟩ := A
    rw [w_loop]
    apply Exists.intro
    apply Exists.intro
    simp (maxSteps := 1000000) (implicitDefEqProofs := false) only [body9_3, l1, l3, Int.lt_irrefl, p_lenS ti36, lenR_msl, enter_eq, setAll_cons, setAll_nil, w_seq, w_reg, o_nil, o_plain, o_skip, o_done, p_assign, p_move, p_pick, pickA_true, pickA_false, p_extract, exA_tup, p_call, opvs_nil, opvs_cons, v_int, v_bool, v_str, v_tmp, evThen_ok, setDst_fset, setDst_none, seqA_normal, seqA_ret, seqA_exit, w_block, blockA_normal, blockA_ret, blockA_exit, w_cond, condA_true, condA_false, w_ret, w_skip, w_exit, w_scope, p_binOp, b_add, b_sub, b_mul, b_eql, b_neq, b_eqlS, b_neqS, b_lss, b_leq, b_gtr, b_geq, p_unOp, u_neg, u_not, c_int, lift_some', look_cons, look_nil, isWant_true, isWant_false, isWant_skipped, Option.some.injEq, Bool.true_eq_false, Bool.false_eq_true, after_ret, after_normal, res_tmp, res_nil, obind_some', get_fset, resOf_some, one_one, one_two, one_nil, Nat.reduceAdd, Nat.reduceLT, Nat.reduceEqDiff, ↓reduceIte, decide_true, decide_false, Bool.not_true, Bool.not_false, List.getElem?_cons_zero, List.getElem?_cons_succ, List.getElem?_nil]
    rfl
  | m + 1, i, l, h, hm, A, H => by
    obtain ⟨l2, h2, h1, h3, h4⟩ := L0_step (show i < 32 by omega) A H (evω E (.loop body9_3))
    obtain ⟨l', h', h5⟩ := L0 m (i + 1) l2 h2 (by omega) h3 (H.keep h4)
    exact ⟨l', h', by rw [w_loop, h1, h5]⟩
end Go.Proofs.Word
namespace Go.Proofs.Word
open Go Go.AM
noncomputable def K1 : Heap := Heap.empty.push (.row numsA 1)
noncomputable def K2 : Heap := K1.push (.row ((opsS.take 16).map .str) 1)
noncomputable def K3 : Heap := K2.push (.row ((opsS.drop 16).map .str) 1)
noncomputable def K4 : Heap := (K3.del 1).push (.row opsA 1)
section
variable {call : CallF}
theorem bsN (fr : Tr) : evOp E call (.buildSlice 36 32 #[(0, .const (.int .i64 (-9223372036854775808))), (1, .const (.int .i64 (-9223372036854775807))), (2, .const (.int .i64 (-4294967297))), (3, .const (.int .i64 (-4294967296))), (4, .const (.int .i64 (-2147483649))), (5, .const (.int .i64 (-2147483648))), (6, .const (.int .i64 (-2147483647))), (7, .const (.int .i64 (-129))), (8, .const (.int .i64 (-128))), (9, .const (.int .i64 (-7))), (10, .const (.int .i64 (-2))), (11, .const (.int .i64 (-1))), (12, .const (.int .i64 0)), (13, .const (.int .i64 1)), (14, .const (.int .i64 2)), (15, .const (.int .i64 7)), (16, .const (.int .i64 31)), (17, .const (.int .i64 32)), (18, .const (.int .i64 33)), (19, .const (.int .i64 63)), (20, .const (.int .i64 64)), (21, .const (.int .i64 127)), (22, .const (.int .i64 128)), (23, .const (.int .i64 200)), (24, .const (.int .i64 255)), (25, .const (.int .i64 256)), (26, .const (.int .i64 2147483647)), (27, .const (.int .i64 2147483648)), (28, .const (.int .i64 4294967295)), (29, .const (.int .i64 4294967296)), (30, .const (.int .i64 4611686018427387909)), (31, .const (.int .i64 9223372036854775807))]) fr Heap.empty = .ok (.msl 0 0 32 1) K1 := by kernel_rfl
theorem bs3 (fr : Tr) : evOp E call (.buildSlice 23 3 #[(0, .const (.string ⟨#[]⟩)), (1, .const (.string ⟨#[63]⟩)), (2, .const (.string ⟨#[43, 32]⟩))]) fr K2 = .ok (.msl 2 0 3 1) K3 := by kernel_rfl
theorem app9 (l : List (Nat × AV)) : evOp E call (.call ⟨.builtin .append, #[.tmp 16, .tmp 17], #[23, 23]⟩) (fset 177 ((17, .msl 2 0 3 1) :: (16, .msl 1 0 16 1) :: l)) K3 = .ok (.msl 3 0 19 1) K4 := by
  show lift2 (builtinA E .append [23, 23] [opv E (.tmp 16) (fset 177 ((17, .msl 2 0 3 1) :: (16, .msl 1 0 16 1) :: l)), opv E (.tmp 17) (fset 177 ((17, .msl 2 0 3 1) :: (16, .msl 1 0 16 1) :: l))] K3) = _
  rw [v_tmp _ (by decide) (by decide), v_tmp _ (by decide) (by decide)]
  show lift2 (builtinA E .append [23, 23] [.msl 1 0 16 1, .msl 2 0 3 1] K3) = _
  kernel_rfl
end
theorem r20 : callω E 20 [] K1 = .ok (.msl 1 0 16 1) K2 := callω_of_run (n := 1000) (by kernel_rfl) (by intro e; cases e)
theorem v1 (h : Heap) : callω E 14 [.int .i64 1, .str [60, 60], .int .i64 1, .int .i64 33] h = .ok (.tup [.int .i64 2, .int .i64 0]) h := callω_of_run (n := 1000) (by kernel_rfl) (by intro e; cases e)
theorem v2 (h : Heap) : callω E 14 [.int .i64 1, .str [62, 62], .int .i64 (-5), .int .i64 (-1)] h = .ok (.tup [.int .i64 (-1), .int .i64 0]) h := callω_of_run (n := 1000) (by kernel_rfl) (by intro e; cases e)
theorem v3 (h : Heap) : callω E 14 [.int .i64 1, .str [37], .int .i64 (-7), .int .i64 2] h = .ok (.tup [.int .i64 (-1), .int .i64 0]) h := callω_of_run (n := 1000) (by kernel_rfl) (by intro e; cases e)
theorem v4 (h : Heap) : callω E 14 [.int .i64 2, .str [43], .int .i64 2147483647, .int .i64 1] h = .ok (.tup [.int .i64 2147483648, .int .i64 0]) h := callω_of_run (n := 1000) (by kernel_rfl) (by intro e; cases e)
theorem Known_ok : ∃ h', callω E 9 [] Heap.empty = .ok (.bool true) h' := by
  have A0 : At3 0 3 0 ((3, .int .i64 0) :: (2, .msl 3 0 19 1) :: (18, .msl 3 0 19 1) :: (17, .msl 2 0 3 1) :: (16, .msl 1 0 16 1) :: (1, .msl 0 0 32 1) :: (15, .msl 0 0 32 1) :: (0, .bool false) :: []) := ⟨rfl, rfl, rfl⟩
  have H0 : Hp 0 3 K4 := ⟨by kernel_rfl, by kernel_rfl, by decide +kernel, by decide +kernel⟩
  obtain ⟨l', h', e⟩ := L0 32 0 _ K4 (by omega) A0 H0
  refine ⟨h', ?_⟩
  rw [call9 _ (by simp), d9_eq]
  simp (maxSteps := 1000000) (implicitDefEqProofs := false) only [d9, bsN, r20, bs3, app9, e, v1, v2, v3, v4, works_ok, enter_eq, setAll_cons, setAll_nil, w_seq, w_reg, o_nil, o_plain, o_skip, o_done, p_assign, p_move, p_pick, pickA_true, pickA_false, p_extract, exA_tup, p_call, opvs_nil, opvs_cons, v_int, v_bool, v_str, v_tmp, evThen_ok, setDst_fset, setDst_none, seqA_normal, seqA_ret, seqA_exit, w_block, blockA_normal, blockA_ret, blockA_exit, w_cond, condA_true, condA_false, w_ret, w_skip, w_exit, w_scope, p_binOp, b_add, b_sub, b_mul, b_eql, b_neq, b_eqlS, b_neqS, b_lss, b_leq, b_gtr, b_geq, p_unOp, u_neg, u_not, c_int, lift_some', look_cons, look_nil, isWant_true, isWant_false, isWant_skipped, Option.some.injEq, Bool.true_eq_false, Bool.false_eq_true, after_ret, after_normal, res_tmp, res_nil, obind_some', get_fset, resOf_some, one_one, one_two, one_nil, Nat.reduceAdd, Nat.reduceLT, Nat.reduceEqDiff, ↓reduceIte, decide_true, decide_false, Bool.not_true, Bool.not_false, List.getElem?_cons_zero, List.getElem?_cons_succ, List.getElem?_nil]
end Go.Proofs.Word
