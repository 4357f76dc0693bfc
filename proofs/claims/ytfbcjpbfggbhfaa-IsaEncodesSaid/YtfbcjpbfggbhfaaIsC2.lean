/- CONTRACT of the reference's Check: it answers as isa.Check. No conditions. -/
import Derived.Test.YtfbcjpbfggbhfaaIsC
import Derived.Test.YtfbcjpbfggbhfaaIsO7
import Derived.Test.YtfbcjpbfggbhfaaIsO3
import Derived.Test.YtfbcjpbfggbhfaaIsO9
import Derived.Test.YtfbcjpbfggbhfaaIsO5
import Derived.Test.YtfbcjpbfggbhfaaIsO6
namespace Go.Proofs.Ytfbcjpbfggbhfaa
open Go.RowKit
set_option linter.unusedVariables false
set_option linter.unusedSimpArgs false
theorem chkw_1 (op r1 r2 x2 b1 d1 b2 d2 l1 l2 i2 : Int) : (withB 1 r1 r2 x2 b1 d1 b2 d2 l1 l2 i2 && eqiB op 1 r1 r2 x2 b1 d1 b2 d2 l1 l2 i2 op 1 r1 r2 0 0 0 0 0 0 0 0) = decide ((0 ≤ r1 ∧ r1 < 16) ∧ (0 ≤ r2 ∧ r2 < 16) ∧ x2 = 0 ∧ b1 = 0 ∧ d1 = 0 ∧ b2 = 0 ∧ d2 = 0 ∧ l1 = 0 ∧ l2 = 0 ∧ i2 = 0) := by
  have hm : mostOf 1 = 15 := by decide
  rw [Bool.eq_iff_iff]
  simp only [withB, eqiB, halfB, hm, Bool.and_eq_true, decide_eq_true_eq, beq_iff_eq, true_and, and_true]
  constructor <;> intro h <;> (repeat' apply And.intro) <;> omega
theorem rcheck_1 (op r1 r2 x2 b1 d1 b2 d2 l1 l2 i2 : Int) (w : World) (hi : isOp op = true) (hf : fmOf op = 1) : Calls Try.prog 18 #[.agg #[.int .i64 op, .int .i64 1, .int .i64 r1, .int .i64 r2, .int .i64 x2, .int .i64 b1, .int .i64 d1, .int .i64 b2, .int .i64 d2, .int .i64 l1, .int .i64 l2, .int .i64 i2]] w fun e w' => e = .returned (.int .i64 (chk op 1 [op, 1, r1, r2, x2, b1, d1, b2, d2, l1, l2, i2])) ∧ Below w.heap.size w w' := by
  have hk := chkw_1 op r1 r2 x2 b1 d1 b2 d2 l1 l2 i2
  rw [chk_1 op r1 r2 x2 b1 d1 b2 d2 l1 l2 i2 hi hf]
  cases hw : withB 1 r1 r2 x2 b1 d1 b2 d2 l1 l2 i2
  · rw [hw, Bool.false_and] at hk
    rw [if_neg (of_decide_eq_false hk.symm)]
    exact rcheck_out op 1 r1 r2 x2 b1 d1 b2 d2 l1 l2 i2 w hi hf hw
  · rw [hw, Bool.true_and] at hk
    cases he : eqiB op 1 r1 r2 x2 b1 d1 b2 d2 l1 l2 i2 op 1 r1 r2 0 0 0 0 0 0 0 0
    · rw [he] at hk
      rw [if_neg (of_decide_eq_false hk.symm)]
      exact rcheck_not op 1 r1 r2 x2 b1 d1 b2 d2 l1 l2 i2 op 1 r1 r2 0 0 0 0 0 0 0 0 w hi hf (fun w => own_1 op r1 r2 x2 b1 d1 b2 d2 l1 l2 i2 w) hw he
    · rw [he] at hk
      rw [if_pos (of_decide_eq_true hk.symm)]
      exact rcheck_ok op 1 r1 r2 x2 b1 d1 b2 d2 l1 l2 i2 op 1 r1 r2 0 0 0 0 0 0 0 0 w hi hf (fun w => own_1 op r1 r2 x2 b1 d1 b2 d2 l1 l2 i2 w) hw he
theorem chkw_7 (op r1 r2 x2 b1 d1 b2 d2 l1 l2 i2 : Int) : (withB 7 r1 r2 x2 b1 d1 b2 d2 l1 l2 i2 && eqiB op 7 r1 r2 x2 b1 d1 b2 d2 l1 l2 i2 op 7 0 0 0 0 0 0 0 0 0 i2) = decide (r1 = 0 ∧ r2 = 0 ∧ x2 = 0 ∧ b1 = 0 ∧ d1 = 0 ∧ b2 = 0 ∧ d2 = 0 ∧ l1 = 0 ∧ l2 = 0 ∧ (0 ≤ i2 ∧ i2 < 256)) := by
  have hm : mostOf 7 = 15 := by decide
  rw [Bool.eq_iff_iff]
  simp only [withB, eqiB, halfB, hm, Bool.and_eq_true, decide_eq_true_eq, beq_iff_eq, true_and, and_true]
  constructor <;> intro h <;> (repeat' apply And.intro) <;> omega
theorem rcheck_7 (op r1 r2 x2 b1 d1 b2 d2 l1 l2 i2 : Int) (w : World) (hi : isOp op = true) (hf : fmOf op = 7) : Calls Try.prog 18 #[.agg #[.int .i64 op, .int .i64 7, .int .i64 r1, .int .i64 r2, .int .i64 x2, .int .i64 b1, .int .i64 d1, .int .i64 b2, .int .i64 d2, .int .i64 l1, .int .i64 l2, .int .i64 i2]] w fun e w' => e = .returned (.int .i64 (chk op 7 [op, 7, r1, r2, x2, b1, d1, b2, d2, l1, l2, i2])) ∧ Below w.heap.size w w' := by
  have hk := chkw_7 op r1 r2 x2 b1 d1 b2 d2 l1 l2 i2
  rw [chk_7 op r1 r2 x2 b1 d1 b2 d2 l1 l2 i2 hi hf]
  cases hw : withB 7 r1 r2 x2 b1 d1 b2 d2 l1 l2 i2
  · rw [hw, Bool.false_and] at hk
    rw [if_neg (of_decide_eq_false hk.symm)]
    exact rcheck_out op 7 r1 r2 x2 b1 d1 b2 d2 l1 l2 i2 w hi hf hw
  · rw [hw, Bool.true_and] at hk
    cases he : eqiB op 7 r1 r2 x2 b1 d1 b2 d2 l1 l2 i2 op 7 0 0 0 0 0 0 0 0 0 i2
    · rw [he] at hk
      rw [if_neg (of_decide_eq_false hk.symm)]
      exact rcheck_not op 7 r1 r2 x2 b1 d1 b2 d2 l1 l2 i2 op 7 0 0 0 0 0 0 0 0 0 i2 w hi hf (fun w => own_7 op r1 r2 x2 b1 d1 b2 d2 l1 l2 i2 w) hw he
    · rw [he] at hk
      rw [if_pos (of_decide_eq_true hk.symm)]
      exact rcheck_ok op 7 r1 r2 x2 b1 d1 b2 d2 l1 l2 i2 op 7 0 0 0 0 0 0 0 0 0 i2 w hi hf (fun w => own_7 op r1 r2 x2 b1 d1 b2 d2 l1 l2 i2 w) hw he
theorem chkw_8 (op r1 r2 x2 b1 d1 b2 d2 l1 l2 i2 : Int) : (withB 8 r1 r2 x2 b1 d1 b2 d2 l1 l2 i2 && eqiB op 8 r1 r2 x2 b1 d1 b2 d2 l1 l2 i2 op 8 r1 0 0 0 0 0 0 0 0 0) = decide ((0 ≤ r1 ∧ r1 < 16) ∧ r2 = 0 ∧ x2 = 0 ∧ b1 = 0 ∧ d1 = 0 ∧ b2 = 0 ∧ d2 = 0 ∧ l1 = 0 ∧ l2 = 0 ∧ i2 = 0) := by
  have hm : mostOf 8 = 15 := by decide
  rw [Bool.eq_iff_iff]
  simp only [withB, eqiB, halfB, hm, Bool.and_eq_true, decide_eq_true_eq, beq_iff_eq, true_and, and_true]
  constructor <;> intro h <;> (repeat' apply And.intro) <;> omega
theorem rcheck_8 (op r1 r2 x2 b1 d1 b2 d2 l1 l2 i2 : Int) (w : World) (hi : isOp op = true) (hf : fmOf op = 8) : Calls Try.prog 18 #[.agg #[.int .i64 op, .int .i64 8, .int .i64 r1, .int .i64 r2, .int .i64 x2, .int .i64 b1, .int .i64 d1, .int .i64 b2, .int .i64 d2, .int .i64 l1, .int .i64 l2, .int .i64 i2]] w fun e w' => e = .returned (.int .i64 (chk op 8 [op, 8, r1, r2, x2, b1, d1, b2, d2, l1, l2, i2])) ∧ Below w.heap.size w w' := by
  have hk := chkw_8 op r1 r2 x2 b1 d1 b2 d2 l1 l2 i2
  rw [chk_8 op r1 r2 x2 b1 d1 b2 d2 l1 l2 i2 hi hf]
  cases hw : withB 8 r1 r2 x2 b1 d1 b2 d2 l1 l2 i2
  · rw [hw, Bool.false_and] at hk
    rw [if_neg (of_decide_eq_false hk.symm)]
    exact rcheck_out op 8 r1 r2 x2 b1 d1 b2 d2 l1 l2 i2 w hi hf hw
  · rw [hw, Bool.true_and] at hk
    cases he : eqiB op 8 r1 r2 x2 b1 d1 b2 d2 l1 l2 i2 op 8 r1 0 0 0 0 0 0 0 0 0
    · rw [he] at hk
      rw [if_neg (of_decide_eq_false hk.symm)]
      exact rcheck_not op 8 r1 r2 x2 b1 d1 b2 d2 l1 l2 i2 op 8 r1 0 0 0 0 0 0 0 0 0 w hi hf (fun w => own_8 op r1 r2 x2 b1 d1 b2 d2 l1 l2 i2 w) hw he
    · rw [he] at hk
      rw [if_pos (of_decide_eq_true hk.symm)]
      exact rcheck_ok op 8 r1 r2 x2 b1 d1 b2 d2 l1 l2 i2 op 8 r1 0 0 0 0 0 0 0 0 0 w hi hf (fun w => own_8 op r1 r2 x2 b1 d1 b2 d2 l1 l2 i2 w) hw he
theorem chkw_2 (op r1 r2 x2 b1 d1 b2 d2 l1 l2 i2 : Int) : (withB 2 r1 r2 x2 b1 d1 b2 d2 l1 l2 i2 && eqiB op 2 r1 r2 x2 b1 d1 b2 d2 l1 l2 i2 op 2 r1 0 x2 0 0 b2 d2 0 0 0) = decide ((0 ≤ r1 ∧ r1 < 16) ∧ r2 = 0 ∧ (0 ≤ x2 ∧ x2 < 16) ∧ b1 = 0 ∧ d1 = 0 ∧ (0 ≤ b2 ∧ b2 < 16) ∧ (0 ≤ d2 ∧ d2 < 4096) ∧ l1 = 0 ∧ l2 = 0 ∧ i2 = 0) := by
  have hm : mostOf 2 = 15 := by decide
  rw [Bool.eq_iff_iff]
  simp only [withB, eqiB, halfB, hm, Bool.and_eq_true, decide_eq_true_eq, beq_iff_eq, true_and, and_true]
  constructor <;> intro h <;> (repeat' apply And.intro) <;> omega
theorem rcheck_2 (op r1 r2 x2 b1 d1 b2 d2 l1 l2 i2 : Int) (w : World) (hi : isOp op = true) (hf : fmOf op = 2) : Calls Try.prog 18 #[.agg #[.int .i64 op, .int .i64 2, .int .i64 r1, .int .i64 r2, .int .i64 x2, .int .i64 b1, .int .i64 d1, .int .i64 b2, .int .i64 d2, .int .i64 l1, .int .i64 l2, .int .i64 i2]] w fun e w' => e = .returned (.int .i64 (chk op 2 [op, 2, r1, r2, x2, b1, d1, b2, d2, l1, l2, i2])) ∧ Below w.heap.size w w' := by
  have hk := chkw_2 op r1 r2 x2 b1 d1 b2 d2 l1 l2 i2
  rw [chk_2 op r1 r2 x2 b1 d1 b2 d2 l1 l2 i2 hi hf]
  cases hw : withB 2 r1 r2 x2 b1 d1 b2 d2 l1 l2 i2
  · rw [hw, Bool.false_and] at hk
    rw [if_neg (of_decide_eq_false hk.symm)]
    exact rcheck_out op 2 r1 r2 x2 b1 d1 b2 d2 l1 l2 i2 w hi hf hw
  · rw [hw, Bool.true_and] at hk
    cases he : eqiB op 2 r1 r2 x2 b1 d1 b2 d2 l1 l2 i2 op 2 r1 0 x2 0 0 b2 d2 0 0 0
    · rw [he] at hk
      rw [if_neg (of_decide_eq_false hk.symm)]
      exact rcheck_not op 2 r1 r2 x2 b1 d1 b2 d2 l1 l2 i2 op 2 r1 0 x2 0 0 b2 d2 0 0 0 w hi hf (fun w => own_2 op r1 r2 x2 b1 d1 b2 d2 l1 l2 i2 w) hw he
    · rw [he] at hk
      rw [if_pos (of_decide_eq_true hk.symm)]
      exact rcheck_ok op 2 r1 r2 x2 b1 d1 b2 d2 l1 l2 i2 op 2 r1 0 x2 0 0 b2 d2 0 0 0 w hi hf (fun w => own_2 op r1 r2 x2 b1 d1 b2 d2 l1 l2 i2 w) hw he
theorem chkw_3 (op r1 r2 x2 b1 d1 b2 d2 l1 l2 i2 : Int) : (withB 3 r1 r2 x2 b1 d1 b2 d2 l1 l2 i2 && eqiB op 3 r1 r2 x2 b1 d1 b2 d2 l1 l2 i2 op 3 r1 r2 0 0 0 b2 d2 0 0 0) = decide ((0 ≤ r1 ∧ r1 < 16) ∧ (0 ≤ r2 ∧ r2 < 16) ∧ x2 = 0 ∧ b1 = 0 ∧ d1 = 0 ∧ (0 ≤ b2 ∧ b2 < 16) ∧ (0 ≤ d2 ∧ d2 < 4096) ∧ l1 = 0 ∧ l2 = 0 ∧ i2 = 0) := by
  have hm : mostOf 3 = 15 := by decide
  rw [Bool.eq_iff_iff]
  simp only [withB, eqiB, halfB, hm, Bool.and_eq_true, decide_eq_true_eq, beq_iff_eq, true_and, and_true]
  constructor <;> intro h <;> (repeat' apply And.intro) <;> omega
theorem rcheck_3 (op r1 r2 x2 b1 d1 b2 d2 l1 l2 i2 : Int) (w : World) (hi : isOp op = true) (hf : fmOf op = 3) : Calls Try.prog 18 #[.agg #[.int .i64 op, .int .i64 3, .int .i64 r1, .int .i64 r2, .int .i64 x2, .int .i64 b1, .int .i64 d1, .int .i64 b2, .int .i64 d2, .int .i64 l1, .int .i64 l2, .int .i64 i2]] w fun e w' => e = .returned (.int .i64 (chk op 3 [op, 3, r1, r2, x2, b1, d1, b2, d2, l1, l2, i2])) ∧ Below w.heap.size w w' := by
  have hk := chkw_3 op r1 r2 x2 b1 d1 b2 d2 l1 l2 i2
  rw [chk_3 op r1 r2 x2 b1 d1 b2 d2 l1 l2 i2 hi hf]
  cases hw : withB 3 r1 r2 x2 b1 d1 b2 d2 l1 l2 i2
  · rw [hw, Bool.false_and] at hk
    rw [if_neg (of_decide_eq_false hk.symm)]
    exact rcheck_out op 3 r1 r2 x2 b1 d1 b2 d2 l1 l2 i2 w hi hf hw
  · rw [hw, Bool.true_and] at hk
    cases he : eqiB op 3 r1 r2 x2 b1 d1 b2 d2 l1 l2 i2 op 3 r1 r2 0 0 0 b2 d2 0 0 0
    · rw [he] at hk
      rw [if_neg (of_decide_eq_false hk.symm)]
      exact rcheck_not op 3 r1 r2 x2 b1 d1 b2 d2 l1 l2 i2 op 3 r1 r2 0 0 0 b2 d2 0 0 0 w hi hf (fun w => own_3 op r1 r2 x2 b1 d1 b2 d2 l1 l2 i2 w) hw he
    · rw [he] at hk
      rw [if_pos (of_decide_eq_true hk.symm)]
      exact rcheck_ok op 3 r1 r2 x2 b1 d1 b2 d2 l1 l2 i2 op 3 r1 r2 0 0 0 b2 d2 0 0 0 w hi hf (fun w => own_3 op r1 r2 x2 b1 d1 b2 d2 l1 l2 i2 w) hw he
theorem chkw_4 (op r1 r2 x2 b1 d1 b2 d2 l1 l2 i2 : Int) : (withB 4 r1 r2 x2 b1 d1 b2 d2 l1 l2 i2 && eqiB op 4 r1 r2 x2 b1 d1 b2 d2 l1 l2 i2 op 4 0 0 0 b1 d1 0 0 0 0 i2) = decide (r1 = 0 ∧ r2 = 0 ∧ x2 = 0 ∧ (0 ≤ b1 ∧ b1 < 16) ∧ (0 ≤ d1 ∧ d1 < 4096) ∧ b2 = 0 ∧ d2 = 0 ∧ l1 = 0 ∧ l2 = 0 ∧ (0 ≤ i2 ∧ i2 < 256)) := by
  have hm : mostOf 4 = 15 := by decide
  rw [Bool.eq_iff_iff]
  simp only [withB, eqiB, halfB, hm, Bool.and_eq_true, decide_eq_true_eq, beq_iff_eq, true_and, and_true]
  constructor <;> intro h <;> (repeat' apply And.intro) <;> omega
theorem rcheck_4 (op r1 r2 x2 b1 d1 b2 d2 l1 l2 i2 : Int) (w : World) (hi : isOp op = true) (hf : fmOf op = 4) : Calls Try.prog 18 #[.agg #[.int .i64 op, .int .i64 4, .int .i64 r1, .int .i64 r2, .int .i64 x2, .int .i64 b1, .int .i64 d1, .int .i64 b2, .int .i64 d2, .int .i64 l1, .int .i64 l2, .int .i64 i2]] w fun e w' => e = .returned (.int .i64 (chk op 4 [op, 4, r1, r2, x2, b1, d1, b2, d2, l1, l2, i2])) ∧ Below w.heap.size w w' := by
  have hk := chkw_4 op r1 r2 x2 b1 d1 b2 d2 l1 l2 i2
  rw [chk_4 op r1 r2 x2 b1 d1 b2 d2 l1 l2 i2 hi hf]
  cases hw : withB 4 r1 r2 x2 b1 d1 b2 d2 l1 l2 i2
  · rw [hw, Bool.false_and] at hk
    rw [if_neg (of_decide_eq_false hk.symm)]
    exact rcheck_out op 4 r1 r2 x2 b1 d1 b2 d2 l1 l2 i2 w hi hf hw
  · rw [hw, Bool.true_and] at hk
    cases he : eqiB op 4 r1 r2 x2 b1 d1 b2 d2 l1 l2 i2 op 4 0 0 0 b1 d1 0 0 0 0 i2
    · rw [he] at hk
      rw [if_neg (of_decide_eq_false hk.symm)]
      exact rcheck_not op 4 r1 r2 x2 b1 d1 b2 d2 l1 l2 i2 op 4 0 0 0 b1 d1 0 0 0 0 i2 w hi hf (fun w => own_4 op r1 r2 x2 b1 d1 b2 d2 l1 l2 i2 w) hw he
    · rw [he] at hk
      rw [if_pos (of_decide_eq_true hk.symm)]
      exact rcheck_ok op 4 r1 r2 x2 b1 d1 b2 d2 l1 l2 i2 op 4 0 0 0 b1 d1 0 0 0 0 i2 w hi hf (fun w => own_4 op r1 r2 x2 b1 d1 b2 d2 l1 l2 i2 w) hw he
theorem chkw_9 (op r1 r2 x2 b1 d1 b2 d2 l1 l2 i2 : Int) : (withB 9 r1 r2 x2 b1 d1 b2 d2 l1 l2 i2 && eqiB op 9 r1 r2 x2 b1 d1 b2 d2 l1 l2 i2 op 9 0 0 0 b1 d1 0 0 0 0 0) = decide (r1 = 0 ∧ r2 = 0 ∧ x2 = 0 ∧ (0 ≤ b1 ∧ b1 < 16) ∧ (0 ≤ d1 ∧ d1 < 4096) ∧ b2 = 0 ∧ d2 = 0 ∧ l1 = 0 ∧ l2 = 0 ∧ i2 = 0) := by
  have hm : mostOf 9 = 15 := by decide
  rw [Bool.eq_iff_iff]
  simp only [withB, eqiB, halfB, hm, Bool.and_eq_true, decide_eq_true_eq, beq_iff_eq, true_and, and_true]
  constructor <;> intro h <;> (repeat' apply And.intro) <;> omega
theorem rcheck_9 (op r1 r2 x2 b1 d1 b2 d2 l1 l2 i2 : Int) (w : World) (hi : isOp op = true) (hf : fmOf op = 9) : Calls Try.prog 18 #[.agg #[.int .i64 op, .int .i64 9, .int .i64 r1, .int .i64 r2, .int .i64 x2, .int .i64 b1, .int .i64 d1, .int .i64 b2, .int .i64 d2, .int .i64 l1, .int .i64 l2, .int .i64 i2]] w fun e w' => e = .returned (.int .i64 (chk op 9 [op, 9, r1, r2, x2, b1, d1, b2, d2, l1, l2, i2])) ∧ Below w.heap.size w w' := by
  have hk := chkw_9 op r1 r2 x2 b1 d1 b2 d2 l1 l2 i2
  rw [chk_9 op r1 r2 x2 b1 d1 b2 d2 l1 l2 i2 hi hf]
  cases hw : withB 9 r1 r2 x2 b1 d1 b2 d2 l1 l2 i2
  · rw [hw, Bool.false_and] at hk
    rw [if_neg (of_decide_eq_false hk.symm)]
    exact rcheck_out op 9 r1 r2 x2 b1 d1 b2 d2 l1 l2 i2 w hi hf hw
  · rw [hw, Bool.true_and] at hk
    cases he : eqiB op 9 r1 r2 x2 b1 d1 b2 d2 l1 l2 i2 op 9 0 0 0 b1 d1 0 0 0 0 0
    · rw [he] at hk
      rw [if_neg (of_decide_eq_false hk.symm)]
      exact rcheck_not op 9 r1 r2 x2 b1 d1 b2 d2 l1 l2 i2 op 9 0 0 0 b1 d1 0 0 0 0 0 w hi hf (fun w => own_9 op r1 r2 x2 b1 d1 b2 d2 l1 l2 i2 w) hw he
    · rw [he] at hk
      rw [if_pos (of_decide_eq_true hk.symm)]
      exact rcheck_ok op 9 r1 r2 x2 b1 d1 b2 d2 l1 l2 i2 op 9 0 0 0 b1 d1 0 0 0 0 0 w hi hf (fun w => own_9 op r1 r2 x2 b1 d1 b2 d2 l1 l2 i2 w) hw he
theorem chkw_5 (op r1 r2 x2 b1 d1 b2 d2 l1 l2 i2 : Int) : (withB 5 r1 r2 x2 b1 d1 b2 d2 l1 l2 i2 && eqiB op 5 r1 r2 x2 b1 d1 b2 d2 l1 l2 i2 op 5 0 0 0 b1 d1 b2 d2 l1 0 0) = decide (r1 = 0 ∧ r2 = 0 ∧ x2 = 0 ∧ (0 ≤ b1 ∧ b1 < 16) ∧ (0 ≤ d1 ∧ d1 < 4096) ∧ (0 ≤ b2 ∧ b2 < 16) ∧ (0 ≤ d2 ∧ d2 < 4096) ∧ (0 ≤ l1 ∧ l1 < 256) ∧ l2 = 0 ∧ i2 = 0) := by
  have hm : mostOf 5 = 255 := by decide
  rw [Bool.eq_iff_iff]
  simp only [withB, eqiB, halfB, hm, Bool.and_eq_true, decide_eq_true_eq, beq_iff_eq, true_and, and_true]
  constructor <;> intro h <;> (repeat' apply And.intro) <;> omega
theorem rcheck_5 (op r1 r2 x2 b1 d1 b2 d2 l1 l2 i2 : Int) (w : World) (hi : isOp op = true) (hf : fmOf op = 5) : Calls Try.prog 18 #[.agg #[.int .i64 op, .int .i64 5, .int .i64 r1, .int .i64 r2, .int .i64 x2, .int .i64 b1, .int .i64 d1, .int .i64 b2, .int .i64 d2, .int .i64 l1, .int .i64 l2, .int .i64 i2]] w fun e w' => e = .returned (.int .i64 (chk op 5 [op, 5, r1, r2, x2, b1, d1, b2, d2, l1, l2, i2])) ∧ Below w.heap.size w w' := by
  have hk := chkw_5 op r1 r2 x2 b1 d1 b2 d2 l1 l2 i2
  rw [chk_5 op r1 r2 x2 b1 d1 b2 d2 l1 l2 i2 hi hf]
  cases hw : withB 5 r1 r2 x2 b1 d1 b2 d2 l1 l2 i2
  · rw [hw, Bool.false_and] at hk
    rw [if_neg (of_decide_eq_false hk.symm)]
    exact rcheck_out op 5 r1 r2 x2 b1 d1 b2 d2 l1 l2 i2 w hi hf hw
  · rw [hw, Bool.true_and] at hk
    cases he : eqiB op 5 r1 r2 x2 b1 d1 b2 d2 l1 l2 i2 op 5 0 0 0 b1 d1 b2 d2 l1 0 0
    · rw [he] at hk
      rw [if_neg (of_decide_eq_false hk.symm)]
      exact rcheck_not op 5 r1 r2 x2 b1 d1 b2 d2 l1 l2 i2 op 5 0 0 0 b1 d1 b2 d2 l1 0 0 w hi hf (fun w => own_5 op r1 r2 x2 b1 d1 b2 d2 l1 l2 i2 w) hw he
    · rw [he] at hk
      rw [if_pos (of_decide_eq_true hk.symm)]
      exact rcheck_ok op 5 r1 r2 x2 b1 d1 b2 d2 l1 l2 i2 op 5 0 0 0 b1 d1 b2 d2 l1 0 0 w hi hf (fun w => own_5 op r1 r2 x2 b1 d1 b2 d2 l1 l2 i2 w) hw he
theorem chkw_6 (op r1 r2 x2 b1 d1 b2 d2 l1 l2 i2 : Int) : (withB 6 r1 r2 x2 b1 d1 b2 d2 l1 l2 i2 && eqiB op 6 r1 r2 x2 b1 d1 b2 d2 l1 l2 i2 op 6 0 0 0 b1 d1 b2 d2 l1 l2 0) = decide (r1 = 0 ∧ r2 = 0 ∧ x2 = 0 ∧ (0 ≤ b1 ∧ b1 < 16) ∧ (0 ≤ d1 ∧ d1 < 4096) ∧ (0 ≤ b2 ∧ b2 < 16) ∧ (0 ≤ d2 ∧ d2 < 4096) ∧ (0 ≤ l1 ∧ l1 < 16) ∧ (0 ≤ l2 ∧ l2 < 16) ∧ i2 = 0) := by
  have hm : mostOf 6 = 15 := by decide
  rw [Bool.eq_iff_iff]
  simp only [withB, eqiB, halfB, hm, Bool.and_eq_true, decide_eq_true_eq, beq_iff_eq, true_and, and_true]
  constructor <;> intro h <;> (repeat' apply And.intro) <;> omega
theorem rcheck_6 (op r1 r2 x2 b1 d1 b2 d2 l1 l2 i2 : Int) (w : World) (hi : isOp op = true) (hf : fmOf op = 6) : Calls Try.prog 18 #[.agg #[.int .i64 op, .int .i64 6, .int .i64 r1, .int .i64 r2, .int .i64 x2, .int .i64 b1, .int .i64 d1, .int .i64 b2, .int .i64 d2, .int .i64 l1, .int .i64 l2, .int .i64 i2]] w fun e w' => e = .returned (.int .i64 (chk op 6 [op, 6, r1, r2, x2, b1, d1, b2, d2, l1, l2, i2])) ∧ Below w.heap.size w w' := by
  have hk := chkw_6 op r1 r2 x2 b1 d1 b2 d2 l1 l2 i2
  rw [chk_6 op r1 r2 x2 b1 d1 b2 d2 l1 l2 i2 hi hf]
  cases hw : withB 6 r1 r2 x2 b1 d1 b2 d2 l1 l2 i2
  · rw [hw, Bool.false_and] at hk
    rw [if_neg (of_decide_eq_false hk.symm)]
    exact rcheck_out op 6 r1 r2 x2 b1 d1 b2 d2 l1 l2 i2 w hi hf hw
  · rw [hw, Bool.true_and] at hk
    cases he : eqiB op 6 r1 r2 x2 b1 d1 b2 d2 l1 l2 i2 op 6 0 0 0 b1 d1 b2 d2 l1 l2 0
    · rw [he] at hk
      rw [if_neg (of_decide_eq_false hk.symm)]
      exact rcheck_not op 6 r1 r2 x2 b1 d1 b2 d2 l1 l2 i2 op 6 0 0 0 b1 d1 b2 d2 l1 l2 0 w hi hf (fun w => own_6 op r1 r2 x2 b1 d1 b2 d2 l1 l2 i2 w) hw he
    · rw [he] at hk
      rw [if_pos (of_decide_eq_true hk.symm)]
      exact rcheck_ok op 6 r1 r2 x2 b1 d1 b2 d2 l1 l2 i2 op 6 0 0 0 b1 d1 b2 d2 l1 l2 0 w hi hf (fun w => own_6 op r1 r2 x2 b1 d1 b2 d2 l1 l2 i2 w) hw he
theorem rcheck_c (op fm r1 r2 x2 b1 d1 b2 d2 l1 l2 i2 : Int) (w : World) : Calls Try.prog 18 #[.agg #[.int .i64 op, .int .i64 fm, .int .i64 r1, .int .i64 r2, .int .i64 x2, .int .i64 b1, .int .i64 d1, .int .i64 b2, .int .i64 d2, .int .i64 l1, .int .i64 l2, .int .i64 i2]] w fun e w' => e = .returned (.int .i64 (chk op fm [op, fm, r1, r2, x2, b1, d1, b2, d2, l1, l2, i2])) ∧ Below w.heap.size w w' := by
  cases hi : isOp op
  · rw [show chk op fm [op, fm, r1, r2, x2, b1, d1, b2, d2, l1, l2, i2] = 80 from by unfold chk; rw [hi, if_neg (by simp)]]
    exact rcheck_no op fm r1 r2 x2 b1 d1 b2 d2 l1 l2 i2 w hi
  · by_cases hf : fmOf op = fm
    · rcases form_cases hi with h | h | h | h | h | h | h | h | h
      all_goals obtain ⟨h, -⟩ := h; rw [h] at hf; subst hf
      · exact rcheck_1 op r1 r2 x2 b1 d1 b2 d2 l1 l2 i2 w hi h
      · exact rcheck_7 op r1 r2 x2 b1 d1 b2 d2 l1 l2 i2 w hi h
      · exact rcheck_8 op r1 r2 x2 b1 d1 b2 d2 l1 l2 i2 w hi h
      · exact rcheck_2 op r1 r2 x2 b1 d1 b2 d2 l1 l2 i2 w hi h
      · exact rcheck_3 op r1 r2 x2 b1 d1 b2 d2 l1 l2 i2 w hi h
      · exact rcheck_4 op r1 r2 x2 b1 d1 b2 d2 l1 l2 i2 w hi h
      · exact rcheck_9 op r1 r2 x2 b1 d1 b2 d2 l1 l2 i2 w hi h
      · exact rcheck_5 op r1 r2 x2 b1 d1 b2 d2 l1 l2 i2 w hi h
      · exact rcheck_6 op r1 r2 x2 b1 d1 b2 d2 l1 l2 i2 w hi h
    · rw [show chk op fm [op, fm, r1, r2, x2, b1, d1, b2, d2, l1, l2, i2] = 80 from by unfold chk; rw [if_neg (fun h => hf h.2)]]
      exact rcheck_form op fm r1 r2 x2 b1 d1 b2 d2 l1 l2 i2 w hi hf
end Go.Proofs.Ytfbcjpbfggbhfaa
