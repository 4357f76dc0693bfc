/- PLAIN: facts for the statements on words that do not use the reference. No program in sight. No conditions. -/
import Derived.Test.YtmabamijogbbnaaWd
namespace Go.Proofs.Ytmabamijogbbnaa
open Go.RowKit
set_option linter.unusedVariables false

/-- the absolute value -/
def absv (n : Int) : Int := if n < 0 then -n else n

/-! ### sums -/
theorem inv_sum (a b : Int) (ha : 0 ≤ a) (ha' : a ≤ 4294967295) (hb : 0 ≤ b) (hb' : b ≤ 4294967295) : lo32 (sg a + sg b) = lo32 (a + b) := by
  unfold lo32 sg; split <;> split <;> omega
theorem inv_diff (a b : Int) (ha : 0 ≤ a) (ha' : a ≤ 4294967295) (hb : 0 ≤ b) (hb' : b ≤ 4294967295) : lo32 (sg a - sg b) = lo32 (a - b) := by
  unfold lo32 sg; split <;> split <;> omega
theorem inv_back (a b : Int) (ha : 0 ≤ a) (ha' : a ≤ 4294967295) (hb : 0 ≤ b) (hb' : b ≤ 4294967295) : lo32 (sg (lo32 (a + b)) - sg b) = a := by
  rw [sg_lo32]; unfold lo32 sg wrap32; split <;> omega
theorem inv_neg (a b : Int) (ha : 0 ≤ a) (ha' : a ≤ 4294967295) (hb : 0 ≤ b) (hb' : b ≤ 4294967295) : lo32 (a + lo32 (-sg b)) = lo32 (a - b) := by
  unfold lo32 sg; split <;> omega
theorem inv_zero (b : Int) (hb : 0 ≤ b) (hb' : b ≤ 4294967295) : (lo32 (-sg b) + b) % 4294967296 = 0 := by
  unfold lo32 sg; split <;> omega
theorem over_test (n : Int) : (n != sg (lo32 n)) = ovf n := by
  rw [← signed_test n, Bool.eq_iff_iff, bne_iff_ne, bne_iff_ne]; exact ⟨Ne.symm, Ne.symm⟩
theorem lcc_lo (v : Int) (h : Bool) : 0 ≤ lcc v h := by unfold lcc; cases h <;> simp <;> split <;> omega
theorem lcc_hi (v : Int) (h : Bool) : lcc v h ≤ 3 := by unfold lcc; cases h <;> simp <;> split <;> omega
theorem lcc_high (v : Int) (h : Bool) : lcc v h / 2 = if h = true then 1 else 0 := by unfold lcc; cases h <;> simp <;> split <;> omega
theorem lcc_some (v : Int) (h : Bool) : (lcc v h % 2 == 1) = (v != 0) := by
  unfold lcc
  by_cases hv : v = 0
  · subst hv; cases h <;> decide
  · rw [if_neg hv]; cases h <;> simp [hv]
theorem carry_is (a b : Int) (ha : 0 ≤ a) (ha' : a ≤ 4294967295) (hb : 0 ≤ b) (hb' : b ≤ 4294967295) : (if decide (4294967296 ≤ a + b) = true then (1 : Int) else 0) = (a + b) / 4294967296 := by
  by_cases h : 4294967296 ≤ a + b
  · simp [h]; omega
  · simp [h]; omega
theorem lcc_two (v : Int) (h : Bool) : decide (2 ≤ lcc v h) = h := by
  unfold lcc; cases h
  · simp; split <;> omega
  · simp; split <;> omega
/-! ### comparisons -/
theorem sgn_not1 (n : Int) (h : 0 ≤ n) : (sgn n == 1) = false := by
  rw [beq_eq_false_iff_ne]; unfold sgn; split
  · decide
  · rw [if_neg (by omega)]; decide
theorem sg_ne (a b : Int) (ha : 0 ≤ a) (ha' : a ≤ 4294967295) (hb : 0 ≤ b) (hb' : b ≤ 4294967295) (h : a ≠ b) : sg a < sg b ∨ sg b < sg a := by
  unfold sg; split <;> split <;> omega
theorem over_less (n : Int) (h : ovf n = true) (h0 : -4294967295 ≤ n) (hn : n < 0) : sgn (sg (lo32 n)) = 2 := by
  rw [ovf_iff] at h; apply sgn_pos; rw [sg_lo32]; unfold wrap32; omega
theorem over_more (n : Int) (h : ovf n = true) (h0 : n ≤ 4294967295) (hn : 0 < n) : sgn (sg (lo32 n)) = 1 := by
  rw [ovf_iff] at h; apply sgn_neg; rw [sg_lo32]; unfold wrap32; omega
theorem lcc_below (v : Int) (h : Bool) (hh : h = false) : lcc v h < 2 := by subst hh; unfold lcc; simp; split <;> omega
theorem lcc_above (v : Int) (h : Bool) (hh : h = true) : 2 ≤ lcc v h := by subst hh; unfold lcc; simp; split <;> omega
end Go.Proofs.Ytmabamijogbbnaa
