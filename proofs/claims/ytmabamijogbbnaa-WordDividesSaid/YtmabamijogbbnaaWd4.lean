/- PLAIN: facts on shifts as multiplications. No program in sight. No conditions. -/
import Derived.Test.YtmabamijogbbnaaWd3
namespace Go.Proofs.Ytmabamijogbbnaa
open Go.RowKit
set_option linter.unusedVariables false

/-! ### the number of places as the law takes it -/
theorem plc_tneg (n : Int) (h : n < 0) (ht : n.tmod 64 ≠ 0) : n.tmod 64 < 0 ∧ -64 < n.tmod 64 ∧ n.tmod 64 + 64 = (plc n : Int) := by
  have t0 : n.tmod 64 = -((-n) % 64) := by have := Int.neg_tmod (-n) 64; rw [Int.neg_neg] at this; rw [this, Int.tmod_eq_emod_of_nonneg (by omega)]
  rw [← plc_is]; omega
theorem plc_tzero (n : Int) (h : n < 0) (ht : n.tmod 64 = 0) : (plc n : Int) = 0 := by
  have t0 : n.tmod 64 = -((-n) % 64) := by have := Int.neg_tmod (-n) 64; rw [Int.neg_neg] at this; rw [this, Int.tmod_eq_emod_of_nonneg (by omega)]
  rw [← plc_is]; omega

/-! ### shifts of a word -/
theorem sg_srv (v : Int) (p : Nat) (h0 : 0 ≤ v) (h1 : v ≤ 4294967295) : sg (srv v p) = sg v / 2 ^ p := by
  unfold srv; rw [sg_lo32]
  have := ediv_pow_box (sg v) p 2147483648 (sg_lo v h0) (by have := sg_hi v h1; omega) (by omega)
  exact IntWalk.wrap32_in _ (by omega)
theorem sr_ge32 (v : Int) (p : Nat) (h : 32 ≤ p) (h0 : 0 ≤ v) (h1 : v ≤ 4294967295) : sg v / 2 ^ p = sg v / 2147483648 := by
  have hm := sr_min v p h0 h1
  rw [Nat.min_eq_right h] at hm
  rw [← hm]
  have := sg_lo v h0; have := sg_hi v h1
  omega
theorem slg_ge32 (v : Int) (p : Nat) (h : 32 ≤ p) (h0 : 0 ≤ v) (h1 : v ≤ 4294967295) : slg v p true = 0 ∧ slg v p false = 0 := by
  constructor
  · have := slg_minL v p
    rw [Nat.min_eq_right h] at this
    show lo32 (v * 2 ^ p) = 0
    rw [← this]; unfold lo32; omega
  · have := slg_min v p h0 h1
    rw [Nat.min_eq_right h] at this
    show v / 2 ^ p = 0
    rw [← this]; omega
theorem slv_exact (v : Int) (p : Nat) (h0 : 0 ≤ v) (h1 : v ≤ 4294967295) (h : slo v p = false) : sg (slv v p) = sg v * 2 ^ p := by
  have hb : -2147483648 ≤ sg v * 2 ^ p ∧ sg v * 2 ^ p ≤ 2147483647 := (ovf_no _).mp h
  unfold slv
  have hs : (v < 2147483648 ∧ 0 ≤ sg v * 2 ^ p) ∨ (¬ v < 2147483648 ∧ sg v * 2 ^ p < 0) := by
    have hp := pow_pos2 p
    by_cases hv : v < 2147483648
    · exact .inl ⟨hv, Int.mul_nonneg (by unfold sg; rw [if_pos hv]; exact h0) (by omega)⟩
    · exact .inr ⟨hv, Int.mul_neg_of_neg_of_pos (by unfold sg; rw [if_neg hv]; omega) hp⟩
  generalize sg v * 2 ^ p = m at *
  rcases hs with ⟨hv, hm⟩ | ⟨hv, hm⟩
  · rw [if_pos hv]; unfold sg; split <;> omega
  · rw [if_neg hv]; unfold sg; split <;> omega
theorem word_box (v : Int) (p : Nat) (h : p < 32) (h0 : 0 ≤ v) (h1 : v ≤ 4294967295) : 0 ≤ v * 2 ^ p ∧ v * 2 ^ p ≤ 9223372034707292160 := by
  have := mul_box v (2 ^ p) 4294967295 2147483648 (by omega) (by omega) (by have := pow_pos2 p; omega) (pow_le31 p h)
  have := Int.mul_nonneg h0 (Int.le_of_lt (pow_pos2 p))
  omega

/-! ### shifts of a double word -/
theorem dbl_split (x : Int) (h0 : 0 ≤ x) (h1 : x ≤ 18446744073709551615) : dbl (lo32 (x / 4294967296)) (lo32 x) = x := by unfold dbl lo32; omega
theorem long_left (x : Int) (p : Nat) : sg64 (dlg x p true) = wrap64 (sg64 x * 2 ^ p) := by
  show sg64 (x * 2 ^ p % 18446744073709551616) = _
  have e : sg64 x * 2 ^ p = x * 2 ^ p ∨ sg64 x * 2 ^ p = x * 2 ^ p - 18446744073709551616 * 2 ^ p := by
    unfold sg64; split
    · exact .inl rfl
    · exact .inr (Int.sub_mul _ _ _)
  generalize sg64 x * 2 ^ p = m at *
  generalize x * 2 ^ p = y at *
  unfold sg64 wrap64
  split <;> omega
theorem dlv_bits (x : Int) (p : Nat) (h0 : 0 ≤ x) (h1 : x ≤ 18446744073709551615) : bits .or .u64 (x / 9223372036854775808 * 9223372036854775808) (bits .and .u64 (IntKind.u64.wrap (x * 2 ^ p)) 9223372036854775807) = dlv x p := by
  rw [IntKind.wrap_u64, u64_and _ _ (by omega) (by omega) (by omega) (by omega)]
  have hm := nat_mask63 (x * 2 ^ p % 18446744073709551616).toNat
  rw [show (9223372036854775807 : Int).toNat = 9223372036854775807 from rfl, hm]
  have hl := dlv_low x p
  rw [or_sign64 _ _ (by omega) (by omega) (by omega)]
  unfold dlv
  split <;> omega
end Go.Proofs.Ytmabamijogbbnaa
