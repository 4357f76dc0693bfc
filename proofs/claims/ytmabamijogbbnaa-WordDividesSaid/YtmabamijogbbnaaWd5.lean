/- PLAIN: a shift by i + k places is a shift by i and one by k; divisions fit together. No program in sight. No conditions. -/
import Derived.Test.YtmabamijogbbnaaWd4
namespace Go.Proofs.Ytmabamijogbbnaa
open Go.RowKit
set_option linter.unusedVariables false

/-! ### shifts in parts: a word -/
theorem sg_case (v : Int) (h0 : 0 ≤ v) (h1 : v ≤ 4294967295) (m : Int) (hm : 0 < m) : (v < 2147483648 ∧ 0 ≤ sg v * m) ∨ (¬ v < 2147483648 ∧ sg v * m < 0) := by
  by_cases hv : v < 2147483648
  · exact .inl ⟨hv, Int.mul_nonneg (by unfold sg; rw [if_pos hv]; exact h0) (by omega)⟩
  · exact .inr ⟨hv, Int.mul_neg_of_neg_of_pos (by unfold sg; rw [if_neg hv]; omega) hm⟩
theorem sg_slv_mod (v : Int) (i : Nat) : ∃ j : Int, sg (slv v i) = sg v * 2 ^ i + 2147483648 * j := by
  unfold slv
  generalize sg v * 2 ^ i = m
  by_cases hv : v < 2147483648
  · rw [if_pos hv]
    refine ⟨-(m / 2147483648), ?_⟩
    unfold sg; rw [if_pos (by omega)]; omega
  · rw [if_neg hv]
    refine ⟨-(m / 2147483648) - 1, ?_⟩
    unfold sg; rw [if_neg (by omega)]; omega
theorem slv_sign (v : Int) (i : Nat) : (slv v i < 2147483648) ↔ v < 2147483648 := by
  unfold slv; split <;> omega
theorem slv_parts (v : Int) (i k : Nat) : slv (slv v i) k = slv v (i + k) := by
  obtain ⟨j, hj⟩ := sg_slv_mod v i
  have hs := slv_sign v i
  have e : sg (slv v i) * 2 ^ k = sg v * 2 ^ (i + k) + 2147483648 * (j * 2 ^ k) := by
    rw [hj, Int.add_mul, Int.pow_add, Int.mul_assoc, Int.mul_assoc]
  show (if slv v i < 2147483648 then 0 else 2147483648) + sg (slv v i) * 2 ^ k % 2147483648 = (if v < 2147483648 then 0 else 2147483648) + sg v * 2 ^ (i + k) % 2147483648
  rw [e, Int.add_mul_emod_self_left]
  by_cases hv : v < 2147483648
  · rw [if_pos hv, if_pos (hs.mpr hv)]
  · rw [if_neg hv, if_neg (fun h => hv (hs.mp h))]
theorem slo_more (v : Int) (i k : Nat) (h : slo v i = true) : slo v (i + k) = true := by
  unfold slo at *
  rw [ovf_iff] at *
  rw [Int.pow_add, ← Int.mul_assoc]
  have hp := pow_pos2 k
  generalize sg v * 2 ^ i = m at *
  rcases h with h | h
  · left
    have : m * 2 ^ k ≤ m * 1 := Int.mul_le_mul_of_nonpos_left (by omega) (by omega)
    omega
  · right
    have : m * 1 ≤ m * 2 ^ k := Int.mul_le_mul_of_nonneg_left (by omega) (by omega)
    omega
theorem slo_parts (v : Int) (i k : Nat) (h0 : 0 ≤ v) (h1 : v ≤ 4294967295) (h : slo v i = false) : slo (slv v i) k = slo v (i + k) := by
  show ovf (sg (slv v i) * 2 ^ k) = ovf (sg v * 2 ^ (i + k))
  rw [slv_exact v i h0 h1 h, Int.pow_add, Int.mul_assoc]
theorem srv_parts (v : Int) (i k : Nat) (h0 : 0 ≤ v) (h1 : v ≤ 4294967295) : srv (srv v i) k = srv v (i + k) := by
  show lo32 (sg (srv v i) / 2 ^ k) = lo32 (sg v / 2 ^ (i + k))
  rw [sg_srv v i h0 h1, Int.ediv_ediv_of_nonneg (by have := pow_pos2 i; omega), Int.pow_add]
theorem slg_parts (v : Int) (i k : Nat) (l : Bool) (h0 : 0 ≤ v) : slg (slg v i l) k l = slg v (i + k) l := by
  cases l
  · show v / 2 ^ i / 2 ^ k = v / 2 ^ (i + k)
    rw [Int.ediv_ediv_of_nonneg (by have := pow_pos2 i; omega), Int.pow_add]
  · show lo32 (lo32 (v * 2 ^ i) * 2 ^ k) = lo32 (v * 2 ^ (i + k))
    unfold lo32
    rw [Int.pow_add, ← Int.mul_assoc, Int.mul_emod (v * 2 ^ i % 4294967296), Int.emod_emod_of_dvd _ (Int.dvd_refl _), ← Int.mul_emod]

/-! ### shifts in parts: a double word -/
theorem dlv_exact (v : Int) (p : Nat) (h0 : 0 ≤ v) (h1 : v ≤ 18446744073709551615) (h : dlo v p = false) : sg64 (dlv v p) = sg64 v * 2 ^ p := by
  have hb : -9223372036854775808 ≤ sg64 v * 2 ^ p ∧ sg64 v * 2 ^ p ≤ 9223372036854775807 := (ovf64_no _).mp h
  unfold dlv
  have hs : (v < 9223372036854775808 ∧ 0 ≤ sg64 v * 2 ^ p) ∨ (¬ v < 9223372036854775808 ∧ sg64 v * 2 ^ p < 0) := by
    have hp := pow_pos2 p
    by_cases hv : v < 9223372036854775808
    · exact .inl ⟨hv, Int.mul_nonneg (by unfold sg64; rw [if_pos hv]; exact h0) (by omega)⟩
    · exact .inr ⟨hv, Int.mul_neg_of_neg_of_pos (by unfold sg64; rw [if_neg hv]; omega) hp⟩
  generalize sg64 v * 2 ^ p = m at *
  rcases hs with ⟨hv, hm⟩ | ⟨hv, hm⟩
  · rw [if_pos hv]; unfold sg64; split <;> omega
  · rw [if_neg hv]; unfold sg64; split <;> omega
theorem sg64_dlv_mod (v : Int) (i : Nat) : ∃ j : Int, sg64 (dlv v i) = sg64 v * 2 ^ i + 9223372036854775808 * j := by
  unfold dlv
  generalize sg64 v * 2 ^ i = m
  by_cases hv : v < 9223372036854775808
  · rw [if_pos hv]
    refine ⟨-(m / 9223372036854775808), ?_⟩
    unfold sg64; rw [if_pos (by omega)]; omega
  · rw [if_neg hv]
    refine ⟨-(m / 9223372036854775808) - 1, ?_⟩
    unfold sg64; rw [if_neg (by omega)]; omega
theorem dlv_sign (v : Int) (i : Nat) : (dlv v i < 9223372036854775808) ↔ v < 9223372036854775808 := by
  unfold dlv; split <;> omega
theorem dlv_parts (v : Int) (i k : Nat) : dlv (dlv v i) k = dlv v (i + k) := by
  obtain ⟨j, hj⟩ := sg64_dlv_mod v i
  have hs := dlv_sign v i
  have e : sg64 (dlv v i) * 2 ^ k = sg64 v * 2 ^ (i + k) + 9223372036854775808 * (j * 2 ^ k) := by
    rw [hj, Int.add_mul, Int.pow_add, Int.mul_assoc, Int.mul_assoc]
  show (if dlv v i < 9223372036854775808 then 0 else 9223372036854775808) + sg64 (dlv v i) * 2 ^ k % 9223372036854775808 = (if v < 9223372036854775808 then 0 else 9223372036854775808) + sg64 v * 2 ^ (i + k) % 9223372036854775808
  rw [e, Int.add_mul_emod_self_left]
  by_cases hv : v < 9223372036854775808
  · rw [if_pos hv, if_pos (hs.mpr hv)]
  · rw [if_neg hv, if_neg (fun h => hv (hs.mp h))]
theorem dlo_more (v : Int) (i k : Nat) (h : dlo v i = true) : dlo v (i + k) = true := by
  unfold dlo at *
  rw [ovf64_iff] at *
  rw [Int.pow_add, ← Int.mul_assoc]
  have hp := pow_pos2 k
  generalize sg64 v * 2 ^ i = m at *
  rcases h with h | h
  · left
    have : m * 2 ^ k ≤ m * 1 := Int.mul_le_mul_of_nonpos_left (by omega) (by omega)
    omega
  · right
    have : m * 1 ≤ m * 2 ^ k := Int.mul_le_mul_of_nonneg_left (by omega) (by omega)
    omega
theorem dlo_parts (v : Int) (i k : Nat) (h0 : 0 ≤ v) (h1 : v ≤ 18446744073709551615) (h : dlo v i = false) : dlo (dlv v i) k = dlo v (i + k) := by
  show ovf64 (sg64 (dlv v i) * 2 ^ k) = ovf64 (sg64 v * 2 ^ (i + k))
  rw [dlv_exact v i h0 h1 h, Int.pow_add, Int.mul_assoc]
theorem drv_parts (v : Int) (i k : Nat) (h0 : 0 ≤ v) (h1 : v ≤ 18446744073709551615) : drv (drv v i) k = drv v (i + k) := by
  show sg64 (drv v i) / 2 ^ k % _ = sg64 v / 2 ^ (i + k) % _
  rw [sgn_drv v i h0 h1, Int.ediv_ediv_of_nonneg (by have := pow_pos2 i; omega), Int.pow_add]
theorem dlg_parts (v : Int) (i k : Nat) (l : Bool) : dlg (dlg v i l) k l = dlg v (i + k) l := by
  cases l
  · show v / 2 ^ i / 2 ^ k = v / 2 ^ (i + k)
    rw [Int.ediv_ediv_of_nonneg (by have := pow_pos2 i; omega), Int.pow_add]
  · show v * 2 ^ i % 18446744073709551616 * 2 ^ k % 18446744073709551616 = v * 2 ^ (i + k) % 18446744073709551616
    rw [Int.pow_add, ← Int.mul_assoc, Int.mul_emod (v * 2 ^ i % 18446744073709551616), Int.emod_emod_of_dvd _ (Int.dvd_refl _), ← Int.mul_emod]

/-! ### the places of the law -/
theorem plc_u64 (n : Int) : IntKind.u64.wrap n % 64 = (plc n : Int) := by rw [IntKind.wrap_u64]; unfold plc; omega
end Go.Proofs.Ytmabamijogbbnaa
