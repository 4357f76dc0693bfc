/- PLAIN: more facts for the statements on words that do not use the reference: shifts. No program in sight. No conditions. -/
import Derived.Test.YtmabamijogbbnaaWd2
namespace Go.Proofs.Ytmabamijogbbnaa
open Go.RowKit
set_option linter.unusedVariables false

/-! ### a product with a power of two -/
theorem pow_le30 (k : Nat) (h : k ≤ 30) : (2 : Int) ^ k ≤ 1073741824 := pow_le k 30 h
theorem sg_pow (k : Nat) (h : k ≤ 30) : sg (2 ^ k) = 2 ^ k := by have := pow_le30 k h; unfold sg; rw [if_pos (by omega)]
theorem plc_nat (k : Nat) (h : k ≤ 63) : plc (k : Int) = k := by unfold plc; omega
theorem ext_sign (a : Int) (h0 : 0 ≤ a) (h1 : a ≤ 4294967295) : sg64 (dbl (srv a 31) a) = sg a ∧ (dbl (srv a 31) a < 9223372036854775808 ↔ 0 ≤ sg a) := by
  have e : srv a 31 = if a < 2147483648 then 0 else 4294967295 := by
    unfold srv lo32 sg
    split <;> omega
  rw [e]; unfold sg64 dbl sg
  split <;> omega
theorem ext_over (a : Int) (k : Nat) (h0 : 0 ≤ a) (h1 : a ≤ 4294967295) (hk : k ≤ 30) : dlo (dbl (srv a 31) a) k = false := by
  unfold dlo; rw [(ext_sign a h0 h1).1, ovf64_no]
  have := exact_box a k (by omega) h0 h1; omega
theorem ext_val (a : Int) (k : Nat) (h0 : 0 ≤ a) (h1 : a ≤ 4294967295) (hk : k ≤ 30) : dlv (dbl (srv a 31) a) k = sg a * 2 ^ k % 18446744073709551616 := by
  unfold dlv
  have hx := ext_sign a h0 h1
  have hb := exact_box a k (by omega) h0 h1
  have hp := pow_pos2 k
  rw [hx.1]
  by_cases hs : 0 ≤ sg a
  · rw [if_pos (hx.2.mpr hs)]
    have := Int.mul_nonneg hs (by omega : (0 : Int) ≤ 2 ^ k)
    omega
  · rw [if_neg (fun h => hs (hx.2.mp h))]
    have := Int.mul_neg_of_neg_of_pos (by omega : sg a < 0) hp
    omega
theorem neg_long (a : Int) (h0 : 0 ≤ a) (h1 : a ≤ 4294967295) : sg64 (dbl (lo32 (-sg a / 4294967296)) (lo32 (-sg a))) = -sg a := by
  have l := sg_lo a h0; have u := sg_hi a h1
  unfold sg64 dbl lo32; split <;> omega
end Go.Proofs.Ytmabamijogbbnaa
