/- PLAIN: dividend, divisor, quotient and remainder fit together. No program in sight. No conditions. -/
import Derived.Test.YtmabamijogbbnaaWd5
namespace Go.Proofs.Ytmabamijogbbnaa
open Go.RowKit
set_option linter.unusedVariables false

theorem absv_nat (n : Int) : absv n = (n.natAbs : Int) := by unfold absv; split <;> omega
theorem absv_zero (n : Int) : absv n = 0 ↔ n = 0 := by rw [absv_nat]; omega
theorem absv_lo (n : Int) : 0 ≤ absv n := by rw [absv_nat]; omega
/-- a division that succeeds -/
theorem div_fits (n D : Int) (hn : -9223372036854775808 ≤ n) (hn' : n ≤ 9223372036854775807) (hD : -2147483648 ≤ D) (hD' : D ≤ 2147483647) (h : dok n D = true) :
    ∃ rm qu RM QU : Int, drem n D = rm ∧ dquo n D = qu ∧ sg rm = RM ∧ sg qu = QU ∧ 0 ≤ rm ∧ rm ≤ 4294967295 ∧ 0 ≤ qu ∧ qu ≤ 4294967295 ∧ -2147483648 ≤ RM ∧ RM ≤ 2147483647 ∧ -2147483648 ≤ QU ∧ QU ≤ 2147483647 ∧
      -9223372036854775808 ≤ QU * D ∧ QU * D ≤ 9223372036854775807 ∧ QU * D + RM = n ∧ absv RM < absv D ∧ (rm = 0 ↔ RM = 0) ∧ (RM ≠ 0 → (RM < 0 ↔ n < 0)) := by
  obtain ⟨h0, h1, h2⟩ := dok_in n D h
  have e := Int.tmod_add_tdiv_mul n D
  have hr : (n.tmod D).natAbs < D.natAbs := by rw [Int.natAbs_tmod]; exact Nat.mod_lt _ (by omega)
  have hsg : (0 ≤ n → 0 ≤ n.tmod D) ∧ (n ≤ 0 → n.tmod D ≤ 0) := by
    constructor
    · intro hh; exact Int.tmod_nonneg D hh
    · intro hh
      have := Int.tmod_nonneg D (show 0 ≤ -n by omega)
      rw [Int.neg_tmod] at this; omega
  have hna : (n.tdiv D * D).natAbs ≤ n.natAbs := by
    rw [Int.natAbs_mul, Int.natAbs_tdiv]; exact Nat.div_mul_le_self _ _
  have hz : n.tmod D ≠ 0 → (n.tmod D < 0 ↔ n < 0) := by intro hne; omega
  have o1 : ovf (n.tdiv D) = false := by rw [ovf_no]; omega
  have o2 : ovf (n.tmod D) = false := by rw [ovf_no]; omega
  have hlow : -9223372036854775808 ≤ n.tdiv D * D ∧ n.tdiv D * D ≤ 9223372036854775807 := by omega
  refine ⟨_, _, _, _, rfl, rfl, rfl, rfl, ?_⟩
  rw [drem_ok n D h, dquo_ok n D h, sg_lo32_in _ o1, sg_lo32_in _ o2]
  refine ⟨lo32_lo _, lo32_hi _, lo32_lo _, lo32_hi _, by omega, by omega, by omega, by omega, hlow.1, hlow.2, by omega, by rw [absv_nat, absv_nat]; omega, ?_, hz⟩
  unfold lo32; omega
theorem div_fails (n D : Int) (hD0 : D ≠ 0) (h : dok n D = false) : 2147483648 ≤ absv n / absv D := by
  have h1 : ¬ (D ≠ 0 ∧ -2147483648 ≤ n.tdiv D ∧ n.tdiv D ≤ 2147483647) := of_decide_eq_false h
  have h2 : (n.tdiv D).natAbs = n.natAbs / D.natAbs := Int.natAbs_tdiv n D
  have h3 : (2147483648 : Nat) ≤ n.natAbs / D.natAbs := by omega
  have e : absv n / absv D = ((n.natAbs / D.natAbs : Nat) : Int) := by rw [absv_nat, absv_nat]; exact (Int.natCast_ediv _ _).symm
  rw [e]; omega
/-- a product and a smaller remainder are divided back -/
theorem div_back (q r D : Int) (hD : D ≠ 0) (hr : absv r < absv D) (hs : r = 0 ∨ q * D = 0 ∨ (r < 0 ↔ q * D < 0)) : (q * D + r).tdiv D = q ∧ (q * D + r).tmod D = r := by
  rw [absv_nat, absv_nat] at hr
  have e : r + D * q = q * D + r := by rw [Int.mul_comm D q]; omega
  by_cases h0 : 0 ≤ q * D + r
  · refine (Int.tdiv_tmod_unique h0 hD).mpr ⟨e, ?_, by omega⟩
    rcases hs with hs | hs | hs
    · omega
    · omega
    · rcases Int.lt_or_le r 0 with h | h
      · have := hs.mp h; omega
      · exact h
  · refine (Int.tdiv_tmod_unique' (by omega) hD).mpr ⟨e, by omega, ?_⟩
    rcases hs with hs | hs | hs
    · omega
    · omega
    · rcases Int.lt_or_le 0 r with h | h
      · have : ¬ q * D < 0 := fun hh => by have := hs.mpr hh; omega
        omega
      · exact h
theorem div_back_ok (q r d : Int) (hq0 : 0 ≤ q) (hq1 : q ≤ 4294967295) (hr0 : 0 ≤ r) (hr1 : r ≤ 4294967295) (D : Int) (hD : D ≠ 0) (hr : absv (sg r) < absv D) (hs : sg r = 0 ∨ sg q * D = 0 ∨ (sg r < 0 ↔ sg q * D < 0)) :
    dok (sg q * D + sg r) D = true ∧ drem (sg q * D + sg r) D = r ∧ dquo (sg q * D + sg r) D = q := by
  obtain ⟨h1, h2⟩ := div_back (sg q) (sg r) D hD hr hs
  have hk : dok (sg q * D + sg r) D = true := by
    unfold dok; rw [h1, decide_eq_true_iff]; exact ⟨hD, sg_lo q hq0, sg_hi q hq1⟩
  refine ⟨hk, ?_, ?_⟩
  · rw [drem_ok _ _ hk, h2]; exact sg_mod r hr0 hr1
  · rw [dquo_ok _ _ hk, h1]; exact sg_mod q hq0 hq1
theorem long_prod (p : Int) (h0 : -9223372036854775808 ≤ p) (h1 : p ≤ 9223372036854775807) : sg64 (dbl (lo32 (p / 4294967296)) (lo32 p)) = p := by
  unfold sg64 dbl lo32; split <;> omega
theorem u64_back (n : Int) (h0 : -9223372036854775808 ≤ n) (h1 : n ≤ 9223372036854775807) : sg64 (IntKind.u64.wrap n) = n := by
  rw [IntKind.wrap_u64]; unfold sg64; split <;> omega
end Go.Proofs.Ytmabamijogbbnaa
