/- CONTRACT of the reference's Encode: it answers as isa.Encode. No conditions. -/
import Derived.Test.YtfbcjpbfggbhfaaIsC2
import Derived.Test.YtfbcjpbfggbhfaaIsE11
import Derived.Test.YtfbcjpbfggbhfaaIsE17
import Derived.Test.YtfbcjpbfggbhfaaIsE18
import Derived.Test.YtfbcjpbfggbhfaaIsE12
import Derived.Test.YtfbcjpbfggbhfaaIsE13
import Derived.Test.YtfbcjpbfggbhfaaIsE14
import Derived.Test.YtfbcjpbfggbhfaaIsE19
import Derived.Test.YtfbcjpbfggbhfaaIsE15
import Derived.Test.YtfbcjpbfggbhfaaIsE16
namespace Go.Proofs.Ytfbcjpbfggbhfaa
open Go.RowKit
set_option linter.unusedVariables false
set_option linter.unusedSimpArgs false
set_option maxRecDepth 1000000 in
set_option maxHeartbeats 4000000 in
theorem renc_no (op fm r1 r2 x2 b1 d1 b2 d2 l1 l2 i2 cd : Int) (w : World) (hc : cd ≠ 0) (hk : ∀ w, Calls Try.prog 18 #[.agg #[.int .i64 op, .int .i64 fm, .int .i64 r1, .int .i64 r2, .int .i64 x2, .int .i64 b1, .int .i64 d1, .int .i64 b2, .int .i64 d2, .int .i64 l1, .int .i64 l2, .int .i64 i2]] w fun e w' => e = .returned (.int .i64 cd) ∧ Below w.heap.size w w') : Calls Try.prog 16 #[.agg #[.int .i64 op, .int .i64 fm, .int .i64 r1, .int .i64 r2, .int .i64 x2, .int .i64 b1, .int .i64 d1, .int .i64 b2, .int .i64 d2, .int .i64 l1, .int .i64 l2, .int .i64 i2]] w fun e w' => e = .returned (.tuple #[.slice none 0 0, .int .i64 cd]) ∧ Below w.heap.size w w' := by
  have KC := Lib.hid hk
  have e1 : (cd != 0) = true := by simpa using hc
  clear hk hc
  go_enter Try.func16, Try.ntmps16
  have HB0 := Lib.hid ((Below.refl w.heap.size w).alloc (Nat.le_refl _) (.cells #[.int .i64 op, .int .i64 fm, .int .i64 r1, .int .i64 r2, .int .i64 x2, .int .i64 b1, .int .i64 d1, .int .i64 b2, .int .i64 d2, .int .i64 l1, .int .i64 l2, .int .i64 i2] 28))
  go_wp2_with (go_at_call 18; refine (KC.out _).mono ?_; rintro e W ⟨rfl, hb⟩; have HB1 := Lib.hid (HB0.out.trans (hb.mono HB0.out.size)); clear hb)
  go_returns
  exact ⟨rfl, HB1.out⟩
theorem rencode_c (op fm r1 r2 x2 b1 d1 b2 d2 l1 l2 i2 : Int) (w : World) : Calls Try.prog 16 #[.agg #[.int .i64 op, .int .i64 fm, .int .i64 r1, .int .i64 r2, .int .i64 x2, .int .i64 b1, .int .i64 d1, .int .i64 b2, .int .i64 d2, .int .i64 l1, .int .i64 l2, .int .i64 i2]] w fun e w' => ∃ A m c, e = .returned (.tuple #[.slice A m c, .int .i64 (chk op fm [op, fm, r1, r2, x2, b1, d1, b2, d2, l1, l2, i2])]) ∧ Byt w' A m (if chk op fm [op, fm, r1, r2, x2, b1, d1, b2, d2, l1, l2, i2] = 0 then encI [op, fm, r1, r2, x2, b1, d1, b2, d2, l1, l2, i2] else []) ∧ m ≤ 6 ∧ Below w.heap.size w w' := by
  by_cases hc : chk op fm [op, fm, r1, r2, x2, b1, d1, b2, d2, l1, l2, i2] = 0
  · obtain ⟨hi, hf, -⟩ := chk_zero hc
    have hk := fun w => rcheck_c op fm r1 r2 x2 b1 d1 b2 d2 l1 l2 i2 w
    rw [hc] at hk ⊢
    rw [if_pos rfl]
    rcases form_cases hi with h | h | h | h | h | h | h | h | h
    all_goals obtain ⟨h, hl⟩ := h; rw [h] at hf; subst hf
    · rw [chk_1 op r1 r2 x2 b1 d1 b2 d2 l1 l2 i2 hi h] at hc
      have hc' : (0 ≤ r1 ∧ r1 < 16) ∧ (0 ≤ r2 ∧ r2 < 16) ∧ x2 = 0 ∧ b1 = 0 ∧ d1 = 0 ∧ b2 = 0 ∧ d2 = 0 ∧ l1 = 0 ∧ l2 = 0 ∧ i2 = 0 := by
        by_cases q : (0 ≤ r1 ∧ r1 < 16) ∧ (0 ≤ r2 ∧ r2 < 16) ∧ x2 = 0 ∧ b1 = 0 ∧ d1 = 0 ∧ b2 = 0 ∧ d2 = 0 ∧ l1 = 0 ∧ l2 = 0 ∧ i2 = 0
        · exact q
        · rw [if_neg q] at hc; exact absurd hc (by decide)
      refine (renc_1 op r1 r2 x2 b1 d1 b2 d2 l1 l2 i2 w hi h hl hc' hk).mono ?_
      rintro e w' ⟨A, c, rfl, hy, hb⟩
      exact ⟨A, _, c, rfl, hy, by omega, hb⟩
    · rw [chk_7 op r1 r2 x2 b1 d1 b2 d2 l1 l2 i2 hi h] at hc
      have hc' : r1 = 0 ∧ r2 = 0 ∧ x2 = 0 ∧ b1 = 0 ∧ d1 = 0 ∧ b2 = 0 ∧ d2 = 0 ∧ l1 = 0 ∧ l2 = 0 ∧ (0 ≤ i2 ∧ i2 < 256) := by
        by_cases q : r1 = 0 ∧ r2 = 0 ∧ x2 = 0 ∧ b1 = 0 ∧ d1 = 0 ∧ b2 = 0 ∧ d2 = 0 ∧ l1 = 0 ∧ l2 = 0 ∧ (0 ≤ i2 ∧ i2 < 256)
        · exact q
        · rw [if_neg q] at hc; exact absurd hc (by decide)
      refine (renc_7 op r1 r2 x2 b1 d1 b2 d2 l1 l2 i2 w hi h hl hc' hk).mono ?_
      rintro e w' ⟨A, c, rfl, hy, hb⟩
      exact ⟨A, _, c, rfl, hy, by omega, hb⟩
    · rw [chk_8 op r1 r2 x2 b1 d1 b2 d2 l1 l2 i2 hi h] at hc
      have hc' : (0 ≤ r1 ∧ r1 < 16) ∧ r2 = 0 ∧ x2 = 0 ∧ b1 = 0 ∧ d1 = 0 ∧ b2 = 0 ∧ d2 = 0 ∧ l1 = 0 ∧ l2 = 0 ∧ i2 = 0 := by
        by_cases q : (0 ≤ r1 ∧ r1 < 16) ∧ r2 = 0 ∧ x2 = 0 ∧ b1 = 0 ∧ d1 = 0 ∧ b2 = 0 ∧ d2 = 0 ∧ l1 = 0 ∧ l2 = 0 ∧ i2 = 0
        · exact q
        · rw [if_neg q] at hc; exact absurd hc (by decide)
      refine (renc_8 op r1 r2 x2 b1 d1 b2 d2 l1 l2 i2 w hi h hl hc' hk).mono ?_
      rintro e w' ⟨A, c, rfl, hy, hb⟩
      exact ⟨A, _, c, rfl, hy, by omega, hb⟩
    · rw [chk_2 op r1 r2 x2 b1 d1 b2 d2 l1 l2 i2 hi h] at hc
      have hc' : (0 ≤ r1 ∧ r1 < 16) ∧ r2 = 0 ∧ (0 ≤ x2 ∧ x2 < 16) ∧ b1 = 0 ∧ d1 = 0 ∧ (0 ≤ b2 ∧ b2 < 16) ∧ (0 ≤ d2 ∧ d2 < 4096) ∧ l1 = 0 ∧ l2 = 0 ∧ i2 = 0 := by
        by_cases q : (0 ≤ r1 ∧ r1 < 16) ∧ r2 = 0 ∧ (0 ≤ x2 ∧ x2 < 16) ∧ b1 = 0 ∧ d1 = 0 ∧ (0 ≤ b2 ∧ b2 < 16) ∧ (0 ≤ d2 ∧ d2 < 4096) ∧ l1 = 0 ∧ l2 = 0 ∧ i2 = 0
        · exact q
        · rw [if_neg q] at hc; exact absurd hc (by decide)
      refine (renc_2 op r1 r2 x2 b1 d1 b2 d2 l1 l2 i2 w hi h hl hc' hk).mono ?_
      rintro e w' ⟨A, c, rfl, hy, hb⟩
      exact ⟨A, _, c, rfl, hy, by omega, hb⟩
    · rw [chk_3 op r1 r2 x2 b1 d1 b2 d2 l1 l2 i2 hi h] at hc
      have hc' : (0 ≤ r1 ∧ r1 < 16) ∧ (0 ≤ r2 ∧ r2 < 16) ∧ x2 = 0 ∧ b1 = 0 ∧ d1 = 0 ∧ (0 ≤ b2 ∧ b2 < 16) ∧ (0 ≤ d2 ∧ d2 < 4096) ∧ l1 = 0 ∧ l2 = 0 ∧ i2 = 0 := by
        by_cases q : (0 ≤ r1 ∧ r1 < 16) ∧ (0 ≤ r2 ∧ r2 < 16) ∧ x2 = 0 ∧ b1 = 0 ∧ d1 = 0 ∧ (0 ≤ b2 ∧ b2 < 16) ∧ (0 ≤ d2 ∧ d2 < 4096) ∧ l1 = 0 ∧ l2 = 0 ∧ i2 = 0
        · exact q
        · rw [if_neg q] at hc; exact absurd hc (by decide)
      refine (renc_3 op r1 r2 x2 b1 d1 b2 d2 l1 l2 i2 w hi h hl hc' hk).mono ?_
      rintro e w' ⟨A, c, rfl, hy, hb⟩
      exact ⟨A, _, c, rfl, hy, by omega, hb⟩
    · rw [chk_4 op r1 r2 x2 b1 d1 b2 d2 l1 l2 i2 hi h] at hc
      have hc' : r1 = 0 ∧ r2 = 0 ∧ x2 = 0 ∧ (0 ≤ b1 ∧ b1 < 16) ∧ (0 ≤ d1 ∧ d1 < 4096) ∧ b2 = 0 ∧ d2 = 0 ∧ l1 = 0 ∧ l2 = 0 ∧ (0 ≤ i2 ∧ i2 < 256) := by
        by_cases q : r1 = 0 ∧ r2 = 0 ∧ x2 = 0 ∧ (0 ≤ b1 ∧ b1 < 16) ∧ (0 ≤ d1 ∧ d1 < 4096) ∧ b2 = 0 ∧ d2 = 0 ∧ l1 = 0 ∧ l2 = 0 ∧ (0 ≤ i2 ∧ i2 < 256)
        · exact q
        · rw [if_neg q] at hc; exact absurd hc (by decide)
      refine (renc_4 op r1 r2 x2 b1 d1 b2 d2 l1 l2 i2 w hi h hl hc' hk).mono ?_
      rintro e w' ⟨A, c, rfl, hy, hb⟩
      exact ⟨A, _, c, rfl, hy, by omega, hb⟩
    · rw [chk_9 op r1 r2 x2 b1 d1 b2 d2 l1 l2 i2 hi h] at hc
      have hc' : r1 = 0 ∧ r2 = 0 ∧ x2 = 0 ∧ (0 ≤ b1 ∧ b1 < 16) ∧ (0 ≤ d1 ∧ d1 < 4096) ∧ b2 = 0 ∧ d2 = 0 ∧ l1 = 0 ∧ l2 = 0 ∧ i2 = 0 := by
        by_cases q : r1 = 0 ∧ r2 = 0 ∧ x2 = 0 ∧ (0 ≤ b1 ∧ b1 < 16) ∧ (0 ≤ d1 ∧ d1 < 4096) ∧ b2 = 0 ∧ d2 = 0 ∧ l1 = 0 ∧ l2 = 0 ∧ i2 = 0
        · exact q
        · rw [if_neg q] at hc; exact absurd hc (by decide)
      refine (renc_9 op r1 r2 x2 b1 d1 b2 d2 l1 l2 i2 w hi h hl hc' hk).mono ?_
      rintro e w' ⟨A, c, rfl, hy, hb⟩
      exact ⟨A, _, c, rfl, hy, by omega, hb⟩
    · rw [chk_5 op r1 r2 x2 b1 d1 b2 d2 l1 l2 i2 hi h] at hc
      have hc' : r1 = 0 ∧ r2 = 0 ∧ x2 = 0 ∧ (0 ≤ b1 ∧ b1 < 16) ∧ (0 ≤ d1 ∧ d1 < 4096) ∧ (0 ≤ b2 ∧ b2 < 16) ∧ (0 ≤ d2 ∧ d2 < 4096) ∧ (0 ≤ l1 ∧ l1 < 256) ∧ l2 = 0 ∧ i2 = 0 := by
        by_cases q : r1 = 0 ∧ r2 = 0 ∧ x2 = 0 ∧ (0 ≤ b1 ∧ b1 < 16) ∧ (0 ≤ d1 ∧ d1 < 4096) ∧ (0 ≤ b2 ∧ b2 < 16) ∧ (0 ≤ d2 ∧ d2 < 4096) ∧ (0 ≤ l1 ∧ l1 < 256) ∧ l2 = 0 ∧ i2 = 0
        · exact q
        · rw [if_neg q] at hc; exact absurd hc (by decide)
      refine (renc_5 op r1 r2 x2 b1 d1 b2 d2 l1 l2 i2 w hi h hl hc' hk).mono ?_
      rintro e w' ⟨A, c, rfl, hy, hb⟩
      exact ⟨A, _, c, rfl, hy, by omega, hb⟩
    · rw [chk_6 op r1 r2 x2 b1 d1 b2 d2 l1 l2 i2 hi h] at hc
      have hc' : r1 = 0 ∧ r2 = 0 ∧ x2 = 0 ∧ (0 ≤ b1 ∧ b1 < 16) ∧ (0 ≤ d1 ∧ d1 < 4096) ∧ (0 ≤ b2 ∧ b2 < 16) ∧ (0 ≤ d2 ∧ d2 < 4096) ∧ (0 ≤ l1 ∧ l1 < 16) ∧ (0 ≤ l2 ∧ l2 < 16) ∧ i2 = 0 := by
        by_cases q : r1 = 0 ∧ r2 = 0 ∧ x2 = 0 ∧ (0 ≤ b1 ∧ b1 < 16) ∧ (0 ≤ d1 ∧ d1 < 4096) ∧ (0 ≤ b2 ∧ b2 < 16) ∧ (0 ≤ d2 ∧ d2 < 4096) ∧ (0 ≤ l1 ∧ l1 < 16) ∧ (0 ≤ l2 ∧ l2 < 16) ∧ i2 = 0
        · exact q
        · rw [if_neg q] at hc; exact absurd hc (by decide)
      refine (renc_6 op r1 r2 x2 b1 d1 b2 d2 l1 l2 i2 w hi h hl hc' hk).mono ?_
      rintro e w' ⟨A, c, rfl, hy, hb⟩
      exact ⟨A, _, c, rfl, hy, by omega, hb⟩
  · refine (renc_no op fm r1 r2 x2 b1 d1 b2 d2 l1 l2 i2 _ w hc (fun w => rcheck_c op fm r1 r2 x2 b1 d1 b2 d2 l1 l2 i2 w)).mono ?_
    rintro e w' ⟨rfl, hb⟩
    rw [if_neg hc]
    exact ⟨none, 0, 0, rfl, ⟨rfl, by simp, by simp⟩, by omega, hb⟩
end Go.Proofs.Ytfbcjpbfggbhfaa
