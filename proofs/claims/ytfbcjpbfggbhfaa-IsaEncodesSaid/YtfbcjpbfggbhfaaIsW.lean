/- CONTRACTS of the reference's half and within. No conditions. -/
import Derived.Test.YtfbcjpbfggbhfaaIsA
import Derived.Test.YtfbcjpbfggbhfaaIsR1
import Derived.Deep.Cut
namespace Go.Proofs.Ytfbcjpbfggbhfaa
open Go.RowKit
set_option linter.unusedVariables false
set_option linter.unusedSimpArgs false
def halfB (n : Int) : Bool := decide (0 ≤ n ∧ n ≤ 15)
theorem half_c (n : Int) (w : World) : Calls Try.prog 44 #[.int .i64 n] w fun e w' => e = .returned (.bool (halfB n)) ∧ w = w' := by
  by_cases h0 : 0 ≤ n
  · by_cases h1 : n ≤ 15
    · have hr := Lib.hid (show halfB n = true from decide_eq_true ⟨h0, h1⟩)
      go_enter Try.func44, Try.ntmps44
      go_wp2
      go_ret
      exact ⟨by rw [hr.out]; rfl, rfl⟩
    · have hr := Lib.hid (show halfB n = false from decide_eq_false (by omega))
      go_enter Try.func44, Try.ntmps44
      go_wp2
      go_ret
      exact ⟨by rw [hr.out]; rfl, rfl⟩
  · have hr := Lib.hid (show halfB n = false from decide_eq_false (by omega))
    go_enter Try.func44, Try.ntmps44
    go_wp2
    go_ret
    exact ⟨by rw [hr.out]; rfl, rfl⟩
def mostOf (fm : Int) : Int := if fm = 5 then 255 else 15
set_option maxRecDepth 1000000 in
set_option maxHeartbeats 4000000 in
theorem within_0 (op fm r1 r2 x2 b1 d1 b2 d2 l1 l2 i2 m : Int) (w : World) (hm : (fm = 5 ∧ m = 255) ∨ (fm ≠ 5 ∧ m = 15)) (h0 : halfB r1 = false) : Calls Try.prog 35 #[.agg #[.int .i64 op, .int .i64 fm, .int .i64 r1, .int .i64 r2, .int .i64 x2, .int .i64 b1, .int .i64 d1, .int .i64 b2, .int .i64 d2, .int .i64 l1, .int .i64 l2, .int .i64 i2]] w fun e w' => e = .returned (.bool false) ∧ Below w.heap.size w w' := by
  rcases hm with ⟨h5, rfl⟩ | ⟨h5, rfl⟩
  · have e5 : (fm == 5) = true := by simpa using h5
    clear h5
    go_enter Try.func35, Try.ntmps35
    have HB := Lib.hid ((Below.refl w.heap.size w).alloc (Nat.le_refl _) (.cells #[.int .i64 op, .int .i64 fm, .int .i64 r1, .int .i64 r2, .int .i64 x2, .int .i64 b1, .int .i64 d1, .int .i64 b2, .int .i64 d2, .int .i64 l1, .int .i64 l2, .int .i64 i2] 28))
    go_wp2_with (go_at_call 44; refine (half_c _ _).mono ?_; rintro e wx ⟨rfl, hwx⟩; subst hwx)
    go_ret
    exact ⟨by first | rfl | (show Ending.returned (.bool (decide (i2 ≤ 255))) = _; rw [decide_eq_false (by omega)]), HB.out⟩
  · have e5 : (fm == 5) = false := by simpa using h5
    clear h5
    go_enter Try.func35, Try.ntmps35
    have HB := Lib.hid ((Below.refl w.heap.size w).alloc (Nat.le_refl _) (.cells #[.int .i64 op, .int .i64 fm, .int .i64 r1, .int .i64 r2, .int .i64 x2, .int .i64 b1, .int .i64 d1, .int .i64 b2, .int .i64 d2, .int .i64 l1, .int .i64 l2, .int .i64 i2] 28))
    go_wp2_with (go_at_call 44; refine (half_c _ _).mono ?_; rintro e wx ⟨rfl, hwx⟩; subst hwx)
    go_ret
    exact ⟨by first | rfl | (show Ending.returned (.bool (decide (i2 ≤ 255))) = _; rw [decide_eq_false (by omega)]), HB.out⟩
set_option maxRecDepth 1000000 in
set_option maxHeartbeats 4000000 in
theorem within_1 (op fm r1 r2 x2 b1 d1 b2 d2 l1 l2 i2 m : Int) (w : World) (hm : (fm = 5 ∧ m = 255) ∨ (fm ≠ 5 ∧ m = 15)) (h0 : halfB r1 = true) (h1 : halfB r2 = false) : Calls Try.prog 35 #[.agg #[.int .i64 op, .int .i64 fm, .int .i64 r1, .int .i64 r2, .int .i64 x2, .int .i64 b1, .int .i64 d1, .int .i64 b2, .int .i64 d2, .int .i64 l1, .int .i64 l2, .int .i64 i2]] w fun e w' => e = .returned (.bool false) ∧ Below w.heap.size w w' := by
  rcases hm with ⟨h5, rfl⟩ | ⟨h5, rfl⟩
  · have e5 : (fm == 5) = true := by simpa using h5
    clear h5
    go_enter Try.func35, Try.ntmps35
    have HB := Lib.hid ((Below.refl w.heap.size w).alloc (Nat.le_refl _) (.cells #[.int .i64 op, .int .i64 fm, .int .i64 r1, .int .i64 r2, .int .i64 x2, .int .i64 b1, .int .i64 d1, .int .i64 b2, .int .i64 d2, .int .i64 l1, .int .i64 l2, .int .i64 i2] 28))
    go_wp2_with (go_at_call 44; refine (half_c _ _).mono ?_; rintro e wx ⟨rfl, hwx⟩; subst hwx)
    go_ret
    exact ⟨by first | rfl | (show Ending.returned (.bool (decide (i2 ≤ 255))) = _; rw [decide_eq_false (by omega)]), HB.out⟩
  · have e5 : (fm == 5) = false := by simpa using h5
    clear h5
    go_enter Try.func35, Try.ntmps35
    have HB := Lib.hid ((Below.refl w.heap.size w).alloc (Nat.le_refl _) (.cells #[.int .i64 op, .int .i64 fm, .int .i64 r1, .int .i64 r2, .int .i64 x2, .int .i64 b1, .int .i64 d1, .int .i64 b2, .int .i64 d2, .int .i64 l1, .int .i64 l2, .int .i64 i2] 28))
    go_wp2_with (go_at_call 44; refine (half_c _ _).mono ?_; rintro e wx ⟨rfl, hwx⟩; subst hwx)
    go_ret
    exact ⟨by first | rfl | (show Ending.returned (.bool (decide (i2 ≤ 255))) = _; rw [decide_eq_false (by omega)]), HB.out⟩
set_option maxRecDepth 1000000 in
set_option maxHeartbeats 4000000 in
theorem within_2 (op fm r1 r2 x2 b1 d1 b2 d2 l1 l2 i2 m : Int) (w : World) (hm : (fm = 5 ∧ m = 255) ∨ (fm ≠ 5 ∧ m = 15)) (h0 : halfB r1 = true) (h1 : halfB r2 = true) (h2 : halfB x2 = false) : Calls Try.prog 35 #[.agg #[.int .i64 op, .int .i64 fm, .int .i64 r1, .int .i64 r2, .int .i64 x2, .int .i64 b1, .int .i64 d1, .int .i64 b2, .int .i64 d2, .int .i64 l1, .int .i64 l2, .int .i64 i2]] w fun e w' => e = .returned (.bool false) ∧ Below w.heap.size w w' := by
  rcases hm with ⟨h5, rfl⟩ | ⟨h5, rfl⟩
  · have e5 : (fm == 5) = true := by simpa using h5
    clear h5
    go_enter Try.func35, Try.ntmps35
    have HB := Lib.hid ((Below.refl w.heap.size w).alloc (Nat.le_refl _) (.cells #[.int .i64 op, .int .i64 fm, .int .i64 r1, .int .i64 r2, .int .i64 x2, .int .i64 b1, .int .i64 d1, .int .i64 b2, .int .i64 d2, .int .i64 l1, .int .i64 l2, .int .i64 i2] 28))
    go_wp2_with (go_at_call 44; refine (half_c _ _).mono ?_; rintro e wx ⟨rfl, hwx⟩; subst hwx)
    go_ret
    exact ⟨by first | rfl | (show Ending.returned (.bool (decide (i2 ≤ 255))) = _; rw [decide_eq_false (by omega)]), HB.out⟩
  · have e5 : (fm == 5) = false := by simpa using h5
    clear h5
    go_enter Try.func35, Try.ntmps35
    have HB := Lib.hid ((Below.refl w.heap.size w).alloc (Nat.le_refl _) (.cells #[.int .i64 op, .int .i64 fm, .int .i64 r1, .int .i64 r2, .int .i64 x2, .int .i64 b1, .int .i64 d1, .int .i64 b2, .int .i64 d2, .int .i64 l1, .int .i64 l2, .int .i64 i2] 28))
    go_wp2_with (go_at_call 44; refine (half_c _ _).mono ?_; rintro e wx ⟨rfl, hwx⟩; subst hwx)
    go_ret
    exact ⟨by first | rfl | (show Ending.returned (.bool (decide (i2 ≤ 255))) = _; rw [decide_eq_false (by omega)]), HB.out⟩
set_option maxRecDepth 1000000 in
set_option maxHeartbeats 4000000 in
theorem within_3 (op fm r1 r2 x2 b1 d1 b2 d2 l1 l2 i2 m : Int) (w : World) (hm : (fm = 5 ∧ m = 255) ∨ (fm ≠ 5 ∧ m = 15)) (h0 : halfB r1 = true) (h1 : halfB r2 = true) (h2 : halfB x2 = true) (h3 : halfB b1 = false) : Calls Try.prog 35 #[.agg #[.int .i64 op, .int .i64 fm, .int .i64 r1, .int .i64 r2, .int .i64 x2, .int .i64 b1, .int .i64 d1, .int .i64 b2, .int .i64 d2, .int .i64 l1, .int .i64 l2, .int .i64 i2]] w fun e w' => e = .returned (.bool false) ∧ Below w.heap.size w w' := by
  rcases hm with ⟨h5, rfl⟩ | ⟨h5, rfl⟩
  · have e5 : (fm == 5) = true := by simpa using h5
    clear h5
    go_enter Try.func35, Try.ntmps35
    have HB := Lib.hid ((Below.refl w.heap.size w).alloc (Nat.le_refl _) (.cells #[.int .i64 op, .int .i64 fm, .int .i64 r1, .int .i64 r2, .int .i64 x2, .int .i64 b1, .int .i64 d1, .int .i64 b2, .int .i64 d2, .int .i64 l1, .int .i64 l2, .int .i64 i2] 28))
    go_wp2_with (go_at_call 44; refine (half_c _ _).mono ?_; rintro e wx ⟨rfl, hwx⟩; subst hwx)
    go_ret
    exact ⟨by first | rfl | (show Ending.returned (.bool (decide (i2 ≤ 255))) = _; rw [decide_eq_false (by omega)]), HB.out⟩
  · have e5 : (fm == 5) = false := by simpa using h5
    clear h5
    go_enter Try.func35, Try.ntmps35
    have HB := Lib.hid ((Below.refl w.heap.size w).alloc (Nat.le_refl _) (.cells #[.int .i64 op, .int .i64 fm, .int .i64 r1, .int .i64 r2, .int .i64 x2, .int .i64 b1, .int .i64 d1, .int .i64 b2, .int .i64 d2, .int .i64 l1, .int .i64 l2, .int .i64 i2] 28))
    go_wp2_with (go_at_call 44; refine (half_c _ _).mono ?_; rintro e wx ⟨rfl, hwx⟩; subst hwx)
    go_ret
    exact ⟨by first | rfl | (show Ending.returned (.bool (decide (i2 ≤ 255))) = _; rw [decide_eq_false (by omega)]), HB.out⟩
set_option maxRecDepth 1000000 in
set_option maxHeartbeats 4000000 in
theorem within_4 (op fm r1 r2 x2 b1 d1 b2 d2 l1 l2 i2 m : Int) (w : World) (hm : (fm = 5 ∧ m = 255) ∨ (fm ≠ 5 ∧ m = 15)) (h0 : halfB r1 = true) (h1 : halfB r2 = true) (h2 : halfB x2 = true) (h3 : halfB b1 = true) (h4 : halfB b2 = false) : Calls Try.prog 35 #[.agg #[.int .i64 op, .int .i64 fm, .int .i64 r1, .int .i64 r2, .int .i64 x2, .int .i64 b1, .int .i64 d1, .int .i64 b2, .int .i64 d2, .int .i64 l1, .int .i64 l2, .int .i64 i2]] w fun e w' => e = .returned (.bool false) ∧ Below w.heap.size w w' := by
  rcases hm with ⟨h5, rfl⟩ | ⟨h5, rfl⟩
  · have e5 : (fm == 5) = true := by simpa using h5
    clear h5
    go_enter Try.func35, Try.ntmps35
    have HB := Lib.hid ((Below.refl w.heap.size w).alloc (Nat.le_refl _) (.cells #[.int .i64 op, .int .i64 fm, .int .i64 r1, .int .i64 r2, .int .i64 x2, .int .i64 b1, .int .i64 d1, .int .i64 b2, .int .i64 d2, .int .i64 l1, .int .i64 l2, .int .i64 i2] 28))
    go_wp2_with (go_at_call 44; refine (half_c _ _).mono ?_; rintro e wx ⟨rfl, hwx⟩; subst hwx)
    go_ret
    exact ⟨by first | rfl | (show Ending.returned (.bool (decide (i2 ≤ 255))) = _; rw [decide_eq_false (by omega)]), HB.out⟩
  · have e5 : (fm == 5) = false := by simpa using h5
    clear h5
    go_enter Try.func35, Try.ntmps35
    have HB := Lib.hid ((Below.refl w.heap.size w).alloc (Nat.le_refl _) (.cells #[.int .i64 op, .int .i64 fm, .int .i64 r1, .int .i64 r2, .int .i64 x2, .int .i64 b1, .int .i64 d1, .int .i64 b2, .int .i64 d2, .int .i64 l1, .int .i64 l2, .int .i64 i2] 28))
    go_wp2_with (go_at_call 44; refine (half_c _ _).mono ?_; rintro e wx ⟨rfl, hwx⟩; subst hwx)
    go_ret
    exact ⟨by first | rfl | (show Ending.returned (.bool (decide (i2 ≤ 255))) = _; rw [decide_eq_false (by omega)]), HB.out⟩
set_option maxRecDepth 1000000 in
set_option maxHeartbeats 4000000 in
theorem within_5 (op fm r1 r2 x2 b1 d1 b2 d2 l1 l2 i2 m : Int) (w : World) (hm : (fm = 5 ∧ m = 255) ∨ (fm ≠ 5 ∧ m = 15)) (h0 : halfB r1 = true) (h1 : halfB r2 = true) (h2 : halfB x2 = true) (h3 : halfB b1 = true) (h4 : halfB b2 = true) (h5 : halfB l2 = false) : Calls Try.prog 35 #[.agg #[.int .i64 op, .int .i64 fm, .int .i64 r1, .int .i64 r2, .int .i64 x2, .int .i64 b1, .int .i64 d1, .int .i64 b2, .int .i64 d2, .int .i64 l1, .int .i64 l2, .int .i64 i2]] w fun e w' => e = .returned (.bool false) ∧ Below w.heap.size w w' := by
  rcases hm with ⟨h5, rfl⟩ | ⟨h5, rfl⟩
  · have e5 : (fm == 5) = true := by simpa using h5
    clear h5
    go_enter Try.func35, Try.ntmps35
    have HB := Lib.hid ((Below.refl w.heap.size w).alloc (Nat.le_refl _) (.cells #[.int .i64 op, .int .i64 fm, .int .i64 r1, .int .i64 r2, .int .i64 x2, .int .i64 b1, .int .i64 d1, .int .i64 b2, .int .i64 d2, .int .i64 l1, .int .i64 l2, .int .i64 i2] 28))
    go_wp2_with (go_at_call 44; refine (half_c _ _).mono ?_; rintro e wx ⟨rfl, hwx⟩; subst hwx)
    go_ret
    exact ⟨by first | rfl | (show Ending.returned (.bool (decide (i2 ≤ 255))) = _; rw [decide_eq_false (by omega)]), HB.out⟩
  · have e5 : (fm == 5) = false := by simpa using h5
    clear h5
    go_enter Try.func35, Try.ntmps35
    have HB := Lib.hid ((Below.refl w.heap.size w).alloc (Nat.le_refl _) (.cells #[.int .i64 op, .int .i64 fm, .int .i64 r1, .int .i64 r2, .int .i64 x2, .int .i64 b1, .int .i64 d1, .int .i64 b2, .int .i64 d2, .int .i64 l1, .int .i64 l2, .int .i64 i2] 28))
    go_wp2_with (go_at_call 44; refine (half_c _ _).mono ?_; rintro e wx ⟨rfl, hwx⟩; subst hwx)
    go_ret
    exact ⟨by first | rfl | (show Ending.returned (.bool (decide (i2 ≤ 255))) = _; rw [decide_eq_false (by omega)]), HB.out⟩
set_option maxRecDepth 1000000 in
set_option maxHeartbeats 4000000 in
theorem within_6 (op fm r1 r2 x2 b1 d1 b2 d2 l1 l2 i2 m : Int) (w : World) (hm : (fm = 5 ∧ m = 255) ∨ (fm ≠ 5 ∧ m = 15)) (h0 : halfB r1 = true) (h1 : halfB r2 = true) (h2 : halfB x2 = true) (h3 : halfB b1 = true) (h4 : halfB b2 = true) (h5 : halfB l2 = true) (h6 : ¬ (0 ≤ l1)) : Calls Try.prog 35 #[.agg #[.int .i64 op, .int .i64 fm, .int .i64 r1, .int .i64 r2, .int .i64 x2, .int .i64 b1, .int .i64 d1, .int .i64 b2, .int .i64 d2, .int .i64 l1, .int .i64 l2, .int .i64 i2]] w fun e w' => e = .returned (.bool false) ∧ Below w.heap.size w w' := by
  rcases hm with ⟨h5, rfl⟩ | ⟨h5, rfl⟩
  · have e5 : (fm == 5) = true := by simpa using h5
    clear h5
    go_enter Try.func35, Try.ntmps35
    have HB := Lib.hid ((Below.refl w.heap.size w).alloc (Nat.le_refl _) (.cells #[.int .i64 op, .int .i64 fm, .int .i64 r1, .int .i64 r2, .int .i64 x2, .int .i64 b1, .int .i64 d1, .int .i64 b2, .int .i64 d2, .int .i64 l1, .int .i64 l2, .int .i64 i2] 28))
    go_wp2_with (go_at_call 44; refine (half_c _ _).mono ?_; rintro e wx ⟨rfl, hwx⟩; subst hwx)
    go_ret
    exact ⟨by first | rfl | (show Ending.returned (.bool (decide (i2 ≤ 255))) = _; rw [decide_eq_false (by omega)]), HB.out⟩
  · have e5 : (fm == 5) = false := by simpa using h5
    clear h5
    go_enter Try.func35, Try.ntmps35
    have HB := Lib.hid ((Below.refl w.heap.size w).alloc (Nat.le_refl _) (.cells #[.int .i64 op, .int .i64 fm, .int .i64 r1, .int .i64 r2, .int .i64 x2, .int .i64 b1, .int .i64 d1, .int .i64 b2, .int .i64 d2, .int .i64 l1, .int .i64 l2, .int .i64 i2] 28))
    go_wp2_with (go_at_call 44; refine (half_c _ _).mono ?_; rintro e wx ⟨rfl, hwx⟩; subst hwx)
    go_ret
    exact ⟨by first | rfl | (show Ending.returned (.bool (decide (i2 ≤ 255))) = _; rw [decide_eq_false (by omega)]), HB.out⟩
set_option maxRecDepth 1000000 in
set_option maxHeartbeats 4000000 in
theorem within_7 (op fm r1 r2 x2 b1 d1 b2 d2 l1 l2 i2 m : Int) (w : World) (hm : (fm = 5 ∧ m = 255) ∨ (fm ≠ 5 ∧ m = 15)) (h0 : halfB r1 = true) (h1 : halfB r2 = true) (h2 : halfB x2 = true) (h3 : halfB b1 = true) (h4 : halfB b2 = true) (h5 : halfB l2 = true) (h6 : (0 ≤ l1)) (h7 : ¬ (l1 ≤ m)) : Calls Try.prog 35 #[.agg #[.int .i64 op, .int .i64 fm, .int .i64 r1, .int .i64 r2, .int .i64 x2, .int .i64 b1, .int .i64 d1, .int .i64 b2, .int .i64 d2, .int .i64 l1, .int .i64 l2, .int .i64 i2]] w fun e w' => e = .returned (.bool false) ∧ Below w.heap.size w w' := by
  rcases hm with ⟨h5, rfl⟩ | ⟨h5, rfl⟩
  · have e5 : (fm == 5) = true := by simpa using h5
    clear h5
    go_enter Try.func35, Try.ntmps35
    have HB := Lib.hid ((Below.refl w.heap.size w).alloc (Nat.le_refl _) (.cells #[.int .i64 op, .int .i64 fm, .int .i64 r1, .int .i64 r2, .int .i64 x2, .int .i64 b1, .int .i64 d1, .int .i64 b2, .int .i64 d2, .int .i64 l1, .int .i64 l2, .int .i64 i2] 28))
    go_wp2_with (go_at_call 44; refine (half_c _ _).mono ?_; rintro e wx ⟨rfl, hwx⟩; subst hwx)
    go_ret
    exact ⟨by first | rfl | (show Ending.returned (.bool (decide (i2 ≤ 255))) = _; rw [decide_eq_false (by omega)]), HB.out⟩
  · have e5 : (fm == 5) = false := by simpa using h5
    clear h5
    go_enter Try.func35, Try.ntmps35
    have HB := Lib.hid ((Below.refl w.heap.size w).alloc (Nat.le_refl _) (.cells #[.int .i64 op, .int .i64 fm, .int .i64 r1, .int .i64 r2, .int .i64 x2, .int .i64 b1, .int .i64 d1, .int .i64 b2, .int .i64 d2, .int .i64 l1, .int .i64 l2, .int .i64 i2] 28))
    go_wp2_with (go_at_call 44; refine (half_c _ _).mono ?_; rintro e wx ⟨rfl, hwx⟩; subst hwx)
    go_ret
    exact ⟨by first | rfl | (show Ending.returned (.bool (decide (i2 ≤ 255))) = _; rw [decide_eq_false (by omega)]), HB.out⟩
set_option maxRecDepth 1000000 in
set_option maxHeartbeats 4000000 in
theorem within_8 (op fm r1 r2 x2 b1 d1 b2 d2 l1 l2 i2 m : Int) (w : World) (hm : (fm = 5 ∧ m = 255) ∨ (fm ≠ 5 ∧ m = 15)) (h0 : halfB r1 = true) (h1 : halfB r2 = true) (h2 : halfB x2 = true) (h3 : halfB b1 = true) (h4 : halfB b2 = true) (h5 : halfB l2 = true) (h6 : (0 ≤ l1)) (h7 : (l1 ≤ m)) (h8 : ¬ (0 ≤ d1)) : Calls Try.prog 35 #[.agg #[.int .i64 op, .int .i64 fm, .int .i64 r1, .int .i64 r2, .int .i64 x2, .int .i64 b1, .int .i64 d1, .int .i64 b2, .int .i64 d2, .int .i64 l1, .int .i64 l2, .int .i64 i2]] w fun e w' => e = .returned (.bool false) ∧ Below w.heap.size w w' := by
  rcases hm with ⟨h5, rfl⟩ | ⟨h5, rfl⟩
  · have e5 : (fm == 5) = true := by simpa using h5
    clear h5
    go_enter Try.func35, Try.ntmps35
    have HB := Lib.hid ((Below.refl w.heap.size w).alloc (Nat.le_refl _) (.cells #[.int .i64 op, .int .i64 fm, .int .i64 r1, .int .i64 r2, .int .i64 x2, .int .i64 b1, .int .i64 d1, .int .i64 b2, .int .i64 d2, .int .i64 l1, .int .i64 l2, .int .i64 i2] 28))
    go_wp2_with (go_at_call 44; refine (half_c _ _).mono ?_; rintro e wx ⟨rfl, hwx⟩; subst hwx)
    go_ret
    exact ⟨by first | rfl | (show Ending.returned (.bool (decide (i2 ≤ 255))) = _; rw [decide_eq_false (by omega)]), HB.out⟩
  · have e5 : (fm == 5) = false := by simpa using h5
    clear h5
    go_enter Try.func35, Try.ntmps35
    have HB := Lib.hid ((Below.refl w.heap.size w).alloc (Nat.le_refl _) (.cells #[.int .i64 op, .int .i64 fm, .int .i64 r1, .int .i64 r2, .int .i64 x2, .int .i64 b1, .int .i64 d1, .int .i64 b2, .int .i64 d2, .int .i64 l1, .int .i64 l2, .int .i64 i2] 28))
    go_wp2_with (go_at_call 44; refine (half_c _ _).mono ?_; rintro e wx ⟨rfl, hwx⟩; subst hwx)
    go_ret
    exact ⟨by first | rfl | (show Ending.returned (.bool (decide (i2 ≤ 255))) = _; rw [decide_eq_false (by omega)]), HB.out⟩
end Go.Proofs.Ytfbcjpbfggbhfaa
