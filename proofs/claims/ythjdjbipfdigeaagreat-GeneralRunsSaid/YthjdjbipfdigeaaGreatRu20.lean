/- Contracts and laws on the way to the statement, text 20 of 24. Conditions: as each states them. -/
import Derived.Test.YthjdjbipfdigeaaGreatRu1
import Derived.Test.YthjdjbipfdigeaaGreatRu2
import Derived.Test.YthjdjbipfdigeaaGreatRu5
import Derived.Test.YthjdjbipfdigeaaGreatRu19
import Derived.Deep.Cut
import Derived.Deep.RegionHeld3
namespace Go.Proofs.YthjdjbipfdigeaaGreat
open Go.RowKit
set_option linter.unusedVariables false
set_option linter.unusedSimpArgs false
def halfB (n : Int) : Bool := decide (0 ≤ n ∧ n ≤ 15)
theorem half_c (n : Int) (w : World) : Calls Tryz.prog 134 #[.int .i64 n] w fun e w' => e = .returned (.bool (halfB n)) ∧ w = w' := by
  by_cases h0 : 0 ≤ n
  · by_cases h1 : n ≤ 15
    · have hr := Lib.hid (show halfB n = true from decide_eq_true ⟨h0, h1⟩)
      go_enter Tryz.func134, Tryz.ntmps134
      go_wp2
      go_ret
      exact ⟨by rw [hr.out]; rfl, rfl⟩
    · have hr := Lib.hid (show halfB n = false from decide_eq_false (by omega))
      go_enter Tryz.func134, Tryz.ntmps134
      go_wp2
      go_ret
      exact ⟨by rw [hr.out]; rfl, rfl⟩
  · have hr := Lib.hid (show halfB n = false from decide_eq_false (by omega))
    go_enter Tryz.func134, Tryz.ntmps134
    go_wp2
    go_ret
    exact ⟨by rw [hr.out]; rfl, rfl⟩
def mostOf (fm : Int) : Int := if fm = 5 then 255 else 15
set_option maxRecDepth 1000000 in
set_option maxHeartbeats 4000000 in
theorem within_0 (op fm r1 r2 x2 b1 d1 b2 d2 l1 l2 i2 m : Int) (w : World) (hm : (fm = 5 ∧ m = 255) ∨ (fm ≠ 5 ∧ m = 15)) (h0 : halfB r1 = false) : Calls Tryz.prog 51 #[.agg #[.int .i64 op, .int .i64 fm, .int .i64 r1, .int .i64 r2, .int .i64 x2, .int .i64 b1, .int .i64 d1, .int .i64 b2, .int .i64 d2, .int .i64 l1, .int .i64 l2, .int .i64 i2]] w fun e w' => e = .returned (.bool false) ∧ Below w.heap.size w w' := by
  rcases hm with ⟨h5, rfl⟩ | ⟨h5, rfl⟩
  · have e5 : (fm == 5) = true := by simpa using h5
    clear h5
    go_enter Tryz.func51, Tryz.ntmps51
    have HB := Lib.hid ((Below.refl w.heap.size w).alloc (Nat.le_refl _) (.cells #[.int .i64 op, .int .i64 fm, .int .i64 r1, .int .i64 r2, .int .i64 x2, .int .i64 b1, .int .i64 d1, .int .i64 b2, .int .i64 d2, .int .i64 l1, .int .i64 l2, .int .i64 i2] 23))
    go_wp2_with (go_at_call 134; refine (half_c _ _).mono ?_; rintro e wx ⟨rfl, hwx⟩; subst hwx)
    go_ret
    exact ⟨by first | rfl | (show Ending.returned (.bool (decide (i2 ≤ 255))) = _; rw [decide_eq_false (by omega)]), HB.out⟩
  · have e5 : (fm == 5) = false := by simpa using h5
    clear h5
    go_enter Tryz.func51, Tryz.ntmps51
    have HB := Lib.hid ((Below.refl w.heap.size w).alloc (Nat.le_refl _) (.cells #[.int .i64 op, .int .i64 fm, .int .i64 r1, .int .i64 r2, .int .i64 x2, .int .i64 b1, .int .i64 d1, .int .i64 b2, .int .i64 d2, .int .i64 l1, .int .i64 l2, .int .i64 i2] 23))
    go_wp2_with (go_at_call 134; refine (half_c _ _).mono ?_; rintro e wx ⟨rfl, hwx⟩; subst hwx)
    go_ret
    exact ⟨by first | rfl | (show Ending.returned (.bool (decide (i2 ≤ 255))) = _; rw [decide_eq_false (by omega)]), HB.out⟩
set_option maxRecDepth 1000000 in
set_option maxHeartbeats 4000000 in
theorem within_1 (op fm r1 r2 x2 b1 d1 b2 d2 l1 l2 i2 m : Int) (w : World) (hm : (fm = 5 ∧ m = 255) ∨ (fm ≠ 5 ∧ m = 15)) (h0 : halfB r1 = true) (h1 : halfB r2 = false) : Calls Tryz.prog 51 #[.agg #[.int .i64 op, .int .i64 fm, .int .i64 r1, .int .i64 r2, .int .i64 x2, .int .i64 b1, .int .i64 d1, .int .i64 b2, .int .i64 d2, .int .i64 l1, .int .i64 l2, .int .i64 i2]] w fun e w' => e = .returned (.bool false) ∧ Below w.heap.size w w' := by
  rcases hm with ⟨h5, rfl⟩ | ⟨h5, rfl⟩
  · have e5 : (fm == 5) = true := by simpa using h5
    clear h5
    go_enter Tryz.func51, Tryz.ntmps51
    have HB := Lib.hid ((Below.refl w.heap.size w).alloc (Nat.le_refl _) (.cells #[.int .i64 op, .int .i64 fm, .int .i64 r1, .int .i64 r2, .int .i64 x2, .int .i64 b1, .int .i64 d1, .int .i64 b2, .int .i64 d2, .int .i64 l1, .int .i64 l2, .int .i64 i2] 23))
    go_wp2_with (go_at_call 134; refine (half_c _ _).mono ?_; rintro e wx ⟨rfl, hwx⟩; subst hwx)
    go_ret
    exact ⟨by first | rfl | (show Ending.returned (.bool (decide (i2 ≤ 255))) = _; rw [decide_eq_false (by omega)]), HB.out⟩
  · have e5 : (fm == 5) = false := by simpa using h5
    clear h5
    go_enter Tryz.func51, Tryz.ntmps51
    have HB := Lib.hid ((Below.refl w.heap.size w).alloc (Nat.le_refl _) (.cells #[.int .i64 op, .int .i64 fm, .int .i64 r1, .int .i64 r2, .int .i64 x2, .int .i64 b1, .int .i64 d1, .int .i64 b2, .int .i64 d2, .int .i64 l1, .int .i64 l2, .int .i64 i2] 23))
    go_wp2_with (go_at_call 134; refine (half_c _ _).mono ?_; rintro e wx ⟨rfl, hwx⟩; subst hwx)
    go_ret
    exact ⟨by first | rfl | (show Ending.returned (.bool (decide (i2 ≤ 255))) = _; rw [decide_eq_false (by omega)]), HB.out⟩
set_option maxRecDepth 1000000 in
set_option maxHeartbeats 4000000 in
theorem within_2 (op fm r1 r2 x2 b1 d1 b2 d2 l1 l2 i2 m : Int) (w : World) (hm : (fm = 5 ∧ m = 255) ∨ (fm ≠ 5 ∧ m = 15)) (h0 : halfB r1 = true) (h1 : halfB r2 = true) (h2 : halfB x2 = false) : Calls Tryz.prog 51 #[.agg #[.int .i64 op, .int .i64 fm, .int .i64 r1, .int .i64 r2, .int .i64 x2, .int .i64 b1, .int .i64 d1, .int .i64 b2, .int .i64 d2, .int .i64 l1, .int .i64 l2, .int .i64 i2]] w fun e w' => e = .returned (.bool false) ∧ Below w.heap.size w w' := by
  rcases hm with ⟨h5, rfl⟩ | ⟨h5, rfl⟩
  · have e5 : (fm == 5) = true := by simpa using h5
    clear h5
    go_enter Tryz.func51, Tryz.ntmps51
    have HB := Lib.hid ((Below.refl w.heap.size w).alloc (Nat.le_refl _) (.cells #[.int .i64 op, .int .i64 fm, .int .i64 r1, .int .i64 r2, .int .i64 x2, .int .i64 b1, .int .i64 d1, .int .i64 b2, .int .i64 d2, .int .i64 l1, .int .i64 l2, .int .i64 i2] 23))
    go_wp2_with (go_at_call 134; refine (half_c _ _).mono ?_; rintro e wx ⟨rfl, hwx⟩; subst hwx)
    go_ret
    exact ⟨by first | rfl | (show Ending.returned (.bool (decide (i2 ≤ 255))) = _; rw [decide_eq_false (by omega)]), HB.out⟩
  · have e5 : (fm == 5) = false := by simpa using h5
    clear h5
    go_enter Tryz.func51, Tryz.ntmps51
    have HB := Lib.hid ((Below.refl w.heap.size w).alloc (Nat.le_refl _) (.cells #[.int .i64 op, .int .i64 fm, .int .i64 r1, .int .i64 r2, .int .i64 x2, .int .i64 b1, .int .i64 d1, .int .i64 b2, .int .i64 d2, .int .i64 l1, .int .i64 l2, .int .i64 i2] 23))
    go_wp2_with (go_at_call 134; refine (half_c _ _).mono ?_; rintro e wx ⟨rfl, hwx⟩; subst hwx)
    go_ret
    exact ⟨by first | rfl | (show Ending.returned (.bool (decide (i2 ≤ 255))) = _; rw [decide_eq_false (by omega)]), HB.out⟩
set_option maxRecDepth 1000000 in
set_option maxHeartbeats 4000000 in
theorem within_3 (op fm r1 r2 x2 b1 d1 b2 d2 l1 l2 i2 m : Int) (w : World) (hm : (fm = 5 ∧ m = 255) ∨ (fm ≠ 5 ∧ m = 15)) (h0 : halfB r1 = true) (h1 : halfB r2 = true) (h2 : halfB x2 = true) (h3 : halfB b1 = false) : Calls Tryz.prog 51 #[.agg #[.int .i64 op, .int .i64 fm, .int .i64 r1, .int .i64 r2, .int .i64 x2, .int .i64 b1, .int .i64 d1, .int .i64 b2, .int .i64 d2, .int .i64 l1, .int .i64 l2, .int .i64 i2]] w fun e w' => e = .returned (.bool false) ∧ Below w.heap.size w w' := by
  rcases hm with ⟨h5, rfl⟩ | ⟨h5, rfl⟩
  · have e5 : (fm == 5) = true := by simpa using h5
    clear h5
    go_enter Tryz.func51, Tryz.ntmps51
    have HB := Lib.hid ((Below.refl w.heap.size w).alloc (Nat.le_refl _) (.cells #[.int .i64 op, .int .i64 fm, .int .i64 r1, .int .i64 r2, .int .i64 x2, .int .i64 b1, .int .i64 d1, .int .i64 b2, .int .i64 d2, .int .i64 l1, .int .i64 l2, .int .i64 i2] 23))
    go_wp2_with (go_at_call 134; refine (half_c _ _).mono ?_; rintro e wx ⟨rfl, hwx⟩; subst hwx)
    go_ret
    exact ⟨by first | rfl | (show Ending.returned (.bool (decide (i2 ≤ 255))) = _; rw [decide_eq_false (by omega)]), HB.out⟩
  · have e5 : (fm == 5) = false := by simpa using h5
    clear h5
    go_enter Tryz.func51, Tryz.ntmps51
    have HB := Lib.hid ((Below.refl w.heap.size w).alloc (Nat.le_refl _) (.cells #[.int .i64 op, .int .i64 fm, .int .i64 r1, .int .i64 r2, .int .i64 x2, .int .i64 b1, .int .i64 d1, .int .i64 b2, .int .i64 d2, .int .i64 l1, .int .i64 l2, .int .i64 i2] 23))
    go_wp2_with (go_at_call 134; refine (half_c _ _).mono ?_; rintro e wx ⟨rfl, hwx⟩; subst hwx)
    go_ret
    exact ⟨by first | rfl | (show Ending.returned (.bool (decide (i2 ≤ 255))) = _; rw [decide_eq_false (by omega)]), HB.out⟩
set_option maxRecDepth 1000000 in
set_option maxHeartbeats 4000000 in
theorem within_4 (op fm r1 r2 x2 b1 d1 b2 d2 l1 l2 i2 m : Int) (w : World) (hm : (fm = 5 ∧ m = 255) ∨ (fm ≠ 5 ∧ m = 15)) (h0 : halfB r1 = true) (h1 : halfB r2 = true) (h2 : halfB x2 = true) (h3 : halfB b1 = true) (h4 : halfB b2 = false) : Calls Tryz.prog 51 #[.agg #[.int .i64 op, .int .i64 fm, .int .i64 r1, .int .i64 r2, .int .i64 x2, .int .i64 b1, .int .i64 d1, .int .i64 b2, .int .i64 d2, .int .i64 l1, .int .i64 l2, .int .i64 i2]] w fun e w' => e = .returned (.bool false) ∧ Below w.heap.size w w' := by
  rcases hm with ⟨h5, rfl⟩ | ⟨h5, rfl⟩
  · have e5 : (fm == 5) = true := by simpa using h5
    clear h5
    go_enter Tryz.func51, Tryz.ntmps51
    have HB := Lib.hid ((Below.refl w.heap.size w).alloc (Nat.le_refl _) (.cells #[.int .i64 op, .int .i64 fm, .int .i64 r1, .int .i64 r2, .int .i64 x2, .int .i64 b1, .int .i64 d1, .int .i64 b2, .int .i64 d2, .int .i64 l1, .int .i64 l2, .int .i64 i2] 23))
    go_wp2_with (go_at_call 134; refine (half_c _ _).mono ?_; rintro e wx ⟨rfl, hwx⟩; subst hwx)
    go_ret
    exact ⟨by first | rfl | (show Ending.returned (.bool (decide (i2 ≤ 255))) = _; rw [decide_eq_false (by omega)]), HB.out⟩
  · have e5 : (fm == 5) = false := by simpa using h5
    clear h5
    go_enter Tryz.func51, Tryz.ntmps51
    have HB := Lib.hid ((Below.refl w.heap.size w).alloc (Nat.le_refl _) (.cells #[.int .i64 op, .int .i64 fm, .int .i64 r1, .int .i64 r2, .int .i64 x2, .int .i64 b1, .int .i64 d1, .int .i64 b2, .int .i64 d2, .int .i64 l1, .int .i64 l2, .int .i64 i2] 23))
    go_wp2_with (go_at_call 134; refine (half_c _ _).mono ?_; rintro e wx ⟨rfl, hwx⟩; subst hwx)
    go_ret
    exact ⟨by first | rfl | (show Ending.returned (.bool (decide (i2 ≤ 255))) = _; rw [decide_eq_false (by omega)]), HB.out⟩
set_option maxRecDepth 1000000 in
set_option maxHeartbeats 4000000 in
theorem within_5 (op fm r1 r2 x2 b1 d1 b2 d2 l1 l2 i2 m : Int) (w : World) (hm : (fm = 5 ∧ m = 255) ∨ (fm ≠ 5 ∧ m = 15)) (h0 : halfB r1 = true) (h1 : halfB r2 = true) (h2 : halfB x2 = true) (h3 : halfB b1 = true) (h4 : halfB b2 = true) (h5 : halfB l2 = false) : Calls Tryz.prog 51 #[.agg #[.int .i64 op, .int .i64 fm, .int .i64 r1, .int .i64 r2, .int .i64 x2, .int .i64 b1, .int .i64 d1, .int .i64 b2, .int .i64 d2, .int .i64 l1, .int .i64 l2, .int .i64 i2]] w fun e w' => e = .returned (.bool false) ∧ Below w.heap.size w w' := by
  rcases hm with ⟨h5, rfl⟩ | ⟨h5, rfl⟩
  · have e5 : (fm == 5) = true := by simpa using h5
    clear h5
    go_enter Tryz.func51, Tryz.ntmps51
    have HB := Lib.hid ((Below.refl w.heap.size w).alloc (Nat.le_refl _) (.cells #[.int .i64 op, .int .i64 fm, .int .i64 r1, .int .i64 r2, .int .i64 x2, .int .i64 b1, .int .i64 d1, .int .i64 b2, .int .i64 d2, .int .i64 l1, .int .i64 l2, .int .i64 i2] 23))
    go_wp2_with (go_at_call 134; refine (half_c _ _).mono ?_; rintro e wx ⟨rfl, hwx⟩; subst hwx)
    go_ret
    exact ⟨by first | rfl | (show Ending.returned (.bool (decide (i2 ≤ 255))) = _; rw [decide_eq_false (by omega)]), HB.out⟩
  · have e5 : (fm == 5) = false := by simpa using h5
    clear h5
    go_enter Tryz.func51, Tryz.ntmps51
    have HB := Lib.hid ((Below.refl w.heap.size w).alloc (Nat.le_refl _) (.cells #[.int .i64 op, .int .i64 fm, .int .i64 r1, .int .i64 r2, .int .i64 x2, .int .i64 b1, .int .i64 d1, .int .i64 b2, .int .i64 d2, .int .i64 l1, .int .i64 l2, .int .i64 i2] 23))
    go_wp2_with (go_at_call 134; refine (half_c _ _).mono ?_; rintro e wx ⟨rfl, hwx⟩; subst hwx)
    go_ret
    exact ⟨by first | rfl | (show Ending.returned (.bool (decide (i2 ≤ 255))) = _; rw [decide_eq_false (by omega)]), HB.out⟩
set_option maxRecDepth 1000000 in
set_option maxHeartbeats 4000000 in
theorem within_6 (op fm r1 r2 x2 b1 d1 b2 d2 l1 l2 i2 m : Int) (w : World) (hm : (fm = 5 ∧ m = 255) ∨ (fm ≠ 5 ∧ m = 15)) (h0 : halfB r1 = true) (h1 : halfB r2 = true) (h2 : halfB x2 = true) (h3 : halfB b1 = true) (h4 : halfB b2 = true) (h5 : halfB l2 = true) (h6 : ¬ (0 ≤ l1)) : Calls Tryz.prog 51 #[.agg #[.int .i64 op, .int .i64 fm, .int .i64 r1, .int .i64 r2, .int .i64 x2, .int .i64 b1, .int .i64 d1, .int .i64 b2, .int .i64 d2, .int .i64 l1, .int .i64 l2, .int .i64 i2]] w fun e w' => e = .returned (.bool false) ∧ Below w.heap.size w w' := by
  rcases hm with ⟨h5, rfl⟩ | ⟨h5, rfl⟩
  · have e5 : (fm == 5) = true := by simpa using h5
    clear h5
    go_enter Tryz.func51, Tryz.ntmps51
    have HB := Lib.hid ((Below.refl w.heap.size w).alloc (Nat.le_refl _) (.cells #[.int .i64 op, .int .i64 fm, .int .i64 r1, .int .i64 r2, .int .i64 x2, .int .i64 b1, .int .i64 d1, .int .i64 b2, .int .i64 d2, .int .i64 l1, .int .i64 l2, .int .i64 i2] 23))
    go_wp2_with (go_at_call 134; refine (half_c _ _).mono ?_; rintro e wx ⟨rfl, hwx⟩; subst hwx)
    go_ret
    exact ⟨by first | rfl | (show Ending.returned (.bool (decide (i2 ≤ 255))) = _; rw [decide_eq_false (by omega)]), HB.out⟩
  · have e5 : (fm == 5) = false := by simpa using h5
    clear h5
    go_enter Tryz.func51, Tryz.ntmps51
    have HB := Lib.hid ((Below.refl w.heap.size w).alloc (Nat.le_refl _) (.cells #[.int .i64 op, .int .i64 fm, .int .i64 r1, .int .i64 r2, .int .i64 x2, .int .i64 b1, .int .i64 d1, .int .i64 b2, .int .i64 d2, .int .i64 l1, .int .i64 l2, .int .i64 i2] 23))
    go_wp2_with (go_at_call 134; refine (half_c _ _).mono ?_; rintro e wx ⟨rfl, hwx⟩; subst hwx)
    go_ret
    exact ⟨by first | rfl | (show Ending.returned (.bool (decide (i2 ≤ 255))) = _; rw [decide_eq_false (by omega)]), HB.out⟩
set_option maxRecDepth 1000000 in
set_option maxHeartbeats 4000000 in
theorem within_7 (op fm r1 r2 x2 b1 d1 b2 d2 l1 l2 i2 m : Int) (w : World) (hm : (fm = 5 ∧ m = 255) ∨ (fm ≠ 5 ∧ m = 15)) (h0 : halfB r1 = true) (h1 : halfB r2 = true) (h2 : halfB x2 = true) (h3 : halfB b1 = true) (h4 : halfB b2 = true) (h5 : halfB l2 = true) (h6 : (0 ≤ l1)) (h7 : ¬ (l1 ≤ m)) : Calls Tryz.prog 51 #[.agg #[.int .i64 op, .int .i64 fm, .int .i64 r1, .int .i64 r2, .int .i64 x2, .int .i64 b1, .int .i64 d1, .int .i64 b2, .int .i64 d2, .int .i64 l1, .int .i64 l2, .int .i64 i2]] w fun e w' => e = .returned (.bool false) ∧ Below w.heap.size w w' := by
  rcases hm with ⟨h5, rfl⟩ | ⟨h5, rfl⟩
  · have e5 : (fm == 5) = true := by simpa using h5
    clear h5
    go_enter Tryz.func51, Tryz.ntmps51
    have HB := Lib.hid ((Below.refl w.heap.size w).alloc (Nat.le_refl _) (.cells #[.int .i64 op, .int .i64 fm, .int .i64 r1, .int .i64 r2, .int .i64 x2, .int .i64 b1, .int .i64 d1, .int .i64 b2, .int .i64 d2, .int .i64 l1, .int .i64 l2, .int .i64 i2] 23))
    go_wp2_with (go_at_call 134; refine (half_c _ _).mono ?_; rintro e wx ⟨rfl, hwx⟩; subst hwx)
    go_ret
    exact ⟨by first | rfl | (show Ending.returned (.bool (decide (i2 ≤ 255))) = _; rw [decide_eq_false (by omega)]), HB.out⟩
  · have e5 : (fm == 5) = false := by simpa using h5
    clear h5
    go_enter Tryz.func51, Tryz.ntmps51
    have HB := Lib.hid ((Below.refl w.heap.size w).alloc (Nat.le_refl _) (.cells #[.int .i64 op, .int .i64 fm, .int .i64 r1, .int .i64 r2, .int .i64 x2, .int .i64 b1, .int .i64 d1, .int .i64 b2, .int .i64 d2, .int .i64 l1, .int .i64 l2, .int .i64 i2] 23))
    go_wp2_with (go_at_call 134; refine (half_c _ _).mono ?_; rintro e wx ⟨rfl, hwx⟩; subst hwx)
    go_ret
    exact ⟨by first | rfl | (show Ending.returned (.bool (decide (i2 ≤ 255))) = _; rw [decide_eq_false (by omega)]), HB.out⟩
set_option maxRecDepth 1000000 in
set_option maxHeartbeats 4000000 in
theorem within_8 (op fm r1 r2 x2 b1 d1 b2 d2 l1 l2 i2 m : Int) (w : World) (hm : (fm = 5 ∧ m = 255) ∨ (fm ≠ 5 ∧ m = 15)) (h0 : halfB r1 = true) (h1 : halfB r2 = true) (h2 : halfB x2 = true) (h3 : halfB b1 = true) (h4 : halfB b2 = true) (h5 : halfB l2 = true) (h6 : (0 ≤ l1)) (h7 : (l1 ≤ m)) (h8 : ¬ (0 ≤ d1)) : Calls Tryz.prog 51 #[.agg #[.int .i64 op, .int .i64 fm, .int .i64 r1, .int .i64 r2, .int .i64 x2, .int .i64 b1, .int .i64 d1, .int .i64 b2, .int .i64 d2, .int .i64 l1, .int .i64 l2, .int .i64 i2]] w fun e w' => e = .returned (.bool false) ∧ Below w.heap.size w w' := by
  rcases hm with ⟨h5, rfl⟩ | ⟨h5, rfl⟩
  · have e5 : (fm == 5) = true := by simpa using h5
    clear h5
    go_enter Tryz.func51, Tryz.ntmps51
    have HB := Lib.hid ((Below.refl w.heap.size w).alloc (Nat.le_refl _) (.cells #[.int .i64 op, .int .i64 fm, .int .i64 r1, .int .i64 r2, .int .i64 x2, .int .i64 b1, .int .i64 d1, .int .i64 b2, .int .i64 d2, .int .i64 l1, .int .i64 l2, .int .i64 i2] 23))
    go_wp2_with (go_at_call 134; refine (half_c _ _).mono ?_; rintro e wx ⟨rfl, hwx⟩; subst hwx)
    go_ret
    exact ⟨by first | rfl | (show Ending.returned (.bool (decide (i2 ≤ 255))) = _; rw [decide_eq_false (by omega)]), HB.out⟩
  · have e5 : (fm == 5) = false := by simpa using h5
    clear h5
    go_enter Tryz.func51, Tryz.ntmps51
    have HB := Lib.hid ((Below.refl w.heap.size w).alloc (Nat.le_refl _) (.cells #[.int .i64 op, .int .i64 fm, .int .i64 r1, .int .i64 r2, .int .i64 x2, .int .i64 b1, .int .i64 d1, .int .i64 b2, .int .i64 d2, .int .i64 l1, .int .i64 l2, .int .i64 i2] 23))
    go_wp2_with (go_at_call 134; refine (half_c _ _).mono ?_; rintro e wx ⟨rfl, hwx⟩; subst hwx)
    go_ret
    exact ⟨by first | rfl | (show Ending.returned (.bool (decide (i2 ≤ 255))) = _; rw [decide_eq_false (by omega)]), HB.out⟩
end Go.Proofs.YthjdjbipfdigeaaGreat

namespace Go.Proofs.YthjdjbipfdigeaaGreat
open Go.RowKit
set_option linter.unusedVariables false
set_option linter.unusedSimpArgs false
set_option maxRecDepth 1000000 in
set_option maxHeartbeats 4000000 in
theorem within_9 (op fm r1 r2 x2 b1 d1 b2 d2 l1 l2 i2 m : Int) (w : World) (hm : (fm = 5 ∧ m = 255) ∨ (fm ≠ 5 ∧ m = 15)) (h0 : halfB r1 = true) (h1 : halfB r2 = true) (h2 : halfB x2 = true) (h3 : halfB b1 = true) (h4 : halfB b2 = true) (h5 : halfB l2 = true) (h6 : (0 ≤ l1)) (h7 : (l1 ≤ m)) (h8 : (0 ≤ d1)) (h9 : ¬ (d1 ≤ 4095)) : Calls Tryz.prog 51 #[.agg #[.int .i64 op, .int .i64 fm, .int .i64 r1, .int .i64 r2, .int .i64 x2, .int .i64 b1, .int .i64 d1, .int .i64 b2, .int .i64 d2, .int .i64 l1, .int .i64 l2, .int .i64 i2]] w fun e w' => e = .returned (.bool false) ∧ Below w.heap.size w w' := by
  rcases hm with ⟨h5, rfl⟩ | ⟨h5, rfl⟩
  · have e5 : (fm == 5) = true := by simpa using h5
    clear h5
    go_enter Tryz.func51, Tryz.ntmps51
    have HB := Lib.hid ((Below.refl w.heap.size w).alloc (Nat.le_refl _) (.cells #[.int .i64 op, .int .i64 fm, .int .i64 r1, .int .i64 r2, .int .i64 x2, .int .i64 b1, .int .i64 d1, .int .i64 b2, .int .i64 d2, .int .i64 l1, .int .i64 l2, .int .i64 i2] 23))
    go_wp2_with (go_at_call 134; refine (half_c _ _).mono ?_; rintro e wx ⟨rfl, hwx⟩; subst hwx)
    go_ret
    exact ⟨by first | rfl | (show Ending.returned (.bool (decide (i2 ≤ 255))) = _; rw [decide_eq_false (by omega)]), HB.out⟩
  · have e5 : (fm == 5) = false := by simpa using h5
    clear h5
    go_enter Tryz.func51, Tryz.ntmps51
    have HB := Lib.hid ((Below.refl w.heap.size w).alloc (Nat.le_refl _) (.cells #[.int .i64 op, .int .i64 fm, .int .i64 r1, .int .i64 r2, .int .i64 x2, .int .i64 b1, .int .i64 d1, .int .i64 b2, .int .i64 d2, .int .i64 l1, .int .i64 l2, .int .i64 i2] 23))
    go_wp2_with (go_at_call 134; refine (half_c _ _).mono ?_; rintro e wx ⟨rfl, hwx⟩; subst hwx)
    go_ret
    exact ⟨by first | rfl | (show Ending.returned (.bool (decide (i2 ≤ 255))) = _; rw [decide_eq_false (by omega)]), HB.out⟩
set_option maxRecDepth 1000000 in
set_option maxHeartbeats 4000000 in
theorem within_10 (op fm r1 r2 x2 b1 d1 b2 d2 l1 l2 i2 m : Int) (w : World) (hm : (fm = 5 ∧ m = 255) ∨ (fm ≠ 5 ∧ m = 15)) (h0 : halfB r1 = true) (h1 : halfB r2 = true) (h2 : halfB x2 = true) (h3 : halfB b1 = true) (h4 : halfB b2 = true) (h5 : halfB l2 = true) (h6 : (0 ≤ l1)) (h7 : (l1 ≤ m)) (h8 : (0 ≤ d1)) (h9 : (d1 ≤ 4095)) (h10 : ¬ (0 ≤ d2)) : Calls Tryz.prog 51 #[.agg #[.int .i64 op, .int .i64 fm, .int .i64 r1, .int .i64 r2, .int .i64 x2, .int .i64 b1, .int .i64 d1, .int .i64 b2, .int .i64 d2, .int .i64 l1, .int .i64 l2, .int .i64 i2]] w fun e w' => e = .returned (.bool false) ∧ Below w.heap.size w w' := by
  rcases hm with ⟨h5, rfl⟩ | ⟨h5, rfl⟩
  · have e5 : (fm == 5) = true := by simpa using h5
    clear h5
    go_enter Tryz.func51, Tryz.ntmps51
    have HB := Lib.hid ((Below.refl w.heap.size w).alloc (Nat.le_refl _) (.cells #[.int .i64 op, .int .i64 fm, .int .i64 r1, .int .i64 r2, .int .i64 x2, .int .i64 b1, .int .i64 d1, .int .i64 b2, .int .i64 d2, .int .i64 l1, .int .i64 l2, .int .i64 i2] 23))
    go_wp2_with (go_at_call 134; refine (half_c _ _).mono ?_; rintro e wx ⟨rfl, hwx⟩; subst hwx)
    go_ret
    exact ⟨by first | rfl | (show Ending.returned (.bool (decide (i2 ≤ 255))) = _; rw [decide_eq_false (by omega)]), HB.out⟩
  · have e5 : (fm == 5) = false := by simpa using h5
    clear h5
    go_enter Tryz.func51, Tryz.ntmps51
    have HB := Lib.hid ((Below.refl w.heap.size w).alloc (Nat.le_refl _) (.cells #[.int .i64 op, .int .i64 fm, .int .i64 r1, .int .i64 r2, .int .i64 x2, .int .i64 b1, .int .i64 d1, .int .i64 b2, .int .i64 d2, .int .i64 l1, .int .i64 l2, .int .i64 i2] 23))
    go_wp2_with (go_at_call 134; refine (half_c _ _).mono ?_; rintro e wx ⟨rfl, hwx⟩; subst hwx)
    go_ret
    exact ⟨by first | rfl | (show Ending.returned (.bool (decide (i2 ≤ 255))) = _; rw [decide_eq_false (by omega)]), HB.out⟩
set_option maxRecDepth 1000000 in
set_option maxHeartbeats 4000000 in
theorem within_11 (op fm r1 r2 x2 b1 d1 b2 d2 l1 l2 i2 m : Int) (w : World) (hm : (fm = 5 ∧ m = 255) ∨ (fm ≠ 5 ∧ m = 15)) (h0 : halfB r1 = true) (h1 : halfB r2 = true) (h2 : halfB x2 = true) (h3 : halfB b1 = true) (h4 : halfB b2 = true) (h5 : halfB l2 = true) (h6 : (0 ≤ l1)) (h7 : (l1 ≤ m)) (h8 : (0 ≤ d1)) (h9 : (d1 ≤ 4095)) (h10 : (0 ≤ d2)) (h11 : ¬ (d2 ≤ 4095)) : Calls Tryz.prog 51 #[.agg #[.int .i64 op, .int .i64 fm, .int .i64 r1, .int .i64 r2, .int .i64 x2, .int .i64 b1, .int .i64 d1, .int .i64 b2, .int .i64 d2, .int .i64 l1, .int .i64 l2, .int .i64 i2]] w fun e w' => e = .returned (.bool false) ∧ Below w.heap.size w w' := by
  rcases hm with ⟨h5, rfl⟩ | ⟨h5, rfl⟩
  · have e5 : (fm == 5) = true := by simpa using h5
    clear h5
    go_enter Tryz.func51, Tryz.ntmps51
    have HB := Lib.hid ((Below.refl w.heap.size w).alloc (Nat.le_refl _) (.cells #[.int .i64 op, .int .i64 fm, .int .i64 r1, .int .i64 r2, .int .i64 x2, .int .i64 b1, .int .i64 d1, .int .i64 b2, .int .i64 d2, .int .i64 l1, .int .i64 l2, .int .i64 i2] 23))
    go_wp2_with (go_at_call 134; refine (half_c _ _).mono ?_; rintro e wx ⟨rfl, hwx⟩; subst hwx)
    go_ret
    exact ⟨by first | rfl | (show Ending.returned (.bool (decide (i2 ≤ 255))) = _; rw [decide_eq_false (by omega)]), HB.out⟩
  · have e5 : (fm == 5) = false := by simpa using h5
    clear h5
    go_enter Tryz.func51, Tryz.ntmps51
    have HB := Lib.hid ((Below.refl w.heap.size w).alloc (Nat.le_refl _) (.cells #[.int .i64 op, .int .i64 fm, .int .i64 r1, .int .i64 r2, .int .i64 x2, .int .i64 b1, .int .i64 d1, .int .i64 b2, .int .i64 d2, .int .i64 l1, .int .i64 l2, .int .i64 i2] 23))
    go_wp2_with (go_at_call 134; refine (half_c _ _).mono ?_; rintro e wx ⟨rfl, hwx⟩; subst hwx)
    go_ret
    exact ⟨by first | rfl | (show Ending.returned (.bool (decide (i2 ≤ 255))) = _; rw [decide_eq_false (by omega)]), HB.out⟩
set_option maxRecDepth 1000000 in
set_option maxHeartbeats 4000000 in
theorem within_12 (op fm r1 r2 x2 b1 d1 b2 d2 l1 l2 i2 m : Int) (w : World) (hm : (fm = 5 ∧ m = 255) ∨ (fm ≠ 5 ∧ m = 15)) (h0 : halfB r1 = true) (h1 : halfB r2 = true) (h2 : halfB x2 = true) (h3 : halfB b1 = true) (h4 : halfB b2 = true) (h5 : halfB l2 = true) (h6 : (0 ≤ l1)) (h7 : (l1 ≤ m)) (h8 : (0 ≤ d1)) (h9 : (d1 ≤ 4095)) (h10 : (0 ≤ d2)) (h11 : (d2 ≤ 4095)) (h12 : ¬ (0 ≤ i2)) : Calls Tryz.prog 51 #[.agg #[.int .i64 op, .int .i64 fm, .int .i64 r1, .int .i64 r2, .int .i64 x2, .int .i64 b1, .int .i64 d1, .int .i64 b2, .int .i64 d2, .int .i64 l1, .int .i64 l2, .int .i64 i2]] w fun e w' => e = .returned (.bool false) ∧ Below w.heap.size w w' := by
  rcases hm with ⟨h5, rfl⟩ | ⟨h5, rfl⟩
  · have e5 : (fm == 5) = true := by simpa using h5
    clear h5
    go_enter Tryz.func51, Tryz.ntmps51
    have HB := Lib.hid ((Below.refl w.heap.size w).alloc (Nat.le_refl _) (.cells #[.int .i64 op, .int .i64 fm, .int .i64 r1, .int .i64 r2, .int .i64 x2, .int .i64 b1, .int .i64 d1, .int .i64 b2, .int .i64 d2, .int .i64 l1, .int .i64 l2, .int .i64 i2] 23))
    go_wp2_with (go_at_call 134; refine (half_c _ _).mono ?_; rintro e wx ⟨rfl, hwx⟩; subst hwx)
    go_ret
    exact ⟨by first | rfl | (show Ending.returned (.bool (decide (i2 ≤ 255))) = _; rw [decide_eq_false (by omega)]), HB.out⟩
  · have e5 : (fm == 5) = false := by simpa using h5
    clear h5
    go_enter Tryz.func51, Tryz.ntmps51
    have HB := Lib.hid ((Below.refl w.heap.size w).alloc (Nat.le_refl _) (.cells #[.int .i64 op, .int .i64 fm, .int .i64 r1, .int .i64 r2, .int .i64 x2, .int .i64 b1, .int .i64 d1, .int .i64 b2, .int .i64 d2, .int .i64 l1, .int .i64 l2, .int .i64 i2] 23))
    go_wp2_with (go_at_call 134; refine (half_c _ _).mono ?_; rintro e wx ⟨rfl, hwx⟩; subst hwx)
    go_ret
    exact ⟨by first | rfl | (show Ending.returned (.bool (decide (i2 ≤ 255))) = _; rw [decide_eq_false (by omega)]), HB.out⟩
set_option maxRecDepth 1000000 in
set_option maxHeartbeats 4000000 in
theorem within_13 (op fm r1 r2 x2 b1 d1 b2 d2 l1 l2 i2 m : Int) (w : World) (hm : (fm = 5 ∧ m = 255) ∨ (fm ≠ 5 ∧ m = 15)) (h0 : halfB r1 = true) (h1 : halfB r2 = true) (h2 : halfB x2 = true) (h3 : halfB b1 = true) (h4 : halfB b2 = true) (h5 : halfB l2 = true) (h6 : (0 ≤ l1)) (h7 : (l1 ≤ m)) (h8 : (0 ≤ d1)) (h9 : (d1 ≤ 4095)) (h10 : (0 ≤ d2)) (h11 : (d2 ≤ 4095)) (h12 : (0 ≤ i2)) (h13 : ¬ (i2 ≤ 255)) : Calls Tryz.prog 51 #[.agg #[.int .i64 op, .int .i64 fm, .int .i64 r1, .int .i64 r2, .int .i64 x2, .int .i64 b1, .int .i64 d1, .int .i64 b2, .int .i64 d2, .int .i64 l1, .int .i64 l2, .int .i64 i2]] w fun e w' => e = .returned (.bool false) ∧ Below w.heap.size w w' := by
  rcases hm with ⟨h5, rfl⟩ | ⟨h5, rfl⟩
  · have e5 : (fm == 5) = true := by simpa using h5
    clear h5
    go_enter Tryz.func51, Tryz.ntmps51
    have HB := Lib.hid ((Below.refl w.heap.size w).alloc (Nat.le_refl _) (.cells #[.int .i64 op, .int .i64 fm, .int .i64 r1, .int .i64 r2, .int .i64 x2, .int .i64 b1, .int .i64 d1, .int .i64 b2, .int .i64 d2, .int .i64 l1, .int .i64 l2, .int .i64 i2] 23))
    go_wp2_with (go_at_call 134; refine (half_c _ _).mono ?_; rintro e wx ⟨rfl, hwx⟩; subst hwx)
    go_ret
    exact ⟨by first | rfl | (show Ending.returned (.bool (decide (i2 ≤ 255))) = _; rw [decide_eq_false (by omega)]), HB.out⟩
  · have e5 : (fm == 5) = false := by simpa using h5
    clear h5
    go_enter Tryz.func51, Tryz.ntmps51
    have HB := Lib.hid ((Below.refl w.heap.size w).alloc (Nat.le_refl _) (.cells #[.int .i64 op, .int .i64 fm, .int .i64 r1, .int .i64 r2, .int .i64 x2, .int .i64 b1, .int .i64 d1, .int .i64 b2, .int .i64 d2, .int .i64 l1, .int .i64 l2, .int .i64 i2] 23))
    go_wp2_with (go_at_call 134; refine (half_c _ _).mono ?_; rintro e wx ⟨rfl, hwx⟩; subst hwx)
    go_ret
    exact ⟨by first | rfl | (show Ending.returned (.bool (decide (i2 ≤ 255))) = _; rw [decide_eq_false (by omega)]), HB.out⟩
set_option maxRecDepth 1000000 in
set_option maxHeartbeats 4000000 in
theorem within_14 (op fm r1 r2 x2 b1 d1 b2 d2 l1 l2 i2 m : Int) (w : World) (hm : (fm = 5 ∧ m = 255) ∨ (fm ≠ 5 ∧ m = 15)) (h0 : halfB r1 = true) (h1 : halfB r2 = true) (h2 : halfB x2 = true) (h3 : halfB b1 = true) (h4 : halfB b2 = true) (h5 : halfB l2 = true) (h6 : (0 ≤ l1)) (h7 : (l1 ≤ m)) (h8 : (0 ≤ d1)) (h9 : (d1 ≤ 4095)) (h10 : (0 ≤ d2)) (h11 : (d2 ≤ 4095)) (h12 : (0 ≤ i2)) (h13 : (i2 ≤ 255)) : Calls Tryz.prog 51 #[.agg #[.int .i64 op, .int .i64 fm, .int .i64 r1, .int .i64 r2, .int .i64 x2, .int .i64 b1, .int .i64 d1, .int .i64 b2, .int .i64 d2, .int .i64 l1, .int .i64 l2, .int .i64 i2]] w fun e w' => e = .returned (.bool true) ∧ Below w.heap.size w w' := by
  rcases hm with ⟨h5, rfl⟩ | ⟨h5, rfl⟩
  · have e5 : (fm == 5) = true := by simpa using h5
    clear h5
    go_enter Tryz.func51, Tryz.ntmps51
    have HB := Lib.hid ((Below.refl w.heap.size w).alloc (Nat.le_refl _) (.cells #[.int .i64 op, .int .i64 fm, .int .i64 r1, .int .i64 r2, .int .i64 x2, .int .i64 b1, .int .i64 d1, .int .i64 b2, .int .i64 d2, .int .i64 l1, .int .i64 l2, .int .i64 i2] 23))
    go_wp2_with (go_at_call 134; refine (half_c _ _).mono ?_; rintro e wx ⟨rfl, hwx⟩; subst hwx)
    go_ret
    exact ⟨by first | rfl | (show Ending.returned (.bool (decide (i2 ≤ 255))) = _; rw [decide_eq_false (by omega)]), HB.out⟩
  · have e5 : (fm == 5) = false := by simpa using h5
    clear h5
    go_enter Tryz.func51, Tryz.ntmps51
    have HB := Lib.hid ((Below.refl w.heap.size w).alloc (Nat.le_refl _) (.cells #[.int .i64 op, .int .i64 fm, .int .i64 r1, .int .i64 r2, .int .i64 x2, .int .i64 b1, .int .i64 d1, .int .i64 b2, .int .i64 d2, .int .i64 l1, .int .i64 l2, .int .i64 i2] 23))
    go_wp2_with (go_at_call 134; refine (half_c _ _).mono ?_; rintro e wx ⟨rfl, hwx⟩; subst hwx)
    go_ret
    exact ⟨by first | rfl | (show Ending.returned (.bool (decide (i2 ≤ 255))) = _; rw [decide_eq_false (by omega)]), HB.out⟩
end Go.Proofs.YthjdjbipfdigeaaGreat

namespace Go.Proofs.YthjdjbipfdigeaaGreat
open Go.RowKit
set_option linter.unusedVariables false
set_option linter.unusedSimpArgs false
def withB (fm r1 r2 x2 b1 d1 b2 d2 l1 l2 i2 : Int) : Bool := decide (halfB r1 = true ∧ halfB r2 = true ∧ halfB x2 = true ∧ halfB b1 = true ∧ halfB b2 = true ∧ halfB l2 = true ∧ 0 ≤ l1 ∧ l1 ≤ mostOf fm ∧ 0 ≤ d1 ∧ d1 ≤ 4095 ∧ 0 ≤ d2 ∧ d2 ≤ 4095 ∧ 0 ≤ i2 ∧ i2 ≤ 255)
theorem most_or (fm : Int) : (fm = 5 ∧ mostOf fm = 255) ∨ (fm ≠ 5 ∧ mostOf fm = 15) := by
  unfold mostOf; split <;> simp_all
theorem within_c (op fm r1 r2 x2 b1 d1 b2 d2 l1 l2 i2 : Int) (w : World) : Calls Tryz.prog 51 #[.agg #[.int .i64 op, .int .i64 fm, .int .i64 r1, .int .i64 r2, .int .i64 x2, .int .i64 b1, .int .i64 d1, .int .i64 b2, .int .i64 d2, .int .i64 l1, .int .i64 l2, .int .i64 i2]] w fun e w' => e = .returned (.bool (withB fm r1 r2 x2 b1 d1 b2 d2 l1 l2 i2)) ∧ Below w.heap.size w w' := by
  by_cases h0 : halfB r1 = true
  case neg =>
    rw [show withB fm r1 r2 x2 b1 d1 b2 d2 l1 l2 i2 = false from decide_eq_false (fun h => h0 (by simp only [h]))]
    exact within_0 op fm r1 r2 x2 b1 d1 b2 d2 l1 l2 i2 _ w (most_or fm) (by simpa using h0)
  by_cases h1 : halfB r2 = true
  case neg =>
    rw [show withB fm r1 r2 x2 b1 d1 b2 d2 l1 l2 i2 = false from decide_eq_false (fun h => h1 (by simp only [h]))]
    exact within_1 op fm r1 r2 x2 b1 d1 b2 d2 l1 l2 i2 _ w (most_or fm) h0 (by simpa using h1)
  by_cases h2 : halfB x2 = true
  case neg =>
    rw [show withB fm r1 r2 x2 b1 d1 b2 d2 l1 l2 i2 = false from decide_eq_false (fun h => h2 (by simp only [h]))]
    exact within_2 op fm r1 r2 x2 b1 d1 b2 d2 l1 l2 i2 _ w (most_or fm) h0 h1 (by simpa using h2)
  by_cases h3 : halfB b1 = true
  case neg =>
    rw [show withB fm r1 r2 x2 b1 d1 b2 d2 l1 l2 i2 = false from decide_eq_false (fun h => h3 (by simp only [h]))]
    exact within_3 op fm r1 r2 x2 b1 d1 b2 d2 l1 l2 i2 _ w (most_or fm) h0 h1 h2 (by simpa using h3)
  by_cases h4 : halfB b2 = true
  case neg =>
    rw [show withB fm r1 r2 x2 b1 d1 b2 d2 l1 l2 i2 = false from decide_eq_false (fun h => h4 (by simp only [h]))]
    exact within_4 op fm r1 r2 x2 b1 d1 b2 d2 l1 l2 i2 _ w (most_or fm) h0 h1 h2 h3 (by simpa using h4)
  by_cases h5 : halfB l2 = true
  case neg =>
    rw [show withB fm r1 r2 x2 b1 d1 b2 d2 l1 l2 i2 = false from decide_eq_false (fun h => h5 (by simp only [h]))]
    exact within_5 op fm r1 r2 x2 b1 d1 b2 d2 l1 l2 i2 _ w (most_or fm) h0 h1 h2 h3 h4 (by simpa using h5)
  by_cases h6 : 0 ≤ l1
  case neg =>
    rw [show withB fm r1 r2 x2 b1 d1 b2 d2 l1 l2 i2 = false from decide_eq_false (fun h => h6 (by simp only [h]))]
    exact within_6 op fm r1 r2 x2 b1 d1 b2 d2 l1 l2 i2 _ w (most_or fm) h0 h1 h2 h3 h4 h5 h6
  by_cases h7 : l1 ≤ mostOf fm
  case neg =>
    rw [show withB fm r1 r2 x2 b1 d1 b2 d2 l1 l2 i2 = false from decide_eq_false (fun h => h7 (by simp only [h]))]
    exact within_7 op fm r1 r2 x2 b1 d1 b2 d2 l1 l2 i2 _ w (most_or fm) h0 h1 h2 h3 h4 h5 h6 h7
  by_cases h8 : 0 ≤ d1
  case neg =>
    rw [show withB fm r1 r2 x2 b1 d1 b2 d2 l1 l2 i2 = false from decide_eq_false (fun h => h8 (by simp only [h]))]
    exact within_8 op fm r1 r2 x2 b1 d1 b2 d2 l1 l2 i2 _ w (most_or fm) h0 h1 h2 h3 h4 h5 h6 h7 h8
  by_cases h9 : d1 ≤ 4095
  case neg =>
    rw [show withB fm r1 r2 x2 b1 d1 b2 d2 l1 l2 i2 = false from decide_eq_false (fun h => h9 (by simp only [h]))]
    exact within_9 op fm r1 r2 x2 b1 d1 b2 d2 l1 l2 i2 _ w (most_or fm) h0 h1 h2 h3 h4 h5 h6 h7 h8 h9
  by_cases h10 : 0 ≤ d2
  case neg =>
    rw [show withB fm r1 r2 x2 b1 d1 b2 d2 l1 l2 i2 = false from decide_eq_false (fun h => h10 (by simp only [h]))]
    exact within_10 op fm r1 r2 x2 b1 d1 b2 d2 l1 l2 i2 _ w (most_or fm) h0 h1 h2 h3 h4 h5 h6 h7 h8 h9 h10
  by_cases h11 : d2 ≤ 4095
  case neg =>
    rw [show withB fm r1 r2 x2 b1 d1 b2 d2 l1 l2 i2 = false from decide_eq_false (fun h => h11 (by simp only [h]))]
    exact within_11 op fm r1 r2 x2 b1 d1 b2 d2 l1 l2 i2 _ w (most_or fm) h0 h1 h2 h3 h4 h5 h6 h7 h8 h9 h10 h11
  by_cases h12 : 0 ≤ i2
  case neg =>
    rw [show withB fm r1 r2 x2 b1 d1 b2 d2 l1 l2 i2 = false from decide_eq_false (fun h => h12 (by simp only [h]))]
    exact within_12 op fm r1 r2 x2 b1 d1 b2 d2 l1 l2 i2 _ w (most_or fm) h0 h1 h2 h3 h4 h5 h6 h7 h8 h9 h10 h11 h12
  by_cases h13 : i2 ≤ 255
  case neg =>
    rw [show withB fm r1 r2 x2 b1 d1 b2 d2 l1 l2 i2 = false from decide_eq_false (fun h => h13 (by simp only [h]))]
    exact within_13 op fm r1 r2 x2 b1 d1 b2 d2 l1 l2 i2 _ w (most_or fm) h0 h1 h2 h3 h4 h5 h6 h7 h8 h9 h10 h11 h12 h13
  rw [show withB fm r1 r2 x2 b1 d1 b2 d2 l1 l2 i2 = true from decide_eq_true ⟨h0, h1, h2, h3, h4, h5, h6, h7, h8, h9, h10, h11, h12, h13⟩]
  exact within_14 op fm r1 r2 x2 b1 d1 b2 d2 l1 l2 i2 _ w (most_or fm) h0 h1 h2 h3 h4 h5 h6 h7 h8 h9 h10 h11 h12 h13
end Go.Proofs.YthjdjbipfdigeaaGreat

namespace Go.Proofs.YthjdjbipfdigeaaGreat
open Go.RowKit
set_option linter.unusedVariables false
set_option linter.unusedSimpArgs false
/-- twelve cells of a box, behind a name -/
def Cel (w : World) (g : Nat) (x0 x1 x2 x3 x4 x5 x6 x7 x8 x9 x10 x11 : Int) : Prop := w.cell? ⟨g, 0, none⟩ = some (.int .i64 x0) ∧ w.cell? ⟨g, 1, none⟩ = some (.int .i64 x1) ∧ w.cell? ⟨g, 2, none⟩ = some (.int .i64 x2) ∧ w.cell? ⟨g, 3, none⟩ = some (.int .i64 x3) ∧ w.cell? ⟨g, 4, none⟩ = some (.int .i64 x4) ∧ w.cell? ⟨g, 5, none⟩ = some (.int .i64 x5) ∧ w.cell? ⟨g, 6, none⟩ = some (.int .i64 x6) ∧ w.cell? ⟨g, 7, none⟩ = some (.int .i64 x7) ∧ w.cell? ⟨g, 8, none⟩ = some (.int .i64 x8) ∧ w.cell? ⟨g, 9, none⟩ = some (.int .i64 x9) ∧ w.cell? ⟨g, 10, none⟩ = some (.int .i64 x10) ∧ w.cell? ⟨g, 11, none⟩ = some (.int .i64 x11)
theorem Cel.keep {w w' : World} {g : Nat} {x0 x1 x2 x3 x4 x5 x6 x7 x8 x9 x10 x11 : Int} (h : Cel w g x0 x1 x2 x3 x4 x5 x6 x7 x8 x9 x10 x11) (hb : Below w.heap.size w w') : Cel w' g x0 x1 x2 x3 x4 x5 x6 x7 x8 x9 x10 x11 := by
  obtain ⟨h0, h1, h2, h3, h4, h5, h6, h7, h8, h9, h10, h11⟩ := h
  exact ⟨bcell_keep h0 hb, bcell_keep h1 hb, bcell_keep h2 hb, bcell_keep h3 hb, bcell_keep h4 hb, bcell_keep h5 hb, bcell_keep h6 hb, bcell_keep h7 hb, bcell_keep h8 hb, bcell_keep h9 hb, bcell_keep h10 hb, bcell_keep h11 hb⟩
theorem Cel.of_blk {w : World} {g : Nat} {T : TypeId} {x0 x1 x2 x3 x4 x5 x6 x7 x8 x9 x10 x11 : Int} (h : Blk w g T [x0, x1, x2, x3, x4, x5, x6, x7, x8, x9, x10, x11]) : Cel w g x0 x1 x2 x3 x4 x5 x6 x7 x8 x9 x10 x11 := ⟨h.cell (c := 0) (by simp), h.cell (c := 1) (by simp), h.cell (c := 2) (by simp), h.cell (c := 3) (by simp), h.cell (c := 4) (by simp), h.cell (c := 5) (by simp), h.cell (c := 6) (by simp), h.cell (c := 7) (by simp), h.cell (c := 8) (by simp), h.cell (c := 9) (by simp), h.cell (c := 10) (by simp), h.cell (c := 11) (by simp)⟩
theorem chain12 {α : Type} (op fm r1 r2 x2 b1 d1 b2 d2 l1 l2 i2 o0 o1 o2 o3 o4 o5 o6 o7 o8 o9 o10 o11 : Int) (X Y : α) : (if op = o0 then (if fm = o1 then (if r1 = o2 then (if r2 = o3 then (if x2 = o4 then (if b1 = o5 then (if d1 = o6 then (if b2 = o7 then (if d2 = o8 then (if l1 = o9 then (if l2 = o10 then (if i2 = o11 then X else Y) else Y) else Y) else Y) else Y) else Y) else Y) else Y) else Y) else Y) else Y) else Y) = if eqiB op fm r1 r2 x2 b1 d1 b2 d2 l1 l2 i2 o0 o1 o2 o3 o4 o5 o6 o7 o8 o9 o10 o11 = true then X else Y := by
  by_cases h : eqiB op fm r1 r2 x2 b1 d1 b2 d2 l1 l2 i2 o0 o1 o2 o3 o4 o5 o6 o7 o8 o9 o10 o11 = true
  · rw [if_pos h]
    obtain ⟨q0, q1, q2, q3, q4, q5, q6, q7, q8, q9, q10, q11⟩ := (eqiB_iff op fm r1 r2 x2 b1 d1 b2 d2 l1 l2 i2 o0 o1 o2 o3 o4 o5 o6 o7 o8 o9 o10 o11).mp h
    rw [if_pos q0, if_pos q1, if_pos q2, if_pos q3, if_pos q4, if_pos q5, if_pos q6, if_pos q7, if_pos q8, if_pos q9, if_pos q10, if_pos q11]
  · rw [if_neg h]
    rw [eqiB_iff] at h
    by_cases q0 : op = o0; rotate_left; rw [if_neg q0]
    by_cases q1 : fm = o1; rotate_left; rw [if_pos q0, if_neg q1]
    by_cases q2 : r1 = o2; rotate_left; rw [if_pos q0, if_pos q1, if_neg q2]
    by_cases q3 : r2 = o3; rotate_left; rw [if_pos q0, if_pos q1, if_pos q2, if_neg q3]
    by_cases q4 : x2 = o4; rotate_left; rw [if_pos q0, if_pos q1, if_pos q2, if_pos q3, if_neg q4]
    by_cases q5 : b1 = o5; rotate_left; rw [if_pos q0, if_pos q1, if_pos q2, if_pos q3, if_pos q4, if_neg q5]
    by_cases q6 : d1 = o6; rotate_left; rw [if_pos q0, if_pos q1, if_pos q2, if_pos q3, if_pos q4, if_pos q5, if_neg q6]
    by_cases q7 : b2 = o7; rotate_left; rw [if_pos q0, if_pos q1, if_pos q2, if_pos q3, if_pos q4, if_pos q5, if_pos q6, if_neg q7]
    by_cases q8 : d2 = o8; rotate_left; rw [if_pos q0, if_pos q1, if_pos q2, if_pos q3, if_pos q4, if_pos q5, if_pos q6, if_pos q7, if_neg q8]
    by_cases q9 : l1 = o9; rotate_left; rw [if_pos q0, if_pos q1, if_pos q2, if_pos q3, if_pos q4, if_pos q5, if_pos q6, if_pos q7, if_pos q8, if_neg q9]
    by_cases q10 : l2 = o10; rotate_left; rw [if_pos q0, if_pos q1, if_pos q2, if_pos q3, if_pos q4, if_pos q5, if_pos q6, if_pos q7, if_pos q8, if_pos q9, if_neg q10]
    by_cases q11 : i2 = o11; rotate_left; rw [if_pos q0, if_pos q1, if_pos q2, if_pos q3, if_pos q4, if_pos q5, if_pos q6, if_pos q7, if_pos q8, if_pos q9, if_pos q10, if_neg q11]
    exact absurd ⟨q0, q1, q2, q3, q4, q5, q6, q7, q8, q9, q10, q11⟩ h
attribute [local go_sem] eqi_run eqi_guard
set_option maxRecDepth 1000000 in
set_option maxHeartbeats 4000000 in
theorem rcheck_no (op fm r1 r2 x2 b1 d1 b2 d2 l1 l2 i2 : Int) (w : World) (hi : isOp op = false) : Calls Tryz.prog 22 #[.agg #[.int .i64 op, .int .i64 fm, .int .i64 r1, .int .i64 r2, .int .i64 x2, .int .i64 b1, .int .i64 d1, .int .i64 b2, .int .i64 d2, .int .i64 l1, .int .i64 l2, .int .i64 i2]] w fun e w' => e = .returned (.int .i64 80) ∧ Below w.heap.size w w' := by
  have FC := Lib.hid (rform_c op)
  rw [hi] at FC
  obtain ⟨f, hff⟩ : ∃ f, fmOf op = f := ⟨_, rfl⟩
  rw [hff] at FC
  clear hi hff
  go_enter Tryz.func22, Tryz.ntmps22
  have HB0 := Lib.hid ((Below.refl w.heap.size w).alloc (Nat.le_refl _) (.cells #[.int .i64 op, .int .i64 fm, .int .i64 r1, .int .i64 r2, .int .i64 x2, .int .i64 b1, .int .i64 d1, .int .i64 b2, .int .i64 d2, .int .i64 l1, .int .i64 l2, .int .i64 i2] 23))
  have B0 := Lib.hid (show Blk (w.alloc (.cells #[.int .i64 op, .int .i64 fm, .int .i64 r1, .int .i64 r2, .int .i64 x2, .int .i64 b1, .int .i64 d1, .int .i64 b2, .int .i64 d2, .int .i64 l1, .int .i64 l2, .int .i64 i2] 23)) w.heap.size 23 [op, fm, r1, r2, x2, b1, d1, b2, d2, l1, l2, i2] from heap_alloc_new w _)
  go_wp2_with (go_at_call 50; refine (FC.out _).mono ?_; rintro e w1 ⟨rfl, hb⟩; have HB1 := Lib.hid (HB0.out.trans (hb.mono HB0.out.size)); have cf := (B0.out.keep hb).cell (c := 1) (by simp); clear hb)
  go_ret
  exact ⟨rfl, HB1.out⟩
set_option maxRecDepth 1000000 in
set_option maxHeartbeats 4000000 in
theorem rcheck_form (op fm r1 r2 x2 b1 d1 b2 d2 l1 l2 i2 : Int) (w : World) (hi : isOp op = true) (hf : fmOf op ≠ fm) : Calls Tryz.prog 22 #[.agg #[.int .i64 op, .int .i64 fm, .int .i64 r1, .int .i64 r2, .int .i64 x2, .int .i64 b1, .int .i64 d1, .int .i64 b2, .int .i64 d2, .int .i64 l1, .int .i64 l2, .int .i64 i2]] w fun e w' => e = .returned (.int .i64 80) ∧ Below w.heap.size w w' := by
  have FC := Lib.hid (rform_c op)
  rw [hi] at FC
  obtain ⟨f, hff⟩ : ∃ f, fmOf op = f := ⟨_, rfl⟩
  rw [hff] at FC hf
  clear hi hff
  have ef : (f == fm) = false := by simpa using hf
  go_enter Tryz.func22, Tryz.ntmps22
  have HB0 := Lib.hid ((Below.refl w.heap.size w).alloc (Nat.le_refl _) (.cells #[.int .i64 op, .int .i64 fm, .int .i64 r1, .int .i64 r2, .int .i64 x2, .int .i64 b1, .int .i64 d1, .int .i64 b2, .int .i64 d2, .int .i64 l1, .int .i64 l2, .int .i64 i2] 23))
  have B0 := Lib.hid (show Blk (w.alloc (.cells #[.int .i64 op, .int .i64 fm, .int .i64 r1, .int .i64 r2, .int .i64 x2, .int .i64 b1, .int .i64 d1, .int .i64 b2, .int .i64 d2, .int .i64 l1, .int .i64 l2, .int .i64 i2] 23)) w.heap.size 23 [op, fm, r1, r2, x2, b1, d1, b2, d2, l1, l2, i2] from heap_alloc_new w _)
  go_wp2_with (go_at_call 50; refine (FC.out _).mono ?_; rintro e w1 ⟨rfl, hb⟩; have HB1 := Lib.hid (HB0.out.trans (hb.mono HB0.out.size)); have cf := (B0.out.keep hb).cell (c := 1) (by simp); clear hb)
  go_ret
  exact ⟨rfl, HB1.out⟩
set_option maxRecDepth 1000000 in
set_option maxHeartbeats 4000000 in
theorem rcheck_out (op fm r1 r2 x2 b1 d1 b2 d2 l1 l2 i2 : Int) (w : World) (hi : isOp op = true) (hf : fmOf op = fm) (hw : withB fm r1 r2 x2 b1 d1 b2 d2 l1 l2 i2 = false) : Calls Tryz.prog 22 #[.agg #[.int .i64 op, .int .i64 fm, .int .i64 r1, .int .i64 r2, .int .i64 x2, .int .i64 b1, .int .i64 d1, .int .i64 b2, .int .i64 d2, .int .i64 l1, .int .i64 l2, .int .i64 i2]] w fun e w' => e = .returned (.int .i64 6) ∧ Below w.heap.size w w' := by
  have FC := Lib.hid (rform_c op)
  rw [hi, hf] at FC
  have WC := Lib.hid (within_c op fm r1 r2 x2 b1 d1 b2 d2 l1 l2 i2)
  rw [hw] at WC
  clear hi hf hw
  have ef : (fm == fm) = true := by simp
  go_enter Tryz.func22, Tryz.ntmps22
  have HB0 := Lib.hid ((Below.refl w.heap.size w).alloc (Nat.le_refl _) (.cells #[.int .i64 op, .int .i64 fm, .int .i64 r1, .int .i64 r2, .int .i64 x2, .int .i64 b1, .int .i64 d1, .int .i64 b2, .int .i64 d2, .int .i64 l1, .int .i64 l2, .int .i64 i2] 23))
  have B0 := Lib.hid (show Blk (w.alloc (.cells #[.int .i64 op, .int .i64 fm, .int .i64 r1, .int .i64 r2, .int .i64 x2, .int .i64 b1, .int .i64 d1, .int .i64 b2, .int .i64 d2, .int .i64 l1, .int .i64 l2, .int .i64 i2] 23)) w.heap.size 23 [op, fm, r1, r2, x2, b1, d1, b2, d2, l1, l2, i2] from heap_alloc_new w _)
  go_upto_region 2 with (go_at_call 50; refine (FC.out _).mono ?_; rintro e W ⟨rfl, hb⟩; have HH := Lib.hid (And.intro (Cel.of_blk (B0.out.keep hb)) (HB0.out.trans (hb.mono HB0.out.size))); have cf := (B0.out.keep hb).cell (c := 1) (by simp); clear hb)
  clear HB0 B0
  go_upto_region 4 with fail
  clear cf
  refine wp_region_held_drew (S := (fun w' => Cel w' w.heap.size op fm r1 r2 x2 b1 d1 b2 d2 l1 l2 i2 ∧ Below w.heap.size w w')) (by kernel_rfl) ?_ (fun hHeld => ?_)
  · (try dsimp only); exact ⟨HH.out.1.keep (below_draw W 1), dBelow' HH.out.2 1⟩
  refine' takeL (i := 0) (v := _) rfl (by kernel_rfl) (by kernel_rfl) (by kernel_rfl) (fun _ _ _ h => h) (Or.inl ⟨by rfl, ?yy1⟩) (by assumption) ?rr1
  case yy1 => intro w hSw; (try dsimp only at hSw); obtain ⟨⟨k0, k1, k2, k3, k4, k5, k6, k7, k8, k9, k10, k11⟩, _⟩ := hSw; go_simp; (try with_reducible rfl)
  try simp only [Act.put, List.setIfInBounds_toArray, List.set_cons_zero, List.set_cons_succ]
  refine wpAnyH_ready (rs := [1]) (by kernel_rfl) (by simp) ?_
  refine consL rfl (fun K hK => ?_) AllReadyH.nil
  go_simp
  go_at_call 51
  refine (WC.out _).mono ?_
  rintro e w5 ⟨rfl, hb⟩
  have BX := Lib.hid (show ((fun w' => Cel w' w.heap.size op fm r1 r2 x2 b1 d1 b2 d2 l1 l2 i2 ∧ Below w.heap.size w w')) w5 from ⟨hHeld.1.keep hb, hHeld.2.trans (hb.mono hHeld.2.size)⟩)
  clear hb hHeld
  go_wp2_with fail
  refine hK.out _ _ ?_ (fun hHeld => ?_)
  · (try dsimp only); exact BX.out
  clear hK K
  try simp only [Act.put, List.setIfInBounds_toArray, List.set_cons_zero, List.set_cons_succ]
  refine' takeL (i := 2) (v := _) rfl (by kernel_rfl) (by kernel_rfl) (by kernel_rfl) (fun _ _ _ h => h) (Or.inl ⟨by rfl, ?yy2⟩) (by assumption) ?rr2
  case yy2 => intro w hSw; (try dsimp only at hSw); go_simp; (try with_reducible rfl)
  try simp only [Act.put, List.setIfInBounds_toArray, List.set_cons_zero, List.set_cons_succ]
  refine' takeL (i := 3) (v := _) rfl (by kernel_rfl) (by kernel_rfl) (by kernel_rfl) (fun _ _ _ h => h) (Or.inl ⟨by rfl, ?yy3⟩) (by assumption) ?rr3
  case yy3 => intro w hSw; (try dsimp only at hSw); go_simp; (try with_reducible rfl)
  try simp only [Act.put, List.setIfInBounds_toArray, List.set_cons_zero, List.set_cons_succ]
  refine' takeL (i := 4) (v := _) rfl (by kernel_rfl) (by kernel_rfl) (by kernel_rfl) (fun _ _ _ h => h) (Or.inr ⟨by rfl, rfl⟩) (by assumption) ?rr4
  try simp only [Act.put, List.setIfInBounds_toArray, List.set_cons_zero, List.set_cons_succ]
  refine' takeL (i := 5) (v := _) rfl (by kernel_rfl) (by kernel_rfl) (by kernel_rfl) (fun _ _ _ h => h) (Or.inr ⟨by rfl, rfl⟩) (by assumption) ?rr5
  try simp only [Act.put, List.setIfInBounds_toArray, List.set_cons_zero, List.set_cons_succ]
  refine' takeL (i := 6) (v := _) rfl (by kernel_rfl) (by kernel_rfl) (by kernel_rfl) (fun _ _ _ h => h) (Or.inr ⟨by rfl, rfl⟩) (by assumption) ?rr6
  try simp only [Act.put, List.setIfInBounds_toArray, List.set_cons_zero, List.set_cons_succ]
  refine' takeL (i := 7) (v := _) rfl (by kernel_rfl) (by kernel_rfl) (by kernel_rfl) (fun _ _ _ h => h) (Or.inr ⟨by rfl, rfl⟩) (by assumption) ?rr7
  try simp only [Act.put, List.setIfInBounds_toArray, List.set_cons_zero, List.set_cons_succ]
  refine' takeL (i := 8) (v := _) rfl (by kernel_rfl) (by kernel_rfl) (by kernel_rfl) (fun _ _ _ h => h) (Or.inl ⟨by rfl, ?yy8⟩) (by assumption) ?rr8
  case yy8 => intro w hSw; (try dsimp only at hSw); go_simp; (try with_reducible rfl)
  try simp only [Act.put, List.setIfInBounds_toArray, List.set_cons_zero, List.set_cons_succ]
  refine wpAnyH_done (by kernel_rfl) ?_ _
  go_wp2
  go_ret
  exact ⟨rfl, hHeld.2⟩
set_option maxRecDepth 1000000 in
set_option maxHeartbeats 4000000 in
theorem rcheck_not (op fm r1 r2 x2 b1 d1 b2 d2 l1 l2 i2 : Int) (o0 o1 o2 o3 o4 o5 o6 o7 o8 o9 o10 o11 : Int) (w : World) (hi : isOp op = true) (hf : fmOf op = fm) (hown : ∀ w, Calls Tryz.prog 52 #[.agg #[.int .i64 op, .int .i64 fm, .int .i64 r1, .int .i64 r2, .int .i64 x2, .int .i64 b1, .int .i64 d1, .int .i64 b2, .int .i64 d2, .int .i64 l1, .int .i64 l2, .int .i64 i2]] w fun e w' => e = .returned (.agg #[.int .i64 o0, .int .i64 o1, .int .i64 o2, .int .i64 o3, .int .i64 o4, .int .i64 o5, .int .i64 o6, .int .i64 o7, .int .i64 o8, .int .i64 o9, .int .i64 o10, .int .i64 o11]) ∧ Below w.heap.size w w') (hw : withB fm r1 r2 x2 b1 d1 b2 d2 l1 l2 i2 = true) (he : eqiB op fm r1 r2 x2 b1 d1 b2 d2 l1 l2 i2 o0 o1 o2 o3 o4 o5 o6 o7 o8 o9 o10 o11 = false) : Calls Tryz.prog 22 #[.agg #[.int .i64 op, .int .i64 fm, .int .i64 r1, .int .i64 r2, .int .i64 x2, .int .i64 b1, .int .i64 d1, .int .i64 b2, .int .i64 d2, .int .i64 l1, .int .i64 l2, .int .i64 i2]] w fun e w' => e = .returned (.int .i64 6) ∧ Below w.heap.size w w' := by
  have FC := Lib.hid (rform_c op)
  rw [hi, hf] at FC
  have WC := Lib.hid (within_c op fm r1 r2 x2 b1 d1 b2 d2 l1 l2 i2)
  rw [hw] at WC
  have OC := Lib.hid hown
  clear hown
  have HE := Lib.hid he
  clear he
  clear hi hf hw
  have ef : (fm == fm) = true := by simp
  go_enter Tryz.func22, Tryz.ntmps22
  have HB0 := Lib.hid ((Below.refl w.heap.size w).alloc (Nat.le_refl _) (.cells #[.int .i64 op, .int .i64 fm, .int .i64 r1, .int .i64 r2, .int .i64 x2, .int .i64 b1, .int .i64 d1, .int .i64 b2, .int .i64 d2, .int .i64 l1, .int .i64 l2, .int .i64 i2] 23))
  have B0 := Lib.hid (show Blk (w.alloc (.cells #[.int .i64 op, .int .i64 fm, .int .i64 r1, .int .i64 r2, .int .i64 x2, .int .i64 b1, .int .i64 d1, .int .i64 b2, .int .i64 d2, .int .i64 l1, .int .i64 l2, .int .i64 i2] 23)) w.heap.size 23 [op, fm, r1, r2, x2, b1, d1, b2, d2, l1, l2, i2] from heap_alloc_new w _)
  go_upto_region 2 with (go_at_call 50; refine (FC.out _).mono ?_; rintro e W ⟨rfl, hb⟩; have HH := Lib.hid (And.intro (Cel.of_blk (B0.out.keep hb)) (HB0.out.trans (hb.mono HB0.out.size))); have cf := (B0.out.keep hb).cell (c := 1) (by simp); clear hb)
  clear HB0 B0
  go_upto_region 4 with fail
  clear cf
  refine wp_region_held_drew (S := (fun w' => Cel w' w.heap.size op fm r1 r2 x2 b1 d1 b2 d2 l1 l2 i2 ∧ Below w.heap.size w w')) (by kernel_rfl) ?_ (fun hHeld => ?_)
  · (try dsimp only); exact ⟨HH.out.1.keep (below_draw W 1), dBelow' HH.out.2 1⟩
  refine' takeL (i := 0) (v := _) rfl (by kernel_rfl) (by kernel_rfl) (by kernel_rfl) (fun _ _ _ h => h) (Or.inl ⟨by rfl, ?yy9⟩) (by assumption) ?rr9
  case yy9 => intro w hSw; (try dsimp only at hSw); obtain ⟨⟨k0, k1, k2, k3, k4, k5, k6, k7, k8, k9, k10, k11⟩, _⟩ := hSw; go_simp; (try with_reducible rfl)
  try simp only [Act.put, List.setIfInBounds_toArray, List.set_cons_zero, List.set_cons_succ]
  refine wpAnyH_ready (rs := [1]) (by kernel_rfl) (by simp) ?_
  refine consL rfl (fun K hK => ?_) AllReadyH.nil
  go_simp
  go_at_call 51
  refine (WC.out _).mono ?_
  rintro e w5 ⟨rfl, hb⟩
  have BX := Lib.hid (show ((fun w' => Cel w' w.heap.size op fm r1 r2 x2 b1 d1 b2 d2 l1 l2 i2 ∧ Below w.heap.size w w')) w5 from ⟨hHeld.1.keep hb, hHeld.2.trans (hb.mono hHeld.2.size)⟩)
  clear hb hHeld
  go_wp2_with fail
  refine hK.out _ _ ?_ (fun hHeld => ?_)
  · (try dsimp only); exact BX.out
  clear hK K
  try simp only [Act.put, List.setIfInBounds_toArray, List.set_cons_zero, List.set_cons_succ]
  refine' takeL (i := 2) (v := _) rfl (by kernel_rfl) (by kernel_rfl) (by kernel_rfl) (fun _ _ _ h => h) (Or.inl ⟨by rfl, ?yy10⟩) (by assumption) ?rr10
  case yy10 => intro w hSw; (try dsimp only at hSw); go_simp; (try with_reducible rfl)
  try simp only [Act.put, List.setIfInBounds_toArray, List.set_cons_zero, List.set_cons_succ]
  refine' takeL (i := 3) (v := _) rfl (by kernel_rfl) (by kernel_rfl) (by kernel_rfl) (fun _ _ _ h => h) (Or.inl ⟨by rfl, ?yy11⟩) (by assumption) ?rr11
  case yy11 => intro w hSw; (try dsimp only at hSw); go_simp; (try with_reducible rfl)
  try simp only [Act.put, List.setIfInBounds_toArray, List.set_cons_zero, List.set_cons_succ]
  refine' takeL (i := 4) (v := _) rfl (by kernel_rfl) (by kernel_rfl) (by kernel_rfl) (fun _ _ _ h => h) (Or.inl ⟨by rfl, ?yy12⟩) (by assumption) ?rr12
  case yy12 => intro w hSw; (try dsimp only at hSw); obtain ⟨⟨k0, k1, k2, k3, k4, k5, k6, k7, k8, k9, k10, k11⟩, _⟩ := hSw; go_simp; (try with_reducible rfl)
  try simp only [Act.put, List.setIfInBounds_toArray, List.set_cons_zero, List.set_cons_succ]
  refine' takeL (i := 5) (v := _) rfl (by kernel_rfl) (by kernel_rfl) (by kernel_rfl) (fun _ _ _ h => h) (Or.inl ⟨by rfl, ?yy13⟩) (by assumption) ?rr13
  case yy13 => intro w hSw; (try dsimp only at hSw); obtain ⟨⟨k0, k1, k2, k3, k4, k5, k6, k7, k8, k9, k10, k11⟩, _⟩ := hSw; go_simp; (try with_reducible rfl)
  try simp only [Act.put, List.setIfInBounds_toArray, List.set_cons_zero, List.set_cons_succ]
  refine wpAnyH_ready (rs := [6]) (by kernel_rfl) (by simp) ?_
  refine consL rfl (fun K hK => ?_) AllReadyH.nil
  go_simp
  go_at_call 52
  refine (OC.out _).mono ?_
  rintro e w5 ⟨rfl, hb⟩
  have BX := Lib.hid (show ((fun w' => Cel w' w.heap.size op fm r1 r2 x2 b1 d1 b2 d2 l1 l2 i2 ∧ Below w.heap.size w w')) w5 from ⟨hHeld.1.keep hb, hHeld.2.trans (hb.mono hHeld.2.size)⟩)
  clear hb hHeld
  go_wp2_with fail
  refine hK.out _ _ ?_ (fun hHeld => ?_)
  · (try dsimp only); exact BX.out
  clear hK K
  try simp only [Act.put, List.setIfInBounds_toArray, List.set_cons_zero, List.set_cons_succ]
  refine' takeL (i := 7) (v := .bool true) rfl (by kernel_rfl) (by kernel_rfl) (by kernel_rfl) (fun _ _ _ h => h) (Or.inl ⟨by rfl, ?yy14⟩) (by assumption) ?rr14
  case yy14 => intro w hSw; (try dsimp only at hSw); go_simp; intro q0 q1 q2 q3 q4 q5 q6 q7 q8 q9 q10 q11; have hq := (eqiB_iff op fm r1 r2 x2 b1 d1 b2 d2 l1 l2 i2 o0 o1 o2 o3 o4 o5 o6 o7 o8 o9 o10 o11).mpr ⟨q0, q1, q2, q3, q4, q5, q6, q7, q8, q9, q10, q11⟩; rw [HE.out] at hq; cases hq; (try with_reducible rfl)
  try simp only [Act.put, List.setIfInBounds_toArray, List.set_cons_zero, List.set_cons_succ]
  refine' takeL (i := 8) (v := _) rfl (by kernel_rfl) (by kernel_rfl) (by kernel_rfl) (fun _ _ _ h => h) (Or.inl ⟨by rfl, ?yy15⟩) (by assumption) ?rr15
  case yy15 => intro w hSw; (try dsimp only at hSw); go_simp; (try with_reducible rfl)
  try simp only [Act.put, List.setIfInBounds_toArray, List.set_cons_zero, List.set_cons_succ]
  refine wpAnyH_done (by kernel_rfl) ?_ _
  go_wp2
  go_ret
  exact ⟨rfl, hHeld.2⟩
set_option maxRecDepth 1000000 in
set_option maxHeartbeats 4000000 in
theorem rcheck_ok (op fm r1 r2 x2 b1 d1 b2 d2 l1 l2 i2 : Int) (o0 o1 o2 o3 o4 o5 o6 o7 o8 o9 o10 o11 : Int) (w : World) (hi : isOp op = true) (hf : fmOf op = fm) (hown : ∀ w, Calls Tryz.prog 52 #[.agg #[.int .i64 op, .int .i64 fm, .int .i64 r1, .int .i64 r2, .int .i64 x2, .int .i64 b1, .int .i64 d1, .int .i64 b2, .int .i64 d2, .int .i64 l1, .int .i64 l2, .int .i64 i2]] w fun e w' => e = .returned (.agg #[.int .i64 o0, .int .i64 o1, .int .i64 o2, .int .i64 o3, .int .i64 o4, .int .i64 o5, .int .i64 o6, .int .i64 o7, .int .i64 o8, .int .i64 o9, .int .i64 o10, .int .i64 o11]) ∧ Below w.heap.size w w') (hw : withB fm r1 r2 x2 b1 d1 b2 d2 l1 l2 i2 = true) (he : eqiB op fm r1 r2 x2 b1 d1 b2 d2 l1 l2 i2 o0 o1 o2 o3 o4 o5 o6 o7 o8 o9 o10 o11 = true) : Calls Tryz.prog 22 #[.agg #[.int .i64 op, .int .i64 fm, .int .i64 r1, .int .i64 r2, .int .i64 x2, .int .i64 b1, .int .i64 d1, .int .i64 b2, .int .i64 d2, .int .i64 l1, .int .i64 l2, .int .i64 i2]] w fun e w' => e = .returned (.int .i64 0) ∧ Below w.heap.size w w' := by
  have FC := Lib.hid (rform_c op)
  rw [hi, hf] at FC
  have WC := Lib.hid (within_c op fm r1 r2 x2 b1 d1 b2 d2 l1 l2 i2)
  rw [hw] at WC
  have OC := Lib.hid hown
  clear hown
  have HE := Lib.hid he
  clear he
  clear hi hf hw
  have ef : (fm == fm) = true := by simp
  go_enter Tryz.func22, Tryz.ntmps22
  have HB0 := Lib.hid ((Below.refl w.heap.size w).alloc (Nat.le_refl _) (.cells #[.int .i64 op, .int .i64 fm, .int .i64 r1, .int .i64 r2, .int .i64 x2, .int .i64 b1, .int .i64 d1, .int .i64 b2, .int .i64 d2, .int .i64 l1, .int .i64 l2, .int .i64 i2] 23))
  have B0 := Lib.hid (show Blk (w.alloc (.cells #[.int .i64 op, .int .i64 fm, .int .i64 r1, .int .i64 r2, .int .i64 x2, .int .i64 b1, .int .i64 d1, .int .i64 b2, .int .i64 d2, .int .i64 l1, .int .i64 l2, .int .i64 i2] 23)) w.heap.size 23 [op, fm, r1, r2, x2, b1, d1, b2, d2, l1, l2, i2] from heap_alloc_new w _)
  go_upto_region 2 with (go_at_call 50; refine (FC.out _).mono ?_; rintro e W ⟨rfl, hb⟩; have HH := Lib.hid (And.intro (Cel.of_blk (B0.out.keep hb)) (HB0.out.trans (hb.mono HB0.out.size))); have cf := (B0.out.keep hb).cell (c := 1) (by simp); clear hb)
  clear HB0 B0
  go_upto_region 4 with fail
  clear cf
  refine wp_region_held_drew (S := (fun w' => Cel w' w.heap.size op fm r1 r2 x2 b1 d1 b2 d2 l1 l2 i2 ∧ Below w.heap.size w w')) (by kernel_rfl) ?_ (fun hHeld => ?_)
  · (try dsimp only); exact ⟨HH.out.1.keep (below_draw W 1), dBelow' HH.out.2 1⟩
  refine' takeL (i := 0) (v := _) rfl (by kernel_rfl) (by kernel_rfl) (by kernel_rfl) (fun _ _ _ h => h) (Or.inl ⟨by rfl, ?yy16⟩) (by assumption) ?rr16
  case yy16 => intro w hSw; (try dsimp only at hSw); obtain ⟨⟨k0, k1, k2, k3, k4, k5, k6, k7, k8, k9, k10, k11⟩, _⟩ := hSw; go_simp; (try with_reducible rfl)
  try simp only [Act.put, List.setIfInBounds_toArray, List.set_cons_zero, List.set_cons_succ]
  refine wpAnyH_ready (rs := [1]) (by kernel_rfl) (by simp) ?_
  refine consL rfl (fun K hK => ?_) AllReadyH.nil
  go_simp
  go_at_call 51
  refine (WC.out _).mono ?_
  rintro e w5 ⟨rfl, hb⟩
  have BX := Lib.hid (show ((fun w' => Cel w' w.heap.size op fm r1 r2 x2 b1 d1 b2 d2 l1 l2 i2 ∧ Below w.heap.size w w')) w5 from ⟨hHeld.1.keep hb, hHeld.2.trans (hb.mono hHeld.2.size)⟩)
  clear hb hHeld
  go_wp2_with fail
  refine hK.out _ _ ?_ (fun hHeld => ?_)
  · (try dsimp only); exact BX.out
  clear hK K
  try simp only [Act.put, List.setIfInBounds_toArray, List.set_cons_zero, List.set_cons_succ]
  refine' takeL (i := 2) (v := _) rfl (by kernel_rfl) (by kernel_rfl) (by kernel_rfl) (fun _ _ _ h => h) (Or.inl ⟨by rfl, ?yy17⟩) (by assumption) ?rr17
  case yy17 => intro w hSw; (try dsimp only at hSw); go_simp; (try with_reducible rfl)
  try simp only [Act.put, List.setIfInBounds_toArray, List.set_cons_zero, List.set_cons_succ]
  refine' takeL (i := 3) (v := _) rfl (by kernel_rfl) (by kernel_rfl) (by kernel_rfl) (fun _ _ _ h => h) (Or.inl ⟨by rfl, ?yy18⟩) (by assumption) ?rr18
  case yy18 => intro w hSw; (try dsimp only at hSw); go_simp; (try with_reducible rfl)
  try simp only [Act.put, List.setIfInBounds_toArray, List.set_cons_zero, List.set_cons_succ]
  refine' takeL (i := 4) (v := _) rfl (by kernel_rfl) (by kernel_rfl) (by kernel_rfl) (fun _ _ _ h => h) (Or.inl ⟨by rfl, ?yy19⟩) (by assumption) ?rr19
  case yy19 => intro w hSw; (try dsimp only at hSw); obtain ⟨⟨k0, k1, k2, k3, k4, k5, k6, k7, k8, k9, k10, k11⟩, _⟩ := hSw; go_simp; (try with_reducible rfl)
  try simp only [Act.put, List.setIfInBounds_toArray, List.set_cons_zero, List.set_cons_succ]
  refine' takeL (i := 5) (v := _) rfl (by kernel_rfl) (by kernel_rfl) (by kernel_rfl) (fun _ _ _ h => h) (Or.inl ⟨by rfl, ?yy20⟩) (by assumption) ?rr20
  case yy20 => intro w hSw; (try dsimp only at hSw); obtain ⟨⟨k0, k1, k2, k3, k4, k5, k6, k7, k8, k9, k10, k11⟩, _⟩ := hSw; go_simp; (try with_reducible rfl)
  try simp only [Act.put, List.setIfInBounds_toArray, List.set_cons_zero, List.set_cons_succ]
  refine wpAnyH_ready (rs := [6]) (by kernel_rfl) (by simp) ?_
  refine consL rfl (fun K hK => ?_) AllReadyH.nil
  go_simp
  go_at_call 52
  refine (OC.out _).mono ?_
  rintro e w5 ⟨rfl, hb⟩
  have BX := Lib.hid (show ((fun w' => Cel w' w.heap.size op fm r1 r2 x2 b1 d1 b2 d2 l1 l2 i2 ∧ Below w.heap.size w w')) w5 from ⟨hHeld.1.keep hb, hHeld.2.trans (hb.mono hHeld.2.size)⟩)
  clear hb hHeld
  go_wp2_with fail
  refine hK.out _ _ ?_ (fun hHeld => ?_)
  · (try dsimp only); exact BX.out
  clear hK K
  try simp only [Act.put, List.setIfInBounds_toArray, List.set_cons_zero, List.set_cons_succ]
  refine' takeL (i := 7) (v := .bool false) rfl (by kernel_rfl) (by kernel_rfl) (by kernel_rfl) (fun _ _ _ h => h) (Or.inl ⟨by rfl, ?yy21⟩) (by assumption) ?rr21
  case yy21 => intro w hSw; (try dsimp only at hSw); go_simp; rw [chain12, HE.out]; rfl; (try with_reducible rfl)
  try simp only [Act.put, List.setIfInBounds_toArray, List.set_cons_zero, List.set_cons_succ]
  refine' takeL (i := 8) (v := _) rfl (by kernel_rfl) (by kernel_rfl) (by kernel_rfl) (fun _ _ _ h => h) (Or.inl ⟨by rfl, ?yy22⟩) (by assumption) ?rr22
  case yy22 => intro w hSw; (try dsimp only at hSw); go_simp; (try with_reducible rfl)
  try simp only [Act.put, List.setIfInBounds_toArray, List.set_cons_zero, List.set_cons_succ]
  refine wpAnyH_done (by kernel_rfl) ?_ _
  go_wp2
  go_ret
  exact ⟨rfl, hHeld.2⟩
end Go.Proofs.YthjdjbipfdigeaaGreat

namespace Go.Proofs.YthjdjbipfdigeaaGreat
open Go.RowKit Go.Shelf
set_option linter.unusedVariables false
set_option linter.unusedSimpArgs false
attribute [local go_sem] Oper.semAt_some

/-- a row of bytes in a block -/
def Rb (W : World) (g : Nat) (zs : List Int) : Prop := W.heap[g]? = some (.cells (zs.map (Value.int .u8)).toArray 5 (0, 0))
section
variable {W W' : World} {g : Nat} {zs : List Int}
theorem Rb.cell (h : Rb W g zs) {c : Nat} (hc : c < zs.length) : W.cell? ⟨g, c, none⟩ = some (.int .u8 (zs.getD c 0)) := by
  rw [cell_blk h]; simp [List.getD_eq_getElem?_getD, hc]
theorem Rb.free (h : Rb W g zs) (c : Nat) : W.frozen? ⟨g, c, none⟩ = false := by
  unfold Rb at h; simp [World.frozen?, h]
theorem Rb.set_ (h : Rb W g zs) (c : Nat) (v : Int) : Rb (W.setCell ⟨g, c, none⟩ (.int .u8 v)) g (zs.set c v) := by
  unfold Rb at *
  rw [setCell_eq_setRow W g c _ 5 (0, 0) _ h, setRow_heap W g _ _ _ _ h]
  simp [List.map_set]
theorem Rb.other (h : Rb W g zs) {p : Addr} (v : Value) (hp : p.block ≠ g) : Rb (W.setCell p v) g zs := (Below.heap_setCell W p v g (Ne.symm hp)).trans h
theorem Rb.alloc (h : Rb W g zs) (o : Obj) : Rb (W.alloc o) g zs := (Below.heap_alloc W o g (Array.getElem?_eq_some_iff.1 h).1).trans h
theorem Rb.kept {row : Option Nat} (h : Rb W g zs) (hg : W.grownBy W' row) (hr : ∀ r, row = some r → ∃ o : Obj, W.heap[r]? = some o ∧ o.isCells = false) : Rb W' g zs := blk_kept h hg hr
theorem Rb.byt (h : Rb W g zs) (hr : ∀ z ∈ zs, 0 ≤ z ∧ z ≤ 255) (n : Nat) (hn : zs.length = n) : Byt W (some ⟨g, 0, none⟩) n zs := by
  subst hn
  exact ⟨rfl, hr, fun _ => ⟨g, 0, rfl, fun i hi => by rw [Nat.zero_add]; exact h.cell hi⟩⟩
end
end Go.Proofs.YthjdjbipfdigeaaGreat

