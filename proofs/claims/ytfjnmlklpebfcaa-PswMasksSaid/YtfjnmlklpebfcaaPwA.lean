/- CONTRACTS of package psw (layer 6) and of its reference jobshopref06: both return the SAME plain functions. No conditions but the words' own ranges. -/
import Derived.Test.YtfjnmlklpebfcaaProg
import Derived.Test.YtfjnmlklpebfcaaPw
import Derived.Lib.Hide
import Derived.Outline
import Derived.Below
import Derived.Handy
namespace Go.Proofs.Ytfjnmlklpebfcaa
open Go.RowKit
set_option linter.unusedVariables false
set_option linter.unusedSimpArgs false

theorem in_c (n most : Int) (w : World) : Calls Try.prog 28 #[.int .i64 n, .int .i64 most] w fun e w' => e = .returned (.bool (inr n most)) ∧ w = w' := by
  cases hi : inr n most
  · have h := inr_no hi
    by_cases h0 : 0 ≤ n
    · have h1 : ¬ n ≤ most := by omega
      clear h hi
      go_enter Try.func28, Try.ntmps28
      go_wp2
      go_ret
      exact ⟨rfl, rfl⟩
    · clear h hi
      go_enter Try.func28, Try.ntmps28
      go_wp2
      go_ret
      exact ⟨rfl, rfl⟩
  · have h := inr_yes hi
    have h0 := h.1
    have h1 := h.2
    clear h hi
    go_enter Try.func28, Try.ntmps28
    go_wp2
    go_ret
    exact ⟨rfl, rfl⟩

theorem bit_c (b : Bool) (n : Int) (w : World) : Calls Try.prog 26 #[.bool b, .int .i64 n] w fun e w' => e = .returned (.int .i64 (b2i b n)) ∧ w = w' := by
  cases b
  all_goals
    go_enter Try.func26, Try.ntmps26
    go_wp2
    go_ret
    exact ⟨rfl, rfl⟩

set_option maxHeartbeats 1000000 in
theorem rvalid_c (m k : Int) (M W P : Bool) (c i q g a : Int) (w : World) : Calls Try.prog 15 #[.agg #[.int .i64 m, .int .i64 k, .bool M, .bool W, .bool P, .int .i64 c, .int .i64 i, .int .i64 q, .int .i64 g, .int .i64 a]] w fun e w' => e = .returned (.bool (pok m k c i q g a)) ∧ Below w.heap.size w w' := by
  cases t0 : inr m 255
  · have hr := Lib.hid (show pok m k c i q g a = false from by simp [pok, t0])
    go_enter Try.func15, Try.ntmps15
    go_wp2_with (go_at_call 28; refine (in_c _ _ _).mono ?_; rintro e w' ⟨rfl, rfl⟩)
    go_ret
    exact ⟨by rw [hr.out]; rfl, (Below.refl _ _).alloc (Nat.le_refl _) _⟩
  · skip
    cases t1 : inr k 15
    · have hr := Lib.hid (show pok m k c i q g a = false from by simp [pok, t0, t1])
      go_enter Try.func15, Try.ntmps15
      go_wp2_with (go_at_call 28; refine (in_c _ _ _).mono ?_; rintro e w' ⟨rfl, rfl⟩)
      go_ret
      exact ⟨by rw [hr.out]; rfl, (Below.refl _ _).alloc (Nat.le_refl _) _⟩
    · skip
      cases t2 : inr c 65535
      · have hr := Lib.hid (show pok m k c i q g a = false from by simp [pok, t0, t1, t2])
        go_enter Try.func15, Try.ntmps15
        go_wp2_with (go_at_call 28; refine (in_c _ _ _).mono ?_; rintro e w' ⟨rfl, rfl⟩)
        go_ret
        exact ⟨by rw [hr.out]; rfl, (Below.refl _ _).alloc (Nat.le_refl _) _⟩
      · skip
        cases t3 : inr i 3
        · have hr := Lib.hid (show pok m k c i q g a = false from by simp [pok, t0, t1, t2, t3])
          go_enter Try.func15, Try.ntmps15
          go_wp2_with (go_at_call 28; refine (in_c _ _ _).mono ?_; rintro e w' ⟨rfl, rfl⟩)
          go_ret
          exact ⟨by rw [hr.out]; rfl, (Below.refl _ _).alloc (Nat.le_refl _) _⟩
        · skip
          cases t4 : inr q 3
          · have hr := Lib.hid (show pok m k c i q g a = false from by simp [pok, t0, t1, t2, t3, t4])
            go_enter Try.func15, Try.ntmps15
            go_wp2_with (go_at_call 28; refine (in_c _ _ _).mono ?_; rintro e w' ⟨rfl, rfl⟩)
            go_ret
            exact ⟨by rw [hr.out]; rfl, (Below.refl _ _).alloc (Nat.le_refl _) _⟩
          · skip
            cases t5 : inr g 15
            · have hr := Lib.hid (show pok m k c i q g a = false from by simp [pok, t0, t1, t2, t3, t4, t5])
              go_enter Try.func15, Try.ntmps15
              go_wp2_with (go_at_call 28; refine (in_c _ _ _).mono ?_; rintro e w' ⟨rfl, rfl⟩)
              go_ret
              exact ⟨by rw [hr.out]; rfl, (Below.refl _ _).alloc (Nat.le_refl _) _⟩
            · skip
              cases t6 : inr a 16777215
              · have hr := Lib.hid (show pok m k c i q g a = false from by simp [pok, t0, t1, t2, t3, t4, t5, t6])
                go_enter Try.func15, Try.ntmps15
                go_wp2_with (go_at_call 28; refine (in_c _ _ _).mono ?_; rintro e w' ⟨rfl, rfl⟩)
                go_ret
                exact ⟨by rw [hr.out]; rfl, (Below.refl _ _).alloc (Nat.le_refl _) _⟩
              · have hr := Lib.hid (show pok m k c i q g a = true from by simp [pok, t0, t1, t2, t3, t4, t5, t6])
                go_enter Try.func15, Try.ntmps15
                go_wp2_with (go_at_call 28; refine (in_c _ _ _).mono ?_; rintro e w' ⟨rfl, rfl⟩)
                go_ret
                exact ⟨by rw [hr.out]; rfl, (Below.refl _ _).alloc (Nat.le_refl _) _⟩

end Go.Proofs.Ytfjnmlklpebfcaa
