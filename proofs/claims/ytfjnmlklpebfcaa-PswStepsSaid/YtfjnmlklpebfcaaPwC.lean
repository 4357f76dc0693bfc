/- CONTRACTS of package psw and its reference: Branch, program. No conditions but the numbers' ranges. -/
import Derived.Test.YtfjnmlklpebfcaaPwB
import Derived.Test.YtfjnmlklpebfcaaPw2
namespace Go.Proofs.Ytfjnmlklpebfcaa
open Go.RowKit
set_option linter.unusedVariables false
set_option linter.unusedSimpArgs false

set_option maxHeartbeats 1000000 in
theorem branch_c (mask cc : Int) (hmask : -9223372036854775808 ≤ mask) (hmask' : mask ≤ 9223372036854775807) (hcc : -9223372036854775808 ≤ cc) (hcc' : cc ≤ 9223372036854775807) (w : World) : Calls Try.prog 20 #[.int .i64 mask, .int .i64 cc] w fun e w' => e = .returned (.bool (pbr mask cc)) ∧ w = w' := by
  have f0 := andNot_in 4 15 mask rfl (by omega) hmask hmask'
  have f1 := andNot_in 2 3 cc rfl (by omega) hcc hcc'
  cases t : inr mask 15
  · have hr := Lib.hid (show pbr mask cc = false from by simp [pbr, t])
    rw [t] at f0
    clear f1 t
    go_enter Try.func20, Try.ntmps20
    go_wp2
    go_ret
    exact ⟨by rw [hr.out]; rfl, rfl⟩
  · have m0 := (inr_yes t).1
    have m1 := (inr_yes t).2
    cases u : inr cc 3
    · have hr := Lib.hid (show pbr mask cc = false from by simp [pbr, t, u])
      rw [t] at f0
      rw [u] at f1
      clear t u
      go_enter Try.func20, Try.ntmps20
      go_wp2
      go_ret
      exact ⟨by rw [hr.out]; rfl, rfl⟩
    · rw [t] at f0
      have c0 := (inr_yes u).1
      have c1 := (inr_yes u).2
      obtain rfl | rfl | rfl | rfl : cc = 0 ∨ cc = 1 ∨ cc = 2 ∨ cc = 3 := by omega
      · have hr := Lib.hid (show (bits .and .i64 mask 8 != 0) = pbr mask 0 from by rw [i64_bit 3 8 mask rfl (by omega) m0 (by omega)]; simp [pbr, t]; first | rfl | (show _ = (decide _ && decide _); simp) | simp [inr])
        have f1 : (bits .andNot .i64 0 3 == 0) = true := by decide
        clear t u c0 c1
        go_enter Try.func20, Try.ntmps20
        go_wp2
        go_ret
        exact ⟨by rw [← hr.out]; rfl, rfl⟩
      · have hr := Lib.hid (show (bits .and .i64 mask 4 != 0) = pbr mask 1 from by rw [i64_bit 2 4 mask rfl (by omega) m0 (by omega)]; simp [pbr, t]; first | rfl | (show _ = (decide _ && decide _); simp) | simp [inr])
        have f1 : (bits .andNot .i64 1 3 == 0) = true := by decide
        clear t u c0 c1
        go_enter Try.func20, Try.ntmps20
        go_wp2
        go_ret
        exact ⟨by rw [← hr.out]; rfl, rfl⟩
      · have hr := Lib.hid (show (bits .and .i64 mask 2 != 0) = pbr mask 2 from by rw [i64_bit 1 2 mask rfl (by omega) m0 (by omega)]; simp [pbr, t]; first | rfl | (show _ = (decide _ && decide _); simp) | simp [inr])
        have f1 : (bits .andNot .i64 2 3 == 0) = true := by decide
        clear t u c0 c1
        go_enter Try.func20, Try.ntmps20
        go_wp2
        go_ret
        exact ⟨by rw [← hr.out]; rfl, rfl⟩
      · have hr := Lib.hid (show (bits .and .i64 mask 1 != 0) = pbr mask 3 from by rw [i64_bit 0 1 mask rfl (by omega) m0 (by omega)]; simp [pbr, t]; first | rfl | (show _ = (decide _ && decide _); simp) | simp [inr])
        have f1 : (bits .andNot .i64 3 3 == 0) = true := by decide
        clear t u c0 c1
        go_enter Try.func20, Try.ntmps20
        go_wp2
        go_ret
        exact ⟨by rw [← hr.out]; rfl, rfl⟩

set_option maxHeartbeats 1000000 in
theorem rbranch_c (mask cc : Int) (w : World) : Calls Try.prog 21 #[.int .i64 mask, .int .i64 cc] w fun e w' => e = .returned (.bool (pbr mask cc)) ∧ Below w.heap.size w w' := by
  cases t : inr mask 15
  · have hr := Lib.hid (show pbr mask cc = false from by simp [pbr, t])
    go_enter Try.func21, Try.ntmps21
    go_wp2_with (go_at_call 28; refine (in_c _ _ _).mono ?_; rintro e w' ⟨rfl, rfl⟩)
    go_ret
    exact ⟨by rw [hr.out]; rfl, Below.refl _ _⟩
  · have m0 := (inr_yes t).1
    have m1 := (inr_yes t).2
    cases u : inr cc 3
    · have hr := Lib.hid (show pbr mask cc = false from by simp [pbr, t, u])
      go_enter Try.func21, Try.ntmps21
      go_wp2_with (go_at_call 28; refine (in_c _ _ _).mono ?_; rintro e w' ⟨rfl, rfl⟩)
      go_ret
      exact ⟨by rw [hr.out]; rfl, Below.refl _ _⟩
    · have c0 := (inr_yes u).1
      have c1 := (inr_yes u).2
      obtain rfl | rfl | rfl | rfl : cc = 0 ∨ cc = 1 ∨ cc = 2 ∨ cc = 3 := by omega
      · have hr := Lib.hid (show decide (mask / 8 % 2 = 1) = pbr mask 0 from by simp [pbr, t, u])
        go_enter Try.func21, Try.ntmps21
        go_wp2_with (go_at_call 28; refine (in_c _ _ _).mono ?_; rintro e w' ⟨rfl, rfl⟩)
        go_ret
        exact ⟨by rw [← hr.out]; rfl, (Below.refl _ _).alloc (Nat.le_refl _) _⟩
      · have hr := Lib.hid (show decide (mask / 4 % 2 = 1) = pbr mask 1 from by simp [pbr, t, u])
        go_enter Try.func21, Try.ntmps21
        go_wp2_with (go_at_call 28; refine (in_c _ _ _).mono ?_; rintro e w' ⟨rfl, rfl⟩)
        go_ret
        exact ⟨by rw [← hr.out]; rfl, (Below.refl _ _).alloc (Nat.le_refl _) _⟩
      · have hr := Lib.hid (show decide (mask / 2 % 2 = 1) = pbr mask 2 from by simp [pbr, t, u])
        go_enter Try.func21, Try.ntmps21
        go_wp2_with (go_at_call 28; refine (in_c _ _ _).mono ?_; rintro e w' ⟨rfl, rfl⟩)
        go_ret
        exact ⟨by rw [← hr.out]; rfl, (Below.refl _ _).alloc (Nat.le_refl _) _⟩
      · have hr := Lib.hid (show decide (mask % 2 = 1) = pbr mask 3 from by simp [pbr, t, u])
        go_enter Try.func21, Try.ntmps21
        go_wp2_with (go_at_call 28; refine (in_c _ _ _).mono ?_; rintro e w' ⟨rfl, rfl⟩)
        go_ret
        exact ⟨by rw [← hr.out]; rfl, (Below.refl _ _).alloc (Nat.le_refl _) _⟩

set_option maxHeartbeats 1000000 in
theorem program_c (g code : Int) (hg : 0 ≤ g) (hg' : g ≤ 15) (w : World) : Calls Try.prog 29 #[.int .i64 g, .int .i64 code] w fun e w' => e = .returned (.bool (pprog g code)) ∧ w = w' := by
  by_cases h8 : code = 8
  · subst h8
    have hr := Lib.hid (show (bits .and .i64 g 8 != 0) = pprog g 8 from by rw [i64_bit 3 8 g rfl (by omega) hg (by omega)]; simp [pprog])
    go_enter Try.func29, Try.ntmps29
    go_wp2
    go_ret
    exact ⟨by rw [← hr.out]; rfl, rfl⟩
  · by_cases h10 : code = 10
    · subst h10
      have hr := Lib.hid (show (bits .and .i64 g 4 != 0) = pprog g 10 from by rw [i64_bit 2 4 g rfl (by omega) hg (by omega)]; simp [pprog])
      go_enter Try.func29, Try.ntmps29
      go_wp2
      go_ret
      exact ⟨by rw [← hr.out]; rfl, rfl⟩
    · have e8 : (code == 8) = false := by simpa using h8
      have e10 : (code == 10) = false := by simpa using h10
      by_cases h1 : 1 ≤ code
      · by_cases h11 : code ≤ 11
        · have hr := Lib.hid (show pprog g code = true from by simp [pprog, h8, h10, h1, h11])
          clear h8 h10
          go_enter Try.func29, Try.ntmps29
          go_wp2
          go_ret
          exact ⟨by rw [hr.out]; rfl, rfl⟩
        · have hr := Lib.hid (show pprog g code = false from by simp [pprog, h8, h10, h11]; try omega)
          clear h8 h10
          go_enter Try.func29, Try.ntmps29
          go_wp2
          go_ret
          exact ⟨by rw [hr.out]; rfl, rfl⟩
      · have hr := Lib.hid (show pprog g code = false from by simp [pprog, h8, h10]; try omega)
        clear h8 h10
        go_enter Try.func29, Try.ntmps29
        go_wp2
        go_ret
        exact ⟨by rw [hr.out]; rfl, rfl⟩

end Go.Proofs.Ytfjnmlklpebfcaa
