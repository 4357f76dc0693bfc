/- CONTRACTS of package psw and its reference: Branch, program. No conditions but the numbers' ranges. -/
import Derived.Test.YthjdjbipfdigeaaPwB
import Derived.Test.YthjdjbipfdigeaaPw2
namespace Go.Proofs.Ythjdjbipfdigeaa
open Go.RowKit
set_option linter.unusedVariables false
set_option linter.unusedSimpArgs false

set_option maxHeartbeats 1000000 in
theorem branch_c (mask cc : Int) (hmask : -9223372036854775808 ≤ mask) (hmask' : mask ≤ 9223372036854775807) (hcc : -9223372036854775808 ≤ cc) (hcc' : cc ≤ 9223372036854775807) (w : World) : Calls Try.prog 54 #[.int .i64 mask, .int .i64 cc] w fun e w' => e = .returned (.bool (pbr mask cc)) ∧ w = w' := by
  have f0 := andNot_in 4 15 mask rfl (by omega) hmask hmask'
  have f1 := andNot_in 2 3 cc rfl (by omega) hcc hcc'
  cases t : inr mask 15
  · have hr := Lib.hid (show pbr mask cc = false from by simp [pbr, t])
    rw [t] at f0
    clear f1 t
    go_enter Try.func54, Try.ntmps54
    go_wp2
    go_ret
    exact ⟨by rw [hr.out]; rfl, rfl⟩
  · have m0 := (inr_yes t).1
    have m1 := (inr_yes t).2
    cases u : inr cc 3
    · have hr := Lib.hid (show pbr mask cc = false from by simp [pbr, t, u])
      rw [t] at f0
      rw [u] at f1
      clear t u
      go_enter Try.func54, Try.ntmps54
      go_wp2
      go_ret
      exact ⟨by rw [hr.out]; rfl, rfl⟩
    · rw [t] at f0
      have c0 := (inr_yes u).1
      have c1 := (inr_yes u).2
      obtain rfl | rfl | rfl | rfl : cc = 0 ∨ cc = 1 ∨ cc = 2 ∨ cc = 3 := by omega
      · have hr := Lib.hid (show (bits .and .i64 mask 8 != 0) = pbr mask 0 from by rw [i64_bit 3 8 mask rfl (by omega) m0 (by omega)]; simp [pbr, t]; first | rfl | (show _ = (decide _ && decide _); simp) | simp [inr])
        have f1 : (bits .andNot .i64 0 3 == 0) = true := by decide
        clear t u c0 c1
        go_enter Try.func54, Try.ntmps54
        go_wp2
        go_ret
        exact ⟨by rw [← hr.out]; rfl, rfl⟩
      · have hr := Lib.hid (show (bits .and .i64 mask 4 != 0) = pbr mask 1 from by rw [i64_bit 2 4 mask rfl (by omega) m0 (by omega)]; simp [pbr, t]; first | rfl | (show _ = (decide _ && decide _); simp) | simp [inr])
        have f1 : (bits .andNot .i64 1 3 == 0) = true := by decide
        clear t u c0 c1
        go_enter Try.func54, Try.ntmps54
        go_wp2
        go_ret
        exact ⟨by rw [← hr.out]; rfl, rfl⟩
      · have hr := Lib.hid (show (bits .and .i64 mask 2 != 0) = pbr mask 2 from by rw [i64_bit 1 2 mask rfl (by omega) m0 (by omega)]; simp [pbr, t]; first | rfl | (show _ = (decide _ && decide _); simp) | simp [inr])
        have f1 : (bits .andNot .i64 2 3 == 0) = true := by decide
        clear t u c0 c1
        go_enter Try.func54, Try.ntmps54
        go_wp2
        go_ret
        exact ⟨by rw [← hr.out]; rfl, rfl⟩
      · have hr := Lib.hid (show (bits .and .i64 mask 1 != 0) = pbr mask 3 from by rw [i64_bit 0 1 mask rfl (by omega) m0 (by omega)]; simp [pbr, t]; first | rfl | (show _ = (decide _ && decide _); simp) | simp [inr])
        have f1 : (bits .andNot .i64 3 3 == 0) = true := by decide
        clear t u c0 c1
        go_enter Try.func54, Try.ntmps54
        go_wp2
        go_ret
        exact ⟨by rw [← hr.out]; rfl, rfl⟩

end Go.Proofs.Ythjdjbipfdigeaa
