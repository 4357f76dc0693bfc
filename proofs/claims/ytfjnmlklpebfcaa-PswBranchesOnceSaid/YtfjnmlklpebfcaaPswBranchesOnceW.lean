/- THE WALK of PswBranchesOnce: it returns true and writes nothing that was there. No conditions but the input's own ranges. -/
import Derived.Test.YtfjnmlklpebfcaaPwL
import Derived.Test.YtfjnmlklpebfcaaRow
namespace Go.Proofs.Ytfjnmlklpebfcaa
open Go.RowKit
set_option linter.unusedVariables false
set_option linter.unusedSimpArgs false

set_option maxHeartbeats 1000000 in
theorem pswBranchesOnce_core (mask cc : Int) (h1 : -9223372036854775808 ≤ mask) (h2 : mask ≤ 9223372036854775807) (h3 : -9223372036854775808 ≤ cc) (h4 : cc ≤ 9223372036854775807) (w : World) : Calls Try.prog 10 #[.int .i64 mask, .int .i64 cc] w fun e w' => e = .returned (.bool true) ∧ Below w.heap.size w w' := by
  have f0 : bits .and .i64 mask 15 = mask % 16 := i64_lowx 4 15 mask rfl (by omega)
  have f1 : bits .and .i64 cc 3 = cc % 4 := i64_lowx 2 3 cc rfl (by omega)
  obtain ⟨m, hm⟩ : ∃ m, mask % 16 = m := ⟨_, rfl⟩
  obtain ⟨c, hc⟩ : ∃ c, cc % 4 = c := ⟨_, rfl⟩
  have m0 : 0 ≤ m := by omega
  have m1 : m ≤ 15 := by omega
  have c0 : 0 ≤ c := by omega
  have c1 : c ≤ 3 := by omega
  rw [hm] at f0
  rw [hc] at f1
  clear hm hc
  obtain ⟨x0, x1⟩ := branches_once m c m0 m1 c0 c1
  cases t : pbr m c
  all_goals
    rw [t] at x0
    first | (have x2 : pbr (15 - m) c = true := by simpa using x0) | (have x2 : pbr (15 - m) c = false := by simpa using x0)
    clear x0
    go_enter Try.func10, Try.ntmps10
    go_wp2_with fail
    refine (branch_c (m) (c) (by omega) (by omega) (by omega) (by omega) _).mono ?_
    rintro e w1 ⟨rfl, rfl⟩
    go_wp2_with fail
    refine (branch_c (15 - m) (c) (by omega) (by omega) (by omega) (by omega) _).mono ?_
    rintro e w1 ⟨rfl, rfl⟩
    go_wp2_with fail
    refine (branch_c (15) (c) (by omega) (by omega) (by omega) (by omega) _).mono ?_
    rintro e w1 ⟨rfl, rfl⟩
    go_wp2_with fail
    refine (works_c _).mono ?_
    rintro e w2 ⟨rfl, hb⟩
    have HB2 := Lib.hid hb
    clear hb
    go_wp2_with fail
    go_ret
    exact ⟨rfl, HB2.out⟩

theorem pswBranchesOnce_walk (mask : Int) (cc : Int) (w : World) (w0 : (Lit.int .i64 mask).wf = true) (w1 : (Lit.int .i64 cc).wf = true) :
    Calls Try.prog 10 #[.int .i64 mask, .int .i64 cc] w fun e w' => e = .returned (.bool true) ∧ Below w.heap.size w w' := by
  have l0 := (bounds_i64 w0).1
  have u0 := (bounds_i64 w0).2
  have l1 := (bounds_i64 w1).1
  have u1 := (bounds_i64 w1).2
  exact pswBranchesOnce_core mask cc l0 u0 l1 u1 w
end Go.Proofs.Ytfjnmlklpebfcaa
