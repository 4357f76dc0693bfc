/- THE WALK of PswBranches: it returns true and writes nothing that was there. No conditions but the input's own ranges. -/
import Derived.Test.YtfjnmlklpebfcaaPwK
import Derived.Test.YtfjnmlklpebfcaaPwG
import Derived.Test.YtfjnmlklpebfcaaKp
import Derived.Deep.RegionHeld3
import Derived.Test.YtfjnmlklpebfcaaRow
namespace Go.Proofs.Ytfjnmlklpebfcaa
open Go.RowKit
set_option linter.unusedVariables false
set_option linter.unusedSimpArgs false

set_option maxHeartbeats 1000000 in
theorem pswBranches_core (mask cc : Int) (h1 : -9223372036854775808 ≤ mask) (h2 : mask ≤ 9223372036854775807) (h3 : -9223372036854775808 ≤ cc) (h4 : cc ≤ 9223372036854775807) (w : World) : Calls Try.prog 5 #[.int .i64 mask, .int .i64 cc] w fun e w' => e = .returned (.bool true) ∧ Below w.heap.size w w' := by
  go_enter Try.func5, Try.ntmps5
  go_wp2_with fail
  refine (branch_c mask cc h1 h2 h3 h4 _).mono ?_
  rintro e w1 ⟨rfl, rfl⟩
  go_wp2_with fail
  refine (rbranch_c mask cc _).mono ?_
  rintro e w1 ⟨rfl, hb⟩
  have HB := Lib.hid hb
  clear hb
  go_wp2_with fail
  refine (works_c _).mono ?_
  rintro e w2 ⟨rfl, hb⟩
  have HB2 := Lib.hid hb
  clear hb
  go_wp2_with fail
  go_ret
  exact ⟨rfl, HB.out.trans (HB2.out.mono HB.out.size)⟩

theorem pswBranches_walk (mask : Int) (cc : Int) (w : World) (w0 : (Lit.int .i64 mask).wf = true) (w1 : (Lit.int .i64 cc).wf = true) :
    Calls Try.prog 5 #[.int .i64 mask, .int .i64 cc] w fun e w' => e = .returned (.bool true) ∧ Below w.heap.size w w' := by
  have l0 := (bounds_i64 w0).1
  have u0 := (bounds_i64 w0).2
  have l1 := (bounds_i64 w1).1
  have u1 := (bounds_i64 w1).2
  exact pswBranches_core mask cc l0 u0 l1 u1 w
end Go.Proofs.Ytfjnmlklpebfcaa
