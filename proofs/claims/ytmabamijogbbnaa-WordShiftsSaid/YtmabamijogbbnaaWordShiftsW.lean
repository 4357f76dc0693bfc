/- THE WALK of WordShifts: whatever the words, it returns true and writes nothing that was there. No conditions. -/
import Derived.Test.YtmabamijogbbnaaWdC6
import Derived.OpenShut
namespace Go.Proofs.Ytmabamijogbbnaa
open Go.RowKit Go.ChangeShapes Go.WideShapes
set_option linter.unusedVariables false

set_option maxHeartbeats 1000000 in
theorem wordShifts_walk (a0 : Int) (a1 : Int) (a2 : Bool) (w : World) (w0 : (Lit.int .u32 a0).wf = true) (w1 : (Lit.int .i64 a1).wf = true) :
    Calls Try.prog 14 #[.int .u32 a0, .int .i64 a1, .bool a2] w fun e w' => e = .returned (.bool true) ∧ Below w.heap.size w w' := by
  have la0 := (bounds_u32 w0).1
  have ua0 := (bounds_u32 w0).2
  have la1 := (bounds_i64 w1).1
  have ua1 := (bounds_i64 w1).2
  clear w0 w1
  go_enter Try.func14, Try.ntmps14
  go_wp2_with (first | (go_at_call 18; refine (works_c _).mono ?_; rintro e w1 ⟨rfl, hb⟩) | (go_at_call 61; refine (shiftla_c _ _ (by omega) (by omega) (by omega) (by omega) _).mono ?_; rintro e w' ⟨rfl, rfl⟩) | (go_at_call 62; refine (rshiftla_c _ _ (by omega) (by omega) (by omega) (by omega) _).mono ?_; rintro e w' ⟨rfl, rfl⟩) | (go_at_call 60; refine (shiftr_c _ _ (by omega) (by omega) (by omega) (by omega) _).mono ?_; rintro e w' ⟨rfl, rfl⟩) | (go_at_call 63; refine (rshiftr_c _ _ (by omega) (by omega) (by omega) (by omega) _).mono ?_; rintro e w' ⟨rfl, rfl⟩) | (go_at_call 64; refine (shiftl_c _ _ _ (by omega) (by omega) (by omega) (by omega) _).mono ?_; rintro e w' ⟨rfl, rfl⟩) | (go_at_call 65; refine (rshiftl_c _ _ _ (by omega) (by omega) (by omega) (by omega) _).mono ?_; rintro e w' ⟨rfl, rfl⟩))
  go_ret
  exact ⟨rfl, hb⟩
end Go.Proofs.Ytmabamijogbbnaa
