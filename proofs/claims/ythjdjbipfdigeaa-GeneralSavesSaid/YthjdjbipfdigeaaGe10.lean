/- CONTRACT of the law's works. No conditions. -/
import Derived.Test.YthjdjbipfdigeaaGe8
import Derived.Test.YthjdjbipfdigeaaEqR
import Derived.Test.YthjdjbipfdigeaaEqP
import Derived.Test.YthjdjbipfdigeaaSt8
namespace Go.Proofs.Ythjdjbipfdigeaa
open Go.RowKit
set_option maxRecDepth 100000
set_option linter.unusedVariables false
set_option linter.unusedSimpArgs false
theorem eqp_refl (m k c i q g a : Int) (M W P : Bool) : eqpB m k c i q g a m k c i q g a M W P M W P = true := by simp [eqpB]
set_option maxRecDepth 1000000 in
set_option maxHeartbeats 4000000 in
theorem works_exec (sp : Nat) (w : World) : Calls Try.prog 14 #[.agg #[.int .i64 26, .int .i64 1, .int .i64 1, .int .i64 2, .int .i64 0, .int .i64 0, .int .i64 0, .int .i64 0, .int .i64 0, .int .i64 0, .int .i64 0, .int .i64 0], .agg #[.int .u32 0, .int .u32 2147483647, .int .u32 1, .int .u32 0, .int .u32 0, .int .u32 0, .int .u32 0, .int .u32 0, .int .u32 0, .int .u32 0, .int .u32 0, .int .u32 0, .int .u32 0, .int .u32 0, .int .u32 0, .int .u32 0], .agg #[.int .i64 0, .int .i64 0, .bool false, .bool false, .bool false, .int .i64 0, .int .i64 0, .int .i64 0, .int .i64 8, .int .i64 0], .pointer (some ⟨sp, 0, none⟩)] w fun e w' => e = .returned (.tuple #[.agg #[.int .u32 0, .int .u32 2147483648, .int .u32 1, .int .u32 0, .int .u32 0, .int .u32 0, .int .u32 0, .int .u32 0, .int .u32 0, .int .u32 0, .int .u32 0, .int .u32 0, .int .u32 0, .int .u32 0, .int .u32 0, .int .u32 0], .agg #[.int .i64 0, .int .i64 0, .bool false, .bool false, .bool false, .int .i64 0, .int .i64 0, .int .i64 3, .int .i64 8, .int .i64 0], .int .i64 8]) ∧ Below w.heap.size w w' := by
  refine (Exec_over 26 1 1 2 0 0 0 0 0 0 0 0 0 2147483647 1 0 0 0 0 0 0 0 0 0 0 0 0 0 0 0 false false false 0 0 0 8 0 sp [] (fun _ => True) 0 2147483648 1 0 0 0 0 0 0 0 0 0 0 0 0 0 0 0 false false false 0 0 3 8 0 true w (by decide +kernel) (by decide +kernel) (by decide +kernel) (by simp) (fun _ _ _ _ => trivial) (fun g W hg hb hm => ?_) rfl (by decide +kernel)).mono ?_
  · refine (exec_ar g 1 2 _ _ _ _ _ _ W hm rfl rfl rfl (by omega) rfl (by omega) (by decide)).mono ?_
    rintro e w' ⟨rfl, hM, hC⟩
    have e1 : lo32 (sg (2147483647 : Int) + sg 1) = 2147483648 := by decide
    have e2 : rcc (sg (2147483647 : Int) + sg 1) = 3 := by decide
    have e3 : ovf (sg (2147483647 : Int) + sg 1) = true := by decide
    have e4 : ([0, 2147483647, 1, 0, 0, 0, 0, 0, 0, 0, 0, 0, 0, 0, 0, 0] : List Int).getD 1 0 = 2147483647 := rfl
    have e5 : ([0, 2147483647, 1, 0, 0, 0, 0, 0, 0, 0, 0, 0, 0, 0, 0, 0] : List Int).getD 2 0 = 1 := rfl
    rw [e4, e5, e1, e2, e3] at hM
    exact ⟨rfl, hM, hC, trivial⟩
  · rintro e w' ⟨rfl, -, hc⟩
    exact ⟨rfl, hc.below (Nat.le_refl _) (by simp)⟩
attribute [local go_sem] eqr_run eqr_guard eqr_refl eqp_run eqp_guard eqp_refl
set_option maxRecDepth 1000000 in
set_option maxHeartbeats 4000000 in
theorem works_c (w : World) : Calls Try.prog 13 #[] w fun e w' => e = .returned (.bool true) ∧ Below w.heap.size w w' := by
  have NC := Lib.hid (new_yes 1 (by omega) (by omega) w)
  rw [show (((2048 * 1 : Nat) : Int)) = 2048 from rfl] at NC
  have EC := Lib.hid works_exec
  go_enter Try.func13, Try.ntmps13
  go_wp2_with fail
  refine NC.out.mono ?_
  rintro e w1 ⟨v, rfl, F, rfl, hS, hb, -, -, -⟩
  have HB1 := Lib.hid hb
  clear hS hb NC
  go_wp2_with (go_at_call 14; refine (EC.out _ _).mono ?_; rintro e w2 ⟨rfl, hb⟩; have HB2 := Lib.hid (HB1.out.trans (hb.mono HB1.out.size)); clear hb)
  go_ret
  trace_state
  exact ⟨by rfl, (HB2.out.alloc HB2.out.size _).alloc (by simp; have := HB2.out.size; omega) _⟩
end Go.Proofs.Ythjdjbipfdigeaa
