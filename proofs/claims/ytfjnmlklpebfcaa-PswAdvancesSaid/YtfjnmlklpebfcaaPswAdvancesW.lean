/- THE WALK of PswAdvances: it returns true and writes nothing that was there. No conditions but the input's own ranges. -/
import Derived.Test.YtfjnmlklpebfcaaPwK
import Derived.Test.YtfjnmlklpebfcaaPwG
import Derived.Test.YtfjnmlklpebfcaaKp
import Derived.Deep.RegionHeld3
import Derived.Test.YtfjnmlklpebfcaaRow
namespace Go.Proofs.Ytfjnmlklpebfcaa
open Go.RowKit
set_option linter.unusedVariables false
set_option linter.unusedSimpArgs false

attribute [local go_sem] eqp_run eqp_guard eqp_refl
set_option maxRecDepth 100000 in
set_option maxHeartbeats 4000000 in
theorem pswAdvances_core (m k : Int) (M W P : Bool) (c i q g a : Int) (n : Int) (w : World) : Calls Try.prog 7 #[.agg #[.int .i64 m, .int .i64 k, .bool M, .bool W, .bool P, .int .i64 c, .int .i64 i, .int .i64 q, .int .i64 g, .int .i64 a], .int .i64 n] w fun e w' => e = .returned (.bool true) ∧ Below w.heap.size w w' := by
  go_enter Try.func7, Try.ntmps7
  go_wp2
  have h0 := (show Below w.heap.size w ((w.alloc (.cells #[.int .i64 m, .int .i64 k, .bool M, .bool W, .bool P, .int .i64 c, .int .i64 i, .int .i64 q, .int .i64 g, .int .i64 a] 23)).drew) from dBelow ((Below.refl w.heap.size w).alloc (Nat.le_refl _) _) 1)
  go_region_held3 (fun w' => w'.cell? ⟨w.heap.size, 0, none⟩ = some (.int .i64 m) ∧ w'.cell? ⟨w.heap.size, 1, none⟩ = some (.int .i64 k) ∧ w'.cell? ⟨w.heap.size, 2, none⟩ = some (.bool M) ∧ w'.cell? ⟨w.heap.size, 3, none⟩ = some (.bool W) ∧ w'.cell? ⟨w.heap.size, 4, none⟩ = some (.bool P) ∧ w'.cell? ⟨w.heap.size, 5, none⟩ = some (.int .i64 c) ∧ w'.cell? ⟨w.heap.size, 6, none⟩ = some (.int .i64 i) ∧ w'.cell? ⟨w.heap.size, 7, none⟩ = some (.int .i64 q) ∧ w'.cell? ⟨w.heap.size, 8, none⟩ = some (.int .i64 g) ∧ w'.cell? ⟨w.heap.size, 9, none⟩ = some (.int .i64 a) ∧ Below w.heap.size w w')
    (first | go_keep | (go_split_ands; refine ⟨?_, ?_, ?_, ?_, ?_, ?_, ?_, ?_, ?_, ?_, ?_⟩ <;> first | exact bcell_keep (by assumption) (by assumption) | exact bbelow_keep (by assumption) (Nat.le_refl _) (by assumption)))
    (first
      | (go_at_call 24; refine (advance_d m k M W P c i q g a n _).mono ?_; rintro e w1 ⟨rfl, hb⟩)
      | (go_at_call 25; refine (radvance_d m k M W P c i q g a n _).mono ?_; rintro e w1 ⟨rfl, hb⟩)
      | (go_at_call 17; refine (works_c _).mono ?_; rintro e w1 ⟨rfl, hb⟩))
  go_wp2
  go_ret
  go_split_ands
  exact ⟨by simp, by assumption⟩

theorem pswAdvances_walk (m : Int) (k : Int) (M : Bool) (W : Bool) (P : Bool) (c : Int) (i : Int) (q : Int) (g : Int) (a : Int) (n : Int) (w : World) (w0_0 : (Lit.int .i64 m).wf = true) (w0_1 : (Lit.int .i64 k).wf = true) (w0_5 : (Lit.int .i64 c).wf = true) (w0_6 : (Lit.int .i64 i).wf = true) (w0_7 : (Lit.int .i64 q).wf = true) (w0_8 : (Lit.int .i64 g).wf = true) (w0_9 : (Lit.int .i64 a).wf = true) (w1 : (Lit.int .i64 n).wf = true) :
    Calls Try.prog 7 #[.agg #[.int .i64 m, .int .i64 k, .bool M, .bool W, .bool P, .int .i64 c, .int .i64 i, .int .i64 q, .int .i64 g, .int .i64 a], .int .i64 n] w fun e w' => e = .returned (.bool true) ∧ Below w.heap.size w w' := by
  exact pswAdvances_core m k M W P c i q g a n w
end Go.Proofs.Ytfjnmlklpebfcaa
