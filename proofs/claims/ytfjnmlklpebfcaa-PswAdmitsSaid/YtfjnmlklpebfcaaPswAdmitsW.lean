/- THE WALK of PswAdmits: it returns true and writes nothing that was there. No conditions but the input's own ranges. -/
import Derived.Test.YtfjnmlklpebfcaaPwJ
import Derived.Test.YtfjnmlklpebfcaaPwG
import Derived.Test.YtfjnmlklpebfcaaKp
import Derived.Deep.RegionHeld3
import Derived.Test.YtfjnmlklpebfcaaRow
namespace Go.Proofs.Ytfjnmlklpebfcaa
open Go.RowKit
set_option linter.unusedVariables false
set_option linter.unusedSimpArgs false

set_option maxRecDepth 100000 in
set_option maxHeartbeats 4000000 in
theorem pswAdmits_core (m k : Int) (M W P : Bool) (c i q g a : Int) (cl code ch : Int) (w : World) : Calls Try.prog 6 #[.agg #[.int .i64 m, .int .i64 k, .bool M, .bool W, .bool P, .int .i64 c, .int .i64 i, .int .i64 q, .int .i64 g, .int .i64 a], .agg #[.int .i64 cl, .int .i64 code, .int .i64 ch]] w fun e w' => e = .returned (.bool true) ∧ Below w.heap.size w w' := by
  go_enter Try.func6, Try.ntmps6
  go_wp2
  have h0 := (show Below w.heap.size w (((w.alloc (.cells #[.int .i64 m, .int .i64 k, .bool M, .bool W, .bool P, .int .i64 c, .int .i64 i, .int .i64 q, .int .i64 g, .int .i64 a] 23)).alloc (.cells #[.int .i64 cl, .int .i64 code, .int .i64 ch] 35)).drew) from dBelow (((Below.refl w.heap.size w).alloc (Nat.le_refl _) _).alloc (by simp) _) 1)
  go_region_held3 (fun w' => w'.cell? ⟨w.heap.size, 0, none⟩ = some (.int .i64 m) ∧ w'.cell? ⟨w.heap.size, 1, none⟩ = some (.int .i64 k) ∧ w'.cell? ⟨w.heap.size, 2, none⟩ = some (.bool M) ∧ w'.cell? ⟨w.heap.size, 3, none⟩ = some (.bool W) ∧ w'.cell? ⟨w.heap.size, 4, none⟩ = some (.bool P) ∧ w'.cell? ⟨w.heap.size, 5, none⟩ = some (.int .i64 c) ∧ w'.cell? ⟨w.heap.size, 6, none⟩ = some (.int .i64 i) ∧ w'.cell? ⟨w.heap.size, 7, none⟩ = some (.int .i64 q) ∧ w'.cell? ⟨w.heap.size, 8, none⟩ = some (.int .i64 g) ∧ w'.cell? ⟨w.heap.size, 9, none⟩ = some (.int .i64 a) ∧ w'.cell? ⟨w.heap.size + 1, 0, none⟩ = some (.int .i64 cl) ∧ w'.cell? ⟨w.heap.size + 1, 1, none⟩ = some (.int .i64 code) ∧ w'.cell? ⟨w.heap.size + 1, 2, none⟩ = some (.int .i64 ch) ∧ Below w.heap.size w w')
    (first | go_keep | (go_split_ands; refine ⟨?_, ?_, ?_, ?_, ?_, ?_, ?_, ?_, ?_, ?_, ?_, ?_, ?_, ?_⟩ <;> first | exact bcell_keep (by assumption) (by assumption) | exact bbelow_keep (by assumption) (Nat.le_refl _) (by assumption)))
    (first
      | (go_at_call 22; refine (admits_c m k M W P c i q g a cl code ch _).mono ?_; rintro e w1 ⟨rfl, hb⟩)
      | (go_at_call 23; refine (radmits_c m k M W P c i q g a cl code ch _).mono ?_; rintro e w1 ⟨rfl, hb⟩)
      | (go_at_call 17; refine (works_c _).mono ?_; rintro e w1 ⟨rfl, hb⟩))
  go_wp2
  go_ret
  go_split_ands
  exact ⟨by simp, by assumption⟩

theorem pswAdmits_walk (m : Int) (k : Int) (M : Bool) (W : Bool) (P : Bool) (c : Int) (i : Int) (q : Int) (g : Int) (a : Int) (cl : Int) (code : Int) (ch : Int) (w : World) (w0_0 : (Lit.int .i64 m).wf = true) (w0_1 : (Lit.int .i64 k).wf = true) (w0_5 : (Lit.int .i64 c).wf = true) (w0_6 : (Lit.int .i64 i).wf = true) (w0_7 : (Lit.int .i64 q).wf = true) (w0_8 : (Lit.int .i64 g).wf = true) (w0_9 : (Lit.int .i64 a).wf = true) (w1_0 : (Lit.int .i64 cl).wf = true) (w1_1 : (Lit.int .i64 code).wf = true) (w1_2 : (Lit.int .i64 ch).wf = true) :
    Calls Try.prog 6 #[.agg #[.int .i64 m, .int .i64 k, .bool M, .bool W, .bool P, .int .i64 c, .int .i64 i, .int .i64 q, .int .i64 g, .int .i64 a], .agg #[.int .i64 cl, .int .i64 code, .int .i64 ch]] w fun e w' => e = .returned (.bool true) ∧ Below w.heap.size w w' := by
  exact pswAdmits_core m k M W P c i q g a cl code ch w
end Go.Proofs.Ytfjnmlklpebfcaa
