/- THE WALK of PswEncodes: it returns true and writes nothing that was there. No conditions but the input's own ranges. -/
import Derived.Test.YtfjnmlklpebfcaaPwK
import Derived.Test.YtfjnmlklpebfcaaPwG
import Derived.Test.YtfjnmlklpebfcaaKp
import Derived.Deep.RegionHeld3
import Derived.Test.YtfjnmlklpebfcaaRow
namespace Go.Proofs.Ytfjnmlklpebfcaa
open Go.RowKit
set_option linter.unusedVariables false
set_option linter.unusedSimpArgs false

set_option maxRecDepth 100000 in
set_option maxHeartbeats 4000000 in
theorem pswEncodes_core (m k : Int) (M W P : Bool) (c i q g a : Int) (w : World) : Calls Try.prog 3 #[.agg #[.int .i64 m, .int .i64 k, .bool M, .bool W, .bool P, .int .i64 c, .int .i64 i, .int .i64 q, .int .i64 g, .int .i64 a]] w fun e w' => e = .returned (.bool true) ∧ Below w.heap.size w w' := by
  go_enter Try.func3, Try.ntmps3
  go_wp2_with fail
  refine (encode_c m k M W P c i q g a _).mono ?_
  rintro e w1 ⟨A, n, rfl, hy, hn, hA, hb⟩
  obtain ⟨zs, hzs⟩ : ∃ zs, (if pok m k c i q g a = true then penc m k M W P c i q g a else []) = zs := ⟨_, rfl⟩
  rw [hzs] at hy
  have Y := Lib.hid hy
  have Z := Lib.hid hzs
  have B1 := Lib.hid (show Below w.heap.size w w1 from ((Below.refl w.heap.size w).alloc (Nat.le_refl _) _).trans (hb.mono (by simp)))
  have c0 : w1.cell? ⟨w.heap.size, 0, none⟩ = some (.int .i64 m) := bcell_keep (w := (w.alloc (.cells #[.int .i64 m, .int .i64 k, .bool M, .bool W, .bool P, .int .i64 c, .int .i64 i, .int .i64 q, .int .i64 g, .int .i64 a] 23))) (by first | assumption | simp) hb
  have c1 : w1.cell? ⟨w.heap.size, 1, none⟩ = some (.int .i64 k) := bcell_keep (w := (w.alloc (.cells #[.int .i64 m, .int .i64 k, .bool M, .bool W, .bool P, .int .i64 c, .int .i64 i, .int .i64 q, .int .i64 g, .int .i64 a] 23))) (by first | assumption | simp) hb
  have c2 : w1.cell? ⟨w.heap.size, 2, none⟩ = some (.bool M) := bcell_keep (w := (w.alloc (.cells #[.int .i64 m, .int .i64 k, .bool M, .bool W, .bool P, .int .i64 c, .int .i64 i, .int .i64 q, .int .i64 g, .int .i64 a] 23))) (by first | assumption | simp) hb
  have c3 : w1.cell? ⟨w.heap.size, 3, none⟩ = some (.bool W) := bcell_keep (w := (w.alloc (.cells #[.int .i64 m, .int .i64 k, .bool M, .bool W, .bool P, .int .i64 c, .int .i64 i, .int .i64 q, .int .i64 g, .int .i64 a] 23))) (by first | assumption | simp) hb
  have c4 : w1.cell? ⟨w.heap.size, 4, none⟩ = some (.bool P) := bcell_keep (w := (w.alloc (.cells #[.int .i64 m, .int .i64 k, .bool M, .bool W, .bool P, .int .i64 c, .int .i64 i, .int .i64 q, .int .i64 g, .int .i64 a] 23))) (by first | assumption | simp) hb
  have c5 : w1.cell? ⟨w.heap.size, 5, none⟩ = some (.int .i64 c) := bcell_keep (w := (w.alloc (.cells #[.int .i64 m, .int .i64 k, .bool M, .bool W, .bool P, .int .i64 c, .int .i64 i, .int .i64 q, .int .i64 g, .int .i64 a] 23))) (by first | assumption | simp) hb
  have c6 : w1.cell? ⟨w.heap.size, 6, none⟩ = some (.int .i64 i) := bcell_keep (w := (w.alloc (.cells #[.int .i64 m, .int .i64 k, .bool M, .bool W, .bool P, .int .i64 c, .int .i64 i, .int .i64 q, .int .i64 g, .int .i64 a] 23))) (by first | assumption | simp) hb
  have c7 : w1.cell? ⟨w.heap.size, 7, none⟩ = some (.int .i64 q) := bcell_keep (w := (w.alloc (.cells #[.int .i64 m, .int .i64 k, .bool M, .bool W, .bool P, .int .i64 c, .int .i64 i, .int .i64 q, .int .i64 g, .int .i64 a] 23))) (by first | assumption | simp) hb
  have c8 : w1.cell? ⟨w.heap.size, 8, none⟩ = some (.int .i64 g) := bcell_keep (w := (w.alloc (.cells #[.int .i64 m, .int .i64 k, .bool M, .bool W, .bool P, .int .i64 c, .int .i64 i, .int .i64 q, .int .i64 g, .int .i64 a] 23))) (by first | assumption | simp) hb
  have c9 : w1.cell? ⟨w.heap.size, 9, none⟩ = some (.int .i64 a) := bcell_keep (w := (w.alloc (.cells #[.int .i64 m, .int .i64 k, .bool M, .bool W, .bool P, .int .i64 c, .int .i64 i, .int .i64 q, .int .i64 g, .int .i64 a] 23))) (by first | assumption | simp) hb
  clear hb hy hA hzs
  go_wp2_with fail
  refine (rencode_c m k M W P c i q g a _).mono ?_
  rintro e w2 ⟨A2, n2, rfl, hy, hn2, hA, hb⟩
  rw [Z.out] at hy
  have h0 := (show Below w.heap.size w w2.drew from dBelow (B1.out.trans (hb.mono B1.out.size)) 1)
  have y1 : BytI w2.drew A n zs := ⟨(show Byt (w2.drewN 1) A n zs from (Y.out.keep hb).drewN 1)⟩
  have y2 : BytI w2.drew A2 n2 zs := ⟨hy⟩
  have d0 : w2.cell? ⟨w.heap.size, 0, none⟩ = some (.int .i64 m) := bcell_keep (w := w1) (by first | assumption | simp) hb
  have d1 : w2.cell? ⟨w.heap.size, 1, none⟩ = some (.int .i64 k) := bcell_keep (w := w1) (by first | assumption | simp) hb
  have d2 : w2.cell? ⟨w.heap.size, 2, none⟩ = some (.bool M) := bcell_keep (w := w1) (by first | assumption | simp) hb
  have d3 : w2.cell? ⟨w.heap.size, 3, none⟩ = some (.bool W) := bcell_keep (w := w1) (by first | assumption | simp) hb
  have d4 : w2.cell? ⟨w.heap.size, 4, none⟩ = some (.bool P) := bcell_keep (w := w1) (by first | assumption | simp) hb
  have d5 : w2.cell? ⟨w.heap.size, 5, none⟩ = some (.int .i64 c) := bcell_keep (w := w1) (by first | assumption | simp) hb
  have d6 : w2.cell? ⟨w.heap.size, 6, none⟩ = some (.int .i64 i) := bcell_keep (w := w1) (by first | assumption | simp) hb
  have d7 : w2.cell? ⟨w.heap.size, 7, none⟩ = some (.int .i64 q) := bcell_keep (w := w1) (by first | assumption | simp) hb
  have d8 : w2.cell? ⟨w.heap.size, 8, none⟩ = some (.int .i64 g) := bcell_keep (w := w1) (by first | assumption | simp) hb
  have d9 : w2.cell? ⟨w.heap.size, 9, none⟩ = some (.int .i64 a) := bcell_keep (w := w1) (by first | assumption | simp) hb
  clear hb hy hA Y Z B1
  go_wp2_with fail
  go_region_held3 (fun w' => w'.cell? ⟨w.heap.size, 0, none⟩ = some (.int .i64 m) ∧ w'.cell? ⟨w.heap.size, 1, none⟩ = some (.int .i64 k) ∧ w'.cell? ⟨w.heap.size, 2, none⟩ = some (.bool M) ∧ w'.cell? ⟨w.heap.size, 3, none⟩ = some (.bool W) ∧ w'.cell? ⟨w.heap.size, 4, none⟩ = some (.bool P) ∧ w'.cell? ⟨w.heap.size, 5, none⟩ = some (.int .i64 c) ∧ w'.cell? ⟨w.heap.size, 6, none⟩ = some (.int .i64 i) ∧ w'.cell? ⟨w.heap.size, 7, none⟩ = some (.int .i64 q) ∧ w'.cell? ⟨w.heap.size, 8, none⟩ = some (.int .i64 g) ∧ w'.cell? ⟨w.heap.size, 9, none⟩ = some (.int .i64 a) ∧ BytI w' A n zs ∧ BytI w' A2 n2 zs ∧ Below w.heap.size w w')
    (first | go_keep | (go_split_ands; refine ⟨?_, ?_, ?_, ?_, ?_, ?_, ?_, ?_, ?_, ?_, ?_, ?_, ?_⟩ <;> first | exact bcell_keep (by assumption) (by assumption) | exact BytI.keep (by assumption) (by assumption) | exact bbelow_keep (by assumption) (Nat.le_refl _) (by assumption)))
    (first
      | (go_at_call 14; refine (valid_c m k M W P c i q g a _).mono ?_; rintro e w1 ⟨rfl, hb⟩)
      | (go_at_call 15; refine (rvalid_c m k M W P c i q g a _).mono ?_; rintro e w1 ⟨rfl, hb⟩)
      | (go_at_call 16; refine (same_c A n n zs A2 n2 n2 zs _ (BytI.out (by go_split_ands; assumption)) (BytI.out (by go_split_ands; assumption)) (by omega) (by omega)).mono ?_; rintro e w1 ⟨rfl, nn, hw1⟩; have hb := below_of_drew hw1; clear hw1)
      | (go_at_call 17; refine (works_c _).mono ?_; rintro e w1 ⟨rfl, hb⟩))
  go_wp2
  go_ret
  go_split_ands
  exact ⟨by simp, by assumption⟩

theorem pswEncodes_walk (m : Int) (k : Int) (M : Bool) (W : Bool) (P : Bool) (c : Int) (i : Int) (q : Int) (g : Int) (a : Int) (w : World) (w0_0 : (Lit.int .i64 m).wf = true) (w0_1 : (Lit.int .i64 k).wf = true) (w0_5 : (Lit.int .i64 c).wf = true) (w0_6 : (Lit.int .i64 i).wf = true) (w0_7 : (Lit.int .i64 q).wf = true) (w0_8 : (Lit.int .i64 g).wf = true) (w0_9 : (Lit.int .i64 a).wf = true) :
    Calls Try.prog 3 #[.agg #[.int .i64 m, .int .i64 k, .bool M, .bool W, .bool P, .int .i64 c, .int .i64 i, .int .i64 q, .int .i64 g, .int .i64 a]] w fun e w' => e = .returned (.bool true) ∧ Below w.heap.size w w' := by
  exact pswEncodes_core m k M W P c i q g a w
end Go.Proofs.Ytfjnmlklpebfcaa
