/- CONTRACT of the reference's Own. No conditions. -/
import Derived.Test.YtfbcjpbfggbhfaaIsA
import Derived.Test.YtfbcjpbfggbhfaaIsR1
import Derived.Deep.Cut
import Derived.BigRegion
namespace Go.Proofs.Ytfbcjpbfggbhfaa
open Go.RowKit
set_option linter.unusedVariables false
set_option linter.unusedSimpArgs false
set_option maxRecDepth 1000000 in
set_option maxHeartbeats 4000000 in
theorem own_5 (op r1 r2 x2 b1 d1 b2 d2 l1 l2 i2 : Int) (w : World) : Calls Try.prog 36 #[.agg #[.int .i64 op, .int .i64 5, .int .i64 r1, .int .i64 r2, .int .i64 x2, .int .i64 b1, .int .i64 d1, .int .i64 b2, .int .i64 d2, .int .i64 l1, .int .i64 l2, .int .i64 i2]] w fun e w' => e = .returned (.agg #[.int .i64 op, .int .i64 5, .int .i64 0, .int .i64 0, .int .i64 0, .int .i64 b1, .int .i64 d1, .int .i64 b2, .int .i64 d2, .int .i64 l1, .int .i64 0, .int .i64 0]) ∧ Below w.heap.size w w' := by
  go_enter Try.func36, Try.ntmps36
  go_upto_region 2 with fail
  have HB := Lib.hid (show Below w.heap.size w (((w.alloc (.cells #[.int .i64 op, .int .i64 5, .int .i64 r1, .int .i64 r2, .int .i64 x2, .int .i64 b1, .int .i64 d1, .int .i64 b2, .int .i64 d2, .int .i64 l1, .int .i64 l2, .int .i64 i2] 28)).alloc (.cells #[.int .i64 0, .int .i64 0, .int .i64 0, .int .i64 0, .int .i64 0, .int .i64 0, .int .i64 0, .int .i64 0, .int .i64 0, .int .i64 0, .int .i64 0, .int .i64 0] 28)).alloc (.cells #[.int .i64 op, .int .i64 5, .int .i64 0, .int .i64 0, .int .i64 0, .int .i64 0, .int .i64 0, .int .i64 0, .int .i64 0, .int .i64 0, .int .i64 0, .int .i64 0] 28)) from (((Below.refl _ _).alloc (Nat.le_refl _) _).alloc (by simp) _).alloc (by simp; omega) _)
  have q0 : Blk (((w.alloc (.cells #[.int .i64 op, .int .i64 5, .int .i64 r1, .int .i64 r2, .int .i64 x2, .int .i64 b1, .int .i64 d1, .int .i64 b2, .int .i64 d2, .int .i64 l1, .int .i64 l2, .int .i64 i2] 28)).alloc (.cells #[.int .i64 0, .int .i64 0, .int .i64 0, .int .i64 0, .int .i64 0, .int .i64 0, .int .i64 0, .int .i64 0, .int .i64 0, .int .i64 0, .int .i64 0, .int .i64 0] 28)).alloc (.cells #[.int .i64 op, .int .i64 5, .int .i64 0, .int .i64 0, .int .i64 0, .int .i64 0, .int .i64 0, .int .i64 0, .int .i64 0, .int .i64 0, .int .i64 0, .int .i64 0] 28)) w.heap.size 28 [op, 5, r1, r2, x2, b1, d1, b2, d2, l1, l2, i2] := by refine Blk.alloc (Blk.alloc ?_ _) _; exact heap_alloc_new w _
  have q1 : Blk (((w.alloc (.cells #[.int .i64 op, .int .i64 5, .int .i64 r1, .int .i64 r2, .int .i64 x2, .int .i64 b1, .int .i64 d1, .int .i64 b2, .int .i64 d2, .int .i64 l1, .int .i64 l2, .int .i64 i2] 28)).alloc (.cells #[.int .i64 0, .int .i64 0, .int .i64 0, .int .i64 0, .int .i64 0, .int .i64 0, .int .i64 0, .int .i64 0, .int .i64 0, .int .i64 0, .int .i64 0, .int .i64 0] 28)).alloc (.cells #[.int .i64 op, .int .i64 5, .int .i64 0, .int .i64 0, .int .i64 0, .int .i64 0, .int .i64 0, .int .i64 0, .int .i64 0, .int .i64 0, .int .i64 0, .int .i64 0] 28)) (w.heap.size + 1) 28 [0, 0, 0, 0, 0, 0, 0, 0, 0, 0, 0, 0] := by refine Blk.alloc ?_ _; exact heap_alloc2_new w _ _
  have q2 : Blk (((w.alloc (.cells #[.int .i64 op, .int .i64 5, .int .i64 r1, .int .i64 r2, .int .i64 x2, .int .i64 b1, .int .i64 d1, .int .i64 b2, .int .i64 d2, .int .i64 l1, .int .i64 l2, .int .i64 i2] 28)).alloc (.cells #[.int .i64 0, .int .i64 0, .int .i64 0, .int .i64 0, .int .i64 0, .int .i64 0, .int .i64 0, .int .i64 0, .int .i64 0, .int .i64 0, .int .i64 0, .int .i64 0] 28)).alloc (.cells #[.int .i64 op, .int .i64 5, .int .i64 0, .int .i64 0, .int .i64 0, .int .i64 0, .int .i64 0, .int .i64 0, .int .i64 0, .int .i64 0, .int .i64 0, .int .i64 0] 28)) (w.heap.size + 1 + 1) 28 [op, 5, 0, 0, 0, 0, 0, 0, 0, 0, 0, 0] := by
    have := heap_alloc2_new (w.alloc (.cells #[.int .i64 op, .int .i64 5, .int .i64 r1, .int .i64 r2, .int .i64 x2, .int .i64 b1, .int .i64 d1, .int .i64 b2, .int .i64 d2, .int .i64 l1, .int .i64 l2, .int .i64 i2] 28)) (.cells #[.int .i64 0, .int .i64 0, .int .i64 0, .int .i64 0, .int .i64 0, .int .i64 0, .int .i64 0, .int .i64 0, .int .i64 0, .int .i64 0, .int .i64 0, .int .i64 0] 28) (.cells #[.int .i64 op, .int .i64 5, .int .i64 0, .int .i64 0, .int .i64 0, .int .i64 0, .int .i64 0, .int .i64 0, .int .i64 0, .int .i64 0, .int .i64 0, .int .i64 0] 28)
    rw [show (w.alloc (.cells #[.int .i64 op, .int .i64 5, .int .i64 r1, .int .i64 r2, .int .i64 x2, .int .i64 b1, .int .i64 d1, .int .i64 b2, .int .i64 d2, .int .i64 l1, .int .i64 l2, .int .i64 i2] 28)).heap.size = w.heap.size + 1 from by simp] at this; exact this
  obtain ⟨W0, hW0⟩ : ∃ W0, (((w.alloc (.cells #[.int .i64 op, .int .i64 5, .int .i64 r1, .int .i64 r2, .int .i64 x2, .int .i64 b1, .int .i64 d1, .int .i64 b2, .int .i64 d2, .int .i64 l1, .int .i64 l2, .int .i64 i2] 28)).alloc (.cells #[.int .i64 0, .int .i64 0, .int .i64 0, .int .i64 0, .int .i64 0, .int .i64 0, .int .i64 0, .int .i64 0, .int .i64 0, .int .i64 0, .int .i64 0, .int .i64 0] 28)).alloc (.cells #[.int .i64 op, .int .i64 5, .int .i64 0, .int .i64 0, .int .i64 0, .int .i64 0, .int .i64 0, .int .i64 0, .int .i64 0, .int .i64 0, .int .i64 0, .int .i64 0] 28)) = W0 := ⟨_, rfl⟩
  rw [hW0] at HB q0 q1 q2 ⊢
  clear hW0
  have c1 : W0.cell? ⟨w.heap.size, 1, none⟩ = some (.int .i64 5) := q0.cell (c := 1) (by simp)
  have c5 : W0.cell? ⟨w.heap.size, 5, none⟩ = some (.int .i64 b1) := q0.cell (c := 5) (by simp)
  have c6 : W0.cell? ⟨w.heap.size, 6, none⟩ = some (.int .i64 d1) := q0.cell (c := 6) (by simp)
  have c7 : W0.cell? ⟨w.heap.size, 7, none⟩ = some (.int .i64 b2) := q0.cell (c := 7) (by simp)
  have c8 : W0.cell? ⟨w.heap.size, 8, none⟩ = some (.int .i64 d2) := q0.cell (c := 8) (by simp)
  have c9 : W0.cell? ⟨w.heap.size, 9, none⟩ = some (.int .i64 l1) := q0.cell (c := 9) (by simp)
  have e0 : W0.cell? ⟨w.heap.size + 1 + 1, 0, none⟩ = some (.int .i64 op) := q2.cell (c := 0) (by simp)
  have e1 : W0.cell? ⟨w.heap.size + 1 + 1, 1, none⟩ = some (.int .i64 5) := q2.cell (c := 1) (by simp)
  have e2 : W0.cell? ⟨w.heap.size + 1 + 1, 2, none⟩ = some (.int .i64 0) := q2.cell (c := 2) (by simp)
  have e3 : W0.cell? ⟨w.heap.size + 1 + 1, 3, none⟩ = some (.int .i64 0) := q2.cell (c := 3) (by simp)
  have e4 : W0.cell? ⟨w.heap.size + 1 + 1, 4, none⟩ = some (.int .i64 0) := q2.cell (c := 4) (by simp)
  have e5 : W0.cell? ⟨w.heap.size + 1 + 1, 5, none⟩ = some (.int .i64 0) := q2.cell (c := 5) (by simp)
  have e6 : W0.cell? ⟨w.heap.size + 1 + 1, 6, none⟩ = some (.int .i64 0) := q2.cell (c := 6) (by simp)
  have e7 : W0.cell? ⟨w.heap.size + 1 + 1, 7, none⟩ = some (.int .i64 0) := q2.cell (c := 7) (by simp)
  have e8 : W0.cell? ⟨w.heap.size + 1 + 1, 8, none⟩ = some (.int .i64 0) := q2.cell (c := 8) (by simp)
  have e9 : W0.cell? ⟨w.heap.size + 1 + 1, 9, none⟩ = some (.int .i64 0) := q2.cell (c := 9) (by simp)
  have e10 : W0.cell? ⟨w.heap.size + 1 + 1, 10, none⟩ = some (.int .i64 0) := q2.cell (c := 10) (by simp)
  have e11 : W0.cell? ⟨w.heap.size + 1 + 1, 11, none⟩ = some (.int .i64 0) := q2.cell (c := 11) (by simp)
  have f9 := q2.free 9
  have f5 := q2.free 5
  have f6 := q2.free 6
  have f7 := q2.free 7
  have f8 := q2.free 8
  have HQ := Lib.hid (And.intro q0 (And.intro q1 q2))
  clear q0 q1 q2
  go_upto_region 18 with fail
  go_region
  go_upto_region 21 with fail
  have Q0 := Lib.hid HQ.out.2
  obtain ⟨W1, hW1⟩ : ∃ W1, (((((W0.setCell ⟨w.heap.size + 1 + 1, 9, none⟩ (.int .i64 l1)).setCell ⟨w.heap.size + 1 + 1, 5, none⟩ (.int .i64 b1)).setCell ⟨w.heap.size + 1 + 1, 6, none⟩ (.int .i64 d1)).setCell ⟨w.heap.size + 1 + 1, 7, none⟩ (.int .i64 b2)).setCell ⟨w.heap.size + 1 + 1, 8, none⟩ (.int .i64 d2)).drew = W1 := ⟨_, rfl⟩
  rw [hW1]
  have HB1 : Below w.heap.size w W1 := by rw [← hW1]; exact dBelow' (((((HB.out.setCell (p := ⟨w.heap.size + 1 + 1, 9, none⟩) (by simp; omega) (.int .i64 l1)).setCell (p := ⟨w.heap.size + 1 + 1, 5, none⟩) (by simp; omega) (.int .i64 b1)).setCell (p := ⟨w.heap.size + 1 + 1, 6, none⟩) (by simp; omega) (.int .i64 d1)).setCell (p := ⟨w.heap.size + 1 + 1, 7, none⟩) (by simp; omega) (.int .i64 b2)).setCell (p := ⟨w.heap.size + 1 + 1, 8, none⟩) (by simp; omega) (.int .i64 d2)) 1
  have p1 : Blk W1 (w.heap.size + 1) 28 [0, 0, 0, 0, 0, 0, 0, 0, 0, 0, 0, 0] := by rw [← hW1]; exact Blk.drewN (((((Q0.out.1.other (p := ⟨w.heap.size + 1 + 1, 9, none⟩) (.int .i64 l1) (by simp)).other (p := ⟨w.heap.size + 1 + 1, 5, none⟩) (.int .i64 b1) (by simp)).other (p := ⟨w.heap.size + 1 + 1, 6, none⟩) (.int .i64 d1) (by simp)).other (p := ⟨w.heap.size + 1 + 1, 7, none⟩) (.int .i64 b2) (by simp)).other (p := ⟨w.heap.size + 1 + 1, 8, none⟩) (.int .i64 d2) (by simp)) 1
  have p2 : Blk W1 (w.heap.size + 1 + 1) 28 [op, 5, 0, 0, 0, b1, d1, b2, d2, l1, 0, 0] := by rw [← hW1]; exact Blk.drewN (((((Q0.out.2.set_ 9 l1).set_ 5 b1).set_ 6 d1).set_ 7 b2).set_ 8 d2) 1
  clear hW1 Q0 HQ HB c5 c6 c7 c8 c9 e0 e1 e2 e3 e4 e5 e6 e7 e8 e9 e10 e11 f9 f5 f6 f7 f8
  have a0 : W1.cell? ⟨w.heap.size + 1 + 1, 0, none⟩ = some (.int .i64 op) := p2.cell (c := 0) (by simp)
  have z0 : W1.cell? ⟨w.heap.size + 1, 0, none⟩ = some (.int .i64 0) := p1.cell (c := 0) (by simp)
  have y0 := p1.free 0
  have a1 : W1.cell? ⟨w.heap.size + 1 + 1, 1, none⟩ = some (.int .i64 5) := p2.cell (c := 1) (by simp)
  have z1 : W1.cell? ⟨w.heap.size + 1, 1, none⟩ = some (.int .i64 0) := p1.cell (c := 1) (by simp)
  have y1 := p1.free 1
  have a2 : W1.cell? ⟨w.heap.size + 1 + 1, 2, none⟩ = some (.int .i64 0) := p2.cell (c := 2) (by simp)
  have z2 : W1.cell? ⟨w.heap.size + 1, 2, none⟩ = some (.int .i64 0) := p1.cell (c := 2) (by simp)
  have y2 := p1.free 2
  have a3 : W1.cell? ⟨w.heap.size + 1 + 1, 3, none⟩ = some (.int .i64 0) := p2.cell (c := 3) (by simp)
  have z3 : W1.cell? ⟨w.heap.size + 1, 3, none⟩ = some (.int .i64 0) := p1.cell (c := 3) (by simp)
  have y3 := p1.free 3
  have a4 : W1.cell? ⟨w.heap.size + 1 + 1, 4, none⟩ = some (.int .i64 0) := p2.cell (c := 4) (by simp)
  have z4 : W1.cell? ⟨w.heap.size + 1, 4, none⟩ = some (.int .i64 0) := p1.cell (c := 4) (by simp)
  have y4 := p1.free 4
  have a5 : W1.cell? ⟨w.heap.size + 1 + 1, 5, none⟩ = some (.int .i64 b1) := p2.cell (c := 5) (by simp)
  have z5 : W1.cell? ⟨w.heap.size + 1, 5, none⟩ = some (.int .i64 0) := p1.cell (c := 5) (by simp)
  have y5 := p1.free 5
  have a6 : W1.cell? ⟨w.heap.size + 1 + 1, 6, none⟩ = some (.int .i64 d1) := p2.cell (c := 6) (by simp)
  have z6 : W1.cell? ⟨w.heap.size + 1, 6, none⟩ = some (.int .i64 0) := p1.cell (c := 6) (by simp)
  have y6 := p1.free 6
  have a7 : W1.cell? ⟨w.heap.size + 1 + 1, 7, none⟩ = some (.int .i64 b2) := p2.cell (c := 7) (by simp)
  have z7 : W1.cell? ⟨w.heap.size + 1, 7, none⟩ = some (.int .i64 0) := p1.cell (c := 7) (by simp)
  have y7 := p1.free 7
  have a8 : W1.cell? ⟨w.heap.size + 1 + 1, 8, none⟩ = some (.int .i64 d2) := p2.cell (c := 8) (by simp)
  have z8 : W1.cell? ⟨w.heap.size + 1, 8, none⟩ = some (.int .i64 0) := p1.cell (c := 8) (by simp)
  have y8 := p1.free 8
  have a9 : W1.cell? ⟨w.heap.size + 1 + 1, 9, none⟩ = some (.int .i64 l1) := p2.cell (c := 9) (by simp)
  have z9 : W1.cell? ⟨w.heap.size + 1, 9, none⟩ = some (.int .i64 0) := p1.cell (c := 9) (by simp)
  have y9 := p1.free 9
  have a10 : W1.cell? ⟨w.heap.size + 1 + 1, 10, none⟩ = some (.int .i64 0) := p2.cell (c := 10) (by simp)
  have z10 : W1.cell? ⟨w.heap.size + 1, 10, none⟩ = some (.int .i64 0) := p1.cell (c := 10) (by simp)
  have y10 := p1.free 10
  have a11 : W1.cell? ⟨w.heap.size + 1 + 1, 11, none⟩ = some (.int .i64 0) := p2.cell (c := 11) (by simp)
  have z11 : W1.cell? ⟨w.heap.size + 1, 11, none⟩ = some (.int .i64 0) := p1.cell (c := 11) (by simp)
  have y11 := p1.free 11
  have HP := Lib.hid (And.intro HB1 p1)
  clear HB1 p1 p2
  go_wp2
  refine bodyPost_ret (results_cell_row Try.results36 _ _ (w.heap.size + 1) 28 _ (0, 0) _ rfl (blk_sets12 HP.out.2 rfl op 5 0 0 0 b1 d1 b2 d2 l1 0 0) Try.underlying28 rfl (by kernel_rfl)) rfl ?_
  exact ⟨rfl, below_sets12 HP.out.1 (by omega) op 5 0 0 0 b1 d1 b2 d2 l1 0 0⟩
end Go.Proofs.Ytfbcjpbfggbhfaa
