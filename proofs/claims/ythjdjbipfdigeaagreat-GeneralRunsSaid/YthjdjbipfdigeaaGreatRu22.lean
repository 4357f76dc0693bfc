/- Contracts and laws on the way to the statement, text 22 of 24. Conditions: as each states them. -/
import Derived.Test.YthjdjbipfdigeaaGreatRu19
import Derived.Test.YthjdjbipfdigeaaGreatRu20
import Derived.Test.YthjdjbipfdigeaaGreatRu21
import Derived.Deep.Cut
import Derived.BigRegion
namespace Go.Proofs.YthjdjbipfdigeaaGreat
open Go.RowKit
set_option linter.unusedVariables false
set_option linter.unusedSimpArgs false
set_option maxRecDepth 1000000 in
set_option maxHeartbeats 4000000 in
theorem own_4 (op r1 r2 x2 b1 d1 b2 d2 l1 l2 i2 : Int) (w : World) : Calls Tryz.prog 52 #[.agg #[.int .i64 op, .int .i64 4, .int .i64 r1, .int .i64 r2, .int .i64 x2, .int .i64 b1, .int .i64 d1, .int .i64 b2, .int .i64 d2, .int .i64 l1, .int .i64 l2, .int .i64 i2]] w fun e w' => e = .returned (.agg #[.int .i64 op, .int .i64 4, .int .i64 0, .int .i64 0, .int .i64 0, .int .i64 b1, .int .i64 d1, .int .i64 0, .int .i64 0, .int .i64 0, .int .i64 0, .int .i64 i2]) ∧ Below w.heap.size w w' := by
  go_enter Tryz.func52, Tryz.ntmps52
  go_upto_region 2 with fail
  have HB := Lib.hid (show Below w.heap.size w (((w.alloc (.cells #[.int .i64 op, .int .i64 4, .int .i64 r1, .int .i64 r2, .int .i64 x2, .int .i64 b1, .int .i64 d1, .int .i64 b2, .int .i64 d2, .int .i64 l1, .int .i64 l2, .int .i64 i2] 23)).alloc (.cells #[.int .i64 0, .int .i64 0, .int .i64 0, .int .i64 0, .int .i64 0, .int .i64 0, .int .i64 0, .int .i64 0, .int .i64 0, .int .i64 0, .int .i64 0, .int .i64 0] 23)).alloc (.cells #[.int .i64 op, .int .i64 4, .int .i64 0, .int .i64 0, .int .i64 0, .int .i64 0, .int .i64 0, .int .i64 0, .int .i64 0, .int .i64 0, .int .i64 0, .int .i64 0] 23)) from (((Below.refl _ _).alloc (Nat.le_refl _) _).alloc (by simp) _).alloc (by simp; omega) _)
  have q0 : Blk (((w.alloc (.cells #[.int .i64 op, .int .i64 4, .int .i64 r1, .int .i64 r2, .int .i64 x2, .int .i64 b1, .int .i64 d1, .int .i64 b2, .int .i64 d2, .int .i64 l1, .int .i64 l2, .int .i64 i2] 23)).alloc (.cells #[.int .i64 0, .int .i64 0, .int .i64 0, .int .i64 0, .int .i64 0, .int .i64 0, .int .i64 0, .int .i64 0, .int .i64 0, .int .i64 0, .int .i64 0, .int .i64 0] 23)).alloc (.cells #[.int .i64 op, .int .i64 4, .int .i64 0, .int .i64 0, .int .i64 0, .int .i64 0, .int .i64 0, .int .i64 0, .int .i64 0, .int .i64 0, .int .i64 0, .int .i64 0] 23)) w.heap.size 23 [op, 4, r1, r2, x2, b1, d1, b2, d2, l1, l2, i2] := by refine Blk.alloc (Blk.alloc ?_ _) _; exact heap_alloc_new w _
  have q1 : Blk (((w.alloc (.cells #[.int .i64 op, .int .i64 4, .int .i64 r1, .int .i64 r2, .int .i64 x2, .int .i64 b1, .int .i64 d1, .int .i64 b2, .int .i64 d2, .int .i64 l1, .int .i64 l2, .int .i64 i2] 23)).alloc (.cells #[.int .i64 0, .int .i64 0, .int .i64 0, .int .i64 0, .int .i64 0, .int .i64 0, .int .i64 0, .int .i64 0, .int .i64 0, .int .i64 0, .int .i64 0, .int .i64 0] 23)).alloc (.cells #[.int .i64 op, .int .i64 4, .int .i64 0, .int .i64 0, .int .i64 0, .int .i64 0, .int .i64 0, .int .i64 0, .int .i64 0, .int .i64 0, .int .i64 0, .int .i64 0] 23)) (w.heap.size + 1) 23 [0, 0, 0, 0, 0, 0, 0, 0, 0, 0, 0, 0] := by refine Blk.alloc ?_ _; exact heap_alloc2_new w _ _
  have q2 : Blk (((w.alloc (.cells #[.int .i64 op, .int .i64 4, .int .i64 r1, .int .i64 r2, .int .i64 x2, .int .i64 b1, .int .i64 d1, .int .i64 b2, .int .i64 d2, .int .i64 l1, .int .i64 l2, .int .i64 i2] 23)).alloc (.cells #[.int .i64 0, .int .i64 0, .int .i64 0, .int .i64 0, .int .i64 0, .int .i64 0, .int .i64 0, .int .i64 0, .int .i64 0, .int .i64 0, .int .i64 0, .int .i64 0] 23)).alloc (.cells #[.int .i64 op, .int .i64 4, .int .i64 0, .int .i64 0, .int .i64 0, .int .i64 0, .int .i64 0, .int .i64 0, .int .i64 0, .int .i64 0, .int .i64 0, .int .i64 0] 23)) (w.heap.size + 1 + 1) 23 [op, 4, 0, 0, 0, 0, 0, 0, 0, 0, 0, 0] := by
    have := heap_alloc2_new (w.alloc (.cells #[.int .i64 op, .int .i64 4, .int .i64 r1, .int .i64 r2, .int .i64 x2, .int .i64 b1, .int .i64 d1, .int .i64 b2, .int .i64 d2, .int .i64 l1, .int .i64 l2, .int .i64 i2] 23)) (.cells #[.int .i64 0, .int .i64 0, .int .i64 0, .int .i64 0, .int .i64 0, .int .i64 0, .int .i64 0, .int .i64 0, .int .i64 0, .int .i64 0, .int .i64 0, .int .i64 0] 23) (.cells #[.int .i64 op, .int .i64 4, .int .i64 0, .int .i64 0, .int .i64 0, .int .i64 0, .int .i64 0, .int .i64 0, .int .i64 0, .int .i64 0, .int .i64 0, .int .i64 0] 23)
    rw [show (w.alloc (.cells #[.int .i64 op, .int .i64 4, .int .i64 r1, .int .i64 r2, .int .i64 x2, .int .i64 b1, .int .i64 d1, .int .i64 b2, .int .i64 d2, .int .i64 l1, .int .i64 l2, .int .i64 i2] 23)).heap.size = w.heap.size + 1 from by simp] at this; exact this
  obtain ⟨W0, hW0⟩ : ∃ W0, (((w.alloc (.cells #[.int .i64 op, .int .i64 4, .int .i64 r1, .int .i64 r2, .int .i64 x2, .int .i64 b1, .int .i64 d1, .int .i64 b2, .int .i64 d2, .int .i64 l1, .int .i64 l2, .int .i64 i2] 23)).alloc (.cells #[.int .i64 0, .int .i64 0, .int .i64 0, .int .i64 0, .int .i64 0, .int .i64 0, .int .i64 0, .int .i64 0, .int .i64 0, .int .i64 0, .int .i64 0, .int .i64 0] 23)).alloc (.cells #[.int .i64 op, .int .i64 4, .int .i64 0, .int .i64 0, .int .i64 0, .int .i64 0, .int .i64 0, .int .i64 0, .int .i64 0, .int .i64 0, .int .i64 0, .int .i64 0] 23)) = W0 := ⟨_, rfl⟩
  rw [hW0] at HB q0 q1 q2 ⊢
  clear hW0
  have c1 : W0.cell? ⟨w.heap.size, 1, none⟩ = some (.int .i64 4) := q0.cell (c := 1) (by simp)
  have c5 : W0.cell? ⟨w.heap.size, 5, none⟩ = some (.int .i64 b1) := q0.cell (c := 5) (by simp)
  have c6 : W0.cell? ⟨w.heap.size, 6, none⟩ = some (.int .i64 d1) := q0.cell (c := 6) (by simp)
  have c11 : W0.cell? ⟨w.heap.size, 11, none⟩ = some (.int .i64 i2) := q0.cell (c := 11) (by simp)
  have e0 : W0.cell? ⟨w.heap.size + 1 + 1, 0, none⟩ = some (.int .i64 op) := q2.cell (c := 0) (by simp)
  have e1 : W0.cell? ⟨w.heap.size + 1 + 1, 1, none⟩ = some (.int .i64 4) := q2.cell (c := 1) (by simp)
  have e2 : W0.cell? ⟨w.heap.size + 1 + 1, 2, none⟩ = some (.int .i64 0) := q2.cell (c := 2) (by simp)
  have e3 : W0.cell? ⟨w.heap.size + 1 + 1, 3, none⟩ = some (.int .i64 0) := q2.cell (c := 3) (by simp)
  have e4 : W0.cell? ⟨w.heap.size + 1 + 1, 4, none⟩ = some (.int .i64 0) := q2.cell (c := 4) (by simp)
  have e5 : W0.cell? ⟨w.heap.size + 1 + 1, 5, none⟩ = some (.int .i64 0) := q2.cell (c := 5) (by simp)
  have e6 : W0.cell? ⟨w.heap.size + 1 + 1, 6, none⟩ = some (.int .i64 0) := q2.cell (c := 6) (by simp)
  have e7 : W0.cell? ⟨w.heap.size + 1 + 1, 7, none⟩ = some (.int .i64 0) := q2.cell (c := 7) (by simp)
  have e8 : W0.cell? ⟨w.heap.size + 1 + 1, 8, none⟩ = some (.int .i64 0) := q2.cell (c := 8) (by simp)
  have e9 : W0.cell? ⟨w.heap.size + 1 + 1, 9, none⟩ = some (.int .i64 0) := q2.cell (c := 9) (by simp)
  have e10 : W0.cell? ⟨w.heap.size + 1 + 1, 10, none⟩ = some (.int .i64 0) := q2.cell (c := 10) (by simp)
  have e11 : W0.cell? ⟨w.heap.size + 1 + 1, 11, none⟩ = some (.int .i64 0) := q2.cell (c := 11) (by simp)
  have f11 := q2.free 11
  have f5 := q2.free 5
  have f6 := q2.free 6
  have HQ := Lib.hid (And.intro q0 (And.intro q1 q2))
  clear q0 q1 q2
  go_upto_region 14 with fail
  go_region
  go_upto_region 21 with fail
  have Q0 := Lib.hid HQ.out.2
  obtain ⟨W1, hW1⟩ : ∃ W1, (((W0.setCell ⟨w.heap.size + 1 + 1, 11, none⟩ (.int .i64 i2)).setCell ⟨w.heap.size + 1 + 1, 5, none⟩ (.int .i64 b1)).setCell ⟨w.heap.size + 1 + 1, 6, none⟩ (.int .i64 d1)).drew = W1 := ⟨_, rfl⟩
  rw [hW1]
  have HB1 : Below w.heap.size w W1 := by rw [← hW1]; exact dBelow' (((HB.out.setCell (p := ⟨w.heap.size + 1 + 1, 11, none⟩) (by simp; omega) (.int .i64 i2)).setCell (p := ⟨w.heap.size + 1 + 1, 5, none⟩) (by simp; omega) (.int .i64 b1)).setCell (p := ⟨w.heap.size + 1 + 1, 6, none⟩) (by simp; omega) (.int .i64 d1)) 1
  have p1 : Blk W1 (w.heap.size + 1) 23 [0, 0, 0, 0, 0, 0, 0, 0, 0, 0, 0, 0] := by rw [← hW1]; exact Blk.drewN (((Q0.out.1.other (p := ⟨w.heap.size + 1 + 1, 11, none⟩) (.int .i64 i2) (by simp)).other (p := ⟨w.heap.size + 1 + 1, 5, none⟩) (.int .i64 b1) (by simp)).other (p := ⟨w.heap.size + 1 + 1, 6, none⟩) (.int .i64 d1) (by simp)) 1
  have p2 : Blk W1 (w.heap.size + 1 + 1) 23 [op, 4, 0, 0, 0, b1, d1, 0, 0, 0, 0, i2] := by rw [← hW1]; exact Blk.drewN (((Q0.out.2.set_ 11 i2).set_ 5 b1).set_ 6 d1) 1
  clear hW1 Q0 HQ HB c5 c6 c11 e0 e1 e2 e3 e4 e5 e6 e7 e8 e9 e10 e11 f11 f5 f6
  have a0 : W1.cell? ⟨w.heap.size + 1 + 1, 0, none⟩ = some (.int .i64 op) := p2.cell (c := 0) (by simp)
  have z0 : W1.cell? ⟨w.heap.size + 1, 0, none⟩ = some (.int .i64 0) := p1.cell (c := 0) (by simp)
  have y0 := p1.free 0
  have a1 : W1.cell? ⟨w.heap.size + 1 + 1, 1, none⟩ = some (.int .i64 4) := p2.cell (c := 1) (by simp)
  have z1 : W1.cell? ⟨w.heap.size + 1, 1, none⟩ = some (.int .i64 0) := p1.cell (c := 1) (by simp)
  have y1 := p1.free 1
  have a2 : W1.cell? ⟨w.heap.size + 1 + 1, 2, none⟩ = some (.int .i64 0) := p2.cell (c := 2) (by simp)
  have z2 : W1.cell? ⟨w.heap.size + 1, 2, none⟩ = some (.int .i64 0) := p1.cell (c := 2) (by simp)
  have y2 := p1.free 2
  have a3 : W1.cell? ⟨w.heap.size + 1 + 1, 3, none⟩ = some (.int .i64 0) := p2.cell (c := 3) (by simp)
  have z3 : W1.cell? ⟨w.heap.size + 1, 3, none⟩ = some (.int .i64 0) := p1.cell (c := 3) (by simp)
  have y3 := p1.free 3
  have a4 : W1.cell? ⟨w.heap.size + 1 + 1, 4, none⟩ = some (.int .i64 0) := p2.cell (c := 4) (by simp)
  have z4 : W1.cell? ⟨w.heap.size + 1, 4, none⟩ = some (.int .i64 0) := p1.cell (c := 4) (by simp)
  have y4 := p1.free 4
  have a5 : W1.cell? ⟨w.heap.size + 1 + 1, 5, none⟩ = some (.int .i64 b1) := p2.cell (c := 5) (by simp)
  have z5 : W1.cell? ⟨w.heap.size + 1, 5, none⟩ = some (.int .i64 0) := p1.cell (c := 5) (by simp)
  have y5 := p1.free 5
  have a6 : W1.cell? ⟨w.heap.size + 1 + 1, 6, none⟩ = some (.int .i64 d1) := p2.cell (c := 6) (by simp)
  have z6 : W1.cell? ⟨w.heap.size + 1, 6, none⟩ = some (.int .i64 0) := p1.cell (c := 6) (by simp)
  have y6 := p1.free 6
  have a7 : W1.cell? ⟨w.heap.size + 1 + 1, 7, none⟩ = some (.int .i64 0) := p2.cell (c := 7) (by simp)
  have z7 : W1.cell? ⟨w.heap.size + 1, 7, none⟩ = some (.int .i64 0) := p1.cell (c := 7) (by simp)
  have y7 := p1.free 7
  have a8 : W1.cell? ⟨w.heap.size + 1 + 1, 8, none⟩ = some (.int .i64 0) := p2.cell (c := 8) (by simp)
  have z8 : W1.cell? ⟨w.heap.size + 1, 8, none⟩ = some (.int .i64 0) := p1.cell (c := 8) (by simp)
  have y8 := p1.free 8
  have a9 : W1.cell? ⟨w.heap.size + 1 + 1, 9, none⟩ = some (.int .i64 0) := p2.cell (c := 9) (by simp)
  have z9 : W1.cell? ⟨w.heap.size + 1, 9, none⟩ = some (.int .i64 0) := p1.cell (c := 9) (by simp)
  have y9 := p1.free 9
  have a10 : W1.cell? ⟨w.heap.size + 1 + 1, 10, none⟩ = some (.int .i64 0) := p2.cell (c := 10) (by simp)
  have z10 : W1.cell? ⟨w.heap.size + 1, 10, none⟩ = some (.int .i64 0) := p1.cell (c := 10) (by simp)
  have y10 := p1.free 10
  have a11 : W1.cell? ⟨w.heap.size + 1 + 1, 11, none⟩ = some (.int .i64 i2) := p2.cell (c := 11) (by simp)
  have z11 : W1.cell? ⟨w.heap.size + 1, 11, none⟩ = some (.int .i64 0) := p1.cell (c := 11) (by simp)
  have y11 := p1.free 11
  have HP := Lib.hid (And.intro HB1 p1)
  clear HB1 p1 p2
  go_wp2
  refine bodyPost_ret (results_cell_row Tryz.results52 _ _ (w.heap.size + 1) 23 _ (0, 0) _ rfl (blk_sets12 HP.out.2 rfl op 4 0 0 0 b1 d1 0 0 0 0 i2) Tryz.underlying23 rfl (by kernel_rfl)) rfl ?_
  exact ⟨rfl, below_sets12 HP.out.1 (by omega) op 4 0 0 0 b1 d1 0 0 0 0 i2⟩
set_option maxRecDepth 1000000 in
set_option maxHeartbeats 4000000 in
theorem own_9 (op r1 r2 x2 b1 d1 b2 d2 l1 l2 i2 : Int) (w : World) : Calls Tryz.prog 52 #[.agg #[.int .i64 op, .int .i64 9, .int .i64 r1, .int .i64 r2, .int .i64 x2, .int .i64 b1, .int .i64 d1, .int .i64 b2, .int .i64 d2, .int .i64 l1, .int .i64 l2, .int .i64 i2]] w fun e w' => e = .returned (.agg #[.int .i64 op, .int .i64 9, .int .i64 0, .int .i64 0, .int .i64 0, .int .i64 b1, .int .i64 d1, .int .i64 0, .int .i64 0, .int .i64 0, .int .i64 0, .int .i64 0]) ∧ Below w.heap.size w w' := by
  go_enter Tryz.func52, Tryz.ntmps52
  go_upto_region 2 with fail
  have HB := Lib.hid (show Below w.heap.size w (((w.alloc (.cells #[.int .i64 op, .int .i64 9, .int .i64 r1, .int .i64 r2, .int .i64 x2, .int .i64 b1, .int .i64 d1, .int .i64 b2, .int .i64 d2, .int .i64 l1, .int .i64 l2, .int .i64 i2] 23)).alloc (.cells #[.int .i64 0, .int .i64 0, .int .i64 0, .int .i64 0, .int .i64 0, .int .i64 0, .int .i64 0, .int .i64 0, .int .i64 0, .int .i64 0, .int .i64 0, .int .i64 0] 23)).alloc (.cells #[.int .i64 op, .int .i64 9, .int .i64 0, .int .i64 0, .int .i64 0, .int .i64 0, .int .i64 0, .int .i64 0, .int .i64 0, .int .i64 0, .int .i64 0, .int .i64 0] 23)) from (((Below.refl _ _).alloc (Nat.le_refl _) _).alloc (by simp) _).alloc (by simp; omega) _)
  have q0 : Blk (((w.alloc (.cells #[.int .i64 op, .int .i64 9, .int .i64 r1, .int .i64 r2, .int .i64 x2, .int .i64 b1, .int .i64 d1, .int .i64 b2, .int .i64 d2, .int .i64 l1, .int .i64 l2, .int .i64 i2] 23)).alloc (.cells #[.int .i64 0, .int .i64 0, .int .i64 0, .int .i64 0, .int .i64 0, .int .i64 0, .int .i64 0, .int .i64 0, .int .i64 0, .int .i64 0, .int .i64 0, .int .i64 0] 23)).alloc (.cells #[.int .i64 op, .int .i64 9, .int .i64 0, .int .i64 0, .int .i64 0, .int .i64 0, .int .i64 0, .int .i64 0, .int .i64 0, .int .i64 0, .int .i64 0, .int .i64 0] 23)) w.heap.size 23 [op, 9, r1, r2, x2, b1, d1, b2, d2, l1, l2, i2] := by refine Blk.alloc (Blk.alloc ?_ _) _; exact heap_alloc_new w _
  have q1 : Blk (((w.alloc (.cells #[.int .i64 op, .int .i64 9, .int .i64 r1, .int .i64 r2, .int .i64 x2, .int .i64 b1, .int .i64 d1, .int .i64 b2, .int .i64 d2, .int .i64 l1, .int .i64 l2, .int .i64 i2] 23)).alloc (.cells #[.int .i64 0, .int .i64 0, .int .i64 0, .int .i64 0, .int .i64 0, .int .i64 0, .int .i64 0, .int .i64 0, .int .i64 0, .int .i64 0, .int .i64 0, .int .i64 0] 23)).alloc (.cells #[.int .i64 op, .int .i64 9, .int .i64 0, .int .i64 0, .int .i64 0, .int .i64 0, .int .i64 0, .int .i64 0, .int .i64 0, .int .i64 0, .int .i64 0, .int .i64 0] 23)) (w.heap.size + 1) 23 [0, 0, 0, 0, 0, 0, 0, 0, 0, 0, 0, 0] := by refine Blk.alloc ?_ _; exact heap_alloc2_new w _ _
  have q2 : Blk (((w.alloc (.cells #[.int .i64 op, .int .i64 9, .int .i64 r1, .int .i64 r2, .int .i64 x2, .int .i64 b1, .int .i64 d1, .int .i64 b2, .int .i64 d2, .int .i64 l1, .int .i64 l2, .int .i64 i2] 23)).alloc (.cells #[.int .i64 0, .int .i64 0, .int .i64 0, .int .i64 0, .int .i64 0, .int .i64 0, .int .i64 0, .int .i64 0, .int .i64 0, .int .i64 0, .int .i64 0, .int .i64 0] 23)).alloc (.cells #[.int .i64 op, .int .i64 9, .int .i64 0, .int .i64 0, .int .i64 0, .int .i64 0, .int .i64 0, .int .i64 0, .int .i64 0, .int .i64 0, .int .i64 0, .int .i64 0] 23)) (w.heap.size + 1 + 1) 23 [op, 9, 0, 0, 0, 0, 0, 0, 0, 0, 0, 0] := by
    have := heap_alloc2_new (w.alloc (.cells #[.int .i64 op, .int .i64 9, .int .i64 r1, .int .i64 r2, .int .i64 x2, .int .i64 b1, .int .i64 d1, .int .i64 b2, .int .i64 d2, .int .i64 l1, .int .i64 l2, .int .i64 i2] 23)) (.cells #[.int .i64 0, .int .i64 0, .int .i64 0, .int .i64 0, .int .i64 0, .int .i64 0, .int .i64 0, .int .i64 0, .int .i64 0, .int .i64 0, .int .i64 0, .int .i64 0] 23) (.cells #[.int .i64 op, .int .i64 9, .int .i64 0, .int .i64 0, .int .i64 0, .int .i64 0, .int .i64 0, .int .i64 0, .int .i64 0, .int .i64 0, .int .i64 0, .int .i64 0] 23)
    rw [show (w.alloc (.cells #[.int .i64 op, .int .i64 9, .int .i64 r1, .int .i64 r2, .int .i64 x2, .int .i64 b1, .int .i64 d1, .int .i64 b2, .int .i64 d2, .int .i64 l1, .int .i64 l2, .int .i64 i2] 23)).heap.size = w.heap.size + 1 from by simp] at this; exact this
  obtain ⟨W0, hW0⟩ : ∃ W0, (((w.alloc (.cells #[.int .i64 op, .int .i64 9, .int .i64 r1, .int .i64 r2, .int .i64 x2, .int .i64 b1, .int .i64 d1, .int .i64 b2, .int .i64 d2, .int .i64 l1, .int .i64 l2, .int .i64 i2] 23)).alloc (.cells #[.int .i64 0, .int .i64 0, .int .i64 0, .int .i64 0, .int .i64 0, .int .i64 0, .int .i64 0, .int .i64 0, .int .i64 0, .int .i64 0, .int .i64 0, .int .i64 0] 23)).alloc (.cells #[.int .i64 op, .int .i64 9, .int .i64 0, .int .i64 0, .int .i64 0, .int .i64 0, .int .i64 0, .int .i64 0, .int .i64 0, .int .i64 0, .int .i64 0, .int .i64 0] 23)) = W0 := ⟨_, rfl⟩
  rw [hW0] at HB q0 q1 q2 ⊢
  clear hW0
  have c1 : W0.cell? ⟨w.heap.size, 1, none⟩ = some (.int .i64 9) := q0.cell (c := 1) (by simp)
  have c5 : W0.cell? ⟨w.heap.size, 5, none⟩ = some (.int .i64 b1) := q0.cell (c := 5) (by simp)
  have c6 : W0.cell? ⟨w.heap.size, 6, none⟩ = some (.int .i64 d1) := q0.cell (c := 6) (by simp)
  have e0 : W0.cell? ⟨w.heap.size + 1 + 1, 0, none⟩ = some (.int .i64 op) := q2.cell (c := 0) (by simp)
  have e1 : W0.cell? ⟨w.heap.size + 1 + 1, 1, none⟩ = some (.int .i64 9) := q2.cell (c := 1) (by simp)
  have e2 : W0.cell? ⟨w.heap.size + 1 + 1, 2, none⟩ = some (.int .i64 0) := q2.cell (c := 2) (by simp)
  have e3 : W0.cell? ⟨w.heap.size + 1 + 1, 3, none⟩ = some (.int .i64 0) := q2.cell (c := 3) (by simp)
  have e4 : W0.cell? ⟨w.heap.size + 1 + 1, 4, none⟩ = some (.int .i64 0) := q2.cell (c := 4) (by simp)
  have e5 : W0.cell? ⟨w.heap.size + 1 + 1, 5, none⟩ = some (.int .i64 0) := q2.cell (c := 5) (by simp)
  have e6 : W0.cell? ⟨w.heap.size + 1 + 1, 6, none⟩ = some (.int .i64 0) := q2.cell (c := 6) (by simp)
  have e7 : W0.cell? ⟨w.heap.size + 1 + 1, 7, none⟩ = some (.int .i64 0) := q2.cell (c := 7) (by simp)
  have e8 : W0.cell? ⟨w.heap.size + 1 + 1, 8, none⟩ = some (.int .i64 0) := q2.cell (c := 8) (by simp)
  have e9 : W0.cell? ⟨w.heap.size + 1 + 1, 9, none⟩ = some (.int .i64 0) := q2.cell (c := 9) (by simp)
  have e10 : W0.cell? ⟨w.heap.size + 1 + 1, 10, none⟩ = some (.int .i64 0) := q2.cell (c := 10) (by simp)
  have e11 : W0.cell? ⟨w.heap.size + 1 + 1, 11, none⟩ = some (.int .i64 0) := q2.cell (c := 11) (by simp)
  have f5 := q2.free 5
  have f6 := q2.free 6
  have HQ := Lib.hid (And.intro q0 (And.intro q1 q2))
  clear q0 q1 q2
  go_upto_region 16 with fail
  go_region
  go_upto_region 21 with fail
  have Q0 := Lib.hid HQ.out.2
  obtain ⟨W1, hW1⟩ : ∃ W1, ((W0.setCell ⟨w.heap.size + 1 + 1, 5, none⟩ (.int .i64 b1)).setCell ⟨w.heap.size + 1 + 1, 6, none⟩ (.int .i64 d1)).drew = W1 := ⟨_, rfl⟩
  rw [hW1]
  have HB1 : Below w.heap.size w W1 := by rw [← hW1]; exact dBelow' ((HB.out.setCell (p := ⟨w.heap.size + 1 + 1, 5, none⟩) (by simp; omega) (.int .i64 b1)).setCell (p := ⟨w.heap.size + 1 + 1, 6, none⟩) (by simp; omega) (.int .i64 d1)) 1
  have p1 : Blk W1 (w.heap.size + 1) 23 [0, 0, 0, 0, 0, 0, 0, 0, 0, 0, 0, 0] := by rw [← hW1]; exact Blk.drewN ((Q0.out.1.other (p := ⟨w.heap.size + 1 + 1, 5, none⟩) (.int .i64 b1) (by simp)).other (p := ⟨w.heap.size + 1 + 1, 6, none⟩) (.int .i64 d1) (by simp)) 1
  have p2 : Blk W1 (w.heap.size + 1 + 1) 23 [op, 9, 0, 0, 0, b1, d1, 0, 0, 0, 0, 0] := by rw [← hW1]; exact Blk.drewN ((Q0.out.2.set_ 5 b1).set_ 6 d1) 1
  clear hW1 Q0 HQ HB c5 c6 e0 e1 e2 e3 e4 e5 e6 e7 e8 e9 e10 e11 f5 f6
  have a0 : W1.cell? ⟨w.heap.size + 1 + 1, 0, none⟩ = some (.int .i64 op) := p2.cell (c := 0) (by simp)
  have z0 : W1.cell? ⟨w.heap.size + 1, 0, none⟩ = some (.int .i64 0) := p1.cell (c := 0) (by simp)
  have y0 := p1.free 0
  have a1 : W1.cell? ⟨w.heap.size + 1 + 1, 1, none⟩ = some (.int .i64 9) := p2.cell (c := 1) (by simp)
  have z1 : W1.cell? ⟨w.heap.size + 1, 1, none⟩ = some (.int .i64 0) := p1.cell (c := 1) (by simp)
  have y1 := p1.free 1
  have a2 : W1.cell? ⟨w.heap.size + 1 + 1, 2, none⟩ = some (.int .i64 0) := p2.cell (c := 2) (by simp)
  have z2 : W1.cell? ⟨w.heap.size + 1, 2, none⟩ = some (.int .i64 0) := p1.cell (c := 2) (by simp)
  have y2 := p1.free 2
  have a3 : W1.cell? ⟨w.heap.size + 1 + 1, 3, none⟩ = some (.int .i64 0) := p2.cell (c := 3) (by simp)
  have z3 : W1.cell? ⟨w.heap.size + 1, 3, none⟩ = some (.int .i64 0) := p1.cell (c := 3) (by simp)
  have y3 := p1.free 3
  have a4 : W1.cell? ⟨w.heap.size + 1 + 1, 4, none⟩ = some (.int .i64 0) := p2.cell (c := 4) (by simp)
  have z4 : W1.cell? ⟨w.heap.size + 1, 4, none⟩ = some (.int .i64 0) := p1.cell (c := 4) (by simp)
  have y4 := p1.free 4
  have a5 : W1.cell? ⟨w.heap.size + 1 + 1, 5, none⟩ = some (.int .i64 b1) := p2.cell (c := 5) (by simp)
  have z5 : W1.cell? ⟨w.heap.size + 1, 5, none⟩ = some (.int .i64 0) := p1.cell (c := 5) (by simp)
  have y5 := p1.free 5
  have a6 : W1.cell? ⟨w.heap.size + 1 + 1, 6, none⟩ = some (.int .i64 d1) := p2.cell (c := 6) (by simp)
  have z6 : W1.cell? ⟨w.heap.size + 1, 6, none⟩ = some (.int .i64 0) := p1.cell (c := 6) (by simp)
  have y6 := p1.free 6
  have a7 : W1.cell? ⟨w.heap.size + 1 + 1, 7, none⟩ = some (.int .i64 0) := p2.cell (c := 7) (by simp)
  have z7 : W1.cell? ⟨w.heap.size + 1, 7, none⟩ = some (.int .i64 0) := p1.cell (c := 7) (by simp)
  have y7 := p1.free 7
  have a8 : W1.cell? ⟨w.heap.size + 1 + 1, 8, none⟩ = some (.int .i64 0) := p2.cell (c := 8) (by simp)
  have z8 : W1.cell? ⟨w.heap.size + 1, 8, none⟩ = some (.int .i64 0) := p1.cell (c := 8) (by simp)
  have y8 := p1.free 8
  have a9 : W1.cell? ⟨w.heap.size + 1 + 1, 9, none⟩ = some (.int .i64 0) := p2.cell (c := 9) (by simp)
  have z9 : W1.cell? ⟨w.heap.size + 1, 9, none⟩ = some (.int .i64 0) := p1.cell (c := 9) (by simp)
  have y9 := p1.free 9
  have a10 : W1.cell? ⟨w.heap.size + 1 + 1, 10, none⟩ = some (.int .i64 0) := p2.cell (c := 10) (by simp)
  have z10 : W1.cell? ⟨w.heap.size + 1, 10, none⟩ = some (.int .i64 0) := p1.cell (c := 10) (by simp)
  have y10 := p1.free 10
  have a11 : W1.cell? ⟨w.heap.size + 1 + 1, 11, none⟩ = some (.int .i64 0) := p2.cell (c := 11) (by simp)
  have z11 : W1.cell? ⟨w.heap.size + 1, 11, none⟩ = some (.int .i64 0) := p1.cell (c := 11) (by simp)
  have y11 := p1.free 11
  have HP := Lib.hid (And.intro HB1 p1)
  clear HB1 p1 p2
  go_wp2
  refine bodyPost_ret (results_cell_row Tryz.results52 _ _ (w.heap.size + 1) 23 _ (0, 0) _ rfl (blk_sets12 HP.out.2 rfl op 9 0 0 0 b1 d1 0 0 0 0 0) Tryz.underlying23 rfl (by kernel_rfl)) rfl ?_
  exact ⟨rfl, below_sets12 HP.out.1 (by omega) op 9 0 0 0 b1 d1 0 0 0 0 0⟩
end Go.Proofs.YthjdjbipfdigeaaGreat

namespace Go.Proofs.YthjdjbipfdigeaaGreat
open Go.RowKit
set_option linter.unusedVariables false
set_option linter.unusedSimpArgs false
set_option maxRecDepth 1000000 in
set_option maxHeartbeats 4000000 in
theorem own_5 (op r1 r2 x2 b1 d1 b2 d2 l1 l2 i2 : Int) (w : World) : Calls Tryz.prog 52 #[.agg #[.int .i64 op, .int .i64 5, .int .i64 r1, .int .i64 r2, .int .i64 x2, .int .i64 b1, .int .i64 d1, .int .i64 b2, .int .i64 d2, .int .i64 l1, .int .i64 l2, .int .i64 i2]] w fun e w' => e = .returned (.agg #[.int .i64 op, .int .i64 5, .int .i64 0, .int .i64 0, .int .i64 0, .int .i64 b1, .int .i64 d1, .int .i64 b2, .int .i64 d2, .int .i64 l1, .int .i64 0, .int .i64 0]) ∧ Below w.heap.size w w' := by
  go_enter Tryz.func52, Tryz.ntmps52
  go_upto_region 2 with fail
  have HB := Lib.hid (show Below w.heap.size w (((w.alloc (.cells #[.int .i64 op, .int .i64 5, .int .i64 r1, .int .i64 r2, .int .i64 x2, .int .i64 b1, .int .i64 d1, .int .i64 b2, .int .i64 d2, .int .i64 l1, .int .i64 l2, .int .i64 i2] 23)).alloc (.cells #[.int .i64 0, .int .i64 0, .int .i64 0, .int .i64 0, .int .i64 0, .int .i64 0, .int .i64 0, .int .i64 0, .int .i64 0, .int .i64 0, .int .i64 0, .int .i64 0] 23)).alloc (.cells #[.int .i64 op, .int .i64 5, .int .i64 0, .int .i64 0, .int .i64 0, .int .i64 0, .int .i64 0, .int .i64 0, .int .i64 0, .int .i64 0, .int .i64 0, .int .i64 0] 23)) from (((Below.refl _ _).alloc (Nat.le_refl _) _).alloc (by simp) _).alloc (by simp; omega) _)
  have q0 : Blk (((w.alloc (.cells #[.int .i64 op, .int .i64 5, .int .i64 r1, .int .i64 r2, .int .i64 x2, .int .i64 b1, .int .i64 d1, .int .i64 b2, .int .i64 d2, .int .i64 l1, .int .i64 l2, .int .i64 i2] 23)).alloc (.cells #[.int .i64 0, .int .i64 0, .int .i64 0, .int .i64 0, .int .i64 0, .int .i64 0, .int .i64 0, .int .i64 0, .int .i64 0, .int .i64 0, .int .i64 0, .int .i64 0] 23)).alloc (.cells #[.int .i64 op, .int .i64 5, .int .i64 0, .int .i64 0, .int .i64 0, .int .i64 0, .int .i64 0, .int .i64 0, .int .i64 0, .int .i64 0, .int .i64 0, .int .i64 0] 23)) w.heap.size 23 [op, 5, r1, r2, x2, b1, d1, b2, d2, l1, l2, i2] := by refine Blk.alloc (Blk.alloc ?_ _) _; exact heap_alloc_new w _
  have q1 : Blk (((w.alloc (.cells #[.int .i64 op, .int .i64 5, .int .i64 r1, .int .i64 r2, .int .i64 x2, .int .i64 b1, .int .i64 d1, .int .i64 b2, .int .i64 d2, .int .i64 l1, .int .i64 l2, .int .i64 i2] 23)).alloc (.cells #[.int .i64 0, .int .i64 0, .int .i64 0, .int .i64 0, .int .i64 0, .int .i64 0, .int .i64 0, .int .i64 0, .int .i64 0, .int .i64 0, .int .i64 0, .int .i64 0] 23)).alloc (.cells #[.int .i64 op, .int .i64 5, .int .i64 0, .int .i64 0, .int .i64 0, .int .i64 0, .int .i64 0, .int .i64 0, .int .i64 0, .int .i64 0, .int .i64 0, .int .i64 0] 23)) (w.heap.size + 1) 23 [0, 0, 0, 0, 0, 0, 0, 0, 0, 0, 0, 0] := by refine Blk.alloc ?_ _; exact heap_alloc2_new w _ _
  have q2 : Blk (((w.alloc (.cells #[.int .i64 op, .int .i64 5, .int .i64 r1, .int .i64 r2, .int .i64 x2, .int .i64 b1, .int .i64 d1, .int .i64 b2, .int .i64 d2, .int .i64 l1, .int .i64 l2, .int .i64 i2] 23)).alloc (.cells #[.int .i64 0, .int .i64 0, .int .i64 0, .int .i64 0, .int .i64 0, .int .i64 0, .int .i64 0, .int .i64 0, .int .i64 0, .int .i64 0, .int .i64 0, .int .i64 0] 23)).alloc (.cells #[.int .i64 op, .int .i64 5, .int .i64 0, .int .i64 0, .int .i64 0, .int .i64 0, .int .i64 0, .int .i64 0, .int .i64 0, .int .i64 0, .int .i64 0, .int .i64 0] 23)) (w.heap.size + 1 + 1) 23 [op, 5, 0, 0, 0, 0, 0, 0, 0, 0, 0, 0] := by
    have := heap_alloc2_new (w.alloc (.cells #[.int .i64 op, .int .i64 5, .int .i64 r1, .int .i64 r2, .int .i64 x2, .int .i64 b1, .int .i64 d1, .int .i64 b2, .int .i64 d2, .int .i64 l1, .int .i64 l2, .int .i64 i2] 23)) (.cells #[.int .i64 0, .int .i64 0, .int .i64 0, .int .i64 0, .int .i64 0, .int .i64 0, .int .i64 0, .int .i64 0, .int .i64 0, .int .i64 0, .int .i64 0, .int .i64 0] 23) (.cells #[.int .i64 op, .int .i64 5, .int .i64 0, .int .i64 0, .int .i64 0, .int .i64 0, .int .i64 0, .int .i64 0, .int .i64 0, .int .i64 0, .int .i64 0, .int .i64 0] 23)
    rw [show (w.alloc (.cells #[.int .i64 op, .int .i64 5, .int .i64 r1, .int .i64 r2, .int .i64 x2, .int .i64 b1, .int .i64 d1, .int .i64 b2, .int .i64 d2, .int .i64 l1, .int .i64 l2, .int .i64 i2] 23)).heap.size = w.heap.size + 1 from by simp] at this; exact this
  obtain ⟨W0, hW0⟩ : ∃ W0, (((w.alloc (.cells #[.int .i64 op, .int .i64 5, .int .i64 r1, .int .i64 r2, .int .i64 x2, .int .i64 b1, .int .i64 d1, .int .i64 b2, .int .i64 d2, .int .i64 l1, .int .i64 l2, .int .i64 i2] 23)).alloc (.cells #[.int .i64 0, .int .i64 0, .int .i64 0, .int .i64 0, .int .i64 0, .int .i64 0, .int .i64 0, .int .i64 0, .int .i64 0, .int .i64 0, .int .i64 0, .int .i64 0] 23)).alloc (.cells #[.int .i64 op, .int .i64 5, .int .i64 0, .int .i64 0, .int .i64 0, .int .i64 0, .int .i64 0, .int .i64 0, .int .i64 0, .int .i64 0, .int .i64 0, .int .i64 0] 23)) = W0 := ⟨_, rfl⟩
  rw [hW0] at HB q0 q1 q2 ⊢
  clear hW0
  have c1 : W0.cell? ⟨w.heap.size, 1, none⟩ = some (.int .i64 5) := q0.cell (c := 1) (by simp)
  have c5 : W0.cell? ⟨w.heap.size, 5, none⟩ = some (.int .i64 b1) := q0.cell (c := 5) (by simp)
  have c6 : W0.cell? ⟨w.heap.size, 6, none⟩ = some (.int .i64 d1) := q0.cell (c := 6) (by simp)
  have c7 : W0.cell? ⟨w.heap.size, 7, none⟩ = some (.int .i64 b2) := q0.cell (c := 7) (by simp)
  have c8 : W0.cell? ⟨w.heap.size, 8, none⟩ = some (.int .i64 d2) := q0.cell (c := 8) (by simp)
  have c9 : W0.cell? ⟨w.heap.size, 9, none⟩ = some (.int .i64 l1) := q0.cell (c := 9) (by simp)
  have e0 : W0.cell? ⟨w.heap.size + 1 + 1, 0, none⟩ = some (.int .i64 op) := q2.cell (c := 0) (by simp)
  have e1 : W0.cell? ⟨w.heap.size + 1 + 1, 1, none⟩ = some (.int .i64 5) := q2.cell (c := 1) (by simp)
  have e2 : W0.cell? ⟨w.heap.size + 1 + 1, 2, none⟩ = some (.int .i64 0) := q2.cell (c := 2) (by simp)
  have e3 : W0.cell? ⟨w.heap.size + 1 + 1, 3, none⟩ = some (.int .i64 0) := q2.cell (c := 3) (by simp)
  have e4 : W0.cell? ⟨w.heap.size + 1 + 1, 4, none⟩ = some (.int .i64 0) := q2.cell (c := 4) (by simp)
  have e5 : W0.cell? ⟨w.heap.size + 1 + 1, 5, none⟩ = some (.int .i64 0) := q2.cell (c := 5) (by simp)
  have e6 : W0.cell? ⟨w.heap.size + 1 + 1, 6, none⟩ = some (.int .i64 0) := q2.cell (c := 6) (by simp)
  have e7 : W0.cell? ⟨w.heap.size + 1 + 1, 7, none⟩ = some (.int .i64 0) := q2.cell (c := 7) (by simp)
  have e8 : W0.cell? ⟨w.heap.size + 1 + 1, 8, none⟩ = some (.int .i64 0) := q2.cell (c := 8) (by simp)
  have e9 : W0.cell? ⟨w.heap.size + 1 + 1, 9, none⟩ = some (.int .i64 0) := q2.cell (c := 9) (by simp)
  have e10 : W0.cell? ⟨w.heap.size + 1 + 1, 10, none⟩ = some (.int .i64 0) := q2.cell (c := 10) (by simp)
  have e11 : W0.cell? ⟨w.heap.size + 1 + 1, 11, none⟩ = some (.int .i64 0) := q2.cell (c := 11) (by simp)
  have f9 := q2.free 9
  have f5 := q2.free 5
  have f6 := q2.free 6
  have f7 := q2.free 7
  have f8 := q2.free 8
  have HQ := Lib.hid (And.intro q0 (And.intro q1 q2))
  clear q0 q1 q2
  go_upto_region 18 with fail
  go_region
  go_upto_region 21 with fail
  have Q0 := Lib.hid HQ.out.2
  obtain ⟨W1, hW1⟩ : ∃ W1, (((((W0.setCell ⟨w.heap.size + 1 + 1, 9, none⟩ (.int .i64 l1)).setCell ⟨w.heap.size + 1 + 1, 5, none⟩ (.int .i64 b1)).setCell ⟨w.heap.size + 1 + 1, 6, none⟩ (.int .i64 d1)).setCell ⟨w.heap.size + 1 + 1, 7, none⟩ (.int .i64 b2)).setCell ⟨w.heap.size + 1 + 1, 8, none⟩ (.int .i64 d2)).drew = W1 := ⟨_, rfl⟩
  rw [hW1]
  have HB1 : Below w.heap.size w W1 := by rw [← hW1]; exact dBelow' (((((HB.out.setCell (p := ⟨w.heap.size + 1 + 1, 9, none⟩) (by simp; omega) (.int .i64 l1)).setCell (p := ⟨w.heap.size + 1 + 1, 5, none⟩) (by simp; omega) (.int .i64 b1)).setCell (p := ⟨w.heap.size + 1 + 1, 6, none⟩) (by simp; omega) (.int .i64 d1)).setCell (p := ⟨w.heap.size + 1 + 1, 7, none⟩) (by simp; omega) (.int .i64 b2)).setCell (p := ⟨w.heap.size + 1 + 1, 8, none⟩) (by simp; omega) (.int .i64 d2)) 1
  have p1 : Blk W1 (w.heap.size + 1) 23 [0, 0, 0, 0, 0, 0, 0, 0, 0, 0, 0, 0] := by rw [← hW1]; exact Blk.drewN (((((Q0.out.1.other (p := ⟨w.heap.size + 1 + 1, 9, none⟩) (.int .i64 l1) (by simp)).other (p := ⟨w.heap.size + 1 + 1, 5, none⟩) (.int .i64 b1) (by simp)).other (p := ⟨w.heap.size + 1 + 1, 6, none⟩) (.int .i64 d1) (by simp)).other (p := ⟨w.heap.size + 1 + 1, 7, none⟩) (.int .i64 b2) (by simp)).other (p := ⟨w.heap.size + 1 + 1, 8, none⟩) (.int .i64 d2) (by simp)) 1
  have p2 : Blk W1 (w.heap.size + 1 + 1) 23 [op, 5, 0, 0, 0, b1, d1, b2, d2, l1, 0, 0] := by rw [← hW1]; exact Blk.drewN (((((Q0.out.2.set_ 9 l1).set_ 5 b1).set_ 6 d1).set_ 7 b2).set_ 8 d2) 1
  clear hW1 Q0 HQ HB c5 c6 c7 c8 c9 e0 e1 e2 e3 e4 e5 e6 e7 e8 e9 e10 e11 f9 f5 f6 f7 f8
  have a0 : W1.cell? ⟨w.heap.size + 1 + 1, 0, none⟩ = some (.int .i64 op) := p2.cell (c := 0) (by simp)
  have z0 : W1.cell? ⟨w.heap.size + 1, 0, none⟩ = some (.int .i64 0) := p1.cell (c := 0) (by simp)
  have y0 := p1.free 0
  have a1 : W1.cell? ⟨w.heap.size + 1 + 1, 1, none⟩ = some (.int .i64 5) := p2.cell (c := 1) (by simp)
  have z1 : W1.cell? ⟨w.heap.size + 1, 1, none⟩ = some (.int .i64 0) := p1.cell (c := 1) (by simp)
  have y1 := p1.free 1
  have a2 : W1.cell? ⟨w.heap.size + 1 + 1, 2, none⟩ = some (.int .i64 0) := p2.cell (c := 2) (by simp)
  have z2 : W1.cell? ⟨w.heap.size + 1, 2, none⟩ = some (.int .i64 0) := p1.cell (c := 2) (by simp)
  have y2 := p1.free 2
  have a3 : W1.cell? ⟨w.heap.size + 1 + 1, 3, none⟩ = some (.int .i64 0) := p2.cell (c := 3) (by simp)
  have z3 : W1.cell? ⟨w.heap.size + 1, 3, none⟩ = some (.int .i64 0) := p1.cell (c := 3) (by simp)
  have y3 := p1.free 3
  have a4 : W1.cell? ⟨w.heap.size + 1 + 1, 4, none⟩ = some (.int .i64 0) := p2.cell (c := 4) (by simp)
  have z4 : W1.cell? ⟨w.heap.size + 1, 4, none⟩ = some (.int .i64 0) := p1.cell (c := 4) (by simp)
  have y4 := p1.free 4
  have a5 : W1.cell? ⟨w.heap.size + 1 + 1, 5, none⟩ = some (.int .i64 b1) := p2.cell (c := 5) (by simp)
  have z5 : W1.cell? ⟨w.heap.size + 1, 5, none⟩ = some (.int .i64 0) := p1.cell (c := 5) (by simp)
  have y5 := p1.free 5
  have a6 : W1.cell? ⟨w.heap.size + 1 + 1, 6, none⟩ = some (.int .i64 d1) := p2.cell (c := 6) (by simp)
  have z6 : W1.cell? ⟨w.heap.size + 1, 6, none⟩ = some (.int .i64 0) := p1.cell (c := 6) (by simp)
  have y6 := p1.free 6
  have a7 : W1.cell? ⟨w.heap.size + 1 + 1, 7, none⟩ = some (.int .i64 b2) := p2.cell (c := 7) (by simp)
  have z7 : W1.cell? ⟨w.heap.size + 1, 7, none⟩ = some (.int .i64 0) := p1.cell (c := 7) (by simp)
  have y7 := p1.free 7
  have a8 : W1.cell? ⟨w.heap.size + 1 + 1, 8, none⟩ = some (.int .i64 d2) := p2.cell (c := 8) (by simp)
  have z8 : W1.cell? ⟨w.heap.size + 1, 8, none⟩ = some (.int .i64 0) := p1.cell (c := 8) (by simp)
  have y8 := p1.free 8
  have a9 : W1.cell? ⟨w.heap.size + 1 + 1, 9, none⟩ = some (.int .i64 l1) := p2.cell (c := 9) (by simp)
  have z9 : W1.cell? ⟨w.heap.size + 1, 9, none⟩ = some (.int .i64 0) := p1.cell (c := 9) (by simp)
  have y9 := p1.free 9
  have a10 : W1.cell? ⟨w.heap.size + 1 + 1, 10, none⟩ = some (.int .i64 0) := p2.cell (c := 10) (by simp)
  have z10 : W1.cell? ⟨w.heap.size + 1, 10, none⟩ = some (.int .i64 0) := p1.cell (c := 10) (by simp)
  have y10 := p1.free 10
  have a11 : W1.cell? ⟨w.heap.size + 1 + 1, 11, none⟩ = some (.int .i64 0) := p2.cell (c := 11) (by simp)
  have z11 : W1.cell? ⟨w.heap.size + 1, 11, none⟩ = some (.int .i64 0) := p1.cell (c := 11) (by simp)
  have y11 := p1.free 11
  have HP := Lib.hid (And.intro HB1 p1)
  clear HB1 p1 p2
  go_wp2
  refine bodyPost_ret (results_cell_row Tryz.results52 _ _ (w.heap.size + 1) 23 _ (0, 0) _ rfl (blk_sets12 HP.out.2 rfl op 5 0 0 0 b1 d1 b2 d2 l1 0 0) Tryz.underlying23 rfl (by kernel_rfl)) rfl ?_
  exact ⟨rfl, below_sets12 HP.out.1 (by omega) op 5 0 0 0 b1 d1 b2 d2 l1 0 0⟩
end Go.Proofs.YthjdjbipfdigeaaGreat

namespace Go.Proofs.YthjdjbipfdigeaaGreat
open Go.RowKit
set_option linter.unusedVariables false
set_option linter.unusedSimpArgs false
set_option maxRecDepth 1000000 in
set_option maxHeartbeats 4000000 in
theorem own_6 (op r1 r2 x2 b1 d1 b2 d2 l1 l2 i2 : Int) (w : World) : Calls Tryz.prog 52 #[.agg #[.int .i64 op, .int .i64 6, .int .i64 r1, .int .i64 r2, .int .i64 x2, .int .i64 b1, .int .i64 d1, .int .i64 b2, .int .i64 d2, .int .i64 l1, .int .i64 l2, .int .i64 i2]] w fun e w' => e = .returned (.agg #[.int .i64 op, .int .i64 6, .int .i64 0, .int .i64 0, .int .i64 0, .int .i64 b1, .int .i64 d1, .int .i64 b2, .int .i64 d2, .int .i64 l1, .int .i64 l2, .int .i64 0]) ∧ Below w.heap.size w w' := by
  go_enter Tryz.func52, Tryz.ntmps52
  go_upto_region 2 with fail
  have HB := Lib.hid (show Below w.heap.size w (((w.alloc (.cells #[.int .i64 op, .int .i64 6, .int .i64 r1, .int .i64 r2, .int .i64 x2, .int .i64 b1, .int .i64 d1, .int .i64 b2, .int .i64 d2, .int .i64 l1, .int .i64 l2, .int .i64 i2] 23)).alloc (.cells #[.int .i64 0, .int .i64 0, .int .i64 0, .int .i64 0, .int .i64 0, .int .i64 0, .int .i64 0, .int .i64 0, .int .i64 0, .int .i64 0, .int .i64 0, .int .i64 0] 23)).alloc (.cells #[.int .i64 op, .int .i64 6, .int .i64 0, .int .i64 0, .int .i64 0, .int .i64 0, .int .i64 0, .int .i64 0, .int .i64 0, .int .i64 0, .int .i64 0, .int .i64 0] 23)) from (((Below.refl _ _).alloc (Nat.le_refl _) _).alloc (by simp) _).alloc (by simp; omega) _)
  have q0 : Blk (((w.alloc (.cells #[.int .i64 op, .int .i64 6, .int .i64 r1, .int .i64 r2, .int .i64 x2, .int .i64 b1, .int .i64 d1, .int .i64 b2, .int .i64 d2, .int .i64 l1, .int .i64 l2, .int .i64 i2] 23)).alloc (.cells #[.int .i64 0, .int .i64 0, .int .i64 0, .int .i64 0, .int .i64 0, .int .i64 0, .int .i64 0, .int .i64 0, .int .i64 0, .int .i64 0, .int .i64 0, .int .i64 0] 23)).alloc (.cells #[.int .i64 op, .int .i64 6, .int .i64 0, .int .i64 0, .int .i64 0, .int .i64 0, .int .i64 0, .int .i64 0, .int .i64 0, .int .i64 0, .int .i64 0, .int .i64 0] 23)) w.heap.size 23 [op, 6, r1, r2, x2, b1, d1, b2, d2, l1, l2, i2] := by refine Blk.alloc (Blk.alloc ?_ _) _; exact heap_alloc_new w _
  have q1 : Blk (((w.alloc (.cells #[.int .i64 op, .int .i64 6, .int .i64 r1, .int .i64 r2, .int .i64 x2, .int .i64 b1, .int .i64 d1, .int .i64 b2, .int .i64 d2, .int .i64 l1, .int .i64 l2, .int .i64 i2] 23)).alloc (.cells #[.int .i64 0, .int .i64 0, .int .i64 0, .int .i64 0, .int .i64 0, .int .i64 0, .int .i64 0, .int .i64 0, .int .i64 0, .int .i64 0, .int .i64 0, .int .i64 0] 23)).alloc (.cells #[.int .i64 op, .int .i64 6, .int .i64 0, .int .i64 0, .int .i64 0, .int .i64 0, .int .i64 0, .int .i64 0, .int .i64 0, .int .i64 0, .int .i64 0, .int .i64 0] 23)) (w.heap.size + 1) 23 [0, 0, 0, 0, 0, 0, 0, 0, 0, 0, 0, 0] := by refine Blk.alloc ?_ _; exact heap_alloc2_new w _ _
  have q2 : Blk (((w.alloc (.cells #[.int .i64 op, .int .i64 6, .int .i64 r1, .int .i64 r2, .int .i64 x2, .int .i64 b1, .int .i64 d1, .int .i64 b2, .int .i64 d2, .int .i64 l1, .int .i64 l2, .int .i64 i2] 23)).alloc (.cells #[.int .i64 0, .int .i64 0, .int .i64 0, .int .i64 0, .int .i64 0, .int .i64 0, .int .i64 0, .int .i64 0, .int .i64 0, .int .i64 0, .int .i64 0, .int .i64 0] 23)).alloc (.cells #[.int .i64 op, .int .i64 6, .int .i64 0, .int .i64 0, .int .i64 0, .int .i64 0, .int .i64 0, .int .i64 0, .int .i64 0, .int .i64 0, .int .i64 0, .int .i64 0] 23)) (w.heap.size + 1 + 1) 23 [op, 6, 0, 0, 0, 0, 0, 0, 0, 0, 0, 0] := by
    have := heap_alloc2_new (w.alloc (.cells #[.int .i64 op, .int .i64 6, .int .i64 r1, .int .i64 r2, .int .i64 x2, .int .i64 b1, .int .i64 d1, .int .i64 b2, .int .i64 d2, .int .i64 l1, .int .i64 l2, .int .i64 i2] 23)) (.cells #[.int .i64 0, .int .i64 0, .int .i64 0, .int .i64 0, .int .i64 0, .int .i64 0, .int .i64 0, .int .i64 0, .int .i64 0, .int .i64 0, .int .i64 0, .int .i64 0] 23) (.cells #[.int .i64 op, .int .i64 6, .int .i64 0, .int .i64 0, .int .i64 0, .int .i64 0, .int .i64 0, .int .i64 0, .int .i64 0, .int .i64 0, .int .i64 0, .int .i64 0] 23)
    rw [show (w.alloc (.cells #[.int .i64 op, .int .i64 6, .int .i64 r1, .int .i64 r2, .int .i64 x2, .int .i64 b1, .int .i64 d1, .int .i64 b2, .int .i64 d2, .int .i64 l1, .int .i64 l2, .int .i64 i2] 23)).heap.size = w.heap.size + 1 from by simp] at this; exact this
  obtain ⟨W0, hW0⟩ : ∃ W0, (((w.alloc (.cells #[.int .i64 op, .int .i64 6, .int .i64 r1, .int .i64 r2, .int .i64 x2, .int .i64 b1, .int .i64 d1, .int .i64 b2, .int .i64 d2, .int .i64 l1, .int .i64 l2, .int .i64 i2] 23)).alloc (.cells #[.int .i64 0, .int .i64 0, .int .i64 0, .int .i64 0, .int .i64 0, .int .i64 0, .int .i64 0, .int .i64 0, .int .i64 0, .int .i64 0, .int .i64 0, .int .i64 0] 23)).alloc (.cells #[.int .i64 op, .int .i64 6, .int .i64 0, .int .i64 0, .int .i64 0, .int .i64 0, .int .i64 0, .int .i64 0, .int .i64 0, .int .i64 0, .int .i64 0, .int .i64 0] 23)) = W0 := ⟨_, rfl⟩
  rw [hW0] at HB q0 q1 q2 ⊢
  clear hW0
  have c1 : W0.cell? ⟨w.heap.size, 1, none⟩ = some (.int .i64 6) := q0.cell (c := 1) (by simp)
  have c5 : W0.cell? ⟨w.heap.size, 5, none⟩ = some (.int .i64 b1) := q0.cell (c := 5) (by simp)
  have c6 : W0.cell? ⟨w.heap.size, 6, none⟩ = some (.int .i64 d1) := q0.cell (c := 6) (by simp)
  have c7 : W0.cell? ⟨w.heap.size, 7, none⟩ = some (.int .i64 b2) := q0.cell (c := 7) (by simp)
  have c8 : W0.cell? ⟨w.heap.size, 8, none⟩ = some (.int .i64 d2) := q0.cell (c := 8) (by simp)
  have c9 : W0.cell? ⟨w.heap.size, 9, none⟩ = some (.int .i64 l1) := q0.cell (c := 9) (by simp)
  have c10 : W0.cell? ⟨w.heap.size, 10, none⟩ = some (.int .i64 l2) := q0.cell (c := 10) (by simp)
  have e0 : W0.cell? ⟨w.heap.size + 1 + 1, 0, none⟩ = some (.int .i64 op) := q2.cell (c := 0) (by simp)
  have e1 : W0.cell? ⟨w.heap.size + 1 + 1, 1, none⟩ = some (.int .i64 6) := q2.cell (c := 1) (by simp)
  have e2 : W0.cell? ⟨w.heap.size + 1 + 1, 2, none⟩ = some (.int .i64 0) := q2.cell (c := 2) (by simp)
  have e3 : W0.cell? ⟨w.heap.size + 1 + 1, 3, none⟩ = some (.int .i64 0) := q2.cell (c := 3) (by simp)
  have e4 : W0.cell? ⟨w.heap.size + 1 + 1, 4, none⟩ = some (.int .i64 0) := q2.cell (c := 4) (by simp)
  have e5 : W0.cell? ⟨w.heap.size + 1 + 1, 5, none⟩ = some (.int .i64 0) := q2.cell (c := 5) (by simp)
  have e6 : W0.cell? ⟨w.heap.size + 1 + 1, 6, none⟩ = some (.int .i64 0) := q2.cell (c := 6) (by simp)
  have e7 : W0.cell? ⟨w.heap.size + 1 + 1, 7, none⟩ = some (.int .i64 0) := q2.cell (c := 7) (by simp)
  have e8 : W0.cell? ⟨w.heap.size + 1 + 1, 8, none⟩ = some (.int .i64 0) := q2.cell (c := 8) (by simp)
  have e9 : W0.cell? ⟨w.heap.size + 1 + 1, 9, none⟩ = some (.int .i64 0) := q2.cell (c := 9) (by simp)
  have e10 : W0.cell? ⟨w.heap.size + 1 + 1, 10, none⟩ = some (.int .i64 0) := q2.cell (c := 10) (by simp)
  have e11 : W0.cell? ⟨w.heap.size + 1 + 1, 11, none⟩ = some (.int .i64 0) := q2.cell (c := 11) (by simp)
  have f9 := q2.free 9
  have f10 := q2.free 10
  have f5 := q2.free 5
  have f6 := q2.free 6
  have f7 := q2.free 7
  have f8 := q2.free 8
  have HQ := Lib.hid (And.intro q0 (And.intro q1 q2))
  clear q0 q1 q2
  go_upto_region 20 with fail
  go_region
  go_upto_region 21 with fail
  have Q0 := Lib.hid HQ.out.2
  obtain ⟨W1, hW1⟩ : ∃ W1, ((((((W0.setCell ⟨w.heap.size + 1 + 1, 9, none⟩ (.int .i64 l1)).setCell ⟨w.heap.size + 1 + 1, 10, none⟩ (.int .i64 l2)).setCell ⟨w.heap.size + 1 + 1, 5, none⟩ (.int .i64 b1)).setCell ⟨w.heap.size + 1 + 1, 6, none⟩ (.int .i64 d1)).setCell ⟨w.heap.size + 1 + 1, 7, none⟩ (.int .i64 b2)).setCell ⟨w.heap.size + 1 + 1, 8, none⟩ (.int .i64 d2)).drew = W1 := ⟨_, rfl⟩
  rw [hW1]
  have HB1 : Below w.heap.size w W1 := by rw [← hW1]; exact dBelow' ((((((HB.out.setCell (p := ⟨w.heap.size + 1 + 1, 9, none⟩) (by simp; omega) (.int .i64 l1)).setCell (p := ⟨w.heap.size + 1 + 1, 10, none⟩) (by simp; omega) (.int .i64 l2)).setCell (p := ⟨w.heap.size + 1 + 1, 5, none⟩) (by simp; omega) (.int .i64 b1)).setCell (p := ⟨w.heap.size + 1 + 1, 6, none⟩) (by simp; omega) (.int .i64 d1)).setCell (p := ⟨w.heap.size + 1 + 1, 7, none⟩) (by simp; omega) (.int .i64 b2)).setCell (p := ⟨w.heap.size + 1 + 1, 8, none⟩) (by simp; omega) (.int .i64 d2)) 1
  have p1 : Blk W1 (w.heap.size + 1) 23 [0, 0, 0, 0, 0, 0, 0, 0, 0, 0, 0, 0] := by rw [← hW1]; exact Blk.drewN ((((((Q0.out.1.other (p := ⟨w.heap.size + 1 + 1, 9, none⟩) (.int .i64 l1) (by simp)).other (p := ⟨w.heap.size + 1 + 1, 10, none⟩) (.int .i64 l2) (by simp)).other (p := ⟨w.heap.size + 1 + 1, 5, none⟩) (.int .i64 b1) (by simp)).other (p := ⟨w.heap.size + 1 + 1, 6, none⟩) (.int .i64 d1) (by simp)).other (p := ⟨w.heap.size + 1 + 1, 7, none⟩) (.int .i64 b2) (by simp)).other (p := ⟨w.heap.size + 1 + 1, 8, none⟩) (.int .i64 d2) (by simp)) 1
  have p2 : Blk W1 (w.heap.size + 1 + 1) 23 [op, 6, 0, 0, 0, b1, d1, b2, d2, l1, l2, 0] := by rw [← hW1]; exact Blk.drewN ((((((Q0.out.2.set_ 9 l1).set_ 10 l2).set_ 5 b1).set_ 6 d1).set_ 7 b2).set_ 8 d2) 1
  clear hW1 Q0 HQ HB c5 c6 c7 c8 c9 c10 e0 e1 e2 e3 e4 e5 e6 e7 e8 e9 e10 e11 f9 f10 f5 f6 f7 f8
  have a0 : W1.cell? ⟨w.heap.size + 1 + 1, 0, none⟩ = some (.int .i64 op) := p2.cell (c := 0) (by simp)
  have z0 : W1.cell? ⟨w.heap.size + 1, 0, none⟩ = some (.int .i64 0) := p1.cell (c := 0) (by simp)
  have y0 := p1.free 0
  have a1 : W1.cell? ⟨w.heap.size + 1 + 1, 1, none⟩ = some (.int .i64 6) := p2.cell (c := 1) (by simp)
  have z1 : W1.cell? ⟨w.heap.size + 1, 1, none⟩ = some (.int .i64 0) := p1.cell (c := 1) (by simp)
  have y1 := p1.free 1
  have a2 : W1.cell? ⟨w.heap.size + 1 + 1, 2, none⟩ = some (.int .i64 0) := p2.cell (c := 2) (by simp)
  have z2 : W1.cell? ⟨w.heap.size + 1, 2, none⟩ = some (.int .i64 0) := p1.cell (c := 2) (by simp)
  have y2 := p1.free 2
  have a3 : W1.cell? ⟨w.heap.size + 1 + 1, 3, none⟩ = some (.int .i64 0) := p2.cell (c := 3) (by simp)
  have z3 : W1.cell? ⟨w.heap.size + 1, 3, none⟩ = some (.int .i64 0) := p1.cell (c := 3) (by simp)
  have y3 := p1.free 3
  have a4 : W1.cell? ⟨w.heap.size + 1 + 1, 4, none⟩ = some (.int .i64 0) := p2.cell (c := 4) (by simp)
  have z4 : W1.cell? ⟨w.heap.size + 1, 4, none⟩ = some (.int .i64 0) := p1.cell (c := 4) (by simp)
  have y4 := p1.free 4
  have a5 : W1.cell? ⟨w.heap.size + 1 + 1, 5, none⟩ = some (.int .i64 b1) := p2.cell (c := 5) (by simp)
  have z5 : W1.cell? ⟨w.heap.size + 1, 5, none⟩ = some (.int .i64 0) := p1.cell (c := 5) (by simp)
  have y5 := p1.free 5
  have a6 : W1.cell? ⟨w.heap.size + 1 + 1, 6, none⟩ = some (.int .i64 d1) := p2.cell (c := 6) (by simp)
  have z6 : W1.cell? ⟨w.heap.size + 1, 6, none⟩ = some (.int .i64 0) := p1.cell (c := 6) (by simp)
  have y6 := p1.free 6
  have a7 : W1.cell? ⟨w.heap.size + 1 + 1, 7, none⟩ = some (.int .i64 b2) := p2.cell (c := 7) (by simp)
  have z7 : W1.cell? ⟨w.heap.size + 1, 7, none⟩ = some (.int .i64 0) := p1.cell (c := 7) (by simp)
  have y7 := p1.free 7
  have a8 : W1.cell? ⟨w.heap.size + 1 + 1, 8, none⟩ = some (.int .i64 d2) := p2.cell (c := 8) (by simp)
  have z8 : W1.cell? ⟨w.heap.size + 1, 8, none⟩ = some (.int .i64 0) := p1.cell (c := 8) (by simp)
  have y8 := p1.free 8
  have a9 : W1.cell? ⟨w.heap.size + 1 + 1, 9, none⟩ = some (.int .i64 l1) := p2.cell (c := 9) (by simp)
  have z9 : W1.cell? ⟨w.heap.size + 1, 9, none⟩ = some (.int .i64 0) := p1.cell (c := 9) (by simp)
  have y9 := p1.free 9
  have a10 : W1.cell? ⟨w.heap.size + 1 + 1, 10, none⟩ = some (.int .i64 l2) := p2.cell (c := 10) (by simp)
  have z10 : W1.cell? ⟨w.heap.size + 1, 10, none⟩ = some (.int .i64 0) := p1.cell (c := 10) (by simp)
  have y10 := p1.free 10
  have a11 : W1.cell? ⟨w.heap.size + 1 + 1, 11, none⟩ = some (.int .i64 0) := p2.cell (c := 11) (by simp)
  have z11 : W1.cell? ⟨w.heap.size + 1, 11, none⟩ = some (.int .i64 0) := p1.cell (c := 11) (by simp)
  have y11 := p1.free 11
  have HP := Lib.hid (And.intro HB1 p1)
  clear HB1 p1 p2
  go_wp2
  refine bodyPost_ret (results_cell_row Tryz.results52 _ _ (w.heap.size + 1) 23 _ (0, 0) _ rfl (blk_sets12 HP.out.2 rfl op 6 0 0 0 b1 d1 b2 d2 l1 l2 0) Tryz.underlying23 rfl (by kernel_rfl)) rfl ?_
  exact ⟨rfl, below_sets12 HP.out.1 (by omega) op 6 0 0 0 b1 d1 b2 d2 l1 l2 0⟩
end Go.Proofs.YthjdjbipfdigeaaGreat

namespace Go.Proofs.YthjdjbipfdigeaaGreat
open Go.RowKit
set_option linter.unusedVariables false
set_option linter.unusedSimpArgs false
theorem chkw_1 (op r1 r2 x2 b1 d1 b2 d2 l1 l2 i2 : Int) : (withB 1 r1 r2 x2 b1 d1 b2 d2 l1 l2 i2 && eqiB op 1 r1 r2 x2 b1 d1 b2 d2 l1 l2 i2 op 1 r1 r2 0 0 0 0 0 0 0 0) = decide ((0 ≤ r1 ∧ r1 < 16) ∧ (0 ≤ r2 ∧ r2 < 16) ∧ x2 = 0 ∧ b1 = 0 ∧ d1 = 0 ∧ b2 = 0 ∧ d2 = 0 ∧ l1 = 0 ∧ l2 = 0 ∧ i2 = 0) := by
  have hm : mostOf 1 = 15 := by decide
  rw [Bool.eq_iff_iff]
  simp only [withB, eqiB, halfB, hm, Bool.and_eq_true, decide_eq_true_eq, beq_iff_eq, true_and, and_true]
  constructor <;> intro h <;> (repeat' apply And.intro) <;> omega
theorem rcheck_1 (op r1 r2 x2 b1 d1 b2 d2 l1 l2 i2 : Int) (w : World) (hi : isOp op = true) (hf : fmOf op = 1) : Calls Tryz.prog 22 #[.agg #[.int .i64 op, .int .i64 1, .int .i64 r1, .int .i64 r2, .int .i64 x2, .int .i64 b1, .int .i64 d1, .int .i64 b2, .int .i64 d2, .int .i64 l1, .int .i64 l2, .int .i64 i2]] w fun e w' => e = .returned (.int .i64 (chk op 1 [op, 1, r1, r2, x2, b1, d1, b2, d2, l1, l2, i2])) ∧ Below w.heap.size w w' := by
  have hk := chkw_1 op r1 r2 x2 b1 d1 b2 d2 l1 l2 i2
  rw [chk_1 op r1 r2 x2 b1 d1 b2 d2 l1 l2 i2 hi hf]
  cases hw : withB 1 r1 r2 x2 b1 d1 b2 d2 l1 l2 i2
  · rw [hw, Bool.false_and] at hk
    rw [if_neg (of_decide_eq_false hk.symm)]
    exact rcheck_out op 1 r1 r2 x2 b1 d1 b2 d2 l1 l2 i2 w hi hf hw
  · rw [hw, Bool.true_and] at hk
    cases he : eqiB op 1 r1 r2 x2 b1 d1 b2 d2 l1 l2 i2 op 1 r1 r2 0 0 0 0 0 0 0 0
    · rw [he] at hk
      rw [if_neg (of_decide_eq_false hk.symm)]
      exact rcheck_not op 1 r1 r2 x2 b1 d1 b2 d2 l1 l2 i2 op 1 r1 r2 0 0 0 0 0 0 0 0 w hi hf (fun w => own_1 op r1 r2 x2 b1 d1 b2 d2 l1 l2 i2 w) hw he
    · rw [he] at hk
      rw [if_pos (of_decide_eq_true hk.symm)]
      exact rcheck_ok op 1 r1 r2 x2 b1 d1 b2 d2 l1 l2 i2 op 1 r1 r2 0 0 0 0 0 0 0 0 w hi hf (fun w => own_1 op r1 r2 x2 b1 d1 b2 d2 l1 l2 i2 w) hw he
theorem chkw_7 (op r1 r2 x2 b1 d1 b2 d2 l1 l2 i2 : Int) : (withB 7 r1 r2 x2 b1 d1 b2 d2 l1 l2 i2 && eqiB op 7 r1 r2 x2 b1 d1 b2 d2 l1 l2 i2 op 7 0 0 0 0 0 0 0 0 0 i2) = decide (r1 = 0 ∧ r2 = 0 ∧ x2 = 0 ∧ b1 = 0 ∧ d1 = 0 ∧ b2 = 0 ∧ d2 = 0 ∧ l1 = 0 ∧ l2 = 0 ∧ (0 ≤ i2 ∧ i2 < 256)) := by
  have hm : mostOf 7 = 15 := by decide
  rw [Bool.eq_iff_iff]
  simp only [withB, eqiB, halfB, hm, Bool.and_eq_true, decide_eq_true_eq, beq_iff_eq, true_and, and_true]
  constructor <;> intro h <;> (repeat' apply And.intro) <;> omega
theorem rcheck_7 (op r1 r2 x2 b1 d1 b2 d2 l1 l2 i2 : Int) (w : World) (hi : isOp op = true) (hf : fmOf op = 7) : Calls Tryz.prog 22 #[.agg #[.int .i64 op, .int .i64 7, .int .i64 r1, .int .i64 r2, .int .i64 x2, .int .i64 b1, .int .i64 d1, .int .i64 b2, .int .i64 d2, .int .i64 l1, .int .i64 l2, .int .i64 i2]] w fun e w' => e = .returned (.int .i64 (chk op 7 [op, 7, r1, r2, x2, b1, d1, b2, d2, l1, l2, i2])) ∧ Below w.heap.size w w' := by
  have hk := chkw_7 op r1 r2 x2 b1 d1 b2 d2 l1 l2 i2
  rw [chk_7 op r1 r2 x2 b1 d1 b2 d2 l1 l2 i2 hi hf]
  cases hw : withB 7 r1 r2 x2 b1 d1 b2 d2 l1 l2 i2
  · rw [hw, Bool.false_and] at hk
    rw [if_neg (of_decide_eq_false hk.symm)]
    exact rcheck_out op 7 r1 r2 x2 b1 d1 b2 d2 l1 l2 i2 w hi hf hw
  · rw [hw, Bool.true_and] at hk
    cases he : eqiB op 7 r1 r2 x2 b1 d1 b2 d2 l1 l2 i2 op 7 0 0 0 0 0 0 0 0 0 i2
    · rw [he] at hk
      rw [if_neg (of_decide_eq_false hk.symm)]
      exact rcheck_not op 7 r1 r2 x2 b1 d1 b2 d2 l1 l2 i2 op 7 0 0 0 0 0 0 0 0 0 i2 w hi hf (fun w => own_7 op r1 r2 x2 b1 d1 b2 d2 l1 l2 i2 w) hw he
    · rw [he] at hk
      rw [if_pos (of_decide_eq_true hk.symm)]
      exact rcheck_ok op 7 r1 r2 x2 b1 d1 b2 d2 l1 l2 i2 op 7 0 0 0 0 0 0 0 0 0 i2 w hi hf (fun w => own_7 op r1 r2 x2 b1 d1 b2 d2 l1 l2 i2 w) hw he
theorem chkw_8 (op r1 r2 x2 b1 d1 b2 d2 l1 l2 i2 : Int) : (withB 8 r1 r2 x2 b1 d1 b2 d2 l1 l2 i2 && eqiB op 8 r1 r2 x2 b1 d1 b2 d2 l1 l2 i2 op 8 r1 0 0 0 0 0 0 0 0 0) = decide ((0 ≤ r1 ∧ r1 < 16) ∧ r2 = 0 ∧ x2 = 0 ∧ b1 = 0 ∧ d1 = 0 ∧ b2 = 0 ∧ d2 = 0 ∧ l1 = 0 ∧ l2 = 0 ∧ i2 = 0) := by
  have hm : mostOf 8 = 15 := by decide
  rw [Bool.eq_iff_iff]
  simp only [withB, eqiB, halfB, hm, Bool.and_eq_true, decide_eq_true_eq, beq_iff_eq, true_and, and_true]
  constructor <;> intro h <;> (repeat' apply And.intro) <;> omega
theorem rcheck_8 (op r1 r2 x2 b1 d1 b2 d2 l1 l2 i2 : Int) (w : World) (hi : isOp op = true) (hf : fmOf op = 8) : Calls Tryz.prog 22 #[.agg #[.int .i64 op, .int .i64 8, .int .i64 r1, .int .i64 r2, .int .i64 x2, .int .i64 b1, .int .i64 d1, .int .i64 b2, .int .i64 d2, .int .i64 l1, .int .i64 l2, .int .i64 i2]] w fun e w' => e = .returned (.int .i64 (chk op 8 [op, 8, r1, r2, x2, b1, d1, b2, d2, l1, l2, i2])) ∧ Below w.heap.size w w' := by
  have hk := chkw_8 op r1 r2 x2 b1 d1 b2 d2 l1 l2 i2
  rw [chk_8 op r1 r2 x2 b1 d1 b2 d2 l1 l2 i2 hi hf]
  cases hw : withB 8 r1 r2 x2 b1 d1 b2 d2 l1 l2 i2
  · rw [hw, Bool.false_and] at hk
    rw [if_neg (of_decide_eq_false hk.symm)]
    exact rcheck_out op 8 r1 r2 x2 b1 d1 b2 d2 l1 l2 i2 w hi hf hw
  · rw [hw, Bool.true_and] at hk
    cases he : eqiB op 8 r1 r2 x2 b1 d1 b2 d2 l1 l2 i2 op 8 r1 0 0 0 0 0 0 0 0 0
    · rw [he] at hk
      rw [if_neg (of_decide_eq_false hk.symm)]
      exact rcheck_not op 8 r1 r2 x2 b1 d1 b2 d2 l1 l2 i2 op 8 r1 0 0 0 0 0 0 0 0 0 w hi hf (fun w => own_8 op r1 r2 x2 b1 d1 b2 d2 l1 l2 i2 w) hw he
    · rw [he] at hk
      rw [if_pos (of_decide_eq_true hk.symm)]
      exact rcheck_ok op 8 r1 r2 x2 b1 d1 b2 d2 l1 l2 i2 op 8 r1 0 0 0 0 0 0 0 0 0 w hi hf (fun w => own_8 op r1 r2 x2 b1 d1 b2 d2 l1 l2 i2 w) hw he
theorem chkw_2 (op r1 r2 x2 b1 d1 b2 d2 l1 l2 i2 : Int) : (withB 2 r1 r2 x2 b1 d1 b2 d2 l1 l2 i2 && eqiB op 2 r1 r2 x2 b1 d1 b2 d2 l1 l2 i2 op 2 r1 0 x2 0 0 b2 d2 0 0 0) = decide ((0 ≤ r1 ∧ r1 < 16) ∧ r2 = 0 ∧ (0 ≤ x2 ∧ x2 < 16) ∧ b1 = 0 ∧ d1 = 0 ∧ (0 ≤ b2 ∧ b2 < 16) ∧ (0 ≤ d2 ∧ d2 < 4096) ∧ l1 = 0 ∧ l2 = 0 ∧ i2 = 0) := by
  have hm : mostOf 2 = 15 := by decide
  rw [Bool.eq_iff_iff]
  simp only [withB, eqiB, halfB, hm, Bool.and_eq_true, decide_eq_true_eq, beq_iff_eq, true_and, and_true]
  constructor <;> intro h <;> (repeat' apply And.intro) <;> omega
theorem rcheck_2 (op r1 r2 x2 b1 d1 b2 d2 l1 l2 i2 : Int) (w : World) (hi : isOp op = true) (hf : fmOf op = 2) : Calls Tryz.prog 22 #[.agg #[.int .i64 op, .int .i64 2, .int .i64 r1, .int .i64 r2, .int .i64 x2, .int .i64 b1, .int .i64 d1, .int .i64 b2, .int .i64 d2, .int .i64 l1, .int .i64 l2, .int .i64 i2]] w fun e w' => e = .returned (.int .i64 (chk op 2 [op, 2, r1, r2, x2, b1, d1, b2, d2, l1, l2, i2])) ∧ Below w.heap.size w w' := by
  have hk := chkw_2 op r1 r2 x2 b1 d1 b2 d2 l1 l2 i2
  rw [chk_2 op r1 r2 x2 b1 d1 b2 d2 l1 l2 i2 hi hf]
  cases hw : withB 2 r1 r2 x2 b1 d1 b2 d2 l1 l2 i2
  · rw [hw, Bool.false_and] at hk
    rw [if_neg (of_decide_eq_false hk.symm)]
    exact rcheck_out op 2 r1 r2 x2 b1 d1 b2 d2 l1 l2 i2 w hi hf hw
  · rw [hw, Bool.true_and] at hk
    cases he : eqiB op 2 r1 r2 x2 b1 d1 b2 d2 l1 l2 i2 op 2 r1 0 x2 0 0 b2 d2 0 0 0
    · rw [he] at hk
      rw [if_neg (of_decide_eq_false hk.symm)]
      exact rcheck_not op 2 r1 r2 x2 b1 d1 b2 d2 l1 l2 i2 op 2 r1 0 x2 0 0 b2 d2 0 0 0 w hi hf (fun w => own_2 op r1 r2 x2 b1 d1 b2 d2 l1 l2 i2 w) hw he
    · rw [he] at hk
      rw [if_pos (of_decide_eq_true hk.symm)]
      exact rcheck_ok op 2 r1 r2 x2 b1 d1 b2 d2 l1 l2 i2 op 2 r1 0 x2 0 0 b2 d2 0 0 0 w hi hf (fun w => own_2 op r1 r2 x2 b1 d1 b2 d2 l1 l2 i2 w) hw he
theorem chkw_3 (op r1 r2 x2 b1 d1 b2 d2 l1 l2 i2 : Int) : (withB 3 r1 r2 x2 b1 d1 b2 d2 l1 l2 i2 && eqiB op 3 r1 r2 x2 b1 d1 b2 d2 l1 l2 i2 op 3 r1 r2 0 0 0 b2 d2 0 0 0) = decide ((0 ≤ r1 ∧ r1 < 16) ∧ (0 ≤ r2 ∧ r2 < 16) ∧ x2 = 0 ∧ b1 = 0 ∧ d1 = 0 ∧ (0 ≤ b2 ∧ b2 < 16) ∧ (0 ≤ d2 ∧ d2 < 4096) ∧ l1 = 0 ∧ l2 = 0 ∧ i2 = 0) := by
  have hm : mostOf 3 = 15 := by decide
  rw [Bool.eq_iff_iff]
  simp only [withB, eqiB, halfB, hm, Bool.and_eq_true, decide_eq_true_eq, beq_iff_eq, true_and, and_true]
  constructor <;> intro h <;> (repeat' apply And.intro) <;> omega
theorem rcheck_3 (op r1 r2 x2 b1 d1 b2 d2 l1 l2 i2 : Int) (w : World) (hi : isOp op = true) (hf : fmOf op = 3) : Calls Tryz.prog 22 #[.agg #[.int .i64 op, .int .i64 3, .int .i64 r1, .int .i64 r2, .int .i64 x2, .int .i64 b1, .int .i64 d1, .int .i64 b2, .int .i64 d2, .int .i64 l1, .int .i64 l2, .int .i64 i2]] w fun e w' => e = .returned (.int .i64 (chk op 3 [op, 3, r1, r2, x2, b1, d1, b2, d2, l1, l2, i2])) ∧ Below w.heap.size w w' := by
  have hk := chkw_3 op r1 r2 x2 b1 d1 b2 d2 l1 l2 i2
  rw [chk_3 op r1 r2 x2 b1 d1 b2 d2 l1 l2 i2 hi hf]
  cases hw : withB 3 r1 r2 x2 b1 d1 b2 d2 l1 l2 i2
  · rw [hw, Bool.false_and] at hk
    rw [if_neg (of_decide_eq_false hk.symm)]
    exact rcheck_out op 3 r1 r2 x2 b1 d1 b2 d2 l1 l2 i2 w hi hf hw
  · rw [hw, Bool.true_and] at hk
    cases he : eqiB op 3 r1 r2 x2 b1 d1 b2 d2 l1 l2 i2 op 3 r1 r2 0 0 0 b2 d2 0 0 0
    · rw [he] at hk
      rw [if_neg (of_decide_eq_false hk.symm)]
      exact rcheck_not op 3 r1 r2 x2 b1 d1 b2 d2 l1 l2 i2 op 3 r1 r2 0 0 0 b2 d2 0 0 0 w hi hf (fun w => own_3 op r1 r2 x2 b1 d1 b2 d2 l1 l2 i2 w) hw he
    · rw [he] at hk
      rw [if_pos (of_decide_eq_true hk.symm)]
      exact rcheck_ok op 3 r1 r2 x2 b1 d1 b2 d2 l1 l2 i2 op 3 r1 r2 0 0 0 b2 d2 0 0 0 w hi hf (fun w => own_3 op r1 r2 x2 b1 d1 b2 d2 l1 l2 i2 w) hw he
theorem chkw_4 (op r1 r2 x2 b1 d1 b2 d2 l1 l2 i2 : Int) : (withB 4 r1 r2 x2 b1 d1 b2 d2 l1 l2 i2 && eqiB op 4 r1 r2 x2 b1 d1 b2 d2 l1 l2 i2 op 4 0 0 0 b1 d1 0 0 0 0 i2) = decide (r1 = 0 ∧ r2 = 0 ∧ x2 = 0 ∧ (0 ≤ b1 ∧ b1 < 16) ∧ (0 ≤ d1 ∧ d1 < 4096) ∧ b2 = 0 ∧ d2 = 0 ∧ l1 = 0 ∧ l2 = 0 ∧ (0 ≤ i2 ∧ i2 < 256)) := by
  have hm : mostOf 4 = 15 := by decide
  rw [Bool.eq_iff_iff]
  simp only [withB, eqiB, halfB, hm, Bool.and_eq_true, decide_eq_true_eq, beq_iff_eq, true_and, and_true]
  constructor <;> intro h <;> (repeat' apply And.intro) <;> omega
theorem rcheck_4 (op r1 r2 x2 b1 d1 b2 d2 l1 l2 i2 : Int) (w : World) (hi : isOp op = true) (hf : fmOf op = 4) : Calls Tryz.prog 22 #[.agg #[.int .i64 op, .int .i64 4, .int .i64 r1, .int .i64 r2, .int .i64 x2, .int .i64 b1, .int .i64 d1, .int .i64 b2, .int .i64 d2, .int .i64 l1, .int .i64 l2, .int .i64 i2]] w fun e w' => e = .returned (.int .i64 (chk op 4 [op, 4, r1, r2, x2, b1, d1, b2, d2, l1, l2, i2])) ∧ Below w.heap.size w w' := by
  have hk := chkw_4 op r1 r2 x2 b1 d1 b2 d2 l1 l2 i2
  rw [chk_4 op r1 r2 x2 b1 d1 b2 d2 l1 l2 i2 hi hf]
  cases hw : withB 4 r1 r2 x2 b1 d1 b2 d2 l1 l2 i2
  · rw [hw, Bool.false_and] at hk
    rw [if_neg (of_decide_eq_false hk.symm)]
    exact rcheck_out op 4 r1 r2 x2 b1 d1 b2 d2 l1 l2 i2 w hi hf hw
  · rw [hw, Bool.true_and] at hk
    cases he : eqiB op 4 r1 r2 x2 b1 d1 b2 d2 l1 l2 i2 op 4 0 0 0 b1 d1 0 0 0 0 i2
    · rw [he] at hk
      rw [if_neg (of_decide_eq_false hk.symm)]
      exact rcheck_not op 4 r1 r2 x2 b1 d1 b2 d2 l1 l2 i2 op 4 0 0 0 b1 d1 0 0 0 0 i2 w hi hf (fun w => own_4 op r1 r2 x2 b1 d1 b2 d2 l1 l2 i2 w) hw he
    · rw [he] at hk
      rw [if_pos (of_decide_eq_true hk.symm)]
      exact rcheck_ok op 4 r1 r2 x2 b1 d1 b2 d2 l1 l2 i2 op 4 0 0 0 b1 d1 0 0 0 0 i2 w hi hf (fun w => own_4 op r1 r2 x2 b1 d1 b2 d2 l1 l2 i2 w) hw he
theorem chkw_9 (op r1 r2 x2 b1 d1 b2 d2 l1 l2 i2 : Int) : (withB 9 r1 r2 x2 b1 d1 b2 d2 l1 l2 i2 && eqiB op 9 r1 r2 x2 b1 d1 b2 d2 l1 l2 i2 op 9 0 0 0 b1 d1 0 0 0 0 0) = decide (r1 = 0 ∧ r2 = 0 ∧ x2 = 0 ∧ (0 ≤ b1 ∧ b1 < 16) ∧ (0 ≤ d1 ∧ d1 < 4096) ∧ b2 = 0 ∧ d2 = 0 ∧ l1 = 0 ∧ l2 = 0 ∧ i2 = 0) := by
  have hm : mostOf 9 = 15 := by decide
  rw [Bool.eq_iff_iff]
  simp only [withB, eqiB, halfB, hm, Bool.and_eq_true, decide_eq_true_eq, beq_iff_eq, true_and, and_true]
  constructor <;> intro h <;> (repeat' apply And.intro) <;> omega
theorem rcheck_9 (op r1 r2 x2 b1 d1 b2 d2 l1 l2 i2 : Int) (w : World) (hi : isOp op = true) (hf : fmOf op = 9) : Calls Tryz.prog 22 #[.agg #[.int .i64 op, .int .i64 9, .int .i64 r1, .int .i64 r2, .int .i64 x2, .int .i64 b1, .int .i64 d1, .int .i64 b2, .int .i64 d2, .int .i64 l1, .int .i64 l2, .int .i64 i2]] w fun e w' => e = .returned (.int .i64 (chk op 9 [op, 9, r1, r2, x2, b1, d1, b2, d2, l1, l2, i2])) ∧ Below w.heap.size w w' := by
  have hk := chkw_9 op r1 r2 x2 b1 d1 b2 d2 l1 l2 i2
  rw [chk_9 op r1 r2 x2 b1 d1 b2 d2 l1 l2 i2 hi hf]
  cases hw : withB 9 r1 r2 x2 b1 d1 b2 d2 l1 l2 i2
  · rw [hw, Bool.false_and] at hk
    rw [if_neg (of_decide_eq_false hk.symm)]
    exact rcheck_out op 9 r1 r2 x2 b1 d1 b2 d2 l1 l2 i2 w hi hf hw
  · rw [hw, Bool.true_and] at hk
    cases he : eqiB op 9 r1 r2 x2 b1 d1 b2 d2 l1 l2 i2 op 9 0 0 0 b1 d1 0 0 0 0 0
    · rw [he] at hk
      rw [if_neg (of_decide_eq_false hk.symm)]
      exact rcheck_not op 9 r1 r2 x2 b1 d1 b2 d2 l1 l2 i2 op 9 0 0 0 b1 d1 0 0 0 0 0 w hi hf (fun w => own_9 op r1 r2 x2 b1 d1 b2 d2 l1 l2 i2 w) hw he
    · rw [he] at hk
      rw [if_pos (of_decide_eq_true hk.symm)]
      exact rcheck_ok op 9 r1 r2 x2 b1 d1 b2 d2 l1 l2 i2 op 9 0 0 0 b1 d1 0 0 0 0 0 w hi hf (fun w => own_9 op r1 r2 x2 b1 d1 b2 d2 l1 l2 i2 w) hw he
theorem chkw_5 (op r1 r2 x2 b1 d1 b2 d2 l1 l2 i2 : Int) : (withB 5 r1 r2 x2 b1 d1 b2 d2 l1 l2 i2 && eqiB op 5 r1 r2 x2 b1 d1 b2 d2 l1 l2 i2 op 5 0 0 0 b1 d1 b2 d2 l1 0 0) = decide (r1 = 0 ∧ r2 = 0 ∧ x2 = 0 ∧ (0 ≤ b1 ∧ b1 < 16) ∧ (0 ≤ d1 ∧ d1 < 4096) ∧ (0 ≤ b2 ∧ b2 < 16) ∧ (0 ≤ d2 ∧ d2 < 4096) ∧ (0 ≤ l1 ∧ l1 < 256) ∧ l2 = 0 ∧ i2 = 0) := by
  have hm : mostOf 5 = 255 := by decide
  rw [Bool.eq_iff_iff]
  simp only [withB, eqiB, halfB, hm, Bool.and_eq_true, decide_eq_true_eq, beq_iff_eq, true_and, and_true]
  constructor <;> intro h <;> (repeat' apply And.intro) <;> omega
theorem rcheck_5 (op r1 r2 x2 b1 d1 b2 d2 l1 l2 i2 : Int) (w : World) (hi : isOp op = true) (hf : fmOf op = 5) : Calls Tryz.prog 22 #[.agg #[.int .i64 op, .int .i64 5, .int .i64 r1, .int .i64 r2, .int .i64 x2, .int .i64 b1, .int .i64 d1, .int .i64 b2, .int .i64 d2, .int .i64 l1, .int .i64 l2, .int .i64 i2]] w fun e w' => e = .returned (.int .i64 (chk op 5 [op, 5, r1, r2, x2, b1, d1, b2, d2, l1, l2, i2])) ∧ Below w.heap.size w w' := by
  have hk := chkw_5 op r1 r2 x2 b1 d1 b2 d2 l1 l2 i2
  rw [chk_5 op r1 r2 x2 b1 d1 b2 d2 l1 l2 i2 hi hf]
  cases hw : withB 5 r1 r2 x2 b1 d1 b2 d2 l1 l2 i2
  · rw [hw, Bool.false_and] at hk
    rw [if_neg (of_decide_eq_false hk.symm)]
    exact rcheck_out op 5 r1 r2 x2 b1 d1 b2 d2 l1 l2 i2 w hi hf hw
  · rw [hw, Bool.true_and] at hk
    cases he : eqiB op 5 r1 r2 x2 b1 d1 b2 d2 l1 l2 i2 op 5 0 0 0 b1 d1 b2 d2 l1 0 0
    · rw [he] at hk
      rw [if_neg (of_decide_eq_false hk.symm)]
      exact rcheck_not op 5 r1 r2 x2 b1 d1 b2 d2 l1 l2 i2 op 5 0 0 0 b1 d1 b2 d2 l1 0 0 w hi hf (fun w => own_5 op r1 r2 x2 b1 d1 b2 d2 l1 l2 i2 w) hw he
    · rw [he] at hk
      rw [if_pos (of_decide_eq_true hk.symm)]
      exact rcheck_ok op 5 r1 r2 x2 b1 d1 b2 d2 l1 l2 i2 op 5 0 0 0 b1 d1 b2 d2 l1 0 0 w hi hf (fun w => own_5 op r1 r2 x2 b1 d1 b2 d2 l1 l2 i2 w) hw he
theorem chkw_6 (op r1 r2 x2 b1 d1 b2 d2 l1 l2 i2 : Int) : (withB 6 r1 r2 x2 b1 d1 b2 d2 l1 l2 i2 && eqiB op 6 r1 r2 x2 b1 d1 b2 d2 l1 l2 i2 op 6 0 0 0 b1 d1 b2 d2 l1 l2 0) = decide (r1 = 0 ∧ r2 = 0 ∧ x2 = 0 ∧ (0 ≤ b1 ∧ b1 < 16) ∧ (0 ≤ d1 ∧ d1 < 4096) ∧ (0 ≤ b2 ∧ b2 < 16) ∧ (0 ≤ d2 ∧ d2 < 4096) ∧ (0 ≤ l1 ∧ l1 < 16) ∧ (0 ≤ l2 ∧ l2 < 16) ∧ i2 = 0) := by
  have hm : mostOf 6 = 15 := by decide
  rw [Bool.eq_iff_iff]
  simp only [withB, eqiB, halfB, hm, Bool.and_eq_true, decide_eq_true_eq, beq_iff_eq, true_and, and_true]
  constructor <;> intro h <;> (repeat' apply And.intro) <;> omega
theorem rcheck_6 (op r1 r2 x2 b1 d1 b2 d2 l1 l2 i2 : Int) (w : World) (hi : isOp op = true) (hf : fmOf op = 6) : Calls Tryz.prog 22 #[.agg #[.int .i64 op, .int .i64 6, .int .i64 r1, .int .i64 r2, .int .i64 x2, .int .i64 b1, .int .i64 d1, .int .i64 b2, .int .i64 d2, .int .i64 l1, .int .i64 l2, .int .i64 i2]] w fun e w' => e = .returned (.int .i64 (chk op 6 [op, 6, r1, r2, x2, b1, d1, b2, d2, l1, l2, i2])) ∧ Below w.heap.size w w' := by
  have hk := chkw_6 op r1 r2 x2 b1 d1 b2 d2 l1 l2 i2
  rw [chk_6 op r1 r2 x2 b1 d1 b2 d2 l1 l2 i2 hi hf]
  cases hw : withB 6 r1 r2 x2 b1 d1 b2 d2 l1 l2 i2
  · rw [hw, Bool.false_and] at hk
    rw [if_neg (of_decide_eq_false hk.symm)]
    exact rcheck_out op 6 r1 r2 x2 b1 d1 b2 d2 l1 l2 i2 w hi hf hw
  · rw [hw, Bool.true_and] at hk
    cases he : eqiB op 6 r1 r2 x2 b1 d1 b2 d2 l1 l2 i2 op 6 0 0 0 b1 d1 b2 d2 l1 l2 0
    · rw [he] at hk
      rw [if_neg (of_decide_eq_false hk.symm)]
      exact rcheck_not op 6 r1 r2 x2 b1 d1 b2 d2 l1 l2 i2 op 6 0 0 0 b1 d1 b2 d2 l1 l2 0 w hi hf (fun w => own_6 op r1 r2 x2 b1 d1 b2 d2 l1 l2 i2 w) hw he
    · rw [he] at hk
      rw [if_pos (of_decide_eq_true hk.symm)]
      exact rcheck_ok op 6 r1 r2 x2 b1 d1 b2 d2 l1 l2 i2 op 6 0 0 0 b1 d1 b2 d2 l1 l2 0 w hi hf (fun w => own_6 op r1 r2 x2 b1 d1 b2 d2 l1 l2 i2 w) hw he
theorem rcheck_c (op fm r1 r2 x2 b1 d1 b2 d2 l1 l2 i2 : Int) (w : World) : Calls Tryz.prog 22 #[.agg #[.int .i64 op, .int .i64 fm, .int .i64 r1, .int .i64 r2, .int .i64 x2, .int .i64 b1, .int .i64 d1, .int .i64 b2, .int .i64 d2, .int .i64 l1, .int .i64 l2, .int .i64 i2]] w fun e w' => e = .returned (.int .i64 (chk op fm [op, fm, r1, r2, x2, b1, d1, b2, d2, l1, l2, i2])) ∧ Below w.heap.size w w' := by
  cases hi : isOp op
  · rw [show chk op fm [op, fm, r1, r2, x2, b1, d1, b2, d2, l1, l2, i2] = 80 from by unfold chk; rw [hi, if_neg (by simp)]]
    exact rcheck_no op fm r1 r2 x2 b1 d1 b2 d2 l1 l2 i2 w hi
  · by_cases hf : fmOf op = fm
    · rcases form_cases hi with h | h | h | h | h | h | h | h | h
      all_goals obtain ⟨h, -⟩ := h; rw [h] at hf; subst hf
      · exact rcheck_1 op r1 r2 x2 b1 d1 b2 d2 l1 l2 i2 w hi h
      · exact rcheck_7 op r1 r2 x2 b1 d1 b2 d2 l1 l2 i2 w hi h
      · exact rcheck_8 op r1 r2 x2 b1 d1 b2 d2 l1 l2 i2 w hi h
      · exact rcheck_2 op r1 r2 x2 b1 d1 b2 d2 l1 l2 i2 w hi h
      · exact rcheck_3 op r1 r2 x2 b1 d1 b2 d2 l1 l2 i2 w hi h
      · exact rcheck_4 op r1 r2 x2 b1 d1 b2 d2 l1 l2 i2 w hi h
      · exact rcheck_9 op r1 r2 x2 b1 d1 b2 d2 l1 l2 i2 w hi h
      · exact rcheck_5 op r1 r2 x2 b1 d1 b2 d2 l1 l2 i2 w hi h
      · exact rcheck_6 op r1 r2 x2 b1 d1 b2 d2 l1 l2 i2 w hi h
    · rw [show chk op fm [op, fm, r1, r2, x2, b1, d1, b2, d2, l1, l2, i2] = 80 from by unfold chk; rw [if_neg (fun h => hf h.2)]]
      exact rcheck_form op fm r1 r2 x2 b1 d1 b2 d2 l1 l2 i2 w hi hf
end Go.Proofs.YthjdjbipfdigeaaGreat

namespace Go.Proofs.YthjdjbipfdigeaaGreat
open Go.RowKit
set_option maxRecDepth 100000
set_option linter.unusedVariables false
set_option linter.unusedSimpArgs false
theorem rexec_c {w : World} {G : Foot} {os bs ks : List Int} (op fm r1 r2 x2 b1 d1 b2 d2 l1 l2 i2 : Int) (p : Ps) (hl : os.length = 16) (ro : ∀ z ∈ os, 0 ≤ z ∧ z ≤ 4294967295) (h : St 70 w G bs ks) {O : Out} (hO : xC op fm r1 r2 x2 b1 d1 b2 d2 l1 l2 i2 os p.m p.key p.cd p.il p.cc p.pg p.ad bs ks = O) : Calls Tryz.prog 8 #[.agg #[.int .i64 op, .int .i64 fm, .int .i64 r1, .int .i64 r2, .int .i64 x2, .int .i64 b1, .int .i64 d1, .int .i64 b2, .int .i64 d2, .int .i64 l1, .int .i64 l2, .int .i64 i2], agR os, .agg p.v.toArray, .pointer (some ⟨G.g, 0, none⟩)] w fun e w' => ∃ G' : Foot, G'.g = G.g ∧ (G' = G ∨ (w.heap.size ≤ G'.gb ∧ w.heap.size ≤ G'.gk)) ∧ e = .returned (.tuple #[agR O.rs, .agg (p.to O.cc O.pg O.ad).v.toArray, .int .i64 O.c]) ∧ St 70 w' G' O.bs ks ∧ Ch w w' [G.g] := by
  by_cases hv : kn op = true ∧ chk op fm [op, fm, r1, r2, x2, b1, d1, b2, d2, l1, l2, i2] = 0 ∧ pok p.m p.key p.cd p.il p.cc p.pg p.ad = true
  · obtain ⟨hkn, hck, hv⟩ := hv
    have hrg := chk_rng hck
    obtain ⟨-, hfo, ⟨hr10, hr11⟩, ⟨hr20, hr21⟩, ⟨hx0, hx1⟩, ⟨hb10, hb11⟩, hd1, ⟨hb20, hb21⟩, hd2, ⟨hl0, hl1⟩, -, hi2⟩ := hrg
    obtain ⟨n, rfl⟩ := Int.eq_ofNat_of_zero_le hr10
    obtain ⟨k, rfl⟩ := Int.eq_ofNat_of_zero_le hr20
    obtain ⟨xx, rfl⟩ := Int.eq_ofNat_of_zero_le hx0
    obtain ⟨bb1, rfl⟩ := Int.eq_ofNat_of_zero_le hb10
    obtain ⟨bb2, rfl⟩ := Int.eq_ofNat_of_zero_le hb20
    obtain ⟨ll, rfl⟩ := Int.eq_ofNat_of_zero_le hl0
    obtain ⟨-, -, -, q0, q1, q2, q3⟩ := (pok_iff _ _ _ _ _ _ _).1 hv
    obtain ⟨o, ho⟩ : ∃ o, exO ⟨os, p.key, p.il, p.cc, p.pg, p.ad, bs, ks⟩ op fm n k ((d1 + sumB os [bb1]) % 16777216) ((d2 + sumB os [bb2, xx]) % 16777216) ll i2 = o := ⟨_, rfl⟩
    have hx : (xC op fm (n : Int) (k : Int) (xx : Int) (bb1 : Int) d1 (bb2 : Int) d2 (ll : Int) l2 i2 os p.m p.key p.cd p.il p.cc p.pg p.ad bs ks) = if o.c = 0 then { o with c := if o.ov = true ∧ 8 ≤ p.pg then 8 else 0 } else ⟨o.c, os, p.cc, p.pg, p.ad, false, bs⟩ := by
      unfold xC
      rw [if_pos ⟨hkn, hck, hv⟩]
      simp only [Int.toNat_natCast, ho]
    rw [hx] at hO
    subst hO
    refine (rexec_ok (I := ⟨op, fm, n, k, xx, bb1, d1, bb2, d2, ll, l2, i2⟩) hl ro ⟨by dsimp only; omega, by dsimp only; omega, by dsimp only; omega, by dsimp only; omega, by dsimp only; omega, by dsimp only; omega, by dsimp only; omega, by dsimp only; omega, by dsimp only; omega⟩ ⟨q0, q1, q2, q3⟩ h (fun W => rcheck_c _ _ _ _ _ _ _ _ _ _ _ _ W) hkn hck hv hfo.symm ho).mono ?_
    rintro e w' ⟨hne, hz⟩
    by_cases h0 : o.c = 0
    · rw [if_pos h0]
      obtain ⟨G', g1, g2, g3, he, hs, hc⟩ := hz h0
      exact ⟨G', g1, .inr ⟨g2, g3⟩, he, hs, hc⟩
    · rw [if_neg h0]
      obtain ⟨he, hs, hc⟩ := hne h0
      exact ⟨G, rfl, .inl rfl, he, hs, hc.mono (by simp)⟩
  · have hx : (xC op fm r1 r2 x2 b1 d1 b2 d2 l1 l2 i2 os p.m p.key p.cd p.il p.cc p.pg p.ad bs ks) = ⟨1, os, p.cc, p.pg, p.ad, false, bs⟩ := by unfold xC; rw [if_neg hv]
    rw [hx] at hO
    subst hO
    refine (rexec_no op fm r1 r2 x2 b1 d1 b2 d2 l1 l2 i2 p hl h (fun W => rcheck_c _ _ _ _ _ _ _ _ _ _ _ _ W) hv).mono ?_
    rintro e w' ⟨he, hs, hc⟩
    exact ⟨G, rfl, .inl rfl, he, hs, hc.mono (by simp)⟩
end Go.Proofs.YthjdjbipfdigeaaGreat

