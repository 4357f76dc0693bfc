/- THE WALK of GeneralNone: it returns true and writes nothing that was there. No conditions. -/
import Derived.Test.YthjdjbipfdigeaaGe10
namespace Go.Proofs.Ythjdjbipfdigeaa
open Go.RowKit
set_option maxRecDepth 100000
set_option linter.unusedVariables false
set_option linter.unusedSimpArgs false
attribute [local go_sem] eqr_run eqr_guard eqr_refl eqp_run eqp_guard eqp_refl
set_option maxRecDepth 1000000 in
set_option maxHeartbeats 4000000 in
theorem generalNone_go (op fm r1 r2 x2 b1 d1 b2 d2 l1 l2 i2 : Int) (a0 a1 a2 a3 a4 a5 a6 a7 a8 a9 a10 a11 a12 a13 a14 a15 : Int) (pm pk : Int) (pM pW pP : Bool) (pc pi pq pg pa : Int) (x y z : Value) (w : World) : Calls Try.prog 4 #[.agg #[.int .i64 op, .int .i64 fm, .int .i64 r1, .int .i64 r2, .int .i64 x2, .int .i64 b1, .int .i64 d1, .int .i64 b2, .int .i64 d2, .int .i64 l1, .int .i64 l2, .int .i64 i2], .agg #[.int .u32 a0, .int .u32 a1, .int .u32 a2, .int .u32 a3, .int .u32 a4, .int .u32 a5, .int .u32 a6, .int .u32 a7, .int .u32 a8, .int .u32 a9, .int .u32 a10, .int .u32 a11, .int .u32 a12, .int .u32 a13, .int .u32 a14, .int .u32 a15, .int .i64 pm, .int .i64 pk, .bool pM, .bool pW, .bool pP, .int .i64 pc, .int .i64 pi, .int .i64 pq, .int .i64 pg, .int .i64 pa, x, y, z]] w fun e w' => e = .returned (.bool true) ∧ Below w.heap.size w w' := by
  have EC := Lib.hid (exec_nil op fm r1 r2 x2 b1 d1 b2 d2 l1 l2 i2 a0 a1 a2 a3 a4 a5 a6 a7 a8 a9 a10 a11 a12 a13 a14 a15 pm pk pM pW pP pc pi pq pg pa)
  have WK := Lib.hid (fun W (h : Below w.heap.size w W) => (works_c W).mono (fun e w' h' => And.intro h'.1 (h.trans (h'.2.mono h.size))))
  go_enter Try.func4, Try.ntmps4
  go_upto_region 1 with fail
  have B0 := Lib.hid (show Bk ((w.alloc (.cells #[.int .i64 op, .int .i64 fm, .int .i64 r1, .int .i64 r2, .int .i64 x2, .int .i64 b1, .int .i64 d1, .int .i64 b2, .int .i64 d2, .int .i64 l1, .int .i64 l2, .int .i64 i2] 25)).alloc (.cells #[.int .u32 a0, .int .u32 a1, .int .u32 a2, .int .u32 a3, .int .u32 a4, .int .u32 a5, .int .u32 a6, .int .u32 a7, .int .u32 a8, .int .u32 a9, .int .u32 a10, .int .u32 a11, .int .u32 a12, .int .u32 a13, .int .u32 a14, .int .u32 a15, .int .i64 pm, .int .i64 pk, .bool pM, .bool pW, .bool pP, .int .i64 pc, .int .i64 pi, .int .i64 pq, .int .i64 pg, .int .i64 pa, x, y, z] 36)) w.heap.size 25 [.int .i64 op, .int .i64 fm, .int .i64 r1, .int .i64 r2, .int .i64 x2, .int .i64 b1, .int .i64 d1, .int .i64 b2, .int .i64 d2, .int .i64 l1, .int .i64 l2, .int .i64 i2] from (Bk.new w _ _).alloc _)
  have B1 := Lib.hid (show Bk ((w.alloc (.cells #[.int .i64 op, .int .i64 fm, .int .i64 r1, .int .i64 r2, .int .i64 x2, .int .i64 b1, .int .i64 d1, .int .i64 b2, .int .i64 d2, .int .i64 l1, .int .i64 l2, .int .i64 i2] 25)).alloc (.cells #[.int .u32 a0, .int .u32 a1, .int .u32 a2, .int .u32 a3, .int .u32 a4, .int .u32 a5, .int .u32 a6, .int .u32 a7, .int .u32 a8, .int .u32 a9, .int .u32 a10, .int .u32 a11, .int .u32 a12, .int .u32 a13, .int .u32 a14, .int .u32 a15, .int .i64 pm, .int .i64 pk, .bool pM, .bool pW, .bool pP, .int .i64 pc, .int .i64 pi, .int .i64 pq, .int .i64 pg, .int .i64 pa, x, y, z] 36)) (w.heap.size + 1) 36 [.int .u32 a0, .int .u32 a1, .int .u32 a2, .int .u32 a3, .int .u32 a4, .int .u32 a5, .int .u32 a6, .int .u32 a7, .int .u32 a8, .int .u32 a9, .int .u32 a10, .int .u32 a11, .int .u32 a12, .int .u32 a13, .int .u32 a14, .int .u32 a15, .int .i64 pm, .int .i64 pk, .bool pM, .bool pW, .bool pP, .int .i64 pc, .int .i64 pi, .int .i64 pq, .int .i64 pg, .int .i64 pa, x, y, z] from by have := Bk.new (w.alloc (.cells #[.int .i64 op, .int .i64 fm, .int .i64 r1, .int .i64 r2, .int .i64 x2, .int .i64 b1, .int .i64 d1, .int .i64 b2, .int .i64 d2, .int .i64 l1, .int .i64 l2, .int .i64 i2] 25)) [.int .u32 a0, .int .u32 a1, .int .u32 a2, .int .u32 a3, .int .u32 a4, .int .u32 a5, .int .u32 a6, .int .u32 a7, .int .u32 a8, .int .u32 a9, .int .u32 a10, .int .u32 a11, .int .u32 a12, .int .u32 a13, .int .u32 a14, .int .u32 a15, .int .i64 pm, .int .i64 pk, .bool pM, .bool pW, .bool pP, .int .i64 pc, .int .i64 pi, .int .i64 pq, .int .i64 pg, .int .i64 pa, x, y, z] 36; rw [World.size_alloc] at this; exact this)
  have HB := Lib.hid (show Below w.heap.size w ((w.alloc (.cells #[.int .i64 op, .int .i64 fm, .int .i64 r1, .int .i64 r2, .int .i64 x2, .int .i64 b1, .int .i64 d1, .int .i64 b2, .int .i64 d2, .int .i64 l1, .int .i64 l2, .int .i64 i2] 25)).alloc (.cells #[.int .u32 a0, .int .u32 a1, .int .u32 a2, .int .u32 a3, .int .u32 a4, .int .u32 a5, .int .u32 a6, .int .u32 a7, .int .u32 a8, .int .u32 a9, .int .u32 a10, .int .u32 a11, .int .u32 a12, .int .u32 a13, .int .u32 a14, .int .u32 a15, .int .i64 pm, .int .i64 pk, .bool pM, .bool pW, .bool pP, .int .i64 pc, .int .i64 pi, .int .i64 pq, .int .i64 pg, .int .i64 pa, x, y, z] 36)) from ((Below.refl _ _).alloc (Nat.le_refl _) _).alloc (by simp) _)
  obtain ⟨W0, hW0⟩ : ∃ W0, (w.alloc (.cells #[.int .i64 op, .int .i64 fm, .int .i64 r1, .int .i64 r2, .int .i64 x2, .int .i64 b1, .int .i64 d1, .int .i64 b2, .int .i64 d2, .int .i64 l1, .int .i64 l2, .int .i64 i2] 25)).alloc (.cells #[.int .u32 a0, .int .u32 a1, .int .u32 a2, .int .u32 a3, .int .u32 a4, .int .u32 a5, .int .u32 a6, .int .u32 a7, .int .u32 a8, .int .u32 a9, .int .u32 a10, .int .u32 a11, .int .u32 a12, .int .u32 a13, .int .u32 a14, .int .u32 a15, .int .i64 pm, .int .i64 pk, .bool pM, .bool pW, .bool pP, .int .i64 pc, .int .i64 pi, .int .i64 pq, .int .i64 pg, .int .i64 pa, x, y, z] 36) = W0 := ⟨_, rfl⟩
  rw [hW0] at B0 B1 HB
  try rw [hW0]
  clear hW0
  have ka0 : W0.cell? ⟨w.heap.size, 0, none⟩ = some (.int .i64 op) := B0.out.cell (c := 0) rfl
  have ka1 : W0.cell? ⟨w.heap.size, 1, none⟩ = some (.int .i64 fm) := B0.out.cell (c := 1) rfl
  have ka2 : W0.cell? ⟨w.heap.size, 2, none⟩ = some (.int .i64 r1) := B0.out.cell (c := 2) rfl
  have ka3 : W0.cell? ⟨w.heap.size, 3, none⟩ = some (.int .i64 r2) := B0.out.cell (c := 3) rfl
  have ka4 : W0.cell? ⟨w.heap.size, 4, none⟩ = some (.int .i64 x2) := B0.out.cell (c := 4) rfl
  have ka5 : W0.cell? ⟨w.heap.size, 5, none⟩ = some (.int .i64 b1) := B0.out.cell (c := 5) rfl
  have ka6 : W0.cell? ⟨w.heap.size, 6, none⟩ = some (.int .i64 d1) := B0.out.cell (c := 6) rfl
  have ka7 : W0.cell? ⟨w.heap.size, 7, none⟩ = some (.int .i64 b2) := B0.out.cell (c := 7) rfl
  have ka8 : W0.cell? ⟨w.heap.size, 8, none⟩ = some (.int .i64 d2) := B0.out.cell (c := 8) rfl
  have ka9 : W0.cell? ⟨w.heap.size, 9, none⟩ = some (.int .i64 l1) := B0.out.cell (c := 9) rfl
  have ka10 : W0.cell? ⟨w.heap.size, 10, none⟩ = some (.int .i64 l2) := B0.out.cell (c := 10) rfl
  have ka11 : W0.cell? ⟨w.heap.size, 11, none⟩ = some (.int .i64 i2) := B0.out.cell (c := 11) rfl
  have kb0 : W0.cell? ⟨w.heap.size + 1, 0, none⟩ = some (.int .u32 a0) := B1.out.cell (c := 0) rfl
  have kb1 : W0.cell? ⟨w.heap.size + 1, 1, none⟩ = some (.int .u32 a1) := B1.out.cell (c := 1) rfl
  have kb2 : W0.cell? ⟨w.heap.size + 1, 2, none⟩ = some (.int .u32 a2) := B1.out.cell (c := 2) rfl
  have kb3 : W0.cell? ⟨w.heap.size + 1, 3, none⟩ = some (.int .u32 a3) := B1.out.cell (c := 3) rfl
  have kb4 : W0.cell? ⟨w.heap.size + 1, 4, none⟩ = some (.int .u32 a4) := B1.out.cell (c := 4) rfl
  have kb5 : W0.cell? ⟨w.heap.size + 1, 5, none⟩ = some (.int .u32 a5) := B1.out.cell (c := 5) rfl
  have kb6 : W0.cell? ⟨w.heap.size + 1, 6, none⟩ = some (.int .u32 a6) := B1.out.cell (c := 6) rfl
  have kb7 : W0.cell? ⟨w.heap.size + 1, 7, none⟩ = some (.int .u32 a7) := B1.out.cell (c := 7) rfl
  have kb8 : W0.cell? ⟨w.heap.size + 1, 8, none⟩ = some (.int .u32 a8) := B1.out.cell (c := 8) rfl
  have kb9 : W0.cell? ⟨w.heap.size + 1, 9, none⟩ = some (.int .u32 a9) := B1.out.cell (c := 9) rfl
  have kb10 : W0.cell? ⟨w.heap.size + 1, 10, none⟩ = some (.int .u32 a10) := B1.out.cell (c := 10) rfl
  have kb11 : W0.cell? ⟨w.heap.size + 1, 11, none⟩ = some (.int .u32 a11) := B1.out.cell (c := 11) rfl
  have kb12 : W0.cell? ⟨w.heap.size + 1, 12, none⟩ = some (.int .u32 a12) := B1.out.cell (c := 12) rfl
  have kb13 : W0.cell? ⟨w.heap.size + 1, 13, none⟩ = some (.int .u32 a13) := B1.out.cell (c := 13) rfl
  have kb14 : W0.cell? ⟨w.heap.size + 1, 14, none⟩ = some (.int .u32 a14) := B1.out.cell (c := 14) rfl
  have kb15 : W0.cell? ⟨w.heap.size + 1, 15, none⟩ = some (.int .u32 a15) := B1.out.cell (c := 15) rfl
  have kb16 : W0.cell? ⟨w.heap.size + 1, 16, none⟩ = some (.int .i64 pm) := B1.out.cell (c := 16) rfl
  have kb17 : W0.cell? ⟨w.heap.size + 1, 17, none⟩ = some (.int .i64 pk) := B1.out.cell (c := 17) rfl
  have kb18 : W0.cell? ⟨w.heap.size + 1, 18, none⟩ = some (.bool pM) := B1.out.cell (c := 18) rfl
  have kb19 : W0.cell? ⟨w.heap.size + 1, 19, none⟩ = some (.bool pW) := B1.out.cell (c := 19) rfl
  have kb20 : W0.cell? ⟨w.heap.size + 1, 20, none⟩ = some (.bool pP) := B1.out.cell (c := 20) rfl
  have kb21 : W0.cell? ⟨w.heap.size + 1, 21, none⟩ = some (.int .i64 pc) := B1.out.cell (c := 21) rfl
  have kb22 : W0.cell? ⟨w.heap.size + 1, 22, none⟩ = some (.int .i64 pi) := B1.out.cell (c := 22) rfl
  have kb23 : W0.cell? ⟨w.heap.size + 1, 23, none⟩ = some (.int .i64 pq) := B1.out.cell (c := 23) rfl
  have kb24 : W0.cell? ⟨w.heap.size + 1, 24, none⟩ = some (.int .i64 pg) := B1.out.cell (c := 24) rfl
  have kb25 : W0.cell? ⟨w.heap.size + 1, 25, none⟩ = some (.int .i64 pa) := B1.out.cell (c := 25) rfl
  go_wp2_with fail
  refine (EC.out _).mono ?_
  rintro e w1 ⟨rfl, hb⟩
  have HB1 := Lib.hid (HB.out.trans (hb.mono HB.out.size))
  have B2 := Lib.hid (B1.out.keep hb)
  clear hb B0 B1 HB ka0 ka1 ka2 ka3 ka4 ka5 ka6 ka7 ka8 ka9 ka10 ka11 kb0 kb1 kb2 kb3 kb4 kb5 kb6 kb7 kb8 kb9 kb10 kb11 kb12 kb13 kb14 kb15 kb16 kb17 kb18 kb19 kb20 kb21 kb22 kb23 kb24 kb25
  go_upto_region 2 with fail
  have HB2 := Lib.hid (show Below w.heap.size w ((w1.alloc (.cells #[.int .u32 a0, .int .u32 a1, .int .u32 a2, .int .u32 a3, .int .u32 a4, .int .u32 a5, .int .u32 a6, .int .u32 a7, .int .u32 a8, .int .u32 a9, .int .u32 a10, .int .u32 a11, .int .u32 a12, .int .u32 a13, .int .u32 a14, .int .u32 a15] 28)).alloc (.cells #[.int .i64 pm, .int .i64 pk, .bool pM, .bool pW, .bool pP, .int .i64 pc, .int .i64 pi, .int .i64 pq, .int .i64 pg, .int .i64 pa] 30)) from (HB1.out.alloc HB1.out.size _).alloc (by simp; have := HB1.out.size; omega) _)
  have B3 := Lib.hid (show Bk ((w1.alloc (.cells #[.int .u32 a0, .int .u32 a1, .int .u32 a2, .int .u32 a3, .int .u32 a4, .int .u32 a5, .int .u32 a6, .int .u32 a7, .int .u32 a8, .int .u32 a9, .int .u32 a10, .int .u32 a11, .int .u32 a12, .int .u32 a13, .int .u32 a14, .int .u32 a15] 28)).alloc (.cells #[.int .i64 pm, .int .i64 pk, .bool pM, .bool pW, .bool pP, .int .i64 pc, .int .i64 pi, .int .i64 pq, .int .i64 pg, .int .i64 pa] 30)) (w.heap.size + 1) 36 [.int .u32 a0, .int .u32 a1, .int .u32 a2, .int .u32 a3, .int .u32 a4, .int .u32 a5, .int .u32 a6, .int .u32 a7, .int .u32 a8, .int .u32 a9, .int .u32 a10, .int .u32 a11, .int .u32 a12, .int .u32 a13, .int .u32 a14, .int .u32 a15, .int .i64 pm, .int .i64 pk, .bool pM, .bool pW, .bool pP, .int .i64 pc, .int .i64 pi, .int .i64 pq, .int .i64 pg, .int .i64 pa, x, y, z] from (B2.out.alloc _).alloc _)
  have B4 := Lib.hid (show Bk ((w1.alloc (.cells #[.int .u32 a0, .int .u32 a1, .int .u32 a2, .int .u32 a3, .int .u32 a4, .int .u32 a5, .int .u32 a6, .int .u32 a7, .int .u32 a8, .int .u32 a9, .int .u32 a10, .int .u32 a11, .int .u32 a12, .int .u32 a13, .int .u32 a14, .int .u32 a15] 28)).alloc (.cells #[.int .i64 pm, .int .i64 pk, .bool pM, .bool pW, .bool pP, .int .i64 pc, .int .i64 pi, .int .i64 pq, .int .i64 pg, .int .i64 pa] 30)) w1.heap.size 28 [.int .u32 a0, .int .u32 a1, .int .u32 a2, .int .u32 a3, .int .u32 a4, .int .u32 a5, .int .u32 a6, .int .u32 a7, .int .u32 a8, .int .u32 a9, .int .u32 a10, .int .u32 a11, .int .u32 a12, .int .u32 a13, .int .u32 a14, .int .u32 a15] from (Bk.new w1 _ _).alloc _)
  have B5 := Lib.hid (show Bk ((w1.alloc (.cells #[.int .u32 a0, .int .u32 a1, .int .u32 a2, .int .u32 a3, .int .u32 a4, .int .u32 a5, .int .u32 a6, .int .u32 a7, .int .u32 a8, .int .u32 a9, .int .u32 a10, .int .u32 a11, .int .u32 a12, .int .u32 a13, .int .u32 a14, .int .u32 a15] 28)).alloc (.cells #[.int .i64 pm, .int .i64 pk, .bool pM, .bool pW, .bool pP, .int .i64 pc, .int .i64 pi, .int .i64 pq, .int .i64 pg, .int .i64 pa] 30)) (w1.heap.size + 1) 30 [.int .i64 pm, .int .i64 pk, .bool pM, .bool pW, .bool pP, .int .i64 pc, .int .i64 pi, .int .i64 pq, .int .i64 pg, .int .i64 pa] from by have := Bk.new (w1.alloc (.cells #[.int .u32 a0, .int .u32 a1, .int .u32 a2, .int .u32 a3, .int .u32 a4, .int .u32 a5, .int .u32 a6, .int .u32 a7, .int .u32 a8, .int .u32 a9, .int .u32 a10, .int .u32 a11, .int .u32 a12, .int .u32 a13, .int .u32 a14, .int .u32 a15] 28)) [.int .i64 pm, .int .i64 pk, .bool pM, .bool pW, .bool pP, .int .i64 pc, .int .i64 pi, .int .i64 pq, .int .i64 pg, .int .i64 pa] 30; rw [World.size_alloc] at this; exact this)
  obtain ⟨W2, hW2⟩ : ∃ W2, (w1.alloc (.cells #[.int .u32 a0, .int .u32 a1, .int .u32 a2, .int .u32 a3, .int .u32 a4, .int .u32 a5, .int .u32 a6, .int .u32 a7, .int .u32 a8, .int .u32 a9, .int .u32 a10, .int .u32 a11, .int .u32 a12, .int .u32 a13, .int .u32 a14, .int .u32 a15] 28)).alloc (.cells #[.int .i64 pm, .int .i64 pk, .bool pM, .bool pW, .bool pP, .int .i64 pc, .int .i64 pi, .int .i64 pq, .int .i64 pg, .int .i64 pa] 30) = W2 := ⟨_, rfl⟩
  rw [hW2] at HB2 B3 B4 B5
  try rw [hW2]
  clear hW2 HB1 B2
  have kb0 : W2.cell? ⟨w.heap.size + 1, 0, none⟩ = some (.int .u32 a0) := B3.out.cell (c := 0) rfl
  have kb1 : W2.cell? ⟨w.heap.size + 1, 1, none⟩ = some (.int .u32 a1) := B3.out.cell (c := 1) rfl
  have kb2 : W2.cell? ⟨w.heap.size + 1, 2, none⟩ = some (.int .u32 a2) := B3.out.cell (c := 2) rfl
  have kb3 : W2.cell? ⟨w.heap.size + 1, 3, none⟩ = some (.int .u32 a3) := B3.out.cell (c := 3) rfl
  have kb4 : W2.cell? ⟨w.heap.size + 1, 4, none⟩ = some (.int .u32 a4) := B3.out.cell (c := 4) rfl
  have kb5 : W2.cell? ⟨w.heap.size + 1, 5, none⟩ = some (.int .u32 a5) := B3.out.cell (c := 5) rfl
  have kb6 : W2.cell? ⟨w.heap.size + 1, 6, none⟩ = some (.int .u32 a6) := B3.out.cell (c := 6) rfl
  have kb7 : W2.cell? ⟨w.heap.size + 1, 7, none⟩ = some (.int .u32 a7) := B3.out.cell (c := 7) rfl
  have kb8 : W2.cell? ⟨w.heap.size + 1, 8, none⟩ = some (.int .u32 a8) := B3.out.cell (c := 8) rfl
  have kb9 : W2.cell? ⟨w.heap.size + 1, 9, none⟩ = some (.int .u32 a9) := B3.out.cell (c := 9) rfl
  have kb10 : W2.cell? ⟨w.heap.size + 1, 10, none⟩ = some (.int .u32 a10) := B3.out.cell (c := 10) rfl
  have kb11 : W2.cell? ⟨w.heap.size + 1, 11, none⟩ = some (.int .u32 a11) := B3.out.cell (c := 11) rfl
  have kb12 : W2.cell? ⟨w.heap.size + 1, 12, none⟩ = some (.int .u32 a12) := B3.out.cell (c := 12) rfl
  have kb13 : W2.cell? ⟨w.heap.size + 1, 13, none⟩ = some (.int .u32 a13) := B3.out.cell (c := 13) rfl
  have kb14 : W2.cell? ⟨w.heap.size + 1, 14, none⟩ = some (.int .u32 a14) := B3.out.cell (c := 14) rfl
  have kb15 : W2.cell? ⟨w.heap.size + 1, 15, none⟩ = some (.int .u32 a15) := B3.out.cell (c := 15) rfl
  have kb16 : W2.cell? ⟨w.heap.size + 1, 16, none⟩ = some (.int .i64 pm) := B3.out.cell (c := 16) rfl
  have kb17 : W2.cell? ⟨w.heap.size + 1, 17, none⟩ = some (.int .i64 pk) := B3.out.cell (c := 17) rfl
  have kb18 : W2.cell? ⟨w.heap.size + 1, 18, none⟩ = some (.bool pM) := B3.out.cell (c := 18) rfl
  have kb19 : W2.cell? ⟨w.heap.size + 1, 19, none⟩ = some (.bool pW) := B3.out.cell (c := 19) rfl
  have kb20 : W2.cell? ⟨w.heap.size + 1, 20, none⟩ = some (.bool pP) := B3.out.cell (c := 20) rfl
  have kb21 : W2.cell? ⟨w.heap.size + 1, 21, none⟩ = some (.int .i64 pc) := B3.out.cell (c := 21) rfl
  have kb22 : W2.cell? ⟨w.heap.size + 1, 22, none⟩ = some (.int .i64 pi) := B3.out.cell (c := 22) rfl
  have kb23 : W2.cell? ⟨w.heap.size + 1, 23, none⟩ = some (.int .i64 pq) := B3.out.cell (c := 23) rfl
  have kb24 : W2.cell? ⟨w.heap.size + 1, 24, none⟩ = some (.int .i64 pg) := B3.out.cell (c := 24) rfl
  have kb25 : W2.cell? ⟨w.heap.size + 1, 25, none⟩ = some (.int .i64 pa) := B3.out.cell (c := 25) rfl
  have kc0 : W2.cell? ⟨w1.heap.size, 0, none⟩ = some (.int .u32 a0) := B4.out.cell (c := 0) rfl
  have kc1 : W2.cell? ⟨w1.heap.size, 1, none⟩ = some (.int .u32 a1) := B4.out.cell (c := 1) rfl
  have kc2 : W2.cell? ⟨w1.heap.size, 2, none⟩ = some (.int .u32 a2) := B4.out.cell (c := 2) rfl
  have kc3 : W2.cell? ⟨w1.heap.size, 3, none⟩ = some (.int .u32 a3) := B4.out.cell (c := 3) rfl
  have kc4 : W2.cell? ⟨w1.heap.size, 4, none⟩ = some (.int .u32 a4) := B4.out.cell (c := 4) rfl
  have kc5 : W2.cell? ⟨w1.heap.size, 5, none⟩ = some (.int .u32 a5) := B4.out.cell (c := 5) rfl
  have kc6 : W2.cell? ⟨w1.heap.size, 6, none⟩ = some (.int .u32 a6) := B4.out.cell (c := 6) rfl
  have kc7 : W2.cell? ⟨w1.heap.size, 7, none⟩ = some (.int .u32 a7) := B4.out.cell (c := 7) rfl
  have kc8 : W2.cell? ⟨w1.heap.size, 8, none⟩ = some (.int .u32 a8) := B4.out.cell (c := 8) rfl
  have kc9 : W2.cell? ⟨w1.heap.size, 9, none⟩ = some (.int .u32 a9) := B4.out.cell (c := 9) rfl
  have kc10 : W2.cell? ⟨w1.heap.size, 10, none⟩ = some (.int .u32 a10) := B4.out.cell (c := 10) rfl
  have kc11 : W2.cell? ⟨w1.heap.size, 11, none⟩ = some (.int .u32 a11) := B4.out.cell (c := 11) rfl
  have kc12 : W2.cell? ⟨w1.heap.size, 12, none⟩ = some (.int .u32 a12) := B4.out.cell (c := 12) rfl
  have kc13 : W2.cell? ⟨w1.heap.size, 13, none⟩ = some (.int .u32 a13) := B4.out.cell (c := 13) rfl
  have kc14 : W2.cell? ⟨w1.heap.size, 14, none⟩ = some (.int .u32 a14) := B4.out.cell (c := 14) rfl
  have kc15 : W2.cell? ⟨w1.heap.size, 15, none⟩ = some (.int .u32 a15) := B4.out.cell (c := 15) rfl
  have kd0 : W2.cell? ⟨w1.heap.size + 1, 0, none⟩ = some (.int .i64 pm) := B5.out.cell (c := 0) rfl
  have kd1 : W2.cell? ⟨w1.heap.size + 1, 1, none⟩ = some (.int .i64 pk) := B5.out.cell (c := 1) rfl
  have kd2 : W2.cell? ⟨w1.heap.size + 1, 2, none⟩ = some (.bool pM) := B5.out.cell (c := 2) rfl
  have kd3 : W2.cell? ⟨w1.heap.size + 1, 3, none⟩ = some (.bool pW) := B5.out.cell (c := 3) rfl
  have kd4 : W2.cell? ⟨w1.heap.size + 1, 4, none⟩ = some (.bool pP) := B5.out.cell (c := 4) rfl
  have kd5 : W2.cell? ⟨w1.heap.size + 1, 5, none⟩ = some (.int .i64 pc) := B5.out.cell (c := 5) rfl
  have kd6 : W2.cell? ⟨w1.heap.size + 1, 6, none⟩ = some (.int .i64 pi) := B5.out.cell (c := 6) rfl
  have kd7 : W2.cell? ⟨w1.heap.size + 1, 7, none⟩ = some (.int .i64 pq) := B5.out.cell (c := 7) rfl
  have kd8 : W2.cell? ⟨w1.heap.size + 1, 8, none⟩ = some (.int .i64 pg) := B5.out.cell (c := 8) rfl
  have kd9 : W2.cell? ⟨w1.heap.size + 1, 9, none⟩ = some (.int .i64 pa) := B5.out.cell (c := 9) rfl
  go_wp2_with (go_at_call 13; refine (WK.out _ HB2.out).mono ?_; rintro e w4 ⟨rfl, HB3⟩)
  go_ret
  exact ⟨by simp, HB3⟩
theorem generalNone_walk (op fm r1 r2 x2 b1 d1 b2 d2 l1 l2 i2 : Int) (rs : List Int) (pm pk : Int) (pM pW pP : Bool) (pc pi pq pg pa : Int) (x y z : Value) (w : World) (wf_op : (Lit.int .i64 op).wf = true) (wf_fm : (Lit.int .i64 fm).wf = true) (wf_r1 : (Lit.int .i64 r1).wf = true) (wf_r2 : (Lit.int .i64 r2).wf = true) (wf_x2 : (Lit.int .i64 x2).wf = true) (wf_b1 : (Lit.int .i64 b1).wf = true) (wf_d1 : (Lit.int .i64 d1).wf = true) (wf_b2 : (Lit.int .i64 b2).wf = true) (wf_d2 : (Lit.int .i64 d2).wf = true) (wf_l1 : (Lit.int .i64 l1).wf = true) (wf_l2 : (Lit.int .i64 l2).wf = true) (wf_i2 : (Lit.int .i64 i2).wf = true) (hr : rs.length = 16) : Calls Try.prog 4 #[.agg #[.int .i64 op, .int .i64 fm, .int .i64 r1, .int .i64 r2, .int .i64 x2, .int .i64 b1, .int .i64 d1, .int .i64 b2, .int .i64 d2, .int .i64 l1, .int .i64 l2, .int .i64 i2], .agg (rs.map (Value.int .u32) ++ [.int .i64 pm, .int .i64 pk, .bool pM, .bool pW, .bool pP, .int .i64 pc, .int .i64 pi, .int .i64 pq, .int .i64 pg, .int .i64 pa, x, y, z]).toArray] w fun e w' => e = .returned (.bool true) ∧ Below w.heap.size w w' := by
  obtain ⟨a0, l0, rfl, hl0⟩ := list_n _ rs hr
  obtain ⟨a1, l1, rfl, hl1⟩ := list_n _ l0 hl0
  obtain ⟨a2, l2, rfl, hl2⟩ := list_n _ l1 hl1
  obtain ⟨a3, l3, rfl, hl3⟩ := list_n _ l2 hl2
  obtain ⟨a4, l4, rfl, hl4⟩ := list_n _ l3 hl3
  obtain ⟨a5, l5, rfl, hl5⟩ := list_n _ l4 hl4
  obtain ⟨a6, l6, rfl, hl6⟩ := list_n _ l5 hl5
  obtain ⟨a7, l7, rfl, hl7⟩ := list_n _ l6 hl6
  obtain ⟨a8, l8, rfl, hl8⟩ := list_n _ l7 hl7
  obtain ⟨a9, l9, rfl, hl9⟩ := list_n _ l8 hl8
  obtain ⟨a10, l10, rfl, hl10⟩ := list_n _ l9 hl9
  obtain ⟨a11, l11, rfl, hl11⟩ := list_n _ l10 hl10
  obtain ⟨a12, l12, rfl, hl12⟩ := list_n _ l11 hl11
  obtain ⟨a13, l13, rfl, hl13⟩ := list_n _ l12 hl12
  obtain ⟨a14, l14, rfl, hl14⟩ := list_n _ l13 hl13
  obtain ⟨a15, l15, rfl, hl15⟩ := list_n _ l14 hl14
  obtain rfl := List.eq_nil_of_length_eq_zero hl15
  exact generalNone_go op fm r1 r2 x2 b1 d1 b2 d2 l1 l2 i2 a0 a1 a2 a3 a4 a5 a6 a7 a8 a9 a10 a11 a12 a13 a14 a15 pm pk pM pW pP pc pi pq pg pa x y z w
end Go.Proofs.Ythjdjbipfdigeaa
