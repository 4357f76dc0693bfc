/- Contracts and laws on the way to the statement, text 23 of 25. Conditions: as each states them. -/
import Derived.Test.YthjdjbipfdigeaaCg18
namespace Go.Proofs.Ythjdjbipfdigeaa
open Go.RowKit
set_option maxRecDepth 100000
set_option linter.unusedVariables false
set_option linter.unusedSimpArgs false
set_option maxRecDepth 1000000 in
set_option maxHeartbeats 4000000 in
theorem Exec_bad1 (op fm r1 r2 x2 b1 d1 b2 d2 l1 l2 i2 : Int) (a0 a1 a2 a3 a4 a5 a6 a7 a8 a9 a10 a11 a12 a13 a14 a15 : Int) (pm pk : Int) (pM pW pP : Bool) (pc pi pq pg pa : Int) (sg : Nat) (w : World) (hkn : kn op = false) : Calls Try.prog 14 #[.agg #[.int .i64 op, .int .i64 fm, .int .i64 r1, .int .i64 r2, .int .i64 x2, .int .i64 b1, .int .i64 d1, .int .i64 b2, .int .i64 d2, .int .i64 l1, .int .i64 l2, .int .i64 i2], .agg #[.int .u32 a0, .int .u32 a1, .int .u32 a2, .int .u32 a3, .int .u32 a4, .int .u32 a5, .int .u32 a6, .int .u32 a7, .int .u32 a8, .int .u32 a9, .int .u32 a10, .int .u32 a11, .int .u32 a12, .int .u32 a13, .int .u32 a14, .int .u32 a15], .agg #[.int .i64 pm, .int .i64 pk, .bool pM, .bool pW, .bool pP, .int .i64 pc, .int .i64 pi, .int .i64 pq, .int .i64 pg, .int .i64 pa], .pointer (some ⟨sg, 0, none⟩)] w fun e w' => e = .returned (.tuple #[.agg #[.int .u32 a0, .int .u32 a1, .int .u32 a2, .int .u32 a3, .int .u32 a4, .int .u32 a5, .int .u32 a6, .int .u32 a7, .int .u32 a8, .int .u32 a9, .int .u32 a10, .int .u32 a11, .int .u32 a12, .int .u32 a13, .int .u32 a14, .int .u32 a15], .agg #[.int .i64 pm, .int .i64 pk, .bool pM, .bool pW, .bool pP, .int .i64 pc, .int .i64 pi, .int .i64 pq, .int .i64 pg, .int .i64 pa], .int .i64 1]) ∧ Below w.heap.size w w' := by
  have KC := Lib.hid (fun W => knows_c op W)
  rw [hkn] at KC
  clear hkn
  go_enter_defers Try.func14, Try.ntmps14
  go_upto_region 1 with fail
  have X0 := Lib.hid (show XF w ((((((w.alloc (.cells #[.int .i64 op, .int .i64 fm, .int .i64 r1, .int .i64 r2, .int .i64 x2, .int .i64 b1, .int .i64 d1, .int .i64 b2, .int .i64 d2, .int .i64 l1, .int .i64 l2, .int .i64 i2] 25)).alloc (.cells #[.int .u32 a0, .int .u32 a1, .int .u32 a2, .int .u32 a3, .int .u32 a4, .int .u32 a5, .int .u32 a6, .int .u32 a7, .int .u32 a8, .int .u32 a9, .int .u32 a10, .int .u32 a11, .int .u32 a12, .int .u32 a13, .int .u32 a14, .int .u32 a15] 28)).alloc (.cells #[.int .i64 pm, .int .i64 pk, .bool pM, .bool pW, .bool pP, .int .i64 pc, .int .i64 pi, .int .i64 pq, .int .i64 pg, .int .i64 pa] 30)).alloc (.cells #[.int .u32 0, .int .u32 0, .int .u32 0, .int .u32 0, .int .u32 0, .int .u32 0, .int .u32 0, .int .u32 0, .int .u32 0, .int .u32 0, .int .u32 0, .int .u32 0, .int .u32 0, .int .u32 0, .int .u32 0, .int .u32 0] 28)).alloc (.cells #[.int .i64 0, .int .i64 0, .bool false, .bool false, .bool false, .int .i64 0, .int .i64 0, .int .i64 0, .int .i64 0, .int .i64 0] 30)).alloc (.cells #[.int .i64 0] 3)) [] [op, fm, r1, r2, x2, b1, d1, b2, d2, l1, l2, i2] [a0, a1, a2, a3, a4, a5, a6, a7, a8, a9, a10, a11, a12, a13, a14, a15] [.int .i64 pm, .int .i64 pk, .bool pM, .bool pW, .bool pP, .int .i64 pc, .int .i64 pi, .int .i64 pq, .int .i64 pg, .int .i64 pa] [.int .u32 0, .int .u32 0, .int .u32 0, .int .u32 0, .int .u32 0, .int .u32 0, .int .u32 0, .int .u32 0, .int .u32 0, .int .u32 0, .int .u32 0, .int .u32 0, .int .u32 0, .int .u32 0, .int .u32 0, .int .u32 0] [.int .i64 0, .int .i64 0, .bool false, .bool false, .bool false, .int .i64 0, .int .i64 0, .int .i64 0, .int .i64 0, .int .i64 0] (.int .i64 0) from XF.start w [] [op, fm, r1, r2, x2, b1, d1, b2, d2, l1, l2, i2] [a0, a1, a2, a3, a4, a5, a6, a7, a8, a9, a10, a11, a12, a13, a14, a15] [.int .i64 pm, .int .i64 pk, .bool pM, .bool pW, .bool pP, .int .i64 pc, .int .i64 pi, .int .i64 pq, .int .i64 pg, .int .i64 pa] [.int .u32 0, .int .u32 0, .int .u32 0, .int .u32 0, .int .u32 0, .int .u32 0, .int .u32 0, .int .u32 0, .int .u32 0, .int .u32 0, .int .u32 0, .int .u32 0, .int .u32 0, .int .u32 0, .int .u32 0, .int .u32 0] [.int .i64 0, .int .i64 0, .bool false, .bool false, .bool false, .int .i64 0, .int .i64 0, .int .i64 0, .int .i64 0, .int .i64 0] (.int .i64 0))
  obtain ⟨W0, hW0⟩ : ∃ W0, ((((((w.alloc (.cells #[.int .i64 op, .int .i64 fm, .int .i64 r1, .int .i64 r2, .int .i64 x2, .int .i64 b1, .int .i64 d1, .int .i64 b2, .int .i64 d2, .int .i64 l1, .int .i64 l2, .int .i64 i2] 25)).alloc (.cells #[.int .u32 a0, .int .u32 a1, .int .u32 a2, .int .u32 a3, .int .u32 a4, .int .u32 a5, .int .u32 a6, .int .u32 a7, .int .u32 a8, .int .u32 a9, .int .u32 a10, .int .u32 a11, .int .u32 a12, .int .u32 a13, .int .u32 a14, .int .u32 a15] 28)).alloc (.cells #[.int .i64 pm, .int .i64 pk, .bool pM, .bool pW, .bool pP, .int .i64 pc, .int .i64 pi, .int .i64 pq, .int .i64 pg, .int .i64 pa] 30)).alloc (.cells #[.int .u32 0, .int .u32 0, .int .u32 0, .int .u32 0, .int .u32 0, .int .u32 0, .int .u32 0, .int .u32 0, .int .u32 0, .int .u32 0, .int .u32 0, .int .u32 0, .int .u32 0, .int .u32 0, .int .u32 0, .int .u32 0] 28)).alloc (.cells #[.int .i64 0, .int .i64 0, .bool false, .bool false, .bool false, .int .i64 0, .int .i64 0, .int .i64 0, .int .i64 0, .int .i64 0] 30)).alloc (.cells #[.int .i64 0] 3)) = W0 := ⟨_, rfl⟩
  rw [hW0] at X0
  try rw [hW0]
  clear hW0
  have hb0 : W0.cell? ⟨w.heap.size, 0, none⟩ = some (.int .i64 op) := X0.out.b0.cell (c := 0) rfl
  go_upto_region 2 with (first
    | (go_at_call 11; refine (KC.out _).mono ?_; rintro e w1 ⟨rfl, nk, hw1⟩; have X1 := Lib.hid (X0.out.keep (below_of_drew hw1)); clear hw1))
  clear X0 hb0
  have ca0 : w1.cell? ⟨w.heap.size + 1, 0, none⟩ = some (.int .u32 a0) := X1.out.b1.cell (c := 0) rfl
  have ca1 : w1.cell? ⟨w.heap.size + 1, 1, none⟩ = some (.int .u32 a1) := X1.out.b1.cell (c := 1) rfl
  have ca2 : w1.cell? ⟨w.heap.size + 1, 2, none⟩ = some (.int .u32 a2) := X1.out.b1.cell (c := 2) rfl
  have ca3 : w1.cell? ⟨w.heap.size + 1, 3, none⟩ = some (.int .u32 a3) := X1.out.b1.cell (c := 3) rfl
  have ca4 : w1.cell? ⟨w.heap.size + 1, 4, none⟩ = some (.int .u32 a4) := X1.out.b1.cell (c := 4) rfl
  have ca5 : w1.cell? ⟨w.heap.size + 1, 5, none⟩ = some (.int .u32 a5) := X1.out.b1.cell (c := 5) rfl
  have ca6 : w1.cell? ⟨w.heap.size + 1, 6, none⟩ = some (.int .u32 a6) := X1.out.b1.cell (c := 6) rfl
  have ca7 : w1.cell? ⟨w.heap.size + 1, 7, none⟩ = some (.int .u32 a7) := X1.out.b1.cell (c := 7) rfl
  have ca8 : w1.cell? ⟨w.heap.size + 1, 8, none⟩ = some (.int .u32 a8) := X1.out.b1.cell (c := 8) rfl
  have ca9 : w1.cell? ⟨w.heap.size + 1, 9, none⟩ = some (.int .u32 a9) := X1.out.b1.cell (c := 9) rfl
  have ca10 : w1.cell? ⟨w.heap.size + 1, 10, none⟩ = some (.int .u32 a10) := X1.out.b1.cell (c := 10) rfl
  have ca11 : w1.cell? ⟨w.heap.size + 1, 11, none⟩ = some (.int .u32 a11) := X1.out.b1.cell (c := 11) rfl
  have ca12 : w1.cell? ⟨w.heap.size + 1, 12, none⟩ = some (.int .u32 a12) := X1.out.b1.cell (c := 12) rfl
  have ca13 : w1.cell? ⟨w.heap.size + 1, 13, none⟩ = some (.int .u32 a13) := X1.out.b1.cell (c := 13) rfl
  have ca14 : w1.cell? ⟨w.heap.size + 1, 14, none⟩ = some (.int .u32 a14) := X1.out.b1.cell (c := 14) rfl
  have ca15 : w1.cell? ⟨w.heap.size + 1, 15, none⟩ = some (.int .u32 a15) := X1.out.b1.cell (c := 15) rfl
  have da0 : w1.cell? ⟨w.heap.size + 1 + 1, 0, none⟩ = some (.int .i64 pm) := X1.out.b2.cell (c := 0) rfl
  have da1 : w1.cell? ⟨w.heap.size + 1 + 1, 1, none⟩ = some (.int .i64 pk) := X1.out.b2.cell (c := 1) rfl
  have da2 : w1.cell? ⟨w.heap.size + 1 + 1, 2, none⟩ = some (.bool pM) := X1.out.b2.cell (c := 2) rfl
  have da3 : w1.cell? ⟨w.heap.size + 1 + 1, 3, none⟩ = some (.bool pW) := X1.out.b2.cell (c := 3) rfl
  have da4 : w1.cell? ⟨w.heap.size + 1 + 1, 4, none⟩ = some (.bool pP) := X1.out.b2.cell (c := 4) rfl
  have da5 : w1.cell? ⟨w.heap.size + 1 + 1, 5, none⟩ = some (.int .i64 pc) := X1.out.b2.cell (c := 5) rfl
  have da6 : w1.cell? ⟨w.heap.size + 1 + 1, 6, none⟩ = some (.int .i64 pi) := X1.out.b2.cell (c := 6) rfl
  have da7 : w1.cell? ⟨w.heap.size + 1 + 1, 7, none⟩ = some (.int .i64 pq) := X1.out.b2.cell (c := 7) rfl
  have da8 : w1.cell? ⟨w.heap.size + 1 + 1, 8, none⟩ = some (.int .i64 pg) := X1.out.b2.cell (c := 8) rfl
  have da9 : w1.cell? ⟨w.heap.size + 1 + 1, 9, none⟩ = some (.int .i64 pa) := X1.out.b2.cell (c := 9) rfl
  have xa0 : w1.cell? ⟨w.heap.size + 1 + 1 + 1, 0, none⟩ = some (.int .u32 0) := X1.out.b3.cell (c := 0) rfl
  have xaf0 := X1.out.b3.free 0
  have xa1 : w1.cell? ⟨w.heap.size + 1 + 1 + 1, 1, none⟩ = some (.int .u32 0) := X1.out.b3.cell (c := 1) rfl
  have xaf1 := X1.out.b3.free 1
  have xa2 : w1.cell? ⟨w.heap.size + 1 + 1 + 1, 2, none⟩ = some (.int .u32 0) := X1.out.b3.cell (c := 2) rfl
  have xaf2 := X1.out.b3.free 2
  have xa3 : w1.cell? ⟨w.heap.size + 1 + 1 + 1, 3, none⟩ = some (.int .u32 0) := X1.out.b3.cell (c := 3) rfl
  have xaf3 := X1.out.b3.free 3
  have xa4 : w1.cell? ⟨w.heap.size + 1 + 1 + 1, 4, none⟩ = some (.int .u32 0) := X1.out.b3.cell (c := 4) rfl
  have xaf4 := X1.out.b3.free 4
  have xa5 : w1.cell? ⟨w.heap.size + 1 + 1 + 1, 5, none⟩ = some (.int .u32 0) := X1.out.b3.cell (c := 5) rfl
  have xaf5 := X1.out.b3.free 5
  have xa6 : w1.cell? ⟨w.heap.size + 1 + 1 + 1, 6, none⟩ = some (.int .u32 0) := X1.out.b3.cell (c := 6) rfl
  have xaf6 := X1.out.b3.free 6
  have xa7 : w1.cell? ⟨w.heap.size + 1 + 1 + 1, 7, none⟩ = some (.int .u32 0) := X1.out.b3.cell (c := 7) rfl
  have xaf7 := X1.out.b3.free 7
  have xa8 : w1.cell? ⟨w.heap.size + 1 + 1 + 1, 8, none⟩ = some (.int .u32 0) := X1.out.b3.cell (c := 8) rfl
  have xaf8 := X1.out.b3.free 8
  have xa9 : w1.cell? ⟨w.heap.size + 1 + 1 + 1, 9, none⟩ = some (.int .u32 0) := X1.out.b3.cell (c := 9) rfl
  have xaf9 := X1.out.b3.free 9
  have xa10 : w1.cell? ⟨w.heap.size + 1 + 1 + 1, 10, none⟩ = some (.int .u32 0) := X1.out.b3.cell (c := 10) rfl
  have xaf10 := X1.out.b3.free 10
  have xa11 : w1.cell? ⟨w.heap.size + 1 + 1 + 1, 11, none⟩ = some (.int .u32 0) := X1.out.b3.cell (c := 11) rfl
  have xaf11 := X1.out.b3.free 11
  have xa12 : w1.cell? ⟨w.heap.size + 1 + 1 + 1, 12, none⟩ = some (.int .u32 0) := X1.out.b3.cell (c := 12) rfl
  have xaf12 := X1.out.b3.free 12
  have xa13 : w1.cell? ⟨w.heap.size + 1 + 1 + 1, 13, none⟩ = some (.int .u32 0) := X1.out.b3.cell (c := 13) rfl
  have xaf13 := X1.out.b3.free 13
  have xa14 : w1.cell? ⟨w.heap.size + 1 + 1 + 1, 14, none⟩ = some (.int .u32 0) := X1.out.b3.cell (c := 14) rfl
  have xaf14 := X1.out.b3.free 14
  have xa15 : w1.cell? ⟨w.heap.size + 1 + 1 + 1, 15, none⟩ = some (.int .u32 0) := X1.out.b3.cell (c := 15) rfl
  have xaf15 := X1.out.b3.free 15
  have ya0 : w1.cell? ⟨w.heap.size + 1 + 1 + 1 + 1, 0, none⟩ = some (.int .i64 0) := X1.out.b4.cell (c := 0) rfl
  have yaf0 := X1.out.b4.free 0
  have ya1 : w1.cell? ⟨w.heap.size + 1 + 1 + 1 + 1, 1, none⟩ = some (.int .i64 0) := X1.out.b4.cell (c := 1) rfl
  have yaf1 := X1.out.b4.free 1
  have ya2 : w1.cell? ⟨w.heap.size + 1 + 1 + 1 + 1, 2, none⟩ = some (.bool false) := X1.out.b4.cell (c := 2) rfl
  have yaf2 := X1.out.b4.free 2
  have ya3 : w1.cell? ⟨w.heap.size + 1 + 1 + 1 + 1, 3, none⟩ = some (.bool false) := X1.out.b4.cell (c := 3) rfl
  have yaf3 := X1.out.b4.free 3
  have ya4 : w1.cell? ⟨w.heap.size + 1 + 1 + 1 + 1, 4, none⟩ = some (.bool false) := X1.out.b4.cell (c := 4) rfl
  have yaf4 := X1.out.b4.free 4
  have ya5 : w1.cell? ⟨w.heap.size + 1 + 1 + 1 + 1, 5, none⟩ = some (.int .i64 0) := X1.out.b4.cell (c := 5) rfl
  have yaf5 := X1.out.b4.free 5
  have ya6 : w1.cell? ⟨w.heap.size + 1 + 1 + 1 + 1, 6, none⟩ = some (.int .i64 0) := X1.out.b4.cell (c := 6) rfl
  have yaf6 := X1.out.b4.free 6
  have ya7 : w1.cell? ⟨w.heap.size + 1 + 1 + 1 + 1, 7, none⟩ = some (.int .i64 0) := X1.out.b4.cell (c := 7) rfl
  have yaf7 := X1.out.b4.free 7
  have ya8 : w1.cell? ⟨w.heap.size + 1 + 1 + 1 + 1, 8, none⟩ = some (.int .i64 0) := X1.out.b4.cell (c := 8) rfl
  have yaf8 := X1.out.b4.free 8
  have ya9 : w1.cell? ⟨w.heap.size + 1 + 1 + 1 + 1, 9, none⟩ = some (.int .i64 0) := X1.out.b4.cell (c := 9) rfl
  have yaf9 := X1.out.b4.free 9
  have za0 : w1.cell? ⟨w.heap.size + 1 + 1 + 1 + 1 + 1, 0, none⟩ = some (.int .i64 0) := X1.out.b5.cell (c := 0) rfl
  have zaf0 := X1.out.b5.free 0
  go_region
  obtain ⟨W9, hW9⟩ : ∃ W9, (((((((((((((((((((((((((((w1.setCell ⟨w.heap.size + 1 + 1 + 1, 0, none⟩ (.int .u32 a0)).setCell ⟨w.heap.size + 1 + 1 + 1, 1, none⟩ (.int .u32 a1)).setCell ⟨w.heap.size + 1 + 1 + 1, 2, none⟩ (.int .u32 a2)).setCell ⟨w.heap.size + 1 + 1 + 1, 3, none⟩ (.int .u32 a3)).setCell ⟨w.heap.size + 1 + 1 + 1, 4, none⟩ (.int .u32 a4)).setCell ⟨w.heap.size + 1 + 1 + 1, 5, none⟩ (.int .u32 a5)).setCell ⟨w.heap.size + 1 + 1 + 1, 6, none⟩ (.int .u32 a6)).setCell ⟨w.heap.size + 1 + 1 + 1, 7, none⟩ (.int .u32 a7)).setCell ⟨w.heap.size + 1 + 1 + 1, 8, none⟩ (.int .u32 a8)).setCell ⟨w.heap.size + 1 + 1 + 1, 9, none⟩ (.int .u32 a9)).setCell ⟨w.heap.size + 1 + 1 + 1, 10, none⟩ (.int .u32 a10)).setCell ⟨w.heap.size + 1 + 1 + 1, 11, none⟩ (.int .u32 a11)).setCell ⟨w.heap.size + 1 + 1 + 1, 12, none⟩ (.int .u32 a12)).setCell ⟨w.heap.size + 1 + 1 + 1, 13, none⟩ (.int .u32 a13)).setCell ⟨w.heap.size + 1 + 1 + 1, 14, none⟩ (.int .u32 a14)).setCell ⟨w.heap.size + 1 + 1 + 1, 15, none⟩ (.int .u32 a15)).setCell ⟨w.heap.size + 1 + 1 + 1 + 1, 0, none⟩ (.int .i64 pm)).setCell ⟨w.heap.size + 1 + 1 + 1 + 1, 1, none⟩ (.int .i64 pk)).setCell ⟨w.heap.size + 1 + 1 + 1 + 1, 2, none⟩ (.bool pM)).setCell ⟨w.heap.size + 1 + 1 + 1 + 1, 3, none⟩ (.bool pW)).setCell ⟨w.heap.size + 1 + 1 + 1 + 1, 4, none⟩ (.bool pP)).setCell ⟨w.heap.size + 1 + 1 + 1 + 1, 5, none⟩ (.int .i64 pc)).setCell ⟨w.heap.size + 1 + 1 + 1 + 1, 6, none⟩ (.int .i64 pi)).setCell ⟨w.heap.size + 1 + 1 + 1 + 1, 7, none⟩ (.int .i64 pq)).setCell ⟨w.heap.size + 1 + 1 + 1 + 1, 8, none⟩ (.int .i64 pg)).setCell ⟨w.heap.size + 1 + 1 + 1 + 1, 9, none⟩ (.int .i64 pa)).setCell ⟨w.heap.size + 1 + 1 + 1 + 1 + 1, 0, none⟩ (.int .i64 1)).drew = W9 := ⟨_, rfl⟩
  have X9 := Lib.hid (show XF w (((((((((((((((((((((((((((w1.setCell ⟨w.heap.size + 1 + 1 + 1, 0, none⟩ (.int .u32 a0)).setCell ⟨w.heap.size + 1 + 1 + 1, 1, none⟩ (.int .u32 a1)).setCell ⟨w.heap.size + 1 + 1 + 1, 2, none⟩ (.int .u32 a2)).setCell ⟨w.heap.size + 1 + 1 + 1, 3, none⟩ (.int .u32 a3)).setCell ⟨w.heap.size + 1 + 1 + 1, 4, none⟩ (.int .u32 a4)).setCell ⟨w.heap.size + 1 + 1 + 1, 5, none⟩ (.int .u32 a5)).setCell ⟨w.heap.size + 1 + 1 + 1, 6, none⟩ (.int .u32 a6)).setCell ⟨w.heap.size + 1 + 1 + 1, 7, none⟩ (.int .u32 a7)).setCell ⟨w.heap.size + 1 + 1 + 1, 8, none⟩ (.int .u32 a8)).setCell ⟨w.heap.size + 1 + 1 + 1, 9, none⟩ (.int .u32 a9)).setCell ⟨w.heap.size + 1 + 1 + 1, 10, none⟩ (.int .u32 a10)).setCell ⟨w.heap.size + 1 + 1 + 1, 11, none⟩ (.int .u32 a11)).setCell ⟨w.heap.size + 1 + 1 + 1, 12, none⟩ (.int .u32 a12)).setCell ⟨w.heap.size + 1 + 1 + 1, 13, none⟩ (.int .u32 a13)).setCell ⟨w.heap.size + 1 + 1 + 1, 14, none⟩ (.int .u32 a14)).setCell ⟨w.heap.size + 1 + 1 + 1, 15, none⟩ (.int .u32 a15)).setCell ⟨w.heap.size + 1 + 1 + 1 + 1, 0, none⟩ (.int .i64 pm)).setCell ⟨w.heap.size + 1 + 1 + 1 + 1, 1, none⟩ (.int .i64 pk)).setCell ⟨w.heap.size + 1 + 1 + 1 + 1, 2, none⟩ (.bool pM)).setCell ⟨w.heap.size + 1 + 1 + 1 + 1, 3, none⟩ (.bool pW)).setCell ⟨w.heap.size + 1 + 1 + 1 + 1, 4, none⟩ (.bool pP)).setCell ⟨w.heap.size + 1 + 1 + 1 + 1, 5, none⟩ (.int .i64 pc)).setCell ⟨w.heap.size + 1 + 1 + 1 + 1, 6, none⟩ (.int .i64 pi)).setCell ⟨w.heap.size + 1 + 1 + 1 + 1, 7, none⟩ (.int .i64 pq)).setCell ⟨w.heap.size + 1 + 1 + 1 + 1, 8, none⟩ (.int .i64 pg)).setCell ⟨w.heap.size + 1 + 1 + 1 + 1, 9, none⟩ (.int .i64 pa)).setCell ⟨w.heap.size + 1 + 1 + 1 + 1 + 1, 0, none⟩ (.int .i64 1)).drew [] [op, fm, r1, r2, x2, b1, d1, b2, d2, l1, l2, i2] [a0, a1, a2, a3, a4, a5, a6, a7, a8, a9, a10, a11, a12, a13, a14, a15] [.int .i64 pm, .int .i64 pk, .bool pM, .bool pW, .bool pP, .int .i64 pc, .int .i64 pi, .int .i64 pq, .int .i64 pg, .int .i64 pa] [.int .u32 a0, .int .u32 a1, .int .u32 a2, .int .u32 a3, .int .u32 a4, .int .u32 a5, .int .u32 a6, .int .u32 a7, .int .u32 a8, .int .u32 a9, .int .u32 a10, .int .u32 a11, .int .u32 a12, .int .u32 a13, .int .u32 a14, .int .u32 a15] [.int .i64 pm, .int .i64 pk, .bool pM, .bool pW, .bool pP, .int .i64 pc, .int .i64 pi, .int .i64 pq, .int .i64 pg, .int .i64 pa] (.int .i64 1) from (X1.out.give rfl rfl (.int .u32 a0) (.int .u32 a1) (.int .u32 a2) (.int .u32 a3) (.int .u32 a4) (.int .u32 a5) (.int .u32 a6) (.int .u32 a7) (.int .u32 a8) (.int .u32 a9) (.int .u32 a10) (.int .u32 a11) (.int .u32 a12) (.int .u32 a13) (.int .u32 a14) (.int .u32 a15) (.int .i64 pm) (.int .i64 pk) (.bool pM) (.bool pW) (.bool pP) (.int .i64 pc) (.int .i64 pi) (.int .i64 pq) (.int .i64 pg) (.int .i64 pa) (.int .i64 1)).drewN 1)
  rw [hW9] at X9
  rw [hW9]
  clear hW9 X1 ca0 ca1 ca2 ca3 ca4 ca5 ca6 ca7 ca8 ca9 ca10 ca11 ca12 ca13 ca14 ca15 da0 da1 da2 da3 da4 da5 da6 da7 da8 da9 xa0 xaf0 xa1 xaf1 xa2 xaf2 xa3 xaf3 xa4 xaf4 xa5 xaf5 xa6 xaf6 xa7 xaf7 xa8 xaf8 xa9 xaf9 xa10 xaf10 xa11 xaf11 xa12 xaf12 xa13 xaf13 xa14 xaf14 xa15 xaf15 ya0 yaf0 ya1 yaf1 ya2 yaf2 ya3 yaf3 ya4 yaf4 ya5 yaf5 ya6 yaf6 ya7 yaf7 ya8 yaf8 ya9 yaf9 za0 zaf0
  go_wp2
  have c5 := X9.out.b5.cell (c := 0) rfl
  exact ⟨_, res_cells3 Try.results14 _ _ _ _ _ _ _ _ rfl rfl rfl X9.out.b3 X9.out.b4 X9.out.b5 Try.underlying28 rfl (by kernel_rfl) Try.underlying30 rfl (by kernel_rfl) (by go_simp), rfl, X9.out.be.below (Nat.le_refl _) (by simp)⟩
set_option maxRecDepth 1000000 in
set_option maxHeartbeats 4000000 in
theorem Exec_bad2 (op fm r1 r2 x2 b1 d1 b2 d2 l1 l2 i2 : Int) (a0 a1 a2 a3 a4 a5 a6 a7 a8 a9 a10 a11 a12 a13 a14 a15 : Int) (pm pk : Int) (pM pW pP : Bool) (pc pi pq pg pa : Int) (sg : Nat) (w : World) (hkn : kn op = true) (hck : chk op fm [op, fm, r1, r2, x2, b1, d1, b2, d2, l1, l2, i2] ≠ 0) : Calls Try.prog 14 #[.agg #[.int .i64 op, .int .i64 fm, .int .i64 r1, .int .i64 r2, .int .i64 x2, .int .i64 b1, .int .i64 d1, .int .i64 b2, .int .i64 d2, .int .i64 l1, .int .i64 l2, .int .i64 i2], .agg #[.int .u32 a0, .int .u32 a1, .int .u32 a2, .int .u32 a3, .int .u32 a4, .int .u32 a5, .int .u32 a6, .int .u32 a7, .int .u32 a8, .int .u32 a9, .int .u32 a10, .int .u32 a11, .int .u32 a12, .int .u32 a13, .int .u32 a14, .int .u32 a15], .agg #[.int .i64 pm, .int .i64 pk, .bool pM, .bool pW, .bool pP, .int .i64 pc, .int .i64 pi, .int .i64 pq, .int .i64 pg, .int .i64 pa], .pointer (some ⟨sg, 0, none⟩)] w fun e w' => e = .returned (.tuple #[.agg #[.int .u32 a0, .int .u32 a1, .int .u32 a2, .int .u32 a3, .int .u32 a4, .int .u32 a5, .int .u32 a6, .int .u32 a7, .int .u32 a8, .int .u32 a9, .int .u32 a10, .int .u32 a11, .int .u32 a12, .int .u32 a13, .int .u32 a14, .int .u32 a15], .agg #[.int .i64 pm, .int .i64 pk, .bool pM, .bool pW, .bool pP, .int .i64 pc, .int .i64 pi, .int .i64 pq, .int .i64 pg, .int .i64 pa], .int .i64 1]) ∧ Below w.heap.size w w' := by
  have KC := Lib.hid (fun W => knows_c op W)
  rw [hkn] at KC
  have CC := Lib.hid (fun W => icheck_c op fm r1 r2 x2 b1 d1 b2 d2 l1 l2 i2 W)
  obtain ⟨cz, hcz⟩ : ∃ cz, chk op fm [op, fm, r1, r2, x2, b1, d1, b2, d2, l1, l2, i2] = cz := ⟨_, rfl⟩
  rw [hcz] at CC hck
  have ecz : (cz != 0) = true := by simpa using hck
  clear hcz hck
  clear hkn
  go_enter_defers Try.func14, Try.ntmps14
  go_upto_region 1 with fail
  have X0 := Lib.hid (show XF w ((((((w.alloc (.cells #[.int .i64 op, .int .i64 fm, .int .i64 r1, .int .i64 r2, .int .i64 x2, .int .i64 b1, .int .i64 d1, .int .i64 b2, .int .i64 d2, .int .i64 l1, .int .i64 l2, .int .i64 i2] 25)).alloc (.cells #[.int .u32 a0, .int .u32 a1, .int .u32 a2, .int .u32 a3, .int .u32 a4, .int .u32 a5, .int .u32 a6, .int .u32 a7, .int .u32 a8, .int .u32 a9, .int .u32 a10, .int .u32 a11, .int .u32 a12, .int .u32 a13, .int .u32 a14, .int .u32 a15] 28)).alloc (.cells #[.int .i64 pm, .int .i64 pk, .bool pM, .bool pW, .bool pP, .int .i64 pc, .int .i64 pi, .int .i64 pq, .int .i64 pg, .int .i64 pa] 30)).alloc (.cells #[.int .u32 0, .int .u32 0, .int .u32 0, .int .u32 0, .int .u32 0, .int .u32 0, .int .u32 0, .int .u32 0, .int .u32 0, .int .u32 0, .int .u32 0, .int .u32 0, .int .u32 0, .int .u32 0, .int .u32 0, .int .u32 0] 28)).alloc (.cells #[.int .i64 0, .int .i64 0, .bool false, .bool false, .bool false, .int .i64 0, .int .i64 0, .int .i64 0, .int .i64 0, .int .i64 0] 30)).alloc (.cells #[.int .i64 0] 3)) [] [op, fm, r1, r2, x2, b1, d1, b2, d2, l1, l2, i2] [a0, a1, a2, a3, a4, a5, a6, a7, a8, a9, a10, a11, a12, a13, a14, a15] [.int .i64 pm, .int .i64 pk, .bool pM, .bool pW, .bool pP, .int .i64 pc, .int .i64 pi, .int .i64 pq, .int .i64 pg, .int .i64 pa] [.int .u32 0, .int .u32 0, .int .u32 0, .int .u32 0, .int .u32 0, .int .u32 0, .int .u32 0, .int .u32 0, .int .u32 0, .int .u32 0, .int .u32 0, .int .u32 0, .int .u32 0, .int .u32 0, .int .u32 0, .int .u32 0] [.int .i64 0, .int .i64 0, .bool false, .bool false, .bool false, .int .i64 0, .int .i64 0, .int .i64 0, .int .i64 0, .int .i64 0] (.int .i64 0) from XF.start w [] [op, fm, r1, r2, x2, b1, d1, b2, d2, l1, l2, i2] [a0, a1, a2, a3, a4, a5, a6, a7, a8, a9, a10, a11, a12, a13, a14, a15] [.int .i64 pm, .int .i64 pk, .bool pM, .bool pW, .bool pP, .int .i64 pc, .int .i64 pi, .int .i64 pq, .int .i64 pg, .int .i64 pa] [.int .u32 0, .int .u32 0, .int .u32 0, .int .u32 0, .int .u32 0, .int .u32 0, .int .u32 0, .int .u32 0, .int .u32 0, .int .u32 0, .int .u32 0, .int .u32 0, .int .u32 0, .int .u32 0, .int .u32 0, .int .u32 0] [.int .i64 0, .int .i64 0, .bool false, .bool false, .bool false, .int .i64 0, .int .i64 0, .int .i64 0, .int .i64 0, .int .i64 0] (.int .i64 0))
  obtain ⟨W0, hW0⟩ : ∃ W0, ((((((w.alloc (.cells #[.int .i64 op, .int .i64 fm, .int .i64 r1, .int .i64 r2, .int .i64 x2, .int .i64 b1, .int .i64 d1, .int .i64 b2, .int .i64 d2, .int .i64 l1, .int .i64 l2, .int .i64 i2] 25)).alloc (.cells #[.int .u32 a0, .int .u32 a1, .int .u32 a2, .int .u32 a3, .int .u32 a4, .int .u32 a5, .int .u32 a6, .int .u32 a7, .int .u32 a8, .int .u32 a9, .int .u32 a10, .int .u32 a11, .int .u32 a12, .int .u32 a13, .int .u32 a14, .int .u32 a15] 28)).alloc (.cells #[.int .i64 pm, .int .i64 pk, .bool pM, .bool pW, .bool pP, .int .i64 pc, .int .i64 pi, .int .i64 pq, .int .i64 pg, .int .i64 pa] 30)).alloc (.cells #[.int .u32 0, .int .u32 0, .int .u32 0, .int .u32 0, .int .u32 0, .int .u32 0, .int .u32 0, .int .u32 0, .int .u32 0, .int .u32 0, .int .u32 0, .int .u32 0, .int .u32 0, .int .u32 0, .int .u32 0, .int .u32 0] 28)).alloc (.cells #[.int .i64 0, .int .i64 0, .bool false, .bool false, .bool false, .int .i64 0, .int .i64 0, .int .i64 0, .int .i64 0, .int .i64 0] 30)).alloc (.cells #[.int .i64 0] 3)) = W0 := ⟨_, rfl⟩
  rw [hW0] at X0
  try rw [hW0]
  clear hW0
  have hb0 : W0.cell? ⟨w.heap.size, 0, none⟩ = some (.int .i64 op) := X0.out.b0.cell (c := 0) rfl
  go_upto_region 2 with (first
    | (go_at_call 11; refine (KC.out _).mono ?_; rintro e w1 ⟨rfl, nk, hw1⟩; have X1 := Lib.hid (X0.out.keep (below_of_drew hw1)); clear hw1; have ka0 : w1.cell? ⟨w.heap.size, 0, none⟩ = some (.int .i64 op) := X1.out.b0.cell (c := 0) rfl; have ka1 : w1.cell? ⟨w.heap.size, 1, none⟩ = some (.int .i64 fm) := X1.out.b0.cell (c := 1) rfl; have ka2 : w1.cell? ⟨w.heap.size, 2, none⟩ = some (.int .i64 r1) := X1.out.b0.cell (c := 2) rfl; have ka3 : w1.cell? ⟨w.heap.size, 3, none⟩ = some (.int .i64 r2) := X1.out.b0.cell (c := 3) rfl; have ka4 : w1.cell? ⟨w.heap.size, 4, none⟩ = some (.int .i64 x2) := X1.out.b0.cell (c := 4) rfl; have ka5 : w1.cell? ⟨w.heap.size, 5, none⟩ = some (.int .i64 b1) := X1.out.b0.cell (c := 5) rfl; have ka6 : w1.cell? ⟨w.heap.size, 6, none⟩ = some (.int .i64 d1) := X1.out.b0.cell (c := 6) rfl; have ka7 : w1.cell? ⟨w.heap.size, 7, none⟩ = some (.int .i64 b2) := X1.out.b0.cell (c := 7) rfl; have ka8 : w1.cell? ⟨w.heap.size, 8, none⟩ = some (.int .i64 d2) := X1.out.b0.cell (c := 8) rfl; have ka9 : w1.cell? ⟨w.heap.size, 9, none⟩ = some (.int .i64 l1) := X1.out.b0.cell (c := 9) rfl; have ka10 : w1.cell? ⟨w.heap.size, 10, none⟩ = some (.int .i64 l2) := X1.out.b0.cell (c := 10) rfl; have ka11 : w1.cell? ⟨w.heap.size, 11, none⟩ = some (.int .i64 i2) := X1.out.b0.cell (c := 11) rfl)
    | (go_at_call 28; refine (CC.out _).mono ?_; rintro e w2 ⟨rfl, hb⟩; have X2 := Lib.hid (X1.out.keep hb); clear hb))
  clear X0 hb0 X1 ka0 ka1 ka2 ka3 ka4 ka5 ka6 ka7 ka8 ka9 ka10 ka11
  have ca0 : w2.cell? ⟨w.heap.size + 1, 0, none⟩ = some (.int .u32 a0) := X2.out.b1.cell (c := 0) rfl
  have ca1 : w2.cell? ⟨w.heap.size + 1, 1, none⟩ = some (.int .u32 a1) := X2.out.b1.cell (c := 1) rfl
  have ca2 : w2.cell? ⟨w.heap.size + 1, 2, none⟩ = some (.int .u32 a2) := X2.out.b1.cell (c := 2) rfl
  have ca3 : w2.cell? ⟨w.heap.size + 1, 3, none⟩ = some (.int .u32 a3) := X2.out.b1.cell (c := 3) rfl
  have ca4 : w2.cell? ⟨w.heap.size + 1, 4, none⟩ = some (.int .u32 a4) := X2.out.b1.cell (c := 4) rfl
  have ca5 : w2.cell? ⟨w.heap.size + 1, 5, none⟩ = some (.int .u32 a5) := X2.out.b1.cell (c := 5) rfl
  have ca6 : w2.cell? ⟨w.heap.size + 1, 6, none⟩ = some (.int .u32 a6) := X2.out.b1.cell (c := 6) rfl
  have ca7 : w2.cell? ⟨w.heap.size + 1, 7, none⟩ = some (.int .u32 a7) := X2.out.b1.cell (c := 7) rfl
  have ca8 : w2.cell? ⟨w.heap.size + 1, 8, none⟩ = some (.int .u32 a8) := X2.out.b1.cell (c := 8) rfl
  have ca9 : w2.cell? ⟨w.heap.size + 1, 9, none⟩ = some (.int .u32 a9) := X2.out.b1.cell (c := 9) rfl
  have ca10 : w2.cell? ⟨w.heap.size + 1, 10, none⟩ = some (.int .u32 a10) := X2.out.b1.cell (c := 10) rfl
  have ca11 : w2.cell? ⟨w.heap.size + 1, 11, none⟩ = some (.int .u32 a11) := X2.out.b1.cell (c := 11) rfl
  have ca12 : w2.cell? ⟨w.heap.size + 1, 12, none⟩ = some (.int .u32 a12) := X2.out.b1.cell (c := 12) rfl
  have ca13 : w2.cell? ⟨w.heap.size + 1, 13, none⟩ = some (.int .u32 a13) := X2.out.b1.cell (c := 13) rfl
  have ca14 : w2.cell? ⟨w.heap.size + 1, 14, none⟩ = some (.int .u32 a14) := X2.out.b1.cell (c := 14) rfl
  have ca15 : w2.cell? ⟨w.heap.size + 1, 15, none⟩ = some (.int .u32 a15) := X2.out.b1.cell (c := 15) rfl
  have da0 : w2.cell? ⟨w.heap.size + 1 + 1, 0, none⟩ = some (.int .i64 pm) := X2.out.b2.cell (c := 0) rfl
  have da1 : w2.cell? ⟨w.heap.size + 1 + 1, 1, none⟩ = some (.int .i64 pk) := X2.out.b2.cell (c := 1) rfl
  have da2 : w2.cell? ⟨w.heap.size + 1 + 1, 2, none⟩ = some (.bool pM) := X2.out.b2.cell (c := 2) rfl
  have da3 : w2.cell? ⟨w.heap.size + 1 + 1, 3, none⟩ = some (.bool pW) := X2.out.b2.cell (c := 3) rfl
  have da4 : w2.cell? ⟨w.heap.size + 1 + 1, 4, none⟩ = some (.bool pP) := X2.out.b2.cell (c := 4) rfl
  have da5 : w2.cell? ⟨w.heap.size + 1 + 1, 5, none⟩ = some (.int .i64 pc) := X2.out.b2.cell (c := 5) rfl
  have da6 : w2.cell? ⟨w.heap.size + 1 + 1, 6, none⟩ = some (.int .i64 pi) := X2.out.b2.cell (c := 6) rfl
  have da7 : w2.cell? ⟨w.heap.size + 1 + 1, 7, none⟩ = some (.int .i64 pq) := X2.out.b2.cell (c := 7) rfl
  have da8 : w2.cell? ⟨w.heap.size + 1 + 1, 8, none⟩ = some (.int .i64 pg) := X2.out.b2.cell (c := 8) rfl
  have da9 : w2.cell? ⟨w.heap.size + 1 + 1, 9, none⟩ = some (.int .i64 pa) := X2.out.b2.cell (c := 9) rfl
  have xa0 : w2.cell? ⟨w.heap.size + 1 + 1 + 1, 0, none⟩ = some (.int .u32 0) := X2.out.b3.cell (c := 0) rfl
  have xaf0 := X2.out.b3.free 0
  have xa1 : w2.cell? ⟨w.heap.size + 1 + 1 + 1, 1, none⟩ = some (.int .u32 0) := X2.out.b3.cell (c := 1) rfl
  have xaf1 := X2.out.b3.free 1
  have xa2 : w2.cell? ⟨w.heap.size + 1 + 1 + 1, 2, none⟩ = some (.int .u32 0) := X2.out.b3.cell (c := 2) rfl
  have xaf2 := X2.out.b3.free 2
  have xa3 : w2.cell? ⟨w.heap.size + 1 + 1 + 1, 3, none⟩ = some (.int .u32 0) := X2.out.b3.cell (c := 3) rfl
  have xaf3 := X2.out.b3.free 3
  have xa4 : w2.cell? ⟨w.heap.size + 1 + 1 + 1, 4, none⟩ = some (.int .u32 0) := X2.out.b3.cell (c := 4) rfl
  have xaf4 := X2.out.b3.free 4
  have xa5 : w2.cell? ⟨w.heap.size + 1 + 1 + 1, 5, none⟩ = some (.int .u32 0) := X2.out.b3.cell (c := 5) rfl
  have xaf5 := X2.out.b3.free 5
  have xa6 : w2.cell? ⟨w.heap.size + 1 + 1 + 1, 6, none⟩ = some (.int .u32 0) := X2.out.b3.cell (c := 6) rfl
  have xaf6 := X2.out.b3.free 6
  have xa7 : w2.cell? ⟨w.heap.size + 1 + 1 + 1, 7, none⟩ = some (.int .u32 0) := X2.out.b3.cell (c := 7) rfl
  have xaf7 := X2.out.b3.free 7
  have xa8 : w2.cell? ⟨w.heap.size + 1 + 1 + 1, 8, none⟩ = some (.int .u32 0) := X2.out.b3.cell (c := 8) rfl
  have xaf8 := X2.out.b3.free 8
  have xa9 : w2.cell? ⟨w.heap.size + 1 + 1 + 1, 9, none⟩ = some (.int .u32 0) := X2.out.b3.cell (c := 9) rfl
  have xaf9 := X2.out.b3.free 9
  have xa10 : w2.cell? ⟨w.heap.size + 1 + 1 + 1, 10, none⟩ = some (.int .u32 0) := X2.out.b3.cell (c := 10) rfl
  have xaf10 := X2.out.b3.free 10
  have xa11 : w2.cell? ⟨w.heap.size + 1 + 1 + 1, 11, none⟩ = some (.int .u32 0) := X2.out.b3.cell (c := 11) rfl
  have xaf11 := X2.out.b3.free 11
  have xa12 : w2.cell? ⟨w.heap.size + 1 + 1 + 1, 12, none⟩ = some (.int .u32 0) := X2.out.b3.cell (c := 12) rfl
  have xaf12 := X2.out.b3.free 12
  have xa13 : w2.cell? ⟨w.heap.size + 1 + 1 + 1, 13, none⟩ = some (.int .u32 0) := X2.out.b3.cell (c := 13) rfl
  have xaf13 := X2.out.b3.free 13
  have xa14 : w2.cell? ⟨w.heap.size + 1 + 1 + 1, 14, none⟩ = some (.int .u32 0) := X2.out.b3.cell (c := 14) rfl
  have xaf14 := X2.out.b3.free 14
  have xa15 : w2.cell? ⟨w.heap.size + 1 + 1 + 1, 15, none⟩ = some (.int .u32 0) := X2.out.b3.cell (c := 15) rfl
  have xaf15 := X2.out.b3.free 15
  have ya0 : w2.cell? ⟨w.heap.size + 1 + 1 + 1 + 1, 0, none⟩ = some (.int .i64 0) := X2.out.b4.cell (c := 0) rfl
  have yaf0 := X2.out.b4.free 0
  have ya1 : w2.cell? ⟨w.heap.size + 1 + 1 + 1 + 1, 1, none⟩ = some (.int .i64 0) := X2.out.b4.cell (c := 1) rfl
  have yaf1 := X2.out.b4.free 1
  have ya2 : w2.cell? ⟨w.heap.size + 1 + 1 + 1 + 1, 2, none⟩ = some (.bool false) := X2.out.b4.cell (c := 2) rfl
  have yaf2 := X2.out.b4.free 2
  have ya3 : w2.cell? ⟨w.heap.size + 1 + 1 + 1 + 1, 3, none⟩ = some (.bool false) := X2.out.b4.cell (c := 3) rfl
  have yaf3 := X2.out.b4.free 3
  have ya4 : w2.cell? ⟨w.heap.size + 1 + 1 + 1 + 1, 4, none⟩ = some (.bool false) := X2.out.b4.cell (c := 4) rfl
  have yaf4 := X2.out.b4.free 4
  have ya5 : w2.cell? ⟨w.heap.size + 1 + 1 + 1 + 1, 5, none⟩ = some (.int .i64 0) := X2.out.b4.cell (c := 5) rfl
  have yaf5 := X2.out.b4.free 5
  have ya6 : w2.cell? ⟨w.heap.size + 1 + 1 + 1 + 1, 6, none⟩ = some (.int .i64 0) := X2.out.b4.cell (c := 6) rfl
  have yaf6 := X2.out.b4.free 6
  have ya7 : w2.cell? ⟨w.heap.size + 1 + 1 + 1 + 1, 7, none⟩ = some (.int .i64 0) := X2.out.b4.cell (c := 7) rfl
  have yaf7 := X2.out.b4.free 7
  have ya8 : w2.cell? ⟨w.heap.size + 1 + 1 + 1 + 1, 8, none⟩ = some (.int .i64 0) := X2.out.b4.cell (c := 8) rfl
  have yaf8 := X2.out.b4.free 8
  have ya9 : w2.cell? ⟨w.heap.size + 1 + 1 + 1 + 1, 9, none⟩ = some (.int .i64 0) := X2.out.b4.cell (c := 9) rfl
  have yaf9 := X2.out.b4.free 9
  have za0 : w2.cell? ⟨w.heap.size + 1 + 1 + 1 + 1 + 1, 0, none⟩ = some (.int .i64 0) := X2.out.b5.cell (c := 0) rfl
  have zaf0 := X2.out.b5.free 0
  go_region
  obtain ⟨W9, hW9⟩ : ∃ W9, (((((((((((((((((((((((((((w2.setCell ⟨w.heap.size + 1 + 1 + 1, 0, none⟩ (.int .u32 a0)).setCell ⟨w.heap.size + 1 + 1 + 1, 1, none⟩ (.int .u32 a1)).setCell ⟨w.heap.size + 1 + 1 + 1, 2, none⟩ (.int .u32 a2)).setCell ⟨w.heap.size + 1 + 1 + 1, 3, none⟩ (.int .u32 a3)).setCell ⟨w.heap.size + 1 + 1 + 1, 4, none⟩ (.int .u32 a4)).setCell ⟨w.heap.size + 1 + 1 + 1, 5, none⟩ (.int .u32 a5)).setCell ⟨w.heap.size + 1 + 1 + 1, 6, none⟩ (.int .u32 a6)).setCell ⟨w.heap.size + 1 + 1 + 1, 7, none⟩ (.int .u32 a7)).setCell ⟨w.heap.size + 1 + 1 + 1, 8, none⟩ (.int .u32 a8)).setCell ⟨w.heap.size + 1 + 1 + 1, 9, none⟩ (.int .u32 a9)).setCell ⟨w.heap.size + 1 + 1 + 1, 10, none⟩ (.int .u32 a10)).setCell ⟨w.heap.size + 1 + 1 + 1, 11, none⟩ (.int .u32 a11)).setCell ⟨w.heap.size + 1 + 1 + 1, 12, none⟩ (.int .u32 a12)).setCell ⟨w.heap.size + 1 + 1 + 1, 13, none⟩ (.int .u32 a13)).setCell ⟨w.heap.size + 1 + 1 + 1, 14, none⟩ (.int .u32 a14)).setCell ⟨w.heap.size + 1 + 1 + 1, 15, none⟩ (.int .u32 a15)).setCell ⟨w.heap.size + 1 + 1 + 1 + 1, 0, none⟩ (.int .i64 pm)).setCell ⟨w.heap.size + 1 + 1 + 1 + 1, 1, none⟩ (.int .i64 pk)).setCell ⟨w.heap.size + 1 + 1 + 1 + 1, 2, none⟩ (.bool pM)).setCell ⟨w.heap.size + 1 + 1 + 1 + 1, 3, none⟩ (.bool pW)).setCell ⟨w.heap.size + 1 + 1 + 1 + 1, 4, none⟩ (.bool pP)).setCell ⟨w.heap.size + 1 + 1 + 1 + 1, 5, none⟩ (.int .i64 pc)).setCell ⟨w.heap.size + 1 + 1 + 1 + 1, 6, none⟩ (.int .i64 pi)).setCell ⟨w.heap.size + 1 + 1 + 1 + 1, 7, none⟩ (.int .i64 pq)).setCell ⟨w.heap.size + 1 + 1 + 1 + 1, 8, none⟩ (.int .i64 pg)).setCell ⟨w.heap.size + 1 + 1 + 1 + 1, 9, none⟩ (.int .i64 pa)).setCell ⟨w.heap.size + 1 + 1 + 1 + 1 + 1, 0, none⟩ (.int .i64 1)).drew = W9 := ⟨_, rfl⟩
  have X9 := Lib.hid (show XF w (((((((((((((((((((((((((((w2.setCell ⟨w.heap.size + 1 + 1 + 1, 0, none⟩ (.int .u32 a0)).setCell ⟨w.heap.size + 1 + 1 + 1, 1, none⟩ (.int .u32 a1)).setCell ⟨w.heap.size + 1 + 1 + 1, 2, none⟩ (.int .u32 a2)).setCell ⟨w.heap.size + 1 + 1 + 1, 3, none⟩ (.int .u32 a3)).setCell ⟨w.heap.size + 1 + 1 + 1, 4, none⟩ (.int .u32 a4)).setCell ⟨w.heap.size + 1 + 1 + 1, 5, none⟩ (.int .u32 a5)).setCell ⟨w.heap.size + 1 + 1 + 1, 6, none⟩ (.int .u32 a6)).setCell ⟨w.heap.size + 1 + 1 + 1, 7, none⟩ (.int .u32 a7)).setCell ⟨w.heap.size + 1 + 1 + 1, 8, none⟩ (.int .u32 a8)).setCell ⟨w.heap.size + 1 + 1 + 1, 9, none⟩ (.int .u32 a9)).setCell ⟨w.heap.size + 1 + 1 + 1, 10, none⟩ (.int .u32 a10)).setCell ⟨w.heap.size + 1 + 1 + 1, 11, none⟩ (.int .u32 a11)).setCell ⟨w.heap.size + 1 + 1 + 1, 12, none⟩ (.int .u32 a12)).setCell ⟨w.heap.size + 1 + 1 + 1, 13, none⟩ (.int .u32 a13)).setCell ⟨w.heap.size + 1 + 1 + 1, 14, none⟩ (.int .u32 a14)).setCell ⟨w.heap.size + 1 + 1 + 1, 15, none⟩ (.int .u32 a15)).setCell ⟨w.heap.size + 1 + 1 + 1 + 1, 0, none⟩ (.int .i64 pm)).setCell ⟨w.heap.size + 1 + 1 + 1 + 1, 1, none⟩ (.int .i64 pk)).setCell ⟨w.heap.size + 1 + 1 + 1 + 1, 2, none⟩ (.bool pM)).setCell ⟨w.heap.size + 1 + 1 + 1 + 1, 3, none⟩ (.bool pW)).setCell ⟨w.heap.size + 1 + 1 + 1 + 1, 4, none⟩ (.bool pP)).setCell ⟨w.heap.size + 1 + 1 + 1 + 1, 5, none⟩ (.int .i64 pc)).setCell ⟨w.heap.size + 1 + 1 + 1 + 1, 6, none⟩ (.int .i64 pi)).setCell ⟨w.heap.size + 1 + 1 + 1 + 1, 7, none⟩ (.int .i64 pq)).setCell ⟨w.heap.size + 1 + 1 + 1 + 1, 8, none⟩ (.int .i64 pg)).setCell ⟨w.heap.size + 1 + 1 + 1 + 1, 9, none⟩ (.int .i64 pa)).setCell ⟨w.heap.size + 1 + 1 + 1 + 1 + 1, 0, none⟩ (.int .i64 1)).drew [] [op, fm, r1, r2, x2, b1, d1, b2, d2, l1, l2, i2] [a0, a1, a2, a3, a4, a5, a6, a7, a8, a9, a10, a11, a12, a13, a14, a15] [.int .i64 pm, .int .i64 pk, .bool pM, .bool pW, .bool pP, .int .i64 pc, .int .i64 pi, .int .i64 pq, .int .i64 pg, .int .i64 pa] [.int .u32 a0, .int .u32 a1, .int .u32 a2, .int .u32 a3, .int .u32 a4, .int .u32 a5, .int .u32 a6, .int .u32 a7, .int .u32 a8, .int .u32 a9, .int .u32 a10, .int .u32 a11, .int .u32 a12, .int .u32 a13, .int .u32 a14, .int .u32 a15] [.int .i64 pm, .int .i64 pk, .bool pM, .bool pW, .bool pP, .int .i64 pc, .int .i64 pi, .int .i64 pq, .int .i64 pg, .int .i64 pa] (.int .i64 1) from (X2.out.give rfl rfl (.int .u32 a0) (.int .u32 a1) (.int .u32 a2) (.int .u32 a3) (.int .u32 a4) (.int .u32 a5) (.int .u32 a6) (.int .u32 a7) (.int .u32 a8) (.int .u32 a9) (.int .u32 a10) (.int .u32 a11) (.int .u32 a12) (.int .u32 a13) (.int .u32 a14) (.int .u32 a15) (.int .i64 pm) (.int .i64 pk) (.bool pM) (.bool pW) (.bool pP) (.int .i64 pc) (.int .i64 pi) (.int .i64 pq) (.int .i64 pg) (.int .i64 pa) (.int .i64 1)).drewN 1)
  rw [hW9] at X9
  rw [hW9]
  clear hW9 X2 ca0 ca1 ca2 ca3 ca4 ca5 ca6 ca7 ca8 ca9 ca10 ca11 ca12 ca13 ca14 ca15 da0 da1 da2 da3 da4 da5 da6 da7 da8 da9 xa0 xaf0 xa1 xaf1 xa2 xaf2 xa3 xaf3 xa4 xaf4 xa5 xaf5 xa6 xaf6 xa7 xaf7 xa8 xaf8 xa9 xaf9 xa10 xaf10 xa11 xaf11 xa12 xaf12 xa13 xaf13 xa14 xaf14 xa15 xaf15 ya0 yaf0 ya1 yaf1 ya2 yaf2 ya3 yaf3 ya4 yaf4 ya5 yaf5 ya6 yaf6 ya7 yaf7 ya8 yaf8 ya9 yaf9 za0 zaf0
  go_wp2
  have c5 := X9.out.b5.cell (c := 0) rfl
  exact ⟨_, res_cells3 Try.results14 _ _ _ _ _ _ _ _ rfl rfl rfl X9.out.b3 X9.out.b4 X9.out.b5 Try.underlying28 rfl (by kernel_rfl) Try.underlying30 rfl (by kernel_rfl) (by go_simp), rfl, X9.out.be.below (Nat.le_refl _) (by simp)⟩
set_option maxRecDepth 1000000 in
set_option maxHeartbeats 4000000 in
theorem Exec_bad3 (op fm r1 r2 x2 b1 d1 b2 d2 l1 l2 i2 : Int) (a0 a1 a2 a3 a4 a5 a6 a7 a8 a9 a10 a11 a12 a13 a14 a15 : Int) (pm pk : Int) (pM pW pP : Bool) (pc pi pq pg pa : Int) (sg : Nat) (w : World) (hkn : kn op = true) (hck : chk op fm [op, fm, r1, r2, x2, b1, d1, b2, d2, l1, l2, i2] = 0) (hv : pok pm pk pc pi pq pg pa = false) : Calls Try.prog 14 #[.agg #[.int .i64 op, .int .i64 fm, .int .i64 r1, .int .i64 r2, .int .i64 x2, .int .i64 b1, .int .i64 d1, .int .i64 b2, .int .i64 d2, .int .i64 l1, .int .i64 l2, .int .i64 i2], .agg #[.int .u32 a0, .int .u32 a1, .int .u32 a2, .int .u32 a3, .int .u32 a4, .int .u32 a5, .int .u32 a6, .int .u32 a7, .int .u32 a8, .int .u32 a9, .int .u32 a10, .int .u32 a11, .int .u32 a12, .int .u32 a13, .int .u32 a14, .int .u32 a15], .agg #[.int .i64 pm, .int .i64 pk, .bool pM, .bool pW, .bool pP, .int .i64 pc, .int .i64 pi, .int .i64 pq, .int .i64 pg, .int .i64 pa], .pointer (some ⟨sg, 0, none⟩)] w fun e w' => e = .returned (.tuple #[.agg #[.int .u32 a0, .int .u32 a1, .int .u32 a2, .int .u32 a3, .int .u32 a4, .int .u32 a5, .int .u32 a6, .int .u32 a7, .int .u32 a8, .int .u32 a9, .int .u32 a10, .int .u32 a11, .int .u32 a12, .int .u32 a13, .int .u32 a14, .int .u32 a15], .agg #[.int .i64 pm, .int .i64 pk, .bool pM, .bool pW, .bool pP, .int .i64 pc, .int .i64 pi, .int .i64 pq, .int .i64 pg, .int .i64 pa], .int .i64 1]) ∧ Below w.heap.size w w' := by
  have KC := Lib.hid (fun W => knows_c op W)
  rw [hkn] at KC
  have CC := Lib.hid (fun W => icheck_c op fm r1 r2 x2 b1 d1 b2 d2 l1 l2 i2 W)
  rw [hck] at CC
  have VC := Lib.hid (fun W => valid_c pm pk pM pW pP pc pi pq pg pa W)
  rw [hv] at VC
  clear hck hv
  clear hkn
  go_enter_defers Try.func14, Try.ntmps14
  go_upto_region 1 with fail
  have X0 := Lib.hid (show XF w ((((((w.alloc (.cells #[.int .i64 op, .int .i64 fm, .int .i64 r1, .int .i64 r2, .int .i64 x2, .int .i64 b1, .int .i64 d1, .int .i64 b2, .int .i64 d2, .int .i64 l1, .int .i64 l2, .int .i64 i2] 25)).alloc (.cells #[.int .u32 a0, .int .u32 a1, .int .u32 a2, .int .u32 a3, .int .u32 a4, .int .u32 a5, .int .u32 a6, .int .u32 a7, .int .u32 a8, .int .u32 a9, .int .u32 a10, .int .u32 a11, .int .u32 a12, .int .u32 a13, .int .u32 a14, .int .u32 a15] 28)).alloc (.cells #[.int .i64 pm, .int .i64 pk, .bool pM, .bool pW, .bool pP, .int .i64 pc, .int .i64 pi, .int .i64 pq, .int .i64 pg, .int .i64 pa] 30)).alloc (.cells #[.int .u32 0, .int .u32 0, .int .u32 0, .int .u32 0, .int .u32 0, .int .u32 0, .int .u32 0, .int .u32 0, .int .u32 0, .int .u32 0, .int .u32 0, .int .u32 0, .int .u32 0, .int .u32 0, .int .u32 0, .int .u32 0] 28)).alloc (.cells #[.int .i64 0, .int .i64 0, .bool false, .bool false, .bool false, .int .i64 0, .int .i64 0, .int .i64 0, .int .i64 0, .int .i64 0] 30)).alloc (.cells #[.int .i64 0] 3)) [] [op, fm, r1, r2, x2, b1, d1, b2, d2, l1, l2, i2] [a0, a1, a2, a3, a4, a5, a6, a7, a8, a9, a10, a11, a12, a13, a14, a15] [.int .i64 pm, .int .i64 pk, .bool pM, .bool pW, .bool pP, .int .i64 pc, .int .i64 pi, .int .i64 pq, .int .i64 pg, .int .i64 pa] [.int .u32 0, .int .u32 0, .int .u32 0, .int .u32 0, .int .u32 0, .int .u32 0, .int .u32 0, .int .u32 0, .int .u32 0, .int .u32 0, .int .u32 0, .int .u32 0, .int .u32 0, .int .u32 0, .int .u32 0, .int .u32 0] [.int .i64 0, .int .i64 0, .bool false, .bool false, .bool false, .int .i64 0, .int .i64 0, .int .i64 0, .int .i64 0, .int .i64 0] (.int .i64 0) from XF.start w [] [op, fm, r1, r2, x2, b1, d1, b2, d2, l1, l2, i2] [a0, a1, a2, a3, a4, a5, a6, a7, a8, a9, a10, a11, a12, a13, a14, a15] [.int .i64 pm, .int .i64 pk, .bool pM, .bool pW, .bool pP, .int .i64 pc, .int .i64 pi, .int .i64 pq, .int .i64 pg, .int .i64 pa] [.int .u32 0, .int .u32 0, .int .u32 0, .int .u32 0, .int .u32 0, .int .u32 0, .int .u32 0, .int .u32 0, .int .u32 0, .int .u32 0, .int .u32 0, .int .u32 0, .int .u32 0, .int .u32 0, .int .u32 0, .int .u32 0] [.int .i64 0, .int .i64 0, .bool false, .bool false, .bool false, .int .i64 0, .int .i64 0, .int .i64 0, .int .i64 0, .int .i64 0] (.int .i64 0))
  obtain ⟨W0, hW0⟩ : ∃ W0, ((((((w.alloc (.cells #[.int .i64 op, .int .i64 fm, .int .i64 r1, .int .i64 r2, .int .i64 x2, .int .i64 b1, .int .i64 d1, .int .i64 b2, .int .i64 d2, .int .i64 l1, .int .i64 l2, .int .i64 i2] 25)).alloc (.cells #[.int .u32 a0, .int .u32 a1, .int .u32 a2, .int .u32 a3, .int .u32 a4, .int .u32 a5, .int .u32 a6, .int .u32 a7, .int .u32 a8, .int .u32 a9, .int .u32 a10, .int .u32 a11, .int .u32 a12, .int .u32 a13, .int .u32 a14, .int .u32 a15] 28)).alloc (.cells #[.int .i64 pm, .int .i64 pk, .bool pM, .bool pW, .bool pP, .int .i64 pc, .int .i64 pi, .int .i64 pq, .int .i64 pg, .int .i64 pa] 30)).alloc (.cells #[.int .u32 0, .int .u32 0, .int .u32 0, .int .u32 0, .int .u32 0, .int .u32 0, .int .u32 0, .int .u32 0, .int .u32 0, .int .u32 0, .int .u32 0, .int .u32 0, .int .u32 0, .int .u32 0, .int .u32 0, .int .u32 0] 28)).alloc (.cells #[.int .i64 0, .int .i64 0, .bool false, .bool false, .bool false, .int .i64 0, .int .i64 0, .int .i64 0, .int .i64 0, .int .i64 0] 30)).alloc (.cells #[.int .i64 0] 3)) = W0 := ⟨_, rfl⟩
  rw [hW0] at X0
  try rw [hW0]
  clear hW0
  have hb0 : W0.cell? ⟨w.heap.size, 0, none⟩ = some (.int .i64 op) := X0.out.b0.cell (c := 0) rfl
  go_upto_region 2 with (first
    | (go_at_call 11; refine (KC.out _).mono ?_; rintro e w1 ⟨rfl, nk, hw1⟩; have X1 := Lib.hid (X0.out.keep (below_of_drew hw1)); clear hw1; have ka0 : w1.cell? ⟨w.heap.size, 0, none⟩ = some (.int .i64 op) := X1.out.b0.cell (c := 0) rfl; have ka1 : w1.cell? ⟨w.heap.size, 1, none⟩ = some (.int .i64 fm) := X1.out.b0.cell (c := 1) rfl; have ka2 : w1.cell? ⟨w.heap.size, 2, none⟩ = some (.int .i64 r1) := X1.out.b0.cell (c := 2) rfl; have ka3 : w1.cell? ⟨w.heap.size, 3, none⟩ = some (.int .i64 r2) := X1.out.b0.cell (c := 3) rfl; have ka4 : w1.cell? ⟨w.heap.size, 4, none⟩ = some (.int .i64 x2) := X1.out.b0.cell (c := 4) rfl; have ka5 : w1.cell? ⟨w.heap.size, 5, none⟩ = some (.int .i64 b1) := X1.out.b0.cell (c := 5) rfl; have ka6 : w1.cell? ⟨w.heap.size, 6, none⟩ = some (.int .i64 d1) := X1.out.b0.cell (c := 6) rfl; have ka7 : w1.cell? ⟨w.heap.size, 7, none⟩ = some (.int .i64 b2) := X1.out.b0.cell (c := 7) rfl; have ka8 : w1.cell? ⟨w.heap.size, 8, none⟩ = some (.int .i64 d2) := X1.out.b0.cell (c := 8) rfl; have ka9 : w1.cell? ⟨w.heap.size, 9, none⟩ = some (.int .i64 l1) := X1.out.b0.cell (c := 9) rfl; have ka10 : w1.cell? ⟨w.heap.size, 10, none⟩ = some (.int .i64 l2) := X1.out.b0.cell (c := 10) rfl; have ka11 : w1.cell? ⟨w.heap.size, 11, none⟩ = some (.int .i64 i2) := X1.out.b0.cell (c := 11) rfl)
    | (go_at_call 28; refine (CC.out _).mono ?_; rintro e w2 ⟨rfl, hb⟩; have X2 := Lib.hid (X1.out.keep hb); clear hb; have kb0 : w2.cell? ⟨w.heap.size + 1 + 1, 0, none⟩ = some (.int .i64 pm) := X2.out.b2.cell (c := 0) rfl; have kb1 : w2.cell? ⟨w.heap.size + 1 + 1, 1, none⟩ = some (.int .i64 pk) := X2.out.b2.cell (c := 1) rfl; have kb2 : w2.cell? ⟨w.heap.size + 1 + 1, 2, none⟩ = some (.bool pM) := X2.out.b2.cell (c := 2) rfl; have kb3 : w2.cell? ⟨w.heap.size + 1 + 1, 3, none⟩ = some (.bool pW) := X2.out.b2.cell (c := 3) rfl; have kb4 : w2.cell? ⟨w.heap.size + 1 + 1, 4, none⟩ = some (.bool pP) := X2.out.b2.cell (c := 4) rfl; have kb5 : w2.cell? ⟨w.heap.size + 1 + 1, 5, none⟩ = some (.int .i64 pc) := X2.out.b2.cell (c := 5) rfl; have kb6 : w2.cell? ⟨w.heap.size + 1 + 1, 6, none⟩ = some (.int .i64 pi) := X2.out.b2.cell (c := 6) rfl; have kb7 : w2.cell? ⟨w.heap.size + 1 + 1, 7, none⟩ = some (.int .i64 pq) := X2.out.b2.cell (c := 7) rfl; have kb8 : w2.cell? ⟨w.heap.size + 1 + 1, 8, none⟩ = some (.int .i64 pg) := X2.out.b2.cell (c := 8) rfl; have kb9 : w2.cell? ⟨w.heap.size + 1 + 1, 9, none⟩ = some (.int .i64 pa) := X2.out.b2.cell (c := 9) rfl)
    | (go_at_call 29; refine (VC.out _).mono ?_; rintro e W ⟨rfl, hb⟩; have X3 := Lib.hid (X2.out.keep hb); clear hb))
  clear X0 hb0 X1 ka0 ka1 ka2 ka3 ka4 ka5 ka6 ka7 ka8 ka9 ka10 ka11 X2 kb0 kb1 kb2 kb3 kb4 kb5 kb6 kb7 kb8 kb9
  have ca0 : W.cell? ⟨w.heap.size + 1, 0, none⟩ = some (.int .u32 a0) := X3.out.b1.cell (c := 0) rfl
  have ca1 : W.cell? ⟨w.heap.size + 1, 1, none⟩ = some (.int .u32 a1) := X3.out.b1.cell (c := 1) rfl
  have ca2 : W.cell? ⟨w.heap.size + 1, 2, none⟩ = some (.int .u32 a2) := X3.out.b1.cell (c := 2) rfl
  have ca3 : W.cell? ⟨w.heap.size + 1, 3, none⟩ = some (.int .u32 a3) := X3.out.b1.cell (c := 3) rfl
  have ca4 : W.cell? ⟨w.heap.size + 1, 4, none⟩ = some (.int .u32 a4) := X3.out.b1.cell (c := 4) rfl
  have ca5 : W.cell? ⟨w.heap.size + 1, 5, none⟩ = some (.int .u32 a5) := X3.out.b1.cell (c := 5) rfl
  have ca6 : W.cell? ⟨w.heap.size + 1, 6, none⟩ = some (.int .u32 a6) := X3.out.b1.cell (c := 6) rfl
  have ca7 : W.cell? ⟨w.heap.size + 1, 7, none⟩ = some (.int .u32 a7) := X3.out.b1.cell (c := 7) rfl
  have ca8 : W.cell? ⟨w.heap.size + 1, 8, none⟩ = some (.int .u32 a8) := X3.out.b1.cell (c := 8) rfl
  have ca9 : W.cell? ⟨w.heap.size + 1, 9, none⟩ = some (.int .u32 a9) := X3.out.b1.cell (c := 9) rfl
  have ca10 : W.cell? ⟨w.heap.size + 1, 10, none⟩ = some (.int .u32 a10) := X3.out.b1.cell (c := 10) rfl
  have ca11 : W.cell? ⟨w.heap.size + 1, 11, none⟩ = some (.int .u32 a11) := X3.out.b1.cell (c := 11) rfl
  have ca12 : W.cell? ⟨w.heap.size + 1, 12, none⟩ = some (.int .u32 a12) := X3.out.b1.cell (c := 12) rfl
  have ca13 : W.cell? ⟨w.heap.size + 1, 13, none⟩ = some (.int .u32 a13) := X3.out.b1.cell (c := 13) rfl
  have ca14 : W.cell? ⟨w.heap.size + 1, 14, none⟩ = some (.int .u32 a14) := X3.out.b1.cell (c := 14) rfl
  have ca15 : W.cell? ⟨w.heap.size + 1, 15, none⟩ = some (.int .u32 a15) := X3.out.b1.cell (c := 15) rfl
  have da0 : W.cell? ⟨w.heap.size + 1 + 1, 0, none⟩ = some (.int .i64 pm) := X3.out.b2.cell (c := 0) rfl
  have da1 : W.cell? ⟨w.heap.size + 1 + 1, 1, none⟩ = some (.int .i64 pk) := X3.out.b2.cell (c := 1) rfl
  have da2 : W.cell? ⟨w.heap.size + 1 + 1, 2, none⟩ = some (.bool pM) := X3.out.b2.cell (c := 2) rfl
  have da3 : W.cell? ⟨w.heap.size + 1 + 1, 3, none⟩ = some (.bool pW) := X3.out.b2.cell (c := 3) rfl
  have da4 : W.cell? ⟨w.heap.size + 1 + 1, 4, none⟩ = some (.bool pP) := X3.out.b2.cell (c := 4) rfl
  have da5 : W.cell? ⟨w.heap.size + 1 + 1, 5, none⟩ = some (.int .i64 pc) := X3.out.b2.cell (c := 5) rfl
  have da6 : W.cell? ⟨w.heap.size + 1 + 1, 6, none⟩ = some (.int .i64 pi) := X3.out.b2.cell (c := 6) rfl
  have da7 : W.cell? ⟨w.heap.size + 1 + 1, 7, none⟩ = some (.int .i64 pq) := X3.out.b2.cell (c := 7) rfl
  have da8 : W.cell? ⟨w.heap.size + 1 + 1, 8, none⟩ = some (.int .i64 pg) := X3.out.b2.cell (c := 8) rfl
  have da9 : W.cell? ⟨w.heap.size + 1 + 1, 9, none⟩ = some (.int .i64 pa) := X3.out.b2.cell (c := 9) rfl
  have xa0 : W.cell? ⟨w.heap.size + 1 + 1 + 1, 0, none⟩ = some (.int .u32 0) := X3.out.b3.cell (c := 0) rfl
  have xaf0 := X3.out.b3.free 0
  have xa1 : W.cell? ⟨w.heap.size + 1 + 1 + 1, 1, none⟩ = some (.int .u32 0) := X3.out.b3.cell (c := 1) rfl
  have xaf1 := X3.out.b3.free 1
  have xa2 : W.cell? ⟨w.heap.size + 1 + 1 + 1, 2, none⟩ = some (.int .u32 0) := X3.out.b3.cell (c := 2) rfl
  have xaf2 := X3.out.b3.free 2
  have xa3 : W.cell? ⟨w.heap.size + 1 + 1 + 1, 3, none⟩ = some (.int .u32 0) := X3.out.b3.cell (c := 3) rfl
  have xaf3 := X3.out.b3.free 3
  have xa4 : W.cell? ⟨w.heap.size + 1 + 1 + 1, 4, none⟩ = some (.int .u32 0) := X3.out.b3.cell (c := 4) rfl
  have xaf4 := X3.out.b3.free 4
  have xa5 : W.cell? ⟨w.heap.size + 1 + 1 + 1, 5, none⟩ = some (.int .u32 0) := X3.out.b3.cell (c := 5) rfl
  have xaf5 := X3.out.b3.free 5
  have xa6 : W.cell? ⟨w.heap.size + 1 + 1 + 1, 6, none⟩ = some (.int .u32 0) := X3.out.b3.cell (c := 6) rfl
  have xaf6 := X3.out.b3.free 6
  have xa7 : W.cell? ⟨w.heap.size + 1 + 1 + 1, 7, none⟩ = some (.int .u32 0) := X3.out.b3.cell (c := 7) rfl
  have xaf7 := X3.out.b3.free 7
  have xa8 : W.cell? ⟨w.heap.size + 1 + 1 + 1, 8, none⟩ = some (.int .u32 0) := X3.out.b3.cell (c := 8) rfl
  have xaf8 := X3.out.b3.free 8
  have xa9 : W.cell? ⟨w.heap.size + 1 + 1 + 1, 9, none⟩ = some (.int .u32 0) := X3.out.b3.cell (c := 9) rfl
  have xaf9 := X3.out.b3.free 9
  have xa10 : W.cell? ⟨w.heap.size + 1 + 1 + 1, 10, none⟩ = some (.int .u32 0) := X3.out.b3.cell (c := 10) rfl
  have xaf10 := X3.out.b3.free 10
  have xa11 : W.cell? ⟨w.heap.size + 1 + 1 + 1, 11, none⟩ = some (.int .u32 0) := X3.out.b3.cell (c := 11) rfl
  have xaf11 := X3.out.b3.free 11
  have xa12 : W.cell? ⟨w.heap.size + 1 + 1 + 1, 12, none⟩ = some (.int .u32 0) := X3.out.b3.cell (c := 12) rfl
  have xaf12 := X3.out.b3.free 12
  have xa13 : W.cell? ⟨w.heap.size + 1 + 1 + 1, 13, none⟩ = some (.int .u32 0) := X3.out.b3.cell (c := 13) rfl
  have xaf13 := X3.out.b3.free 13
  have xa14 : W.cell? ⟨w.heap.size + 1 + 1 + 1, 14, none⟩ = some (.int .u32 0) := X3.out.b3.cell (c := 14) rfl
  have xaf14 := X3.out.b3.free 14
  have xa15 : W.cell? ⟨w.heap.size + 1 + 1 + 1, 15, none⟩ = some (.int .u32 0) := X3.out.b3.cell (c := 15) rfl
  have xaf15 := X3.out.b3.free 15
  have ya0 : W.cell? ⟨w.heap.size + 1 + 1 + 1 + 1, 0, none⟩ = some (.int .i64 0) := X3.out.b4.cell (c := 0) rfl
  have yaf0 := X3.out.b4.free 0
  have ya1 : W.cell? ⟨w.heap.size + 1 + 1 + 1 + 1, 1, none⟩ = some (.int .i64 0) := X3.out.b4.cell (c := 1) rfl
  have yaf1 := X3.out.b4.free 1
  have ya2 : W.cell? ⟨w.heap.size + 1 + 1 + 1 + 1, 2, none⟩ = some (.bool false) := X3.out.b4.cell (c := 2) rfl
  have yaf2 := X3.out.b4.free 2
  have ya3 : W.cell? ⟨w.heap.size + 1 + 1 + 1 + 1, 3, none⟩ = some (.bool false) := X3.out.b4.cell (c := 3) rfl
  have yaf3 := X3.out.b4.free 3
  have ya4 : W.cell? ⟨w.heap.size + 1 + 1 + 1 + 1, 4, none⟩ = some (.bool false) := X3.out.b4.cell (c := 4) rfl
  have yaf4 := X3.out.b4.free 4
  have ya5 : W.cell? ⟨w.heap.size + 1 + 1 + 1 + 1, 5, none⟩ = some (.int .i64 0) := X3.out.b4.cell (c := 5) rfl
  have yaf5 := X3.out.b4.free 5
  have ya6 : W.cell? ⟨w.heap.size + 1 + 1 + 1 + 1, 6, none⟩ = some (.int .i64 0) := X3.out.b4.cell (c := 6) rfl
  have yaf6 := X3.out.b4.free 6
  have ya7 : W.cell? ⟨w.heap.size + 1 + 1 + 1 + 1, 7, none⟩ = some (.int .i64 0) := X3.out.b4.cell (c := 7) rfl
  have yaf7 := X3.out.b4.free 7
  have ya8 : W.cell? ⟨w.heap.size + 1 + 1 + 1 + 1, 8, none⟩ = some (.int .i64 0) := X3.out.b4.cell (c := 8) rfl
  have yaf8 := X3.out.b4.free 8
  have ya9 : W.cell? ⟨w.heap.size + 1 + 1 + 1 + 1, 9, none⟩ = some (.int .i64 0) := X3.out.b4.cell (c := 9) rfl
  have yaf9 := X3.out.b4.free 9
  have za0 : W.cell? ⟨w.heap.size + 1 + 1 + 1 + 1 + 1, 0, none⟩ = some (.int .i64 0) := X3.out.b5.cell (c := 0) rfl
  have zaf0 := X3.out.b5.free 0
  go_region
  obtain ⟨W9, hW9⟩ : ∃ W9, (((((((((((((((((((((((((((W.setCell ⟨w.heap.size + 1 + 1 + 1, 0, none⟩ (.int .u32 a0)).setCell ⟨w.heap.size + 1 + 1 + 1, 1, none⟩ (.int .u32 a1)).setCell ⟨w.heap.size + 1 + 1 + 1, 2, none⟩ (.int .u32 a2)).setCell ⟨w.heap.size + 1 + 1 + 1, 3, none⟩ (.int .u32 a3)).setCell ⟨w.heap.size + 1 + 1 + 1, 4, none⟩ (.int .u32 a4)).setCell ⟨w.heap.size + 1 + 1 + 1, 5, none⟩ (.int .u32 a5)).setCell ⟨w.heap.size + 1 + 1 + 1, 6, none⟩ (.int .u32 a6)).setCell ⟨w.heap.size + 1 + 1 + 1, 7, none⟩ (.int .u32 a7)).setCell ⟨w.heap.size + 1 + 1 + 1, 8, none⟩ (.int .u32 a8)).setCell ⟨w.heap.size + 1 + 1 + 1, 9, none⟩ (.int .u32 a9)).setCell ⟨w.heap.size + 1 + 1 + 1, 10, none⟩ (.int .u32 a10)).setCell ⟨w.heap.size + 1 + 1 + 1, 11, none⟩ (.int .u32 a11)).setCell ⟨w.heap.size + 1 + 1 + 1, 12, none⟩ (.int .u32 a12)).setCell ⟨w.heap.size + 1 + 1 + 1, 13, none⟩ (.int .u32 a13)).setCell ⟨w.heap.size + 1 + 1 + 1, 14, none⟩ (.int .u32 a14)).setCell ⟨w.heap.size + 1 + 1 + 1, 15, none⟩ (.int .u32 a15)).setCell ⟨w.heap.size + 1 + 1 + 1 + 1, 0, none⟩ (.int .i64 pm)).setCell ⟨w.heap.size + 1 + 1 + 1 + 1, 1, none⟩ (.int .i64 pk)).setCell ⟨w.heap.size + 1 + 1 + 1 + 1, 2, none⟩ (.bool pM)).setCell ⟨w.heap.size + 1 + 1 + 1 + 1, 3, none⟩ (.bool pW)).setCell ⟨w.heap.size + 1 + 1 + 1 + 1, 4, none⟩ (.bool pP)).setCell ⟨w.heap.size + 1 + 1 + 1 + 1, 5, none⟩ (.int .i64 pc)).setCell ⟨w.heap.size + 1 + 1 + 1 + 1, 6, none⟩ (.int .i64 pi)).setCell ⟨w.heap.size + 1 + 1 + 1 + 1, 7, none⟩ (.int .i64 pq)).setCell ⟨w.heap.size + 1 + 1 + 1 + 1, 8, none⟩ (.int .i64 pg)).setCell ⟨w.heap.size + 1 + 1 + 1 + 1, 9, none⟩ (.int .i64 pa)).setCell ⟨w.heap.size + 1 + 1 + 1 + 1 + 1, 0, none⟩ (.int .i64 1)).drew = W9 := ⟨_, rfl⟩
  have X9 := Lib.hid (show XF w (((((((((((((((((((((((((((W.setCell ⟨w.heap.size + 1 + 1 + 1, 0, none⟩ (.int .u32 a0)).setCell ⟨w.heap.size + 1 + 1 + 1, 1, none⟩ (.int .u32 a1)).setCell ⟨w.heap.size + 1 + 1 + 1, 2, none⟩ (.int .u32 a2)).setCell ⟨w.heap.size + 1 + 1 + 1, 3, none⟩ (.int .u32 a3)).setCell ⟨w.heap.size + 1 + 1 + 1, 4, none⟩ (.int .u32 a4)).setCell ⟨w.heap.size + 1 + 1 + 1, 5, none⟩ (.int .u32 a5)).setCell ⟨w.heap.size + 1 + 1 + 1, 6, none⟩ (.int .u32 a6)).setCell ⟨w.heap.size + 1 + 1 + 1, 7, none⟩ (.int .u32 a7)).setCell ⟨w.heap.size + 1 + 1 + 1, 8, none⟩ (.int .u32 a8)).setCell ⟨w.heap.size + 1 + 1 + 1, 9, none⟩ (.int .u32 a9)).setCell ⟨w.heap.size + 1 + 1 + 1, 10, none⟩ (.int .u32 a10)).setCell ⟨w.heap.size + 1 + 1 + 1, 11, none⟩ (.int .u32 a11)).setCell ⟨w.heap.size + 1 + 1 + 1, 12, none⟩ (.int .u32 a12)).setCell ⟨w.heap.size + 1 + 1 + 1, 13, none⟩ (.int .u32 a13)).setCell ⟨w.heap.size + 1 + 1 + 1, 14, none⟩ (.int .u32 a14)).setCell ⟨w.heap.size + 1 + 1 + 1, 15, none⟩ (.int .u32 a15)).setCell ⟨w.heap.size + 1 + 1 + 1 + 1, 0, none⟩ (.int .i64 pm)).setCell ⟨w.heap.size + 1 + 1 + 1 + 1, 1, none⟩ (.int .i64 pk)).setCell ⟨w.heap.size + 1 + 1 + 1 + 1, 2, none⟩ (.bool pM)).setCell ⟨w.heap.size + 1 + 1 + 1 + 1, 3, none⟩ (.bool pW)).setCell ⟨w.heap.size + 1 + 1 + 1 + 1, 4, none⟩ (.bool pP)).setCell ⟨w.heap.size + 1 + 1 + 1 + 1, 5, none⟩ (.int .i64 pc)).setCell ⟨w.heap.size + 1 + 1 + 1 + 1, 6, none⟩ (.int .i64 pi)).setCell ⟨w.heap.size + 1 + 1 + 1 + 1, 7, none⟩ (.int .i64 pq)).setCell ⟨w.heap.size + 1 + 1 + 1 + 1, 8, none⟩ (.int .i64 pg)).setCell ⟨w.heap.size + 1 + 1 + 1 + 1, 9, none⟩ (.int .i64 pa)).setCell ⟨w.heap.size + 1 + 1 + 1 + 1 + 1, 0, none⟩ (.int .i64 1)).drew [] [op, fm, r1, r2, x2, b1, d1, b2, d2, l1, l2, i2] [a0, a1, a2, a3, a4, a5, a6, a7, a8, a9, a10, a11, a12, a13, a14, a15] [.int .i64 pm, .int .i64 pk, .bool pM, .bool pW, .bool pP, .int .i64 pc, .int .i64 pi, .int .i64 pq, .int .i64 pg, .int .i64 pa] [.int .u32 a0, .int .u32 a1, .int .u32 a2, .int .u32 a3, .int .u32 a4, .int .u32 a5, .int .u32 a6, .int .u32 a7, .int .u32 a8, .int .u32 a9, .int .u32 a10, .int .u32 a11, .int .u32 a12, .int .u32 a13, .int .u32 a14, .int .u32 a15] [.int .i64 pm, .int .i64 pk, .bool pM, .bool pW, .bool pP, .int .i64 pc, .int .i64 pi, .int .i64 pq, .int .i64 pg, .int .i64 pa] (.int .i64 1) from (X3.out.give rfl rfl (.int .u32 a0) (.int .u32 a1) (.int .u32 a2) (.int .u32 a3) (.int .u32 a4) (.int .u32 a5) (.int .u32 a6) (.int .u32 a7) (.int .u32 a8) (.int .u32 a9) (.int .u32 a10) (.int .u32 a11) (.int .u32 a12) (.int .u32 a13) (.int .u32 a14) (.int .u32 a15) (.int .i64 pm) (.int .i64 pk) (.bool pM) (.bool pW) (.bool pP) (.int .i64 pc) (.int .i64 pi) (.int .i64 pq) (.int .i64 pg) (.int .i64 pa) (.int .i64 1)).drewN 1)
  rw [hW9] at X9
  rw [hW9]
  clear hW9 X3 ca0 ca1 ca2 ca3 ca4 ca5 ca6 ca7 ca8 ca9 ca10 ca11 ca12 ca13 ca14 ca15 da0 da1 da2 da3 da4 da5 da6 da7 da8 da9 xa0 xaf0 xa1 xaf1 xa2 xaf2 xa3 xaf3 xa4 xaf4 xa5 xaf5 xa6 xaf6 xa7 xaf7 xa8 xaf8 xa9 xaf9 xa10 xaf10 xa11 xaf11 xa12 xaf12 xa13 xaf13 xa14 xaf14 xa15 xaf15 ya0 yaf0 ya1 yaf1 ya2 yaf2 ya3 yaf3 ya4 yaf4 ya5 yaf5 ya6 yaf6 ya7 yaf7 ya8 yaf8 ya9 yaf9 za0 zaf0
  go_wp2
  have c5 := X9.out.b5.cell (c := 0) rfl
  exact ⟨_, res_cells3 Try.results14 _ _ _ _ _ _ _ _ rfl rfl rfl X9.out.b3 X9.out.b4 X9.out.b5 Try.underlying28 rfl (by kernel_rfl) Try.underlying30 rfl (by kernel_rfl) (by go_simp), rfl, X9.out.be.below (Nat.le_refl _) (by simp)⟩
end Go.Proofs.Ythjdjbipfdigeaa

