/- CONTRACT of works: the chapter's example. No conditions. -/
import Derived.Test.YtfbcjpbfggbhfaaIs6
import Derived.Test.YtfbcjpbfggbhfaaSb
import Derived.Test.YtfbcjpbfggbhfaaBo
import Derived.Handy
import Derived.Deep.QuietTactic
namespace Go.Proofs.Ytfbcjpbfggbhfaa
open Go.RowKit Go.Shelf
set_option linter.unusedVariables false
set_option linter.unusedSimpArgs false
attribute [local go_sem] eqi_run eqi_guard
set_option maxRecDepth 100000 in
set_option maxHeartbeats 4000000 in
theorem works_c (w : World) : Calls Try.prog 14 #[] w fun e w' => e = .returned (.bool true) ∧ Below w.heap.size w w' := by
  have c0 : chk 26 1 [26, 1, 1, 2, 0, 0, 0, 0, 0, 0, 0, 0] = 0 := by decide +kernel
  have c1 : encI [26, 1, 1, 2, 0, 0, 0, 0, 0, 0, 0, 0] = [26, 18] := by decide +kernel
  have c2 : dokI 2 [26, 18] = true := by decide +kernel
  have c3 : decI [26, 18] = [26, 1, 1, 2, 0, 0, 0, 0, 0, 0, 0, 0] := by decide +kernel
  have c4 : strN (nmOf 26) = { data := #[65, 82] } := by decide +kernel
  have x0 : eqiB 26 1 1 2 0 0 0 0 0 0 0 0 26 1 1 2 0 0 0 0 0 0 0 0 = true := by decide
  go_enter Try.func14, Try.ntmps14
  go_wp2_with fail
  refine (iencode_c 26 1 1 2 0 0 0 0 0 0 0 0 _ (by omega) (by omega)).mono ?_
  rw [c0, if_pos rfl, c1]
  rintro e w1 ⟨A, n, rfl, hy, hn, hn6, hb⟩
  have Y1 := Lib.hid hy
  have HB1 := Lib.hid (show Below w.heap.size w w1 from ((Below.refl w.heap.size w).alloc (Nat.le_refl _) _).trans (hb.mono (by simp)))
  have k0 : Blk w1 w.heap.size 28 [26, 1, 1, 2, 0, 0, 0, 0, 0, 0, 0, 0] := Blk.keep (W := w.alloc (.cells #[.int .i64 26, .int .i64 1, .int .i64 1, .int .i64 2, .int .i64 0, .int .i64 0, .int .i64 0, .int .i64 0, .int .i64 0, .int .i64 0, .int .i64 0, .int .i64 0] 28)) (heap_alloc_new w _) hb
  have K0 := Lib.hid k0
  clear hb hy k0
  go_wp2_with fail
  have Y2 := Lib.hid (byt_new w1 [26, 18] (by decide) #[.int .u8 26, .int .u8 18] (by simp) 2 rfl 5)
  refine (idecode_c (some ⟨w1.heap.size, 0, none⟩) 2 2 [26, 18] _ (by exact Y2.out) (by omega)).mono ?_
  rw [c2, c3]
  rintro e w2 ⟨rfl, hb⟩
  have K2 := Lib.hid (Blk.keep (K0.out.alloc (.cells #[.int .u8 26, .int .u8 18] 5)) hb)
  have HB2 := Lib.hid (show Below w1.heap.size w1 w2 from ((Below.refl w1.heap.size w1).alloc (Nat.le_refl _) _).trans (hb.mono (by simp)))
  clear hb
  simp only [if_true, insV, List.map_cons, List.map_nil]
  go_wp2_with fail
  have Y3 := Lib.hid (byt_new (w2.alloc (.cells #[.int .i64 26, .int .i64 1, .int .i64 1, .int .i64 2, .int .i64 0, .int .i64 0, .int .i64 0, .int .i64 0, .int .i64 0, .int .i64 0, .int .i64 0, .int .i64 0] 28)) [26, 18] (by decide) #[.int .u8 26, .int .u8 18] (by simp) 2 rfl 5)
  rw [World.size_alloc] at Y3
  have HB3 := Lib.hid (show Below w1.heap.size w1 ((w2.alloc (.cells #[.int .i64 26, .int .i64 1, .int .i64 1, .int .i64 2, .int .i64 0, .int .i64 0, .int .i64 0, .int .i64 0, .int .i64 0, .int .i64 0, .int .i64 0, .int .i64 0] 28)).alloc (.cells #[.int .u8 26, .int .u8 18] 5)) from (HB2.out.alloc HB2.out.size _).alloc (by have := HB2.out.size; simp; omega) _)
  have Y4 := Lib.hid (Y1.out.keep HB3.out)
  refine (same_c A n n [26, 18] (some ⟨w2.heap.size + 1, 0, none⟩) 2 2 [26, 18] _ (by exact Y4.out) (by exact Y3.out) (by omega) (by omega)).mono ?_
  rw [show decide (([26, 18] : List Int) = [26, 18]) = true from by decide]
  rintro e w3 ⟨rfl, n3, hw3⟩
  have H4 := Lib.hid (show Below w.heap.size w w3 from by rw [hw3]; exact dBelow' (HB1.out.trans (HB3.out.mono HB1.out.size)) _)
  have B1 : Blk w3 w.heap.size 28 [26, 1, 1, 2, 0, 0, 0, 0, 0, 0, 0, 0] := by rw [hw3]; exact ((K2.out.alloc _).alloc _).drewN n3
  have B2 : Blk w3 w2.heap.size 28 [26, 1, 1, 2, 0, 0, 0, 0, 0, 0, 0, 0] := by rw [hw3]; exact ((show Blk (w2.alloc (.cells #[.int .i64 26, .int .i64 1, .int .i64 1, .int .i64 2, .int .i64 0, .int .i64 0, .int .i64 0, .int .i64 0, .int .i64 0, .int .i64 0, .int .i64 0, .int .i64 0] 28)) w2.heap.size 28 [26, 1, 1, 2, 0, 0, 0, 0, 0, 0, 0, 0] from heap_alloc_new w2 _).alloc _).drewN n3
  have p0 : w3.cell? ⟨w.heap.size, 0, none⟩ = some (.int .i64 26) := B1.cell (c := 0) (by simp)
  have q0 : w3.cell? ⟨w2.heap.size, 0, none⟩ = some (.int .i64 26) := B2.cell (c := 0) (by simp)
  have p1 : w3.cell? ⟨w.heap.size, 1, none⟩ = some (.int .i64 1) := B1.cell (c := 1) (by simp)
  have q1 : w3.cell? ⟨w2.heap.size, 1, none⟩ = some (.int .i64 1) := B2.cell (c := 1) (by simp)
  have p2 : w3.cell? ⟨w.heap.size, 2, none⟩ = some (.int .i64 1) := B1.cell (c := 2) (by simp)
  have q2 : w3.cell? ⟨w2.heap.size, 2, none⟩ = some (.int .i64 1) := B2.cell (c := 2) (by simp)
  have p3 : w3.cell? ⟨w.heap.size, 3, none⟩ = some (.int .i64 2) := B1.cell (c := 3) (by simp)
  have q3 : w3.cell? ⟨w2.heap.size, 3, none⟩ = some (.int .i64 2) := B2.cell (c := 3) (by simp)
  have p4 : w3.cell? ⟨w.heap.size, 4, none⟩ = some (.int .i64 0) := B1.cell (c := 4) (by simp)
  have q4 : w3.cell? ⟨w2.heap.size, 4, none⟩ = some (.int .i64 0) := B2.cell (c := 4) (by simp)
  have p5 : w3.cell? ⟨w.heap.size, 5, none⟩ = some (.int .i64 0) := B1.cell (c := 5) (by simp)
  have q5 : w3.cell? ⟨w2.heap.size, 5, none⟩ = some (.int .i64 0) := B2.cell (c := 5) (by simp)
  have p6 : w3.cell? ⟨w.heap.size, 6, none⟩ = some (.int .i64 0) := B1.cell (c := 6) (by simp)
  have q6 : w3.cell? ⟨w2.heap.size, 6, none⟩ = some (.int .i64 0) := B2.cell (c := 6) (by simp)
  have p7 : w3.cell? ⟨w.heap.size, 7, none⟩ = some (.int .i64 0) := B1.cell (c := 7) (by simp)
  have q7 : w3.cell? ⟨w2.heap.size, 7, none⟩ = some (.int .i64 0) := B2.cell (c := 7) (by simp)
  have p8 : w3.cell? ⟨w.heap.size, 8, none⟩ = some (.int .i64 0) := B1.cell (c := 8) (by simp)
  have q8 : w3.cell? ⟨w2.heap.size, 8, none⟩ = some (.int .i64 0) := B2.cell (c := 8) (by simp)
  have p9 : w3.cell? ⟨w.heap.size, 9, none⟩ = some (.int .i64 0) := B1.cell (c := 9) (by simp)
  have q9 : w3.cell? ⟨w2.heap.size, 9, none⟩ = some (.int .i64 0) := B2.cell (c := 9) (by simp)
  have p10 : w3.cell? ⟨w.heap.size, 10, none⟩ = some (.int .i64 0) := B1.cell (c := 10) (by simp)
  have q10 : w3.cell? ⟨w2.heap.size, 10, none⟩ = some (.int .i64 0) := B2.cell (c := 10) (by simp)
  have p11 : w3.cell? ⟨w.heap.size, 11, none⟩ = some (.int .i64 0) := B1.cell (c := 11) (by simp)
  have q11 : w3.cell? ⟨w2.heap.size, 11, none⟩ = some (.int .i64 0) := B2.cell (c := 11) (by simp)
  clear hw3 B1 B2 Y1 Y2 Y3 Y4 HB1 HB2 HB3 K0 K2
  go_wp2_with fail
  refine (name_c 26 _).mono ?_
  rintro e w4 ⟨rfl, n4, rfl⟩
  rw [c4]
  go_wp2_with fail
  go_ret
  exact ⟨by simp, dBelow' H4.out _⟩
end Go.Proofs.Ytfbcjpbfggbhfaa
