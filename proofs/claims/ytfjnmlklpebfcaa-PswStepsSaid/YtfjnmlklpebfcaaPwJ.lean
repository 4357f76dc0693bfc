/- CONTRACTS of package psw and its reference: works: the chapter's examples. No conditions but the numbers' ranges. -/
import Derived.Test.YtfjnmlklpebfcaaPwE
import Derived.Test.YtfjnmlklpebfcaaPw2
import Derived.Test.YtfjnmlklpebfcaaWdF
import Derived.Test.YtfjnmlklpebfcaaBo
import Derived.Test.YtfjnmlklpebfcaaQt
import Derived.Test.YtfjnmlklpebfcaaSm
import Derived.Test.YtfjnmlklpebfcaaPwD
import Derived.Test.YtfjnmlklpebfcaaPwI
import Derived.Test.YtfjnmlklpebfcaaSame6
import Derived.Handy
import Derived.Test.YtfjnmlklpebfcaaEqP
import Derived.BigQuiet
import Derived.Deep.QuietTactic
namespace Go.Proofs.Ytfjnmlklpebfcaa
open Go.RowKit
set_option linter.unusedVariables false
set_option linter.unusedSimpArgs false

attribute [local go_sem] eqp_run eqp_guard
set_option maxHeartbeats 4000000 in
theorem works_c (w : World) : Calls Try.prog 17 #[] w fun e w' => e = .returned (.bool true) ∧ Below w.heap.size w w' := by
  have p0 : pok 255 3 0 0 2 0 4096 = true := by decide
  have b1 : pbr 7 1 = true := by decide
  have b0 : pbr 7 0 = false := by decide
  have a1 : (pok 64 0 0 0 0 0 0 && padm 64 0 false 5 0 1) = true := by decide
  have a0 : (pok 64 0 0 0 0 0 0 && padm 64 0 false 5 0 0) = false := by decide
  have v0 : padv (pok 0 0 0 0 0 0 16777214) 4 = true := by decide
  have x0 : eqpB 0 0 258 3 0 12 0 0 0 258 3 0 12 0 false false true false false true = true := by decide
  have x1 : eqpB 0 0 0 2 0 0 2 0 0 0 2 0 0 2 false false false false false false = true := by decide
  go_enter Try.func17, Try.ntmps17
  go_wp2_with fail
  refine (encode_c 255 3 false true false 0 0 2 0 4096 _).mono ?_
  rintro e w1 ⟨A, n, rfl, hy, hn, hA, hb⟩
  rw [if_pos p0] at hy
  rw [p0]
  have Y1 := Lib.hid hy
  have HB1 := Lib.hid (show Below w.heap.size w w1 from ((Below.refl w.heap.size w).alloc (Nat.le_refl _) _).trans (hb.mono (by simp)))
  clear hb hy
  go_wp2_with fail
  have Y2 := Lib.hid (byt_new w1 [0, 1, 1, 2, 204, 0, 0, 0] (by decide) #[.int .u8 0, .int .u8 1, .int .u8 1, .int .u8 2, .int .u8 204, .int .u8 0, .int .u8 0, .int .u8 0] (by simp) 8 rfl 5)
  refine (decode_c_yes (some ⟨w1.heap.size, 0, none⟩) 8 8 [0, 1, 1, 2, 204, 0, 0, 0] _ (by exact Y2.out) (by omega) (by decide)).mono ?_
  rintro e w2 ⟨rfl, hb⟩
  have HB2 := Lib.hid (show Below w1.heap.size w1 w2 from ((Below.refl w1.heap.size w1).alloc (Nat.le_refl _) _).trans (hb.mono (by simp)))
  clear hb
  simp only [List.getD_cons_zero, List.getD_cons_succ, Int.reduceDiv, Int.reduceMod, Int.reduceMul, Int.reduceAdd, Int.reduceEq, decide_true, decide_false, Int.reduceBEq]
  go_wp2_with fail
  have e1 : penc 255 3 false true false 0 0 2 0 4096 = [255, 50, 0, 0, 32, 0, 16, 0] := by decide
  have Y3 := Lib.hid (by have h := byt_new (w2.alloc (.cells #[.int .i64 0, .int .i64 0, .bool false, .bool false, .bool true, .int .i64 258, .int .i64 3, .int .i64 0, .int .i64 12, .int .i64 0] 23)) [255, 50, 0, 0, 32, 0, 16, 0] (by decide) #[.int .u8 255, .int .u8 50, .int .u8 0, .int .u8 0, .int .u8 32, .int .u8 0, .int .u8 16, .int .u8 0] (by simp) 8 rfl 5; rw [World.size_alloc] at h; exact h)
  have Y1' := Lib.hid (show Byt ((w2.alloc (.cells #[.int .i64 0, .int .i64 0, .bool false, .bool false, .bool true, .int .i64 258, .int .i64 3, .int .i64 0, .int .i64 12, .int .i64 0] 23)).alloc (.cells #[.int .u8 255, .int .u8 50, .int .u8 0, .int .u8 0, .int .u8 32, .int .u8 0, .int .u8 16, .int .u8 0] 5)) A n [255, 50, 0, 0, 32, 0, 16, 0] from by
    rw [← e1]
    exact (Y1.out.keep HB2.out).keep (((Below.refl w2.heap.size w2).alloc (Nat.le_refl _) _).alloc (by simp) _))
  clear e1
  refine (same_c A n n [255, 50, 0, 0, 32, 0, 16, 0] (some ⟨w2.heap.size + 1, 0, none⟩) 8 8 [255, 50, 0, 0, 32, 0, 16, 0] _ (by exact Y1'.out) (by exact Y3.out) (by omega) (by omega)).mono ?_
  rintro e w3 ⟨rfl, n3, hw3⟩
  have HB3 := Lib.hid (show Below w.heap.size w w3 from by
    rw [hw3]
    refine dBelow ?_ _
    have hb := HB1.out.trans (HB2.out.mono HB1.out.size)
    exact (hb.alloc hb.size _).alloc (by have := hb.size; simp; omega) _)
  have d0 : w3.cell? ⟨w2.heap.size, 0, none⟩ = some (.int .i64 0) := by rw [hw3]; simp
  have d1 : w3.cell? ⟨w2.heap.size, 1, none⟩ = some (.int .i64 0) := by rw [hw3]; simp
  have d2 : w3.cell? ⟨w2.heap.size, 2, none⟩ = some (.bool false) := by rw [hw3]; simp
  have d3 : w3.cell? ⟨w2.heap.size, 3, none⟩ = some (.bool false) := by rw [hw3]; simp
  have d4 : w3.cell? ⟨w2.heap.size, 4, none⟩ = some (.bool true) := by rw [hw3]; simp
  have d5 : w3.cell? ⟨w2.heap.size, 5, none⟩ = some (.int .i64 258) := by rw [hw3]; simp
  have d6 : w3.cell? ⟨w2.heap.size, 6, none⟩ = some (.int .i64 3) := by rw [hw3]; simp
  have d7 : w3.cell? ⟨w2.heap.size, 7, none⟩ = some (.int .i64 0) := by rw [hw3]; simp
  have d8 : w3.cell? ⟨w2.heap.size, 8, none⟩ = some (.int .i64 12) := by rw [hw3]; simp
  have d9 : w3.cell? ⟨w2.heap.size, 9, none⟩ = some (.int .i64 0) := by rw [hw3]; simp
  clear hw3 Y1 Y1' Y2 Y3 HB1 HB2
  rw [show decide (([255, 50, 0, 0, 32, 0, 16, 0] : List Int) = [255, 50, 0, 0, 32, 0, 16, 0]) = true from by decide]
  go_wp2_with fail
  refine (branch_c 7 1 (by omega) (by omega) (by omega) (by omega) _).mono ?_
  rintro e w4 ⟨rfl, rfl⟩
  rw [b1]
  go_wp2_with fail
  refine (branch_c 7 0 (by omega) (by omega) (by omega) (by omega) _).mono ?_
  rintro e w4 ⟨rfl, rfl⟩
  rw [b0]
  go_wp2_with fail
  refine (admits_c 64 0 false false false 0 0 0 0 0 5 0 1 _).mono ?_
  rintro e w4 ⟨rfl, hb⟩
  have HB4 := Lib.hid (HB3.out.trans (hb.mono HB3.out.size))
  clear hb
  rw [a1]
  go_wp2_with fail
  refine (admits_c 64 0 false false false 0 0 0 0 0 5 0 0 _).mono ?_
  rintro e w5 ⟨rfl, hb⟩
  have HB5 := Lib.hid (HB4.out.trans (hb.mono HB4.out.size))
  clear hb
  rw [a0]
  go_wp2_with fail
  refine (advance_c 0 0 false false false 0 0 0 0 16777214 4 _).mono ?_
  rintro e w6 ⟨rfl, hb⟩
  have HB6 := Lib.hid (HB5.out.trans (hb.mono HB5.out.size))
  clear hb
  rw [if_pos v0, if_pos v0]
  simp only [Int.reduceAdd, Int.reduceMod, Int.reduceDiv]
  go_wp2_with fail
  go_ret
  exact ⟨rfl, HB6.out⟩

end Go.Proofs.Ytfjnmlklpebfcaa
