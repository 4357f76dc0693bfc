/- THE WALK of PswInverse: it returns true and writes nothing that was there. No conditions but the input's own ranges. -/
import Derived.Test.YtfjnmlklpebfcaaPwL
import Derived.Test.YtfjnmlklpebfcaaRow
namespace Go.Proofs.Ytfjnmlklpebfcaa
open Go.RowKit
set_option linter.unusedVariables false
set_option linter.unusedSimpArgs false

attribute [local go_sem] eqp_run eqp_guard eqp_refl
set_option maxRecDepth 100000 in
set_option maxHeartbeats 4000000 in
theorem pswInverse_yy (m k : Int) (M W P : Bool) (c i q g a : Int) (A : Option Addr) (len cap : Nat) (x0 x1 x2 x3 x4 x5 x6 x7 : Int) (w : World) (hA : Byt w A len [x0, x1, x2, x3, x4, x5, x6, x7]) (hl : len ≤ 1000) (hp : pok m k c i q g a = true) (hd : pdok len [x0, x1, x2, x3, x4, x5, x6, x7] = true) :
    Calls Try.prog 8 #[.agg #[.int .i64 m, .int .i64 k, .bool M, .bool W, .bool P, .int .i64 c, .int .i64 i, .int .i64 q, .int .i64 g, .int .i64 a], .slice A len cap] w fun e w' => e = .returned (.bool true) ∧ Below w.heap.size w w' := by
  have HA := Lib.hid hA
  have HD := Lib.hid hd
  clear hA hd
  have r0 := HA.out.2.1 x0 (by simp)
  have r1 := HA.out.2.1 x1 (by simp)
  have r2 := HA.out.2.1 x2 (by simp)
  have r3 := HA.out.2.1 x3 (by simp)
  have r4 := HA.out.2.1 x4 (by simp)
  have r5 := HA.out.2.1 x5 (by simp)
  have r6 := HA.out.2.1 x6 (by simp)
  have r7 := HA.out.2.1 x7 (by simp)
  have hx : x1 / 8 % 2 = 0 := by have h := of_decide_eq_true HD.out; exact h.2
  obtain ⟨z1, z2⟩ := dec_enc x0 x1 x2 x3 x4 x5 x6 x7 r0.1 r0.2 r1.1 r1.2 r2.1 r2.2 r3.1 r3.2 r4.1 r4.2 r5.1 r5.2 r6.1 r6.2 r7.1 r7.2 hx
  have Z1 := Lib.hid z1
  have Z2 := Lib.hid z2
  clear z1 z2 hx
  go_enter Try.func8, Try.ntmps8
  go_wp2_with fail
  refine (encode_c m k M W P c i q g a _).mono ?_
  rintro e w1 ⟨A1, n1, rfl, hy, hn, hA1, hb⟩
  rw [hp, if_pos rfl] at hy
  have B1 := Lib.hid (show Below w.heap.size w w1 from ((Below.refl w.heap.size w).alloc (Nat.le_refl _) _).trans (hb.mono (by simp)))
  have Yb1 := Lib.hid (HA.out.keep B1.out)
  have c0 : w1.cell? ⟨w.heap.size, 0, none⟩ = some (.int .i64 m) := bcell_keep (w := (w.alloc (.cells #[.int .i64 m, .int .i64 k, .bool M, .bool W, .bool P, .int .i64 c, .int .i64 i, .int .i64 q, .int .i64 g, .int .i64 a] 23))) (by first | assumption | simp) hb
  have c1 : w1.cell? ⟨w.heap.size, 1, none⟩ = some (.int .i64 k) := bcell_keep (w := (w.alloc (.cells #[.int .i64 m, .int .i64 k, .bool M, .bool W, .bool P, .int .i64 c, .int .i64 i, .int .i64 q, .int .i64 g, .int .i64 a] 23))) (by first | assumption | simp) hb
  have c2 : w1.cell? ⟨w.heap.size, 2, none⟩ = some (.bool M) := bcell_keep (w := (w.alloc (.cells #[.int .i64 m, .int .i64 k, .bool M, .bool W, .bool P, .int .i64 c, .int .i64 i, .int .i64 q, .int .i64 g, .int .i64 a] 23))) (by first | assumption | simp) hb
  have c3 : w1.cell? ⟨w.heap.size, 3, none⟩ = some (.bool W) := bcell_keep (w := (w.alloc (.cells #[.int .i64 m, .int .i64 k, .bool M, .bool W, .bool P, .int .i64 c, .int .i64 i, .int .i64 q, .int .i64 g, .int .i64 a] 23))) (by first | assumption | simp) hb
  have c4 : w1.cell? ⟨w.heap.size, 4, none⟩ = some (.bool P) := bcell_keep (w := (w.alloc (.cells #[.int .i64 m, .int .i64 k, .bool M, .bool W, .bool P, .int .i64 c, .int .i64 i, .int .i64 q, .int .i64 g, .int .i64 a] 23))) (by first | assumption | simp) hb
  have c5 : w1.cell? ⟨w.heap.size, 5, none⟩ = some (.int .i64 c) := bcell_keep (w := (w.alloc (.cells #[.int .i64 m, .int .i64 k, .bool M, .bool W, .bool P, .int .i64 c, .int .i64 i, .int .i64 q, .int .i64 g, .int .i64 a] 23))) (by first | assumption | simp) hb
  have c6 : w1.cell? ⟨w.heap.size, 6, none⟩ = some (.int .i64 i) := bcell_keep (w := (w.alloc (.cells #[.int .i64 m, .int .i64 k, .bool M, .bool W, .bool P, .int .i64 c, .int .i64 i, .int .i64 q, .int .i64 g, .int .i64 a] 23))) (by first | assumption | simp) hb
  have c7 : w1.cell? ⟨w.heap.size, 7, none⟩ = some (.int .i64 q) := bcell_keep (w := (w.alloc (.cells #[.int .i64 m, .int .i64 k, .bool M, .bool W, .bool P, .int .i64 c, .int .i64 i, .int .i64 q, .int .i64 g, .int .i64 a] 23))) (by first | assumption | simp) hb
  have c8 : w1.cell? ⟨w.heap.size, 8, none⟩ = some (.int .i64 g) := bcell_keep (w := (w.alloc (.cells #[.int .i64 m, .int .i64 k, .bool M, .bool W, .bool P, .int .i64 c, .int .i64 i, .int .i64 q, .int .i64 g, .int .i64 a] 23))) (by first | assumption | simp) hb
  have c9 : w1.cell? ⟨w.heap.size, 9, none⟩ = some (.int .i64 a) := bcell_keep (w := (w.alloc (.cells #[.int .i64 m, .int .i64 k, .bool M, .bool W, .bool P, .int .i64 c, .int .i64 i, .int .i64 q, .int .i64 g, .int .i64 a] 23))) (by first | assumption | simp) hb
  have Yc := Lib.hid hy
  clear hb hy hA1
  rw [hp]
  go_wp2_with fail
  refine (valid_c m k M W P c i q g a _).mono ?_
  rintro e w2 ⟨rfl, hb⟩
  have B2 := Lib.hid (B1.out.trans (hb.mono B1.out.size))
  have Yb2 := Lib.hid (Yb1.out.keep hb)
  have Yc2 := Lib.hid (Yc.out.keep hb)
  have d0 : w2.cell? ⟨w.heap.size, 0, none⟩ = some (.int .i64 m) := bcell_keep (w := w1) (c0) hb
  have d1 : w2.cell? ⟨w.heap.size, 1, none⟩ = some (.int .i64 k) := bcell_keep (w := w1) (c1) hb
  have d2 : w2.cell? ⟨w.heap.size, 2, none⟩ = some (.bool M) := bcell_keep (w := w1) (c2) hb
  have d3 : w2.cell? ⟨w.heap.size, 3, none⟩ = some (.bool W) := bcell_keep (w := w1) (c3) hb
  have d4 : w2.cell? ⟨w.heap.size, 4, none⟩ = some (.bool P) := bcell_keep (w := w1) (c4) hb
  have d5 : w2.cell? ⟨w.heap.size, 5, none⟩ = some (.int .i64 c) := bcell_keep (w := w1) (c5) hb
  have d6 : w2.cell? ⟨w.heap.size, 6, none⟩ = some (.int .i64 i) := bcell_keep (w := w1) (c6) hb
  have d7 : w2.cell? ⟨w.heap.size, 7, none⟩ = some (.int .i64 q) := bcell_keep (w := w1) (c7) hb
  have d8 : w2.cell? ⟨w.heap.size, 8, none⟩ = some (.int .i64 g) := bcell_keep (w := w1) (c8) hb
  have d9 : w2.cell? ⟨w.heap.size, 9, none⟩ = some (.int .i64 a) := bcell_keep (w := w1) (c9) hb
  clear c0 c1 c2 c3 c4 c5 c6 c7 c8 c9
  clear hb
  rw [hp]
  go_wp2_with fail
  have hn8 : n1 = 8 := by rw [← Yc2.out.1]; rfl
  subst hn8
  refine (decode_enc A1 8 8 m k M W P c i q g a _ hp Yc2.out).mono ?_
  rintro e w3 ⟨rfl, hb⟩
  have B3 := Lib.hid (B2.out.trans (hb.mono B2.out.size))
  have Yb3 := Lib.hid (Yb2.out.keep hb)
  have e0 : w3.cell? ⟨w.heap.size, 0, none⟩ = some (.int .i64 m) := bcell_keep (w := w2) (d0) hb
  have e1 : w3.cell? ⟨w.heap.size, 1, none⟩ = some (.int .i64 k) := bcell_keep (w := w2) (d1) hb
  have e2 : w3.cell? ⟨w.heap.size, 2, none⟩ = some (.bool M) := bcell_keep (w := w2) (d2) hb
  have e3 : w3.cell? ⟨w.heap.size, 3, none⟩ = some (.bool W) := bcell_keep (w := w2) (d3) hb
  have e4 : w3.cell? ⟨w.heap.size, 4, none⟩ = some (.bool P) := bcell_keep (w := w2) (d4) hb
  have e5 : w3.cell? ⟨w.heap.size, 5, none⟩ = some (.int .i64 c) := bcell_keep (w := w2) (d5) hb
  have e6 : w3.cell? ⟨w.heap.size, 6, none⟩ = some (.int .i64 i) := bcell_keep (w := w2) (d6) hb
  have e7 : w3.cell? ⟨w.heap.size, 7, none⟩ = some (.int .i64 q) := bcell_keep (w := w2) (d7) hb
  have e8 : w3.cell? ⟨w.heap.size, 8, none⟩ = some (.int .i64 g) := bcell_keep (w := w2) (d8) hb
  have e9 : w3.cell? ⟨w.heap.size, 9, none⟩ = some (.int .i64 a) := bcell_keep (w := w2) (d9) hb
  clear d0 d1 d2 d3 d4 d5 d6 d7 d8 d9
  have hz := cell_ltB e0
  clear hb
  go_wp2_with fail
  have B4 := Lib.hid (B3.out.alloc B3.out.size (.cells #[.int .i64 m, .int .i64 k, .bool M, .bool W, .bool P, .int .i64 c, .int .i64 i, .int .i64 q, .int .i64 g, .int .i64 a] 23))
  have Yb4 := Lib.hid (Yb3.out.keep ((Below.refl w3.heap.size w3).alloc (Nat.le_refl _) (.cells #[.int .i64 m, .int .i64 k, .bool M, .bool W, .bool P, .int .i64 c, .int .i64 i, .int .i64 q, .int .i64 g, .int .i64 a] 23)))
  refine (decode_x A len cap [x0, x1, x2, x3, x4, x5, x6, x7] _ Yb4.out (by omega) HD.out x0 x1 x2 x3 x4 x5 x6 x7 ⟨rfl, rfl, rfl, rfl, rfl, rfl, rfl, rfl⟩).mono ?_
  rintro e w5 ⟨rfl, hb⟩
  have B5 := Lib.hid (B4.out.trans (hb.mono B4.out.size))
  have Yb5 := Lib.hid (Yb4.out.keep hb)
  clear hb
  go_wp2_with fail
  have B6 := Lib.hid (B5.out.alloc B5.out.size (.cells #[.int .i64 x0, .int .i64 (x1 / 16), .bool (decide (x1 / 4 % 2 = 1)), .bool (decide (x1 / 2 % 2 = 1)), .bool (decide (x1 % 2 = 1)), .int .i64 (256 * x2 + x3), .int .i64 (x4 / 64), .int .i64 (x4 / 16 % 4), .int .i64 (x4 % 16), .int .i64 (65536 * x5 + 256 * x6 + x7)] 23))
  have Yb6 := Lib.hid (Yb5.out.keep ((Below.refl w5.heap.size w5).alloc (Nat.le_refl _) (.cells #[.int .i64 x0, .int .i64 (x1 / 16), .bool (decide (x1 / 4 % 2 = 1)), .bool (decide (x1 / 2 % 2 = 1)), .bool (decide (x1 % 2 = 1)), .int .i64 (256 * x2 + x3), .int .i64 (x4 / 64), .int .i64 (x4 / 16 % 4), .int .i64 (x4 % 16), .int .i64 (65536 * x5 + 256 * x6 + x7)] 23)))
  refine (encode_c x0 (x1 / 16) (decide (x1 / 4 % 2 = 1)) (decide (x1 / 2 % 2 = 1)) (decide (x1 % 2 = 1)) (256 * x2 + x3) (x4 / 64) (x4 / 16 % 4) (x4 % 16) (65536 * x5 + 256 * x6 + x7) _).mono ?_
  rintro e w7 ⟨A2, n2, rfl, hy, hn2, hA2, hb⟩
  rw [Z1.out, if_pos rfl, Z2.out] at hy
  rw [Z1.out]
  have B7 := Lib.hid (B6.out.trans (hb.mono B6.out.size))
  have Yd := Lib.hid hy
  have Yb7 := Lib.hid (Yb6.out.keep hb)
  clear hb hy hA2
  go_wp2_with fail
  refine (same_c A2 n2 n2 [x0, x1, x2, x3, x4, x5, x6, x7] A len cap [x0, x1, x2, x3, x4, x5, x6, x7] _ Yd.out Yb7.out (by omega) (by omega)).mono ?_
  rintro e w8 ⟨rfl, n8, rfl⟩
  rw [show decide (([x0, x1, x2, x3, x4, x5, x6, x7] : List Int) = [x0, x1, x2, x3, x4, x5, x6, x7]) = true from by simp]
  have B8 := Lib.hid (dBelow B7.out n8)
  go_wp2_with fail
  refine (works_c _).mono ?_
  rintro e w9 ⟨rfl, hb⟩
  have B9 := Lib.hid (B8.out.trans (hb.mono B8.out.size))
  clear hb
  go_wp2_with fail
  go_ret
  exact ⟨rfl, B9.out⟩

set_option maxRecDepth 100000 in
set_option maxHeartbeats 4000000 in
theorem pswInverse_yn (m k : Int) (M W P : Bool) (c i q g a : Int) (A : Option Addr) (len cap : Nat) (zs : List Int) (w : World) (hA : Byt w A len zs) (hl : len ≤ 1000) (hp : pok m k c i q g a = true) (hd : pdok len zs = false) :
    Calls Try.prog 8 #[.agg #[.int .i64 m, .int .i64 k, .bool M, .bool W, .bool P, .int .i64 c, .int .i64 i, .int .i64 q, .int .i64 g, .int .i64 a], .slice A len cap] w fun e w' => e = .returned (.bool true) ∧ Below w.heap.size w w' := by
  have HA := Lib.hid hA
  have HD := Lib.hid hd
  clear hA hd
  go_enter Try.func8, Try.ntmps8
  go_wp2_with fail
  refine (encode_c m k M W P c i q g a _).mono ?_
  rintro e w1 ⟨A1, n1, rfl, hy, hn, hA1, hb⟩
  rw [hp, if_pos rfl] at hy
  have B1 := Lib.hid (show Below w.heap.size w w1 from ((Below.refl w.heap.size w).alloc (Nat.le_refl _) _).trans (hb.mono (by simp)))
  have Yb1 := Lib.hid (HA.out.keep B1.out)
  have c0 : w1.cell? ⟨w.heap.size, 0, none⟩ = some (.int .i64 m) := bcell_keep (w := (w.alloc (.cells #[.int .i64 m, .int .i64 k, .bool M, .bool W, .bool P, .int .i64 c, .int .i64 i, .int .i64 q, .int .i64 g, .int .i64 a] 23))) (by first | assumption | simp) hb
  have c1 : w1.cell? ⟨w.heap.size, 1, none⟩ = some (.int .i64 k) := bcell_keep (w := (w.alloc (.cells #[.int .i64 m, .int .i64 k, .bool M, .bool W, .bool P, .int .i64 c, .int .i64 i, .int .i64 q, .int .i64 g, .int .i64 a] 23))) (by first | assumption | simp) hb
  have c2 : w1.cell? ⟨w.heap.size, 2, none⟩ = some (.bool M) := bcell_keep (w := (w.alloc (.cells #[.int .i64 m, .int .i64 k, .bool M, .bool W, .bool P, .int .i64 c, .int .i64 i, .int .i64 q, .int .i64 g, .int .i64 a] 23))) (by first | assumption | simp) hb
  have c3 : w1.cell? ⟨w.heap.size, 3, none⟩ = some (.bool W) := bcell_keep (w := (w.alloc (.cells #[.int .i64 m, .int .i64 k, .bool M, .bool W, .bool P, .int .i64 c, .int .i64 i, .int .i64 q, .int .i64 g, .int .i64 a] 23))) (by first | assumption | simp) hb
  have c4 : w1.cell? ⟨w.heap.size, 4, none⟩ = some (.bool P) := bcell_keep (w := (w.alloc (.cells #[.int .i64 m, .int .i64 k, .bool M, .bool W, .bool P, .int .i64 c, .int .i64 i, .int .i64 q, .int .i64 g, .int .i64 a] 23))) (by first | assumption | simp) hb
  have c5 : w1.cell? ⟨w.heap.size, 5, none⟩ = some (.int .i64 c) := bcell_keep (w := (w.alloc (.cells #[.int .i64 m, .int .i64 k, .bool M, .bool W, .bool P, .int .i64 c, .int .i64 i, .int .i64 q, .int .i64 g, .int .i64 a] 23))) (by first | assumption | simp) hb
  have c6 : w1.cell? ⟨w.heap.size, 6, none⟩ = some (.int .i64 i) := bcell_keep (w := (w.alloc (.cells #[.int .i64 m, .int .i64 k, .bool M, .bool W, .bool P, .int .i64 c, .int .i64 i, .int .i64 q, .int .i64 g, .int .i64 a] 23))) (by first | assumption | simp) hb
  have c7 : w1.cell? ⟨w.heap.size, 7, none⟩ = some (.int .i64 q) := bcell_keep (w := (w.alloc (.cells #[.int .i64 m, .int .i64 k, .bool M, .bool W, .bool P, .int .i64 c, .int .i64 i, .int .i64 q, .int .i64 g, .int .i64 a] 23))) (by first | assumption | simp) hb
  have c8 : w1.cell? ⟨w.heap.size, 8, none⟩ = some (.int .i64 g) := bcell_keep (w := (w.alloc (.cells #[.int .i64 m, .int .i64 k, .bool M, .bool W, .bool P, .int .i64 c, .int .i64 i, .int .i64 q, .int .i64 g, .int .i64 a] 23))) (by first | assumption | simp) hb
  have c9 : w1.cell? ⟨w.heap.size, 9, none⟩ = some (.int .i64 a) := bcell_keep (w := (w.alloc (.cells #[.int .i64 m, .int .i64 k, .bool M, .bool W, .bool P, .int .i64 c, .int .i64 i, .int .i64 q, .int .i64 g, .int .i64 a] 23))) (by first | assumption | simp) hb
  have Yc := Lib.hid hy
  clear hb hy hA1
  rw [hp]
  go_wp2_with fail
  refine (valid_c m k M W P c i q g a _).mono ?_
  rintro e w2 ⟨rfl, hb⟩
  have B2 := Lib.hid (B1.out.trans (hb.mono B1.out.size))
  have Yb2 := Lib.hid (Yb1.out.keep hb)
  have Yc2 := Lib.hid (Yc.out.keep hb)
  have d0 : w2.cell? ⟨w.heap.size, 0, none⟩ = some (.int .i64 m) := bcell_keep (w := w1) (c0) hb
  have d1 : w2.cell? ⟨w.heap.size, 1, none⟩ = some (.int .i64 k) := bcell_keep (w := w1) (c1) hb
  have d2 : w2.cell? ⟨w.heap.size, 2, none⟩ = some (.bool M) := bcell_keep (w := w1) (c2) hb
  have d3 : w2.cell? ⟨w.heap.size, 3, none⟩ = some (.bool W) := bcell_keep (w := w1) (c3) hb
  have d4 : w2.cell? ⟨w.heap.size, 4, none⟩ = some (.bool P) := bcell_keep (w := w1) (c4) hb
  have d5 : w2.cell? ⟨w.heap.size, 5, none⟩ = some (.int .i64 c) := bcell_keep (w := w1) (c5) hb
  have d6 : w2.cell? ⟨w.heap.size, 6, none⟩ = some (.int .i64 i) := bcell_keep (w := w1) (c6) hb
  have d7 : w2.cell? ⟨w.heap.size, 7, none⟩ = some (.int .i64 q) := bcell_keep (w := w1) (c7) hb
  have d8 : w2.cell? ⟨w.heap.size, 8, none⟩ = some (.int .i64 g) := bcell_keep (w := w1) (c8) hb
  have d9 : w2.cell? ⟨w.heap.size, 9, none⟩ = some (.int .i64 a) := bcell_keep (w := w1) (c9) hb
  clear c0 c1 c2 c3 c4 c5 c6 c7 c8 c9
  clear hb
  rw [hp]
  go_wp2_with fail
  have hn8 : n1 = 8 := by rw [← Yc2.out.1]; rfl
  subst hn8
  refine (decode_enc A1 8 8 m k M W P c i q g a _ hp Yc2.out).mono ?_
  rintro e w3 ⟨rfl, hb⟩
  have B3 := Lib.hid (B2.out.trans (hb.mono B2.out.size))
  have Yb3 := Lib.hid (Yb2.out.keep hb)
  have e0 : w3.cell? ⟨w.heap.size, 0, none⟩ = some (.int .i64 m) := bcell_keep (w := w2) (d0) hb
  have e1 : w3.cell? ⟨w.heap.size, 1, none⟩ = some (.int .i64 k) := bcell_keep (w := w2) (d1) hb
  have e2 : w3.cell? ⟨w.heap.size, 2, none⟩ = some (.bool M) := bcell_keep (w := w2) (d2) hb
  have e3 : w3.cell? ⟨w.heap.size, 3, none⟩ = some (.bool W) := bcell_keep (w := w2) (d3) hb
  have e4 : w3.cell? ⟨w.heap.size, 4, none⟩ = some (.bool P) := bcell_keep (w := w2) (d4) hb
  have e5 : w3.cell? ⟨w.heap.size, 5, none⟩ = some (.int .i64 c) := bcell_keep (w := w2) (d5) hb
  have e6 : w3.cell? ⟨w.heap.size, 6, none⟩ = some (.int .i64 i) := bcell_keep (w := w2) (d6) hb
  have e7 : w3.cell? ⟨w.heap.size, 7, none⟩ = some (.int .i64 q) := bcell_keep (w := w2) (d7) hb
  have e8 : w3.cell? ⟨w.heap.size, 8, none⟩ = some (.int .i64 g) := bcell_keep (w := w2) (d8) hb
  have e9 : w3.cell? ⟨w.heap.size, 9, none⟩ = some (.int .i64 a) := bcell_keep (w := w2) (d9) hb
  clear d0 d1 d2 d3 d4 d5 d6 d7 d8 d9
  have hz := cell_ltB e0
  clear hb
  go_wp2_with fail
  have B4 := Lib.hid (B3.out.alloc B3.out.size (.cells #[.int .i64 m, .int .i64 k, .bool M, .bool W, .bool P, .int .i64 c, .int .i64 i, .int .i64 q, .int .i64 g, .int .i64 a] 23))
  have Yb4 := Lib.hid (Yb3.out.keep ((Below.refl w3.heap.size w3).alloc (Nat.le_refl _) (.cells #[.int .i64 m, .int .i64 k, .bool M, .bool W, .bool P, .int .i64 c, .int .i64 i, .int .i64 q, .int .i64 g, .int .i64 a] 23)))
  refine (decode_c_no A len cap zs _ Yb4.out (by omega) HD.out).mono ?_
  rintro e w5 ⟨rfl, hb⟩
  have B5 := Lib.hid (B4.out.trans (hb.mono B4.out.size))
  have Yb5 := Lib.hid (Yb4.out.keep hb)
  clear hb
  go_wp2_with fail
  have B6 := Lib.hid (B5.out.alloc B5.out.size (.cells #[.int .i64 0, .int .i64 0, .bool false, .bool false, .bool false, .int .i64 0, .int .i64 0, .int .i64 0, .int .i64 0, .int .i64 0] 23))
  have Yb6 := Lib.hid (Yb5.out.keep ((Below.refl w5.heap.size w5).alloc (Nat.le_refl _) (.cells #[.int .i64 0, .int .i64 0, .bool false, .bool false, .bool false, .int .i64 0, .int .i64 0, .int .i64 0, .int .i64 0, .int .i64 0] 23)))
  refine (works_c _).mono ?_
  rintro e w9 ⟨rfl, hb⟩
  have B9 := Lib.hid (B6.out.trans (hb.mono B6.out.size))
  clear hb
  go_wp2_with fail
  go_ret
  exact ⟨rfl, B9.out⟩

set_option maxRecDepth 100000 in
set_option maxHeartbeats 4000000 in
theorem pswInverse_ny (m k : Int) (M W P : Bool) (c i q g a : Int) (A : Option Addr) (len cap : Nat) (x0 x1 x2 x3 x4 x5 x6 x7 : Int) (w : World) (hA : Byt w A len [x0, x1, x2, x3, x4, x5, x6, x7]) (hl : len ≤ 1000) (hp : pok m k c i q g a = false) (hd : pdok len [x0, x1, x2, x3, x4, x5, x6, x7] = true) :
    Calls Try.prog 8 #[.agg #[.int .i64 m, .int .i64 k, .bool M, .bool W, .bool P, .int .i64 c, .int .i64 i, .int .i64 q, .int .i64 g, .int .i64 a], .slice A len cap] w fun e w' => e = .returned (.bool true) ∧ Below w.heap.size w w' := by
  have HA := Lib.hid hA
  have HD := Lib.hid hd
  clear hA hd
  have r0 := HA.out.2.1 x0 (by simp)
  have r1 := HA.out.2.1 x1 (by simp)
  have r2 := HA.out.2.1 x2 (by simp)
  have r3 := HA.out.2.1 x3 (by simp)
  have r4 := HA.out.2.1 x4 (by simp)
  have r5 := HA.out.2.1 x5 (by simp)
  have r6 := HA.out.2.1 x6 (by simp)
  have r7 := HA.out.2.1 x7 (by simp)
  have hx : x1 / 8 % 2 = 0 := by have h := of_decide_eq_true HD.out; exact h.2
  obtain ⟨z1, z2⟩ := dec_enc x0 x1 x2 x3 x4 x5 x6 x7 r0.1 r0.2 r1.1 r1.2 r2.1 r2.2 r3.1 r3.2 r4.1 r4.2 r5.1 r5.2 r6.1 r6.2 r7.1 r7.2 hx
  have Z1 := Lib.hid z1
  have Z2 := Lib.hid z2
  clear z1 z2 hx
  go_enter Try.func8, Try.ntmps8
  go_wp2_with fail
  refine (encode_c m k M W P c i q g a _).mono ?_
  rintro e w1 ⟨A1, n1, rfl, hy, hn, hA1, hb⟩
  rw [hp, if_neg (by decide)] at hy
  have B1 := Lib.hid (show Below w.heap.size w w1 from ((Below.refl w.heap.size w).alloc (Nat.le_refl _) _).trans (hb.mono (by simp)))
  have Yb1 := Lib.hid (HA.out.keep B1.out)
  have c0 : w1.cell? ⟨w.heap.size, 0, none⟩ = some (.int .i64 m) := bcell_keep (w := (w.alloc (.cells #[.int .i64 m, .int .i64 k, .bool M, .bool W, .bool P, .int .i64 c, .int .i64 i, .int .i64 q, .int .i64 g, .int .i64 a] 23))) (by first | assumption | simp) hb
  have c1 : w1.cell? ⟨w.heap.size, 1, none⟩ = some (.int .i64 k) := bcell_keep (w := (w.alloc (.cells #[.int .i64 m, .int .i64 k, .bool M, .bool W, .bool P, .int .i64 c, .int .i64 i, .int .i64 q, .int .i64 g, .int .i64 a] 23))) (by first | assumption | simp) hb
  have c2 : w1.cell? ⟨w.heap.size, 2, none⟩ = some (.bool M) := bcell_keep (w := (w.alloc (.cells #[.int .i64 m, .int .i64 k, .bool M, .bool W, .bool P, .int .i64 c, .int .i64 i, .int .i64 q, .int .i64 g, .int .i64 a] 23))) (by first | assumption | simp) hb
  have c3 : w1.cell? ⟨w.heap.size, 3, none⟩ = some (.bool W) := bcell_keep (w := (w.alloc (.cells #[.int .i64 m, .int .i64 k, .bool M, .bool W, .bool P, .int .i64 c, .int .i64 i, .int .i64 q, .int .i64 g, .int .i64 a] 23))) (by first | assumption | simp) hb
  have c4 : w1.cell? ⟨w.heap.size, 4, none⟩ = some (.bool P) := bcell_keep (w := (w.alloc (.cells #[.int .i64 m, .int .i64 k, .bool M, .bool W, .bool P, .int .i64 c, .int .i64 i, .int .i64 q, .int .i64 g, .int .i64 a] 23))) (by first | assumption | simp) hb
  have c5 : w1.cell? ⟨w.heap.size, 5, none⟩ = some (.int .i64 c) := bcell_keep (w := (w.alloc (.cells #[.int .i64 m, .int .i64 k, .bool M, .bool W, .bool P, .int .i64 c, .int .i64 i, .int .i64 q, .int .i64 g, .int .i64 a] 23))) (by first | assumption | simp) hb
  have c6 : w1.cell? ⟨w.heap.size, 6, none⟩ = some (.int .i64 i) := bcell_keep (w := (w.alloc (.cells #[.int .i64 m, .int .i64 k, .bool M, .bool W, .bool P, .int .i64 c, .int .i64 i, .int .i64 q, .int .i64 g, .int .i64 a] 23))) (by first | assumption | simp) hb
  have c7 : w1.cell? ⟨w.heap.size, 7, none⟩ = some (.int .i64 q) := bcell_keep (w := (w.alloc (.cells #[.int .i64 m, .int .i64 k, .bool M, .bool W, .bool P, .int .i64 c, .int .i64 i, .int .i64 q, .int .i64 g, .int .i64 a] 23))) (by first | assumption | simp) hb
  have c8 : w1.cell? ⟨w.heap.size, 8, none⟩ = some (.int .i64 g) := bcell_keep (w := (w.alloc (.cells #[.int .i64 m, .int .i64 k, .bool M, .bool W, .bool P, .int .i64 c, .int .i64 i, .int .i64 q, .int .i64 g, .int .i64 a] 23))) (by first | assumption | simp) hb
  have c9 : w1.cell? ⟨w.heap.size, 9, none⟩ = some (.int .i64 a) := bcell_keep (w := (w.alloc (.cells #[.int .i64 m, .int .i64 k, .bool M, .bool W, .bool P, .int .i64 c, .int .i64 i, .int .i64 q, .int .i64 g, .int .i64 a] 23))) (by first | assumption | simp) hb
  have Yc := Lib.hid hy
  clear hb hy hA1
  rw [hp]
  go_wp2_with fail
  refine (valid_c m k M W P c i q g a _).mono ?_
  rintro e w2 ⟨rfl, hb⟩
  have B2 := Lib.hid (B1.out.trans (hb.mono B1.out.size))
  have Yb2 := Lib.hid (Yb1.out.keep hb)
  have Yc2 := Lib.hid (Yc.out.keep hb)
  have d0 : w2.cell? ⟨w.heap.size, 0, none⟩ = some (.int .i64 m) := bcell_keep (w := w1) (c0) hb
  have d1 : w2.cell? ⟨w.heap.size, 1, none⟩ = some (.int .i64 k) := bcell_keep (w := w1) (c1) hb
  have d2 : w2.cell? ⟨w.heap.size, 2, none⟩ = some (.bool M) := bcell_keep (w := w1) (c2) hb
  have d3 : w2.cell? ⟨w.heap.size, 3, none⟩ = some (.bool W) := bcell_keep (w := w1) (c3) hb
  have d4 : w2.cell? ⟨w.heap.size, 4, none⟩ = some (.bool P) := bcell_keep (w := w1) (c4) hb
  have d5 : w2.cell? ⟨w.heap.size, 5, none⟩ = some (.int .i64 c) := bcell_keep (w := w1) (c5) hb
  have d6 : w2.cell? ⟨w.heap.size, 6, none⟩ = some (.int .i64 i) := bcell_keep (w := w1) (c6) hb
  have d7 : w2.cell? ⟨w.heap.size, 7, none⟩ = some (.int .i64 q) := bcell_keep (w := w1) (c7) hb
  have d8 : w2.cell? ⟨w.heap.size, 8, none⟩ = some (.int .i64 g) := bcell_keep (w := w1) (c8) hb
  have d9 : w2.cell? ⟨w.heap.size, 9, none⟩ = some (.int .i64 a) := bcell_keep (w := w1) (c9) hb
  clear c0 c1 c2 c3 c4 c5 c6 c7 c8 c9
  clear hb
  rw [hp]
  go_wp2_with fail
  refine (decode_x A len cap [x0, x1, x2, x3, x4, x5, x6, x7] _ Yb2.out (by omega) HD.out x0 x1 x2 x3 x4 x5 x6 x7 ⟨rfl, rfl, rfl, rfl, rfl, rfl, rfl, rfl⟩).mono ?_
  rintro e w5 ⟨rfl, hb⟩
  have B5 := Lib.hid (B2.out.trans (hb.mono B2.out.size))
  have Yb5 := Lib.hid (Yb2.out.keep hb)
  clear hb
  go_wp2_with fail
  have B6 := Lib.hid (B5.out.alloc B5.out.size (.cells #[.int .i64 x0, .int .i64 (x1 / 16), .bool (decide (x1 / 4 % 2 = 1)), .bool (decide (x1 / 2 % 2 = 1)), .bool (decide (x1 % 2 = 1)), .int .i64 (256 * x2 + x3), .int .i64 (x4 / 64), .int .i64 (x4 / 16 % 4), .int .i64 (x4 % 16), .int .i64 (65536 * x5 + 256 * x6 + x7)] 23))
  have Yb6 := Lib.hid (Yb5.out.keep ((Below.refl w5.heap.size w5).alloc (Nat.le_refl _) (.cells #[.int .i64 x0, .int .i64 (x1 / 16), .bool (decide (x1 / 4 % 2 = 1)), .bool (decide (x1 / 2 % 2 = 1)), .bool (decide (x1 % 2 = 1)), .int .i64 (256 * x2 + x3), .int .i64 (x4 / 64), .int .i64 (x4 / 16 % 4), .int .i64 (x4 % 16), .int .i64 (65536 * x5 + 256 * x6 + x7)] 23)))
  refine (encode_c x0 (x1 / 16) (decide (x1 / 4 % 2 = 1)) (decide (x1 / 2 % 2 = 1)) (decide (x1 % 2 = 1)) (256 * x2 + x3) (x4 / 64) (x4 / 16 % 4) (x4 % 16) (65536 * x5 + 256 * x6 + x7) _).mono ?_
  rintro e w7 ⟨A2, n2, rfl, hy, hn2, hA2, hb⟩
  rw [Z1.out, if_pos rfl, Z2.out] at hy
  rw [Z1.out]
  have B7 := Lib.hid (B6.out.trans (hb.mono B6.out.size))
  have Yd := Lib.hid hy
  have Yb7 := Lib.hid (Yb6.out.keep hb)
  clear hb hy hA2
  go_wp2_with fail
  refine (same_c A2 n2 n2 [x0, x1, x2, x3, x4, x5, x6, x7] A len cap [x0, x1, x2, x3, x4, x5, x6, x7] _ Yd.out Yb7.out (by omega) (by omega)).mono ?_
  rintro e w8 ⟨rfl, n8, rfl⟩
  rw [show decide (([x0, x1, x2, x3, x4, x5, x6, x7] : List Int) = [x0, x1, x2, x3, x4, x5, x6, x7]) = true from by simp]
  have B8 := Lib.hid (dBelow B7.out n8)
  go_wp2_with fail
  refine (works_c _).mono ?_
  rintro e w9 ⟨rfl, hb⟩
  have B9 := Lib.hid (B8.out.trans (hb.mono B8.out.size))
  clear hb
  go_wp2_with fail
  go_ret
  exact ⟨rfl, B9.out⟩

set_option maxRecDepth 100000 in
set_option maxHeartbeats 4000000 in
theorem pswInverse_nn (m k : Int) (M W P : Bool) (c i q g a : Int) (A : Option Addr) (len cap : Nat) (zs : List Int) (w : World) (hA : Byt w A len zs) (hl : len ≤ 1000) (hp : pok m k c i q g a = false) (hd : pdok len zs = false) :
    Calls Try.prog 8 #[.agg #[.int .i64 m, .int .i64 k, .bool M, .bool W, .bool P, .int .i64 c, .int .i64 i, .int .i64 q, .int .i64 g, .int .i64 a], .slice A len cap] w fun e w' => e = .returned (.bool true) ∧ Below w.heap.size w w' := by
  have HA := Lib.hid hA
  have HD := Lib.hid hd
  clear hA hd
  go_enter Try.func8, Try.ntmps8
  go_wp2_with fail
  refine (encode_c m k M W P c i q g a _).mono ?_
  rintro e w1 ⟨A1, n1, rfl, hy, hn, hA1, hb⟩
  rw [hp, if_neg (by decide)] at hy
  have B1 := Lib.hid (show Below w.heap.size w w1 from ((Below.refl w.heap.size w).alloc (Nat.le_refl _) _).trans (hb.mono (by simp)))
  have Yb1 := Lib.hid (HA.out.keep B1.out)
  have c0 : w1.cell? ⟨w.heap.size, 0, none⟩ = some (.int .i64 m) := bcell_keep (w := (w.alloc (.cells #[.int .i64 m, .int .i64 k, .bool M, .bool W, .bool P, .int .i64 c, .int .i64 i, .int .i64 q, .int .i64 g, .int .i64 a] 23))) (by first | assumption | simp) hb
  have c1 : w1.cell? ⟨w.heap.size, 1, none⟩ = some (.int .i64 k) := bcell_keep (w := (w.alloc (.cells #[.int .i64 m, .int .i64 k, .bool M, .bool W, .bool P, .int .i64 c, .int .i64 i, .int .i64 q, .int .i64 g, .int .i64 a] 23))) (by first | assumption | simp) hb
  have c2 : w1.cell? ⟨w.heap.size, 2, none⟩ = some (.bool M) := bcell_keep (w := (w.alloc (.cells #[.int .i64 m, .int .i64 k, .bool M, .bool W, .bool P, .int .i64 c, .int .i64 i, .int .i64 q, .int .i64 g, .int .i64 a] 23))) (by first | assumption | simp) hb
  have c3 : w1.cell? ⟨w.heap.size, 3, none⟩ = some (.bool W) := bcell_keep (w := (w.alloc (.cells #[.int .i64 m, .int .i64 k, .bool M, .bool W, .bool P, .int .i64 c, .int .i64 i, .int .i64 q, .int .i64 g, .int .i64 a] 23))) (by first | assumption | simp) hb
  have c4 : w1.cell? ⟨w.heap.size, 4, none⟩ = some (.bool P) := bcell_keep (w := (w.alloc (.cells #[.int .i64 m, .int .i64 k, .bool M, .bool W, .bool P, .int .i64 c, .int .i64 i, .int .i64 q, .int .i64 g, .int .i64 a] 23))) (by first | assumption | simp) hb
  have c5 : w1.cell? ⟨w.heap.size, 5, none⟩ = some (.int .i64 c) := bcell_keep (w := (w.alloc (.cells #[.int .i64 m, .int .i64 k, .bool M, .bool W, .bool P, .int .i64 c, .int .i64 i, .int .i64 q, .int .i64 g, .int .i64 a] 23))) (by first | assumption | simp) hb
  have c6 : w1.cell? ⟨w.heap.size, 6, none⟩ = some (.int .i64 i) := bcell_keep (w := (w.alloc (.cells #[.int .i64 m, .int .i64 k, .bool M, .bool W, .bool P, .int .i64 c, .int .i64 i, .int .i64 q, .int .i64 g, .int .i64 a] 23))) (by first | assumption | simp) hb
  have c7 : w1.cell? ⟨w.heap.size, 7, none⟩ = some (.int .i64 q) := bcell_keep (w := (w.alloc (.cells #[.int .i64 m, .int .i64 k, .bool M, .bool W, .bool P, .int .i64 c, .int .i64 i, .int .i64 q, .int .i64 g, .int .i64 a] 23))) (by first | assumption | simp) hb
  have c8 : w1.cell? ⟨w.heap.size, 8, none⟩ = some (.int .i64 g) := bcell_keep (w := (w.alloc (.cells #[.int .i64 m, .int .i64 k, .bool M, .bool W, .bool P, .int .i64 c, .int .i64 i, .int .i64 q, .int .i64 g, .int .i64 a] 23))) (by first | assumption | simp) hb
  have c9 : w1.cell? ⟨w.heap.size, 9, none⟩ = some (.int .i64 a) := bcell_keep (w := (w.alloc (.cells #[.int .i64 m, .int .i64 k, .bool M, .bool W, .bool P, .int .i64 c, .int .i64 i, .int .i64 q, .int .i64 g, .int .i64 a] 23))) (by first | assumption | simp) hb
  have Yc := Lib.hid hy
  clear hb hy hA1
  rw [hp]
  go_wp2_with fail
  refine (valid_c m k M W P c i q g a _).mono ?_
  rintro e w2 ⟨rfl, hb⟩
  have B2 := Lib.hid (B1.out.trans (hb.mono B1.out.size))
  have Yb2 := Lib.hid (Yb1.out.keep hb)
  have Yc2 := Lib.hid (Yc.out.keep hb)
  have d0 : w2.cell? ⟨w.heap.size, 0, none⟩ = some (.int .i64 m) := bcell_keep (w := w1) (c0) hb
  have d1 : w2.cell? ⟨w.heap.size, 1, none⟩ = some (.int .i64 k) := bcell_keep (w := w1) (c1) hb
  have d2 : w2.cell? ⟨w.heap.size, 2, none⟩ = some (.bool M) := bcell_keep (w := w1) (c2) hb
  have d3 : w2.cell? ⟨w.heap.size, 3, none⟩ = some (.bool W) := bcell_keep (w := w1) (c3) hb
  have d4 : w2.cell? ⟨w.heap.size, 4, none⟩ = some (.bool P) := bcell_keep (w := w1) (c4) hb
  have d5 : w2.cell? ⟨w.heap.size, 5, none⟩ = some (.int .i64 c) := bcell_keep (w := w1) (c5) hb
  have d6 : w2.cell? ⟨w.heap.size, 6, none⟩ = some (.int .i64 i) := bcell_keep (w := w1) (c6) hb
  have d7 : w2.cell? ⟨w.heap.size, 7, none⟩ = some (.int .i64 q) := bcell_keep (w := w1) (c7) hb
  have d8 : w2.cell? ⟨w.heap.size, 8, none⟩ = some (.int .i64 g) := bcell_keep (w := w1) (c8) hb
  have d9 : w2.cell? ⟨w.heap.size, 9, none⟩ = some (.int .i64 a) := bcell_keep (w := w1) (c9) hb
  clear c0 c1 c2 c3 c4 c5 c6 c7 c8 c9
  clear hb
  rw [hp]
  go_wp2_with fail
  refine (decode_c_no A len cap zs _ Yb2.out (by omega) HD.out).mono ?_
  rintro e w5 ⟨rfl, hb⟩
  have B5 := Lib.hid (B2.out.trans (hb.mono B2.out.size))
  have Yb5 := Lib.hid (Yb2.out.keep hb)
  clear hb
  go_wp2_with fail
  have B6 := Lib.hid (B5.out.alloc B5.out.size (.cells #[.int .i64 0, .int .i64 0, .bool false, .bool false, .bool false, .int .i64 0, .int .i64 0, .int .i64 0, .int .i64 0, .int .i64 0] 23))
  have Yb6 := Lib.hid (Yb5.out.keep ((Below.refl w5.heap.size w5).alloc (Nat.le_refl _) (.cells #[.int .i64 0, .int .i64 0, .bool false, .bool false, .bool false, .int .i64 0, .int .i64 0, .int .i64 0, .int .i64 0, .int .i64 0] 23)))
  refine (works_c _).mono ?_
  rintro e w9 ⟨rfl, hb⟩
  have B9 := Lib.hid (B6.out.trans (hb.mono B6.out.size))
  clear hb
  go_wp2_with fail
  go_ret
  exact ⟨rfl, B9.out⟩


theorem pswInverse_walk (m : Int) (k : Int) (M : Bool) (W : Bool) (P : Bool) (c : Int) (i : Int) (q : Int) (g : Int) (a : Int) (a1 : Option Addr) (len1 cap1 : Nat) (z1 : List Int) (w : World) (w0_0 : (Lit.int .i64 m).wf = true) (w0_1 : (Lit.int .i64 k).wf = true) (w0_5 : (Lit.int .i64 c).wf = true) (w0_6 : (Lit.int .i64 i).wf = true) (w0_7 : (Lit.int .i64 q).wf = true) (w0_8 : (Lit.int .i64 g).wf = true) (w0_9 : (Lit.int .i64 a).wf = true) (w1 : IsRow .u8 w a1 len1 cap1 z1) :
    Calls Try.prog 8 #[.agg #[.int .i64 m, .int .i64 k, .bool M, .bool W, .bool P, .int .i64 c, .int .i64 i, .int .i64 q, .int .i64 g, .int .i64 a], .slice a1 len1 cap1] w fun e w' => e = .returned (.bool true) ∧ Below w.heap.size w w' := by
  obtain ⟨hby, hnil, hlc, hcm⟩ := row_byt w1
  generalize z1.take len1 = zs at hby
  unfold maxLen at hcm
  by_cases hl : len1 ≤ 1000
  · cases hp : pok m k c i q g a
    · cases hd : pdok len1 zs
      · exact pswInverse_nn m k M W P c i q g a a1 len1 cap1 zs w hby hl hp hd
      · obtain ⟨x0, x1, x2, x3, x4, x5, x6, x7, rfl⟩ := list8 zs (by have h := of_decide_eq_true hd; rw [hby.1]; exact h.1)
        exact pswInverse_ny m k M W P c i q g a a1 len1 cap1 x0 x1 x2 x3 x4 x5 x6 x7 w hby hl hp hd
    · cases hd : pdok len1 zs
      · exact pswInverse_yn m k M W P c i q g a a1 len1 cap1 zs w hby hl hp hd
      · obtain ⟨x0, x1, x2, x3, x4, x5, x6, x7, rfl⟩ := list8 zs (by have h := of_decide_eq_true hd; rw [hby.1]; exact h.1)
        exact pswInverse_yy m k M W P c i q g a a1 len1 cap1 x0 x1 x2 x3 x4 x5 x6 x7 w hby hl hp hd
  · have hL : (1000 : Int) < (len1 : Int) := by omega
    clear hl hby hnil w1
    go_enter Try.func8, Try.ntmps8
    go_wp2
    go_ret
    exact ⟨rfl, (Below.refl _ _).alloc (Nat.le_refl _) _⟩
end Go.Proofs.Ytfjnmlklpebfcaa
