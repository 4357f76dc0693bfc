/- CONTRACT of the reference's Decode, over Own's. Conditions: the slice reads as bytes. -/
import Derived.Test.YtfbcjpbfggbhfaaIsDA
import Derived.Test.YtfbcjpbfggbhfaaIsDB
import Derived.Test.YtfbcjpbfggbhfaaIsDC
import Derived.Test.YtfbcjpbfggbhfaaIsDD
import Derived.Test.YtfbcjpbfggbhfaaIsO7
import Derived.Test.YtfbcjpbfggbhfaaIsO3
import Derived.Test.YtfbcjpbfggbhfaaIsO9
import Derived.Test.YtfbcjpbfggbhfaaIsO5
import Derived.Test.YtfbcjpbfggbhfaaIsO6
import Derived.Test.YtfbcjpbfggbhfaaIsR1
import Derived.Test.YtfbcjpbfggbhfaaKp
import Derived.Deep.Cut
import Derived.BigRegion
namespace Go.Proofs.Ytfbcjpbfggbhfaa
open Go.RowKit
set_option linter.unusedVariables false
set_option linter.unusedSimpArgs false
set_option maxRecDepth 1000000 in
set_option maxHeartbeats 4000000 in
theorem rdec_nil (A : Option Addr) (cap : Nat) (w : World) : Calls Try.prog 21 #[.slice A 0 cap] w fun e w' => e = .returned (.tuple #[.agg #[.int .i64 0, .int .i64 0, .int .i64 0, .int .i64 0, .int .i64 0, .int .i64 0, .int .i64 0, .int .i64 0, .int .i64 0, .int .i64 0, .int .i64 0, .int .i64 0], .bool false]) ∧ Below w.heap.size w w' := by
  go_enter Try.func21, Try.ntmps21
  have BZ := Lib.hid (show Blk (w.alloc (.cells #[.int .i64 0, .int .i64 0, .int .i64 0, .int .i64 0, .int .i64 0, .int .i64 0, .int .i64 0, .int .i64 0, .int .i64 0, .int .i64 0, .int .i64 0, .int .i64 0] 28)) w.heap.size 28 [0, 0, 0, 0, 0, 0, 0, 0, 0, 0, 0, 0] from heap_alloc_new w _)
  have HB0 := Lib.hid ((Below.refl w.heap.size w).alloc (Nat.le_refl _) (.cells #[.int .i64 0, .int .i64 0, .int .i64 0, .int .i64 0, .int .i64 0, .int .i64 0, .int .i64 0, .int .i64 0, .int .i64 0, .int .i64 0, .int .i64 0, .int .i64 0] 28))
  obtain ⟨WX, hWX⟩ : ∃ WX, w.alloc (.cells #[.int .i64 0, .int .i64 0, .int .i64 0, .int .i64 0, .int .i64 0, .int .i64 0, .int .i64 0, .int .i64 0, .int .i64 0, .int .i64 0, .int .i64 0, .int .i64 0] 28) = WX := ⟨_, rfl⟩
  have BZX := Lib.hid (show Blk WX w.heap.size 28 [0, 0, 0, 0, 0, 0, 0, 0, 0, 0, 0, 0] from hWX ▸ BZ.out)
  have HBX := Lib.hid (show Below w.heap.size w WX from hWX ▸ HB0.out)
  clear BZ HB0
  go_upto_region 1 with fail
  try rw [hWX]
  clear hWX
  have e20 : WX.cell? ⟨w.heap.size, 0, none⟩ = some (.int .i64 0) := BZX.out.cell (c := 0) (by simp)
  have g20 := BZX.out.free 0
  have e21 : WX.cell? ⟨w.heap.size, 1, none⟩ = some (.int .i64 0) := BZX.out.cell (c := 1) (by simp)
  have g21 := BZX.out.free 1
  have e22 : WX.cell? ⟨w.heap.size, 2, none⟩ = some (.int .i64 0) := BZX.out.cell (c := 2) (by simp)
  have g22 := BZX.out.free 2
  have e23 : WX.cell? ⟨w.heap.size, 3, none⟩ = some (.int .i64 0) := BZX.out.cell (c := 3) (by simp)
  have g23 := BZX.out.free 3
  have e24 : WX.cell? ⟨w.heap.size, 4, none⟩ = some (.int .i64 0) := BZX.out.cell (c := 4) (by simp)
  have g24 := BZX.out.free 4
  have e25 : WX.cell? ⟨w.heap.size, 5, none⟩ = some (.int .i64 0) := BZX.out.cell (c := 5) (by simp)
  have g25 := BZX.out.free 5
  have e26 : WX.cell? ⟨w.heap.size, 6, none⟩ = some (.int .i64 0) := BZX.out.cell (c := 6) (by simp)
  have g26 := BZX.out.free 6
  have e27 : WX.cell? ⟨w.heap.size, 7, none⟩ = some (.int .i64 0) := BZX.out.cell (c := 7) (by simp)
  have g27 := BZX.out.free 7
  have e28 : WX.cell? ⟨w.heap.size, 8, none⟩ = some (.int .i64 0) := BZX.out.cell (c := 8) (by simp)
  have g28 := BZX.out.free 8
  have e29 : WX.cell? ⟨w.heap.size, 9, none⟩ = some (.int .i64 0) := BZX.out.cell (c := 9) (by simp)
  have g29 := BZX.out.free 9
  have e30 : WX.cell? ⟨w.heap.size, 10, none⟩ = some (.int .i64 0) := BZX.out.cell (c := 10) (by simp)
  have g30 := BZX.out.free 10
  have e31 : WX.cell? ⟨w.heap.size, 11, none⟩ = some (.int .i64 0) := BZX.out.cell (c := 11) (by simp)
  have g31 := BZX.out.free 11
  go_wp2
  refine bodyPost_ret (res_cell_tmp Try.results21 _ _ w.heap.size _ 28 _ rfl rfl (blk_sets12 BZX.out rfl 0 0 0 0 0 0 0 0 0 0 0 0) Try.underlying28 rfl (by kernel_rfl)) rfl ?_
  exact ⟨rfl, below_sets12 HBX.out (Nat.le_refl _) 0 0 0 0 0 0 0 0 0 0 0 0⟩
set_option maxRecDepth 1000000 in
set_option maxHeartbeats 4000000 in
theorem rdec_notop (bb off len cap : Nat) (z0 n : Int) (zs : List Int) (w : World) (hy : Byt w (some ⟨bb, off, none⟩) len zs) (hl : (len : Int) ≤ 9223372036854775807) (hlen : 0 < len) (hz : zs.getD 0 0 = z0) (hi : isOp z0 = false) : Calls Try.prog 21 #[.slice (some ⟨bb, off, none⟩) len cap] w fun e w' => e = .returned (.tuple #[.agg #[.int .i64 0, .int .i64 0, .int .i64 0, .int .i64 0, .int .i64 0, .int .i64 0, .int .i64 0, .int .i64 0, .int .i64 0, .int .i64 0, .int .i64 0, .int .i64 0], .bool false]) ∧ Below w.heap.size w w' := by
  obtain ⟨bb', off', e, hc⟩ := hy.at_ hlen
  cases e
  have hr0 := hy.range 0
  rw [hz] at hr0
  have x0 := hc 0 hlen
  rw [hz, Nat.add_zero] at x0
  obtain ⟨p0, q0⟩ := hr0
  have HX := Lib.hid x0
  have FC := Lib.hid (rform_c z0)
  rw [hi] at FC
  have e0 : ((len : Int) == 0) = false := by rw [beq_eq_false_iff_ne]; omega
  have i0 : (0 : Int) < (len : Int) := by omega
  have HL := Lib.hid hl
  clear hi hz hlen hc hl
  go_enter Try.func21, Try.ntmps21
  have BZ := Lib.hid (show Blk (w.alloc (.cells #[.int .i64 0, .int .i64 0, .int .i64 0, .int .i64 0, .int .i64 0, .int .i64 0, .int .i64 0, .int .i64 0, .int .i64 0, .int .i64 0, .int .i64 0, .int .i64 0] 28)) w.heap.size 28 [0, 0, 0, 0, 0, 0, 0, 0, 0, 0, 0, 0] from heap_alloc_new w _)
  have HB0 := Lib.hid ((Below.refl w.heap.size w).alloc (Nat.le_refl _) (.cells #[.int .i64 0, .int .i64 0, .int .i64 0, .int .i64 0, .int .i64 0, .int .i64 0, .int .i64 0, .int .i64 0, .int .i64 0, .int .i64 0, .int .i64 0, .int .i64 0] 28))
  replace x0 := bcell_keep x0 HB0.out
  go_upto_region 5 with (first
    | (go_at_call 11; refine (FC.out _).mono ?_; rintro e WX ⟨rfl, hb⟩; have HBX := Lib.hid (HB0.out.trans (hb.mono HB0.out.size)); have BZX := Lib.hid (BZ.out.keep hb); replace x0 := bcell_keep HX.out HBX.out; clear hb)
)
  clear x0 HB0 BZ
  have e20 : WX.cell? ⟨w.heap.size, 0, none⟩ = some (.int .i64 0) := BZX.out.cell (c := 0) (by simp)
  have g20 := BZX.out.free 0
  have e21 : WX.cell? ⟨w.heap.size, 1, none⟩ = some (.int .i64 0) := BZX.out.cell (c := 1) (by simp)
  have g21 := BZX.out.free 1
  have e22 : WX.cell? ⟨w.heap.size, 2, none⟩ = some (.int .i64 0) := BZX.out.cell (c := 2) (by simp)
  have g22 := BZX.out.free 2
  have e23 : WX.cell? ⟨w.heap.size, 3, none⟩ = some (.int .i64 0) := BZX.out.cell (c := 3) (by simp)
  have g23 := BZX.out.free 3
  have e24 : WX.cell? ⟨w.heap.size, 4, none⟩ = some (.int .i64 0) := BZX.out.cell (c := 4) (by simp)
  have g24 := BZX.out.free 4
  have e25 : WX.cell? ⟨w.heap.size, 5, none⟩ = some (.int .i64 0) := BZX.out.cell (c := 5) (by simp)
  have g25 := BZX.out.free 5
  have e26 : WX.cell? ⟨w.heap.size, 6, none⟩ = some (.int .i64 0) := BZX.out.cell (c := 6) (by simp)
  have g26 := BZX.out.free 6
  have e27 : WX.cell? ⟨w.heap.size, 7, none⟩ = some (.int .i64 0) := BZX.out.cell (c := 7) (by simp)
  have g27 := BZX.out.free 7
  have e28 : WX.cell? ⟨w.heap.size, 8, none⟩ = some (.int .i64 0) := BZX.out.cell (c := 8) (by simp)
  have g28 := BZX.out.free 8
  have e29 : WX.cell? ⟨w.heap.size, 9, none⟩ = some (.int .i64 0) := BZX.out.cell (c := 9) (by simp)
  have g29 := BZX.out.free 9
  have e30 : WX.cell? ⟨w.heap.size, 10, none⟩ = some (.int .i64 0) := BZX.out.cell (c := 10) (by simp)
  have g30 := BZX.out.free 10
  have e31 : WX.cell? ⟨w.heap.size, 11, none⟩ = some (.int .i64 0) := BZX.out.cell (c := 11) (by simp)
  have g31 := BZX.out.free 11
  go_wp2
  refine bodyPost_ret (res_cell_tmp Try.results21 _ _ w.heap.size _ 28 _ rfl rfl (blk_sets12 BZX.out rfl 0 0 0 0 0 0 0 0 0 0 0 0) Try.underlying28 rfl (by kernel_rfl)) rfl ?_
  exact ⟨rfl, below_sets12 HBX.out (Nat.le_refl _) 0 0 0 0 0 0 0 0 0 0 0 0⟩
set_option maxRecDepth 1000000 in
set_option maxHeartbeats 4000000 in
theorem rdec_short (bb off len cap : Nat) (z0 n : Int) (zs : List Int) (w : World) (hy : Byt w (some ⟨bb, off, none⟩) len zs) (hl : (len : Int) ≤ 9223372036854775807) (hlen : 0 < len) (hz : zs.getD 0 0 = z0) (hi : isOp z0 = true) (hn : lenOf z0 = n) (hnl : ¬ n ≤ (len : Int)) : Calls Try.prog 21 #[.slice (some ⟨bb, off, none⟩) len cap] w fun e w' => e = .returned (.tuple #[.agg #[.int .i64 0, .int .i64 0, .int .i64 0, .int .i64 0, .int .i64 0, .int .i64 0, .int .i64 0, .int .i64 0, .int .i64 0, .int .i64 0, .int .i64 0, .int .i64 0], .bool false]) ∧ Below w.heap.size w w' := by
  obtain ⟨bb', off', e, hc⟩ := hy.at_ hlen
  cases e
  have hr0 := hy.range 0
  rw [hz] at hr0
  have x0 := hc 0 hlen
  rw [hz, Nat.add_zero] at x0
  obtain ⟨p0, q0⟩ := hr0
  have HX := Lib.hid x0
  have FC := Lib.hid (rform_c z0)
  rw [hi] at FC
  have LC := Lib.hid (rlength_c z0)
  rw [hn] at LC
  have hnl' : (len : Int) < n := by omega
  have e0 : ((len : Int) == 0) = false := by rw [beq_eq_false_iff_ne]; omega
  have i0 : (0 : Int) < (len : Int) := by omega
  have HL := Lib.hid hl
  clear hi hz hlen hc hl hn hnl
  go_enter Try.func21, Try.ntmps21
  have BZ := Lib.hid (show Blk (w.alloc (.cells #[.int .i64 0, .int .i64 0, .int .i64 0, .int .i64 0, .int .i64 0, .int .i64 0, .int .i64 0, .int .i64 0, .int .i64 0, .int .i64 0, .int .i64 0, .int .i64 0] 28)) w.heap.size 28 [0, 0, 0, 0, 0, 0, 0, 0, 0, 0, 0, 0] from heap_alloc_new w _)
  have HB0 := Lib.hid ((Below.refl w.heap.size w).alloc (Nat.le_refl _) (.cells #[.int .i64 0, .int .i64 0, .int .i64 0, .int .i64 0, .int .i64 0, .int .i64 0, .int .i64 0, .int .i64 0, .int .i64 0, .int .i64 0, .int .i64 0, .int .i64 0] 28))
  replace x0 := bcell_keep x0 HB0.out
  go_upto_region 5 with (first
    | (go_at_call 11; refine (FC.out _).mono ?_; rintro e WX ⟨rfl, hb⟩; have HBX := Lib.hid (HB0.out.trans (hb.mono HB0.out.size)); have BZX := Lib.hid (BZ.out.keep hb); replace x0 := bcell_keep HX.out HBX.out; clear hb)
    | (go_at_call 13; refine (LC.out _).mono ?_; rintro e wx ⟨rfl, hwx⟩; subst hwx))
  clear x0 HB0 BZ
  have e20 : WX.cell? ⟨w.heap.size, 0, none⟩ = some (.int .i64 0) := BZX.out.cell (c := 0) (by simp)
  have g20 := BZX.out.free 0
  have e21 : WX.cell? ⟨w.heap.size, 1, none⟩ = some (.int .i64 0) := BZX.out.cell (c := 1) (by simp)
  have g21 := BZX.out.free 1
  have e22 : WX.cell? ⟨w.heap.size, 2, none⟩ = some (.int .i64 0) := BZX.out.cell (c := 2) (by simp)
  have g22 := BZX.out.free 2
  have e23 : WX.cell? ⟨w.heap.size, 3, none⟩ = some (.int .i64 0) := BZX.out.cell (c := 3) (by simp)
  have g23 := BZX.out.free 3
  have e24 : WX.cell? ⟨w.heap.size, 4, none⟩ = some (.int .i64 0) := BZX.out.cell (c := 4) (by simp)
  have g24 := BZX.out.free 4
  have e25 : WX.cell? ⟨w.heap.size, 5, none⟩ = some (.int .i64 0) := BZX.out.cell (c := 5) (by simp)
  have g25 := BZX.out.free 5
  have e26 : WX.cell? ⟨w.heap.size, 6, none⟩ = some (.int .i64 0) := BZX.out.cell (c := 6) (by simp)
  have g26 := BZX.out.free 6
  have e27 : WX.cell? ⟨w.heap.size, 7, none⟩ = some (.int .i64 0) := BZX.out.cell (c := 7) (by simp)
  have g27 := BZX.out.free 7
  have e28 : WX.cell? ⟨w.heap.size, 8, none⟩ = some (.int .i64 0) := BZX.out.cell (c := 8) (by simp)
  have g28 := BZX.out.free 8
  have e29 : WX.cell? ⟨w.heap.size, 9, none⟩ = some (.int .i64 0) := BZX.out.cell (c := 9) (by simp)
  have g29 := BZX.out.free 9
  have e30 : WX.cell? ⟨w.heap.size, 10, none⟩ = some (.int .i64 0) := BZX.out.cell (c := 10) (by simp)
  have g30 := BZX.out.free 10
  have e31 : WX.cell? ⟨w.heap.size, 11, none⟩ = some (.int .i64 0) := BZX.out.cell (c := 11) (by simp)
  have g31 := BZX.out.free 11
  go_wp2
  refine bodyPost_ret (res_cell_tmp Try.results21 _ _ w.heap.size _ 28 _ rfl rfl (blk_sets12 BZX.out rfl 0 0 0 0 0 0 0 0 0 0 0 0) Try.underlying28 rfl (by kernel_rfl)) rfl ?_
  exact ⟨rfl, below_sets12 HBX.out (Nat.le_refl _) 0 0 0 0 0 0 0 0 0 0 0 0⟩
theorem rdecode_c (A : Option Addr) (len cap : Nat) (zs : List Int) (w : World) (hy : Byt w A len zs) (hl : (len : Int) ≤ 9223372036854775807) : Calls Try.prog 21 #[.slice A len cap] w fun e w' => e = .returned (.tuple #[insV (if dokI len zs = true then decI zs else [0, 0, 0, 0, 0, 0, 0, 0, 0, 0, 0, 0]), .bool (dokI len zs)]) ∧ Below w.heap.size w w' := by
  rcases Nat.eq_zero_or_pos len with h0 | h0
  · subst h0
    rw [show dokI 0 zs = false from by unfold dokI; simp]
    exact rdec_nil A cap w
  obtain ⟨bb, off, rfl, -⟩ := hy.at_ h0
  cases hi : isOp (zs.getD 0 0)
  · rw [show dokI len zs = false from by unfold dokI; rw [hi]; simp]
    exact rdec_notop bb off len cap _ 0 zs w hy hl h0 rfl hi
  by_cases hn : lenOf (zs.getD 0 0) ≤ (len : Int)
  case neg =>
    rw [show dokI len zs = false from by unfold dokI; rw [decide_eq_false hn]; simp]
    exact rdec_short bb off len cap _ _ zs w hy hl h0 rfl hi rfl hn
  rw [show dokI len zs = true from by unfold dokI; rw [hi, decide_eq_true hn, decide_eq_true h0]; rfl, if_pos rfl]
  have hz := hy.1
  have hr := hy.range
  rcases form_cases hi with h | h | h | h | h | h | h | h | h
  all_goals obtain ⟨hf, hln⟩ := h; rw [hln] at hn
  · rcases Nat.lt_or_ge len 4 with h4 | h4
    · obtain ⟨z0, z1, t, rfl⟩ := list_two (zs := zs) (by omega)
      have r0 : 0 ≤ z0 ∧ z0 ≤ 255 := hr 0
      have r1 : 0 ≤ z1 ∧ z1 ≤ 255 := hr 1
      have hd : decI (z0 :: z1 :: t) = [z0, 1, z1 / 16, z1 % 16, 0, 0, 0, 0, 0, 0, 0, 0] := (dec_1 z0 z1 t hf).trans (by first | rfl | (simp only [List.cons.injEq, and_true, true_and]; omega))
      rw [hd]
      exact rdec_A bb off len cap 1 2 z0 z1 z0 1 (z1 / 16) (z1 % 16) 0 0 0 0 0 0 0 0 (z0 :: z1 :: t) w hy hl hi hf hln (by decide) (by simpa using hn) rfl (by omega) (by omega) (by decide) (fun w => own_1 z0 (z1 / 16) (z1 % 16) (z1 % 16) 0 0 0 0 (z1 / 16) (z1 % 16) z1 w)
    · obtain ⟨z0, z1, z2, z3, t, rfl⟩ := list_four (zs := zs) (by omega)
      have r0 : 0 ≤ z0 ∧ z0 ≤ 255 := hr 0
      have r1 : 0 ≤ z1 ∧ z1 ≤ 255 := hr 1
      have r2 : 0 ≤ z2 ∧ z2 ≤ 255 := hr 2
      have r3 : 0 ≤ z3 ∧ z3 ≤ 255 := hr 3
      have hd : decI (z0 :: z1 :: z2 :: z3 :: t) = [z0, 1, z1 / 16, z1 % 16, 0, 0, 0, 0, 0, 0, 0, 0] := (dec_1 z0 z1 (z2 :: z3 :: t) hf).trans (by first | rfl | (simp only [List.cons.injEq, and_true, true_and]; omega))
      rw [hd]
      exact rdec_B bb off len cap 1 2 z0 z1 z2 z3 z0 1 (z1 / 16) (z1 % 16) 0 0 0 0 0 0 0 0 (z0 :: z1 :: z2 :: z3 :: t) w hy hl hi hf hln (by decide) (by simpa using hn) rfl (by omega)  (by decide) (fun w => own_1 z0 (z1 / 16) (z1 % 16) (z1 % 16) (z2 / 16) (z2 % 16 * 256 + z3) (z2 / 16) (z2 % 16 * 256 + z3) (z1 / 16) (z1 % 16) z1 w)
  · rcases Nat.lt_or_ge len 4 with h4 | h4
    · obtain ⟨z0, z1, t, rfl⟩ := list_two (zs := zs) (by omega)
      have r0 : 0 ≤ z0 ∧ z0 ≤ 255 := hr 0
      have r1 : 0 ≤ z1 ∧ z1 ≤ 255 := hr 1
      have hd : decI (z0 :: z1 :: t) = [z0, 7, 0, 0, 0, 0, 0, 0, 0, 0, 0, z1] := (dec_7 z0 z1 t hf).trans (by first | rfl | (simp only [List.cons.injEq, and_true, true_and]; omega))
      rw [hd]
      exact rdec_A bb off len cap 7 2 z0 z1 z0 7 0 0 0 0 0 0 0 0 0 z1 (z0 :: z1 :: t) w hy hl hi hf hln (by decide) (by simpa using hn) rfl (by omega) (by omega) (by decide) (fun w => own_7 z0 (z1 / 16) (z1 % 16) (z1 % 16) 0 0 0 0 (z1 / 16) (z1 % 16) z1 w)
    · obtain ⟨z0, z1, z2, z3, t, rfl⟩ := list_four (zs := zs) (by omega)
      have r0 : 0 ≤ z0 ∧ z0 ≤ 255 := hr 0
      have r1 : 0 ≤ z1 ∧ z1 ≤ 255 := hr 1
      have r2 : 0 ≤ z2 ∧ z2 ≤ 255 := hr 2
      have r3 : 0 ≤ z3 ∧ z3 ≤ 255 := hr 3
      have hd : decI (z0 :: z1 :: z2 :: z3 :: t) = [z0, 7, 0, 0, 0, 0, 0, 0, 0, 0, 0, z1] := (dec_7 z0 z1 (z2 :: z3 :: t) hf).trans (by first | rfl | (simp only [List.cons.injEq, and_true, true_and]; omega))
      rw [hd]
      exact rdec_B bb off len cap 7 2 z0 z1 z2 z3 z0 7 0 0 0 0 0 0 0 0 0 z1 (z0 :: z1 :: z2 :: z3 :: t) w hy hl hi hf hln (by decide) (by simpa using hn) rfl (by omega)  (by decide) (fun w => own_7 z0 (z1 / 16) (z1 % 16) (z1 % 16) (z2 / 16) (z2 % 16 * 256 + z3) (z2 / 16) (z2 % 16 * 256 + z3) (z1 / 16) (z1 % 16) z1 w)
  · rcases Nat.lt_or_ge len 4 with h4 | h4
    · obtain ⟨z0, z1, t, rfl⟩ := list_two (zs := zs) (by omega)
      have r0 : 0 ≤ z0 ∧ z0 ≤ 255 := hr 0
      have r1 : 0 ≤ z1 ∧ z1 ≤ 255 := hr 1
      have hd : decI (z0 :: z1 :: t) = [z0, 8, z1 / 16, 0, 0, 0, 0, 0, 0, 0, 0, 0] := (dec_8 z0 z1 t hf).trans (by first | rfl | (simp only [List.cons.injEq, and_true, true_and]; omega))
      rw [hd]
      exact rdec_A bb off len cap 8 2 z0 z1 z0 8 (z1 / 16) 0 0 0 0 0 0 0 0 0 (z0 :: z1 :: t) w hy hl hi hf hln (by decide) (by simpa using hn) rfl (by omega) (by omega) (by decide) (fun w => own_8 z0 (z1 / 16) (z1 % 16) (z1 % 16) 0 0 0 0 (z1 / 16) (z1 % 16) z1 w)
    · obtain ⟨z0, z1, z2, z3, t, rfl⟩ := list_four (zs := zs) (by omega)
      have r0 : 0 ≤ z0 ∧ z0 ≤ 255 := hr 0
      have r1 : 0 ≤ z1 ∧ z1 ≤ 255 := hr 1
      have r2 : 0 ≤ z2 ∧ z2 ≤ 255 := hr 2
      have r3 : 0 ≤ z3 ∧ z3 ≤ 255 := hr 3
      have hd : decI (z0 :: z1 :: z2 :: z3 :: t) = [z0, 8, z1 / 16, 0, 0, 0, 0, 0, 0, 0, 0, 0] := (dec_8 z0 z1 (z2 :: z3 :: t) hf).trans (by first | rfl | (simp only [List.cons.injEq, and_true, true_and]; omega))
      rw [hd]
      exact rdec_B bb off len cap 8 2 z0 z1 z2 z3 z0 8 (z1 / 16) 0 0 0 0 0 0 0 0 0 (z0 :: z1 :: z2 :: z3 :: t) w hy hl hi hf hln (by decide) (by simpa using hn) rfl (by omega)  (by decide) (fun w => own_8 z0 (z1 / 16) (z1 % 16) (z1 % 16) (z2 / 16) (z2 % 16 * 256 + z3) (z2 / 16) (z2 % 16 * 256 + z3) (z1 / 16) (z1 % 16) z1 w)
  · obtain ⟨z0, z1, z2, z3, t, rfl⟩ := list_four (zs := zs) (by omega)
    have r0 : 0 ≤ z0 ∧ z0 ≤ 255 := hr 0
    have r1 : 0 ≤ z1 ∧ z1 ≤ 255 := hr 1
    have r2 : 0 ≤ z2 ∧ z2 ≤ 255 := hr 2
    have r3 : 0 ≤ z3 ∧ z3 ≤ 255 := hr 3
    have hd : decI (z0 :: z1 :: z2 :: z3 :: t) = [z0, 2, z1 / 16, 0, z1 % 16, 0, 0, z2 / 16, z2 % 16 * 256 + z3, 0, 0, 0] := (dec_2 z0 z1 z2 z3 t hf).trans (by first | rfl | (simp only [List.cons.injEq, and_true, true_and]; omega))
    rw [hd]
    exact rdec_B bb off len cap 2 4 z0 z1 z2 z3 z0 2 (z1 / 16) 0 (z1 % 16) 0 0 (z2 / 16) (z2 % 16 * 256 + z3) 0 0 0 (z0 :: z1 :: z2 :: z3 :: t) w hy hl hi hf hln (by decide) (by simpa using hn) rfl (by omega)  (by decide) (fun w => own_2 z0 (z1 / 16) (z1 % 16) (z1 % 16) (z2 / 16) (z2 % 16 * 256 + z3) (z2 / 16) (z2 % 16 * 256 + z3) (z1 / 16) (z1 % 16) z1 w)
  · obtain ⟨z0, z1, z2, z3, t, rfl⟩ := list_four (zs := zs) (by omega)
    have r0 : 0 ≤ z0 ∧ z0 ≤ 255 := hr 0
    have r1 : 0 ≤ z1 ∧ z1 ≤ 255 := hr 1
    have r2 : 0 ≤ z2 ∧ z2 ≤ 255 := hr 2
    have r3 : 0 ≤ z3 ∧ z3 ≤ 255 := hr 3
    have hd : decI (z0 :: z1 :: z2 :: z3 :: t) = [z0, 3, z1 / 16, z1 % 16, 0, 0, 0, z2 / 16, z2 % 16 * 256 + z3, 0, 0, 0] := (dec_3 z0 z1 z2 z3 t hf).trans (by first | rfl | (simp only [List.cons.injEq, and_true, true_and]; omega))
    rw [hd]
    exact rdec_B bb off len cap 3 4 z0 z1 z2 z3 z0 3 (z1 / 16) (z1 % 16) 0 0 0 (z2 / 16) (z2 % 16 * 256 + z3) 0 0 0 (z0 :: z1 :: z2 :: z3 :: t) w hy hl hi hf hln (by decide) (by simpa using hn) rfl (by omega)  (by decide) (fun w => own_3 z0 (z1 / 16) (z1 % 16) (z1 % 16) (z2 / 16) (z2 % 16 * 256 + z3) (z2 / 16) (z2 % 16 * 256 + z3) (z1 / 16) (z1 % 16) z1 w)
  · obtain ⟨z0, z1, z2, z3, t, rfl⟩ := list_four (zs := zs) (by omega)
    have r0 : 0 ≤ z0 ∧ z0 ≤ 255 := hr 0
    have r1 : 0 ≤ z1 ∧ z1 ≤ 255 := hr 1
    have r2 : 0 ≤ z2 ∧ z2 ≤ 255 := hr 2
    have r3 : 0 ≤ z3 ∧ z3 ≤ 255 := hr 3
    have hd : decI (z0 :: z1 :: z2 :: z3 :: t) = [z0, 4, 0, 0, 0, z2 / 16, z2 % 16 * 256 + z3, 0, 0, 0, 0, z1] := (dec_4 z0 z1 z2 z3 t hf).trans (by first | rfl | (simp only [List.cons.injEq, and_true, true_and]; omega))
    rw [hd]
    exact rdec_B bb off len cap 4 4 z0 z1 z2 z3 z0 4 0 0 0 (z2 / 16) (z2 % 16 * 256 + z3) 0 0 0 0 z1 (z0 :: z1 :: z2 :: z3 :: t) w hy hl hi hf hln (by decide) (by simpa using hn) rfl (by omega)  (by decide) (fun w => own_4 z0 (z1 / 16) (z1 % 16) (z1 % 16) (z2 / 16) (z2 % 16 * 256 + z3) (z2 / 16) (z2 % 16 * 256 + z3) (z1 / 16) (z1 % 16) z1 w)
  · obtain ⟨z0, z1, z2, z3, t, rfl⟩ := list_four (zs := zs) (by omega)
    have r0 : 0 ≤ z0 ∧ z0 ≤ 255 := hr 0
    have r1 : 0 ≤ z1 ∧ z1 ≤ 255 := hr 1
    have r2 : 0 ≤ z2 ∧ z2 ≤ 255 := hr 2
    have r3 : 0 ≤ z3 ∧ z3 ≤ 255 := hr 3
    have hd : decI (z0 :: z1 :: z2 :: z3 :: t) = [z0, 9, 0, 0, 0, z2 / 16, z2 % 16 * 256 + z3, 0, 0, 0, 0, 0] := (dec_9 z0 z1 z2 z3 t hf).trans (by first | rfl | (simp only [List.cons.injEq, and_true, true_and]; omega))
    rw [hd]
    exact rdec_B bb off len cap 9 4 z0 z1 z2 z3 z0 9 0 0 0 (z2 / 16) (z2 % 16 * 256 + z3) 0 0 0 0 0 (z0 :: z1 :: z2 :: z3 :: t) w hy hl hi hf hln (by decide) (by simpa using hn) rfl (by omega)  (by decide) (fun w => own_9 z0 (z1 / 16) (z1 % 16) (z1 % 16) (z2 / 16) (z2 % 16 * 256 + z3) (z2 / 16) (z2 % 16 * 256 + z3) (z1 / 16) (z1 % 16) z1 w)
  · obtain ⟨z0, z1, z2, z3, z4, z5, t, rfl⟩ := list_six (zs := zs) (by omega)
    have r0 : 0 ≤ z0 ∧ z0 ≤ 255 := hr 0
    have r1 : 0 ≤ z1 ∧ z1 ≤ 255 := hr 1
    have r2 : 0 ≤ z2 ∧ z2 ≤ 255 := hr 2
    have r3 : 0 ≤ z3 ∧ z3 ≤ 255 := hr 3
    have r4 : 0 ≤ z4 ∧ z4 ≤ 255 := hr 4
    have r5 : 0 ≤ z5 ∧ z5 ≤ 255 := hr 5
    have hd : decI (z0 :: z1 :: z2 :: z3 :: z4 :: z5 :: t) = [z0, 5, 0, 0, 0, z2 / 16, z2 % 16 * 256 + z3, z4 / 16, z4 % 16 * 256 + z5, z1, 0, 0] := (dec_5 z0 z1 z2 z3 z4 z5 t hf).trans (by first | rfl | (simp only [List.cons.injEq, and_true, true_and]; omega))
    rw [hd]
    exact rdec_D bb off len cap 5 6 z0 z1 z2 z3 z4 z5 z0 5 0 0 0 (z2 / 16) (z2 % 16 * 256 + z3) (z4 / 16) (z4 % 16 * 256 + z5) z1 0 0 (z0 :: z1 :: z2 :: z3 :: z4 :: z5 :: t) w hy hl hi hf hln rfl (by simpa using hn) rfl (by omega)  rfl (fun w => own_5 z0 (z1 / 16) (z1 % 16) (z1 % 16) (z2 / 16) (z2 % 16 * 256 + z3) (z4 / 16) (z4 % 16 * 256 + z5) z1 (z1 % 16) z1 w)
  · obtain ⟨z0, z1, z2, z3, z4, z5, t, rfl⟩ := list_six (zs := zs) (by omega)
    have r0 : 0 ≤ z0 ∧ z0 ≤ 255 := hr 0
    have r1 : 0 ≤ z1 ∧ z1 ≤ 255 := hr 1
    have r2 : 0 ≤ z2 ∧ z2 ≤ 255 := hr 2
    have r3 : 0 ≤ z3 ∧ z3 ≤ 255 := hr 3
    have r4 : 0 ≤ z4 ∧ z4 ≤ 255 := hr 4
    have r5 : 0 ≤ z5 ∧ z5 ≤ 255 := hr 5
    have hd : decI (z0 :: z1 :: z2 :: z3 :: z4 :: z5 :: t) = [z0, 6, 0, 0, 0, z2 / 16, z2 % 16 * 256 + z3, z4 / 16, z4 % 16 * 256 + z5, z1 / 16, z1 % 16, 0] := (dec_6 z0 z1 z2 z3 z4 z5 t hf).trans (by first | rfl | (simp only [List.cons.injEq, and_true, true_and]; omega))
    rw [hd]
    exact rdec_C bb off len cap 6 6 z0 z1 z2 z3 z4 z5 z0 6 0 0 0 (z2 / 16) (z2 % 16 * 256 + z3) (z4 / 16) (z4 % 16 * 256 + z5) (z1 / 16) (z1 % 16) 0 (z0 :: z1 :: z2 :: z3 :: z4 :: z5 :: t) w hy hl hi hf hln (by decide) (by simpa using hn) rfl (by omega)  rfl (fun w => own_6 z0 (z1 / 16) (z1 % 16) (z1 % 16) (z2 / 16) (z2 % 16 * 256 + z3) (z4 / 16) (z4 % 16 * 256 + z5) (z1 / 16) (z1 % 16) z1 w)
end Go.Proofs.Ytfbcjpbfggbhfaa
