/- CONTRACT of the reference's Decode, over Own's. Conditions: the slice reads as bytes. -/
import Derived.Test.YtfbcjpbfggbhfaaIsD
import Derived.Test.YtfbcjpbfggbhfaaIsR1
import Derived.Test.YtfbcjpbfggbhfaaKp
import Derived.Deep.Cut
import Derived.BigRegion
namespace Go.Proofs.Ytfbcjpbfggbhfaa
open Go.RowKit
set_option linter.unusedVariables false
set_option linter.unusedSimpArgs false
set_option maxRecDepth 1000000 in
set_option maxHeartbeats 4000000 in
theorem rdec_C (bb off len cap : Nat) (f n : Int) (z0 z1 z2 z3 z4 z5 o0 o1 o2 o3 o4 o5 o6 o7 o8 o9 o10 o11 : Int) (zs : List Int) (w : World) (hy : Byt w (some ⟨bb, off, none⟩) len zs) (hl : (len : Int) ≤ 9223372036854775807) (hi : isOp z0 = true) (hf : fmOf z0 = f) (hn : lenOf z0 = n) (h5 : f ≠ 5) (hnl : n ≤ (len : Int)) (hz : zs.take 6 = [z0, z1, z2, z3, z4, z5]) (hlen : 6 ≤ len)  (h6 : n = 6) (hown : ∀ w, Calls Try.prog 36 #[.agg #[.int .i64 z0, .int .i64 f, .int .i64 (z1 / 16), .int .i64 (z1 % 16), .int .i64 (z1 % 16), .int .i64 (z2 / 16), .int .i64 (z2 % 16 * 256 + z3), .int .i64 (z4 / 16), .int .i64 (z4 % 16 * 256 + z5), .int .i64 (z1 / 16), .int .i64 (z1 % 16), .int .i64 z1]] w fun e w' => e = .returned (.agg #[.int .i64 o0, .int .i64 o1, .int .i64 o2, .int .i64 o3, .int .i64 o4, .int .i64 o5, .int .i64 o6, .int .i64 o7, .int .i64 o8, .int .i64 o9, .int .i64 o10, .int .i64 o11]) ∧ Below w.heap.size w w') : Calls Try.prog 21 #[.slice (some ⟨bb, off, none⟩) len cap] w fun e w' => e = .returned (.tuple #[.agg #[.int .i64 o0, .int .i64 o1, .int .i64 o2, .int .i64 o3, .int .i64 o4, .int .i64 o5, .int .i64 o6, .int .i64 o7, .int .i64 o8, .int .i64 o9, .int .i64 o10, .int .i64 o11], .bool true]) ∧ Below w.heap.size w w' := by
  have hz' : ∀ i, i < 6 → zs.getD i 0 = [z0, z1, z2, z3, z4, z5].getD i 0 := fun i hi => by rw [← hz, List.getD_eq_getElem?_getD, List.getD_eq_getElem?_getD, List.getElem?_take_of_lt hi]
  obtain ⟨bb', off', e, hc⟩ := hy.at_ (by omega)
  cases e
  have y0 : zs.getD 0 0 = z0 := hz' 0 (by omega)
  have hr0 := hy.range 0
  rw [y0] at hr0
  have x0 := hc 0 (by omega)
  rw [y0] at x0
  have y1 : zs.getD 1 0 = z1 := hz' 1 (by omega)
  have hr1 := hy.range 1
  rw [y1] at hr1
  have x1 := hc 1 (by omega)
  rw [y1] at x1
  have y2 : zs.getD 2 0 = z2 := hz' 2 (by omega)
  have hr2 := hy.range 2
  rw [y2] at hr2
  have x2 := hc 2 (by omega)
  rw [y2] at x2
  have y3 : zs.getD 3 0 = z3 := hz' 3 (by omega)
  have hr3 := hy.range 3
  rw [y3] at hr3
  have x3 := hc 3 (by omega)
  rw [y3] at x3
  have y4 : zs.getD 4 0 = z4 := hz' 4 (by omega)
  have hr4 := hy.range 4
  rw [y4] at hr4
  have x4 := hc 4 (by omega)
  rw [y4] at x4
  have y5 : zs.getD 5 0 = z5 := hz' 5 (by omega)
  have hr5 := hy.range 5
  rw [y5] at hr5
  have x5 := hc 5 (by omega)
  rw [y5] at x5
  rw [Nat.add_zero] at x0
  have hbb := Lib.hid (cell_ltD x0)
  obtain ⟨p0, q0⟩ := hr0
  obtain ⟨p1, q1⟩ := hr1
  obtain ⟨p2, q2⟩ := hr2
  obtain ⟨p3, q3⟩ := hr3
  obtain ⟨p4, q4⟩ := hr4
  obtain ⟨p5, q5⟩ := hr5
  have HX := Lib.hid (show w.cell? ⟨bb, off, none⟩ = some (.int .u8 z0) ∧ w.cell? ⟨bb, off + 1, none⟩ = some (.int .u8 z1) ∧ w.cell? ⟨bb, off + 2, none⟩ = some (.int .u8 z2) ∧ w.cell? ⟨bb, off + 3, none⟩ = some (.int .u8 z3) ∧ w.cell? ⟨bb, off + 4, none⟩ = some (.int .u8 z4) ∧ w.cell? ⟨bb, off + 5, none⟩ = some (.int .u8 z5) from ⟨x0, x1, x2, x3, x4, x5⟩)
  have FC := Lib.hid (rform_c z0)
  rw [hi, hf] at FC
  have LC := Lib.hid (rlength_c z0)
  rw [hn] at LC
  have OC := Lib.hid hown
  have e0 : ((len : Int) == 0) = false := by rw [beq_eq_false_iff_ne]; omega
  have i0 : (0 : Int) < (len : Int) := by omega
  have i1 : (1 : Int) < (len : Int) := by omega
  have i2 : (2 : Int) < (len : Int) := by omega
  have i3 : (3 : Int) < (len : Int) := by omega
  have i4 : (4 : Int) < (len : Int) := by omega
  have i5 : (5 : Int) < (len : Int) := by omega
  have e5 : (f == 5) = false := by simpa using h5
  have e6 : (n == 6) = true := by simpa using h6
  have i4' : (4 : Int) ≤ (len : Int) := by omega
  have HL := Lib.hid hl
  clear hi hf hn hown hz hz' hlen  h5 h6 hc hl y0 y1 y2 y3 y4 y5
  go_enter Try.func21, Try.ntmps21
  have BZ := Lib.hid (show Blk (w.alloc (.cells #[.int .i64 0, .int .i64 0, .int .i64 0, .int .i64 0, .int .i64 0, .int .i64 0, .int .i64 0, .int .i64 0, .int .i64 0, .int .i64 0, .int .i64 0, .int .i64 0] 28)) w.heap.size 28 [0, 0, 0, 0, 0, 0, 0, 0, 0, 0, 0, 0] from heap_alloc_new w _)
  have HB0 := Lib.hid ((Below.refl w.heap.size w).alloc (Nat.le_refl _) (.cells #[.int .i64 0, .int .i64 0, .int .i64 0, .int .i64 0, .int .i64 0, .int .i64 0, .int .i64 0, .int .i64 0, .int .i64 0, .int .i64 0, .int .i64 0, .int .i64 0] 28))
  replace x0 := bcell_keep x0 HB0.out
  go_upto_region 6 with (first
    | (go_at_call 11; refine (FC.out _).mono ?_; rintro e W ⟨rfl, hb⟩; have HB1 := Lib.hid (HB0.out.trans (hb.mono HB0.out.size)); have BZ1 := Lib.hid (BZ.out.keep hb); replace x0 := bcell_keep HX.out.1 HB1.out; clear hb)
    | (go_at_call 13; refine (LC.out _).mono ?_; rintro e wx ⟨rfl, hwx⟩; subst hwx))
  clear x0 HB0 BZ
  have x0 := bcell_keep (HX.out.1) HB1.out
  have x1 := bcell_keep (HX.out.2.1) HB1.out
  go_upto_region 8 with fail
  have S1 := Lib.hid (DS.start (xs := [z0, f, z1 / 16, z1 % 16, z1 % 16, 0, 0, 0, 0, z1 / 16, z1 % 16, z1]) BZ1.out HB1.out)
  simp only [List.map_cons, List.map_nil] at S1
  obtain ⟨h, hh⟩ : ∃ h, W.heap.size = h := ⟨_, rfl⟩
  rw [hh] at S1
  simp only [hh]
  obtain ⟨W1, hW1⟩ : ∃ W1, W.alloc (.cells #[.int .i64 z0, .int .i64 f, .int .i64 (z1 / 16), .int .i64 (z1 % 16), .int .i64 (z1 % 16), .int .i64 0, .int .i64 0, .int .i64 0, .int .i64 0, .int .i64 (z1 / 16), .int .i64 (z1 % 16), .int .i64 z1] 28) = W1 := ⟨_, rfl⟩
  rw [hW1]
  rw [hW1] at S1
  have hbh : bb ≠ h := by have := hbb.out; have := S1.out.2.2.2; omega
  have hhb : h ≠ bb := hbh.symm
  clear hW1 hh x0 x1 HB1 BZ1
  go_upto_region 11 with fail
  have c5 : W1.cell? ⟨h, 5, none⟩ = some (.int .i64 (0)) := S1.out.2.1.cell (c := 5) (by simp)
  have c6 : W1.cell? ⟨h, 6, none⟩ = some (.int .i64 (0)) := S1.out.2.1.cell (c := 6) (by simp)
  have f5 : W1.frozen? ⟨h, 5, none⟩ = false := S1.out.2.1.free 5
  have f6 : W1.frozen? ⟨h, 6, none⟩ = false := S1.out.2.1.free 6
  have x2 := bcell_keep (HX.out.2.2.1) S1.out.2.2.1
  have x3 := bcell_keep (HX.out.2.2.2.1) S1.out.2.2.1
  go_region
  go_upto_region 12 with fail
  clear c5 c6 f5 f6 x2 x3
  have S2' := Lib.hid (show DS w ((W1.setCell ⟨h, 5, none⟩ (.int .i64 (z2 / 16))).setCell ⟨h, 6, none⟩ (.int .i64 (z2 % 16 * 256 + z3))).drew h _ from ((S1.out.set_ 5 (z2 / 16)).set_ 6 (z2 % 16 * 256 + z3)).drew)
  obtain ⟨W2, hW⟩ : ∃ W2, ((W1.setCell ⟨h, 5, none⟩ (.int .i64 (z2 / 16))).setCell ⟨h, 6, none⟩ (.int .i64 (z2 % 16 * 256 + z3))).drew = W2 := ⟨_, rfl⟩
  rw [hW]
  rw [hW] at S2'
  have S2 := Lib.hid (show DS w W2 h [z0, f, z1 / 16, z1 % 16, z1 % 16, z2 / 16, z2 % 16 * 256 + z3, 0, 0, z1 / 16, z1 % 16, z1] from S2'.out)
  clear hW S1 S2'
  have c5 : W2.cell? ⟨h, 5, none⟩ = some (.int .i64 (z2 / 16)) := S2.out.2.1.cell (c := 5) (by simp)
  have c6 : W2.cell? ⟨h, 6, none⟩ = some (.int .i64 (z2 % 16 * 256 + z3)) := S2.out.2.1.cell (c := 6) (by simp)
  have c7 : W2.cell? ⟨h, 7, none⟩ = some (.int .i64 (0)) := S2.out.2.1.cell (c := 7) (by simp)
  have c8 : W2.cell? ⟨h, 8, none⟩ = some (.int .i64 (0)) := S2.out.2.1.cell (c := 8) (by simp)
  have f7 : W2.frozen? ⟨h, 7, none⟩ = false := S2.out.2.1.free 7
  have f8 : W2.frozen? ⟨h, 8, none⟩ = false := S2.out.2.1.free 8
  go_upto_region 13 with fail
  clear c5 c6 c7 c8 f7 f8
  have S3' := Lib.hid (show DS w ((W2.setCell ⟨h, 7, none⟩ (.int .i64 (z2 / 16))).setCell ⟨h, 8, none⟩ (.int .i64 (z2 % 16 * 256 + z3))) h _ from ((S2.out.set_ 7 (z2 / 16)).set_ 8 (z2 % 16 * 256 + z3)))
  obtain ⟨W3, hW⟩ : ∃ W3, ((W2.setCell ⟨h, 7, none⟩ (.int .i64 (z2 / 16))).setCell ⟨h, 8, none⟩ (.int .i64 (z2 % 16 * 256 + z3))) = W3 := ⟨_, rfl⟩
  rw [hW]
  rw [hW] at S3'
  have S3 := Lib.hid (show DS w W3 h [z0, f, z1 / 16, z1 % 16, z1 % 16, z2 / 16, z2 % 16 * 256 + z3, z2 / 16, z2 % 16 * 256 + z3, z1 / 16, z1 % 16, z1] from S3'.out)
  clear hW S2 S3'
  have x0 := bcell_keep (HX.out.1) S3.out.2.2.1
  go_upto_region 14 with (go_at_call 13; refine (LC.out _).mono ?_; rintro e wx ⟨rfl, hwx⟩; subst hwx)
  clear x0
  have c7 : W3.cell? ⟨h, 7, none⟩ = some (.int .i64 (z2 / 16)) := S3.out.2.1.cell (c := 7) (by simp)
  have c8 : W3.cell? ⟨h, 8, none⟩ = some (.int .i64 (z2 % 16 * 256 + z3)) := S3.out.2.1.cell (c := 8) (by simp)
  have f7 : W3.frozen? ⟨h, 7, none⟩ = false := S3.out.2.1.free 7
  have f8 : W3.frozen? ⟨h, 8, none⟩ = false := S3.out.2.1.free 8
  have x4 := bcell_keep (HX.out.2.2.2.2.1) S3.out.2.2.1
  have x5 := bcell_keep (HX.out.2.2.2.2.2) S3.out.2.2.1
  go_region
  go_upto_region 15 with fail
  clear c7 c8 f7 f8 x4 x5
  have S4' := Lib.hid (show DS w ((W3.setCell ⟨h, 7, none⟩ (.int .i64 (z4 / 16))).setCell ⟨h, 8, none⟩ (.int .i64 (z4 % 16 * 256 + z5))).drew h _ from ((S3.out.set_ 7 (z4 / 16)).set_ 8 (z4 % 16 * 256 + z5)).drew)
  obtain ⟨W4, hW⟩ : ∃ W4, ((W3.setCell ⟨h, 7, none⟩ (.int .i64 (z4 / 16))).setCell ⟨h, 8, none⟩ (.int .i64 (z4 % 16 * 256 + z5))).drew = W4 := ⟨_, rfl⟩
  rw [hW]
  rw [hW] at S4'
  have S4 := Lib.hid (show DS w W4 h [z0, f, z1 / 16, z1 % 16, z1 % 16, z2 / 16, z2 % 16 * 256 + z3, z4 / 16, z4 % 16 * 256 + z5, z1 / 16, z1 % 16, z1] from S4'.out)
  clear hW S3 S4'
  have c0 : W4.cell? ⟨h, 0, none⟩ = some (.int .i64 (z0)) := S4.out.2.1.cell (c := 0) (by simp)
  have c1 : W4.cell? ⟨h, 1, none⟩ = some (.int .i64 (f)) := S4.out.2.1.cell (c := 1) (by simp)
  have c2 : W4.cell? ⟨h, 2, none⟩ = some (.int .i64 (z1 / 16)) := S4.out.2.1.cell (c := 2) (by simp)
  have c3 : W4.cell? ⟨h, 3, none⟩ = some (.int .i64 (z1 % 16)) := S4.out.2.1.cell (c := 3) (by simp)
  have c4 : W4.cell? ⟨h, 4, none⟩ = some (.int .i64 (z1 % 16)) := S4.out.2.1.cell (c := 4) (by simp)
  have c5 : W4.cell? ⟨h, 5, none⟩ = some (.int .i64 (z2 / 16)) := S4.out.2.1.cell (c := 5) (by simp)
  have c6 : W4.cell? ⟨h, 6, none⟩ = some (.int .i64 (z2 % 16 * 256 + z3)) := S4.out.2.1.cell (c := 6) (by simp)
  have c7 : W4.cell? ⟨h, 7, none⟩ = some (.int .i64 (z4 / 16)) := S4.out.2.1.cell (c := 7) (by simp)
  have c8 : W4.cell? ⟨h, 8, none⟩ = some (.int .i64 (z4 % 16 * 256 + z5)) := S4.out.2.1.cell (c := 8) (by simp)
  have c9 : W4.cell? ⟨h, 9, none⟩ = some (.int .i64 (z1 / 16)) := S4.out.2.1.cell (c := 9) (by simp)
  have c10 : W4.cell? ⟨h, 10, none⟩ = some (.int .i64 (z1 % 16)) := S4.out.2.1.cell (c := 10) (by simp)
  have c11 : W4.cell? ⟨h, 11, none⟩ = some (.int .i64 (z1)) := S4.out.2.1.cell (c := 11) (by simp)
  go_wp2_with fail
  refine (OC.out _).mono ?_
  rintro e WX ⟨rfl, hb⟩
  have HBX := Lib.hid (S4.out.2.2.1.trans (hb.mono S4.out.2.2.1.size))
  have BZX := Lib.hid (S4.out.1.keep hb)
  clear hb c0 c1 c2 c3 c4 c5 c6 c7 c8 c9 c10 c11
  have e20 : WX.cell? ⟨w.heap.size, 0, none⟩ = some (.int .i64 0) := BZX.out.cell (c := 0) (by simp)
  have g20 := BZX.out.free 0
  have e21 : WX.cell? ⟨w.heap.size, 1, none⟩ = some (.int .i64 0) := BZX.out.cell (c := 1) (by simp)
  have g21 := BZX.out.free 1
  have e22 : WX.cell? ⟨w.heap.size, 2, none⟩ = some (.int .i64 0) := BZX.out.cell (c := 2) (by simp)
  have g22 := BZX.out.free 2
  have e23 : WX.cell? ⟨w.heap.size, 3, none⟩ = some (.int .i64 0) := BZX.out.cell (c := 3) (by simp)
  have g23 := BZX.out.free 3
  have e24 : WX.cell? ⟨w.heap.size, 4, none⟩ = some (.int .i64 0) := BZX.out.cell (c := 4) (by simp)
  have g24 := BZX.out.free 4
  have e25 : WX.cell? ⟨w.heap.size, 5, none⟩ = some (.int .i64 0) := BZX.out.cell (c := 5) (by simp)
  have g25 := BZX.out.free 5
  have e26 : WX.cell? ⟨w.heap.size, 6, none⟩ = some (.int .i64 0) := BZX.out.cell (c := 6) (by simp)
  have g26 := BZX.out.free 6
  have e27 : WX.cell? ⟨w.heap.size, 7, none⟩ = some (.int .i64 0) := BZX.out.cell (c := 7) (by simp)
  have g27 := BZX.out.free 7
  have e28 : WX.cell? ⟨w.heap.size, 8, none⟩ = some (.int .i64 0) := BZX.out.cell (c := 8) (by simp)
  have g28 := BZX.out.free 8
  have e29 : WX.cell? ⟨w.heap.size, 9, none⟩ = some (.int .i64 0) := BZX.out.cell (c := 9) (by simp)
  have g29 := BZX.out.free 9
  have e30 : WX.cell? ⟨w.heap.size, 10, none⟩ = some (.int .i64 0) := BZX.out.cell (c := 10) (by simp)
  have g30 := BZX.out.free 10
  have e31 : WX.cell? ⟨w.heap.size, 11, none⟩ = some (.int .i64 0) := BZX.out.cell (c := 11) (by simp)
  have g31 := BZX.out.free 11
  go_wp2
  refine bodyPost_ret (res_cell_tmp Try.results21 _ _ w.heap.size _ 28 _ rfl rfl (blk_sets12 BZX.out rfl o0 o1 o2 o3 o4 o5 o6 o7 o8 o9 o10 o11) Try.underlying28 rfl (by kernel_rfl)) rfl ?_
  exact ⟨rfl, below_sets12 HBX.out (Nat.le_refl _) o0 o1 o2 o3 o4 o5 o6 o7 o8 o9 o10 o11⟩
end Go.Proofs.Ytfbcjpbfggbhfaa
