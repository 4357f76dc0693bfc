/- CONTRACT of the reference's Encode, form by form. No conditions but the form's own. -/
import Derived.Test.YtfbcjpbfggbhfaaIsE1
import Derived.Test.YtfbcjpbfggbhfaaBo
import Derived.Test.YtfbcjpbfggbhfaaIsR1
import Derived.WalkKit
namespace Go.Proofs.Ytfbcjpbfggbhfaa
open Go.RowKit
set_option linter.unusedVariables false
set_option linter.unusedSimpArgs false
set_option maxRecDepth 1000000 in
set_option maxHeartbeats 4000000 in
theorem renc_4 (op r1 r2 x2 b1 d1 b2 d2 l1 l2 i2 : Int) (w : World) (hi : isOp op = true) (hf : fmOf op = 4) (hl : lenOf op = 4) (hc : r1 = 0 ∧ r2 = 0 ∧ x2 = 0 ∧ (0 ≤ b1 ∧ b1 < 16) ∧ (0 ≤ d1 ∧ d1 < 4096) ∧ b2 = 0 ∧ d2 = 0 ∧ l1 = 0 ∧ l2 = 0 ∧ (0 ≤ i2 ∧ i2 < 256)) (hk : ∀ w, Calls Try.prog 18 #[.agg #[.int .i64 op, .int .i64 4, .int .i64 r1, .int .i64 r2, .int .i64 x2, .int .i64 b1, .int .i64 d1, .int .i64 b2, .int .i64 d2, .int .i64 l1, .int .i64 l2, .int .i64 i2]] w fun e w' => e = .returned (.int .i64 0) ∧ Below w.heap.size w w') : Calls Try.prog 16 #[.agg #[.int .i64 op, .int .i64 4, .int .i64 r1, .int .i64 r2, .int .i64 x2, .int .i64 b1, .int .i64 d1, .int .i64 b2, .int .i64 d2, .int .i64 l1, .int .i64 l2, .int .i64 i2]] w fun e w' => ∃ A c, e = .returned (.tuple #[.slice A 4 c, .int .i64 0]) ∧ Byt w' A 4 (encI [op, 4, r1, r2, x2, b1, d1, b2, d2, l1, l2, i2]) ∧ Below w.heap.size w w' := by
  have KC := Lib.hid hk
  have HE := Lib.hid (enc_4 op r1 r2 x2 b1 d1 b2 d2 l1 l2 i2 hl)
  obtain ⟨p0, p1⟩ := isOp_range hi
  have HC := Lib.hid hc
  have vx : IntKind.i64.wrap (i2) = i2 := wrap_i64_id (by omega) (by omega)
  have vy : IntKind.u8.wrap (i2) = i2 := wrap_u8_id (by omega) (by omega)
  have vo : IntKind.u8.wrap op = op := wrap_u8_id (by omega) (by omega)
  have hx : 0 ≤ i2 ∧ i2 ≤ 255 := by omega
  have AC0 := Lib.hid (fun W => addr_c b1 d1 W (by omega) (by omega) (by omega) (by omega))
  have hy0 : (0 ≤ 16 * b1 + d1 / 256 ∧ 16 * b1 + d1 / 256 ≤ 255) ∧ (0 ≤ d1 % 256 ∧ d1 % 256 ≤ 255) := by omega
  clear hk hc hi hf hl
  go_enter Try.func16, Try.ntmps16
  have HB0 := Lib.hid ((Below.refl w.heap.size w).alloc (Nat.le_refl _) (.cells #[.int .i64 op, .int .i64 4, .int .i64 r1, .int .i64 r2, .int .i64 x2, .int .i64 b1, .int .i64 d1, .int .i64 b2, .int .i64 d2, .int .i64 l1, .int .i64 l2, .int .i64 i2] 28))
  have B0 := Lib.hid (show Blk (w.alloc (.cells #[.int .i64 op, .int .i64 4, .int .i64 r1, .int .i64 r2, .int .i64 x2, .int .i64 b1, .int .i64 d1, .int .i64 b2, .int .i64 d2, .int .i64 l1, .int .i64 l2, .int .i64 i2] 28)) w.heap.size 28 [op, 4, r1, r2, x2, b1, d1, b2, d2, l1, l2, i2] from heap_alloc_new w _)
  go_upto_region 4 with (go_at_call 18; refine (KC.out _).mono ?_; rintro e W ⟨rfl, hb⟩; have HB1 := Lib.hid (HB0.out.trans (hb.mono HB0.out.size)); have B1 := Lib.hid (B0.out.keep hb); clear hb)
  have S0 := Lib.hid (ES.start (z := op) B1.out HB1.out (by omega))
  have k0 : W.cell? ⟨w.heap.size, 0, none⟩ = some (.int .i64 op) := B1.out.cell (c := 0) (by simp)
  have k1 : W.cell? ⟨w.heap.size, 1, none⟩ = some (.int .i64 4) := B1.out.cell (c := 1) (by simp)
  have k2 : W.cell? ⟨w.heap.size, 2, none⟩ = some (.int .i64 r1) := B1.out.cell (c := 2) (by simp)
  have k3 : W.cell? ⟨w.heap.size, 3, none⟩ = some (.int .i64 r2) := B1.out.cell (c := 3) (by simp)
  have k4 : W.cell? ⟨w.heap.size, 4, none⟩ = some (.int .i64 x2) := B1.out.cell (c := 4) (by simp)
  have k5 : W.cell? ⟨w.heap.size, 5, none⟩ = some (.int .i64 b1) := B1.out.cell (c := 5) (by simp)
  have k6 : W.cell? ⟨w.heap.size, 6, none⟩ = some (.int .i64 d1) := B1.out.cell (c := 6) (by simp)
  have k7 : W.cell? ⟨w.heap.size, 7, none⟩ = some (.int .i64 b2) := B1.out.cell (c := 7) (by simp)
  have k8 : W.cell? ⟨w.heap.size, 8, none⟩ = some (.int .i64 d2) := B1.out.cell (c := 8) (by simp)
  have k9 : W.cell? ⟨w.heap.size, 9, none⟩ = some (.int .i64 l1) := B1.out.cell (c := 9) (by simp)
  have k10 : W.cell? ⟨w.heap.size, 10, none⟩ = some (.int .i64 l2) := B1.out.cell (c := 10) (by simp)
  have k11 : W.cell? ⟨w.heap.size, 11, none⟩ = some (.int .i64 i2) := B1.out.cell (c := 11) (by simp)
  go_upto_region 5 with fail
  obtain ⟨W1, hW1⟩ : ∃ W1, W.alloc (.cells #[.int .u8 op] 5) = W1 := ⟨_, rfl⟩
  rw [hW1] at S0
  rw [hW1]
  obtain ⟨g1, hg1⟩ : ∃ g1, W.heap.size = g1 := ⟨_, rfl⟩
  rw [hg1] at S0
  simp only [hg1]
  clear hW1 hg1 B1 HB1 B0 HB0 KC k0 k1 k2 k3 k4 k5 k6 k7 k8 k9 k10 k11
  obtain ⟨B, hB⟩ : ∃ B, g1 = B := ⟨_, rfl⟩
  have S1 : Hid (ES w W1 B (.slice (some ⟨g1, 0, none⟩) 1 1) 1 [op] [op, 4, r1, r2, x2, b1, d1, b2, d2, l1, l2, i2]) := by rw [← hB]; exact S0
  clear S0 hB
  obtain ⟨c1, hc1⟩ : ∃ c : Nat, c = 1 := ⟨_, rfl⟩
  have k0 : W1.cell? ⟨w.heap.size, 0, none⟩ = some (.int .i64 op) := S1.out.2.1.cell (c := 0) (by simp)
  have k1 : W1.cell? ⟨w.heap.size, 1, none⟩ = some (.int .i64 4) := S1.out.2.1.cell (c := 1) (by simp)
  have k2 : W1.cell? ⟨w.heap.size, 2, none⟩ = some (.int .i64 r1) := S1.out.2.1.cell (c := 2) (by simp)
  have k3 : W1.cell? ⟨w.heap.size, 3, none⟩ = some (.int .i64 r2) := S1.out.2.1.cell (c := 3) (by simp)
  have k4 : W1.cell? ⟨w.heap.size, 4, none⟩ = some (.int .i64 x2) := S1.out.2.1.cell (c := 4) (by simp)
  have k5 : W1.cell? ⟨w.heap.size, 5, none⟩ = some (.int .i64 b1) := S1.out.2.1.cell (c := 5) (by simp)
  have k6 : W1.cell? ⟨w.heap.size, 6, none⟩ = some (.int .i64 d1) := S1.out.2.1.cell (c := 6) (by simp)
  have k7 : W1.cell? ⟨w.heap.size, 7, none⟩ = some (.int .i64 b2) := S1.out.2.1.cell (c := 7) (by simp)
  have k8 : W1.cell? ⟨w.heap.size, 8, none⟩ = some (.int .i64 d2) := S1.out.2.1.cell (c := 8) (by simp)
  have k9 : W1.cell? ⟨w.heap.size, 9, none⟩ = some (.int .i64 l1) := S1.out.2.1.cell (c := 9) (by simp)
  have k10 : W1.cell? ⟨w.heap.size, 10, none⟩ = some (.int .i64 l2) := S1.out.2.1.cell (c := 10) (by simp)
  have k11 : W1.cell? ⟨w.heap.size, 11, none⟩ = some (.int .i64 i2) := S1.out.2.1.cell (c := 11) (by simp)
  go_upto_region 15 with fail
  go_upto_region 22 with (at_builtin; refine wpList_append_bytes rfl _ _ rfl B (.slice (some ⟨g1, 0, none⟩) 1 1) 1 [op] rfl (S1.out.alloc _).1 (some ⟨W1.heap.size, 0, none⟩) 1 1 [i2] rfl (byt_new W1 [i2] (by intro z hz; simp at hz; omega) _ rfl 1 rfl _) (by simp) (by omega) (by have := S1.out.2.2.2.2; simp; omega) (fun v' W2 ho hg => ?_); obtain ⟨g2, c2, rfl, -, -, -, -⟩ := ho.pos (by omega); have S2 := Lib.hid ((S1.out.alloc _).grow ho hg); clear ho hg)
  clear S1 k0 k1 k2 k3 k4 k5 k6 k7 k8 k9 k10 k11
  have k0 : W2.cell? ⟨w.heap.size, 0, none⟩ = some (.int .i64 op) := S2.out.2.1.cell (c := 0) (by simp)
  have k1 : W2.cell? ⟨w.heap.size, 1, none⟩ = some (.int .i64 4) := S2.out.2.1.cell (c := 1) (by simp)
  have k2 : W2.cell? ⟨w.heap.size, 2, none⟩ = some (.int .i64 r1) := S2.out.2.1.cell (c := 2) (by simp)
  have k3 : W2.cell? ⟨w.heap.size, 3, none⟩ = some (.int .i64 r2) := S2.out.2.1.cell (c := 3) (by simp)
  have k4 : W2.cell? ⟨w.heap.size, 4, none⟩ = some (.int .i64 x2) := S2.out.2.1.cell (c := 4) (by simp)
  have k5 : W2.cell? ⟨w.heap.size, 5, none⟩ = some (.int .i64 b1) := S2.out.2.1.cell (c := 5) (by simp)
  have k6 : W2.cell? ⟨w.heap.size, 6, none⟩ = some (.int .i64 d1) := S2.out.2.1.cell (c := 6) (by simp)
  have k7 : W2.cell? ⟨w.heap.size, 7, none⟩ = some (.int .i64 b2) := S2.out.2.1.cell (c := 7) (by simp)
  have k8 : W2.cell? ⟨w.heap.size, 8, none⟩ = some (.int .i64 d2) := S2.out.2.1.cell (c := 8) (by simp)
  have k9 : W2.cell? ⟨w.heap.size, 9, none⟩ = some (.int .i64 l1) := S2.out.2.1.cell (c := 9) (by simp)
  have k10 : W2.cell? ⟨w.heap.size, 10, none⟩ = some (.int .i64 l2) := S2.out.2.1.cell (c := 10) (by simp)
  have k11 : W2.cell? ⟨w.heap.size, 11, none⟩ = some (.int .i64 i2) := S2.out.2.1.cell (c := 11) (by simp)
  go_upto_region 28 with fail
  go_upto_region 33 with (first | (go_at_call 34; refine (AC0.out _).mono ?_; rintro e wx ⟨rfl, rfl⟩) | (at_builtin; refine wpList_append_bytes rfl _ _ rfl B (.slice (some ⟨g2, 0, none⟩) 2 c2) 2 [op, i2] rfl (S2.out.alloc _).1 (some ⟨W2.heap.size, 0, none⟩) 2 2 [16 * b1 + d1 / 256, d1 % 256] rfl (byt_new W2 [16 * b1 + d1 / 256, d1 % 256] (by intro z hz; simp at hz; rcases hz with rfl | rfl <;> omega) _ rfl 2 rfl _) (by simp) (by omega) (by have := S2.out.2.2.2.2; simp; omega) (fun v' W3 ho hg => ?_); obtain ⟨g3, c3, rfl, -, -, -, -⟩ := ho.pos (by omega); have S3 := Lib.hid ((S2.out.alloc _).grow ho hg); clear ho hg))
  clear S2 k0 k1 k2 k3 k4 k5 k6 k7 k8 k9 k10 k11
  have k0 : W3.cell? ⟨w.heap.size, 0, none⟩ = some (.int .i64 op) := S3.out.2.1.cell (c := 0) (by simp)
  have k1 : W3.cell? ⟨w.heap.size, 1, none⟩ = some (.int .i64 4) := S3.out.2.1.cell (c := 1) (by simp)
  have k2 : W3.cell? ⟨w.heap.size, 2, none⟩ = some (.int .i64 r1) := S3.out.2.1.cell (c := 2) (by simp)
  have k3 : W3.cell? ⟨w.heap.size, 3, none⟩ = some (.int .i64 r2) := S3.out.2.1.cell (c := 3) (by simp)
  have k4 : W3.cell? ⟨w.heap.size, 4, none⟩ = some (.int .i64 x2) := S3.out.2.1.cell (c := 4) (by simp)
  have k5 : W3.cell? ⟨w.heap.size, 5, none⟩ = some (.int .i64 b1) := S3.out.2.1.cell (c := 5) (by simp)
  have k6 : W3.cell? ⟨w.heap.size, 6, none⟩ = some (.int .i64 d1) := S3.out.2.1.cell (c := 6) (by simp)
  have k7 : W3.cell? ⟨w.heap.size, 7, none⟩ = some (.int .i64 b2) := S3.out.2.1.cell (c := 7) (by simp)
  have k8 : W3.cell? ⟨w.heap.size, 8, none⟩ = some (.int .i64 d2) := S3.out.2.1.cell (c := 8) (by simp)
  have k9 : W3.cell? ⟨w.heap.size, 9, none⟩ = some (.int .i64 l1) := S3.out.2.1.cell (c := 9) (by simp)
  have k10 : W3.cell? ⟨w.heap.size, 10, none⟩ = some (.int .i64 l2) := S3.out.2.1.cell (c := 10) (by simp)
  have k11 : W3.cell? ⟨w.heap.size, 11, none⟩ = some (.int .i64 i2) := S3.out.2.1.cell (c := 11) (by simp)
  go_wp2
  go_returns
  refine ⟨some ⟨g3, 0, none⟩, c3, rfl, ?_, S3.out.2.2.1⟩
  have hY := S3.out.1.byt
  have hC := HC.out
  rw [HE.out]
  refine Eq.subst (motive := fun l => Byt _ _ _ l) ?_ hY
  simp only [List.cons_append, List.nil_append, List.cons.injEq, and_true, true_and]
  omega
end Go.Proofs.Ytfbcjpbfggbhfaa
