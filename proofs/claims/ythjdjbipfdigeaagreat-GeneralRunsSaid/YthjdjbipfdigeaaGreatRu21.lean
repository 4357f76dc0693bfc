/- Contracts and laws on the way to the statement, text 21 of 24. Conditions: as each states them. -/
import Derived.Test.YthjdjbipfdigeaaGreatRu19
import Derived.Test.YthjdjbipfdigeaaGreatRu20
import Derived.Deep.Cut
import Derived.BigRegion
namespace Go.Proofs.YthjdjbipfdigeaaGreat
open Go.RowKit
set_option linter.unusedVariables false
set_option linter.unusedSimpArgs false
theorem fm_len : ∀ k, k < 97 → 1 ≤ fmK k ∧ fmK k ≤ 9 ∧ lenOf (opK k) = (if fmK k = 1 ∨ fmK k = 7 ∨ fmK k = 8 then 2 else if fmK k = 5 ∨ fmK k = 6 then 6 else 4) := by decide +kernel
theorem form_len {op : Int} (h : isOp op = true) : 1 ≤ fmOf op ∧ fmOf op ≤ 9 ∧ lenOf op = (if fmOf op = 1 ∨ fmOf op = 7 ∨ fmOf op = 8 then 2 else if fmOf op = 5 ∨ fmOf op = 6 then 6 else 4) := by
  unfold isOp at h; rw [decide_eq_true_iff] at h
  have h1 := fm_len (ix op) h
  rw [ix_op h] at h1
  unfold fmOf
  rw [if_pos h]; exact h1
theorem form_cases {op : Int} (h : isOp op = true) : (fmOf op = 1 ∧ lenOf op = 2) ∨ (fmOf op = 7 ∧ lenOf op = 2) ∨ (fmOf op = 8 ∧ lenOf op = 2) ∨ (fmOf op = 2 ∧ lenOf op = 4) ∨ (fmOf op = 3 ∧ lenOf op = 4) ∨ (fmOf op = 4 ∧ lenOf op = 4) ∨ (fmOf op = 9 ∧ lenOf op = 4) ∨ (fmOf op = 5 ∧ lenOf op = 6) ∨ (fmOf op = 6 ∧ lenOf op = 6) := by
  obtain ⟨h1, h2, h3⟩ := form_len h
  have : fmOf op = 1 ∨ fmOf op = 7 ∨ fmOf op = 8 ∨ fmOf op = 2 ∨ fmOf op = 3 ∨ fmOf op = 4 ∨ fmOf op = 9 ∨ fmOf op = 5 ∨ fmOf op = 6 := by omega
  rcases this with h | h | h | h | h | h | h | h | h <;> rw [h] at h3 <;> simp at h3 <;> simp [h, h3]
theorem chk_1 (op r1 r2 x2 b1 d1 b2 d2 l1 l2 i2 : Int) (hi : isOp op = true) (hf : fmOf op = 1) : chk op 1 [op, 1, r1, r2, x2, b1, d1, b2, d2, l1, l2, i2] = if (0 ≤ r1 ∧ r1 < 16) ∧ (0 ≤ r2 ∧ r2 < 16) ∧ x2 = 0 ∧ b1 = 0 ∧ d1 = 0 ∧ b2 = 0 ∧ d2 = 0 ∧ l1 = 0 ∧ l2 = 0 ∧ i2 = 0 then 0 else 6 := by
  unfold chk
  rw [if_pos ⟨hi, hf⟩]
  by_cases h : (0 ≤ r1 ∧ r1 < 16) ∧ (0 ≤ r2 ∧ r2 < 16) ∧ x2 = 0 ∧ b1 = 0 ∧ d1 = 0 ∧ b2 = 0 ∧ d2 = 0 ∧ l1 = 0 ∧ l2 = 0 ∧ i2 = 0
  · rw [if_pos h]
    have hh := h
    simp [lay, scan]
    (repeat' split) <;> first | rfl | (exfalso; simp_all; done) | (exfalso; simp_all; omega) | omega | (rename_i ys heq hy; subst hy; exfalso; (repeat' split at heq) <;> first | (cases heq; done) | (simp_all; done) | (simp_all; omega))
  · rw [if_neg h]
    simp [lay, scan]
    (repeat' split) <;> first | rfl | (exfalso; simp_all; done) | (exfalso; simp_all; omega) | omega | (rename_i ys heq hy; subst hy; exfalso; (repeat' split at heq) <;> first | (cases heq; done) | (simp_all; done) | (simp_all; omega))
theorem chk_7 (op r1 r2 x2 b1 d1 b2 d2 l1 l2 i2 : Int) (hi : isOp op = true) (hf : fmOf op = 7) : chk op 7 [op, 7, r1, r2, x2, b1, d1, b2, d2, l1, l2, i2] = if r1 = 0 ∧ r2 = 0 ∧ x2 = 0 ∧ b1 = 0 ∧ d1 = 0 ∧ b2 = 0 ∧ d2 = 0 ∧ l1 = 0 ∧ l2 = 0 ∧ (0 ≤ i2 ∧ i2 < 256) then 0 else 6 := by
  unfold chk
  rw [if_pos ⟨hi, hf⟩]
  by_cases h : r1 = 0 ∧ r2 = 0 ∧ x2 = 0 ∧ b1 = 0 ∧ d1 = 0 ∧ b2 = 0 ∧ d2 = 0 ∧ l1 = 0 ∧ l2 = 0 ∧ (0 ≤ i2 ∧ i2 < 256)
  · rw [if_pos h]
    have hh := h
    simp [lay, scan]
    (repeat' split) <;> first | rfl | (exfalso; simp_all; done) | (exfalso; simp_all; omega) | omega | (rename_i ys heq hy; subst hy; exfalso; (repeat' split at heq) <;> first | (cases heq; done) | (simp_all; done) | (simp_all; omega))
  · rw [if_neg h]
    simp [lay, scan]
    (repeat' split) <;> first | rfl | (exfalso; simp_all; done) | (exfalso; simp_all; omega) | omega | (rename_i ys heq hy; subst hy; exfalso; (repeat' split at heq) <;> first | (cases heq; done) | (simp_all; done) | (simp_all; omega))
theorem chk_8 (op r1 r2 x2 b1 d1 b2 d2 l1 l2 i2 : Int) (hi : isOp op = true) (hf : fmOf op = 8) : chk op 8 [op, 8, r1, r2, x2, b1, d1, b2, d2, l1, l2, i2] = if (0 ≤ r1 ∧ r1 < 16) ∧ r2 = 0 ∧ x2 = 0 ∧ b1 = 0 ∧ d1 = 0 ∧ b2 = 0 ∧ d2 = 0 ∧ l1 = 0 ∧ l2 = 0 ∧ i2 = 0 then 0 else 6 := by
  unfold chk
  rw [if_pos ⟨hi, hf⟩]
  by_cases h : (0 ≤ r1 ∧ r1 < 16) ∧ r2 = 0 ∧ x2 = 0 ∧ b1 = 0 ∧ d1 = 0 ∧ b2 = 0 ∧ d2 = 0 ∧ l1 = 0 ∧ l2 = 0 ∧ i2 = 0
  · rw [if_pos h]
    have hh := h
    simp [lay, scan]
    (repeat' split) <;> first | rfl | (exfalso; simp_all; done) | (exfalso; simp_all; omega) | omega | (rename_i ys heq hy; subst hy; exfalso; (repeat' split at heq) <;> first | (cases heq; done) | (simp_all; done) | (simp_all; omega))
  · rw [if_neg h]
    simp [lay, scan]
    (repeat' split) <;> first | rfl | (exfalso; simp_all; done) | (exfalso; simp_all; omega) | omega | (rename_i ys heq hy; subst hy; exfalso; (repeat' split at heq) <;> first | (cases heq; done) | (simp_all; done) | (simp_all; omega))
theorem chk_2 (op r1 r2 x2 b1 d1 b2 d2 l1 l2 i2 : Int) (hi : isOp op = true) (hf : fmOf op = 2) : chk op 2 [op, 2, r1, r2, x2, b1, d1, b2, d2, l1, l2, i2] = if (0 ≤ r1 ∧ r1 < 16) ∧ r2 = 0 ∧ (0 ≤ x2 ∧ x2 < 16) ∧ b1 = 0 ∧ d1 = 0 ∧ (0 ≤ b2 ∧ b2 < 16) ∧ (0 ≤ d2 ∧ d2 < 4096) ∧ l1 = 0 ∧ l2 = 0 ∧ i2 = 0 then 0 else 6 := by
  unfold chk
  rw [if_pos ⟨hi, hf⟩]
  by_cases h : (0 ≤ r1 ∧ r1 < 16) ∧ r2 = 0 ∧ (0 ≤ x2 ∧ x2 < 16) ∧ b1 = 0 ∧ d1 = 0 ∧ (0 ≤ b2 ∧ b2 < 16) ∧ (0 ≤ d2 ∧ d2 < 4096) ∧ l1 = 0 ∧ l2 = 0 ∧ i2 = 0
  · rw [if_pos h]
    have hh := h
    simp [lay, scan]
    (repeat' split) <;> first | rfl | (exfalso; simp_all; done) | (exfalso; simp_all; omega) | omega | (rename_i ys heq hy; subst hy; exfalso; (repeat' split at heq) <;> first | (cases heq; done) | (simp_all; done) | (simp_all; omega))
  · rw [if_neg h]
    simp [lay, scan]
    (repeat' split) <;> first | rfl | (exfalso; simp_all; done) | (exfalso; simp_all; omega) | omega | (rename_i ys heq hy; subst hy; exfalso; (repeat' split at heq) <;> first | (cases heq; done) | (simp_all; done) | (simp_all; omega))
theorem chk_3 (op r1 r2 x2 b1 d1 b2 d2 l1 l2 i2 : Int) (hi : isOp op = true) (hf : fmOf op = 3) : chk op 3 [op, 3, r1, r2, x2, b1, d1, b2, d2, l1, l2, i2] = if (0 ≤ r1 ∧ r1 < 16) ∧ (0 ≤ r2 ∧ r2 < 16) ∧ x2 = 0 ∧ b1 = 0 ∧ d1 = 0 ∧ (0 ≤ b2 ∧ b2 < 16) ∧ (0 ≤ d2 ∧ d2 < 4096) ∧ l1 = 0 ∧ l2 = 0 ∧ i2 = 0 then 0 else 6 := by
  unfold chk
  rw [if_pos ⟨hi, hf⟩]
  by_cases h : (0 ≤ r1 ∧ r1 < 16) ∧ (0 ≤ r2 ∧ r2 < 16) ∧ x2 = 0 ∧ b1 = 0 ∧ d1 = 0 ∧ (0 ≤ b2 ∧ b2 < 16) ∧ (0 ≤ d2 ∧ d2 < 4096) ∧ l1 = 0 ∧ l2 = 0 ∧ i2 = 0
  · rw [if_pos h]
    have hh := h
    simp [lay, scan]
    (repeat' split) <;> first | rfl | (exfalso; simp_all; done) | (exfalso; simp_all; omega) | omega | (rename_i ys heq hy; subst hy; exfalso; (repeat' split at heq) <;> first | (cases heq; done) | (simp_all; done) | (simp_all; omega))
  · rw [if_neg h]
    simp [lay, scan]
    (repeat' split) <;> first | rfl | (exfalso; simp_all; done) | (exfalso; simp_all; omega) | omega | (rename_i ys heq hy; subst hy; exfalso; (repeat' split at heq) <;> first | (cases heq; done) | (simp_all; done) | (simp_all; omega))
theorem chk_4 (op r1 r2 x2 b1 d1 b2 d2 l1 l2 i2 : Int) (hi : isOp op = true) (hf : fmOf op = 4) : chk op 4 [op, 4, r1, r2, x2, b1, d1, b2, d2, l1, l2, i2] = if r1 = 0 ∧ r2 = 0 ∧ x2 = 0 ∧ (0 ≤ b1 ∧ b1 < 16) ∧ (0 ≤ d1 ∧ d1 < 4096) ∧ b2 = 0 ∧ d2 = 0 ∧ l1 = 0 ∧ l2 = 0 ∧ (0 ≤ i2 ∧ i2 < 256) then 0 else 6 := by
  unfold chk
  rw [if_pos ⟨hi, hf⟩]
  by_cases h : r1 = 0 ∧ r2 = 0 ∧ x2 = 0 ∧ (0 ≤ b1 ∧ b1 < 16) ∧ (0 ≤ d1 ∧ d1 < 4096) ∧ b2 = 0 ∧ d2 = 0 ∧ l1 = 0 ∧ l2 = 0 ∧ (0 ≤ i2 ∧ i2 < 256)
  · rw [if_pos h]
    have hh := h
    simp [lay, scan]
    (repeat' split) <;> first | rfl | (exfalso; simp_all; done) | (exfalso; simp_all; omega) | omega | (rename_i ys heq hy; subst hy; exfalso; (repeat' split at heq) <;> first | (cases heq; done) | (simp_all; done) | (simp_all; omega))
  · rw [if_neg h]
    simp [lay, scan]
    (repeat' split) <;> first | rfl | (exfalso; simp_all; done) | (exfalso; simp_all; omega) | omega | (rename_i ys heq hy; subst hy; exfalso; (repeat' split at heq) <;> first | (cases heq; done) | (simp_all; done) | (simp_all; omega))
theorem chk_9 (op r1 r2 x2 b1 d1 b2 d2 l1 l2 i2 : Int) (hi : isOp op = true) (hf : fmOf op = 9) : chk op 9 [op, 9, r1, r2, x2, b1, d1, b2, d2, l1, l2, i2] = if r1 = 0 ∧ r2 = 0 ∧ x2 = 0 ∧ (0 ≤ b1 ∧ b1 < 16) ∧ (0 ≤ d1 ∧ d1 < 4096) ∧ b2 = 0 ∧ d2 = 0 ∧ l1 = 0 ∧ l2 = 0 ∧ i2 = 0 then 0 else 6 := by
  unfold chk
  rw [if_pos ⟨hi, hf⟩]
  by_cases h : r1 = 0 ∧ r2 = 0 ∧ x2 = 0 ∧ (0 ≤ b1 ∧ b1 < 16) ∧ (0 ≤ d1 ∧ d1 < 4096) ∧ b2 = 0 ∧ d2 = 0 ∧ l1 = 0 ∧ l2 = 0 ∧ i2 = 0
  · rw [if_pos h]
    have hh := h
    simp [lay, scan]
    (repeat' split) <;> first | rfl | (exfalso; simp_all; done) | (exfalso; simp_all; omega) | omega | (rename_i ys heq hy; subst hy; exfalso; (repeat' split at heq) <;> first | (cases heq; done) | (simp_all; done) | (simp_all; omega))
  · rw [if_neg h]
    simp [lay, scan]
    (repeat' split) <;> first | rfl | (exfalso; simp_all; done) | (exfalso; simp_all; omega) | omega | (rename_i ys heq hy; subst hy; exfalso; (repeat' split at heq) <;> first | (cases heq; done) | (simp_all; done) | (simp_all; omega))
theorem chk_5 (op r1 r2 x2 b1 d1 b2 d2 l1 l2 i2 : Int) (hi : isOp op = true) (hf : fmOf op = 5) : chk op 5 [op, 5, r1, r2, x2, b1, d1, b2, d2, l1, l2, i2] = if r1 = 0 ∧ r2 = 0 ∧ x2 = 0 ∧ (0 ≤ b1 ∧ b1 < 16) ∧ (0 ≤ d1 ∧ d1 < 4096) ∧ (0 ≤ b2 ∧ b2 < 16) ∧ (0 ≤ d2 ∧ d2 < 4096) ∧ (0 ≤ l1 ∧ l1 < 256) ∧ l2 = 0 ∧ i2 = 0 then 0 else 6 := by
  unfold chk
  rw [if_pos ⟨hi, hf⟩]
  by_cases h : r1 = 0 ∧ r2 = 0 ∧ x2 = 0 ∧ (0 ≤ b1 ∧ b1 < 16) ∧ (0 ≤ d1 ∧ d1 < 4096) ∧ (0 ≤ b2 ∧ b2 < 16) ∧ (0 ≤ d2 ∧ d2 < 4096) ∧ (0 ≤ l1 ∧ l1 < 256) ∧ l2 = 0 ∧ i2 = 0
  · rw [if_pos h]
    have hh := h
    simp [lay, scan]
    (repeat' split) <;> first | rfl | (exfalso; simp_all; done) | (exfalso; simp_all; omega) | omega | (rename_i ys heq hy; subst hy; exfalso; (repeat' split at heq) <;> first | (cases heq; done) | (simp_all; done) | (simp_all; omega))
  · rw [if_neg h]
    simp [lay, scan]
    (repeat' split) <;> first | rfl | (exfalso; simp_all; done) | (exfalso; simp_all; omega) | omega | (rename_i ys heq hy; subst hy; exfalso; (repeat' split at heq) <;> first | (cases heq; done) | (simp_all; done) | (simp_all; omega))
theorem chk_6 (op r1 r2 x2 b1 d1 b2 d2 l1 l2 i2 : Int) (hi : isOp op = true) (hf : fmOf op = 6) : chk op 6 [op, 6, r1, r2, x2, b1, d1, b2, d2, l1, l2, i2] = if r1 = 0 ∧ r2 = 0 ∧ x2 = 0 ∧ (0 ≤ b1 ∧ b1 < 16) ∧ (0 ≤ d1 ∧ d1 < 4096) ∧ (0 ≤ b2 ∧ b2 < 16) ∧ (0 ≤ d2 ∧ d2 < 4096) ∧ (0 ≤ l1 ∧ l1 < 16) ∧ (0 ≤ l2 ∧ l2 < 16) ∧ i2 = 0 then 0 else 6 := by
  unfold chk
  rw [if_pos ⟨hi, hf⟩]
  by_cases h : r1 = 0 ∧ r2 = 0 ∧ x2 = 0 ∧ (0 ≤ b1 ∧ b1 < 16) ∧ (0 ≤ d1 ∧ d1 < 4096) ∧ (0 ≤ b2 ∧ b2 < 16) ∧ (0 ≤ d2 ∧ d2 < 4096) ∧ (0 ≤ l1 ∧ l1 < 16) ∧ (0 ≤ l2 ∧ l2 < 16) ∧ i2 = 0
  · rw [if_pos h]
    have hh := h
    simp [lay, scan]
    (repeat' split) <;> first | rfl | (exfalso; simp_all; done) | (exfalso; simp_all; omega) | omega | (rename_i ys heq hy; subst hy; exfalso; (repeat' split at heq) <;> first | (cases heq; done) | (simp_all; done) | (simp_all; omega))
  · rw [if_neg h]
    simp [lay, scan]
    (repeat' split) <;> first | rfl | (exfalso; simp_all; done) | (exfalso; simp_all; omega) | omega | (rename_i ys heq hy; subst hy; exfalso; (repeat' split at heq) <;> first | (cases heq; done) | (simp_all; done) | (simp_all; omega))
end Go.Proofs.YthjdjbipfdigeaaGreat

namespace Go.Proofs.YthjdjbipfdigeaaGreat
open Go.RowKit
set_option linter.unusedVariables false
set_option linter.unusedSimpArgs false
set_option maxRecDepth 1000000 in
set_option maxHeartbeats 4000000 in
theorem own_1 (op r1 r2 x2 b1 d1 b2 d2 l1 l2 i2 : Int) (w : World) : Calls Tryz.prog 52 #[.agg #[.int .i64 op, .int .i64 1, .int .i64 r1, .int .i64 r2, .int .i64 x2, .int .i64 b1, .int .i64 d1, .int .i64 b2, .int .i64 d2, .int .i64 l1, .int .i64 l2, .int .i64 i2]] w fun e w' => e = .returned (.agg #[.int .i64 op, .int .i64 1, .int .i64 r1, .int .i64 r2, .int .i64 0, .int .i64 0, .int .i64 0, .int .i64 0, .int .i64 0, .int .i64 0, .int .i64 0, .int .i64 0]) ∧ Below w.heap.size w w' := by
  go_enter Tryz.func52, Tryz.ntmps52
  go_upto_region 2 with fail
  have HB := Lib.hid (show Below w.heap.size w (((w.alloc (.cells #[.int .i64 op, .int .i64 1, .int .i64 r1, .int .i64 r2, .int .i64 x2, .int .i64 b1, .int .i64 d1, .int .i64 b2, .int .i64 d2, .int .i64 l1, .int .i64 l2, .int .i64 i2] 23)).alloc (.cells #[.int .i64 0, .int .i64 0, .int .i64 0, .int .i64 0, .int .i64 0, .int .i64 0, .int .i64 0, .int .i64 0, .int .i64 0, .int .i64 0, .int .i64 0, .int .i64 0] 23)).alloc (.cells #[.int .i64 op, .int .i64 1, .int .i64 0, .int .i64 0, .int .i64 0, .int .i64 0, .int .i64 0, .int .i64 0, .int .i64 0, .int .i64 0, .int .i64 0, .int .i64 0] 23)) from (((Below.refl _ _).alloc (Nat.le_refl _) _).alloc (by simp) _).alloc (by simp; omega) _)
  have q0 : Blk (((w.alloc (.cells #[.int .i64 op, .int .i64 1, .int .i64 r1, .int .i64 r2, .int .i64 x2, .int .i64 b1, .int .i64 d1, .int .i64 b2, .int .i64 d2, .int .i64 l1, .int .i64 l2, .int .i64 i2] 23)).alloc (.cells #[.int .i64 0, .int .i64 0, .int .i64 0, .int .i64 0, .int .i64 0, .int .i64 0, .int .i64 0, .int .i64 0, .int .i64 0, .int .i64 0, .int .i64 0, .int .i64 0] 23)).alloc (.cells #[.int .i64 op, .int .i64 1, .int .i64 0, .int .i64 0, .int .i64 0, .int .i64 0, .int .i64 0, .int .i64 0, .int .i64 0, .int .i64 0, .int .i64 0, .int .i64 0] 23)) w.heap.size 23 [op, 1, r1, r2, x2, b1, d1, b2, d2, l1, l2, i2] := by refine Blk.alloc (Blk.alloc ?_ _) _; exact heap_alloc_new w _
  have q1 : Blk (((w.alloc (.cells #[.int .i64 op, .int .i64 1, .int .i64 r1, .int .i64 r2, .int .i64 x2, .int .i64 b1, .int .i64 d1, .int .i64 b2, .int .i64 d2, .int .i64 l1, .int .i64 l2, .int .i64 i2] 23)).alloc (.cells #[.int .i64 0, .int .i64 0, .int .i64 0, .int .i64 0, .int .i64 0, .int .i64 0, .int .i64 0, .int .i64 0, .int .i64 0, .int .i64 0, .int .i64 0, .int .i64 0] 23)).alloc (.cells #[.int .i64 op, .int .i64 1, .int .i64 0, .int .i64 0, .int .i64 0, .int .i64 0, .int .i64 0, .int .i64 0, .int .i64 0, .int .i64 0, .int .i64 0, .int .i64 0] 23)) (w.heap.size + 1) 23 [0, 0, 0, 0, 0, 0, 0, 0, 0, 0, 0, 0] := by refine Blk.alloc ?_ _; exact heap_alloc2_new w _ _
  have q2 : Blk (((w.alloc (.cells #[.int .i64 op, .int .i64 1, .int .i64 r1, .int .i64 r2, .int .i64 x2, .int .i64 b1, .int .i64 d1, .int .i64 b2, .int .i64 d2, .int .i64 l1, .int .i64 l2, .int .i64 i2] 23)).alloc (.cells #[.int .i64 0, .int .i64 0, .int .i64 0, .int .i64 0, .int .i64 0, .int .i64 0, .int .i64 0, .int .i64 0, .int .i64 0, .int .i64 0, .int .i64 0, .int .i64 0] 23)).alloc (.cells #[.int .i64 op, .int .i64 1, .int .i64 0, .int .i64 0, .int .i64 0, .int .i64 0, .int .i64 0, .int .i64 0, .int .i64 0, .int .i64 0, .int .i64 0, .int .i64 0] 23)) (w.heap.size + 1 + 1) 23 [op, 1, 0, 0, 0, 0, 0, 0, 0, 0, 0, 0] := by
    have := heap_alloc2_new (w.alloc (.cells #[.int .i64 op, .int .i64 1, .int .i64 r1, .int .i64 r2, .int .i64 x2, .int .i64 b1, .int .i64 d1, .int .i64 b2, .int .i64 d2, .int .i64 l1, .int .i64 l2, .int .i64 i2] 23)) (.cells #[.int .i64 0, .int .i64 0, .int .i64 0, .int .i64 0, .int .i64 0, .int .i64 0, .int .i64 0, .int .i64 0, .int .i64 0, .int .i64 0, .int .i64 0, .int .i64 0] 23) (.cells #[.int .i64 op, .int .i64 1, .int .i64 0, .int .i64 0, .int .i64 0, .int .i64 0, .int .i64 0, .int .i64 0, .int .i64 0, .int .i64 0, .int .i64 0, .int .i64 0] 23)
    rw [show (w.alloc (.cells #[.int .i64 op, .int .i64 1, .int .i64 r1, .int .i64 r2, .int .i64 x2, .int .i64 b1, .int .i64 d1, .int .i64 b2, .int .i64 d2, .int .i64 l1, .int .i64 l2, .int .i64 i2] 23)).heap.size = w.heap.size + 1 from by simp] at this; exact this
  obtain ⟨W0, hW0⟩ : ∃ W0, (((w.alloc (.cells #[.int .i64 op, .int .i64 1, .int .i64 r1, .int .i64 r2, .int .i64 x2, .int .i64 b1, .int .i64 d1, .int .i64 b2, .int .i64 d2, .int .i64 l1, .int .i64 l2, .int .i64 i2] 23)).alloc (.cells #[.int .i64 0, .int .i64 0, .int .i64 0, .int .i64 0, .int .i64 0, .int .i64 0, .int .i64 0, .int .i64 0, .int .i64 0, .int .i64 0, .int .i64 0, .int .i64 0] 23)).alloc (.cells #[.int .i64 op, .int .i64 1, .int .i64 0, .int .i64 0, .int .i64 0, .int .i64 0, .int .i64 0, .int .i64 0, .int .i64 0, .int .i64 0, .int .i64 0, .int .i64 0] 23)) = W0 := ⟨_, rfl⟩
  rw [hW0] at HB q0 q1 q2 ⊢
  clear hW0
  have c1 : W0.cell? ⟨w.heap.size, 1, none⟩ = some (.int .i64 1) := q0.cell (c := 1) (by simp)
  have c2 : W0.cell? ⟨w.heap.size, 2, none⟩ = some (.int .i64 r1) := q0.cell (c := 2) (by simp)
  have c3 : W0.cell? ⟨w.heap.size, 3, none⟩ = some (.int .i64 r2) := q0.cell (c := 3) (by simp)
  have e0 : W0.cell? ⟨w.heap.size + 1 + 1, 0, none⟩ = some (.int .i64 op) := q2.cell (c := 0) (by simp)
  have e1 : W0.cell? ⟨w.heap.size + 1 + 1, 1, none⟩ = some (.int .i64 1) := q2.cell (c := 1) (by simp)
  have e2 : W0.cell? ⟨w.heap.size + 1 + 1, 2, none⟩ = some (.int .i64 0) := q2.cell (c := 2) (by simp)
  have e3 : W0.cell? ⟨w.heap.size + 1 + 1, 3, none⟩ = some (.int .i64 0) := q2.cell (c := 3) (by simp)
  have e4 : W0.cell? ⟨w.heap.size + 1 + 1, 4, none⟩ = some (.int .i64 0) := q2.cell (c := 4) (by simp)
  have e5 : W0.cell? ⟨w.heap.size + 1 + 1, 5, none⟩ = some (.int .i64 0) := q2.cell (c := 5) (by simp)
  have e6 : W0.cell? ⟨w.heap.size + 1 + 1, 6, none⟩ = some (.int .i64 0) := q2.cell (c := 6) (by simp)
  have e7 : W0.cell? ⟨w.heap.size + 1 + 1, 7, none⟩ = some (.int .i64 0) := q2.cell (c := 7) (by simp)
  have e8 : W0.cell? ⟨w.heap.size + 1 + 1, 8, none⟩ = some (.int .i64 0) := q2.cell (c := 8) (by simp)
  have e9 : W0.cell? ⟨w.heap.size + 1 + 1, 9, none⟩ = some (.int .i64 0) := q2.cell (c := 9) (by simp)
  have e10 : W0.cell? ⟨w.heap.size + 1 + 1, 10, none⟩ = some (.int .i64 0) := q2.cell (c := 10) (by simp)
  have e11 : W0.cell? ⟨w.heap.size + 1 + 1, 11, none⟩ = some (.int .i64 0) := q2.cell (c := 11) (by simp)
  have f2 := q2.free 2
  have f3 := q2.free 3
  have HQ := Lib.hid (And.intro q0 (And.intro q1 q2))
  clear q0 q1 q2
  go_upto_region 4 with fail
  go_region
  go_upto_region 21 with fail
  have Q0 := Lib.hid HQ.out.2
  obtain ⟨W1, hW1⟩ : ∃ W1, ((W0.setCell ⟨w.heap.size + 1 + 1, 2, none⟩ (.int .i64 r1)).setCell ⟨w.heap.size + 1 + 1, 3, none⟩ (.int .i64 r2)).drew = W1 := ⟨_, rfl⟩
  rw [hW1]
  have HB1 : Below w.heap.size w W1 := by rw [← hW1]; exact dBelow' ((HB.out.setCell (p := ⟨w.heap.size + 1 + 1, 2, none⟩) (by simp; omega) (.int .i64 r1)).setCell (p := ⟨w.heap.size + 1 + 1, 3, none⟩) (by simp; omega) (.int .i64 r2)) 1
  have p1 : Blk W1 (w.heap.size + 1) 23 [0, 0, 0, 0, 0, 0, 0, 0, 0, 0, 0, 0] := by rw [← hW1]; exact Blk.drewN ((Q0.out.1.other (p := ⟨w.heap.size + 1 + 1, 2, none⟩) (.int .i64 r1) (by simp)).other (p := ⟨w.heap.size + 1 + 1, 3, none⟩) (.int .i64 r2) (by simp)) 1
  have p2 : Blk W1 (w.heap.size + 1 + 1) 23 [op, 1, r1, r2, 0, 0, 0, 0, 0, 0, 0, 0] := by rw [← hW1]; exact Blk.drewN ((Q0.out.2.set_ 2 r1).set_ 3 r2) 1
  clear hW1 Q0 HQ HB c2 c3 e0 e1 e2 e3 e4 e5 e6 e7 e8 e9 e10 e11 f2 f3
  have a0 : W1.cell? ⟨w.heap.size + 1 + 1, 0, none⟩ = some (.int .i64 op) := p2.cell (c := 0) (by simp)
  have z0 : W1.cell? ⟨w.heap.size + 1, 0, none⟩ = some (.int .i64 0) := p1.cell (c := 0) (by simp)
  have y0 := p1.free 0
  have a1 : W1.cell? ⟨w.heap.size + 1 + 1, 1, none⟩ = some (.int .i64 1) := p2.cell (c := 1) (by simp)
  have z1 : W1.cell? ⟨w.heap.size + 1, 1, none⟩ = some (.int .i64 0) := p1.cell (c := 1) (by simp)
  have y1 := p1.free 1
  have a2 : W1.cell? ⟨w.heap.size + 1 + 1, 2, none⟩ = some (.int .i64 r1) := p2.cell (c := 2) (by simp)
  have z2 : W1.cell? ⟨w.heap.size + 1, 2, none⟩ = some (.int .i64 0) := p1.cell (c := 2) (by simp)
  have y2 := p1.free 2
  have a3 : W1.cell? ⟨w.heap.size + 1 + 1, 3, none⟩ = some (.int .i64 r2) := p2.cell (c := 3) (by simp)
  have z3 : W1.cell? ⟨w.heap.size + 1, 3, none⟩ = some (.int .i64 0) := p1.cell (c := 3) (by simp)
  have y3 := p1.free 3
  have a4 : W1.cell? ⟨w.heap.size + 1 + 1, 4, none⟩ = some (.int .i64 0) := p2.cell (c := 4) (by simp)
  have z4 : W1.cell? ⟨w.heap.size + 1, 4, none⟩ = some (.int .i64 0) := p1.cell (c := 4) (by simp)
  have y4 := p1.free 4
  have a5 : W1.cell? ⟨w.heap.size + 1 + 1, 5, none⟩ = some (.int .i64 0) := p2.cell (c := 5) (by simp)
  have z5 : W1.cell? ⟨w.heap.size + 1, 5, none⟩ = some (.int .i64 0) := p1.cell (c := 5) (by simp)
  have y5 := p1.free 5
  have a6 : W1.cell? ⟨w.heap.size + 1 + 1, 6, none⟩ = some (.int .i64 0) := p2.cell (c := 6) (by simp)
  have z6 : W1.cell? ⟨w.heap.size + 1, 6, none⟩ = some (.int .i64 0) := p1.cell (c := 6) (by simp)
  have y6 := p1.free 6
  have a7 : W1.cell? ⟨w.heap.size + 1 + 1, 7, none⟩ = some (.int .i64 0) := p2.cell (c := 7) (by simp)
  have z7 : W1.cell? ⟨w.heap.size + 1, 7, none⟩ = some (.int .i64 0) := p1.cell (c := 7) (by simp)
  have y7 := p1.free 7
  have a8 : W1.cell? ⟨w.heap.size + 1 + 1, 8, none⟩ = some (.int .i64 0) := p2.cell (c := 8) (by simp)
  have z8 : W1.cell? ⟨w.heap.size + 1, 8, none⟩ = some (.int .i64 0) := p1.cell (c := 8) (by simp)
  have y8 := p1.free 8
  have a9 : W1.cell? ⟨w.heap.size + 1 + 1, 9, none⟩ = some (.int .i64 0) := p2.cell (c := 9) (by simp)
  have z9 : W1.cell? ⟨w.heap.size + 1, 9, none⟩ = some (.int .i64 0) := p1.cell (c := 9) (by simp)
  have y9 := p1.free 9
  have a10 : W1.cell? ⟨w.heap.size + 1 + 1, 10, none⟩ = some (.int .i64 0) := p2.cell (c := 10) (by simp)
  have z10 : W1.cell? ⟨w.heap.size + 1, 10, none⟩ = some (.int .i64 0) := p1.cell (c := 10) (by simp)
  have y10 := p1.free 10
  have a11 : W1.cell? ⟨w.heap.size + 1 + 1, 11, none⟩ = some (.int .i64 0) := p2.cell (c := 11) (by simp)
  have z11 : W1.cell? ⟨w.heap.size + 1, 11, none⟩ = some (.int .i64 0) := p1.cell (c := 11) (by simp)
  have y11 := p1.free 11
  have HP := Lib.hid (And.intro HB1 p1)
  clear HB1 p1 p2
  go_wp2
  refine bodyPost_ret (results_cell_row Tryz.results52 _ _ (w.heap.size + 1) 23 _ (0, 0) _ rfl (blk_sets12 HP.out.2 rfl op 1 r1 r2 0 0 0 0 0 0 0 0) Tryz.underlying23 rfl (by kernel_rfl)) rfl ?_
  exact ⟨rfl, below_sets12 HP.out.1 (by omega) op 1 r1 r2 0 0 0 0 0 0 0 0⟩
set_option maxRecDepth 1000000 in
set_option maxHeartbeats 4000000 in
theorem own_8 (op r1 r2 x2 b1 d1 b2 d2 l1 l2 i2 : Int) (w : World) : Calls Tryz.prog 52 #[.agg #[.int .i64 op, .int .i64 8, .int .i64 r1, .int .i64 r2, .int .i64 x2, .int .i64 b1, .int .i64 d1, .int .i64 b2, .int .i64 d2, .int .i64 l1, .int .i64 l2, .int .i64 i2]] w fun e w' => e = .returned (.agg #[.int .i64 op, .int .i64 8, .int .i64 r1, .int .i64 0, .int .i64 0, .int .i64 0, .int .i64 0, .int .i64 0, .int .i64 0, .int .i64 0, .int .i64 0, .int .i64 0]) ∧ Below w.heap.size w w' := by
  go_enter Tryz.func52, Tryz.ntmps52
  go_upto_region 2 with fail
  have HB := Lib.hid (show Below w.heap.size w (((w.alloc (.cells #[.int .i64 op, .int .i64 8, .int .i64 r1, .int .i64 r2, .int .i64 x2, .int .i64 b1, .int .i64 d1, .int .i64 b2, .int .i64 d2, .int .i64 l1, .int .i64 l2, .int .i64 i2] 23)).alloc (.cells #[.int .i64 0, .int .i64 0, .int .i64 0, .int .i64 0, .int .i64 0, .int .i64 0, .int .i64 0, .int .i64 0, .int .i64 0, .int .i64 0, .int .i64 0, .int .i64 0] 23)).alloc (.cells #[.int .i64 op, .int .i64 8, .int .i64 0, .int .i64 0, .int .i64 0, .int .i64 0, .int .i64 0, .int .i64 0, .int .i64 0, .int .i64 0, .int .i64 0, .int .i64 0] 23)) from (((Below.refl _ _).alloc (Nat.le_refl _) _).alloc (by simp) _).alloc (by simp; omega) _)
  have q0 : Blk (((w.alloc (.cells #[.int .i64 op, .int .i64 8, .int .i64 r1, .int .i64 r2, .int .i64 x2, .int .i64 b1, .int .i64 d1, .int .i64 b2, .int .i64 d2, .int .i64 l1, .int .i64 l2, .int .i64 i2] 23)).alloc (.cells #[.int .i64 0, .int .i64 0, .int .i64 0, .int .i64 0, .int .i64 0, .int .i64 0, .int .i64 0, .int .i64 0, .int .i64 0, .int .i64 0, .int .i64 0, .int .i64 0] 23)).alloc (.cells #[.int .i64 op, .int .i64 8, .int .i64 0, .int .i64 0, .int .i64 0, .int .i64 0, .int .i64 0, .int .i64 0, .int .i64 0, .int .i64 0, .int .i64 0, .int .i64 0] 23)) w.heap.size 23 [op, 8, r1, r2, x2, b1, d1, b2, d2, l1, l2, i2] := by refine Blk.alloc (Blk.alloc ?_ _) _; exact heap_alloc_new w _
  have q1 : Blk (((w.alloc (.cells #[.int .i64 op, .int .i64 8, .int .i64 r1, .int .i64 r2, .int .i64 x2, .int .i64 b1, .int .i64 d1, .int .i64 b2, .int .i64 d2, .int .i64 l1, .int .i64 l2, .int .i64 i2] 23)).alloc (.cells #[.int .i64 0, .int .i64 0, .int .i64 0, .int .i64 0, .int .i64 0, .int .i64 0, .int .i64 0, .int .i64 0, .int .i64 0, .int .i64 0, .int .i64 0, .int .i64 0] 23)).alloc (.cells #[.int .i64 op, .int .i64 8, .int .i64 0, .int .i64 0, .int .i64 0, .int .i64 0, .int .i64 0, .int .i64 0, .int .i64 0, .int .i64 0, .int .i64 0, .int .i64 0] 23)) (w.heap.size + 1) 23 [0, 0, 0, 0, 0, 0, 0, 0, 0, 0, 0, 0] := by refine Blk.alloc ?_ _; exact heap_alloc2_new w _ _
  have q2 : Blk (((w.alloc (.cells #[.int .i64 op, .int .i64 8, .int .i64 r1, .int .i64 r2, .int .i64 x2, .int .i64 b1, .int .i64 d1, .int .i64 b2, .int .i64 d2, .int .i64 l1, .int .i64 l2, .int .i64 i2] 23)).alloc (.cells #[.int .i64 0, .int .i64 0, .int .i64 0, .int .i64 0, .int .i64 0, .int .i64 0, .int .i64 0, .int .i64 0, .int .i64 0, .int .i64 0, .int .i64 0, .int .i64 0] 23)).alloc (.cells #[.int .i64 op, .int .i64 8, .int .i64 0, .int .i64 0, .int .i64 0, .int .i64 0, .int .i64 0, .int .i64 0, .int .i64 0, .int .i64 0, .int .i64 0, .int .i64 0] 23)) (w.heap.size + 1 + 1) 23 [op, 8, 0, 0, 0, 0, 0, 0, 0, 0, 0, 0] := by
    have := heap_alloc2_new (w.alloc (.cells #[.int .i64 op, .int .i64 8, .int .i64 r1, .int .i64 r2, .int .i64 x2, .int .i64 b1, .int .i64 d1, .int .i64 b2, .int .i64 d2, .int .i64 l1, .int .i64 l2, .int .i64 i2] 23)) (.cells #[.int .i64 0, .int .i64 0, .int .i64 0, .int .i64 0, .int .i64 0, .int .i64 0, .int .i64 0, .int .i64 0, .int .i64 0, .int .i64 0, .int .i64 0, .int .i64 0] 23) (.cells #[.int .i64 op, .int .i64 8, .int .i64 0, .int .i64 0, .int .i64 0, .int .i64 0, .int .i64 0, .int .i64 0, .int .i64 0, .int .i64 0, .int .i64 0, .int .i64 0] 23)
    rw [show (w.alloc (.cells #[.int .i64 op, .int .i64 8, .int .i64 r1, .int .i64 r2, .int .i64 x2, .int .i64 b1, .int .i64 d1, .int .i64 b2, .int .i64 d2, .int .i64 l1, .int .i64 l2, .int .i64 i2] 23)).heap.size = w.heap.size + 1 from by simp] at this; exact this
  obtain ⟨W0, hW0⟩ : ∃ W0, (((w.alloc (.cells #[.int .i64 op, .int .i64 8, .int .i64 r1, .int .i64 r2, .int .i64 x2, .int .i64 b1, .int .i64 d1, .int .i64 b2, .int .i64 d2, .int .i64 l1, .int .i64 l2, .int .i64 i2] 23)).alloc (.cells #[.int .i64 0, .int .i64 0, .int .i64 0, .int .i64 0, .int .i64 0, .int .i64 0, .int .i64 0, .int .i64 0, .int .i64 0, .int .i64 0, .int .i64 0, .int .i64 0] 23)).alloc (.cells #[.int .i64 op, .int .i64 8, .int .i64 0, .int .i64 0, .int .i64 0, .int .i64 0, .int .i64 0, .int .i64 0, .int .i64 0, .int .i64 0, .int .i64 0, .int .i64 0] 23)) = W0 := ⟨_, rfl⟩
  rw [hW0] at HB q0 q1 q2 ⊢
  clear hW0
  have c1 : W0.cell? ⟨w.heap.size, 1, none⟩ = some (.int .i64 8) := q0.cell (c := 1) (by simp)
  have c2 : W0.cell? ⟨w.heap.size, 2, none⟩ = some (.int .i64 r1) := q0.cell (c := 2) (by simp)
  have e0 : W0.cell? ⟨w.heap.size + 1 + 1, 0, none⟩ = some (.int .i64 op) := q2.cell (c := 0) (by simp)
  have e1 : W0.cell? ⟨w.heap.size + 1 + 1, 1, none⟩ = some (.int .i64 8) := q2.cell (c := 1) (by simp)
  have e2 : W0.cell? ⟨w.heap.size + 1 + 1, 2, none⟩ = some (.int .i64 0) := q2.cell (c := 2) (by simp)
  have e3 : W0.cell? ⟨w.heap.size + 1 + 1, 3, none⟩ = some (.int .i64 0) := q2.cell (c := 3) (by simp)
  have e4 : W0.cell? ⟨w.heap.size + 1 + 1, 4, none⟩ = some (.int .i64 0) := q2.cell (c := 4) (by simp)
  have e5 : W0.cell? ⟨w.heap.size + 1 + 1, 5, none⟩ = some (.int .i64 0) := q2.cell (c := 5) (by simp)
  have e6 : W0.cell? ⟨w.heap.size + 1 + 1, 6, none⟩ = some (.int .i64 0) := q2.cell (c := 6) (by simp)
  have e7 : W0.cell? ⟨w.heap.size + 1 + 1, 7, none⟩ = some (.int .i64 0) := q2.cell (c := 7) (by simp)
  have e8 : W0.cell? ⟨w.heap.size + 1 + 1, 8, none⟩ = some (.int .i64 0) := q2.cell (c := 8) (by simp)
  have e9 : W0.cell? ⟨w.heap.size + 1 + 1, 9, none⟩ = some (.int .i64 0) := q2.cell (c := 9) (by simp)
  have e10 : W0.cell? ⟨w.heap.size + 1 + 1, 10, none⟩ = some (.int .i64 0) := q2.cell (c := 10) (by simp)
  have e11 : W0.cell? ⟨w.heap.size + 1 + 1, 11, none⟩ = some (.int .i64 0) := q2.cell (c := 11) (by simp)
  have f2 := q2.free 2
  have HQ := Lib.hid (And.intro q0 (And.intro q1 q2))
  clear q0 q1 q2
  go_upto_region 6 with fail
  go_upto_region 21 with fail
  have Q0 := Lib.hid HQ.out.2
  obtain ⟨W1, hW1⟩ : ∃ W1, (W0.setCell ⟨w.heap.size + 1 + 1, 2, none⟩ (.int .i64 r1)) = W1 := ⟨_, rfl⟩
  rw [hW1]
  have HB1 : Below w.heap.size w W1 := by rw [← hW1]; exact (HB.out.setCell (p := ⟨w.heap.size + 1 + 1, 2, none⟩) (by simp; omega) (.int .i64 r1))
  have p1 : Blk W1 (w.heap.size + 1) 23 [0, 0, 0, 0, 0, 0, 0, 0, 0, 0, 0, 0] := by rw [← hW1]; exact (Q0.out.1.other (p := ⟨w.heap.size + 1 + 1, 2, none⟩) (.int .i64 r1) (by simp))
  have p2 : Blk W1 (w.heap.size + 1 + 1) 23 [op, 8, r1, 0, 0, 0, 0, 0, 0, 0, 0, 0] := by rw [← hW1]; exact (Q0.out.2.set_ 2 r1)
  clear hW1 Q0 HQ HB c2 e0 e1 e2 e3 e4 e5 e6 e7 e8 e9 e10 e11 f2
  have a0 : W1.cell? ⟨w.heap.size + 1 + 1, 0, none⟩ = some (.int .i64 op) := p2.cell (c := 0) (by simp)
  have z0 : W1.cell? ⟨w.heap.size + 1, 0, none⟩ = some (.int .i64 0) := p1.cell (c := 0) (by simp)
  have y0 := p1.free 0
  have a1 : W1.cell? ⟨w.heap.size + 1 + 1, 1, none⟩ = some (.int .i64 8) := p2.cell (c := 1) (by simp)
  have z1 : W1.cell? ⟨w.heap.size + 1, 1, none⟩ = some (.int .i64 0) := p1.cell (c := 1) (by simp)
  have y1 := p1.free 1
  have a2 : W1.cell? ⟨w.heap.size + 1 + 1, 2, none⟩ = some (.int .i64 r1) := p2.cell (c := 2) (by simp)
  have z2 : W1.cell? ⟨w.heap.size + 1, 2, none⟩ = some (.int .i64 0) := p1.cell (c := 2) (by simp)
  have y2 := p1.free 2
  have a3 : W1.cell? ⟨w.heap.size + 1 + 1, 3, none⟩ = some (.int .i64 0) := p2.cell (c := 3) (by simp)
  have z3 : W1.cell? ⟨w.heap.size + 1, 3, none⟩ = some (.int .i64 0) := p1.cell (c := 3) (by simp)
  have y3 := p1.free 3
  have a4 : W1.cell? ⟨w.heap.size + 1 + 1, 4, none⟩ = some (.int .i64 0) := p2.cell (c := 4) (by simp)
  have z4 : W1.cell? ⟨w.heap.size + 1, 4, none⟩ = some (.int .i64 0) := p1.cell (c := 4) (by simp)
  have y4 := p1.free 4
  have a5 : W1.cell? ⟨w.heap.size + 1 + 1, 5, none⟩ = some (.int .i64 0) := p2.cell (c := 5) (by simp)
  have z5 : W1.cell? ⟨w.heap.size + 1, 5, none⟩ = some (.int .i64 0) := p1.cell (c := 5) (by simp)
  have y5 := p1.free 5
  have a6 : W1.cell? ⟨w.heap.size + 1 + 1, 6, none⟩ = some (.int .i64 0) := p2.cell (c := 6) (by simp)
  have z6 : W1.cell? ⟨w.heap.size + 1, 6, none⟩ = some (.int .i64 0) := p1.cell (c := 6) (by simp)
  have y6 := p1.free 6
  have a7 : W1.cell? ⟨w.heap.size + 1 + 1, 7, none⟩ = some (.int .i64 0) := p2.cell (c := 7) (by simp)
  have z7 : W1.cell? ⟨w.heap.size + 1, 7, none⟩ = some (.int .i64 0) := p1.cell (c := 7) (by simp)
  have y7 := p1.free 7
  have a8 : W1.cell? ⟨w.heap.size + 1 + 1, 8, none⟩ = some (.int .i64 0) := p2.cell (c := 8) (by simp)
  have z8 : W1.cell? ⟨w.heap.size + 1, 8, none⟩ = some (.int .i64 0) := p1.cell (c := 8) (by simp)
  have y8 := p1.free 8
  have a9 : W1.cell? ⟨w.heap.size + 1 + 1, 9, none⟩ = some (.int .i64 0) := p2.cell (c := 9) (by simp)
  have z9 : W1.cell? ⟨w.heap.size + 1, 9, none⟩ = some (.int .i64 0) := p1.cell (c := 9) (by simp)
  have y9 := p1.free 9
  have a10 : W1.cell? ⟨w.heap.size + 1 + 1, 10, none⟩ = some (.int .i64 0) := p2.cell (c := 10) (by simp)
  have z10 : W1.cell? ⟨w.heap.size + 1, 10, none⟩ = some (.int .i64 0) := p1.cell (c := 10) (by simp)
  have y10 := p1.free 10
  have a11 : W1.cell? ⟨w.heap.size + 1 + 1, 11, none⟩ = some (.int .i64 0) := p2.cell (c := 11) (by simp)
  have z11 : W1.cell? ⟨w.heap.size + 1, 11, none⟩ = some (.int .i64 0) := p1.cell (c := 11) (by simp)
  have y11 := p1.free 11
  have HP := Lib.hid (And.intro HB1 p1)
  clear HB1 p1 p2
  go_wp2
  refine bodyPost_ret (results_cell_row Tryz.results52 _ _ (w.heap.size + 1) 23 _ (0, 0) _ rfl (blk_sets12 HP.out.2 rfl op 8 r1 0 0 0 0 0 0 0 0 0) Tryz.underlying23 rfl (by kernel_rfl)) rfl ?_
  exact ⟨rfl, below_sets12 HP.out.1 (by omega) op 8 r1 0 0 0 0 0 0 0 0 0⟩
set_option maxRecDepth 1000000 in
set_option maxHeartbeats 4000000 in
theorem own_7 (op r1 r2 x2 b1 d1 b2 d2 l1 l2 i2 : Int) (w : World) : Calls Tryz.prog 52 #[.agg #[.int .i64 op, .int .i64 7, .int .i64 r1, .int .i64 r2, .int .i64 x2, .int .i64 b1, .int .i64 d1, .int .i64 b2, .int .i64 d2, .int .i64 l1, .int .i64 l2, .int .i64 i2]] w fun e w' => e = .returned (.agg #[.int .i64 op, .int .i64 7, .int .i64 0, .int .i64 0, .int .i64 0, .int .i64 0, .int .i64 0, .int .i64 0, .int .i64 0, .int .i64 0, .int .i64 0, .int .i64 i2]) ∧ Below w.heap.size w w' := by
  go_enter Tryz.func52, Tryz.ntmps52
  go_upto_region 2 with fail
  have HB := Lib.hid (show Below w.heap.size w (((w.alloc (.cells #[.int .i64 op, .int .i64 7, .int .i64 r1, .int .i64 r2, .int .i64 x2, .int .i64 b1, .int .i64 d1, .int .i64 b2, .int .i64 d2, .int .i64 l1, .int .i64 l2, .int .i64 i2] 23)).alloc (.cells #[.int .i64 0, .int .i64 0, .int .i64 0, .int .i64 0, .int .i64 0, .int .i64 0, .int .i64 0, .int .i64 0, .int .i64 0, .int .i64 0, .int .i64 0, .int .i64 0] 23)).alloc (.cells #[.int .i64 op, .int .i64 7, .int .i64 0, .int .i64 0, .int .i64 0, .int .i64 0, .int .i64 0, .int .i64 0, .int .i64 0, .int .i64 0, .int .i64 0, .int .i64 0] 23)) from (((Below.refl _ _).alloc (Nat.le_refl _) _).alloc (by simp) _).alloc (by simp; omega) _)
  have q0 : Blk (((w.alloc (.cells #[.int .i64 op, .int .i64 7, .int .i64 r1, .int .i64 r2, .int .i64 x2, .int .i64 b1, .int .i64 d1, .int .i64 b2, .int .i64 d2, .int .i64 l1, .int .i64 l2, .int .i64 i2] 23)).alloc (.cells #[.int .i64 0, .int .i64 0, .int .i64 0, .int .i64 0, .int .i64 0, .int .i64 0, .int .i64 0, .int .i64 0, .int .i64 0, .int .i64 0, .int .i64 0, .int .i64 0] 23)).alloc (.cells #[.int .i64 op, .int .i64 7, .int .i64 0, .int .i64 0, .int .i64 0, .int .i64 0, .int .i64 0, .int .i64 0, .int .i64 0, .int .i64 0, .int .i64 0, .int .i64 0] 23)) w.heap.size 23 [op, 7, r1, r2, x2, b1, d1, b2, d2, l1, l2, i2] := by refine Blk.alloc (Blk.alloc ?_ _) _; exact heap_alloc_new w _
  have q1 : Blk (((w.alloc (.cells #[.int .i64 op, .int .i64 7, .int .i64 r1, .int .i64 r2, .int .i64 x2, .int .i64 b1, .int .i64 d1, .int .i64 b2, .int .i64 d2, .int .i64 l1, .int .i64 l2, .int .i64 i2] 23)).alloc (.cells #[.int .i64 0, .int .i64 0, .int .i64 0, .int .i64 0, .int .i64 0, .int .i64 0, .int .i64 0, .int .i64 0, .int .i64 0, .int .i64 0, .int .i64 0, .int .i64 0] 23)).alloc (.cells #[.int .i64 op, .int .i64 7, .int .i64 0, .int .i64 0, .int .i64 0, .int .i64 0, .int .i64 0, .int .i64 0, .int .i64 0, .int .i64 0, .int .i64 0, .int .i64 0] 23)) (w.heap.size + 1) 23 [0, 0, 0, 0, 0, 0, 0, 0, 0, 0, 0, 0] := by refine Blk.alloc ?_ _; exact heap_alloc2_new w _ _
  have q2 : Blk (((w.alloc (.cells #[.int .i64 op, .int .i64 7, .int .i64 r1, .int .i64 r2, .int .i64 x2, .int .i64 b1, .int .i64 d1, .int .i64 b2, .int .i64 d2, .int .i64 l1, .int .i64 l2, .int .i64 i2] 23)).alloc (.cells #[.int .i64 0, .int .i64 0, .int .i64 0, .int .i64 0, .int .i64 0, .int .i64 0, .int .i64 0, .int .i64 0, .int .i64 0, .int .i64 0, .int .i64 0, .int .i64 0] 23)).alloc (.cells #[.int .i64 op, .int .i64 7, .int .i64 0, .int .i64 0, .int .i64 0, .int .i64 0, .int .i64 0, .int .i64 0, .int .i64 0, .int .i64 0, .int .i64 0, .int .i64 0] 23)) (w.heap.size + 1 + 1) 23 [op, 7, 0, 0, 0, 0, 0, 0, 0, 0, 0, 0] := by
    have := heap_alloc2_new (w.alloc (.cells #[.int .i64 op, .int .i64 7, .int .i64 r1, .int .i64 r2, .int .i64 x2, .int .i64 b1, .int .i64 d1, .int .i64 b2, .int .i64 d2, .int .i64 l1, .int .i64 l2, .int .i64 i2] 23)) (.cells #[.int .i64 0, .int .i64 0, .int .i64 0, .int .i64 0, .int .i64 0, .int .i64 0, .int .i64 0, .int .i64 0, .int .i64 0, .int .i64 0, .int .i64 0, .int .i64 0] 23) (.cells #[.int .i64 op, .int .i64 7, .int .i64 0, .int .i64 0, .int .i64 0, .int .i64 0, .int .i64 0, .int .i64 0, .int .i64 0, .int .i64 0, .int .i64 0, .int .i64 0] 23)
    rw [show (w.alloc (.cells #[.int .i64 op, .int .i64 7, .int .i64 r1, .int .i64 r2, .int .i64 x2, .int .i64 b1, .int .i64 d1, .int .i64 b2, .int .i64 d2, .int .i64 l1, .int .i64 l2, .int .i64 i2] 23)).heap.size = w.heap.size + 1 from by simp] at this; exact this
  obtain ⟨W0, hW0⟩ : ∃ W0, (((w.alloc (.cells #[.int .i64 op, .int .i64 7, .int .i64 r1, .int .i64 r2, .int .i64 x2, .int .i64 b1, .int .i64 d1, .int .i64 b2, .int .i64 d2, .int .i64 l1, .int .i64 l2, .int .i64 i2] 23)).alloc (.cells #[.int .i64 0, .int .i64 0, .int .i64 0, .int .i64 0, .int .i64 0, .int .i64 0, .int .i64 0, .int .i64 0, .int .i64 0, .int .i64 0, .int .i64 0, .int .i64 0] 23)).alloc (.cells #[.int .i64 op, .int .i64 7, .int .i64 0, .int .i64 0, .int .i64 0, .int .i64 0, .int .i64 0, .int .i64 0, .int .i64 0, .int .i64 0, .int .i64 0, .int .i64 0] 23)) = W0 := ⟨_, rfl⟩
  rw [hW0] at HB q0 q1 q2 ⊢
  clear hW0
  have c1 : W0.cell? ⟨w.heap.size, 1, none⟩ = some (.int .i64 7) := q0.cell (c := 1) (by simp)
  have c11 : W0.cell? ⟨w.heap.size, 11, none⟩ = some (.int .i64 i2) := q0.cell (c := 11) (by simp)
  have e0 : W0.cell? ⟨w.heap.size + 1 + 1, 0, none⟩ = some (.int .i64 op) := q2.cell (c := 0) (by simp)
  have e1 : W0.cell? ⟨w.heap.size + 1 + 1, 1, none⟩ = some (.int .i64 7) := q2.cell (c := 1) (by simp)
  have e2 : W0.cell? ⟨w.heap.size + 1 + 1, 2, none⟩ = some (.int .i64 0) := q2.cell (c := 2) (by simp)
  have e3 : W0.cell? ⟨w.heap.size + 1 + 1, 3, none⟩ = some (.int .i64 0) := q2.cell (c := 3) (by simp)
  have e4 : W0.cell? ⟨w.heap.size + 1 + 1, 4, none⟩ = some (.int .i64 0) := q2.cell (c := 4) (by simp)
  have e5 : W0.cell? ⟨w.heap.size + 1 + 1, 5, none⟩ = some (.int .i64 0) := q2.cell (c := 5) (by simp)
  have e6 : W0.cell? ⟨w.heap.size + 1 + 1, 6, none⟩ = some (.int .i64 0) := q2.cell (c := 6) (by simp)
  have e7 : W0.cell? ⟨w.heap.size + 1 + 1, 7, none⟩ = some (.int .i64 0) := q2.cell (c := 7) (by simp)
  have e8 : W0.cell? ⟨w.heap.size + 1 + 1, 8, none⟩ = some (.int .i64 0) := q2.cell (c := 8) (by simp)
  have e9 : W0.cell? ⟨w.heap.size + 1 + 1, 9, none⟩ = some (.int .i64 0) := q2.cell (c := 9) (by simp)
  have e10 : W0.cell? ⟨w.heap.size + 1 + 1, 10, none⟩ = some (.int .i64 0) := q2.cell (c := 10) (by simp)
  have e11 : W0.cell? ⟨w.heap.size + 1 + 1, 11, none⟩ = some (.int .i64 0) := q2.cell (c := 11) (by simp)
  have f11 := q2.free 11
  have HQ := Lib.hid (And.intro q0 (And.intro q1 q2))
  clear q0 q1 q2
  go_upto_region 8 with fail
  go_upto_region 21 with fail
  have Q0 := Lib.hid HQ.out.2
  obtain ⟨W1, hW1⟩ : ∃ W1, (W0.setCell ⟨w.heap.size + 1 + 1, 11, none⟩ (.int .i64 i2)) = W1 := ⟨_, rfl⟩
  rw [hW1]
  have HB1 : Below w.heap.size w W1 := by rw [← hW1]; exact (HB.out.setCell (p := ⟨w.heap.size + 1 + 1, 11, none⟩) (by simp; omega) (.int .i64 i2))
  have p1 : Blk W1 (w.heap.size + 1) 23 [0, 0, 0, 0, 0, 0, 0, 0, 0, 0, 0, 0] := by rw [← hW1]; exact (Q0.out.1.other (p := ⟨w.heap.size + 1 + 1, 11, none⟩) (.int .i64 i2) (by simp))
  have p2 : Blk W1 (w.heap.size + 1 + 1) 23 [op, 7, 0, 0, 0, 0, 0, 0, 0, 0, 0, i2] := by rw [← hW1]; exact (Q0.out.2.set_ 11 i2)
  clear hW1 Q0 HQ HB c11 e0 e1 e2 e3 e4 e5 e6 e7 e8 e9 e10 e11 f11
  have a0 : W1.cell? ⟨w.heap.size + 1 + 1, 0, none⟩ = some (.int .i64 op) := p2.cell (c := 0) (by simp)
  have z0 : W1.cell? ⟨w.heap.size + 1, 0, none⟩ = some (.int .i64 0) := p1.cell (c := 0) (by simp)
  have y0 := p1.free 0
  have a1 : W1.cell? ⟨w.heap.size + 1 + 1, 1, none⟩ = some (.int .i64 7) := p2.cell (c := 1) (by simp)
  have z1 : W1.cell? ⟨w.heap.size + 1, 1, none⟩ = some (.int .i64 0) := p1.cell (c := 1) (by simp)
  have y1 := p1.free 1
  have a2 : W1.cell? ⟨w.heap.size + 1 + 1, 2, none⟩ = some (.int .i64 0) := p2.cell (c := 2) (by simp)
  have z2 : W1.cell? ⟨w.heap.size + 1, 2, none⟩ = some (.int .i64 0) := p1.cell (c := 2) (by simp)
  have y2 := p1.free 2
  have a3 : W1.cell? ⟨w.heap.size + 1 + 1, 3, none⟩ = some (.int .i64 0) := p2.cell (c := 3) (by simp)
  have z3 : W1.cell? ⟨w.heap.size + 1, 3, none⟩ = some (.int .i64 0) := p1.cell (c := 3) (by simp)
  have y3 := p1.free 3
  have a4 : W1.cell? ⟨w.heap.size + 1 + 1, 4, none⟩ = some (.int .i64 0) := p2.cell (c := 4) (by simp)
  have z4 : W1.cell? ⟨w.heap.size + 1, 4, none⟩ = some (.int .i64 0) := p1.cell (c := 4) (by simp)
  have y4 := p1.free 4
  have a5 : W1.cell? ⟨w.heap.size + 1 + 1, 5, none⟩ = some (.int .i64 0) := p2.cell (c := 5) (by simp)
  have z5 : W1.cell? ⟨w.heap.size + 1, 5, none⟩ = some (.int .i64 0) := p1.cell (c := 5) (by simp)
  have y5 := p1.free 5
  have a6 : W1.cell? ⟨w.heap.size + 1 + 1, 6, none⟩ = some (.int .i64 0) := p2.cell (c := 6) (by simp)
  have z6 : W1.cell? ⟨w.heap.size + 1, 6, none⟩ = some (.int .i64 0) := p1.cell (c := 6) (by simp)
  have y6 := p1.free 6
  have a7 : W1.cell? ⟨w.heap.size + 1 + 1, 7, none⟩ = some (.int .i64 0) := p2.cell (c := 7) (by simp)
  have z7 : W1.cell? ⟨w.heap.size + 1, 7, none⟩ = some (.int .i64 0) := p1.cell (c := 7) (by simp)
  have y7 := p1.free 7
  have a8 : W1.cell? ⟨w.heap.size + 1 + 1, 8, none⟩ = some (.int .i64 0) := p2.cell (c := 8) (by simp)
  have z8 : W1.cell? ⟨w.heap.size + 1, 8, none⟩ = some (.int .i64 0) := p1.cell (c := 8) (by simp)
  have y8 := p1.free 8
  have a9 : W1.cell? ⟨w.heap.size + 1 + 1, 9, none⟩ = some (.int .i64 0) := p2.cell (c := 9) (by simp)
  have z9 : W1.cell? ⟨w.heap.size + 1, 9, none⟩ = some (.int .i64 0) := p1.cell (c := 9) (by simp)
  have y9 := p1.free 9
  have a10 : W1.cell? ⟨w.heap.size + 1 + 1, 10, none⟩ = some (.int .i64 0) := p2.cell (c := 10) (by simp)
  have z10 : W1.cell? ⟨w.heap.size + 1, 10, none⟩ = some (.int .i64 0) := p1.cell (c := 10) (by simp)
  have y10 := p1.free 10
  have a11 : W1.cell? ⟨w.heap.size + 1 + 1, 11, none⟩ = some (.int .i64 i2) := p2.cell (c := 11) (by simp)
  have z11 : W1.cell? ⟨w.heap.size + 1, 11, none⟩ = some (.int .i64 0) := p1.cell (c := 11) (by simp)
  have y11 := p1.free 11
  have HP := Lib.hid (And.intro HB1 p1)
  clear HB1 p1 p2
  go_wp2
  refine bodyPost_ret (results_cell_row Tryz.results52 _ _ (w.heap.size + 1) 23 _ (0, 0) _ rfl (blk_sets12 HP.out.2 rfl op 7 0 0 0 0 0 0 0 0 0 i2) Tryz.underlying23 rfl (by kernel_rfl)) rfl ?_
  exact ⟨rfl, below_sets12 HP.out.1 (by omega) op 7 0 0 0 0 0 0 0 0 0 i2⟩
end Go.Proofs.YthjdjbipfdigeaaGreat

namespace Go.Proofs.YthjdjbipfdigeaaGreat
open Go.RowKit
set_option linter.unusedVariables false
set_option linter.unusedSimpArgs false
set_option maxRecDepth 1000000 in
set_option maxHeartbeats 4000000 in
theorem own_2 (op r1 r2 x2 b1 d1 b2 d2 l1 l2 i2 : Int) (w : World) : Calls Tryz.prog 52 #[.agg #[.int .i64 op, .int .i64 2, .int .i64 r1, .int .i64 r2, .int .i64 x2, .int .i64 b1, .int .i64 d1, .int .i64 b2, .int .i64 d2, .int .i64 l1, .int .i64 l2, .int .i64 i2]] w fun e w' => e = .returned (.agg #[.int .i64 op, .int .i64 2, .int .i64 r1, .int .i64 0, .int .i64 x2, .int .i64 0, .int .i64 0, .int .i64 b2, .int .i64 d2, .int .i64 0, .int .i64 0, .int .i64 0]) ∧ Below w.heap.size w w' := by
  go_enter Tryz.func52, Tryz.ntmps52
  go_upto_region 2 with fail
  have HB := Lib.hid (show Below w.heap.size w (((w.alloc (.cells #[.int .i64 op, .int .i64 2, .int .i64 r1, .int .i64 r2, .int .i64 x2, .int .i64 b1, .int .i64 d1, .int .i64 b2, .int .i64 d2, .int .i64 l1, .int .i64 l2, .int .i64 i2] 23)).alloc (.cells #[.int .i64 0, .int .i64 0, .int .i64 0, .int .i64 0, .int .i64 0, .int .i64 0, .int .i64 0, .int .i64 0, .int .i64 0, .int .i64 0, .int .i64 0, .int .i64 0] 23)).alloc (.cells #[.int .i64 op, .int .i64 2, .int .i64 0, .int .i64 0, .int .i64 0, .int .i64 0, .int .i64 0, .int .i64 0, .int .i64 0, .int .i64 0, .int .i64 0, .int .i64 0] 23)) from (((Below.refl _ _).alloc (Nat.le_refl _) _).alloc (by simp) _).alloc (by simp; omega) _)
  have q0 : Blk (((w.alloc (.cells #[.int .i64 op, .int .i64 2, .int .i64 r1, .int .i64 r2, .int .i64 x2, .int .i64 b1, .int .i64 d1, .int .i64 b2, .int .i64 d2, .int .i64 l1, .int .i64 l2, .int .i64 i2] 23)).alloc (.cells #[.int .i64 0, .int .i64 0, .int .i64 0, .int .i64 0, .int .i64 0, .int .i64 0, .int .i64 0, .int .i64 0, .int .i64 0, .int .i64 0, .int .i64 0, .int .i64 0] 23)).alloc (.cells #[.int .i64 op, .int .i64 2, .int .i64 0, .int .i64 0, .int .i64 0, .int .i64 0, .int .i64 0, .int .i64 0, .int .i64 0, .int .i64 0, .int .i64 0, .int .i64 0] 23)) w.heap.size 23 [op, 2, r1, r2, x2, b1, d1, b2, d2, l1, l2, i2] := by refine Blk.alloc (Blk.alloc ?_ _) _; exact heap_alloc_new w _
  have q1 : Blk (((w.alloc (.cells #[.int .i64 op, .int .i64 2, .int .i64 r1, .int .i64 r2, .int .i64 x2, .int .i64 b1, .int .i64 d1, .int .i64 b2, .int .i64 d2, .int .i64 l1, .int .i64 l2, .int .i64 i2] 23)).alloc (.cells #[.int .i64 0, .int .i64 0, .int .i64 0, .int .i64 0, .int .i64 0, .int .i64 0, .int .i64 0, .int .i64 0, .int .i64 0, .int .i64 0, .int .i64 0, .int .i64 0] 23)).alloc (.cells #[.int .i64 op, .int .i64 2, .int .i64 0, .int .i64 0, .int .i64 0, .int .i64 0, .int .i64 0, .int .i64 0, .int .i64 0, .int .i64 0, .int .i64 0, .int .i64 0] 23)) (w.heap.size + 1) 23 [0, 0, 0, 0, 0, 0, 0, 0, 0, 0, 0, 0] := by refine Blk.alloc ?_ _; exact heap_alloc2_new w _ _
  have q2 : Blk (((w.alloc (.cells #[.int .i64 op, .int .i64 2, .int .i64 r1, .int .i64 r2, .int .i64 x2, .int .i64 b1, .int .i64 d1, .int .i64 b2, .int .i64 d2, .int .i64 l1, .int .i64 l2, .int .i64 i2] 23)).alloc (.cells #[.int .i64 0, .int .i64 0, .int .i64 0, .int .i64 0, .int .i64 0, .int .i64 0, .int .i64 0, .int .i64 0, .int .i64 0, .int .i64 0, .int .i64 0, .int .i64 0] 23)).alloc (.cells #[.int .i64 op, .int .i64 2, .int .i64 0, .int .i64 0, .int .i64 0, .int .i64 0, .int .i64 0, .int .i64 0, .int .i64 0, .int .i64 0, .int .i64 0, .int .i64 0] 23)) (w.heap.size + 1 + 1) 23 [op, 2, 0, 0, 0, 0, 0, 0, 0, 0, 0, 0] := by
    have := heap_alloc2_new (w.alloc (.cells #[.int .i64 op, .int .i64 2, .int .i64 r1, .int .i64 r2, .int .i64 x2, .int .i64 b1, .int .i64 d1, .int .i64 b2, .int .i64 d2, .int .i64 l1, .int .i64 l2, .int .i64 i2] 23)) (.cells #[.int .i64 0, .int .i64 0, .int .i64 0, .int .i64 0, .int .i64 0, .int .i64 0, .int .i64 0, .int .i64 0, .int .i64 0, .int .i64 0, .int .i64 0, .int .i64 0] 23) (.cells #[.int .i64 op, .int .i64 2, .int .i64 0, .int .i64 0, .int .i64 0, .int .i64 0, .int .i64 0, .int .i64 0, .int .i64 0, .int .i64 0, .int .i64 0, .int .i64 0] 23)
    rw [show (w.alloc (.cells #[.int .i64 op, .int .i64 2, .int .i64 r1, .int .i64 r2, .int .i64 x2, .int .i64 b1, .int .i64 d1, .int .i64 b2, .int .i64 d2, .int .i64 l1, .int .i64 l2, .int .i64 i2] 23)).heap.size = w.heap.size + 1 from by simp] at this; exact this
  obtain ⟨W0, hW0⟩ : ∃ W0, (((w.alloc (.cells #[.int .i64 op, .int .i64 2, .int .i64 r1, .int .i64 r2, .int .i64 x2, .int .i64 b1, .int .i64 d1, .int .i64 b2, .int .i64 d2, .int .i64 l1, .int .i64 l2, .int .i64 i2] 23)).alloc (.cells #[.int .i64 0, .int .i64 0, .int .i64 0, .int .i64 0, .int .i64 0, .int .i64 0, .int .i64 0, .int .i64 0, .int .i64 0, .int .i64 0, .int .i64 0, .int .i64 0] 23)).alloc (.cells #[.int .i64 op, .int .i64 2, .int .i64 0, .int .i64 0, .int .i64 0, .int .i64 0, .int .i64 0, .int .i64 0, .int .i64 0, .int .i64 0, .int .i64 0, .int .i64 0] 23)) = W0 := ⟨_, rfl⟩
  rw [hW0] at HB q0 q1 q2 ⊢
  clear hW0
  have c1 : W0.cell? ⟨w.heap.size, 1, none⟩ = some (.int .i64 2) := q0.cell (c := 1) (by simp)
  have c2 : W0.cell? ⟨w.heap.size, 2, none⟩ = some (.int .i64 r1) := q0.cell (c := 2) (by simp)
  have c4 : W0.cell? ⟨w.heap.size, 4, none⟩ = some (.int .i64 x2) := q0.cell (c := 4) (by simp)
  have c7 : W0.cell? ⟨w.heap.size, 7, none⟩ = some (.int .i64 b2) := q0.cell (c := 7) (by simp)
  have c8 : W0.cell? ⟨w.heap.size, 8, none⟩ = some (.int .i64 d2) := q0.cell (c := 8) (by simp)
  have e0 : W0.cell? ⟨w.heap.size + 1 + 1, 0, none⟩ = some (.int .i64 op) := q2.cell (c := 0) (by simp)
  have e1 : W0.cell? ⟨w.heap.size + 1 + 1, 1, none⟩ = some (.int .i64 2) := q2.cell (c := 1) (by simp)
  have e2 : W0.cell? ⟨w.heap.size + 1 + 1, 2, none⟩ = some (.int .i64 0) := q2.cell (c := 2) (by simp)
  have e3 : W0.cell? ⟨w.heap.size + 1 + 1, 3, none⟩ = some (.int .i64 0) := q2.cell (c := 3) (by simp)
  have e4 : W0.cell? ⟨w.heap.size + 1 + 1, 4, none⟩ = some (.int .i64 0) := q2.cell (c := 4) (by simp)
  have e5 : W0.cell? ⟨w.heap.size + 1 + 1, 5, none⟩ = some (.int .i64 0) := q2.cell (c := 5) (by simp)
  have e6 : W0.cell? ⟨w.heap.size + 1 + 1, 6, none⟩ = some (.int .i64 0) := q2.cell (c := 6) (by simp)
  have e7 : W0.cell? ⟨w.heap.size + 1 + 1, 7, none⟩ = some (.int .i64 0) := q2.cell (c := 7) (by simp)
  have e8 : W0.cell? ⟨w.heap.size + 1 + 1, 8, none⟩ = some (.int .i64 0) := q2.cell (c := 8) (by simp)
  have e9 : W0.cell? ⟨w.heap.size + 1 + 1, 9, none⟩ = some (.int .i64 0) := q2.cell (c := 9) (by simp)
  have e10 : W0.cell? ⟨w.heap.size + 1 + 1, 10, none⟩ = some (.int .i64 0) := q2.cell (c := 10) (by simp)
  have e11 : W0.cell? ⟨w.heap.size + 1 + 1, 11, none⟩ = some (.int .i64 0) := q2.cell (c := 11) (by simp)
  have f2 := q2.free 2
  have f4 := q2.free 4
  have f7 := q2.free 7
  have f8 := q2.free 8
  have HQ := Lib.hid (And.intro q0 (And.intro q1 q2))
  clear q0 q1 q2
  go_upto_region 10 with fail
  go_region
  go_upto_region 21 with fail
  have Q0 := Lib.hid HQ.out.2
  obtain ⟨W1, hW1⟩ : ∃ W1, ((((W0.setCell ⟨w.heap.size + 1 + 1, 2, none⟩ (.int .i64 r1)).setCell ⟨w.heap.size + 1 + 1, 4, none⟩ (.int .i64 x2)).setCell ⟨w.heap.size + 1 + 1, 7, none⟩ (.int .i64 b2)).setCell ⟨w.heap.size + 1 + 1, 8, none⟩ (.int .i64 d2)).drew = W1 := ⟨_, rfl⟩
  rw [hW1]
  have HB1 : Below w.heap.size w W1 := by rw [← hW1]; exact dBelow' ((((HB.out.setCell (p := ⟨w.heap.size + 1 + 1, 2, none⟩) (by simp; omega) (.int .i64 r1)).setCell (p := ⟨w.heap.size + 1 + 1, 4, none⟩) (by simp; omega) (.int .i64 x2)).setCell (p := ⟨w.heap.size + 1 + 1, 7, none⟩) (by simp; omega) (.int .i64 b2)).setCell (p := ⟨w.heap.size + 1 + 1, 8, none⟩) (by simp; omega) (.int .i64 d2)) 1
  have p1 : Blk W1 (w.heap.size + 1) 23 [0, 0, 0, 0, 0, 0, 0, 0, 0, 0, 0, 0] := by rw [← hW1]; exact Blk.drewN ((((Q0.out.1.other (p := ⟨w.heap.size + 1 + 1, 2, none⟩) (.int .i64 r1) (by simp)).other (p := ⟨w.heap.size + 1 + 1, 4, none⟩) (.int .i64 x2) (by simp)).other (p := ⟨w.heap.size + 1 + 1, 7, none⟩) (.int .i64 b2) (by simp)).other (p := ⟨w.heap.size + 1 + 1, 8, none⟩) (.int .i64 d2) (by simp)) 1
  have p2 : Blk W1 (w.heap.size + 1 + 1) 23 [op, 2, r1, 0, x2, 0, 0, b2, d2, 0, 0, 0] := by rw [← hW1]; exact Blk.drewN ((((Q0.out.2.set_ 2 r1).set_ 4 x2).set_ 7 b2).set_ 8 d2) 1
  clear hW1 Q0 HQ HB c2 c4 c7 c8 e0 e1 e2 e3 e4 e5 e6 e7 e8 e9 e10 e11 f2 f4 f7 f8
  have a0 : W1.cell? ⟨w.heap.size + 1 + 1, 0, none⟩ = some (.int .i64 op) := p2.cell (c := 0) (by simp)
  have z0 : W1.cell? ⟨w.heap.size + 1, 0, none⟩ = some (.int .i64 0) := p1.cell (c := 0) (by simp)
  have y0 := p1.free 0
  have a1 : W1.cell? ⟨w.heap.size + 1 + 1, 1, none⟩ = some (.int .i64 2) := p2.cell (c := 1) (by simp)
  have z1 : W1.cell? ⟨w.heap.size + 1, 1, none⟩ = some (.int .i64 0) := p1.cell (c := 1) (by simp)
  have y1 := p1.free 1
  have a2 : W1.cell? ⟨w.heap.size + 1 + 1, 2, none⟩ = some (.int .i64 r1) := p2.cell (c := 2) (by simp)
  have z2 : W1.cell? ⟨w.heap.size + 1, 2, none⟩ = some (.int .i64 0) := p1.cell (c := 2) (by simp)
  have y2 := p1.free 2
  have a3 : W1.cell? ⟨w.heap.size + 1 + 1, 3, none⟩ = some (.int .i64 0) := p2.cell (c := 3) (by simp)
  have z3 : W1.cell? ⟨w.heap.size + 1, 3, none⟩ = some (.int .i64 0) := p1.cell (c := 3) (by simp)
  have y3 := p1.free 3
  have a4 : W1.cell? ⟨w.heap.size + 1 + 1, 4, none⟩ = some (.int .i64 x2) := p2.cell (c := 4) (by simp)
  have z4 : W1.cell? ⟨w.heap.size + 1, 4, none⟩ = some (.int .i64 0) := p1.cell (c := 4) (by simp)
  have y4 := p1.free 4
  have a5 : W1.cell? ⟨w.heap.size + 1 + 1, 5, none⟩ = some (.int .i64 0) := p2.cell (c := 5) (by simp)
  have z5 : W1.cell? ⟨w.heap.size + 1, 5, none⟩ = some (.int .i64 0) := p1.cell (c := 5) (by simp)
  have y5 := p1.free 5
  have a6 : W1.cell? ⟨w.heap.size + 1 + 1, 6, none⟩ = some (.int .i64 0) := p2.cell (c := 6) (by simp)
  have z6 : W1.cell? ⟨w.heap.size + 1, 6, none⟩ = some (.int .i64 0) := p1.cell (c := 6) (by simp)
  have y6 := p1.free 6
  have a7 : W1.cell? ⟨w.heap.size + 1 + 1, 7, none⟩ = some (.int .i64 b2) := p2.cell (c := 7) (by simp)
  have z7 : W1.cell? ⟨w.heap.size + 1, 7, none⟩ = some (.int .i64 0) := p1.cell (c := 7) (by simp)
  have y7 := p1.free 7
  have a8 : W1.cell? ⟨w.heap.size + 1 + 1, 8, none⟩ = some (.int .i64 d2) := p2.cell (c := 8) (by simp)
  have z8 : W1.cell? ⟨w.heap.size + 1, 8, none⟩ = some (.int .i64 0) := p1.cell (c := 8) (by simp)
  have y8 := p1.free 8
  have a9 : W1.cell? ⟨w.heap.size + 1 + 1, 9, none⟩ = some (.int .i64 0) := p2.cell (c := 9) (by simp)
  have z9 : W1.cell? ⟨w.heap.size + 1, 9, none⟩ = some (.int .i64 0) := p1.cell (c := 9) (by simp)
  have y9 := p1.free 9
  have a10 : W1.cell? ⟨w.heap.size + 1 + 1, 10, none⟩ = some (.int .i64 0) := p2.cell (c := 10) (by simp)
  have z10 : W1.cell? ⟨w.heap.size + 1, 10, none⟩ = some (.int .i64 0) := p1.cell (c := 10) (by simp)
  have y10 := p1.free 10
  have a11 : W1.cell? ⟨w.heap.size + 1 + 1, 11, none⟩ = some (.int .i64 0) := p2.cell (c := 11) (by simp)
  have z11 : W1.cell? ⟨w.heap.size + 1, 11, none⟩ = some (.int .i64 0) := p1.cell (c := 11) (by simp)
  have y11 := p1.free 11
  have HP := Lib.hid (And.intro HB1 p1)
  clear HB1 p1 p2
  go_wp2
  refine bodyPost_ret (results_cell_row Tryz.results52 _ _ (w.heap.size + 1) 23 _ (0, 0) _ rfl (blk_sets12 HP.out.2 rfl op 2 r1 0 x2 0 0 b2 d2 0 0 0) Tryz.underlying23 rfl (by kernel_rfl)) rfl ?_
  exact ⟨rfl, below_sets12 HP.out.1 (by omega) op 2 r1 0 x2 0 0 b2 d2 0 0 0⟩
set_option maxRecDepth 1000000 in
set_option maxHeartbeats 4000000 in
theorem own_3 (op r1 r2 x2 b1 d1 b2 d2 l1 l2 i2 : Int) (w : World) : Calls Tryz.prog 52 #[.agg #[.int .i64 op, .int .i64 3, .int .i64 r1, .int .i64 r2, .int .i64 x2, .int .i64 b1, .int .i64 d1, .int .i64 b2, .int .i64 d2, .int .i64 l1, .int .i64 l2, .int .i64 i2]] w fun e w' => e = .returned (.agg #[.int .i64 op, .int .i64 3, .int .i64 r1, .int .i64 r2, .int .i64 0, .int .i64 0, .int .i64 0, .int .i64 b2, .int .i64 d2, .int .i64 0, .int .i64 0, .int .i64 0]) ∧ Below w.heap.size w w' := by
  go_enter Tryz.func52, Tryz.ntmps52
  go_upto_region 2 with fail
  have HB := Lib.hid (show Below w.heap.size w (((w.alloc (.cells #[.int .i64 op, .int .i64 3, .int .i64 r1, .int .i64 r2, .int .i64 x2, .int .i64 b1, .int .i64 d1, .int .i64 b2, .int .i64 d2, .int .i64 l1, .int .i64 l2, .int .i64 i2] 23)).alloc (.cells #[.int .i64 0, .int .i64 0, .int .i64 0, .int .i64 0, .int .i64 0, .int .i64 0, .int .i64 0, .int .i64 0, .int .i64 0, .int .i64 0, .int .i64 0, .int .i64 0] 23)).alloc (.cells #[.int .i64 op, .int .i64 3, .int .i64 0, .int .i64 0, .int .i64 0, .int .i64 0, .int .i64 0, .int .i64 0, .int .i64 0, .int .i64 0, .int .i64 0, .int .i64 0] 23)) from (((Below.refl _ _).alloc (Nat.le_refl _) _).alloc (by simp) _).alloc (by simp; omega) _)
  have q0 : Blk (((w.alloc (.cells #[.int .i64 op, .int .i64 3, .int .i64 r1, .int .i64 r2, .int .i64 x2, .int .i64 b1, .int .i64 d1, .int .i64 b2, .int .i64 d2, .int .i64 l1, .int .i64 l2, .int .i64 i2] 23)).alloc (.cells #[.int .i64 0, .int .i64 0, .int .i64 0, .int .i64 0, .int .i64 0, .int .i64 0, .int .i64 0, .int .i64 0, .int .i64 0, .int .i64 0, .int .i64 0, .int .i64 0] 23)).alloc (.cells #[.int .i64 op, .int .i64 3, .int .i64 0, .int .i64 0, .int .i64 0, .int .i64 0, .int .i64 0, .int .i64 0, .int .i64 0, .int .i64 0, .int .i64 0, .int .i64 0] 23)) w.heap.size 23 [op, 3, r1, r2, x2, b1, d1, b2, d2, l1, l2, i2] := by refine Blk.alloc (Blk.alloc ?_ _) _; exact heap_alloc_new w _
  have q1 : Blk (((w.alloc (.cells #[.int .i64 op, .int .i64 3, .int .i64 r1, .int .i64 r2, .int .i64 x2, .int .i64 b1, .int .i64 d1, .int .i64 b2, .int .i64 d2, .int .i64 l1, .int .i64 l2, .int .i64 i2] 23)).alloc (.cells #[.int .i64 0, .int .i64 0, .int .i64 0, .int .i64 0, .int .i64 0, .int .i64 0, .int .i64 0, .int .i64 0, .int .i64 0, .int .i64 0, .int .i64 0, .int .i64 0] 23)).alloc (.cells #[.int .i64 op, .int .i64 3, .int .i64 0, .int .i64 0, .int .i64 0, .int .i64 0, .int .i64 0, .int .i64 0, .int .i64 0, .int .i64 0, .int .i64 0, .int .i64 0] 23)) (w.heap.size + 1) 23 [0, 0, 0, 0, 0, 0, 0, 0, 0, 0, 0, 0] := by refine Blk.alloc ?_ _; exact heap_alloc2_new w _ _
  have q2 : Blk (((w.alloc (.cells #[.int .i64 op, .int .i64 3, .int .i64 r1, .int .i64 r2, .int .i64 x2, .int .i64 b1, .int .i64 d1, .int .i64 b2, .int .i64 d2, .int .i64 l1, .int .i64 l2, .int .i64 i2] 23)).alloc (.cells #[.int .i64 0, .int .i64 0, .int .i64 0, .int .i64 0, .int .i64 0, .int .i64 0, .int .i64 0, .int .i64 0, .int .i64 0, .int .i64 0, .int .i64 0, .int .i64 0] 23)).alloc (.cells #[.int .i64 op, .int .i64 3, .int .i64 0, .int .i64 0, .int .i64 0, .int .i64 0, .int .i64 0, .int .i64 0, .int .i64 0, .int .i64 0, .int .i64 0, .int .i64 0] 23)) (w.heap.size + 1 + 1) 23 [op, 3, 0, 0, 0, 0, 0, 0, 0, 0, 0, 0] := by
    have := heap_alloc2_new (w.alloc (.cells #[.int .i64 op, .int .i64 3, .int .i64 r1, .int .i64 r2, .int .i64 x2, .int .i64 b1, .int .i64 d1, .int .i64 b2, .int .i64 d2, .int .i64 l1, .int .i64 l2, .int .i64 i2] 23)) (.cells #[.int .i64 0, .int .i64 0, .int .i64 0, .int .i64 0, .int .i64 0, .int .i64 0, .int .i64 0, .int .i64 0, .int .i64 0, .int .i64 0, .int .i64 0, .int .i64 0] 23) (.cells #[.int .i64 op, .int .i64 3, .int .i64 0, .int .i64 0, .int .i64 0, .int .i64 0, .int .i64 0, .int .i64 0, .int .i64 0, .int .i64 0, .int .i64 0, .int .i64 0] 23)
    rw [show (w.alloc (.cells #[.int .i64 op, .int .i64 3, .int .i64 r1, .int .i64 r2, .int .i64 x2, .int .i64 b1, .int .i64 d1, .int .i64 b2, .int .i64 d2, .int .i64 l1, .int .i64 l2, .int .i64 i2] 23)).heap.size = w.heap.size + 1 from by simp] at this; exact this
  obtain ⟨W0, hW0⟩ : ∃ W0, (((w.alloc (.cells #[.int .i64 op, .int .i64 3, .int .i64 r1, .int .i64 r2, .int .i64 x2, .int .i64 b1, .int .i64 d1, .int .i64 b2, .int .i64 d2, .int .i64 l1, .int .i64 l2, .int .i64 i2] 23)).alloc (.cells #[.int .i64 0, .int .i64 0, .int .i64 0, .int .i64 0, .int .i64 0, .int .i64 0, .int .i64 0, .int .i64 0, .int .i64 0, .int .i64 0, .int .i64 0, .int .i64 0] 23)).alloc (.cells #[.int .i64 op, .int .i64 3, .int .i64 0, .int .i64 0, .int .i64 0, .int .i64 0, .int .i64 0, .int .i64 0, .int .i64 0, .int .i64 0, .int .i64 0, .int .i64 0] 23)) = W0 := ⟨_, rfl⟩
  rw [hW0] at HB q0 q1 q2 ⊢
  clear hW0
  have c1 : W0.cell? ⟨w.heap.size, 1, none⟩ = some (.int .i64 3) := q0.cell (c := 1) (by simp)
  have c2 : W0.cell? ⟨w.heap.size, 2, none⟩ = some (.int .i64 r1) := q0.cell (c := 2) (by simp)
  have c3 : W0.cell? ⟨w.heap.size, 3, none⟩ = some (.int .i64 r2) := q0.cell (c := 3) (by simp)
  have c7 : W0.cell? ⟨w.heap.size, 7, none⟩ = some (.int .i64 b2) := q0.cell (c := 7) (by simp)
  have c8 : W0.cell? ⟨w.heap.size, 8, none⟩ = some (.int .i64 d2) := q0.cell (c := 8) (by simp)
  have e0 : W0.cell? ⟨w.heap.size + 1 + 1, 0, none⟩ = some (.int .i64 op) := q2.cell (c := 0) (by simp)
  have e1 : W0.cell? ⟨w.heap.size + 1 + 1, 1, none⟩ = some (.int .i64 3) := q2.cell (c := 1) (by simp)
  have e2 : W0.cell? ⟨w.heap.size + 1 + 1, 2, none⟩ = some (.int .i64 0) := q2.cell (c := 2) (by simp)
  have e3 : W0.cell? ⟨w.heap.size + 1 + 1, 3, none⟩ = some (.int .i64 0) := q2.cell (c := 3) (by simp)
  have e4 : W0.cell? ⟨w.heap.size + 1 + 1, 4, none⟩ = some (.int .i64 0) := q2.cell (c := 4) (by simp)
  have e5 : W0.cell? ⟨w.heap.size + 1 + 1, 5, none⟩ = some (.int .i64 0) := q2.cell (c := 5) (by simp)
  have e6 : W0.cell? ⟨w.heap.size + 1 + 1, 6, none⟩ = some (.int .i64 0) := q2.cell (c := 6) (by simp)
  have e7 : W0.cell? ⟨w.heap.size + 1 + 1, 7, none⟩ = some (.int .i64 0) := q2.cell (c := 7) (by simp)
  have e8 : W0.cell? ⟨w.heap.size + 1 + 1, 8, none⟩ = some (.int .i64 0) := q2.cell (c := 8) (by simp)
  have e9 : W0.cell? ⟨w.heap.size + 1 + 1, 9, none⟩ = some (.int .i64 0) := q2.cell (c := 9) (by simp)
  have e10 : W0.cell? ⟨w.heap.size + 1 + 1, 10, none⟩ = some (.int .i64 0) := q2.cell (c := 10) (by simp)
  have e11 : W0.cell? ⟨w.heap.size + 1 + 1, 11, none⟩ = some (.int .i64 0) := q2.cell (c := 11) (by simp)
  have f2 := q2.free 2
  have f3 := q2.free 3
  have f7 := q2.free 7
  have f8 := q2.free 8
  have HQ := Lib.hid (And.intro q0 (And.intro q1 q2))
  clear q0 q1 q2
  go_upto_region 12 with fail
  go_region
  go_upto_region 21 with fail
  have Q0 := Lib.hid HQ.out.2
  obtain ⟨W1, hW1⟩ : ∃ W1, ((((W0.setCell ⟨w.heap.size + 1 + 1, 2, none⟩ (.int .i64 r1)).setCell ⟨w.heap.size + 1 + 1, 3, none⟩ (.int .i64 r2)).setCell ⟨w.heap.size + 1 + 1, 7, none⟩ (.int .i64 b2)).setCell ⟨w.heap.size + 1 + 1, 8, none⟩ (.int .i64 d2)).drew = W1 := ⟨_, rfl⟩
  rw [hW1]
  have HB1 : Below w.heap.size w W1 := by rw [← hW1]; exact dBelow' ((((HB.out.setCell (p := ⟨w.heap.size + 1 + 1, 2, none⟩) (by simp; omega) (.int .i64 r1)).setCell (p := ⟨w.heap.size + 1 + 1, 3, none⟩) (by simp; omega) (.int .i64 r2)).setCell (p := ⟨w.heap.size + 1 + 1, 7, none⟩) (by simp; omega) (.int .i64 b2)).setCell (p := ⟨w.heap.size + 1 + 1, 8, none⟩) (by simp; omega) (.int .i64 d2)) 1
  have p1 : Blk W1 (w.heap.size + 1) 23 [0, 0, 0, 0, 0, 0, 0, 0, 0, 0, 0, 0] := by rw [← hW1]; exact Blk.drewN ((((Q0.out.1.other (p := ⟨w.heap.size + 1 + 1, 2, none⟩) (.int .i64 r1) (by simp)).other (p := ⟨w.heap.size + 1 + 1, 3, none⟩) (.int .i64 r2) (by simp)).other (p := ⟨w.heap.size + 1 + 1, 7, none⟩) (.int .i64 b2) (by simp)).other (p := ⟨w.heap.size + 1 + 1, 8, none⟩) (.int .i64 d2) (by simp)) 1
  have p2 : Blk W1 (w.heap.size + 1 + 1) 23 [op, 3, r1, r2, 0, 0, 0, b2, d2, 0, 0, 0] := by rw [← hW1]; exact Blk.drewN ((((Q0.out.2.set_ 2 r1).set_ 3 r2).set_ 7 b2).set_ 8 d2) 1
  clear hW1 Q0 HQ HB c2 c3 c7 c8 e0 e1 e2 e3 e4 e5 e6 e7 e8 e9 e10 e11 f2 f3 f7 f8
  have a0 : W1.cell? ⟨w.heap.size + 1 + 1, 0, none⟩ = some (.int .i64 op) := p2.cell (c := 0) (by simp)
  have z0 : W1.cell? ⟨w.heap.size + 1, 0, none⟩ = some (.int .i64 0) := p1.cell (c := 0) (by simp)
  have y0 := p1.free 0
  have a1 : W1.cell? ⟨w.heap.size + 1 + 1, 1, none⟩ = some (.int .i64 3) := p2.cell (c := 1) (by simp)
  have z1 : W1.cell? ⟨w.heap.size + 1, 1, none⟩ = some (.int .i64 0) := p1.cell (c := 1) (by simp)
  have y1 := p1.free 1
  have a2 : W1.cell? ⟨w.heap.size + 1 + 1, 2, none⟩ = some (.int .i64 r1) := p2.cell (c := 2) (by simp)
  have z2 : W1.cell? ⟨w.heap.size + 1, 2, none⟩ = some (.int .i64 0) := p1.cell (c := 2) (by simp)
  have y2 := p1.free 2
  have a3 : W1.cell? ⟨w.heap.size + 1 + 1, 3, none⟩ = some (.int .i64 r2) := p2.cell (c := 3) (by simp)
  have z3 : W1.cell? ⟨w.heap.size + 1, 3, none⟩ = some (.int .i64 0) := p1.cell (c := 3) (by simp)
  have y3 := p1.free 3
  have a4 : W1.cell? ⟨w.heap.size + 1 + 1, 4, none⟩ = some (.int .i64 0) := p2.cell (c := 4) (by simp)
  have z4 : W1.cell? ⟨w.heap.size + 1, 4, none⟩ = some (.int .i64 0) := p1.cell (c := 4) (by simp)
  have y4 := p1.free 4
  have a5 : W1.cell? ⟨w.heap.size + 1 + 1, 5, none⟩ = some (.int .i64 0) := p2.cell (c := 5) (by simp)
  have z5 : W1.cell? ⟨w.heap.size + 1, 5, none⟩ = some (.int .i64 0) := p1.cell (c := 5) (by simp)
  have y5 := p1.free 5
  have a6 : W1.cell? ⟨w.heap.size + 1 + 1, 6, none⟩ = some (.int .i64 0) := p2.cell (c := 6) (by simp)
  have z6 : W1.cell? ⟨w.heap.size + 1, 6, none⟩ = some (.int .i64 0) := p1.cell (c := 6) (by simp)
  have y6 := p1.free 6
  have a7 : W1.cell? ⟨w.heap.size + 1 + 1, 7, none⟩ = some (.int .i64 b2) := p2.cell (c := 7) (by simp)
  have z7 : W1.cell? ⟨w.heap.size + 1, 7, none⟩ = some (.int .i64 0) := p1.cell (c := 7) (by simp)
  have y7 := p1.free 7
  have a8 : W1.cell? ⟨w.heap.size + 1 + 1, 8, none⟩ = some (.int .i64 d2) := p2.cell (c := 8) (by simp)
  have z8 : W1.cell? ⟨w.heap.size + 1, 8, none⟩ = some (.int .i64 0) := p1.cell (c := 8) (by simp)
  have y8 := p1.free 8
  have a9 : W1.cell? ⟨w.heap.size + 1 + 1, 9, none⟩ = some (.int .i64 0) := p2.cell (c := 9) (by simp)
  have z9 : W1.cell? ⟨w.heap.size + 1, 9, none⟩ = some (.int .i64 0) := p1.cell (c := 9) (by simp)
  have y9 := p1.free 9
  have a10 : W1.cell? ⟨w.heap.size + 1 + 1, 10, none⟩ = some (.int .i64 0) := p2.cell (c := 10) (by simp)
  have z10 : W1.cell? ⟨w.heap.size + 1, 10, none⟩ = some (.int .i64 0) := p1.cell (c := 10) (by simp)
  have y10 := p1.free 10
  have a11 : W1.cell? ⟨w.heap.size + 1 + 1, 11, none⟩ = some (.int .i64 0) := p2.cell (c := 11) (by simp)
  have z11 : W1.cell? ⟨w.heap.size + 1, 11, none⟩ = some (.int .i64 0) := p1.cell (c := 11) (by simp)
  have y11 := p1.free 11
  have HP := Lib.hid (And.intro HB1 p1)
  clear HB1 p1 p2
  go_wp2
  refine bodyPost_ret (results_cell_row Tryz.results52 _ _ (w.heap.size + 1) 23 _ (0, 0) _ rfl (blk_sets12 HP.out.2 rfl op 3 r1 r2 0 0 0 b2 d2 0 0 0) Tryz.underlying23 rfl (by kernel_rfl)) rfl ?_
  exact ⟨rfl, below_sets12 HP.out.1 (by omega) op 3 r1 r2 0 0 0 b2 d2 0 0 0⟩
end Go.Proofs.YthjdjbipfdigeaaGreat

