/- PLAIN laws of package isa: Encode, Decode and Check form by form. No program in sight. -/
import Derived.Test.YtfbcjpbfggbhfaaIs6
namespace Go.Proofs.Ytfbcjpbfggbhfaa
open Go.RowKit
set_option linter.unusedVariables false
set_option linter.unusedSimpArgs false
theorem or_zero8 (x : Int) : bits .or .u8 0 (x % 16 * 16) = x % 16 * 16 := by rw [u8_join 8 256 0 _ (by rfl) (by omega) (by omega) (by omega) (by omega) (by omega) (by omega)]; omega
theorem or_zero8' (x : Int) : bits .or .u8 0 (x % 16) = x % 16 := by rw [u8_join 8 256 0 _ (by rfl) (by omega) (by omega) (by omega) (by omega) (by omega) (by omega)]; omega
theorem or_hl (x y : Int) : bits .or .u8 (x % 16 * 16) (y % 16) = x % 16 * 16 + y % 16 := by rw [u8_join 4 16 _ _ (by rfl) (by omega) (by omega) (by omega) (by omega) (by omega) (by omega)]
theorem fm_len : ∀ k, k < 97 → 1 ≤ fmK k ∧ fmK k ≤ 9 ∧ lenOf (opK k) = (if fmK k = 1 ∨ fmK k = 7 ∨ fmK k = 8 then 2 else if fmK k = 5 ∨ fmK k = 6 then 6 else 4) := by decide +kernel
theorem form_len {op : Int} (h : isOp op = true) : 1 ≤ fmOf op ∧ fmOf op ≤ 9 ∧ lenOf op = (if fmOf op = 1 ∨ fmOf op = 7 ∨ fmOf op = 8 then 2 else if fmOf op = 5 ∨ fmOf op = 6 then 6 else 4) := by
  unfold isOp at h; rw [decide_eq_true_iff] at h
  have h1 := fm_len (ix op) h
  rw [ix_op h] at h1
  unfold fmOf
  rw [if_pos h]; exact h1
theorem form_cases {op : Int} (h : isOp op = true) : (fmOf op = 1 ∧ lenOf op = 2) ∨ (fmOf op = 7 ∧ lenOf op = 2) ∨ (fmOf op = 8 ∧ lenOf op = 2) ∨ (fmOf op = 2 ∧ lenOf op = 4) ∨ (fmOf op = 3 ∧ lenOf op = 4) ∨ (fmOf op = 4 ∧ lenOf op = 4) ∨ (fmOf op = 9 ∧ lenOf op = 4) ∨ (fmOf op = 5 ∧ lenOf op = 6) ∨ (fmOf op = 6 ∧ lenOf op = 6) := by
  obtain ⟨h1, h2, h3⟩ := form_len h
  have : fmOf op = 1 ∨ fmOf op = 7 ∨ fmOf op = 8 ∨ fmOf op = 2 ∨ fmOf op = 3 ∨ fmOf op = 4 ∨ fmOf op = 9 ∨ fmOf op = 5 ∨ fmOf op = 6 := by omega
  rcases this with h | h | h | h | h | h | h | h | h <;> rw [h] at h3 <;> simp at h3 <;> simp [h, h3]
theorem enc_1 (op r1 r2 x2 b1 d1 b2 d2 l1 l2 i2 : Int) (hl : lenOf op = 2) : encI [op, 1, r1, r2, x2, b1, d1, b2, d2, l1, l2, i2] = [op, r1 % 16 * 16 + r2 % 16] := by
  have e0 : encI [op, 1, r1, r2, x2, b1, d1, b2, d2, l1, l2, i2] = encS [op, 1, r1, r2, x2, b1, d1, b2, d2, l1, l2, i2] (lay 1) ((List.replicate (lenOf op).toNat 0).set 0 op) := rfl
  rw [e0, hl]
  simp [lay, encS, encF, encK, pn, List.replicate, List.getD, or_zero8, or_zero8', or_hl]
theorem dec_1 (z0 z1 : Int) (t : List Int) (hf : fmOf z0 = 1) : decI (z0 :: z1 :: t) = [z0, 1, z1 / 16, z1 % 16, 0, 0, 0, 0, 0, 0, 0, 0] := by
  have e0 : decI (z0 :: z1 :: t) = decS (z0 :: z1 :: t) (lay (fmOf z0)) [z0, fmOf z0, 0, 0, 0, 0, 0, 0, 0, 0, 0, 0] := rfl
  rw [e0, hf]
  simp [lay, decS, rdF, part, nib]
theorem chk_1 (op r1 r2 x2 b1 d1 b2 d2 l1 l2 i2 : Int) (hi : isOp op = true) (hf : fmOf op = 1) : chk op 1 [op, 1, r1, r2, x2, b1, d1, b2, d2, l1, l2, i2] = if (0 ≤ r1 ∧ r1 < 16) ∧ (0 ≤ r2 ∧ r2 < 16) ∧ x2 = 0 ∧ b1 = 0 ∧ d1 = 0 ∧ b2 = 0 ∧ d2 = 0 ∧ l1 = 0 ∧ l2 = 0 ∧ i2 = 0 then 0 else 6 := by
  unfold chk
  rw [if_pos ⟨hi, hf⟩]
  by_cases h : (0 ≤ r1 ∧ r1 < 16) ∧ (0 ≤ r2 ∧ r2 < 16) ∧ x2 = 0 ∧ b1 = 0 ∧ d1 = 0 ∧ b2 = 0 ∧ d2 = 0 ∧ l1 = 0 ∧ l2 = 0 ∧ i2 = 0
  · rw [if_pos h]
    have hh := h
    simp [lay, scan]
    (repeat' split) <;> first | rfl | (exfalso; simp_all; done) | (exfalso; simp_all; omega) | omega | (rename_i ys heq hy; subst hy; exfalso; (repeat' split at heq) <;> first | (cases heq; done) | (simp_all; done) | (simp_all; omega))
  · rw [if_neg h]
    simp [lay, scan]
    (repeat' split) <;> first | rfl | (exfalso; simp_all; done) | (exfalso; simp_all; omega) | omega | (rename_i ys heq hy; subst hy; exfalso; (repeat' split at heq) <;> first | (cases heq; done) | (simp_all; done) | (simp_all; omega))
theorem enc_7 (op r1 r2 x2 b1 d1 b2 d2 l1 l2 i2 : Int) (hl : lenOf op = 2) : encI [op, 7, r1, r2, x2, b1, d1, b2, d2, l1, l2, i2] = [op, i2 / 16 % 16 * 16 + i2 % 16] := by
  have e0 : encI [op, 7, r1, r2, x2, b1, d1, b2, d2, l1, l2, i2] = encS [op, 7, r1, r2, x2, b1, d1, b2, d2, l1, l2, i2] (lay 7) ((List.replicate (lenOf op).toNat 0).set 0 op) := rfl
  rw [e0, hl]
  simp [lay, encS, encF, encK, pn, List.replicate, List.getD, or_zero8, or_zero8', or_hl]
theorem dec_7 (z0 z1 : Int) (t : List Int) (hf : fmOf z0 = 7) : decI (z0 :: z1 :: t) = [z0, 7, 0, 0, 0, 0, 0, 0, 0, 0, 0, (z1 / 16) * 16 + z1 % 16] := by
  have e0 : decI (z0 :: z1 :: t) = decS (z0 :: z1 :: t) (lay (fmOf z0)) [z0, fmOf z0, 0, 0, 0, 0, 0, 0, 0, 0, 0, 0] := rfl
  rw [e0, hf]
  simp [lay, decS, rdF, part, nib]
theorem chk_7 (op r1 r2 x2 b1 d1 b2 d2 l1 l2 i2 : Int) (hi : isOp op = true) (hf : fmOf op = 7) : chk op 7 [op, 7, r1, r2, x2, b1, d1, b2, d2, l1, l2, i2] = if r1 = 0 ∧ r2 = 0 ∧ x2 = 0 ∧ b1 = 0 ∧ d1 = 0 ∧ b2 = 0 ∧ d2 = 0 ∧ l1 = 0 ∧ l2 = 0 ∧ (0 ≤ i2 ∧ i2 < 256) then 0 else 6 := by
  unfold chk
  rw [if_pos ⟨hi, hf⟩]
  by_cases h : r1 = 0 ∧ r2 = 0 ∧ x2 = 0 ∧ b1 = 0 ∧ d1 = 0 ∧ b2 = 0 ∧ d2 = 0 ∧ l1 = 0 ∧ l2 = 0 ∧ (0 ≤ i2 ∧ i2 < 256)
  · rw [if_pos h]
    have hh := h
    simp [lay, scan]
    (repeat' split) <;> first | rfl | (exfalso; simp_all; done) | (exfalso; simp_all; omega) | omega | (rename_i ys heq hy; subst hy; exfalso; (repeat' split at heq) <;> first | (cases heq; done) | (simp_all; done) | (simp_all; omega))
  · rw [if_neg h]
    simp [lay, scan]
    (repeat' split) <;> first | rfl | (exfalso; simp_all; done) | (exfalso; simp_all; omega) | omega | (rename_i ys heq hy; subst hy; exfalso; (repeat' split at heq) <;> first | (cases heq; done) | (simp_all; done) | (simp_all; omega))
theorem enc_8 (op r1 r2 x2 b1 d1 b2 d2 l1 l2 i2 : Int) (hl : lenOf op = 2) : encI [op, 8, r1, r2, x2, b1, d1, b2, d2, l1, l2, i2] = [op, r1 % 16 * 16] := by
  have e0 : encI [op, 8, r1, r2, x2, b1, d1, b2, d2, l1, l2, i2] = encS [op, 8, r1, r2, x2, b1, d1, b2, d2, l1, l2, i2] (lay 8) ((List.replicate (lenOf op).toNat 0).set 0 op) := rfl
  rw [e0, hl]
  simp [lay, encS, encF, encK, pn, List.replicate, List.getD, or_zero8, or_zero8', or_hl]
theorem dec_8 (z0 z1 : Int) (t : List Int) (hf : fmOf z0 = 8) : decI (z0 :: z1 :: t) = [z0, 8, z1 / 16, 0, 0, 0, 0, 0, 0, 0, 0, 0] := by
  have e0 : decI (z0 :: z1 :: t) = decS (z0 :: z1 :: t) (lay (fmOf z0)) [z0, fmOf z0, 0, 0, 0, 0, 0, 0, 0, 0, 0, 0] := rfl
  rw [e0, hf]
  simp [lay, decS, rdF, part, nib]
theorem chk_8 (op r1 r2 x2 b1 d1 b2 d2 l1 l2 i2 : Int) (hi : isOp op = true) (hf : fmOf op = 8) : chk op 8 [op, 8, r1, r2, x2, b1, d1, b2, d2, l1, l2, i2] = if (0 ≤ r1 ∧ r1 < 16) ∧ r2 = 0 ∧ x2 = 0 ∧ b1 = 0 ∧ d1 = 0 ∧ b2 = 0 ∧ d2 = 0 ∧ l1 = 0 ∧ l2 = 0 ∧ i2 = 0 then 0 else 6 := by
  unfold chk
  rw [if_pos ⟨hi, hf⟩]
  by_cases h : (0 ≤ r1 ∧ r1 < 16) ∧ r2 = 0 ∧ x2 = 0 ∧ b1 = 0 ∧ d1 = 0 ∧ b2 = 0 ∧ d2 = 0 ∧ l1 = 0 ∧ l2 = 0 ∧ i2 = 0
  · rw [if_pos h]
    have hh := h
    simp [lay, scan]
    (repeat' split) <;> first | rfl | (exfalso; simp_all; done) | (exfalso; simp_all; omega) | omega | (rename_i ys heq hy; subst hy; exfalso; (repeat' split at heq) <;> first | (cases heq; done) | (simp_all; done) | (simp_all; omega))
  · rw [if_neg h]
    simp [lay, scan]
    (repeat' split) <;> first | rfl | (exfalso; simp_all; done) | (exfalso; simp_all; omega) | omega | (rename_i ys heq hy; subst hy; exfalso; (repeat' split at heq) <;> first | (cases heq; done) | (simp_all; done) | (simp_all; omega))
theorem enc_2 (op r1 r2 x2 b1 d1 b2 d2 l1 l2 i2 : Int) (hl : lenOf op = 4) : encI [op, 2, r1, r2, x2, b1, d1, b2, d2, l1, l2, i2] = [op, r1 % 16 * 16 + x2 % 16, b2 % 16 * 16 + d2 / 256 % 16, d2 / 16 % 16 * 16 + d2 % 16] := by
  have e0 : encI [op, 2, r1, r2, x2, b1, d1, b2, d2, l1, l2, i2] = encS [op, 2, r1, r2, x2, b1, d1, b2, d2, l1, l2, i2] (lay 2) ((List.replicate (lenOf op).toNat 0).set 0 op) := rfl
  rw [e0, hl]
  simp [lay, encS, encF, encK, pn, List.replicate, List.getD, or_zero8, or_zero8', or_hl]
theorem dec_2 (z0 z1 z2 z3 : Int) (t : List Int) (hf : fmOf z0 = 2) : decI (z0 :: z1 :: z2 :: z3 :: t) = [z0, 2, z1 / 16, 0, z1 % 16, 0, 0, z2 / 16, ((z2 % 16) * 16 + z3 / 16) * 16 + z3 % 16, 0, 0, 0] := by
  have e0 : decI (z0 :: z1 :: z2 :: z3 :: t) = decS (z0 :: z1 :: z2 :: z3 :: t) (lay (fmOf z0)) [z0, fmOf z0, 0, 0, 0, 0, 0, 0, 0, 0, 0, 0] := rfl
  rw [e0, hf]
  simp [lay, decS, rdF, part, nib]
theorem chk_2 (op r1 r2 x2 b1 d1 b2 d2 l1 l2 i2 : Int) (hi : isOp op = true) (hf : fmOf op = 2) : chk op 2 [op, 2, r1, r2, x2, b1, d1, b2, d2, l1, l2, i2] = if (0 ≤ r1 ∧ r1 < 16) ∧ r2 = 0 ∧ (0 ≤ x2 ∧ x2 < 16) ∧ b1 = 0 ∧ d1 = 0 ∧ (0 ≤ b2 ∧ b2 < 16) ∧ (0 ≤ d2 ∧ d2 < 4096) ∧ l1 = 0 ∧ l2 = 0 ∧ i2 = 0 then 0 else 6 := by
  unfold chk
  rw [if_pos ⟨hi, hf⟩]
  by_cases h : (0 ≤ r1 ∧ r1 < 16) ∧ r2 = 0 ∧ (0 ≤ x2 ∧ x2 < 16) ∧ b1 = 0 ∧ d1 = 0 ∧ (0 ≤ b2 ∧ b2 < 16) ∧ (0 ≤ d2 ∧ d2 < 4096) ∧ l1 = 0 ∧ l2 = 0 ∧ i2 = 0
  · rw [if_pos h]
    have hh := h
    simp [lay, scan]
    (repeat' split) <;> first | rfl | (exfalso; simp_all; done) | (exfalso; simp_all; omega) | omega | (rename_i ys heq hy; subst hy; exfalso; (repeat' split at heq) <;> first | (cases heq; done) | (simp_all; done) | (simp_all; omega))
  · rw [if_neg h]
    simp [lay, scan]
    (repeat' split) <;> first | rfl | (exfalso; simp_all; done) | (exfalso; simp_all; omega) | omega | (rename_i ys heq hy; subst hy; exfalso; (repeat' split at heq) <;> first | (cases heq; done) | (simp_all; done) | (simp_all; omega))
theorem enc_3 (op r1 r2 x2 b1 d1 b2 d2 l1 l2 i2 : Int) (hl : lenOf op = 4) : encI [op, 3, r1, r2, x2, b1, d1, b2, d2, l1, l2, i2] = [op, r1 % 16 * 16 + r2 % 16, b2 % 16 * 16 + d2 / 256 % 16, d2 / 16 % 16 * 16 + d2 % 16] := by
  have e0 : encI [op, 3, r1, r2, x2, b1, d1, b2, d2, l1, l2, i2] = encS [op, 3, r1, r2, x2, b1, d1, b2, d2, l1, l2, i2] (lay 3) ((List.replicate (lenOf op).toNat 0).set 0 op) := rfl
  rw [e0, hl]
  simp [lay, encS, encF, encK, pn, List.replicate, List.getD, or_zero8, or_zero8', or_hl]
theorem dec_3 (z0 z1 z2 z3 : Int) (t : List Int) (hf : fmOf z0 = 3) : decI (z0 :: z1 :: z2 :: z3 :: t) = [z0, 3, z1 / 16, z1 % 16, 0, 0, 0, z2 / 16, ((z2 % 16) * 16 + z3 / 16) * 16 + z3 % 16, 0, 0, 0] := by
  have e0 : decI (z0 :: z1 :: z2 :: z3 :: t) = decS (z0 :: z1 :: z2 :: z3 :: t) (lay (fmOf z0)) [z0, fmOf z0, 0, 0, 0, 0, 0, 0, 0, 0, 0, 0] := rfl
  rw [e0, hf]
  simp [lay, decS, rdF, part, nib]
theorem chk_3 (op r1 r2 x2 b1 d1 b2 d2 l1 l2 i2 : Int) (hi : isOp op = true) (hf : fmOf op = 3) : chk op 3 [op, 3, r1, r2, x2, b1, d1, b2, d2, l1, l2, i2] = if (0 ≤ r1 ∧ r1 < 16) ∧ (0 ≤ r2 ∧ r2 < 16) ∧ x2 = 0 ∧ b1 = 0 ∧ d1 = 0 ∧ (0 ≤ b2 ∧ b2 < 16) ∧ (0 ≤ d2 ∧ d2 < 4096) ∧ l1 = 0 ∧ l2 = 0 ∧ i2 = 0 then 0 else 6 := by
  unfold chk
  rw [if_pos ⟨hi, hf⟩]
  by_cases h : (0 ≤ r1 ∧ r1 < 16) ∧ (0 ≤ r2 ∧ r2 < 16) ∧ x2 = 0 ∧ b1 = 0 ∧ d1 = 0 ∧ (0 ≤ b2 ∧ b2 < 16) ∧ (0 ≤ d2 ∧ d2 < 4096) ∧ l1 = 0 ∧ l2 = 0 ∧ i2 = 0
  · rw [if_pos h]
    have hh := h
    simp [lay, scan]
    (repeat' split) <;> first | rfl | (exfalso; simp_all; done) | (exfalso; simp_all; omega) | omega | (rename_i ys heq hy; subst hy; exfalso; (repeat' split at heq) <;> first | (cases heq; done) | (simp_all; done) | (simp_all; omega))
  · rw [if_neg h]
    simp [lay, scan]
    (repeat' split) <;> first | rfl | (exfalso; simp_all; done) | (exfalso; simp_all; omega) | omega | (rename_i ys heq hy; subst hy; exfalso; (repeat' split at heq) <;> first | (cases heq; done) | (simp_all; done) | (simp_all; omega))
theorem enc_4 (op r1 r2 x2 b1 d1 b2 d2 l1 l2 i2 : Int) (hl : lenOf op = 4) : encI [op, 4, r1, r2, x2, b1, d1, b2, d2, l1, l2, i2] = [op, i2 / 16 % 16 * 16 + i2 % 16, b1 % 16 * 16 + d1 / 256 % 16, d1 / 16 % 16 * 16 + d1 % 16] := by
  have e0 : encI [op, 4, r1, r2, x2, b1, d1, b2, d2, l1, l2, i2] = encS [op, 4, r1, r2, x2, b1, d1, b2, d2, l1, l2, i2] (lay 4) ((List.replicate (lenOf op).toNat 0).set 0 op) := rfl
  rw [e0, hl]
  simp [lay, encS, encF, encK, pn, List.replicate, List.getD, or_zero8, or_zero8', or_hl]
theorem dec_4 (z0 z1 z2 z3 : Int) (t : List Int) (hf : fmOf z0 = 4) : decI (z0 :: z1 :: z2 :: z3 :: t) = [z0, 4, 0, 0, 0, z2 / 16, ((z2 % 16) * 16 + z3 / 16) * 16 + z3 % 16, 0, 0, 0, 0, (z1 / 16) * 16 + z1 % 16] := by
  have e0 : decI (z0 :: z1 :: z2 :: z3 :: t) = decS (z0 :: z1 :: z2 :: z3 :: t) (lay (fmOf z0)) [z0, fmOf z0, 0, 0, 0, 0, 0, 0, 0, 0, 0, 0] := rfl
  rw [e0, hf]
  simp [lay, decS, rdF, part, nib]
theorem chk_4 (op r1 r2 x2 b1 d1 b2 d2 l1 l2 i2 : Int) (hi : isOp op = true) (hf : fmOf op = 4) : chk op 4 [op, 4, r1, r2, x2, b1, d1, b2, d2, l1, l2, i2] = if r1 = 0 ∧ r2 = 0 ∧ x2 = 0 ∧ (0 ≤ b1 ∧ b1 < 16) ∧ (0 ≤ d1 ∧ d1 < 4096) ∧ b2 = 0 ∧ d2 = 0 ∧ l1 = 0 ∧ l2 = 0 ∧ (0 ≤ i2 ∧ i2 < 256) then 0 else 6 := by
  unfold chk
  rw [if_pos ⟨hi, hf⟩]
  by_cases h : r1 = 0 ∧ r2 = 0 ∧ x2 = 0 ∧ (0 ≤ b1 ∧ b1 < 16) ∧ (0 ≤ d1 ∧ d1 < 4096) ∧ b2 = 0 ∧ d2 = 0 ∧ l1 = 0 ∧ l2 = 0 ∧ (0 ≤ i2 ∧ i2 < 256)
  · rw [if_pos h]
    have hh := h
    simp [lay, scan]
    (repeat' split) <;> first | rfl | (exfalso; simp_all; done) | (exfalso; simp_all; omega) | omega | (rename_i ys heq hy; subst hy; exfalso; (repeat' split at heq) <;> first | (cases heq; done) | (simp_all; done) | (simp_all; omega))
  · rw [if_neg h]
    simp [lay, scan]
    (repeat' split) <;> first | rfl | (exfalso; simp_all; done) | (exfalso; simp_all; omega) | omega | (rename_i ys heq hy; subst hy; exfalso; (repeat' split at heq) <;> first | (cases heq; done) | (simp_all; done) | (simp_all; omega))
theorem enc_9 (op r1 r2 x2 b1 d1 b2 d2 l1 l2 i2 : Int) (hl : lenOf op = 4) : encI [op, 9, r1, r2, x2, b1, d1, b2, d2, l1, l2, i2] = [op, 0, b1 % 16 * 16 + d1 / 256 % 16, d1 / 16 % 16 * 16 + d1 % 16] := by
  have e0 : encI [op, 9, r1, r2, x2, b1, d1, b2, d2, l1, l2, i2] = encS [op, 9, r1, r2, x2, b1, d1, b2, d2, l1, l2, i2] (lay 9) ((List.replicate (lenOf op).toNat 0).set 0 op) := rfl
  rw [e0, hl]
  simp [lay, encS, encF, encK, pn, List.replicate, List.getD, or_zero8, or_zero8', or_hl]
theorem dec_9 (z0 z1 z2 z3 : Int) (t : List Int) (hf : fmOf z0 = 9) : decI (z0 :: z1 :: z2 :: z3 :: t) = [z0, 9, 0, 0, 0, z2 / 16, ((z2 % 16) * 16 + z3 / 16) * 16 + z3 % 16, 0, 0, 0, 0, 0] := by
  have e0 : decI (z0 :: z1 :: z2 :: z3 :: t) = decS (z0 :: z1 :: z2 :: z3 :: t) (lay (fmOf z0)) [z0, fmOf z0, 0, 0, 0, 0, 0, 0, 0, 0, 0, 0] := rfl
  rw [e0, hf]
  simp [lay, decS, rdF, part, nib]
theorem chk_9 (op r1 r2 x2 b1 d1 b2 d2 l1 l2 i2 : Int) (hi : isOp op = true) (hf : fmOf op = 9) : chk op 9 [op, 9, r1, r2, x2, b1, d1, b2, d2, l1, l2, i2] = if r1 = 0 ∧ r2 = 0 ∧ x2 = 0 ∧ (0 ≤ b1 ∧ b1 < 16) ∧ (0 ≤ d1 ∧ d1 < 4096) ∧ b2 = 0 ∧ d2 = 0 ∧ l1 = 0 ∧ l2 = 0 ∧ i2 = 0 then 0 else 6 := by
  unfold chk
  rw [if_pos ⟨hi, hf⟩]
  by_cases h : r1 = 0 ∧ r2 = 0 ∧ x2 = 0 ∧ (0 ≤ b1 ∧ b1 < 16) ∧ (0 ≤ d1 ∧ d1 < 4096) ∧ b2 = 0 ∧ d2 = 0 ∧ l1 = 0 ∧ l2 = 0 ∧ i2 = 0
  · rw [if_pos h]
    have hh := h
    simp [lay, scan]
    (repeat' split) <;> first | rfl | (exfalso; simp_all; done) | (exfalso; simp_all; omega) | omega | (rename_i ys heq hy; subst hy; exfalso; (repeat' split at heq) <;> first | (cases heq; done) | (simp_all; done) | (simp_all; omega))
  · rw [if_neg h]
    simp [lay, scan]
    (repeat' split) <;> first | rfl | (exfalso; simp_all; done) | (exfalso; simp_all; omega) | omega | (rename_i ys heq hy; subst hy; exfalso; (repeat' split at heq) <;> first | (cases heq; done) | (simp_all; done) | (simp_all; omega))
theorem enc_5 (op r1 r2 x2 b1 d1 b2 d2 l1 l2 i2 : Int) (hl : lenOf op = 6) : encI [op, 5, r1, r2, x2, b1, d1, b2, d2, l1, l2, i2] = [op, l1 / 16 % 16 * 16 + l1 % 16, b1 % 16 * 16 + d1 / 256 % 16, d1 / 16 % 16 * 16 + d1 % 16, b2 % 16 * 16 + d2 / 256 % 16, d2 / 16 % 16 * 16 + d2 % 16] := by
  have e0 : encI [op, 5, r1, r2, x2, b1, d1, b2, d2, l1, l2, i2] = encS [op, 5, r1, r2, x2, b1, d1, b2, d2, l1, l2, i2] (lay 5) ((List.replicate (lenOf op).toNat 0).set 0 op) := rfl
  rw [e0, hl]
  simp [lay, encS, encF, encK, pn, List.replicate, List.getD, or_zero8, or_zero8', or_hl]
theorem dec_5 (z0 z1 z2 z3 z4 z5 : Int) (t : List Int) (hf : fmOf z0 = 5) : decI (z0 :: z1 :: z2 :: z3 :: z4 :: z5 :: t) = [z0, 5, 0, 0, 0, z2 / 16, ((z2 % 16) * 16 + z3 / 16) * 16 + z3 % 16, z4 / 16, ((z4 % 16) * 16 + z5 / 16) * 16 + z5 % 16, (z1 / 16) * 16 + z1 % 16, 0, 0] := by
  have e0 : decI (z0 :: z1 :: z2 :: z3 :: z4 :: z5 :: t) = decS (z0 :: z1 :: z2 :: z3 :: z4 :: z5 :: t) (lay (fmOf z0)) [z0, fmOf z0, 0, 0, 0, 0, 0, 0, 0, 0, 0, 0] := rfl
  rw [e0, hf]
  simp [lay, decS, rdF, part, nib]
theorem chk_5 (op r1 r2 x2 b1 d1 b2 d2 l1 l2 i2 : Int) (hi : isOp op = true) (hf : fmOf op = 5) : chk op 5 [op, 5, r1, r2, x2, b1, d1, b2, d2, l1, l2, i2] = if r1 = 0 ∧ r2 = 0 ∧ x2 = 0 ∧ (0 ≤ b1 ∧ b1 < 16) ∧ (0 ≤ d1 ∧ d1 < 4096) ∧ (0 ≤ b2 ∧ b2 < 16) ∧ (0 ≤ d2 ∧ d2 < 4096) ∧ (0 ≤ l1 ∧ l1 < 256) ∧ l2 = 0 ∧ i2 = 0 then 0 else 6 := by
  unfold chk
  rw [if_pos ⟨hi, hf⟩]
  by_cases h : r1 = 0 ∧ r2 = 0 ∧ x2 = 0 ∧ (0 ≤ b1 ∧ b1 < 16) ∧ (0 ≤ d1 ∧ d1 < 4096) ∧ (0 ≤ b2 ∧ b2 < 16) ∧ (0 ≤ d2 ∧ d2 < 4096) ∧ (0 ≤ l1 ∧ l1 < 256) ∧ l2 = 0 ∧ i2 = 0
  · rw [if_pos h]
    have hh := h
    simp [lay, scan]
    (repeat' split) <;> first | rfl | (exfalso; simp_all; done) | (exfalso; simp_all; omega) | omega | (rename_i ys heq hy; subst hy; exfalso; (repeat' split at heq) <;> first | (cases heq; done) | (simp_all; done) | (simp_all; omega))
  · rw [if_neg h]
    simp [lay, scan]
    (repeat' split) <;> first | rfl | (exfalso; simp_all; done) | (exfalso; simp_all; omega) | omega | (rename_i ys heq hy; subst hy; exfalso; (repeat' split at heq) <;> first | (cases heq; done) | (simp_all; done) | (simp_all; omega))
theorem enc_6 (op r1 r2 x2 b1 d1 b2 d2 l1 l2 i2 : Int) (hl : lenOf op = 6) : encI [op, 6, r1, r2, x2, b1, d1, b2, d2, l1, l2, i2] = [op, l1 % 16 * 16 + l2 % 16, b1 % 16 * 16 + d1 / 256 % 16, d1 / 16 % 16 * 16 + d1 % 16, b2 % 16 * 16 + d2 / 256 % 16, d2 / 16 % 16 * 16 + d2 % 16] := by
  have e0 : encI [op, 6, r1, r2, x2, b1, d1, b2, d2, l1, l2, i2] = encS [op, 6, r1, r2, x2, b1, d1, b2, d2, l1, l2, i2] (lay 6) ((List.replicate (lenOf op).toNat 0).set 0 op) := rfl
  rw [e0, hl]
  simp [lay, encS, encF, encK, pn, List.replicate, List.getD, or_zero8, or_zero8', or_hl]
theorem dec_6 (z0 z1 z2 z3 z4 z5 : Int) (t : List Int) (hf : fmOf z0 = 6) : decI (z0 :: z1 :: z2 :: z3 :: z4 :: z5 :: t) = [z0, 6, 0, 0, 0, z2 / 16, ((z2 % 16) * 16 + z3 / 16) * 16 + z3 % 16, z4 / 16, ((z4 % 16) * 16 + z5 / 16) * 16 + z5 % 16, z1 / 16, z1 % 16, 0] := by
  have e0 : decI (z0 :: z1 :: z2 :: z3 :: z4 :: z5 :: t) = decS (z0 :: z1 :: z2 :: z3 :: z4 :: z5 :: t) (lay (fmOf z0)) [z0, fmOf z0, 0, 0, 0, 0, 0, 0, 0, 0, 0, 0] := rfl
  rw [e0, hf]
  simp [lay, decS, rdF, part, nib]
theorem chk_6 (op r1 r2 x2 b1 d1 b2 d2 l1 l2 i2 : Int) (hi : isOp op = true) (hf : fmOf op = 6) : chk op 6 [op, 6, r1, r2, x2, b1, d1, b2, d2, l1, l2, i2] = if r1 = 0 ∧ r2 = 0 ∧ x2 = 0 ∧ (0 ≤ b1 ∧ b1 < 16) ∧ (0 ≤ d1 ∧ d1 < 4096) ∧ (0 ≤ b2 ∧ b2 < 16) ∧ (0 ≤ d2 ∧ d2 < 4096) ∧ (0 ≤ l1 ∧ l1 < 16) ∧ (0 ≤ l2 ∧ l2 < 16) ∧ i2 = 0 then 0 else 6 := by
  unfold chk
  rw [if_pos ⟨hi, hf⟩]
  by_cases h : r1 = 0 ∧ r2 = 0 ∧ x2 = 0 ∧ (0 ≤ b1 ∧ b1 < 16) ∧ (0 ≤ d1 ∧ d1 < 4096) ∧ (0 ≤ b2 ∧ b2 < 16) ∧ (0 ≤ d2 ∧ d2 < 4096) ∧ (0 ≤ l1 ∧ l1 < 16) ∧ (0 ≤ l2 ∧ l2 < 16) ∧ i2 = 0
  · rw [if_pos h]
    have hh := h
    simp [lay, scan]
    (repeat' split) <;> first | rfl | (exfalso; simp_all; done) | (exfalso; simp_all; omega) | omega | (rename_i ys heq hy; subst hy; exfalso; (repeat' split at heq) <;> first | (cases heq; done) | (simp_all; done) | (simp_all; omega))
  · rw [if_neg h]
    simp [lay, scan]
    (repeat' split) <;> first | rfl | (exfalso; simp_all; done) | (exfalso; simp_all; omega) | omega | (rename_i ys heq hy; subst hy; exfalso; (repeat' split at heq) <;> first | (cases heq; done) | (simp_all; done) | (simp_all; omega))
end Go.Proofs.Ytfbcjpbfggbhfaa
