/- PLAIN laws of package isa: Decode undoes Encode; what was decoded is valid. No program in sight. -/
import Derived.Test.YtfbcjpbfggbhfaaIs9
namespace Go.Proofs.Ytfbcjpbfggbhfaa
open Go.RowKit
set_option linter.unusedVariables false
set_option linter.unusedSimpArgs false
theorem encI_len (op fm r1 r2 x2 b1 d1 b2 d2 l1 l2 i2 : Int) : (encI [op, fm, r1, r2, x2, b1, d1, b2, d2, l1, l2, i2]).length = (lenOf op).toNat := by
  show (encS _ _ _).length = _
  rw [encS_length]; simp
theorem chk_isOp {op fm : Int} {xs : List Int} (h : chk op fm xs = 0) : isOp op = true ∧ fmOf op = fm := ⟨(chk_zero h).1, (chk_zero h).2.1⟩
theorem dokI_of {op : Int} (hi : isOp op = true) {xs : List Int} (t : List Int) (h0 : (xs ++ t).getD 0 0 = op) (hl : xs.length = (lenOf op).toNat) : dokI (xs ++ t).length (xs ++ t) = true := by
  unfold dokI
  rw [h0, hi]
  have := lenOf_cases hi
  simp only [List.length_append, Bool.true_and, Bool.and_eq_true, decide_eq_true_iff]
  omega
theorem back_1 (op r1 r2 x2 b1 d1 b2 d2 l1 l2 i2 : Int) (hf : fmOf op = 1) (hl : lenOf op = 2) (hi : isOp op = true) (h : chk op 1 [op, 1, r1, r2, x2, b1, d1, b2, d2, l1, l2, i2] = 0) (t : List Int) : decI (encI [op, 1, r1, r2, x2, b1, d1, b2, d2, l1, l2, i2] ++ t) = [op, 1, r1, r2, x2, b1, d1, b2, d2, l1, l2, i2] ∧ (encI [op, 1, r1, r2, x2, b1, d1, b2, d2, l1, l2, i2]).getD 0 0 = op ∧ (encI [op, 1, r1, r2, x2, b1, d1, b2, d2, l1, l2, i2] ++ t).getD 0 0 = op := by
  rw [chk_1 _ _ _ _ _ _ _ _ _ _ _ hi hf] at h
  split at h
  · next hr =>
    rw [enc_1 _ _ _ _ _ _ _ _ _ _ _ hl]
    refine ⟨?_, rfl, rfl⟩
    simp only [List.cons_append, List.nil_append]
    rw [dec_1 _ _ _ hf]
    simp only [List.cons.injEq, and_true, true_and]
    omega
  · cases h
theorem back_7 (op r1 r2 x2 b1 d1 b2 d2 l1 l2 i2 : Int) (hf : fmOf op = 7) (hl : lenOf op = 2) (hi : isOp op = true) (h : chk op 7 [op, 7, r1, r2, x2, b1, d1, b2, d2, l1, l2, i2] = 0) (t : List Int) : decI (encI [op, 7, r1, r2, x2, b1, d1, b2, d2, l1, l2, i2] ++ t) = [op, 7, r1, r2, x2, b1, d1, b2, d2, l1, l2, i2] ∧ (encI [op, 7, r1, r2, x2, b1, d1, b2, d2, l1, l2, i2]).getD 0 0 = op ∧ (encI [op, 7, r1, r2, x2, b1, d1, b2, d2, l1, l2, i2] ++ t).getD 0 0 = op := by
  rw [chk_7 _ _ _ _ _ _ _ _ _ _ _ hi hf] at h
  split at h
  · next hr =>
    rw [enc_7 _ _ _ _ _ _ _ _ _ _ _ hl]
    refine ⟨?_, rfl, rfl⟩
    simp only [List.cons_append, List.nil_append]
    rw [dec_7 _ _ _ hf]
    simp only [List.cons.injEq, and_true, true_and]
    omega
  · cases h
theorem back_8 (op r1 r2 x2 b1 d1 b2 d2 l1 l2 i2 : Int) (hf : fmOf op = 8) (hl : lenOf op = 2) (hi : isOp op = true) (h : chk op 8 [op, 8, r1, r2, x2, b1, d1, b2, d2, l1, l2, i2] = 0) (t : List Int) : decI (encI [op, 8, r1, r2, x2, b1, d1, b2, d2, l1, l2, i2] ++ t) = [op, 8, r1, r2, x2, b1, d1, b2, d2, l1, l2, i2] ∧ (encI [op, 8, r1, r2, x2, b1, d1, b2, d2, l1, l2, i2]).getD 0 0 = op ∧ (encI [op, 8, r1, r2, x2, b1, d1, b2, d2, l1, l2, i2] ++ t).getD 0 0 = op := by
  rw [chk_8 _ _ _ _ _ _ _ _ _ _ _ hi hf] at h
  split at h
  · next hr =>
    rw [enc_8 _ _ _ _ _ _ _ _ _ _ _ hl]
    refine ⟨?_, rfl, rfl⟩
    simp only [List.cons_append, List.nil_append]
    rw [dec_8 _ _ _ hf]
    simp only [List.cons.injEq, and_true, true_and]
    omega
  · cases h
theorem back_2 (op r1 r2 x2 b1 d1 b2 d2 l1 l2 i2 : Int) (hf : fmOf op = 2) (hl : lenOf op = 4) (hi : isOp op = true) (h : chk op 2 [op, 2, r1, r2, x2, b1, d1, b2, d2, l1, l2, i2] = 0) (t : List Int) : decI (encI [op, 2, r1, r2, x2, b1, d1, b2, d2, l1, l2, i2] ++ t) = [op, 2, r1, r2, x2, b1, d1, b2, d2, l1, l2, i2] ∧ (encI [op, 2, r1, r2, x2, b1, d1, b2, d2, l1, l2, i2]).getD 0 0 = op ∧ (encI [op, 2, r1, r2, x2, b1, d1, b2, d2, l1, l2, i2] ++ t).getD 0 0 = op := by
  rw [chk_2 _ _ _ _ _ _ _ _ _ _ _ hi hf] at h
  split at h
  · next hr =>
    rw [enc_2 _ _ _ _ _ _ _ _ _ _ _ hl]
    refine ⟨?_, rfl, rfl⟩
    simp only [List.cons_append, List.nil_append]
    rw [dec_2 _ _ _ _ _ hf]
    simp only [List.cons.injEq, and_true, true_and]
    omega
  · cases h
theorem back_3 (op r1 r2 x2 b1 d1 b2 d2 l1 l2 i2 : Int) (hf : fmOf op = 3) (hl : lenOf op = 4) (hi : isOp op = true) (h : chk op 3 [op, 3, r1, r2, x2, b1, d1, b2, d2, l1, l2, i2] = 0) (t : List Int) : decI (encI [op, 3, r1, r2, x2, b1, d1, b2, d2, l1, l2, i2] ++ t) = [op, 3, r1, r2, x2, b1, d1, b2, d2, l1, l2, i2] ∧ (encI [op, 3, r1, r2, x2, b1, d1, b2, d2, l1, l2, i2]).getD 0 0 = op ∧ (encI [op, 3, r1, r2, x2, b1, d1, b2, d2, l1, l2, i2] ++ t).getD 0 0 = op := by
  rw [chk_3 _ _ _ _ _ _ _ _ _ _ _ hi hf] at h
  split at h
  · next hr =>
    rw [enc_3 _ _ _ _ _ _ _ _ _ _ _ hl]
    refine ⟨?_, rfl, rfl⟩
    simp only [List.cons_append, List.nil_append]
    rw [dec_3 _ _ _ _ _ hf]
    simp only [List.cons.injEq, and_true, true_and]
    omega
  · cases h
theorem back_4 (op r1 r2 x2 b1 d1 b2 d2 l1 l2 i2 : Int) (hf : fmOf op = 4) (hl : lenOf op = 4) (hi : isOp op = true) (h : chk op 4 [op, 4, r1, r2, x2, b1, d1, b2, d2, l1, l2, i2] = 0) (t : List Int) : decI (encI [op, 4, r1, r2, x2, b1, d1, b2, d2, l1, l2, i2] ++ t) = [op, 4, r1, r2, x2, b1, d1, b2, d2, l1, l2, i2] ∧ (encI [op, 4, r1, r2, x2, b1, d1, b2, d2, l1, l2, i2]).getD 0 0 = op ∧ (encI [op, 4, r1, r2, x2, b1, d1, b2, d2, l1, l2, i2] ++ t).getD 0 0 = op := by
  rw [chk_4 _ _ _ _ _ _ _ _ _ _ _ hi hf] at h
  split at h
  · next hr =>
    rw [enc_4 _ _ _ _ _ _ _ _ _ _ _ hl]
    refine ⟨?_, rfl, rfl⟩
    simp only [List.cons_append, List.nil_append]
    rw [dec_4 _ _ _ _ _ hf]
    simp only [List.cons.injEq, and_true, true_and]
    omega
  · cases h
theorem back_9 (op r1 r2 x2 b1 d1 b2 d2 l1 l2 i2 : Int) (hf : fmOf op = 9) (hl : lenOf op = 4) (hi : isOp op = true) (h : chk op 9 [op, 9, r1, r2, x2, b1, d1, b2, d2, l1, l2, i2] = 0) (t : List Int) : decI (encI [op, 9, r1, r2, x2, b1, d1, b2, d2, l1, l2, i2] ++ t) = [op, 9, r1, r2, x2, b1, d1, b2, d2, l1, l2, i2] ∧ (encI [op, 9, r1, r2, x2, b1, d1, b2, d2, l1, l2, i2]).getD 0 0 = op ∧ (encI [op, 9, r1, r2, x2, b1, d1, b2, d2, l1, l2, i2] ++ t).getD 0 0 = op := by
  rw [chk_9 _ _ _ _ _ _ _ _ _ _ _ hi hf] at h
  split at h
  · next hr =>
    rw [enc_9 _ _ _ _ _ _ _ _ _ _ _ hl]
    refine ⟨?_, rfl, rfl⟩
    simp only [List.cons_append, List.nil_append]
    rw [dec_9 _ _ _ _ _ hf]
    simp only [List.cons.injEq, and_true, true_and]
    omega
  · cases h
theorem back_5 (op r1 r2 x2 b1 d1 b2 d2 l1 l2 i2 : Int) (hf : fmOf op = 5) (hl : lenOf op = 6) (hi : isOp op = true) (h : chk op 5 [op, 5, r1, r2, x2, b1, d1, b2, d2, l1, l2, i2] = 0) (t : List Int) : decI (encI [op, 5, r1, r2, x2, b1, d1, b2, d2, l1, l2, i2] ++ t) = [op, 5, r1, r2, x2, b1, d1, b2, d2, l1, l2, i2] ∧ (encI [op, 5, r1, r2, x2, b1, d1, b2, d2, l1, l2, i2]).getD 0 0 = op ∧ (encI [op, 5, r1, r2, x2, b1, d1, b2, d2, l1, l2, i2] ++ t).getD 0 0 = op := by
  rw [chk_5 _ _ _ _ _ _ _ _ _ _ _ hi hf] at h
  split at h
  · next hr =>
    rw [enc_5 _ _ _ _ _ _ _ _ _ _ _ hl]
    refine ⟨?_, rfl, rfl⟩
    simp only [List.cons_append, List.nil_append]
    rw [dec_5 _ _ _ _ _ _ _ hf]
    simp only [List.cons.injEq, and_true, true_and]
    omega
  · cases h
theorem back_6 (op r1 r2 x2 b1 d1 b2 d2 l1 l2 i2 : Int) (hf : fmOf op = 6) (hl : lenOf op = 6) (hi : isOp op = true) (h : chk op 6 [op, 6, r1, r2, x2, b1, d1, b2, d2, l1, l2, i2] = 0) (t : List Int) : decI (encI [op, 6, r1, r2, x2, b1, d1, b2, d2, l1, l2, i2] ++ t) = [op, 6, r1, r2, x2, b1, d1, b2, d2, l1, l2, i2] ∧ (encI [op, 6, r1, r2, x2, b1, d1, b2, d2, l1, l2, i2]).getD 0 0 = op ∧ (encI [op, 6, r1, r2, x2, b1, d1, b2, d2, l1, l2, i2] ++ t).getD 0 0 = op := by
  rw [chk_6 _ _ _ _ _ _ _ _ _ _ _ hi hf] at h
  split at h
  · next hr =>
    rw [enc_6 _ _ _ _ _ _ _ _ _ _ _ hl]
    refine ⟨?_, rfl, rfl⟩
    simp only [List.cons_append, List.nil_append]
    rw [dec_6 _ _ _ _ _ _ _ hf]
    simp only [List.cons.injEq, and_true, true_and]
    omega
  · cases h
theorem back12 (op fm r1 r2 x2 b1 d1 b2 d2 l1 l2 i2 : Int) (h : chk op fm [op, fm, r1, r2, x2, b1, d1, b2, d2, l1, l2, i2] = 0) (t : List Int) : decI (encI [op, fm, r1, r2, x2, b1, d1, b2, d2, l1, l2, i2] ++ t) = [op, fm, r1, r2, x2, b1, d1, b2, d2, l1, l2, i2] ∧ (encI [op, fm, r1, r2, x2, b1, d1, b2, d2, l1, l2, i2]).getD 0 0 = op ∧ (encI [op, fm, r1, r2, x2, b1, d1, b2, d2, l1, l2, i2] ++ t).getD 0 0 = op := by
  obtain ⟨hi, hf⟩ := chk_isOp h
  subst hf
  rcases form_cases hi with ⟨hf, hl⟩ | ⟨hf, hl⟩ | ⟨hf, hl⟩ | ⟨hf, hl⟩ | ⟨hf, hl⟩ | ⟨hf, hl⟩ | ⟨hf, hl⟩ | ⟨hf, hl⟩ | ⟨hf, hl⟩
  · rw [hf] at h ⊢; exact back_1 op r1 r2 x2 b1 d1 b2 d2 l1 l2 i2 hf hl hi h t
  · rw [hf] at h ⊢; exact back_7 op r1 r2 x2 b1 d1 b2 d2 l1 l2 i2 hf hl hi h t
  · rw [hf] at h ⊢; exact back_8 op r1 r2 x2 b1 d1 b2 d2 l1 l2 i2 hf hl hi h t
  · rw [hf] at h ⊢; exact back_2 op r1 r2 x2 b1 d1 b2 d2 l1 l2 i2 hf hl hi h t
  · rw [hf] at h ⊢; exact back_3 op r1 r2 x2 b1 d1 b2 d2 l1 l2 i2 hf hl hi h t
  · rw [hf] at h ⊢; exact back_4 op r1 r2 x2 b1 d1 b2 d2 l1 l2 i2 hf hl hi h t
  · rw [hf] at h ⊢; exact back_9 op r1 r2 x2 b1 d1 b2 d2 l1 l2 i2 hf hl hi h t
  · rw [hf] at h ⊢; exact back_5 op r1 r2 x2 b1 d1 b2 d2 l1 l2 i2 hf hl hi h t
  · rw [hf] at h ⊢; exact back_6 op r1 r2 x2 b1 d1 b2 d2 l1 l2 i2 hf hl hi h t
theorem again_1 (z0 z1 : Int) (t : List Int) (hf : fmOf z0 = 1) (hi : isOp z0 = true) (h0 : 0 ≤ z0 ∧ z0 ≤ 255) (h1 : 0 ≤ z1 ∧ z1 ≤ 255) : chk z0 1 (decI (z0 :: z1 :: t)) = 0 := by
  rw [dec_1 _ _ _ hf, chk_1 _ _ _ _ _ _ _ _ _ _ _ hi hf, if_pos (by omega)]
theorem again_7 (z0 z1 : Int) (t : List Int) (hf : fmOf z0 = 7) (hi : isOp z0 = true) (h0 : 0 ≤ z0 ∧ z0 ≤ 255) (h1 : 0 ≤ z1 ∧ z1 ≤ 255) : chk z0 7 (decI (z0 :: z1 :: t)) = 0 := by
  rw [dec_7 _ _ _ hf, chk_7 _ _ _ _ _ _ _ _ _ _ _ hi hf, if_pos (by omega)]
theorem again_8 (z0 z1 : Int) (t : List Int) (hf : fmOf z0 = 8) (hi : isOp z0 = true) (h0 : 0 ≤ z0 ∧ z0 ≤ 255) (h1 : 0 ≤ z1 ∧ z1 ≤ 255) : chk z0 8 (decI (z0 :: z1 :: t)) = 0 := by
  rw [dec_8 _ _ _ hf, chk_8 _ _ _ _ _ _ _ _ _ _ _ hi hf, if_pos (by omega)]
theorem again_2 (z0 z1 z2 z3 : Int) (t : List Int) (hf : fmOf z0 = 2) (hi : isOp z0 = true) (h0 : 0 ≤ z0 ∧ z0 ≤ 255) (h1 : 0 ≤ z1 ∧ z1 ≤ 255) (h2 : 0 ≤ z2 ∧ z2 ≤ 255) (h3 : 0 ≤ z3 ∧ z3 ≤ 255) : chk z0 2 (decI (z0 :: z1 :: z2 :: z3 :: t)) = 0 := by
  rw [dec_2 _ _ _ _ _ hf, chk_2 _ _ _ _ _ _ _ _ _ _ _ hi hf, if_pos (by omega)]
theorem again_3 (z0 z1 z2 z3 : Int) (t : List Int) (hf : fmOf z0 = 3) (hi : isOp z0 = true) (h0 : 0 ≤ z0 ∧ z0 ≤ 255) (h1 : 0 ≤ z1 ∧ z1 ≤ 255) (h2 : 0 ≤ z2 ∧ z2 ≤ 255) (h3 : 0 ≤ z3 ∧ z3 ≤ 255) : chk z0 3 (decI (z0 :: z1 :: z2 :: z3 :: t)) = 0 := by
  rw [dec_3 _ _ _ _ _ hf, chk_3 _ _ _ _ _ _ _ _ _ _ _ hi hf, if_pos (by omega)]
theorem again_4 (z0 z1 z2 z3 : Int) (t : List Int) (hf : fmOf z0 = 4) (hi : isOp z0 = true) (h0 : 0 ≤ z0 ∧ z0 ≤ 255) (h1 : 0 ≤ z1 ∧ z1 ≤ 255) (h2 : 0 ≤ z2 ∧ z2 ≤ 255) (h3 : 0 ≤ z3 ∧ z3 ≤ 255) : chk z0 4 (decI (z0 :: z1 :: z2 :: z3 :: t)) = 0 := by
  rw [dec_4 _ _ _ _ _ hf, chk_4 _ _ _ _ _ _ _ _ _ _ _ hi hf, if_pos (by omega)]
theorem again_9 (z0 z1 z2 z3 : Int) (t : List Int) (hf : fmOf z0 = 9) (hi : isOp z0 = true) (h0 : 0 ≤ z0 ∧ z0 ≤ 255) (h1 : 0 ≤ z1 ∧ z1 ≤ 255) (h2 : 0 ≤ z2 ∧ z2 ≤ 255) (h3 : 0 ≤ z3 ∧ z3 ≤ 255) : chk z0 9 (decI (z0 :: z1 :: z2 :: z3 :: t)) = 0 := by
  rw [dec_9 _ _ _ _ _ hf, chk_9 _ _ _ _ _ _ _ _ _ _ _ hi hf, if_pos (by omega)]
theorem again_5 (z0 z1 z2 z3 z4 z5 : Int) (t : List Int) (hf : fmOf z0 = 5) (hi : isOp z0 = true) (h0 : 0 ≤ z0 ∧ z0 ≤ 255) (h1 : 0 ≤ z1 ∧ z1 ≤ 255) (h2 : 0 ≤ z2 ∧ z2 ≤ 255) (h3 : 0 ≤ z3 ∧ z3 ≤ 255) (h4 : 0 ≤ z4 ∧ z4 ≤ 255) (h5 : 0 ≤ z5 ∧ z5 ≤ 255) : chk z0 5 (decI (z0 :: z1 :: z2 :: z3 :: z4 :: z5 :: t)) = 0 := by
  rw [dec_5 _ _ _ _ _ _ _ hf, chk_5 _ _ _ _ _ _ _ _ _ _ _ hi hf, if_pos (by omega)]
theorem again_6 (z0 z1 z2 z3 z4 z5 : Int) (t : List Int) (hf : fmOf z0 = 6) (hi : isOp z0 = true) (h0 : 0 ≤ z0 ∧ z0 ≤ 255) (h1 : 0 ≤ z1 ∧ z1 ≤ 255) (h2 : 0 ≤ z2 ∧ z2 ≤ 255) (h3 : 0 ≤ z3 ∧ z3 ≤ 255) (h4 : 0 ≤ z4 ∧ z4 ≤ 255) (h5 : 0 ≤ z5 ∧ z5 ≤ 255) : chk z0 6 (decI (z0 :: z1 :: z2 :: z3 :: z4 :: z5 :: t)) = 0 := by
  rw [dec_6 _ _ _ _ _ _ _ hf, chk_6 _ _ _ _ _ _ _ _ _ _ _ hi hf, if_pos (by omega)]
theorem list_two {zs : List Int} (h : 2 ≤ zs.length) : ∃ a b t, zs = a :: b :: t := by
  match zs, h with
  | a :: b :: t, _ => exact ⟨a, b, t, rfl⟩
theorem list_four {zs : List Int} (h : 4 ≤ zs.length) : ∃ a b c d t, zs = a :: b :: c :: d :: t := by
  match zs, h with
  | a :: b :: c :: d :: t, _ => exact ⟨a, b, c, d, t, rfl⟩
theorem list_six {zs : List Int} (h : 6 ≤ zs.length) : ∃ a b c d e f t, zs = a :: b :: c :: d :: e :: f :: t := by
  match zs, h with
  | a :: b :: c :: d :: e :: f :: t, _ => exact ⟨a, b, c, d, e, f, t, rfl⟩
theorem dokI_iff {n : Nat} {zs : List Int} (h : dokI n zs = true) : 0 < n ∧ isOp (zs.getD 0 0) = true ∧ lenOf (zs.getD 0 0) ≤ n := by
  unfold dokI at h
  rw [Bool.and_eq_true, Bool.and_eq_true, decide_eq_true_iff, decide_eq_true_iff] at h
  exact h
theorem chk_decI {zs : List Int} (hr : ∀ i, 0 ≤ zs.getD i 0 ∧ zs.getD i 0 ≤ 255) (h : dokI zs.length zs = true) : chk (zs.getD 0 0) (fmOf (zs.getD 0 0)) (decI zs) = 0 ∧ (decI zs).getD 0 0 = zs.getD 0 0 ∧ (decI zs).getD 1 0 = fmOf (zs.getD 0 0) := by
  obtain ⟨h0, hi, hl⟩ := dokI_iff h
  rcases form_cases hi with ⟨hf, hn⟩ | ⟨hf, hn⟩ | ⟨hf, hn⟩ | ⟨hf, hn⟩ | ⟨hf, hn⟩ | ⟨hf, hn⟩ | ⟨hf, hn⟩ | ⟨hf, hn⟩ | ⟨hf, hn⟩
  · obtain ⟨z0, z1, t, rfl⟩ := list_two (zs := zs) (by omega)
    have e := dec_1 z0 z1 t hf
    exact ⟨(congrArg (fun f => chk z0 f (decI (z0 :: z1 :: t))) hf).trans (again_1 z0 z1 t hf hi (hr 0) (hr 1)), (congrArg (fun l => List.getD l 0 0) e).trans rfl, (congrArg (fun l => List.getD l 1 0) e).trans hf.symm⟩
  · obtain ⟨z0, z1, t, rfl⟩ := list_two (zs := zs) (by omega)
    have e := dec_7 z0 z1 t hf
    exact ⟨(congrArg (fun f => chk z0 f (decI (z0 :: z1 :: t))) hf).trans (again_7 z0 z1 t hf hi (hr 0) (hr 1)), (congrArg (fun l => List.getD l 0 0) e).trans rfl, (congrArg (fun l => List.getD l 1 0) e).trans hf.symm⟩
  · obtain ⟨z0, z1, t, rfl⟩ := list_two (zs := zs) (by omega)
    have e := dec_8 z0 z1 t hf
    exact ⟨(congrArg (fun f => chk z0 f (decI (z0 :: z1 :: t))) hf).trans (again_8 z0 z1 t hf hi (hr 0) (hr 1)), (congrArg (fun l => List.getD l 0 0) e).trans rfl, (congrArg (fun l => List.getD l 1 0) e).trans hf.symm⟩
  · obtain ⟨z0, z1, z2, z3, t, rfl⟩ := list_four (zs := zs) (by omega)
    have e := dec_2 z0 z1 z2 z3 t hf
    exact ⟨(congrArg (fun f => chk z0 f (decI (z0 :: z1 :: z2 :: z3 :: t))) hf).trans (again_2 z0 z1 z2 z3 t hf hi (hr 0) (hr 1) (hr 2) (hr 3)), (congrArg (fun l => List.getD l 0 0) e).trans rfl, (congrArg (fun l => List.getD l 1 0) e).trans hf.symm⟩
  · obtain ⟨z0, z1, z2, z3, t, rfl⟩ := list_four (zs := zs) (by omega)
    have e := dec_3 z0 z1 z2 z3 t hf
    exact ⟨(congrArg (fun f => chk z0 f (decI (z0 :: z1 :: z2 :: z3 :: t))) hf).trans (again_3 z0 z1 z2 z3 t hf hi (hr 0) (hr 1) (hr 2) (hr 3)), (congrArg (fun l => List.getD l 0 0) e).trans rfl, (congrArg (fun l => List.getD l 1 0) e).trans hf.symm⟩
  · obtain ⟨z0, z1, z2, z3, t, rfl⟩ := list_four (zs := zs) (by omega)
    have e := dec_4 z0 z1 z2 z3 t hf
    exact ⟨(congrArg (fun f => chk z0 f (decI (z0 :: z1 :: z2 :: z3 :: t))) hf).trans (again_4 z0 z1 z2 z3 t hf hi (hr 0) (hr 1) (hr 2) (hr 3)), (congrArg (fun l => List.getD l 0 0) e).trans rfl, (congrArg (fun l => List.getD l 1 0) e).trans hf.symm⟩
  · obtain ⟨z0, z1, z2, z3, t, rfl⟩ := list_four (zs := zs) (by omega)
    have e := dec_9 z0 z1 z2 z3 t hf
    exact ⟨(congrArg (fun f => chk z0 f (decI (z0 :: z1 :: z2 :: z3 :: t))) hf).trans (again_9 z0 z1 z2 z3 t hf hi (hr 0) (hr 1) (hr 2) (hr 3)), (congrArg (fun l => List.getD l 0 0) e).trans rfl, (congrArg (fun l => List.getD l 1 0) e).trans hf.symm⟩
  · obtain ⟨z0, z1, z2, z3, z4, z5, t, rfl⟩ := list_six (zs := zs) (by omega)
    have e := dec_5 z0 z1 z2 z3 z4 z5 t hf
    exact ⟨(congrArg (fun f => chk z0 f (decI (z0 :: z1 :: z2 :: z3 :: z4 :: z5 :: t))) hf).trans (again_5 z0 z1 z2 z3 z4 z5 t hf hi (hr 0) (hr 1) (hr 2) (hr 3) (hr 4) (hr 5)), (congrArg (fun l => List.getD l 0 0) e).trans rfl, (congrArg (fun l => List.getD l 1 0) e).trans hf.symm⟩
  · obtain ⟨z0, z1, z2, z3, z4, z5, t, rfl⟩ := list_six (zs := zs) (by omega)
    have e := dec_6 z0 z1 z2 z3 z4 z5 t hf
    exact ⟨(congrArg (fun f => chk z0 f (decI (z0 :: z1 :: z2 :: z3 :: z4 :: z5 :: t))) hf).trans (again_6 z0 z1 z2 z3 z4 z5 t hf hi (hr 0) (hr 1) (hr 2) (hr 3) (hr 4) (hr 5)), (congrArg (fun l => List.getD l 0 0) e).trans rfl, (congrArg (fun l => List.getD l 1 0) e).trans hf.symm⟩
end Go.Proofs.Ytfbcjpbfggbhfaa
