/- PLAIN laws: LM gives back what STM stored. No program in sight. -/
import Derived.Test.YthjdjbipfdigeaaGe17
namespace Go.Proofs.Ythjdjbipfdigeaa
open Go.RowKit
set_option linter.unusedVariables false
set_option linter.unusedSimpArgs false
theorem flv_fb {v : Int} (h0 : 0 ≤ v) (h1 : v ≤ 4294967295) : flv (v / 16777216) (v / 65536 % 256) (v / 256 % 256) (v % 256) = v := by unfold flv; omega
theorem stB_get (os : List Int) (n : Nat) : ∀ (C k i : Nat), k < C → i < 4 → (stB os n C).getD (4 * k + i) 0 = (fb (os.getD ((n + k) % 16) 0)).getD i 0
  | C + 1, k, i, hk, hi => by
    have hl := stB_len os n C
    simp only [stB]
    rw [List.getD_eq_getElem?_getD, List.getD_eq_getElem?_getD]
    rcases Nat.lt_or_ge k C with h | h
    · rw [List.getElem?_append_left (by omega)]
      have := stB_get os n C k i h hi
      rw [List.getD_eq_getElem?_getD, List.getD_eq_getElem?_getD] at this
      exact this
    · obtain rfl : k = C := by omega
      rw [List.getElem?_append_right (by omega), hl, show 4 * k + i - 4 * k = i by omega]
      simp only [List.getD_eq_getElem?_getD]
def exB (n k j : Nat) : Bool := (List.range k).any fun i => (n + i) % 16 == j
theorem lmR_stB (rs os : List Int) (n C : Nat) (hr : rs.length = 16) (ro : ∀ z ∈ os, 0 ≤ z ∧ z ≤ 4294967295) : ∀ k, k ≤ C → ∀ j, j < 16 → (lmR rs n (stB os n C) k).getD j 0 = if exB n k j = true then os.getD j 0 else rs.getD j 0
  | 0, _, j, _ => by simp [lmR, exB]
  | k + 1, hk, j, hj => by
    have ih := lmR_stB rs os n C hr ro k (by omega) j hj
    have hv := getD_in ro ((n + k) % 16)
    have e0 := stB_get os n C k 0 (by omega) (by omega)
    have e1 := stB_get os n C k 1 (by omega) (by omega)
    have e2 := stB_get os n C k 2 (by omega) (by omega)
    have e3 := stB_get os n C k 3 (by omega) (by omega)
    rw [Nat.add_zero] at e0
    have hx : exB n (k + 1) j = (exB n k j || (n + k) % 16 == j) := by unfold exB; rw [List.range_succ, List.any_append]; simp
    simp only [lmR]
    rw [e0, e1, e2, e3]
    simp only [fb, List.getD_cons_zero, List.getD_cons_succ]
    rw [flv_fb hv.1 hv.2, hx]
    by_cases h : (n + k) % 16 = j
    · rw [h, List.getD_eq_getElem?_getD, List.getElem?_set_self (by rw [lmR_len, hr]; exact hj)]
      simp
    · rw [List.getD_eq_getElem?_getD, List.getElem?_set_ne h, ← List.getD_eq_getElem?_getD, ih]
      simp [h]
def inB (n m j : Nat) : Bool := if n ≤ m then decide (n ≤ j ∧ j ≤ m) else decide (n ≤ j ∨ j ≤ m)
theorem exB_in : ∀ n : Nat, n < 16 → ∀ m : Nat, m < 16 → ∀ j : Nat, j < 16 → exB n ((m + 16 - n) % 16 + 1) j = inB n m j := by decide +kernel
theorem sGet_sPut (bs ks ys : List Int) (a : Nat) (h : a + ys.length ≤ bs.length) : sGet (sPut (alP 0) bs ks (a : Int) ys) (a : Int) (ys.length : Int) = ys := by
  unfold sPut
  rw [if_pos (code0 _ alP0 _ _ _ _ (by omega) (by omega) (by omega))]
  unfold sGet
  have hl : (splice bs (a : Int).toNat ys).length = bs.length := by unfold splice; simp; omega
  rw [hl, if_pos (show sIn bs.length (a : Int) (ys.length : Int) = true from by unfold sIn; exact decide_eq_true (by omega)), Int.toNat_natCast, Int.toNat_natCast]
  unfold splice
  rw [List.drop_append_of_le_length (by simp; omega), List.drop_of_length_le (by simp; omega), List.nil_append, List.take_left]
theorem sPut_len (bs ks ys : List Int) (a : Nat) (h : a + ys.length ≤ bs.length) : (sPut (alP 0) bs ks (a : Int) ys).length = bs.length := by
  unfold sPut
  rw [if_pos (code0 _ alP0 _ _ _ _ (by omega) (by omega) (by omega))]
  unfold splice; simp; omega
/-- what LM makes of the registers, register by register -/
theorem saved (rs os bs ks : List Int) (n m : Nat) (hn : n < 16) (hm : m < 16) (hr : rs.length = 16) (ro : ∀ z ∈ os, 0 ≤ z ∧ z ≤ 4294967295) (hb : 1024 ≤ bs.length) (j : Nat) (hj : j < 16) :
    (lmR rs n (sGet (sPut (alP 0) bs ks 512 (stB os n ((m + 16 - n) % 16 + 1))) 512 ((4 * ((m + 16 - n) % 16 + 1) : Nat) : Int)) ((m + 16 - n) % 16 + 1)).getD j 0 = if inB n m j = true then os.getD j 0 else rs.getD j 0 := by
  have hl := stB_len os n ((m + 16 - n) % 16 + 1)
  have e := sGet_sPut bs ks (stB os n ((m + 16 - n) % 16 + 1)) 512 (by omega)
  rw [hl] at e
  rw [show sGet (sPut (alP 0) bs ks 512 (stB os n ((m + 16 - n) % 16 + 1))) 512 ((4 * ((m + 16 - n) % 16 + 1) : Nat) : Int) = stB os n ((m + 16 - n) % 16 + 1) from e, lmR_stB rs os n _ hr ro _ (Nat.le_refl _) j hj, exB_in n hn m hm j hj]
end Go.Proofs.Ythjdjbipfdigeaa
