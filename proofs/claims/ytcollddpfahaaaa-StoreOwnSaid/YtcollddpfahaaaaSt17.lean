/- PLAIN LAWS of Put: what it changes, by parts or whole; the keys of the blocks set one after another. No conditions, no program in sight. -/
import Derived.Test.YtcollddpfahaaaaSt16
namespace Go.Proofs.Ytcollddpfahaaaa
open Go.RowKit
set_option linter.unusedVariables false

def KeyD (ks kv : List Int) (k : Nat) : Prop := ∀ i, i < k → i < ks.length → ks.getD i 0 = kv.getD i 0 % 32
theorem sSet_blk {N : Nat} {ks : List Int} (hN : N = 2048 * ks.length) (i : Nat) {v : Int} (hv : 0 ≤ v ∧ v ≤ 31) : sSet N ks ((i : Int) * 2048) v = if i < ks.length then ks.set i v else ks := by
  unfold sSet sAt sKey
  by_cases h : i < ks.length
  · rw [if_pos (by simp; omega), if_pos h]
    congr 1
    omega
  · rw [if_neg (by simp; omega), if_neg h]
theorem KeyD.step {ks kv : List Int} {k : Nat} (h : KeyD ks kv k) : KeyD (if k < ks.length then ks.set k (kv.getD k 0 % 32) else ks) kv (k + 1) := by
  intro i hi hl
  by_cases hk : k < ks.length
  · rw [if_pos hk] at hl ⊢
    rw [List.length_set] at hl
    by_cases e : i = k
    · subst e; simp [List.getD_eq_getElem?_getD, hl]
    · have := h i (by omega) hl
      rw [← this]; simp [List.getD_eq_getElem?_getD, Ne.symm e]
  · rw [if_neg hk] at hl ⊢
    exact h i (by omega) hl
theorem KeyD.zero (ks kv : List Int) : KeyD ks kv 0 := fun i hi => by omega
theorem KeyD.stepS {N : Nat} {ks kv : List Int} {k : Nat} (hN : N = 2048 * ks.length) (hv : 0 ≤ kv.getD k 0) (h : KeyD ks kv k) : KeyD (sSet N ks ((k : Int) * 2048) (kv.getD k 0 % 32)) kv (k + 1) ∧ (sSet N ks ((k : Int) * 2048) (kv.getD k 0 % 32)).length = ks.length := by
  rw [sSet_blk hN k (by omega)]
  exact ⟨h.step, by split <;> simp⟩

theorem sCode_iff {al : Int → Bool} {N : Nat} {ks : List Int} {addr n : Int} : sCode al N ks addr n = 0 ↔ sIn N addr n = true ∧ okB al ks addr.toNat n.toNat = true := by
  unfold sCode
  by_cases h : sIn N addr n = true
  · rw [if_pos h]
    by_cases h2 : okB al ks addr.toNat n.toNat = true
    · rw [if_pos h2]; exact ⟨fun _ => ⟨h, h2⟩, fun _ => rfl⟩
    · rw [if_neg h2]; exact ⟨fun h => by omega, fun h => absurd h.2 h2⟩
  · rw [if_neg h]; exact ⟨fun h => by omega, fun k => absurd k.1 h⟩
theorem okB_at {al : Int → Bool} {ks : List Int} {a n : Nat} (h : okB al ks a n = true) {j : Nat} (hj : j < n) : al (ks.getD ((a + j) / 2048) 0) = true := by
  unfold okB at h
  exact List.all_eq_true.1 h j (List.mem_range.2 hj)
theorem okB_mk {al : Int → Bool} {ks : List Int} {a n : Nat} (h : ∀ j, j < n → al (ks.getD ((a + j) / 2048) 0) = true) : okB al ks a n = true := by
  unfold okB
  exact List.all_eq_true.2 fun j hj => h j (List.mem_range.1 hj)
theorem sPut_no {al : Int → Bool} {bs ks : List Int} {addr : Int} {ys : List Int} {m : Int} (hm : m = ys.length) (h : sCode al bs.length ks addr m ≠ 0) : sPut al bs ks addr ys = bs := by
  subst hm; unfold sPut; rw [if_neg h]
theorem sPut_yes {al : Int → Bool} {bs ks : List Int} {addr : Int} {ys : List Int} {m : Int} (hm : m = ys.length) (h : sCode al bs.length ks addr m = 0) : sPut al bs ks addr ys = splice bs addr.toNat ys := by
  subst hm; unfold sPut; rw [if_pos h]
theorem sPut_length {al : Int → Bool} {bs ks : List Int} {addr : Int} {ys : List Int} : (sPut al bs ks addr ys).length = bs.length := by
  unfold sPut
  split
  · next h =>
    obtain ⟨h1, h2, h3, h4⟩ := sIn_yes (sCode_iff.1 h).1
    exact length_splice _ _ _ (by omega)
  · rfl
theorem sPut_diff {al : Int → Bool} {bs ks : List Int} {addr : Int} {ys : List Int} {i : Nat} (h : (sPut al bs ks addr ys).getD i 0 ≠ bs.getD i 0) : al (ks.getD (i / 2048) 0) = true := by
  unfold sPut at h
  split at h
  · next hc =>
    obtain ⟨h0, hk⟩ := sCode_iff.1 hc
    obtain ⟨h1, h2, h3, h4⟩ := sIn_yes h0
    rw [List.getD_eq_getElem?_getD, List.getD_eq_getElem?_getD, splice_get _ _ _ (by omega)] at h
    by_cases c1 : i < addr.toNat
    · simp [c1] at h
    · by_cases c2 : i < addr.toNat + ys.length
      · have := okB_at hk (j := i - addr.toNat) (by omega)
        rwa [show addr.toNat + (i - addr.toNat) = i by omega] at this
      · simp [c1, c2] at h
  · exact absurd rfl h
/-- all bytes, one after another -/
theorem code_all {al : Int → Bool} {N : Nat} {ks : List Int} {a n : Nat} (ha : a ≤ N) (h : ∀ j : Nat, j < n → sCode al N ks ((a : Int) + j) 1 = 0) : sCode al N ks a n = 0 := by
  refine sCode_iff.2 ⟨?_, ?_⟩
  · unfold sIn
    rw [decide_eq_true_iff]
    rcases Nat.eq_zero_or_pos n with h0 | h0
    · subst h0; omega
    · have := sIn_yes (sCode_iff.1 (h (n - 1) (by omega))).1
      omega
  · refine okB_mk fun j hj => ?_
    have := okB_at (sCode_iff.1 (h j (by omega))).2 (j := 0) (by simp)
    rw [show ((a : Int) + j).toNat + 0 = (a : Int).toNat + j by omega] at this
    exact this
theorem code_one {al : Int → Bool} {N : Nat} {ks : List Int} {a n j : Nat} (hj : j < n) (h : sCode al N ks a n = 0) : sCode al N ks ((a : Int) + j) 1 = 0 := by
  obtain ⟨h1, h2⟩ := sCode_iff.1 h
  have h3 := sIn_yes h1
  refine sCode_iff.2 ⟨by unfold sIn; rw [decide_eq_true_iff]; omega, okB_mk fun i hi => ?_⟩
  have := okB_at h2 (j := j) (by omega)
  rw [show ((a : Int) + j).toNat + i = (a : Int).toNat + j by omega]
  exact this
theorem splice_more {α : Type} (L : List α) (a : Nat) (ys : List α) (i : Nat) (hi : i < ys.length) (hl : a + i < L.length) : splice (splice L a (ys.take i)) (a + i) ((ys.drop i).take 1) = splice L a (ys.take (i + 1)) := by
  have e1 : (ys.drop i).take 1 = [ys[i]] := by rw [List.drop_eq_getElem_cons hi]; rfl
  have e2 : ys.take (i + 1) = ys.take i ++ [ys[i]] := by rw [List.take_succ_eq_append_getElem hi]
  have el : (ys.take i).length = i := by rw [List.length_take]; omega
  rw [e1, e2]
  have h1 := splice_set L a (ys.take i) ys[i] (by rw [el]; exact hl)
  rw [el] at h1
  rw [← h1]
  have hlen : (splice L a (ys.take i)).length = L.length := length_splice _ _ _ (by rw [el]; omega)
  have h2 := splice_cons (splice L a (ys.take i)) (a + i) ys[i] [] (by rw [hlen]; simp; omega)
  rw [← h2, splice_nil]
end Go.Proofs.Ytcollddpfahaaaa
