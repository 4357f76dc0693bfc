/- PLAIN LAWS: a row of bytes stored one by one. No conditions. -/
import Derived.Test.YtcollddpfahaaaaSt18
namespace Go.Proofs.Ytcollddpfahaaaa
open Go.RowKit
set_option linter.unusedVariables false
/-- the other storage, and the parts put one by one -/
def Parts (al : Int → Bool) (N : Nat) (ks : List Int) (a : Nat) (bs ys cs : List Int) (all : Bool) (i : Nat) : Prop := cs.length = N ∧ (all = true → cs = splice bs a (ys.take i) ∧ ∀ j : Nat, j < i → sCode al N ks ((a : Int) + j) 1 = 0) ∧ (all = false → ∃ j : Nat, j < i ∧ sCode al N ks ((a : Int) + j) 1 ≠ 0)
theorem Parts.start {al : Int → Bool} {N : Nat} {ks : List Int} {a : Nat} {bs ys : List Int} (h : bs.length = N) : Parts al N ks a bs ys bs true 0 :=
  ⟨h, fun _ => ⟨by simp [splice_nil], fun j hj => by omega⟩, fun h => by cases h⟩
theorem Parts.step {al : Int → Bool} {N : Nat} {ks : List Int} {a : Nat} {bs ys cs : List Int} {i : Nat} (h : Parts al N ks a bs ys cs true i) (hi : i < ys.length) (hb : bs.length = N) {c : Int} (hc : sCode al N ks ((a : Int) + i) 1 = c) : Parts al N ks a bs ys (sPut al cs ks ((a : Int) + i) ((ys.drop i).take 1)) (c == 0) (i + 1) := by
  obtain ⟨h1, h2, _⟩ := h
  obtain ⟨h3, h4⟩ := h2 rfl
  have hl1 : (((ys.drop i).take 1).length : Int) = 1 := by rw [List.length_take, List.length_drop]; omega
  refine ⟨by rw [sPut_length, h1], fun hz => ?_, fun hz => ?_⟩
  · have hz : c = 0 := by simpa using hz
    rw [hz] at hc
    have hf := sIn_yes (sCode_iff.1 hc).1
    refine ⟨?_, fun j hj => ?_⟩
    · rw [sPut_yes (m := 1) hl1.symm (by rw [h1]; exact hc), h3, show ((a : Int) + i).toNat = a + i by omega]
      exact splice_more bs a ys i hi (by omega)
    · rcases Nat.lt_or_ge j i with h5 | h5
      · exact h4 j h5
      · rw [show j = i by omega]; exact hc
  · have hz : c ≠ 0 := by simpa using hz
    exact ⟨i, by omega, by rw [hc]; exact hz⟩
theorem Parts.stop {al : Int → Bool} {N : Nat} {ks : List Int} {a : Nat} {bs ys cs : List Int} {i : Nat} (h : Parts al N ks a bs ys cs false i) (m : Nat) (hm : i ≤ m) : sCode al N ks a m ≠ 0 := by
  obtain ⟨j, hj, hc⟩ := h.2.2 rfl
  exact fun h0 => hc (code_one (by omega) h0)
theorem Parts.end_ {al : Int → Bool} {N : Nat} {ks : List Int} {a : Nat} {bs ys cs : List Int} (h : Parts al N ks a bs ys cs true ys.length) (ha : a ≤ N) (hb : bs.length = N) : sCode al N ks a ys.length = 0 ∧ sPut al bs ks a ys = cs := by
  obtain ⟨h3, h4⟩ := h.2.1 rfl
  have h0 := code_all ha h4
  exact ⟨h0, by rw [sPut_yes (m := ys.length) rfl (by rw [hb]; exact h0), h3, List.take_length]; rfl⟩
theorem Parts.all_ {al : Int → Bool} {N : Nat} {ks : List Int} {a : Nat} {bs ys cs : List Int} {m : Nat} (h : Parts al N ks a bs ys cs true m) (hm : ys.length = m) (ha : a ≤ N) (hb : bs.length = N) : sCode al N ks a m = 0 ∧ sPut al bs ks a ys = cs := by
  subst hm; exact h.end_ ha hb
end Go.Proofs.Ytcollddpfahaaaa
