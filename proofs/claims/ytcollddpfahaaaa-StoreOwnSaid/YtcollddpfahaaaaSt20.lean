/- SMALL: a row of bytes in a block of its own, written and read; a storage beside it; key 0. No conditions. -/
import Derived.Test.YtcollddpfahaaaaSt18
namespace Go.Proofs.Ytcollddpfahaaaa
open Go.RowKit
set_option linter.unusedVariables false
def Ro (w : World) (g c : Nat) (vs : List Int) : Prop := Rw w g 5 c (vs.map (Value.int .u8)) ∧ ∀ z ∈ vs, 0 ≤ z ∧ z ≤ 255
section
variable {w w' : World} {g c : Nat} {vs : List Int}
theorem Ro.cell (h : Ro w g c vs) {i : Nat} (hi : i < vs.length) : w.cell? ⟨g, i, none⟩ = some (.int .u8 (vs.getD i 0)) := by
  rw [h.1.cell (i := i) (by simpa using hi)]; simp [List.getD_eq_getElem?_getD, hi]
theorem Ro.free (h : Ro w g c vs) (i : Nat) : w.frozen? ⟨g, i, none⟩ = false := h.1.free i
theorem Ro.lt (h : Ro w g c vs) : g < w.heap.size := h.1.lt
theorem Ro.set_ (h : Ro w g c vs) {i : Nat} {y : Int} (hy : 0 ≤ y ∧ y ≤ 255) : Ro (w.setCell ⟨g, i, none⟩ (.int .u8 y)) g c (vs.set i y) := by
  refine ⟨by rw [List.map_set]; exact h.1.set_ _, fun z hz => ?_⟩
  rcases List.mem_or_eq_of_mem_set hz with hz | rfl
  · exact h.2 z hz
  · exact hy
theorem Ro.grown {b : Nat} (h : Ro w g c vs) (hg : w.grownBy w' (some b)) (hne : g ≠ b) : Ro w' g c vs := ⟨h.1.keep (hg.block _ h.lt (sne hne)), h.2⟩
theorem Ro.belowS (h : Ro w g c vs) (hb : Below w.heap.size w w') : Ro w' g c vs := ⟨h.1.keep (hb.block _ h.lt), h.2⟩
theorem Ro.drewN (h : Ro w g c vs) (n : Nat) : Ro (w.drewN n) g c vs := h
theorem Ro.byt (h : Ro w g c vs) (n : Nat) (hn : vs.length = n) : Byt w (some ⟨g, 0, none⟩) n vs := by
  subst hn
  exact ⟨rfl, h.2, fun _ => ⟨g, 0, rfl, fun i hi => by rw [Nat.zero_add]; exact h.cell hi⟩⟩
theorem Own.ro {base n : Nat} (h : Own w base (.slice (some ⟨g, 0, none⟩) n c) n vs) : Ro w g c vs := by
  obtain ⟨cur, q1, q2, q3, q4, q5, q6⟩ := Own.heap h
  exact ⟨⟨cur, q1, q2, by rw [List.length_map, h.len]; exact q3, q6⟩, h.2⟩
theorem Ro.rangeD (h : Ro w g c vs) (k : Nat) : 0 ≤ vs.getD k 0 ∧ vs.getD k 0 ≤ 255 := by
  rw [List.getD_eq_getElem?_getD]
  rcases Nat.lt_or_ge k vs.length with hi | hi
  · rw [List.getElem?_eq_getElem hi]; exact h.2 _ (List.getElem_mem hi)
  · rw [List.getElem?_eq_none hi]; simp
end
theorem Wk.far {T : TypeId} {B : Nat} {a0 w w' : World} {F : Foot} {bs ks : List Int} {b : Nat} (h : Wk T B a0 w F bs ks) (hg : w.grownBy w' (some b)) (hf : b ≠ F.g ∧ b ≠ F.gb ∧ b ≠ F.gk ∧ B ≤ b) : Wk T B a0 w' F bs ks :=
  ⟨h.st.grown hg (sne hf.1.symm) (sne hf.2.1.symm) (sne hf.2.2.1.symm), below_of_grownB h.bl hg hf.2.2.2 h.hB, h.fg, h.fb, h.fk⟩
theorem Wk.off {T : TypeId} {B : Nat} {a0 w : World} {F : Foot} {bs ks : List Int} {b : Nat} (h : Wk T B a0 w F bs ks) (hb : w.heap.size ≤ b) : b ≠ F.g ∧ b ≠ F.gb ∧ b ≠ F.gk ∧ B ≤ b := by
  have := h.st.ltg; have := h.st.ltb; have := h.st.ltk; have := h.hB
  omega
theorem code_free {al : Int → Bool} (ha : ∀ k, al k = true) {N : Nat} {ks : List Int} {a n : Nat} (h : a + n ≤ N) : sCode al N ks a n = 0 :=
  sCode_iff.2 ⟨by unfold sIn; rw [decide_eq_true_iff]; omega, okB_mk fun j _ => ha _⟩
theorem alP_zero (k : Int) : alP 0 k = true := by simp [alP]
theorem alF_zero (k : Int) : alF 0 k = true := by simp [alF]
theorem get_put {al : Int → Bool} (ha : ∀ k, al k = true) {bs ks ys : List Int} {a n N : Nat} (hN : bs.length = N) (hn : ys.length = n) (h : a + n ≤ N) : sGet (sPut al bs ks a ys) a n = ys := by
  subst hN hn
  unfold sGet
  rw [if_pos (by unfold sIn; rw [decide_eq_true_iff, sPut_length]; omega), sPut_yes (m := ys.length) rfl (code_free ha h)]
  unfold splice
  have e1 : (bs.take a).length = a := by rw [List.length_take]; omega
  rw [Int.toNat_natCast, Int.toNat_natCast, List.drop_append, List.drop_of_length_le (by omega), e1, Nat.sub_self, List.drop_zero, List.nil_append, List.take_left']
  rfl
theorem xor_u8 (z : Int) : 0 ≤ bits .xor .u8 z 255 ∧ bits .xor .u8 z 255 ≤ 255 := bounds_u8 (wf_bits .xor .u8 z 255)
theorem own_last {vs : List Int} {L i : Nat} {x : Int} (hl : vs.length = L + 1) (hi : i < L + 1) (hx : vs.getD i 0 = x) (h : vs.getD L 0 = if L < i then 85 else 170) : (vs.set i (bits .xor .u8 x 255)).getD L 0 = if L < i + 1 then 85 else 170 := by
  rw [List.getD_eq_getElem?_getD, List.getElem?_set]
  by_cases e : i = L
  · subst e
    rw [if_pos rfl, if_pos (by omega), if_pos (by omega)]
    rw [if_neg (by omega), hx] at h
    subst h
    decide
  · rw [if_neg e, ← List.getD_eq_getElem?_getD, h, if_neg (by omega), if_neg (by omega)]
end Go.Proofs.Ytcollddpfahaaaa
