/- SMALL: a slice of bytes that came in, as a list of numbers. No conditions. -/
import Derived.Test.YthjdjbipfdigeaaFr
import Derived.Test.YthjdjbipfdigeaaWdF
import Derived.Test.YthjdjbipfdigeaaBo
namespace Go.Proofs.Ythjdjbipfdigeaa
open Go.RowKit
set_option linter.unusedVariables false

theorem row_byt {w : World} {a : Option Addr} {len cap : Nat} {zs : List Int} (h : IsRow .u8 w a len cap zs) : Byt w a len (zs.take len) ∧ (a = none → cap = 0) ∧ len ≤ cap ∧ cap ≤ maxLen := by
  rcases h with ⟨rfl, rfl, rfl, rfl⟩ | ⟨x, rfl, hl, hm, hz, hc, hw⟩
  · exact ⟨⟨rfl, by simp, fun h => absurd h (by omega)⟩, fun _ => rfl, Nat.le_refl _, Nat.zero_le _⟩
  · refine ⟨⟨by rw [List.length_take]; omega, fun n hn => ?_, fun h0 => ?_⟩, (by intro h; cases h), hl, hm⟩
    · exact bounds_u8 (hw n (List.mem_of_mem_take hn))
    · obtain ⟨b, off, spot⟩ := x
      have h1 := hc 0 (by omega)
      have hspot : spot = none := by simpa [Addr.add] using World.cell?_spot h1
      subst hspot
      refine ⟨b, off, rfl, fun i hi => ?_⟩
      have h2 := hc i (by omega)
      have hadd : (⟨b, off, none⟩ : Addr).add i = ⟨b, off + i, none⟩ := by unfold Addr.add; split <;> simp_all
      rw [hadd] at h2
      rw [h2]
      simp [List.getD_eq_getElem?_getD, hi]

section
variable {w : World} {base n : Nat} {zs : List Int} {g cap : Nat}
/-- a byte of the call's own is stored -/
theorem Own.store (h : Own w base (.slice (some ⟨g, 0, none⟩) n cap) n zs) {k : Nat} (hk : k < n) {y : Int} (hy : 0 ≤ y ∧ y ≤ 255) : Own (w.setCell ⟨g, k, none⟩ (.int .u8 y)) base (.slice (some ⟨g, 0, none⟩) n cap) n (zs.set k y) := by
  obtain ⟨cur, q1, q2, q3, q4, q5, q6⟩ := Own.heap h
  have hh : (w.setCell ⟨g, k, none⟩ (.int .u8 y)).heap[g]? = some (.cells (cur.set k (.int .u8 y)).toArray 5 (0, 0)) := by
    rw [setCell_eq_setRow w g k cur.toArray 5 (0, 0) _ q1, setRow_heap w g _ _ _ _ q1]
    simp
  refine Own.of_heap hh (by simpa using q2) ?_ (by simpa using h.len) q4 q5 q6 ?_
  · rw [List.take_set, q3, List.map_set]
  · intro z hz
    rcases List.mem_or_eq_of_mem_set hz with hz | rfl
    · exact h.2 z hz
    · exact hy
theorem Own.cell (h : Own w base (.slice (some ⟨g, 0, none⟩) n cap) n zs) {k : Nat} (hk : k < n) : w.cell? ⟨g, k, none⟩ = some (.int .u8 (zs.getD k 0)) := by
  obtain ⟨b, off, e, hc⟩ := h.byt.2.2 (by omega)
  injection e with e; injection e with e1 e2; subst e1 e2
  have := hc k hk
  rwa [Nat.zero_add] at this
theorem Own.free (h : Own w base (.slice (some ⟨g, 0, none⟩) n cap) n zs) (k : Nat) : w.frozen? ⟨g, k, none⟩ = false := by
  obtain ⟨cur, q1, _⟩ := Own.heap h
  simp [World.frozen?, q1]
theorem Own.far {v : Value} (h : Own w base v n zs) {p : Addr} (hp : p.block < base) (u : Value) : Own (w.setCell p u) base v n zs := ⟨ownsRow_setCell_below h.1 hp u, h.2⟩
theorem Own.rangeD {v : Value} (h : Own w base v n zs) (k : Nat) : 0 ≤ zs.getD k 0 ∧ zs.getD k 0 ≤ 255 := by
  rw [List.getD_eq_getElem?_getD]
  rcases Nat.lt_or_ge k zs.length with hi | hi
  · rw [List.getElem?_eq_getElem hi]; exact h.2 _ (List.getElem_mem hi)
  · rw [List.getElem?_eq_none hi]; simp
end
end Go.Proofs.Ythjdjbipfdigeaa
