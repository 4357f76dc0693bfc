/- SMALL: what is kept in a region that draws its order: a box's cells, slices, and Below. No conditions. -/
import Derived.Test.YthjdjbipfdigeaaWdF
namespace Go.Proofs.Ythjdjbipfdigeaa
open Go.RowKit
set_option linter.unusedVariables false
theorem bcell_keep {w w' : World} {b o : Nat} {v : Value} (h : w.cell? ⟨b, o, none⟩ = some v) (hb : Below w.heap.size w w') : w'.cell? ⟨b, o, none⟩ = some v := by
  have hlt : b < w.heap.size := by
    rcases Nat.lt_or_ge b w.heap.size with h2 | h2
    · exact h2
    · unfold World.cell? at h; simp only [Array.getElem?_eq_none h2] at h; cases h
  exact (hb.cell (p := ⟨b, o, none⟩) hlt).trans h
theorem bbelow_keep {B : Nat} {a w w' : World} (h : Below B a w) (hB : B ≤ a.heap.size) (hb : Below w.heap.size w w') : Below B a w' := h.trans (hb.mono (Nat.le_trans hB h.size))
/-- a slice of bytes, behind a name that no tactic takes apart -/
structure BytI (w : World) (A : Option Addr) (n : Nat) (zs : List Int) : Prop where
  out : Byt w A n zs
theorem BytI.keep {w w' : World} {A : Option Addr} {n : Nat} {zs : List Int} (h : BytI w A n zs) (hb : Below w.heap.size w w') : BytI w' A n zs := ⟨h.out.keep hb⟩
theorem below_of_drew {w w' : World} {n : Nat} (h : w' = w.drewN n) : Below w.heap.size w w' := by subst h; exact ⟨(Below.refl w.heap.size w).os, (Below.refl w.heap.size w).tape, (Below.refl w.heap.size w).output, (Below.refl w.heap.size w).size, (Below.refl w.heap.size w).block⟩
theorem below_draw (w : World) (n : Nat) : Below w.heap.size w (w.drewN n) := ⟨(Below.refl w.heap.size w).os, (Below.refl w.heap.size w).tape, (Below.refl w.heap.size w).output, (Below.refl w.heap.size w).size, (Below.refl w.heap.size w).block⟩
end Go.Proofs.Ythjdjbipfdigeaa
