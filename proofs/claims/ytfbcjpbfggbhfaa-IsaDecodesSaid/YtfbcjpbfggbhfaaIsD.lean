/- CONTRACT of the reference's Decode, over Own's. Conditions: the slice reads as bytes. -/
import Derived.Test.YtfbcjpbfggbhfaaIsA
import Derived.Test.YtfbcjpbfggbhfaaIsR1
import Derived.Test.YtfbcjpbfggbhfaaKp
import Derived.Deep.Cut
import Derived.BigRegion
namespace Go.Proofs.Ytfbcjpbfggbhfaa
open Go.RowKit
set_option linter.unusedVariables false
set_option linter.unusedSimpArgs false
/-- where Decode stands: the result's box, the box of all fields, what was there -/
def DS (w W : World) (h : Nat) (xs : List Int) : Prop := Blk W w.heap.size 28 [0, 0, 0, 0, 0, 0, 0, 0, 0, 0, 0, 0] ∧ Blk W h 28 xs ∧ Below w.heap.size w W ∧ w.heap.size < h
theorem cell_ltD {w : World} {b o : Nat} {v : Value} (h : w.cell? ⟨b, o, none⟩ = some v) : b < w.heap.size := by
  rcases Nat.lt_or_ge b w.heap.size with h2 | h2
  · exact h2
  · simp [World.cell?, h2] at h
theorem DS.set_ {w W : World} {h : Nat} {xs : List Int} (s : DS w W h xs) (c : Nat) (v : Int) : DS w (W.setCell ⟨h, c, none⟩ (.int .i64 v)) h (xs.set c v) :=
  ⟨s.1.other (p := ⟨h, c, none⟩) _ (Nat.ne_of_gt s.2.2.2), s.2.1.set_ c v, s.2.2.1.setCell (p := ⟨h, c, none⟩) (Nat.le_of_lt s.2.2.2) _, s.2.2.2⟩
theorem DS.drew {w W : World} {h : Nat} {xs : List Int} (s : DS w W h xs) : DS w W.drew h xs := ⟨s.1.drewN 1, s.2.1.drewN 1, dBelow' s.2.2.1 1, s.2.2.2⟩
theorem DS.start {w W : World} {xs : List Int} (hz : Blk W w.heap.size 28 [0, 0, 0, 0, 0, 0, 0, 0, 0, 0, 0, 0]) (hb : Below w.heap.size w W) : DS w (W.alloc (.cells (xs.map (Value.int .i64)).toArray 28)) W.heap.size xs := by
  have hlt := (Array.getElem?_eq_some_iff.1 hz).1
  exact ⟨hz.alloc _, heap_alloc_new W _, hb.alloc (by omega) _, hlt⟩
end Go.Proofs.Ytfbcjpbfggbhfaa
