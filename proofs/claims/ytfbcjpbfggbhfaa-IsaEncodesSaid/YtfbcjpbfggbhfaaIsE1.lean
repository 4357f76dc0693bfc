/- CONTRACT of the reference's Encode, form by form. No conditions but the form's own. -/
import Derived.Test.YtfbcjpbfggbhfaaIsE
import Derived.Test.YtfbcjpbfggbhfaaBo
import Derived.Test.YtfbcjpbfggbhfaaIsR1
namespace Go.Proofs.Ytfbcjpbfggbhfaa
open Go.RowKit
set_option linter.unusedVariables false
set_option linter.unusedSimpArgs false
theorem wrap_u8_id {n : Int} (h0 : 0 ≤ n) (h1 : n ≤ 255) : IntKind.u8.wrap n = n := by
  simp only [IntKind.wrap, IntKind.bits, IntKind.signed]; simp; omega
/-- where Encode stands: the bytes so far, the box, what was there -/
def ES (w W : World) (B : Nat) (v : Value) (n : Nat) (zs xs : List Int) : Prop := Own W B v n zs ∧ Blk W w.heap.size 28 xs ∧ Below w.heap.size w W ∧ w.heap.size < B ∧ B ≤ W.heap.size
theorem ES.alloc {w W : World} {B : Nat} {v : Value} {n : Nat} {zs xs : List Int} (h : ES w W B v n zs xs) (o : Obj) : ES w (W.alloc o) B v n zs xs := ⟨h.1.alloc o, h.2.1.alloc o, h.2.2.1.alloc (by have := h.2.2.2.1; have := h.2.2.2.2; omega) o, h.2.2.2.1, by have := h.2.2.2.2; simp; omega⟩
theorem ES.grow {w W W' : World} {B : Nat} {v v' : Value} {n m : Nat} {zs ys xs : List Int} (h : ES w W B v n zs xs) (ho : Own W' B v' m ys) (hg : W.grownBy W' v.ownBlock) : ES w W' B v' m ys xs :=
  ⟨ho, (hg.block w.heap.size (by have := h.2.2.2.1; have := h.2.2.2.2; omega) (fun hj => by have := (h.1.block _ hj.symm).1; have := h.2.2.2.1; omega)).trans h.2.1, h.2.2.1.grown hg (by have := h.2.2.2.1; have := h.2.2.2.2; omega) (fun j hj => by have := (h.1.block _ hj).1; have := h.2.2.2.1; omega), h.2.2.2.1, Nat.le_trans h.2.2.2.2 hg.size⟩
theorem ES.start {w W : World} {z : Int} {xs : List Int} (hb : Blk W w.heap.size 28 xs) (hB : Below w.heap.size w W) (hz : 0 ≤ z ∧ z ≤ 255) : ES w (W.alloc (.cells #[.int .u8 z] 5)) W.heap.size (.slice (some ⟨W.heap.size, 0, none⟩) 1 1) 1 [z] xs := by
  have hlt := (Array.getElem?_eq_some_iff.1 hb).1
  refine ⟨Own.of_heap (cur := [.int .u8 z]) (heap_alloc_new W _) rfl rfl rfl (Nat.le_refl _) (Nat.le_refl _) (by decide) (by intro z' hz'; simp at hz'; subst hz'; exact hz), hb.alloc _, hB.alloc (by omega) _, hlt, by simp⟩
end Go.Proofs.Ytfbcjpbfggbhfaa
