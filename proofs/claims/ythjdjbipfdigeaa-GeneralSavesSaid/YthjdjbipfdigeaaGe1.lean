/- THE MACHINE of package general, as lists; its laws. No conditions. -/
import Derived.Test.YthjdjbipfdigeaaBo
import Derived.Test.YthjdjbipfdigeaaKp
import Derived.Test.YthjdjbipfdigeaaIs4
namespace Go.Proofs.Ythjdjbipfdigeaa
open Go.RowKit
set_option linter.unusedVariables false
set_option linter.unusedSimpArgs false
/-- the cells of a machine -/
def mcC (is os rs : List Int) (ps : List Value) (s : Value) (ov : Bool) : List Value := is.map (Value.int .i64) ++ (os.map (Value.int .u32) ++ (rs.map (Value.int .u32) ++ (ps ++ [s, .bool ov])))
def Mc (w : World) (g : Nat) (is os rs : List Int) (ps : List Value) (s : Value) (ov : Bool) : Prop := w.heap[g]? = some (.cells (mcC is os rs ps s ov).toArray 69 (0, 0)) ∧ is.length = 12 ∧ os.length = 16 ∧ rs.length = 16 ∧ ps.length = 10
section
variable {w w' : World} {g : Nat} {is os rs : List Int} {ps : List Value} {s : Value} {ov : Bool}
theorem Mc.cellAt (h : Mc w g is os rs ps s ov) (c : Nat) : w.cell? ⟨g, c, none⟩ = (mcC is os rs ps s ov)[c]? := by rw [cell_blk h.1 c]; simp
theorem Mc.lt (h : Mc w g is os rs ps s ov) : g < w.heap.size := (Array.getElem?_eq_some_iff.1 h.1).1
theorem Mc.ci (h : Mc w g is os rs ps s ov) {c : Nat} (hc : c < 12) : w.cell? ⟨g, c, none⟩ = some (.int .i64 (is.getD c 0)) := by
  obtain ⟨h0, h1, h2, h3, h4⟩ := h
  rw [Mc.cellAt ⟨h0, h1, h2, h3, h4⟩]; unfold mcC
  rw [List.getElem?_append_left (by simp; omega), List.getElem?_map, List.getD_eq_getElem?_getD, List.getElem?_eq_getElem (by omega)]; rfl
theorem Mc.co (h : Mc w g is os rs ps s ov) {n : Nat} (hn : n < 16) : w.cell? ⟨g, 12 + n, none⟩ = some (.int .u32 (os.getD n 0)) := by
  obtain ⟨h0, h1, h2, h3, h4⟩ := h
  rw [Mc.cellAt ⟨h0, h1, h2, h3, h4⟩]; unfold mcC
  rw [List.getElem?_append_right (by simp; omega), List.getElem?_append_left (by simp; omega), List.length_map, h1, show 12 + n - 12 = n by omega, List.getElem?_map, List.getD_eq_getElem?_getD, List.getElem?_eq_getElem (by omega)]; rfl
theorem Mc.cr (h : Mc w g is os rs ps s ov) {n : Nat} (hn : n < 16) : w.cell? ⟨g, 28 + n, none⟩ = some (.int .u32 (rs.getD n 0)) := by
  obtain ⟨h0, h1, h2, h3, h4⟩ := h
  rw [Mc.cellAt ⟨h0, h1, h2, h3, h4⟩]; unfold mcC
  rw [List.getElem?_append_right (by simp; omega), List.getElem?_append_right (by simp; omega), List.getElem?_append_left (by simp; omega), List.length_map, List.length_map, h1, h2, show 28 + n - 12 - 16 = n by omega, List.getElem?_map, List.getD_eq_getElem?_getD, List.getElem?_eq_getElem (by omega)]; rfl
theorem Mc.cp (h : Mc w g is os rs ps s ov) {n : Nat} (hn : n < 10) : w.cell? ⟨g, 44 + n, none⟩ = some (ps.getD n undef) := by
  obtain ⟨h0, h1, h2, h3, h4⟩ := h
  rw [Mc.cellAt ⟨h0, h1, h2, h3, h4⟩]; unfold mcC
  rw [List.getElem?_append_right (by simp; omega), List.getElem?_append_right (by simp; omega), List.getElem?_append_right (by simp; omega), List.getElem?_append_left (by simp; omega), List.length_map, List.length_map, List.length_map, h1, h2, h3, show 44 + n - 12 - 16 - 16 = n by omega, List.getD_eq_getElem?_getD, List.getElem?_eq_getElem (by omega)]; rfl
theorem Mc.cs (h : Mc w g is os rs ps s ov) : w.cell? ⟨g, 54, none⟩ = some s := by
  obtain ⟨h0, h1, h2, h3, h4⟩ := h
  rw [Mc.cellAt ⟨h0, h1, h2, h3, h4⟩]; unfold mcC
  rw [List.getElem?_append_right (by simp; omega), List.getElem?_append_right (by simp; omega), List.getElem?_append_right (by simp; omega), List.getElem?_append_right (by simp; omega), List.length_map, List.length_map, List.length_map, h1, h2, h3, h4]; rfl
theorem Mc.cv (h : Mc w g is os rs ps s ov) : w.cell? ⟨g, 55, none⟩ = some (.bool ov) := by
  obtain ⟨h0, h1, h2, h3, h4⟩ := h
  rw [Mc.cellAt ⟨h0, h1, h2, h3, h4⟩]; unfold mcC
  rw [List.getElem?_append_right (by simp; omega), List.getElem?_append_right (by simp; omega), List.getElem?_append_right (by simp; omega), List.getElem?_append_right (by simp; omega), List.length_map, List.length_map, List.length_map, h1, h2, h3, h4]; rfl
theorem Mc.free (h : Mc w g is os rs ps s ov) (c : Nat) : w.frozen? ⟨g, c, none⟩ = false := by simp [World.frozen?, h.1]
theorem Mc.kept (h : Mc w g is os rs ps s ov) (hk : w'.heap[g]? = w.heap[g]?) : Mc w' g is os rs ps s ov := ⟨hk.trans h.1, h.2⟩
theorem Mc.keep (h : Mc w g is os rs ps s ov) (hb : Below w.heap.size w w') : Mc w' g is os rs ps s ov := h.kept (hb.block _ h.lt)
theorem Mc.alloc (h : Mc w g is os rs ps s ov) (o : Obj) : Mc (w.alloc o) g is os rs ps s ov := h.kept (Below.heap_alloc w o _ h.lt)
theorem Mc.drewN (h : Mc w g is os rs ps s ov) (n : Nat) : Mc (w.drewN n) g is os rs ps s ov := h
theorem Mc.other (h : Mc w g is os rs ps s ov) {p : Addr} (v : Value) (hp : p.block ≠ g) : Mc (w.setCell p v) g is os rs ps s ov := h.kept (Below.heap_setCell w p v g (Ne.symm hp))
theorem Mc.setr (h : Mc w g is os rs ps s ov) {n : Nat} (hn : n < 16) (v : Int) : Mc (w.setCell ⟨g, 28 + n, none⟩ (.int .u32 v)) g is os (rs.set n v) ps s ov := by
  obtain ⟨h0, h1, h2, h3, h4⟩ := h
  refine ⟨?_, h1, h2, by simpa using h3, h4⟩
  rw [setCell_eq_setRow w g (28 + n) _ _ (0, 0) _ h0, setRow_heap w g _ _ _ _ h0, List.setIfInBounds_toArray]
  congr 3
  unfold mcC
  rw [List.set_append_right _ _ (by simp; omega), List.set_append_right _ _ (by simp; omega), List.set_append_left _ _ (by simp; omega), List.length_map, List.length_map, h1, h2, show 28 + n - 12 - 16 = n by omega, List.map_set]
theorem Mc.setp (h : Mc w g is os rs ps s ov) {n : Nat} (hn : n < 10) (v : Value) : Mc (w.setCell ⟨g, 44 + n, none⟩ v) g is os rs (ps.set n v) s ov := by
  obtain ⟨h0, h1, h2, h3, h4⟩ := h
  refine ⟨?_, h1, h2, h3, by simpa using h4⟩
  rw [setCell_eq_setRow w g (44 + n) _ _ (0, 0) _ h0, setRow_heap w g _ _ _ _ h0, List.setIfInBounds_toArray]
  congr 3
  unfold mcC
  rw [List.set_append_right _ _ (by simp; omega), List.set_append_right _ _ (by simp; omega), List.set_append_right _ _ (by simp; omega), List.set_append_left _ _ (by simp; omega), List.length_map, List.length_map, List.length_map, h1, h2, h3, show 44 + n - 12 - 16 - 16 = n by omega]
theorem Mc.setv (h : Mc w g is os rs ps s ov) (b : Bool) : Mc (w.setCell ⟨g, 55, none⟩ (.bool b)) g is os rs ps s b := by
  obtain ⟨h0, h1, h2, h3, h4⟩ := h
  refine ⟨?_, h1, h2, h3, h4⟩
  rw [setCell_eq_setRow w g 55 _ _ (0, 0) _ h0, setRow_heap w g _ _ _ _ h0, List.setIfInBounds_toArray]
  congr 3
  unfold mcC
  rw [List.set_append_right _ _ (by simp; omega), List.set_append_right _ _ (by simp; omega), List.set_append_right _ _ (by simp; omega), List.set_append_right _ _ (by simp; omega), List.length_map, List.length_map, List.length_map, h1, h2, h3, h4]
  rfl
end
/-- only the blocks of L may have changed -/
structure Ch (w w' : World) (L : List Nat) : Prop where
  os : w'.os = w.os
  tape : w'.tape = w.tape
  output : w'.output = w.output
  size : w.heap.size ≤ w'.heap.size
  block : ∀ k, k < w.heap.size → k ∉ L → w'.heap[k]? = w.heap[k]?
theorem Ch.refl (w : World) (L : List Nat) : Ch w w L := ⟨rfl, rfl, rfl, Nat.le_refl _, fun _ _ _ => rfl⟩
theorem Ch.trans {a b c : World} {L : List Nat} (h : Ch a b L) (k : Ch b c L) : Ch a c L := ⟨k.os.trans h.os, k.tape.trans h.tape, k.output.trans h.output, Nat.le_trans h.size k.size, fun i hi hL => (k.block i (Nat.lt_of_lt_of_le hi h.size) hL).trans (h.block i hi hL)⟩
theorem Ch.mono {a b : World} {L M : List Nat} (h : Ch a b L) (hs : ∀ k, k ∈ L → k ∈ M) : Ch a b M := ⟨h.os, h.tape, h.output, h.size, fun i hi hM => h.block i hi (fun hk => hM (hs i hk))⟩
theorem Ch.of_below {a b : World} (h : Below a.heap.size a b) (L : List Nat) : Ch a b L := ⟨h.os, h.tape, h.output, h.size, fun i hi _ => h.block i hi⟩
theorem Ch.setCell {a b : World} {L : List Nat} (h : Ch a b L) {p : Addr} (hp : p.block ∈ L) (v : Value) : Ch a (b.setCell p v) L :=
  h.trans ⟨rfl, rfl, rfl, by simp [World.setCell], fun k _ hk => Below.heap_setCell b p v k (fun e => hk (e ▸ hp))⟩
theorem Ch.setNew {a b : World} {L : List Nat} (h : Ch a b L) {p : Addr} (hp : a.heap.size ≤ p.block) (v : Value) : Ch a (b.setCell p v) L :=
  ⟨h.os, h.tape, h.output, by have := h.size; simpa [World.setCell] using this, fun k hk hL => (Below.heap_setCell b p v k (by omega)).trans (h.block k hk hL)⟩
theorem Ch.drewN {a b : World} {L : List Nat} (h : Ch a b L) (n : Nat) : Ch a (b.drewN n) L := ⟨h.os, h.tape, h.output, h.size, h.block⟩
theorem Ch.alloc {a b : World} {L : List Nat} (h : Ch a b L) (o : Obj) : Ch a (b.alloc o) L := ⟨h.os, h.tape, h.output, by have := h.size; simp; omega, fun k hk hL => (Below.heap_alloc b o k (Nat.lt_of_lt_of_le hk h.size)).trans (h.block k hk hL)⟩
theorem Ch.below {a b : World} {L : List Nat} {B : Nat} (h : Ch a b L) (hB : B ≤ a.heap.size) (hL : ∀ k, k ∈ L → B ≤ k) : Below B a b := ⟨h.os, h.tape, h.output, h.size, fun i hi => h.block i (by omega) (fun hk => by have := hL i hk; omega)⟩
theorem Ch.kept {a b : World} {L : List Nat} (h : Ch a b L) {k : Nat} (hk : k < a.heap.size) (hL : k ∉ L) : b.heap[k]? = a.heap[k]? := h.block k hk hL
end Go.Proofs.Ythjdjbipfdigeaa
