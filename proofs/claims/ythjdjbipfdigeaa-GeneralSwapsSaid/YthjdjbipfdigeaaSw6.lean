/- Contracts and laws on the way to the statement, text 6 of 12. Conditions: as each states them. -/
import Derived.Test.YthjdjbipfdigeaaSw1
import Derived.Test.YthjdjbipfdigeaaSw5
import Derived.BigRegion
namespace Go.Proofs.Ythjdjbipfdigeaa
open Go.RowKit
set_option maxRecDepth 100000
set_option linter.unusedVariables false
set_option linter.unusedSimpArgs false
/-- a block of cells -/
def Bk (W : World) (g : Nat) (T : TypeId) (cs : List Value) : Prop := W.heap[g]? = some (.cells cs.toArray T (0, 0))
section
variable {W W' : World} {g : Nat} {T : TypeId} {cs : List Value}
theorem Bk.cell (h : Bk W g T cs) {c : Nat} {v : Value} (hc : cs[c]? = some v) : W.cell? ⟨g, c, none⟩ = some v := by rw [cell_blk h c]; simpa using hc
theorem Bk.free (h : Bk W g T cs) (c : Nat) : W.frozen? ⟨g, c, none⟩ = false := by unfold Bk at h; simp [World.frozen?, h]
theorem Bk.lt (h : Bk W g T cs) : g < W.heap.size := (Array.getElem?_eq_some_iff.1 h).1
theorem Bk.kept (h : Bk W g T cs) (hk : W'.heap[g]? = W.heap[g]?) : Bk W' g T cs := hk.trans h
theorem Bk.keep (h : Bk W g T cs) (hb : Below W.heap.size W W') : Bk W' g T cs := h.kept (hb.block _ h.lt)
theorem Bk.ch {L : List Nat} (h : Bk W g T cs) (hb : Ch W W' L) (hg : g ∉ L) : Bk W' g T cs := h.kept (hb.block _ h.lt hg)
theorem Bk.alloc (h : Bk W g T cs) (o : Obj) : Bk (W.alloc o) g T cs := h.kept (Below.heap_alloc W o _ h.lt)
theorem Bk.new (W : World) (cs : List Value) (T : TypeId) : Bk (W.alloc (.cells cs.toArray T)) W.heap.size T cs := heap_alloc_new W _
theorem Bk.drewN (h : Bk W g T cs) (n : Nat) : Bk (W.drewN n) g T cs := h
theorem Bk.set_ (h : Bk W g T cs) (c : Nat) (v : Value) : Bk (W.setCell ⟨g, c, none⟩ v) g T (cs.set c v) := by
  unfold Bk at h ⊢
  rw [setCell_eq_setRow W g c _ _ (0, 0) _ h, setRow_heap W g _ _ _ _ h, List.setIfInBounds_toArray]
theorem Bk.other (h : Bk W g T cs) {p : Addr} (v : Value) (hp : p.block ≠ g) : Bk (W.setCell p v) g T cs := h.kept (Below.heap_setCell W p v g (Ne.symm hp))
theorem list_n {α : Type} : ∀ (n : Nat) (l : List α), l.length = n + 1 → ∃ a t, l = a :: t ∧ t.length = n
  | n, a :: t, h => ⟨a, t, rfl, by simpa using h⟩
theorem Bk.sets16 (h : Bk W g T cs) (hl : cs.length = 16) (v0 v1 v2 v3 v4 v5 v6 v7 v8 v9 v10 v11 v12 v13 v14 v15 : Value) : Bk ((((((((((((((((W.setCell ⟨g, 0, none⟩ v0).setCell ⟨g, 1, none⟩ v1).setCell ⟨g, 2, none⟩ v2).setCell ⟨g, 3, none⟩ v3).setCell ⟨g, 4, none⟩ v4).setCell ⟨g, 5, none⟩ v5).setCell ⟨g, 6, none⟩ v6).setCell ⟨g, 7, none⟩ v7).setCell ⟨g, 8, none⟩ v8).setCell ⟨g, 9, none⟩ v9).setCell ⟨g, 10, none⟩ v10).setCell ⟨g, 11, none⟩ v11).setCell ⟨g, 12, none⟩ v12).setCell ⟨g, 13, none⟩ v13).setCell ⟨g, 14, none⟩ v14).setCell ⟨g, 15, none⟩ v15) g T [v0, v1, v2, v3, v4, v5, v6, v7, v8, v9, v10, v11, v12, v13, v14, v15] := by
  obtain ⟨x0, l0, rfl, hl0⟩ := list_n _ cs hl
  obtain ⟨x1, l1, rfl, hl1⟩ := list_n _ l0 hl0
  obtain ⟨x2, l2, rfl, hl2⟩ := list_n _ l1 hl1
  obtain ⟨x3, l3, rfl, hl3⟩ := list_n _ l2 hl2
  obtain ⟨x4, l4, rfl, hl4⟩ := list_n _ l3 hl3
  obtain ⟨x5, l5, rfl, hl5⟩ := list_n _ l4 hl4
  obtain ⟨x6, l6, rfl, hl6⟩ := list_n _ l5 hl5
  obtain ⟨x7, l7, rfl, hl7⟩ := list_n _ l6 hl6
  obtain ⟨x8, l8, rfl, hl8⟩ := list_n _ l7 hl7
  obtain ⟨x9, l9, rfl, hl9⟩ := list_n _ l8 hl8
  obtain ⟨x10, l10, rfl, hl10⟩ := list_n _ l9 hl9
  obtain ⟨x11, l11, rfl, hl11⟩ := list_n _ l10 hl10
  obtain ⟨x12, l12, rfl, hl12⟩ := list_n _ l11 hl11
  obtain ⟨x13, l13, rfl, hl13⟩ := list_n _ l12 hl12
  obtain ⟨x14, l14, rfl, hl14⟩ := list_n _ l13 hl13
  obtain ⟨x15, l15, rfl, hl15⟩ := list_n _ l14 hl14
  obtain rfl := List.eq_nil_of_length_eq_zero hl15
  exact ((((((((((((((((h.set_ 0 v0).set_ 1 v1).set_ 2 v2).set_ 3 v3).set_ 4 v4).set_ 5 v5).set_ 6 v6).set_ 7 v7).set_ 8 v8).set_ 9 v9).set_ 10 v10).set_ 11 v11).set_ 12 v12).set_ 13 v13).set_ 14 v14).set_ 15 v15)
theorem Bk.oth16 (h : Bk W g T cs) {k : Nat} (hk : k ≠ g) (v0 v1 v2 v3 v4 v5 v6 v7 v8 v9 v10 v11 v12 v13 v14 v15 : Value) : Bk ((((((((((((((((W.setCell ⟨k, 0, none⟩ v0).setCell ⟨k, 1, none⟩ v1).setCell ⟨k, 2, none⟩ v2).setCell ⟨k, 3, none⟩ v3).setCell ⟨k, 4, none⟩ v4).setCell ⟨k, 5, none⟩ v5).setCell ⟨k, 6, none⟩ v6).setCell ⟨k, 7, none⟩ v7).setCell ⟨k, 8, none⟩ v8).setCell ⟨k, 9, none⟩ v9).setCell ⟨k, 10, none⟩ v10).setCell ⟨k, 11, none⟩ v11).setCell ⟨k, 12, none⟩ v12).setCell ⟨k, 13, none⟩ v13).setCell ⟨k, 14, none⟩ v14).setCell ⟨k, 15, none⟩ v15) g T cs := (Bk.other (p := ⟨k, 15, none⟩) (Bk.other (p := ⟨k, 14, none⟩) (Bk.other (p := ⟨k, 13, none⟩) (Bk.other (p := ⟨k, 12, none⟩) (Bk.other (p := ⟨k, 11, none⟩) (Bk.other (p := ⟨k, 10, none⟩) (Bk.other (p := ⟨k, 9, none⟩) (Bk.other (p := ⟨k, 8, none⟩) (Bk.other (p := ⟨k, 7, none⟩) (Bk.other (p := ⟨k, 6, none⟩) (Bk.other (p := ⟨k, 5, none⟩) (Bk.other (p := ⟨k, 4, none⟩) (Bk.other (p := ⟨k, 3, none⟩) (Bk.other (p := ⟨k, 2, none⟩) (Bk.other (p := ⟨k, 1, none⟩) (Bk.other (p := ⟨k, 0, none⟩) h v0 hk) v1 hk) v2 hk) v3 hk) v4 hk) v5 hk) v6 hk) v7 hk) v8 hk) v9 hk) v10 hk) v11 hk) v12 hk) v13 hk) v14 hk) v15 hk)
theorem ch_s16 {w : World} {L : List Nat} {k : Nat} (h : Ch w W L) (hk : w.heap.size ≤ k) (v0 v1 v2 v3 v4 v5 v6 v7 v8 v9 v10 v11 v12 v13 v14 v15 : Value) : Ch w ((((((((((((((((W.setCell ⟨k, 0, none⟩ v0).setCell ⟨k, 1, none⟩ v1).setCell ⟨k, 2, none⟩ v2).setCell ⟨k, 3, none⟩ v3).setCell ⟨k, 4, none⟩ v4).setCell ⟨k, 5, none⟩ v5).setCell ⟨k, 6, none⟩ v6).setCell ⟨k, 7, none⟩ v7).setCell ⟨k, 8, none⟩ v8).setCell ⟨k, 9, none⟩ v9).setCell ⟨k, 10, none⟩ v10).setCell ⟨k, 11, none⟩ v11).setCell ⟨k, 12, none⟩ v12).setCell ⟨k, 13, none⟩ v13).setCell ⟨k, 14, none⟩ v14).setCell ⟨k, 15, none⟩ v15) L := (Ch.setNew (p := ⟨k, 15, none⟩) (Ch.setNew (p := ⟨k, 14, none⟩) (Ch.setNew (p := ⟨k, 13, none⟩) (Ch.setNew (p := ⟨k, 12, none⟩) (Ch.setNew (p := ⟨k, 11, none⟩) (Ch.setNew (p := ⟨k, 10, none⟩) (Ch.setNew (p := ⟨k, 9, none⟩) (Ch.setNew (p := ⟨k, 8, none⟩) (Ch.setNew (p := ⟨k, 7, none⟩) (Ch.setNew (p := ⟨k, 6, none⟩) (Ch.setNew (p := ⟨k, 5, none⟩) (Ch.setNew (p := ⟨k, 4, none⟩) (Ch.setNew (p := ⟨k, 3, none⟩) (Ch.setNew (p := ⟨k, 2, none⟩) (Ch.setNew (p := ⟨k, 1, none⟩) (Ch.setNew (p := ⟨k, 0, none⟩) h hk v0) hk v1) hk v2) hk v3) hk v4) hk v5) hk v6) hk v7) hk v8) hk v9) hk v10) hk v11) hk v12) hk v13) hk v14) hk v15)
theorem Bk.sets10 (h : Bk W g T cs) (hl : cs.length = 10) (v0 v1 v2 v3 v4 v5 v6 v7 v8 v9 : Value) : Bk ((((((((((W.setCell ⟨g, 0, none⟩ v0).setCell ⟨g, 1, none⟩ v1).setCell ⟨g, 2, none⟩ v2).setCell ⟨g, 3, none⟩ v3).setCell ⟨g, 4, none⟩ v4).setCell ⟨g, 5, none⟩ v5).setCell ⟨g, 6, none⟩ v6).setCell ⟨g, 7, none⟩ v7).setCell ⟨g, 8, none⟩ v8).setCell ⟨g, 9, none⟩ v9) g T [v0, v1, v2, v3, v4, v5, v6, v7, v8, v9] := by
  obtain ⟨x0, l0, rfl, hl0⟩ := list_n _ cs hl
  obtain ⟨x1, l1, rfl, hl1⟩ := list_n _ l0 hl0
  obtain ⟨x2, l2, rfl, hl2⟩ := list_n _ l1 hl1
  obtain ⟨x3, l3, rfl, hl3⟩ := list_n _ l2 hl2
  obtain ⟨x4, l4, rfl, hl4⟩ := list_n _ l3 hl3
  obtain ⟨x5, l5, rfl, hl5⟩ := list_n _ l4 hl4
  obtain ⟨x6, l6, rfl, hl6⟩ := list_n _ l5 hl5
  obtain ⟨x7, l7, rfl, hl7⟩ := list_n _ l6 hl6
  obtain ⟨x8, l8, rfl, hl8⟩ := list_n _ l7 hl7
  obtain ⟨x9, l9, rfl, hl9⟩ := list_n _ l8 hl8
  obtain rfl := List.eq_nil_of_length_eq_zero hl9
  exact ((((((((((h.set_ 0 v0).set_ 1 v1).set_ 2 v2).set_ 3 v3).set_ 4 v4).set_ 5 v5).set_ 6 v6).set_ 7 v7).set_ 8 v8).set_ 9 v9)
theorem Bk.oth10 (h : Bk W g T cs) {k : Nat} (hk : k ≠ g) (v0 v1 v2 v3 v4 v5 v6 v7 v8 v9 : Value) : Bk ((((((((((W.setCell ⟨k, 0, none⟩ v0).setCell ⟨k, 1, none⟩ v1).setCell ⟨k, 2, none⟩ v2).setCell ⟨k, 3, none⟩ v3).setCell ⟨k, 4, none⟩ v4).setCell ⟨k, 5, none⟩ v5).setCell ⟨k, 6, none⟩ v6).setCell ⟨k, 7, none⟩ v7).setCell ⟨k, 8, none⟩ v8).setCell ⟨k, 9, none⟩ v9) g T cs := (Bk.other (p := ⟨k, 9, none⟩) (Bk.other (p := ⟨k, 8, none⟩) (Bk.other (p := ⟨k, 7, none⟩) (Bk.other (p := ⟨k, 6, none⟩) (Bk.other (p := ⟨k, 5, none⟩) (Bk.other (p := ⟨k, 4, none⟩) (Bk.other (p := ⟨k, 3, none⟩) (Bk.other (p := ⟨k, 2, none⟩) (Bk.other (p := ⟨k, 1, none⟩) (Bk.other (p := ⟨k, 0, none⟩) h v0 hk) v1 hk) v2 hk) v3 hk) v4 hk) v5 hk) v6 hk) v7 hk) v8 hk) v9 hk)
theorem ch_s10 {w : World} {L : List Nat} {k : Nat} (h : Ch w W L) (hk : w.heap.size ≤ k) (v0 v1 v2 v3 v4 v5 v6 v7 v8 v9 : Value) : Ch w ((((((((((W.setCell ⟨k, 0, none⟩ v0).setCell ⟨k, 1, none⟩ v1).setCell ⟨k, 2, none⟩ v2).setCell ⟨k, 3, none⟩ v3).setCell ⟨k, 4, none⟩ v4).setCell ⟨k, 5, none⟩ v5).setCell ⟨k, 6, none⟩ v6).setCell ⟨k, 7, none⟩ v7).setCell ⟨k, 8, none⟩ v8).setCell ⟨k, 9, none⟩ v9) L := (Ch.setNew (p := ⟨k, 9, none⟩) (Ch.setNew (p := ⟨k, 8, none⟩) (Ch.setNew (p := ⟨k, 7, none⟩) (Ch.setNew (p := ⟨k, 6, none⟩) (Ch.setNew (p := ⟨k, 5, none⟩) (Ch.setNew (p := ⟨k, 4, none⟩) (Ch.setNew (p := ⟨k, 3, none⟩) (Ch.setNew (p := ⟨k, 2, none⟩) (Ch.setNew (p := ⟨k, 1, none⟩) (Ch.setNew (p := ⟨k, 0, none⟩) h hk v0) hk v1) hk v2) hk v3) hk v4) hk v5) hk v6) hk v7) hk v8) hk v9)
end
/-- Exec's own blocks: the instruction, registers and status word as given, and the results' cells -/
structure XF (w W : World) (L : List Nat) (is rs : List Int) (ps nr np : List Value) (en : Value) : Prop where
  b0 : Bk W w.heap.size 25 (is.map (Value.int .i64))
  b1 : Bk W (w.heap.size + 1) 28 (rs.map (Value.int .u32))
  b2 : Bk W (w.heap.size + 1 + 1) 30 ps
  b3 : Bk W (w.heap.size + 1 + 1 + 1) 28 nr
  b4 : Bk W (w.heap.size + 1 + 1 + 1 + 1) 30 np
  b5 : Bk W (w.heap.size + 1 + 1 + 1 + 1 + 1) 3 [en]
  be : Ch w W L
theorem XF.start (w : World) (L : List Nat) (is rs : List Int) (ps nr np : List Value) (en : Value) : XF w ((((((w.alloc (.cells (is.map (Value.int .i64)).toArray 25)).alloc (.cells (rs.map (Value.int .u32)).toArray 28)).alloc (.cells ps.toArray 30)).alloc (.cells nr.toArray 28)).alloc (.cells np.toArray 30)).alloc (.cells [en].toArray 3)) L is rs ps nr np en := by
  refine ⟨?_, ?_, ?_, ?_, ?_, ?_, ?_⟩
  · exact (((((Bk.new w _ _).alloc _).alloc _).alloc _).alloc _).alloc _
  · have := Bk.new (w.alloc (.cells (is.map (Value.int .i64)).toArray 25)) (rs.map (Value.int .u32)) 28
    rw [World.size_alloc] at this
    exact (((this.alloc _).alloc _).alloc _).alloc _
  · have := Bk.new ((w.alloc (.cells (is.map (Value.int .i64)).toArray 25)).alloc (.cells (rs.map (Value.int .u32)).toArray 28)) ps 30
    rw [World.size_alloc, World.size_alloc] at this
    exact ((this.alloc _).alloc _).alloc _
  · have := Bk.new (((w.alloc (.cells (is.map (Value.int .i64)).toArray 25)).alloc (.cells (rs.map (Value.int .u32)).toArray 28)).alloc (.cells ps.toArray 30)) nr 28
    rw [World.size_alloc, World.size_alloc, World.size_alloc] at this
    exact (this.alloc _).alloc _
  · have := Bk.new ((((w.alloc (.cells (is.map (Value.int .i64)).toArray 25)).alloc (.cells (rs.map (Value.int .u32)).toArray 28)).alloc (.cells ps.toArray 30)).alloc (.cells nr.toArray 28)) np 30
    rw [World.size_alloc, World.size_alloc, World.size_alloc, World.size_alloc] at this
    exact this.alloc _
  · have := Bk.new (((((w.alloc (.cells (is.map (Value.int .i64)).toArray 25)).alloc (.cells (rs.map (Value.int .u32)).toArray 28)).alloc (.cells ps.toArray 30)).alloc (.cells nr.toArray 28)).alloc (.cells np.toArray 30)) [en] 3
    rw [World.size_alloc, World.size_alloc, World.size_alloc, World.size_alloc, World.size_alloc] at this
    exact this
  · exact ((((((Ch.refl w L).alloc _).alloc _).alloc _).alloc _).alloc _).alloc _
section
variable {w W W' : World} {L : List Nat} {is rs : List Int} {ps nr np : List Value} {en : Value}
theorem XF.keep (h : XF w W L is rs ps nr np en) (hb : Below W.heap.size W W') : XF w W' L is rs ps nr np en := ⟨h.b0.keep hb, h.b1.keep hb, h.b2.keep hb, h.b3.keep hb, h.b4.keep hb, h.b5.keep hb, h.be.trans (Ch.of_below hb L)⟩
theorem XF.drewN (h : XF w W L is rs ps nr np en) (n : Nat) : XF w (W.drewN n) L is rs ps nr np en := ⟨h.b0, h.b1, h.b2, h.b3, h.b4, h.b5, h.be.drewN n⟩
theorem XF.ch {g : Nat} (h : XF w W [] is rs ps nr np en) (hc : Ch W W' (g :: L)) (hL : ∀ k, k ∈ L → k < w.heap.size) (hg : w.heap.size + 6 ≤ g) : XF w W' L is rs ps nr np en := by
  have hn : ∀ k, w.heap.size ≤ k → k < w.heap.size + 6 → k ∉ g :: L := fun k h1 h2 hk => by
    rcases List.mem_cons.mp hk with hk | hk
    · omega
    · have := hL k hk; omega
  exact ⟨h.b0.ch hc (hn _ (by omega) (by omega)), h.b1.ch hc (hn _ (by omega) (by omega)), h.b2.ch hc (hn _ (by omega) (by omega)), h.b3.ch hc (hn _ (by omega) (by omega)), h.b4.ch hc (hn _ (by omega) (by omega)), h.b5.ch hc (hn _ (by omega) (by omega)), ⟨hc.os.trans h.be.os, hc.tape.trans h.be.tape, hc.output.trans h.be.output, Nat.le_trans h.be.size hc.size, fun k hk hkL => (hc.block k (Nat.lt_of_lt_of_le hk h.be.size) (fun hm => by rcases List.mem_cons.mp hm with hm | hm; (· omega); (· exact hkL hm))).trans (h.be.block k hk (by simp))⟩⟩
theorem XF.give (h : XF w W L is rs ps nr np en) (hr : nr.length = 16) (hp : np.length = 10) (e0 e1 e2 e3 e4 e5 e6 e7 e8 e9 e10 e11 e12 e13 e14 e15 q0 q1 q2 q3 q4 q5 q6 q7 q8 q9 e : Value) : XF w ((((((((((((((((((((((((((((W.setCell ⟨w.heap.size + 1 + 1 + 1, 0, none⟩ e0).setCell ⟨w.heap.size + 1 + 1 + 1, 1, none⟩ e1).setCell ⟨w.heap.size + 1 + 1 + 1, 2, none⟩ e2).setCell ⟨w.heap.size + 1 + 1 + 1, 3, none⟩ e3).setCell ⟨w.heap.size + 1 + 1 + 1, 4, none⟩ e4).setCell ⟨w.heap.size + 1 + 1 + 1, 5, none⟩ e5).setCell ⟨w.heap.size + 1 + 1 + 1, 6, none⟩ e6).setCell ⟨w.heap.size + 1 + 1 + 1, 7, none⟩ e7).setCell ⟨w.heap.size + 1 + 1 + 1, 8, none⟩ e8).setCell ⟨w.heap.size + 1 + 1 + 1, 9, none⟩ e9).setCell ⟨w.heap.size + 1 + 1 + 1, 10, none⟩ e10).setCell ⟨w.heap.size + 1 + 1 + 1, 11, none⟩ e11).setCell ⟨w.heap.size + 1 + 1 + 1, 12, none⟩ e12).setCell ⟨w.heap.size + 1 + 1 + 1, 13, none⟩ e13).setCell ⟨w.heap.size + 1 + 1 + 1, 14, none⟩ e14).setCell ⟨w.heap.size + 1 + 1 + 1, 15, none⟩ e15).setCell ⟨w.heap.size + 1 + 1 + 1 + 1, 0, none⟩ q0).setCell ⟨w.heap.size + 1 + 1 + 1 + 1, 1, none⟩ q1).setCell ⟨w.heap.size + 1 + 1 + 1 + 1, 2, none⟩ q2).setCell ⟨w.heap.size + 1 + 1 + 1 + 1, 3, none⟩ q3).setCell ⟨w.heap.size + 1 + 1 + 1 + 1, 4, none⟩ q4).setCell ⟨w.heap.size + 1 + 1 + 1 + 1, 5, none⟩ q5).setCell ⟨w.heap.size + 1 + 1 + 1 + 1, 6, none⟩ q6).setCell ⟨w.heap.size + 1 + 1 + 1 + 1, 7, none⟩ q7).setCell ⟨w.heap.size + 1 + 1 + 1 + 1, 8, none⟩ q8).setCell ⟨w.heap.size + 1 + 1 + 1 + 1, 9, none⟩ q9).setCell ⟨w.heap.size + 1 + 1 + 1 + 1 + 1, 0, none⟩ e)) L is rs ps [e0, e1, e2, e3, e4, e5, e6, e7, e8, e9, e10, e11, e12, e13, e14, e15] [q0, q1, q2, q3, q4, q5, q6, q7, q8, q9] e := by
  refine ⟨?_, ?_, ?_, ?_, ?_, ?_, ?_⟩
  · exact Bk.other (p := ⟨_, 0, none⟩) (Bk.oth10 (Bk.oth16 h.b0 (by omega) e0 e1 e2 e3 e4 e5 e6 e7 e8 e9 e10 e11 e12 e13 e14 e15) (by omega) q0 q1 q2 q3 q4 q5 q6 q7 q8 q9) e (by first | (simp; done) | (simp; omega))
  · exact Bk.other (p := ⟨_, 0, none⟩) (Bk.oth10 (Bk.oth16 h.b1 (by omega) e0 e1 e2 e3 e4 e5 e6 e7 e8 e9 e10 e11 e12 e13 e14 e15) (by omega) q0 q1 q2 q3 q4 q5 q6 q7 q8 q9) e (by first | (simp; done) | (simp; omega))
  · exact Bk.other (p := ⟨_, 0, none⟩) (Bk.oth10 (Bk.oth16 h.b2 (by omega) e0 e1 e2 e3 e4 e5 e6 e7 e8 e9 e10 e11 e12 e13 e14 e15) (by omega) q0 q1 q2 q3 q4 q5 q6 q7 q8 q9) e (by first | (simp; done) | (simp; omega))
  · exact Bk.other (p := ⟨_, 0, none⟩) (Bk.oth10 (Bk.sets16 h.b3 hr e0 e1 e2 e3 e4 e5 e6 e7 e8 e9 e10 e11 e12 e13 e14 e15) (by omega) q0 q1 q2 q3 q4 q5 q6 q7 q8 q9) e (by first | (simp; done) | (simp; omega))
  · exact Bk.other (p := ⟨_, 0, none⟩) (Bk.sets10 (Bk.oth16 h.b4 (by omega) e0 e1 e2 e3 e4 e5 e6 e7 e8 e9 e10 e11 e12 e13 e14 e15) hp q0 q1 q2 q3 q4 q5 q6 q7 q8 q9) e (by first | (simp; done) | (simp; omega))
  · exact Bk.set_ (Bk.oth10 (Bk.oth16 h.b5 (by omega) e0 e1 e2 e3 e4 e5 e6 e7 e8 e9 e10 e11 e12 e13 e14 e15) (by omega) q0 q1 q2 q3 q4 q5 q6 q7 q8 q9) 0 e
  · exact (ch_s10 (ch_s16 h.be (by omega) e0 e1 e2 e3 e4 e5 e6 e7 e8 e9 e10 e11 e12 e13 e14 e15) (by omega) q0 q1 q2 q3 q4 q5 q6 q7 q8 q9).setNew (p := ⟨_, 0, none⟩) (by first | (simp; done) | (simp; omega)) e
end
theorem below_s16 {w W0 W : World} {k : Nat} (h : Below w.heap.size W0 W) (hk : w.heap.size ≤ k) (v0 v1 v2 v3 v4 v5 v6 v7 v8 v9 v10 v11 v12 v13 v14 v15 : Value) : Below w.heap.size W0 ((((((((((((((((W.setCell ⟨k, 0, none⟩ v0).setCell ⟨k, 1, none⟩ v1).setCell ⟨k, 2, none⟩ v2).setCell ⟨k, 3, none⟩ v3).setCell ⟨k, 4, none⟩ v4).setCell ⟨k, 5, none⟩ v5).setCell ⟨k, 6, none⟩ v6).setCell ⟨k, 7, none⟩ v7).setCell ⟨k, 8, none⟩ v8).setCell ⟨k, 9, none⟩ v9).setCell ⟨k, 10, none⟩ v10).setCell ⟨k, 11, none⟩ v11).setCell ⟨k, 12, none⟩ v12).setCell ⟨k, 13, none⟩ v13).setCell ⟨k, 14, none⟩ v14).setCell ⟨k, 15, none⟩ v15) := (Below.setCell (p := ⟨k, 15, none⟩) (Below.setCell (p := ⟨k, 14, none⟩) (Below.setCell (p := ⟨k, 13, none⟩) (Below.setCell (p := ⟨k, 12, none⟩) (Below.setCell (p := ⟨k, 11, none⟩) (Below.setCell (p := ⟨k, 10, none⟩) (Below.setCell (p := ⟨k, 9, none⟩) (Below.setCell (p := ⟨k, 8, none⟩) (Below.setCell (p := ⟨k, 7, none⟩) (Below.setCell (p := ⟨k, 6, none⟩) (Below.setCell (p := ⟨k, 5, none⟩) (Below.setCell (p := ⟨k, 4, none⟩) (Below.setCell (p := ⟨k, 3, none⟩) (Below.setCell (p := ⟨k, 2, none⟩) (Below.setCell (p := ⟨k, 1, none⟩) (Below.setCell (p := ⟨k, 0, none⟩) h hk v0) hk v1) hk v2) hk v3) hk v4) hk v5) hk v6) hk v7) hk v8) hk v9) hk v10) hk v11) hk v12) hk v13) hk v14) hk v15)
theorem below_s10 {w W0 W : World} {k : Nat} (h : Below w.heap.size W0 W) (hk : w.heap.size ≤ k) (v0 v1 v2 v3 v4 v5 v6 v7 v8 v9 : Value) : Below w.heap.size W0 ((((((((((W.setCell ⟨k, 0, none⟩ v0).setCell ⟨k, 1, none⟩ v1).setCell ⟨k, 2, none⟩ v2).setCell ⟨k, 3, none⟩ v3).setCell ⟨k, 4, none⟩ v4).setCell ⟨k, 5, none⟩ v5).setCell ⟨k, 6, none⟩ v6).setCell ⟨k, 7, none⟩ v7).setCell ⟨k, 8, none⟩ v8).setCell ⟨k, 9, none⟩ v9) := (Below.setCell (p := ⟨k, 9, none⟩) (Below.setCell (p := ⟨k, 8, none⟩) (Below.setCell (p := ⟨k, 7, none⟩) (Below.setCell (p := ⟨k, 6, none⟩) (Below.setCell (p := ⟨k, 5, none⟩) (Below.setCell (p := ⟨k, 4, none⟩) (Below.setCell (p := ⟨k, 3, none⟩) (Below.setCell (p := ⟨k, 2, none⟩) (Below.setCell (p := ⟨k, 1, none⟩) (Below.setCell (p := ⟨k, 0, none⟩) h hk v0) hk v1) hk v2) hk v3) hk v4) hk v5) hk v6) hk v7) hk v8) hk v9)
theorem res_cells3 {P : Program} {fn : Func} {p q r : Tmp} {tp tq tr : TypeId} (h : fn.results = #[.cell p tp, .cell q tq, .cell r tr]) (tmps : Array Value) (w : World) (g g' g'' : Nat) (cs cs' : List Value) (v : Value) {T T' T'' : TypeId} {d d' : TypeDesc}
    (hp : tmps.getD p undef = .pointer (some ⟨g, 0, none⟩)) (hq : tmps.getD q undef = .pointer (some ⟨g', 0, none⟩)) (hr : tmps.getD r undef = .pointer (some ⟨g'', 0, none⟩)) (hg : Bk w g T cs) (hg' : Bk w g' T' cs') (hg'' : Bk w g'' T'' [v])
    (hu : P.underlying tp = some d) (hd : (match d with | .struct _ | .array _ _ => true | _ => false) = true) (hi : (P.info? tp).map (·.size) = some cs.length)
    (hu' : P.underlying tq = some d') (hd' : (match d' with | .struct _ | .array _ _ => true | _ => false) = true) (hi' : (P.info? tq).map (·.size) = some cs'.length)
    (hv : (loadVar tr ⟨g'', 0, none⟩).run P w = .ok v w) :
    (results fn tmps).run P w = .ok (.tuple #[.agg cs.toArray, .agg cs'.toArray, v]) w := by
  have hp' : tmps[p]?.getD undef = .pointer (some ⟨g, 0, none⟩) := by simpa using hp
  have hq' : tmps[q]?.getD undef = .pointer (some ⟨g', 0, none⟩) := by simpa using hq
  have hr' : tmps[r]?.getD undef = .pointer (some ⟨g'', 0, none⟩) := by simpa using hr
  simp [results, h, hp', hq', hr', asAddr, run_loadVar_row w g T tp cs.toArray (0, 0) d hg hu hd (by simpa using hi), run_loadVar_row w g' T' tq cs'.toArray (0, 0) d' hg' hu' hd' (by simpa using hi'), hv]
end Go.Proofs.Ythjdjbipfdigeaa

namespace Go.Proofs.Ythjdjbipfdigeaa
open Go.RowKit
set_option maxRecDepth 100000
set_option linter.unusedVariables false
set_option linter.unusedSimpArgs false
theorem St.chd {T : TypeId} {w w' : World} {F : Foot} {bs ks : List Int} {L : List Nat} (h : St T w F bs ks) (hc : Ch w w' L) (h1 : F.g ∉ L) (h2 : F.gb ∉ L) (h3 : F.gk ∉ L) : St T w' F bs ks := h.keep (hc.kept h.ltg h1) (hc.kept h.ltb h2) (hc.kept h.ltk h3)
theorem share2 {T P : World → Nat → Nat → Prop} {G : Prop} (tree : (∀ A p q, P A p q → T A p q) → G) (tail : ∀ A p q, P A p q → T A p q) : G := tree tail
theorem ch_n16 (W : World) (g : Nat) (v0 v1 v2 v3 v4 v5 v6 v7 v8 v9 v10 v11 v12 v13 v14 v15 : Value) : Ch W ((((((((((((((((W.setCell ⟨g, 0, none⟩ v0).setCell ⟨g, 1, none⟩ v1).setCell ⟨g, 2, none⟩ v2).setCell ⟨g, 3, none⟩ v3).setCell ⟨g, 4, none⟩ v4).setCell ⟨g, 5, none⟩ v5).setCell ⟨g, 6, none⟩ v6).setCell ⟨g, 7, none⟩ v7).setCell ⟨g, 8, none⟩ v8).setCell ⟨g, 9, none⟩ v9).setCell ⟨g, 10, none⟩ v10).setCell ⟨g, 11, none⟩ v11).setCell ⟨g, 12, none⟩ v12).setCell ⟨g, 13, none⟩ v13).setCell ⟨g, 14, none⟩ v14).setCell ⟨g, 15, none⟩ v15) [g] := (Ch.setCell (p := ⟨g, 15, none⟩) (Ch.setCell (p := ⟨g, 14, none⟩) (Ch.setCell (p := ⟨g, 13, none⟩) (Ch.setCell (p := ⟨g, 12, none⟩) (Ch.setCell (p := ⟨g, 11, none⟩) (Ch.setCell (p := ⟨g, 10, none⟩) (Ch.setCell (p := ⟨g, 9, none⟩) (Ch.setCell (p := ⟨g, 8, none⟩) (Ch.setCell (p := ⟨g, 7, none⟩) (Ch.setCell (p := ⟨g, 6, none⟩) (Ch.setCell (p := ⟨g, 5, none⟩) (Ch.setCell (p := ⟨g, 4, none⟩) (Ch.setCell (p := ⟨g, 3, none⟩) (Ch.setCell (p := ⟨g, 2, none⟩) (Ch.setCell (p := ⟨g, 1, none⟩) (Ch.setCell (p := ⟨g, 0, none⟩) (Ch.refl W [g]) (by simp) v0) (by simp) v1) (by simp) v2) (by simp) v3) (by simp) v4) (by simp) v5) (by simp) v6) (by simp) v7) (by simp) v8) (by simp) v9) (by simp) v10) (by simp) v11) (by simp) v12) (by simp) v13) (by simp) v14) (by simp) v15)
theorem ch_n10 (W : World) (g : Nat) (v0 v1 v2 v3 v4 v5 v6 v7 v8 v9 : Value) : Ch W ((((((((((W.setCell ⟨g, 0, none⟩ v0).setCell ⟨g, 1, none⟩ v1).setCell ⟨g, 2, none⟩ v2).setCell ⟨g, 3, none⟩ v3).setCell ⟨g, 4, none⟩ v4).setCell ⟨g, 5, none⟩ v5).setCell ⟨g, 6, none⟩ v6).setCell ⟨g, 7, none⟩ v7).setCell ⟨g, 8, none⟩ v8).setCell ⟨g, 9, none⟩ v9) [g] := (Ch.setCell (p := ⟨g, 9, none⟩) (Ch.setCell (p := ⟨g, 8, none⟩) (Ch.setCell (p := ⟨g, 7, none⟩) (Ch.setCell (p := ⟨g, 6, none⟩) (Ch.setCell (p := ⟨g, 5, none⟩) (Ch.setCell (p := ⟨g, 4, none⟩) (Ch.setCell (p := ⟨g, 3, none⟩) (Ch.setCell (p := ⟨g, 2, none⟩) (Ch.setCell (p := ⟨g, 1, none⟩) (Ch.setCell (p := ⟨g, 0, none⟩) (Ch.refl W [g]) (by simp) v0) (by simp) v1) (by simp) v2) (by simp) v3) (by simp) v4) (by simp) v5) (by simp) v6) (by simp) v7) (by simp) v8) (by simp) v9)
/-- a region's operations, by its number -/
def regOpsH (id : Nat) : Code → Option (Array Oper)
  | .region i ops _ => if i = id then some ops else none
  | .seq a b => (regOpsH id a).or (regOpsH id b)
  | .cond _ a b => (regOpsH id a).or (regOpsH id b)
  | .block _ b => regOpsH id b
  | .loop b => regOpsH id b
  | .scope b => regOpsH id b
  | .rangeFunc _ _ a b => (regOpsH id a).or (regOpsH id b)
  | _ => none
/-- the first loop's body -/
def loopAtH : Code → Option Code
  | .loop b => some b
  | .seq a b => (loopAtH a).or (loopAtH b)
  | .cond _ a b => (loopAtH a).or (loopAtH b)
  | .block _ b => loopAtH b
  | .scope b => loopAtH b
  | _ => none
set_option maxRecDepth 1000000 in
set_option maxHeartbeats 4000000 in
theorem ss_c (op n : Int) (w : World) (n0 : 1 ≤ n) (n1 : n ≤ 256) : Calls Try.prog 17 #[.int .i64 op, .int .i64 n] w fun e w' => e = .returned (.agg #[.int .i64 op, .int .i64 5, .int .i64 0, .int .i64 0, .int .i64 0, .int .i64 14, .int .i64 0, .int .i64 15, .int .i64 0, .int .i64 (n - 1), .int .i64 0, .int .i64 0]) ∧ Below w.heap.size w w' := by
  go_enter Try.func17, Try.ntmps17
  go_wp2
  exact bodyPost_ret (v := .agg #[.int .i64 op, .int .i64 5, .int .i64 0, .int .i64 0, .int .i64 0, .int .i64 14, .int .i64 0, .int .i64 15, .int .i64 0, .int .i64 (n - 1), .int .i64 0, .int .i64 0]) (by simp [results, Try.results17, go_sem]) rfl ⟨rfl, (Below.refl _ _).alloc (Nat.le_refl _) _⟩
end Go.Proofs.Ythjdjbipfdigeaa

