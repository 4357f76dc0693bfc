/- CONTRACTS of general.Exec. No conditions but the form. -/
import Derived.Test.YthjdjbipfdigeaaGe5
import Derived.Test.YthjdjbipfdigeaaGe2
import Derived.Test.YthjdjbipfdigeaaPwB
import Derived.BigRegion
namespace Go.Proofs.Ythjdjbipfdigeaa
open Go.RowKit
set_option maxRecDepth 100000
set_option linter.unusedVariables false
set_option linter.unusedSimpArgs false
/-- a block of cells -/
def Bk (W : World) (g : Nat) (T : TypeId) (cs : List Value) : Prop := W.heap[g]? = some (.cells cs.toArray T (0, 0))
section
variable {W W' : World} {g : Nat} {T : TypeId} {cs : List Value}
theorem Bk.cell (h : Bk W g T cs) {c : Nat} {v : Value} (hc : cs[c]? = some v) : W.cell? ⟨g, c, none⟩ = some v := by rw [cell_blk h c]; simpa using hc
theorem Bk.free (h : Bk W g T cs) (c : Nat) : W.frozen? ⟨g, c, none⟩ = false := by unfold Bk at h; simp [World.frozen?, h]
theorem Bk.lt (h : Bk W g T cs) : g < W.heap.size := (Array.getElem?_eq_some_iff.1 h).1
theorem Bk.kept (h : Bk W g T cs) (hk : W'.heap[g]? = W.heap[g]?) : Bk W' g T cs := hk.trans h
theorem Bk.keep (h : Bk W g T cs) (hb : Below W.heap.size W W') : Bk W' g T cs := h.kept (hb.block _ h.lt)
theorem Bk.ch {L : List Nat} (h : Bk W g T cs) (hb : Ch W W' L) (hg : g ∉ L) : Bk W' g T cs := h.kept (hb.block _ h.lt hg)
theorem Bk.alloc (h : Bk W g T cs) (o : Obj) : Bk (W.alloc o) g T cs := h.kept (Below.heap_alloc W o _ h.lt)
theorem Bk.new (W : World) (cs : List Value) (T : TypeId) : Bk (W.alloc (.cells cs.toArray T)) W.heap.size T cs := heap_alloc_new W _
theorem Bk.drewN (h : Bk W g T cs) (n : Nat) : Bk (W.drewN n) g T cs := h
theorem Bk.set_ (h : Bk W g T cs) (c : Nat) (v : Value) : Bk (W.setCell ⟨g, c, none⟩ v) g T (cs.set c v) := by
  unfold Bk at h ⊢
  rw [setCell_eq_setRow W g c _ _ (0, 0) _ h, setRow_heap W g _ _ _ _ h, List.setIfInBounds_toArray]
theorem Bk.other (h : Bk W g T cs) {p : Addr} (v : Value) (hp : p.block ≠ g) : Bk (W.setCell p v) g T cs := h.kept (Below.heap_setCell W p v g (Ne.symm hp))
theorem list_n {α : Type} : ∀ (n : Nat) (l : List α), l.length = n + 1 → ∃ a t, l = a :: t ∧ t.length = n
  | n, a :: t, h => ⟨a, t, rfl, by simpa using h⟩
theorem Bk.sets16 (h : Bk W g T cs) (hl : cs.length = 16) (v0 v1 v2 v3 v4 v5 v6 v7 v8 v9 v10 v11 v12 v13 v14 v15 : Value) : Bk ((((((((((((((((W.setCell ⟨g, 0, none⟩ v0).setCell ⟨g, 1, none⟩ v1).setCell ⟨g, 2, none⟩ v2).setCell ⟨g, 3, none⟩ v3).setCell ⟨g, 4, none⟩ v4).setCell ⟨g, 5, none⟩ v5).setCell ⟨g, 6, none⟩ v6).setCell ⟨g, 7, none⟩ v7).setCell ⟨g, 8, none⟩ v8).setCell ⟨g, 9, none⟩ v9).setCell ⟨g, 10, none⟩ v10).setCell ⟨g, 11, none⟩ v11).setCell ⟨g, 12, none⟩ v12).setCell ⟨g, 13, none⟩ v13).setCell ⟨g, 14, none⟩ v14).setCell ⟨g, 15, none⟩ v15) g T [v0, v1, v2, v3, v4, v5, v6, v7, v8, v9, v10, v11, v12, v13, v14, v15] := by
  obtain ⟨x0, l0, rfl, hl0⟩ := list_n _ cs hl
  obtain ⟨x1, l1, rfl, hl1⟩ := list_n _ l0 hl0
  obtain ⟨x2, l2, rfl, hl2⟩ := list_n _ l1 hl1
  obtain ⟨x3, l3, rfl, hl3⟩ := list_n _ l2 hl2
  obtain ⟨x4, l4, rfl, hl4⟩ := list_n _ l3 hl3
  obtain ⟨x5, l5, rfl, hl5⟩ := list_n _ l4 hl4
  obtain ⟨x6, l6, rfl, hl6⟩ := list_n _ l5 hl5
  obtain ⟨x7, l7, rfl, hl7⟩ := list_n _ l6 hl6
  obtain ⟨x8, l8, rfl, hl8⟩ := list_n _ l7 hl7
  obtain ⟨x9, l9, rfl, hl9⟩ := list_n _ l8 hl8
  obtain ⟨x10, l10, rfl, hl10⟩ := list_n _ l9 hl9
  obtain ⟨x11, l11, rfl, hl11⟩ := list_n _ l10 hl10
  obtain ⟨x12, l12, rfl, hl12⟩ := list_n _ l11 hl11
  obtain ⟨x13, l13, rfl, hl13⟩ := list_n _ l12 hl12
  obtain ⟨x14, l14, rfl, hl14⟩ := list_n _ l13 hl13
  obtain ⟨x15, l15, rfl, hl15⟩ := list_n _ l14 hl14
  obtain rfl := List.eq_nil_of_length_eq_zero hl15
  exact ((((((((((((((((h.set_ 0 v0).set_ 1 v1).set_ 2 v2).set_ 3 v3).set_ 4 v4).set_ 5 v5).set_ 6 v6).set_ 7 v7).set_ 8 v8).set_ 9 v9).set_ 10 v10).set_ 11 v11).set_ 12 v12).set_ 13 v13).set_ 14 v14).set_ 15 v15)
theorem Bk.oth16 (h : Bk W g T cs) {k : Nat} (hk : k ≠ g) (v0 v1 v2 v3 v4 v5 v6 v7 v8 v9 v10 v11 v12 v13 v14 v15 : Value) : Bk ((((((((((((((((W.setCell ⟨k, 0, none⟩ v0).setCell ⟨k, 1, none⟩ v1).setCell ⟨k, 2, none⟩ v2).setCell ⟨k, 3, none⟩ v3).setCell ⟨k, 4, none⟩ v4).setCell ⟨k, 5, none⟩ v5).setCell ⟨k, 6, none⟩ v6).setCell ⟨k, 7, none⟩ v7).setCell ⟨k, 8, none⟩ v8).setCell ⟨k, 9, none⟩ v9).setCell ⟨k, 10, none⟩ v10).setCell ⟨k, 11, none⟩ v11).setCell ⟨k, 12, none⟩ v12).setCell ⟨k, 13, none⟩ v13).setCell ⟨k, 14, none⟩ v14).setCell ⟨k, 15, none⟩ v15) g T cs := (Bk.other (p := ⟨k, 15, none⟩) (Bk.other (p := ⟨k, 14, none⟩) (Bk.other (p := ⟨k, 13, none⟩) (Bk.other (p := ⟨k, 12, none⟩) (Bk.other (p := ⟨k, 11, none⟩) (Bk.other (p := ⟨k, 10, none⟩) (Bk.other (p := ⟨k, 9, none⟩) (Bk.other (p := ⟨k, 8, none⟩) (Bk.other (p := ⟨k, 7, none⟩) (Bk.other (p := ⟨k, 6, none⟩) (Bk.other (p := ⟨k, 5, none⟩) (Bk.other (p := ⟨k, 4, none⟩) (Bk.other (p := ⟨k, 3, none⟩) (Bk.other (p := ⟨k, 2, none⟩) (Bk.other (p := ⟨k, 1, none⟩) (Bk.other (p := ⟨k, 0, none⟩) h v0 hk) v1 hk) v2 hk) v3 hk) v4 hk) v5 hk) v6 hk) v7 hk) v8 hk) v9 hk) v10 hk) v11 hk) v12 hk) v13 hk) v14 hk) v15 hk)
theorem ch_s16 {w : World} {L : List Nat} {k : Nat} (h : Ch w W L) (hk : w.heap.size ≤ k) (v0 v1 v2 v3 v4 v5 v6 v7 v8 v9 v10 v11 v12 v13 v14 v15 : Value) : Ch w ((((((((((((((((W.setCell ⟨k, 0, none⟩ v0).setCell ⟨k, 1, none⟩ v1).setCell ⟨k, 2, none⟩ v2).setCell ⟨k, 3, none⟩ v3).setCell ⟨k, 4, none⟩ v4).setCell ⟨k, 5, none⟩ v5).setCell ⟨k, 6, none⟩ v6).setCell ⟨k, 7, none⟩ v7).setCell ⟨k, 8, none⟩ v8).setCell ⟨k, 9, none⟩ v9).setCell ⟨k, 10, none⟩ v10).setCell ⟨k, 11, none⟩ v11).setCell ⟨k, 12, none⟩ v12).setCell ⟨k, 13, none⟩ v13).setCell ⟨k, 14, none⟩ v14).setCell ⟨k, 15, none⟩ v15) L := (Ch.setNew (p := ⟨k, 15, none⟩) (Ch.setNew (p := ⟨k, 14, none⟩) (Ch.setNew (p := ⟨k, 13, none⟩) (Ch.setNew (p := ⟨k, 12, none⟩) (Ch.setNew (p := ⟨k, 11, none⟩) (Ch.setNew (p := ⟨k, 10, none⟩) (Ch.setNew (p := ⟨k, 9, none⟩) (Ch.setNew (p := ⟨k, 8, none⟩) (Ch.setNew (p := ⟨k, 7, none⟩) (Ch.setNew (p := ⟨k, 6, none⟩) (Ch.setNew (p := ⟨k, 5, none⟩) (Ch.setNew (p := ⟨k, 4, none⟩) (Ch.setNew (p := ⟨k, 3, none⟩) (Ch.setNew (p := ⟨k, 2, none⟩) (Ch.setNew (p := ⟨k, 1, none⟩) (Ch.setNew (p := ⟨k, 0, none⟩) h hk v0) hk v1) hk v2) hk v3) hk v4) hk v5) hk v6) hk v7) hk v8) hk v9) hk v10) hk v11) hk v12) hk v13) hk v14) hk v15)
theorem Bk.sets10 (h : Bk W g T cs) (hl : cs.length = 10) (v0 v1 v2 v3 v4 v5 v6 v7 v8 v9 : Value) : Bk ((((((((((W.setCell ⟨g, 0, none⟩ v0).setCell ⟨g, 1, none⟩ v1).setCell ⟨g, 2, none⟩ v2).setCell ⟨g, 3, none⟩ v3).setCell ⟨g, 4, none⟩ v4).setCell ⟨g, 5, none⟩ v5).setCell ⟨g, 6, none⟩ v6).setCell ⟨g, 7, none⟩ v7).setCell ⟨g, 8, none⟩ v8).setCell ⟨g, 9, none⟩ v9) g T [v0, v1, v2, v3, v4, v5, v6, v7, v8, v9] := by
  obtain ⟨x0, l0, rfl, hl0⟩ := list_n _ cs hl
  obtain ⟨x1, l1, rfl, hl1⟩ := list_n _ l0 hl0
  obtain ⟨x2, l2, rfl, hl2⟩ := list_n _ l1 hl1
  obtain ⟨x3, l3, rfl, hl3⟩ := list_n _ l2 hl2
  obtain ⟨x4, l4, rfl, hl4⟩ := list_n _ l3 hl3
  obtain ⟨x5, l5, rfl, hl5⟩ := list_n _ l4 hl4
  obtain ⟨x6, l6, rfl, hl6⟩ := list_n _ l5 hl5
  obtain ⟨x7, l7, rfl, hl7⟩ := list_n _ l6 hl6
  obtain ⟨x8, l8, rfl, hl8⟩ := list_n _ l7 hl7
  obtain ⟨x9, l9, rfl, hl9⟩ := list_n _ l8 hl8
  obtain rfl := List.eq_nil_of_length_eq_zero hl9
  exact ((((((((((h.set_ 0 v0).set_ 1 v1).set_ 2 v2).set_ 3 v3).set_ 4 v4).set_ 5 v5).set_ 6 v6).set_ 7 v7).set_ 8 v8).set_ 9 v9)
theorem Bk.oth10 (h : Bk W g T cs) {k : Nat} (hk : k ≠ g) (v0 v1 v2 v3 v4 v5 v6 v7 v8 v9 : Value) : Bk ((((((((((W.setCell ⟨k, 0, none⟩ v0).setCell ⟨k, 1, none⟩ v1).setCell ⟨k, 2, none⟩ v2).setCell ⟨k, 3, none⟩ v3).setCell ⟨k, 4, none⟩ v4).setCell ⟨k, 5, none⟩ v5).setCell ⟨k, 6, none⟩ v6).setCell ⟨k, 7, none⟩ v7).setCell ⟨k, 8, none⟩ v8).setCell ⟨k, 9, none⟩ v9) g T cs := (Bk.other (p := ⟨k, 9, none⟩) (Bk.other (p := ⟨k, 8, none⟩) (Bk.other (p := ⟨k, 7, none⟩) (Bk.other (p := ⟨k, 6, none⟩) (Bk.other (p := ⟨k, 5, none⟩) (Bk.other (p := ⟨k, 4, none⟩) (Bk.other (p := ⟨k, 3, none⟩) (Bk.other (p := ⟨k, 2, none⟩) (Bk.other (p := ⟨k, 1, none⟩) (Bk.other (p := ⟨k, 0, none⟩) h v0 hk) v1 hk) v2 hk) v3 hk) v4 hk) v5 hk) v6 hk) v7 hk) v8 hk) v9 hk)
theorem ch_s10 {w : World} {L : List Nat} {k : Nat} (h : Ch w W L) (hk : w.heap.size ≤ k) (v0 v1 v2 v3 v4 v5 v6 v7 v8 v9 : Value) : Ch w ((((((((((W.setCell ⟨k, 0, none⟩ v0).setCell ⟨k, 1, none⟩ v1).setCell ⟨k, 2, none⟩ v2).setCell ⟨k, 3, none⟩ v3).setCell ⟨k, 4, none⟩ v4).setCell ⟨k, 5, none⟩ v5).setCell ⟨k, 6, none⟩ v6).setCell ⟨k, 7, none⟩ v7).setCell ⟨k, 8, none⟩ v8).setCell ⟨k, 9, none⟩ v9) L := (Ch.setNew (p := ⟨k, 9, none⟩) (Ch.setNew (p := ⟨k, 8, none⟩) (Ch.setNew (p := ⟨k, 7, none⟩) (Ch.setNew (p := ⟨k, 6, none⟩) (Ch.setNew (p := ⟨k, 5, none⟩) (Ch.setNew (p := ⟨k, 4, none⟩) (Ch.setNew (p := ⟨k, 3, none⟩) (Ch.setNew (p := ⟨k, 2, none⟩) (Ch.setNew (p := ⟨k, 1, none⟩) (Ch.setNew (p := ⟨k, 0, none⟩) h hk v0) hk v1) hk v2) hk v3) hk v4) hk v5) hk v6) hk v7) hk v8) hk v9)
end
/-- Exec's own blocks: the instruction, registers and status word as given, and the results' cells -/
structure XF (w W : World) (L : List Nat) (is rs : List Int) (ps nr np : List Value) (en : Value) : Prop where
  b0 : Bk W w.heap.size 25 (is.map (Value.int .i64))
  b1 : Bk W (w.heap.size + 1) 28 (rs.map (Value.int .u32))
  b2 : Bk W (w.heap.size + 1 + 1) 30 ps
  b3 : Bk W (w.heap.size + 1 + 1 + 1) 28 nr
  b4 : Bk W (w.heap.size + 1 + 1 + 1 + 1) 30 np
  b5 : Bk W (w.heap.size + 1 + 1 + 1 + 1 + 1) 3 [en]
  be : Ch w W L
theorem XF.start (w : World) (L : List Nat) (is rs : List Int) (ps nr np : List Value) (en : Value) : XF w ((((((w.alloc (.cells (is.map (Value.int .i64)).toArray 25)).alloc (.cells (rs.map (Value.int .u32)).toArray 28)).alloc (.cells ps.toArray 30)).alloc (.cells nr.toArray 28)).alloc (.cells np.toArray 30)).alloc (.cells [en].toArray 3)) L is rs ps nr np en := by
  refine ⟨?_, ?_, ?_, ?_, ?_, ?_, ?_⟩
  · exact (((((Bk.new w _ _).alloc _).alloc _).alloc _).alloc _).alloc _
  · have := Bk.new (w.alloc (.cells (is.map (Value.int .i64)).toArray 25)) (rs.map (Value.int .u32)) 28
    rw [World.size_alloc] at this
    exact (((this.alloc _).alloc _).alloc _).alloc _
  · have := Bk.new ((w.alloc (.cells (is.map (Value.int .i64)).toArray 25)).alloc (.cells (rs.map (Value.int .u32)).toArray 28)) ps 30
    rw [World.size_alloc, World.size_alloc] at this
    exact ((this.alloc _).alloc _).alloc _
  · have := Bk.new (((w.alloc (.cells (is.map (Value.int .i64)).toArray 25)).alloc (.cells (rs.map (Value.int .u32)).toArray 28)).alloc (.cells ps.toArray 30)) nr 28
    rw [World.size_alloc, World.size_alloc, World.size_alloc] at this
    exact (this.alloc _).alloc _
  · have := Bk.new ((((w.alloc (.cells (is.map (Value.int .i64)).toArray 25)).alloc (.cells (rs.map (Value.int .u32)).toArray 28)).alloc (.cells ps.toArray 30)).alloc (.cells nr.toArray 28)) np 30
    rw [World.size_alloc, World.size_alloc, World.size_alloc, World.size_alloc] at this
    exact this.alloc _
  · have := Bk.new (((((w.alloc (.cells (is.map (Value.int .i64)).toArray 25)).alloc (.cells (rs.map (Value.int .u32)).toArray 28)).alloc (.cells ps.toArray 30)).alloc (.cells nr.toArray 28)).alloc (.cells np.toArray 30)) [en] 3
    rw [World.size_alloc, World.size_alloc, World.size_alloc, World.size_alloc, World.size_alloc] at this
    exact this
  · exact ((((((Ch.refl w L).alloc _).alloc _).alloc _).alloc _).alloc _).alloc _
section
variable {w W W' : World} {L : List Nat} {is rs : List Int} {ps nr np : List Value} {en : Value}
theorem XF.keep (h : XF w W L is rs ps nr np en) (hb : Below W.heap.size W W') : XF w W' L is rs ps nr np en := ⟨h.b0.keep hb, h.b1.keep hb, h.b2.keep hb, h.b3.keep hb, h.b4.keep hb, h.b5.keep hb, h.be.trans (Ch.of_below hb L)⟩
theorem XF.drewN (h : XF w W L is rs ps nr np en) (n : Nat) : XF w (W.drewN n) L is rs ps nr np en := ⟨h.b0, h.b1, h.b2, h.b3, h.b4, h.b5, h.be.drewN n⟩
theorem XF.ch {g : Nat} (h : XF w W [] is rs ps nr np en) (hc : Ch W W' (g :: L)) (hL : ∀ k, k ∈ L → k < w.heap.size) (hg : w.heap.size + 6 ≤ g) : XF w W' L is rs ps nr np en := by
  have hn : ∀ k, w.heap.size ≤ k → k < w.heap.size + 6 → k ∉ g :: L := fun k h1 h2 hk => by
    rcases List.mem_cons.mp hk with hk | hk
    · omega
    · have := hL k hk; omega
  exact ⟨h.b0.ch hc (hn _ (by omega) (by omega)), h.b1.ch hc (hn _ (by omega) (by omega)), h.b2.ch hc (hn _ (by omega) (by omega)), h.b3.ch hc (hn _ (by omega) (by omega)), h.b4.ch hc (hn _ (by omega) (by omega)), h.b5.ch hc (hn _ (by omega) (by omega)), ⟨hc.os.trans h.be.os, hc.tape.trans h.be.tape, hc.output.trans h.be.output, Nat.le_trans h.be.size hc.size, fun k hk hkL => (hc.block k (Nat.lt_of_lt_of_le hk h.be.size) (fun hm => by rcases List.mem_cons.mp hm with hm | hm; (· omega); (· exact hkL hm))).trans (h.be.block k hk (by simp))⟩⟩
theorem XF.give (h : XF w W L is rs ps nr np en) (hr : nr.length = 16) (hp : np.length = 10) (e0 e1 e2 e3 e4 e5 e6 e7 e8 e9 e10 e11 e12 e13 e14 e15 q0 q1 q2 q3 q4 q5 q6 q7 q8 q9 e : Value) : XF w ((((((((((((((((((((((((((((W.setCell ⟨w.heap.size + 1 + 1 + 1, 0, none⟩ e0).setCell ⟨w.heap.size + 1 + 1 + 1, 1, none⟩ e1).setCell ⟨w.heap.size + 1 + 1 + 1, 2, none⟩ e2).setCell ⟨w.heap.size + 1 + 1 + 1, 3, none⟩ e3).setCell ⟨w.heap.size + 1 + 1 + 1, 4, none⟩ e4).setCell ⟨w.heap.size + 1 + 1 + 1, 5, none⟩ e5).setCell ⟨w.heap.size + 1 + 1 + 1, 6, none⟩ e6).setCell ⟨w.heap.size + 1 + 1 + 1, 7, none⟩ e7).setCell ⟨w.heap.size + 1 + 1 + 1, 8, none⟩ e8).setCell ⟨w.heap.size + 1 + 1 + 1, 9, none⟩ e9).setCell ⟨w.heap.size + 1 + 1 + 1, 10, none⟩ e10).setCell ⟨w.heap.size + 1 + 1 + 1, 11, none⟩ e11).setCell ⟨w.heap.size + 1 + 1 + 1, 12, none⟩ e12).setCell ⟨w.heap.size + 1 + 1 + 1, 13, none⟩ e13).setCell ⟨w.heap.size + 1 + 1 + 1, 14, none⟩ e14).setCell ⟨w.heap.size + 1 + 1 + 1, 15, none⟩ e15).setCell ⟨w.heap.size + 1 + 1 + 1 + 1, 0, none⟩ q0).setCell ⟨w.heap.size + 1 + 1 + 1 + 1, 1, none⟩ q1).setCell ⟨w.heap.size + 1 + 1 + 1 + 1, 2, none⟩ q2).setCell ⟨w.heap.size + 1 + 1 + 1 + 1, 3, none⟩ q3).setCell ⟨w.heap.size + 1 + 1 + 1 + 1, 4, none⟩ q4).setCell ⟨w.heap.size + 1 + 1 + 1 + 1, 5, none⟩ q5).setCell ⟨w.heap.size + 1 + 1 + 1 + 1, 6, none⟩ q6).setCell ⟨w.heap.size + 1 + 1 + 1 + 1, 7, none⟩ q7).setCell ⟨w.heap.size + 1 + 1 + 1 + 1, 8, none⟩ q8).setCell ⟨w.heap.size + 1 + 1 + 1 + 1, 9, none⟩ q9).setCell ⟨w.heap.size + 1 + 1 + 1 + 1 + 1, 0, none⟩ e)) L is rs ps [e0, e1, e2, e3, e4, e5, e6, e7, e8, e9, e10, e11, e12, e13, e14, e15] [q0, q1, q2, q3, q4, q5, q6, q7, q8, q9] e := by
  refine ⟨?_, ?_, ?_, ?_, ?_, ?_, ?_⟩
  · exact Bk.other (p := ⟨_, 0, none⟩) (Bk.oth10 (Bk.oth16 h.b0 (by omega) e0 e1 e2 e3 e4 e5 e6 e7 e8 e9 e10 e11 e12 e13 e14 e15) (by omega) q0 q1 q2 q3 q4 q5 q6 q7 q8 q9) e (by first | (simp; done) | (simp; omega))
  · exact Bk.other (p := ⟨_, 0, none⟩) (Bk.oth10 (Bk.oth16 h.b1 (by omega) e0 e1 e2 e3 e4 e5 e6 e7 e8 e9 e10 e11 e12 e13 e14 e15) (by omega) q0 q1 q2 q3 q4 q5 q6 q7 q8 q9) e (by first | (simp; done) | (simp; omega))
  · exact Bk.other (p := ⟨_, 0, none⟩) (Bk.oth10 (Bk.oth16 h.b2 (by omega) e0 e1 e2 e3 e4 e5 e6 e7 e8 e9 e10 e11 e12 e13 e14 e15) (by omega) q0 q1 q2 q3 q4 q5 q6 q7 q8 q9) e (by first | (simp; done) | (simp; omega))
  · exact Bk.other (p := ⟨_, 0, none⟩) (Bk.oth10 (Bk.sets16 h.b3 hr e0 e1 e2 e3 e4 e5 e6 e7 e8 e9 e10 e11 e12 e13 e14 e15) (by omega) q0 q1 q2 q3 q4 q5 q6 q7 q8 q9) e (by first | (simp; done) | (simp; omega))
  · exact Bk.other (p := ⟨_, 0, none⟩) (Bk.sets10 (Bk.oth16 h.b4 (by omega) e0 e1 e2 e3 e4 e5 e6 e7 e8 e9 e10 e11 e12 e13 e14 e15) hp q0 q1 q2 q3 q4 q5 q6 q7 q8 q9) e (by first | (simp; done) | (simp; omega))
  · exact Bk.set_ (Bk.oth10 (Bk.oth16 h.b5 (by omega) e0 e1 e2 e3 e4 e5 e6 e7 e8 e9 e10 e11 e12 e13 e14 e15) (by omega) q0 q1 q2 q3 q4 q5 q6 q7 q8 q9) 0 e
  · exact (ch_s10 (ch_s16 h.be (by omega) e0 e1 e2 e3 e4 e5 e6 e7 e8 e9 e10 e11 e12 e13 e14 e15) (by omega) q0 q1 q2 q3 q4 q5 q6 q7 q8 q9).setNew (p := ⟨_, 0, none⟩) (by first | (simp; done) | (simp; omega)) e
end
theorem below_s16 {w W0 W : World} {k : Nat} (h : Below w.heap.size W0 W) (hk : w.heap.size ≤ k) (v0 v1 v2 v3 v4 v5 v6 v7 v8 v9 v10 v11 v12 v13 v14 v15 : Value) : Below w.heap.size W0 ((((((((((((((((W.setCell ⟨k, 0, none⟩ v0).setCell ⟨k, 1, none⟩ v1).setCell ⟨k, 2, none⟩ v2).setCell ⟨k, 3, none⟩ v3).setCell ⟨k, 4, none⟩ v4).setCell ⟨k, 5, none⟩ v5).setCell ⟨k, 6, none⟩ v6).setCell ⟨k, 7, none⟩ v7).setCell ⟨k, 8, none⟩ v8).setCell ⟨k, 9, none⟩ v9).setCell ⟨k, 10, none⟩ v10).setCell ⟨k, 11, none⟩ v11).setCell ⟨k, 12, none⟩ v12).setCell ⟨k, 13, none⟩ v13).setCell ⟨k, 14, none⟩ v14).setCell ⟨k, 15, none⟩ v15) := (Below.setCell (p := ⟨k, 15, none⟩) (Below.setCell (p := ⟨k, 14, none⟩) (Below.setCell (p := ⟨k, 13, none⟩) (Below.setCell (p := ⟨k, 12, none⟩) (Below.setCell (p := ⟨k, 11, none⟩) (Below.setCell (p := ⟨k, 10, none⟩) (Below.setCell (p := ⟨k, 9, none⟩) (Below.setCell (p := ⟨k, 8, none⟩) (Below.setCell (p := ⟨k, 7, none⟩) (Below.setCell (p := ⟨k, 6, none⟩) (Below.setCell (p := ⟨k, 5, none⟩) (Below.setCell (p := ⟨k, 4, none⟩) (Below.setCell (p := ⟨k, 3, none⟩) (Below.setCell (p := ⟨k, 2, none⟩) (Below.setCell (p := ⟨k, 1, none⟩) (Below.setCell (p := ⟨k, 0, none⟩) h hk v0) hk v1) hk v2) hk v3) hk v4) hk v5) hk v6) hk v7) hk v8) hk v9) hk v10) hk v11) hk v12) hk v13) hk v14) hk v15)
theorem below_s10 {w W0 W : World} {k : Nat} (h : Below w.heap.size W0 W) (hk : w.heap.size ≤ k) (v0 v1 v2 v3 v4 v5 v6 v7 v8 v9 : Value) : Below w.heap.size W0 ((((((((((W.setCell ⟨k, 0, none⟩ v0).setCell ⟨k, 1, none⟩ v1).setCell ⟨k, 2, none⟩ v2).setCell ⟨k, 3, none⟩ v3).setCell ⟨k, 4, none⟩ v4).setCell ⟨k, 5, none⟩ v5).setCell ⟨k, 6, none⟩ v6).setCell ⟨k, 7, none⟩ v7).setCell ⟨k, 8, none⟩ v8).setCell ⟨k, 9, none⟩ v9) := (Below.setCell (p := ⟨k, 9, none⟩) (Below.setCell (p := ⟨k, 8, none⟩) (Below.setCell (p := ⟨k, 7, none⟩) (Below.setCell (p := ⟨k, 6, none⟩) (Below.setCell (p := ⟨k, 5, none⟩) (Below.setCell (p := ⟨k, 4, none⟩) (Below.setCell (p := ⟨k, 3, none⟩) (Below.setCell (p := ⟨k, 2, none⟩) (Below.setCell (p := ⟨k, 1, none⟩) (Below.setCell (p := ⟨k, 0, none⟩) h hk v0) hk v1) hk v2) hk v3) hk v4) hk v5) hk v6) hk v7) hk v8) hk v9)
theorem res_cells3 {P : Program} {fn : Func} {p q r : Tmp} {tp tq tr : TypeId} (h : fn.results = #[.cell p tp, .cell q tq, .cell r tr]) (tmps : Array Value) (w : World) (g g' g'' : Nat) (cs cs' : List Value) (v : Value) {T T' T'' : TypeId} {d d' : TypeDesc}
    (hp : tmps.getD p undef = .pointer (some ⟨g, 0, none⟩)) (hq : tmps.getD q undef = .pointer (some ⟨g', 0, none⟩)) (hr : tmps.getD r undef = .pointer (some ⟨g'', 0, none⟩)) (hg : Bk w g T cs) (hg' : Bk w g' T' cs') (hg'' : Bk w g'' T'' [v])
    (hu : P.underlying tp = some d) (hd : (match d with | .struct _ | .array _ _ => true | _ => false) = true) (hi : (P.info? tp).map (·.size) = some cs.length)
    (hu' : P.underlying tq = some d') (hd' : (match d' with | .struct _ | .array _ _ => true | _ => false) = true) (hi' : (P.info? tq).map (·.size) = some cs'.length)
    (hv : (loadVar tr ⟨g'', 0, none⟩).run P w = .ok v w) :
    (results fn tmps).run P w = .ok (.tuple #[.agg cs.toArray, .agg cs'.toArray, v]) w := by
  have hp' : tmps[p]?.getD undef = .pointer (some ⟨g, 0, none⟩) := by simpa using hp
  have hq' : tmps[q]?.getD undef = .pointer (some ⟨g', 0, none⟩) := by simpa using hq
  have hr' : tmps[r]?.getD undef = .pointer (some ⟨g'', 0, none⟩) := by simpa using hr
  simp [results, h, hp', hq', hr', asAddr, run_loadVar_row w g T tp cs.toArray (0, 0) d hg hu hd (by simpa using hi), run_loadVar_row w g' T' tq cs'.toArray (0, 0) d' hg' hu' hd' (by simpa using hi'), hv]
set_option maxRecDepth 1000000 in
set_option maxHeartbeats 4000000 in
theorem exec_nil (op fm r1 r2 x2 b1 d1 b2 d2 l1 l2 i2 : Int) (a0 a1 a2 a3 a4 a5 a6 a7 a8 a9 a10 a11 a12 a13 a14 a15 : Int) (pm pk : Int) (pM pW pP : Bool) (pc pi pq pg pa : Int) (w : World) : Calls Try.prog 14 #[.agg #[.int .i64 op, .int .i64 fm, .int .i64 r1, .int .i64 r2, .int .i64 x2, .int .i64 b1, .int .i64 d1, .int .i64 b2, .int .i64 d2, .int .i64 l1, .int .i64 l2, .int .i64 i2], .agg #[.int .u32 a0, .int .u32 a1, .int .u32 a2, .int .u32 a3, .int .u32 a4, .int .u32 a5, .int .u32 a6, .int .u32 a7, .int .u32 a8, .int .u32 a9, .int .u32 a10, .int .u32 a11, .int .u32 a12, .int .u32 a13, .int .u32 a14, .int .u32 a15], .agg #[.int .i64 pm, .int .i64 pk, .bool pM, .bool pW, .bool pP, .int .i64 pc, .int .i64 pi, .int .i64 pq, .int .i64 pg, .int .i64 pa], .pointer none] w fun e w' => e = .returned (.tuple #[.agg #[.int .u32 a0, .int .u32 a1, .int .u32 a2, .int .u32 a3, .int .u32 a4, .int .u32 a5, .int .u32 a6, .int .u32 a7, .int .u32 a8, .int .u32 a9, .int .u32 a10, .int .u32 a11, .int .u32 a12, .int .u32 a13, .int .u32 a14, .int .u32 a15], .agg #[.int .i64 pm, .int .i64 pk, .bool pM, .bool pW, .bool pP, .int .i64 pc, .int .i64 pi, .int .i64 pq, .int .i64 pg, .int .i64 pa], .int .i64 1]) ∧ Below w.heap.size w w' := by
  go_enter_defers Try.func14, Try.ntmps14
  go_upto_region 2 with fail
  have X0 := Lib.hid (show XF w ((((((w.alloc (.cells #[.int .i64 op, .int .i64 fm, .int .i64 r1, .int .i64 r2, .int .i64 x2, .int .i64 b1, .int .i64 d1, .int .i64 b2, .int .i64 d2, .int .i64 l1, .int .i64 l2, .int .i64 i2] 25)).alloc (.cells #[.int .u32 a0, .int .u32 a1, .int .u32 a2, .int .u32 a3, .int .u32 a4, .int .u32 a5, .int .u32 a6, .int .u32 a7, .int .u32 a8, .int .u32 a9, .int .u32 a10, .int .u32 a11, .int .u32 a12, .int .u32 a13, .int .u32 a14, .int .u32 a15] 28)).alloc (.cells #[.int .i64 pm, .int .i64 pk, .bool pM, .bool pW, .bool pP, .int .i64 pc, .int .i64 pi, .int .i64 pq, .int .i64 pg, .int .i64 pa] 30)).alloc (.cells #[.int .u32 0, .int .u32 0, .int .u32 0, .int .u32 0, .int .u32 0, .int .u32 0, .int .u32 0, .int .u32 0, .int .u32 0, .int .u32 0, .int .u32 0, .int .u32 0, .int .u32 0, .int .u32 0, .int .u32 0, .int .u32 0] 28)).alloc (.cells #[.int .i64 0, .int .i64 0, .bool false, .bool false, .bool false, .int .i64 0, .int .i64 0, .int .i64 0, .int .i64 0, .int .i64 0] 30)).alloc (.cells #[.int .i64 0] 3)) [] [op, fm, r1, r2, x2, b1, d1, b2, d2, l1, l2, i2] [a0, a1, a2, a3, a4, a5, a6, a7, a8, a9, a10, a11, a12, a13, a14, a15] [.int .i64 pm, .int .i64 pk, .bool pM, .bool pW, .bool pP, .int .i64 pc, .int .i64 pi, .int .i64 pq, .int .i64 pg, .int .i64 pa] [.int .u32 0, .int .u32 0, .int .u32 0, .int .u32 0, .int .u32 0, .int .u32 0, .int .u32 0, .int .u32 0, .int .u32 0, .int .u32 0, .int .u32 0, .int .u32 0, .int .u32 0, .int .u32 0, .int .u32 0, .int .u32 0] [.int .i64 0, .int .i64 0, .bool false, .bool false, .bool false, .int .i64 0, .int .i64 0, .int .i64 0, .int .i64 0, .int .i64 0] (.int .i64 0) from XF.start w [] [op, fm, r1, r2, x2, b1, d1, b2, d2, l1, l2, i2] [a0, a1, a2, a3, a4, a5, a6, a7, a8, a9, a10, a11, a12, a13, a14, a15] [.int .i64 pm, .int .i64 pk, .bool pM, .bool pW, .bool pP, .int .i64 pc, .int .i64 pi, .int .i64 pq, .int .i64 pg, .int .i64 pa] [.int .u32 0, .int .u32 0, .int .u32 0, .int .u32 0, .int .u32 0, .int .u32 0, .int .u32 0, .int .u32 0, .int .u32 0, .int .u32 0, .int .u32 0, .int .u32 0, .int .u32 0, .int .u32 0, .int .u32 0, .int .u32 0] [.int .i64 0, .int .i64 0, .bool false, .bool false, .bool false, .int .i64 0, .int .i64 0, .int .i64 0, .int .i64 0, .int .i64 0] (.int .i64 0))
  obtain ⟨W0, hW0⟩ : ∃ W0, ((((((w.alloc (.cells #[.int .i64 op, .int .i64 fm, .int .i64 r1, .int .i64 r2, .int .i64 x2, .int .i64 b1, .int .i64 d1, .int .i64 b2, .int .i64 d2, .int .i64 l1, .int .i64 l2, .int .i64 i2] 25)).alloc (.cells #[.int .u32 a0, .int .u32 a1, .int .u32 a2, .int .u32 a3, .int .u32 a4, .int .u32 a5, .int .u32 a6, .int .u32 a7, .int .u32 a8, .int .u32 a9, .int .u32 a10, .int .u32 a11, .int .u32 a12, .int .u32 a13, .int .u32 a14, .int .u32 a15] 28)).alloc (.cells #[.int .i64 pm, .int .i64 pk, .bool pM, .bool pW, .bool pP, .int .i64 pc, .int .i64 pi, .int .i64 pq, .int .i64 pg, .int .i64 pa] 30)).alloc (.cells #[.int .u32 0, .int .u32 0, .int .u32 0, .int .u32 0, .int .u32 0, .int .u32 0, .int .u32 0, .int .u32 0, .int .u32 0, .int .u32 0, .int .u32 0, .int .u32 0, .int .u32 0, .int .u32 0, .int .u32 0, .int .u32 0] 28)).alloc (.cells #[.int .i64 0, .int .i64 0, .bool false, .bool false, .bool false, .int .i64 0, .int .i64 0, .int .i64 0, .int .i64 0, .int .i64 0] 30)).alloc (.cells #[.int .i64 0] 3)) = W0 := ⟨_, rfl⟩
  rw [hW0] at X0
  try rw [hW0]
  clear hW0
  have ca0 : W0.cell? ⟨w.heap.size + 1, 0, none⟩ = some (.int .u32 a0) := X0.out.b1.cell (c := 0) rfl
  have ca1 : W0.cell? ⟨w.heap.size + 1, 1, none⟩ = some (.int .u32 a1) := X0.out.b1.cell (c := 1) rfl
  have ca2 : W0.cell? ⟨w.heap.size + 1, 2, none⟩ = some (.int .u32 a2) := X0.out.b1.cell (c := 2) rfl
  have ca3 : W0.cell? ⟨w.heap.size + 1, 3, none⟩ = some (.int .u32 a3) := X0.out.b1.cell (c := 3) rfl
  have ca4 : W0.cell? ⟨w.heap.size + 1, 4, none⟩ = some (.int .u32 a4) := X0.out.b1.cell (c := 4) rfl
  have ca5 : W0.cell? ⟨w.heap.size + 1, 5, none⟩ = some (.int .u32 a5) := X0.out.b1.cell (c := 5) rfl
  have ca6 : W0.cell? ⟨w.heap.size + 1, 6, none⟩ = some (.int .u32 a6) := X0.out.b1.cell (c := 6) rfl
  have ca7 : W0.cell? ⟨w.heap.size + 1, 7, none⟩ = some (.int .u32 a7) := X0.out.b1.cell (c := 7) rfl
  have ca8 : W0.cell? ⟨w.heap.size + 1, 8, none⟩ = some (.int .u32 a8) := X0.out.b1.cell (c := 8) rfl
  have ca9 : W0.cell? ⟨w.heap.size + 1, 9, none⟩ = some (.int .u32 a9) := X0.out.b1.cell (c := 9) rfl
  have ca10 : W0.cell? ⟨w.heap.size + 1, 10, none⟩ = some (.int .u32 a10) := X0.out.b1.cell (c := 10) rfl
  have ca11 : W0.cell? ⟨w.heap.size + 1, 11, none⟩ = some (.int .u32 a11) := X0.out.b1.cell (c := 11) rfl
  have ca12 : W0.cell? ⟨w.heap.size + 1, 12, none⟩ = some (.int .u32 a12) := X0.out.b1.cell (c := 12) rfl
  have ca13 : W0.cell? ⟨w.heap.size + 1, 13, none⟩ = some (.int .u32 a13) := X0.out.b1.cell (c := 13) rfl
  have ca14 : W0.cell? ⟨w.heap.size + 1, 14, none⟩ = some (.int .u32 a14) := X0.out.b1.cell (c := 14) rfl
  have ca15 : W0.cell? ⟨w.heap.size + 1, 15, none⟩ = some (.int .u32 a15) := X0.out.b1.cell (c := 15) rfl
  have da0 : W0.cell? ⟨w.heap.size + 1 + 1, 0, none⟩ = some (.int .i64 pm) := X0.out.b2.cell (c := 0) rfl
  have da1 : W0.cell? ⟨w.heap.size + 1 + 1, 1, none⟩ = some (.int .i64 pk) := X0.out.b2.cell (c := 1) rfl
  have da2 : W0.cell? ⟨w.heap.size + 1 + 1, 2, none⟩ = some (.bool pM) := X0.out.b2.cell (c := 2) rfl
  have da3 : W0.cell? ⟨w.heap.size + 1 + 1, 3, none⟩ = some (.bool pW) := X0.out.b2.cell (c := 3) rfl
  have da4 : W0.cell? ⟨w.heap.size + 1 + 1, 4, none⟩ = some (.bool pP) := X0.out.b2.cell (c := 4) rfl
  have da5 : W0.cell? ⟨w.heap.size + 1 + 1, 5, none⟩ = some (.int .i64 pc) := X0.out.b2.cell (c := 5) rfl
  have da6 : W0.cell? ⟨w.heap.size + 1 + 1, 6, none⟩ = some (.int .i64 pi) := X0.out.b2.cell (c := 6) rfl
  have da7 : W0.cell? ⟨w.heap.size + 1 + 1, 7, none⟩ = some (.int .i64 pq) := X0.out.b2.cell (c := 7) rfl
  have da8 : W0.cell? ⟨w.heap.size + 1 + 1, 8, none⟩ = some (.int .i64 pg) := X0.out.b2.cell (c := 8) rfl
  have da9 : W0.cell? ⟨w.heap.size + 1 + 1, 9, none⟩ = some (.int .i64 pa) := X0.out.b2.cell (c := 9) rfl
  have xa0 : W0.cell? ⟨w.heap.size + 1 + 1 + 1, 0, none⟩ = some (.int .u32 0) := X0.out.b3.cell (c := 0) rfl
  have xaf0 := X0.out.b3.free 0
  have xa1 : W0.cell? ⟨w.heap.size + 1 + 1 + 1, 1, none⟩ = some (.int .u32 0) := X0.out.b3.cell (c := 1) rfl
  have xaf1 := X0.out.b3.free 1
  have xa2 : W0.cell? ⟨w.heap.size + 1 + 1 + 1, 2, none⟩ = some (.int .u32 0) := X0.out.b3.cell (c := 2) rfl
  have xaf2 := X0.out.b3.free 2
  have xa3 : W0.cell? ⟨w.heap.size + 1 + 1 + 1, 3, none⟩ = some (.int .u32 0) := X0.out.b3.cell (c := 3) rfl
  have xaf3 := X0.out.b3.free 3
  have xa4 : W0.cell? ⟨w.heap.size + 1 + 1 + 1, 4, none⟩ = some (.int .u32 0) := X0.out.b3.cell (c := 4) rfl
  have xaf4 := X0.out.b3.free 4
  have xa5 : W0.cell? ⟨w.heap.size + 1 + 1 + 1, 5, none⟩ = some (.int .u32 0) := X0.out.b3.cell (c := 5) rfl
  have xaf5 := X0.out.b3.free 5
  have xa6 : W0.cell? ⟨w.heap.size + 1 + 1 + 1, 6, none⟩ = some (.int .u32 0) := X0.out.b3.cell (c := 6) rfl
  have xaf6 := X0.out.b3.free 6
  have xa7 : W0.cell? ⟨w.heap.size + 1 + 1 + 1, 7, none⟩ = some (.int .u32 0) := X0.out.b3.cell (c := 7) rfl
  have xaf7 := X0.out.b3.free 7
  have xa8 : W0.cell? ⟨w.heap.size + 1 + 1 + 1, 8, none⟩ = some (.int .u32 0) := X0.out.b3.cell (c := 8) rfl
  have xaf8 := X0.out.b3.free 8
  have xa9 : W0.cell? ⟨w.heap.size + 1 + 1 + 1, 9, none⟩ = some (.int .u32 0) := X0.out.b3.cell (c := 9) rfl
  have xaf9 := X0.out.b3.free 9
  have xa10 : W0.cell? ⟨w.heap.size + 1 + 1 + 1, 10, none⟩ = some (.int .u32 0) := X0.out.b3.cell (c := 10) rfl
  have xaf10 := X0.out.b3.free 10
  have xa11 : W0.cell? ⟨w.heap.size + 1 + 1 + 1, 11, none⟩ = some (.int .u32 0) := X0.out.b3.cell (c := 11) rfl
  have xaf11 := X0.out.b3.free 11
  have xa12 : W0.cell? ⟨w.heap.size + 1 + 1 + 1, 12, none⟩ = some (.int .u32 0) := X0.out.b3.cell (c := 12) rfl
  have xaf12 := X0.out.b3.free 12
  have xa13 : W0.cell? ⟨w.heap.size + 1 + 1 + 1, 13, none⟩ = some (.int .u32 0) := X0.out.b3.cell (c := 13) rfl
  have xaf13 := X0.out.b3.free 13
  have xa14 : W0.cell? ⟨w.heap.size + 1 + 1 + 1, 14, none⟩ = some (.int .u32 0) := X0.out.b3.cell (c := 14) rfl
  have xaf14 := X0.out.b3.free 14
  have xa15 : W0.cell? ⟨w.heap.size + 1 + 1 + 1, 15, none⟩ = some (.int .u32 0) := X0.out.b3.cell (c := 15) rfl
  have xaf15 := X0.out.b3.free 15
  have ya0 : W0.cell? ⟨w.heap.size + 1 + 1 + 1 + 1, 0, none⟩ = some (.int .i64 0) := X0.out.b4.cell (c := 0) rfl
  have yaf0 := X0.out.b4.free 0
  have ya1 : W0.cell? ⟨w.heap.size + 1 + 1 + 1 + 1, 1, none⟩ = some (.int .i64 0) := X0.out.b4.cell (c := 1) rfl
  have yaf1 := X0.out.b4.free 1
  have ya2 : W0.cell? ⟨w.heap.size + 1 + 1 + 1 + 1, 2, none⟩ = some (.bool false) := X0.out.b4.cell (c := 2) rfl
  have yaf2 := X0.out.b4.free 2
  have ya3 : W0.cell? ⟨w.heap.size + 1 + 1 + 1 + 1, 3, none⟩ = some (.bool false) := X0.out.b4.cell (c := 3) rfl
  have yaf3 := X0.out.b4.free 3
  have ya4 : W0.cell? ⟨w.heap.size + 1 + 1 + 1 + 1, 4, none⟩ = some (.bool false) := X0.out.b4.cell (c := 4) rfl
  have yaf4 := X0.out.b4.free 4
  have ya5 : W0.cell? ⟨w.heap.size + 1 + 1 + 1 + 1, 5, none⟩ = some (.int .i64 0) := X0.out.b4.cell (c := 5) rfl
  have yaf5 := X0.out.b4.free 5
  have ya6 : W0.cell? ⟨w.heap.size + 1 + 1 + 1 + 1, 6, none⟩ = some (.int .i64 0) := X0.out.b4.cell (c := 6) rfl
  have yaf6 := X0.out.b4.free 6
  have ya7 : W0.cell? ⟨w.heap.size + 1 + 1 + 1 + 1, 7, none⟩ = some (.int .i64 0) := X0.out.b4.cell (c := 7) rfl
  have yaf7 := X0.out.b4.free 7
  have ya8 : W0.cell? ⟨w.heap.size + 1 + 1 + 1 + 1, 8, none⟩ = some (.int .i64 0) := X0.out.b4.cell (c := 8) rfl
  have yaf8 := X0.out.b4.free 8
  have ya9 : W0.cell? ⟨w.heap.size + 1 + 1 + 1 + 1, 9, none⟩ = some (.int .i64 0) := X0.out.b4.cell (c := 9) rfl
  have yaf9 := X0.out.b4.free 9
  have za0 : W0.cell? ⟨w.heap.size + 1 + 1 + 1 + 1 + 1, 0, none⟩ = some (.int .i64 0) := X0.out.b5.cell (c := 0) rfl
  have zaf0 := X0.out.b5.free 0
  go_region
  obtain ⟨W1, hW1⟩ : ∃ W1, (((((((((((((((((((((((((((W0.setCell ⟨w.heap.size + 1 + 1 + 1, 0, none⟩ (.int .u32 a0)).setCell ⟨w.heap.size + 1 + 1 + 1, 1, none⟩ (.int .u32 a1)).setCell ⟨w.heap.size + 1 + 1 + 1, 2, none⟩ (.int .u32 a2)).setCell ⟨w.heap.size + 1 + 1 + 1, 3, none⟩ (.int .u32 a3)).setCell ⟨w.heap.size + 1 + 1 + 1, 4, none⟩ (.int .u32 a4)).setCell ⟨w.heap.size + 1 + 1 + 1, 5, none⟩ (.int .u32 a5)).setCell ⟨w.heap.size + 1 + 1 + 1, 6, none⟩ (.int .u32 a6)).setCell ⟨w.heap.size + 1 + 1 + 1, 7, none⟩ (.int .u32 a7)).setCell ⟨w.heap.size + 1 + 1 + 1, 8, none⟩ (.int .u32 a8)).setCell ⟨w.heap.size + 1 + 1 + 1, 9, none⟩ (.int .u32 a9)).setCell ⟨w.heap.size + 1 + 1 + 1, 10, none⟩ (.int .u32 a10)).setCell ⟨w.heap.size + 1 + 1 + 1, 11, none⟩ (.int .u32 a11)).setCell ⟨w.heap.size + 1 + 1 + 1, 12, none⟩ (.int .u32 a12)).setCell ⟨w.heap.size + 1 + 1 + 1, 13, none⟩ (.int .u32 a13)).setCell ⟨w.heap.size + 1 + 1 + 1, 14, none⟩ (.int .u32 a14)).setCell ⟨w.heap.size + 1 + 1 + 1, 15, none⟩ (.int .u32 a15)).setCell ⟨w.heap.size + 1 + 1 + 1 + 1, 0, none⟩ (.int .i64 pm)).setCell ⟨w.heap.size + 1 + 1 + 1 + 1, 1, none⟩ (.int .i64 pk)).setCell ⟨w.heap.size + 1 + 1 + 1 + 1, 2, none⟩ (.bool pM)).setCell ⟨w.heap.size + 1 + 1 + 1 + 1, 3, none⟩ (.bool pW)).setCell ⟨w.heap.size + 1 + 1 + 1 + 1, 4, none⟩ (.bool pP)).setCell ⟨w.heap.size + 1 + 1 + 1 + 1, 5, none⟩ (.int .i64 pc)).setCell ⟨w.heap.size + 1 + 1 + 1 + 1, 6, none⟩ (.int .i64 pi)).setCell ⟨w.heap.size + 1 + 1 + 1 + 1, 7, none⟩ (.int .i64 pq)).setCell ⟨w.heap.size + 1 + 1 + 1 + 1, 8, none⟩ (.int .i64 pg)).setCell ⟨w.heap.size + 1 + 1 + 1 + 1, 9, none⟩ (.int .i64 pa)).setCell ⟨w.heap.size + 1 + 1 + 1 + 1 + 1, 0, none⟩ (.int .i64 1)).drew = W1 := ⟨_, rfl⟩
  have X1 := Lib.hid (show XF w (((((((((((((((((((((((((((W0.setCell ⟨w.heap.size + 1 + 1 + 1, 0, none⟩ (.int .u32 a0)).setCell ⟨w.heap.size + 1 + 1 + 1, 1, none⟩ (.int .u32 a1)).setCell ⟨w.heap.size + 1 + 1 + 1, 2, none⟩ (.int .u32 a2)).setCell ⟨w.heap.size + 1 + 1 + 1, 3, none⟩ (.int .u32 a3)).setCell ⟨w.heap.size + 1 + 1 + 1, 4, none⟩ (.int .u32 a4)).setCell ⟨w.heap.size + 1 + 1 + 1, 5, none⟩ (.int .u32 a5)).setCell ⟨w.heap.size + 1 + 1 + 1, 6, none⟩ (.int .u32 a6)).setCell ⟨w.heap.size + 1 + 1 + 1, 7, none⟩ (.int .u32 a7)).setCell ⟨w.heap.size + 1 + 1 + 1, 8, none⟩ (.int .u32 a8)).setCell ⟨w.heap.size + 1 + 1 + 1, 9, none⟩ (.int .u32 a9)).setCell ⟨w.heap.size + 1 + 1 + 1, 10, none⟩ (.int .u32 a10)).setCell ⟨w.heap.size + 1 + 1 + 1, 11, none⟩ (.int .u32 a11)).setCell ⟨w.heap.size + 1 + 1 + 1, 12, none⟩ (.int .u32 a12)).setCell ⟨w.heap.size + 1 + 1 + 1, 13, none⟩ (.int .u32 a13)).setCell ⟨w.heap.size + 1 + 1 + 1, 14, none⟩ (.int .u32 a14)).setCell ⟨w.heap.size + 1 + 1 + 1, 15, none⟩ (.int .u32 a15)).setCell ⟨w.heap.size + 1 + 1 + 1 + 1, 0, none⟩ (.int .i64 pm)).setCell ⟨w.heap.size + 1 + 1 + 1 + 1, 1, none⟩ (.int .i64 pk)).setCell ⟨w.heap.size + 1 + 1 + 1 + 1, 2, none⟩ (.bool pM)).setCell ⟨w.heap.size + 1 + 1 + 1 + 1, 3, none⟩ (.bool pW)).setCell ⟨w.heap.size + 1 + 1 + 1 + 1, 4, none⟩ (.bool pP)).setCell ⟨w.heap.size + 1 + 1 + 1 + 1, 5, none⟩ (.int .i64 pc)).setCell ⟨w.heap.size + 1 + 1 + 1 + 1, 6, none⟩ (.int .i64 pi)).setCell ⟨w.heap.size + 1 + 1 + 1 + 1, 7, none⟩ (.int .i64 pq)).setCell ⟨w.heap.size + 1 + 1 + 1 + 1, 8, none⟩ (.int .i64 pg)).setCell ⟨w.heap.size + 1 + 1 + 1 + 1, 9, none⟩ (.int .i64 pa)).setCell ⟨w.heap.size + 1 + 1 + 1 + 1 + 1, 0, none⟩ (.int .i64 1)).drew [] [op, fm, r1, r2, x2, b1, d1, b2, d2, l1, l2, i2] [a0, a1, a2, a3, a4, a5, a6, a7, a8, a9, a10, a11, a12, a13, a14, a15] [.int .i64 pm, .int .i64 pk, .bool pM, .bool pW, .bool pP, .int .i64 pc, .int .i64 pi, .int .i64 pq, .int .i64 pg, .int .i64 pa] [.int .u32 a0, .int .u32 a1, .int .u32 a2, .int .u32 a3, .int .u32 a4, .int .u32 a5, .int .u32 a6, .int .u32 a7, .int .u32 a8, .int .u32 a9, .int .u32 a10, .int .u32 a11, .int .u32 a12, .int .u32 a13, .int .u32 a14, .int .u32 a15] [.int .i64 pm, .int .i64 pk, .bool pM, .bool pW, .bool pP, .int .i64 pc, .int .i64 pi, .int .i64 pq, .int .i64 pg, .int .i64 pa] (.int .i64 1) from (X0.out.give rfl rfl (.int .u32 a0) (.int .u32 a1) (.int .u32 a2) (.int .u32 a3) (.int .u32 a4) (.int .u32 a5) (.int .u32 a6) (.int .u32 a7) (.int .u32 a8) (.int .u32 a9) (.int .u32 a10) (.int .u32 a11) (.int .u32 a12) (.int .u32 a13) (.int .u32 a14) (.int .u32 a15) (.int .i64 pm) (.int .i64 pk) (.bool pM) (.bool pW) (.bool pP) (.int .i64 pc) (.int .i64 pi) (.int .i64 pq) (.int .i64 pg) (.int .i64 pa) (.int .i64 1)).drewN 1)
  rw [hW1] at X1
  rw [hW1]
  clear hW1 X0 ca0 ca1 ca2 ca3 ca4 ca5 ca6 ca7 ca8 ca9 ca10 ca11 ca12 ca13 ca14 ca15 da0 da1 da2 da3 da4 da5 da6 da7 da8 da9 xa0 xaf0 xa1 xaf1 xa2 xaf2 xa3 xaf3 xa4 xaf4 xa5 xaf5 xa6 xaf6 xa7 xaf7 xa8 xaf8 xa9 xaf9 xa10 xaf10 xa11 xaf11 xa12 xaf12 xa13 xaf13 xa14 xaf14 xa15 xaf15 ya0 yaf0 ya1 yaf1 ya2 yaf2 ya3 yaf3 ya4 yaf4 ya5 yaf5 ya6 yaf6 ya7 yaf7 ya8 yaf8 ya9 yaf9 za0 zaf0
  go_wp2
  have c5 := X1.out.b5.cell (c := 0) rfl
  exact ⟨_, res_cells3 Try.results14 _ _ _ _ _ _ _ _ rfl rfl rfl X1.out.b3 X1.out.b4 X1.out.b5 Try.underlying28 rfl (by kernel_rfl) Try.underlying30 rfl (by kernel_rfl) (by go_simp), rfl, X1.out.be.below (Nat.le_refl _) (by simp)⟩
end Go.Proofs.Ythjdjbipfdigeaa
