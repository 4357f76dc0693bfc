/- Contracts and laws on the way to the statement, text 19 of 24. Conditions: as each states them. -/
import Derived.Test.YthjdjbipfdigeaaGreatRu1
import Derived.Test.YthjdjbipfdigeaaGreatRu2
import Derived.Test.YthjdjbipfdigeaaGreatRu3
import Derived.Test.YthjdjbipfdigeaaGreatRu5
import Derived.Test.YthjdjbipfdigeaaGreatRu7
import Derived.Test.YthjdjbipfdigeaaGreatRu16
import Derived.BigFrame
import Derived.WalkKit
import Derived.Below
import Derived.OwnWalk
import Derived.IntWalk
import Derived.Handy
namespace Go.Proofs.YthjdjbipfdigeaaGreat
open Go.RowKit
set_option maxRecDepth 100000
set_option linter.unusedVariables false
set_option linter.unusedSimpArgs false
section
variable {w0 w : World} {g : Nat} {G : Foot} {I : In} {os rs : List Int} {p q : Ps} {c : Int} {bs ks : List Int}
/-- what Exec answers -/
def Rx (w : World) (G : Foot) (os : List Int) (p : Ps) (bs ks : List Int) (o : Out) (e : Ending) (w' : World) : Prop :=
  (o.c ≠ 0 → e = .returned (.tuple #[agR os, .agg p.v.toArray, .int .i64 o.c]) ∧ St 70 w' G bs ks ∧ Ch w w' []) ∧
  (o.c = 0 → ∃ G' : Foot, G'.g = G.g ∧ w.heap.size ≤ G'.gb ∧ w.heap.size ≤ G'.gk ∧ e = .returned (.tuple #[agR o.rs, .agg (p.to o.cc o.pg o.ad).v.toArray, .int .i64 (if o.ov = true ∧ 8 ≤ p.pg then 8 else 0)]) ∧ St 70 w' G' o.bs ks ∧ Ch w w' [G.g])
theorem sCode_ne8 (al : Int → Bool) (N : Nat) (ks : List Int) (a n : Int) : sCode al N ks a n ≠ 8 := by unfold sCode; (repeat' split) <;> decide
theorem wr_ne8 (p : Pre) (a n : Int) (ys : List Int) (cc : Int) : (p.wr a n ys cc).c ≠ 8 := by
  unfold Pre.wr; split
  · show (0 : Int) ≠ 8; decide
  · exact sCode_ne8 _ _ _ _ _
theorem ite_ne8 {P : Prop} [Decidable P] {a b : Out} (ha : a.c ≠ 8) (hb : b.c ≠ 8) : (if P then a else b).c ≠ 8 := by split <;> assumption
theorem trE_ne8 (bs ks xs : List Int) (key b : Int) : ∀ n, trE bs ks xs key b n ≠ 8
  | 0 => by show (0 : Int) ≠ 8; decide
  | n + 1 => by
    show (if trE bs ks xs key b n = 0 then _ else _) ≠ 8
    split
    · exact sCode_ne8 _ _ _ _ _
    · exact trE_ne8 bs ks xs key b n
theorem scn_ne8 (bs ks : List Int) (key a b : Int) : ∀ m k, (scn bs ks key a b m k).1 ≠ 8
  | 0, k => by show (0 : Int) ≠ 8; decide
  | m + 1, k => by
    unfold scn
    (repeat' split) <;> first | exact scn_ne8 bs ks key a b m (k + 1) | exact sCode_ne8 _ _ _ _ _ | (show (0 : Int) ≠ 8; decide)
set_option maxHeartbeats 8000000 in
theorem exO_ne8 (p : Pre) (op fm : Int) (n k : Nat) (a1 a : Int) (l1 : Nat) (i2 : Int) : (exO p op fm n k a1 a l1 i2).c ≠ 8 := by
  have z0 : (0 : Int) ≠ 8 := by decide
  have z6 : (6 : Int) ≠ 8 := by decide
  have z9 : (9 : Int) ≠ 8 := by decide
  have hf : ∀ a n, p.fc a n ≠ 8 := fun a n => sCode_ne8 _ _ _ _ _
  have hc : opC op fm p.bs p.ks p.key a ≠ 8 := by unfold opC; (repeat' split) <;> first | exact sCode_ne8 _ _ _ _ _ | decide
  unfold exO
  split
  · unfold brO; (repeat' split) <;> exact z0
  split
  · unfold shO; (repeat' split) <;> first | exact z6 | exact z0
  split
  · exact z0
  split
  · unfold mvO; (repeat' split) <;> first | exact wr_ne8 _ _ _ _ _ | exact z6 | exact z0 | exact hf _ _
  split
  · unfold imO; (repeat' split) <;> first | exact wr_ne8 _ _ _ _ _ | exact z0 | exact hf _ _
  split
  · unfold loO
    split
    · have h := scn_ne8 p.bs p.ks p.key a1 a (l1 + 1) 0
      generalize scn p.bs p.ks p.key a1 a (l1 + 1) 0 = r at h ⊢
      obtain ⟨c, o⟩ := r
      show (if c = 0 then _ else _ : Out).c ≠ 8
      split
      · exact z0
      · exact h
    · (repeat' split) <;> first | exact wr_ne8 _ _ _ _ _ | exact z0 | exact hf _ _ | exact trE_ne8 _ _ _ _ _ _
  · unfold arO; (repeat' refine ite_ne8 ?_ ?_) <;> first | exact z6 | exact z9 | exact z0 | exact hc
theorem Bk_of {w : World} {g : Nat} {T : TypeId} {cs : List Value} (h : w.heap[g]? = some (.cells cs.toArray T (0, 0))) : Bk w g T cs := h
theorem XE.ch_ {z r zp a b : List Value} {w' : World} {g gb : Nat} (h : XE w0 w G bs ks z r zp a b) (hc : Ch w w' [g, gb]) (hg : w0.heap.size + 1 + 1 + 1 + 1 < g) (hb : w0.heap.size + 1 + 1 + 1 + 1 < gb) : XE w0 w' G bs ks z r zp a b := by
  have h5 := h.gs
  refine ⟨h.z.ch hc (by simp; omega), h.r.ch hc (by simp; omega), h.p.ch hc (by simp; omega), h.a.ch hc (by simp; omega), h.b.ch hc (by simp; omega), h.st.keep (hc.kept h.st.ltg (by simp; omega)) (hc.kept h.st.ltb (by simp; omega)) (hc.kept h.st.ltk (by simp; omega)), ?_, h.gs⟩
  exact ⟨hc.os.trans h.ch.os, hc.tape.trans h.ch.tape, hc.output.trans h.ch.output, Nat.le_trans h.ch.size hc.size, fun i hi _ => (hc.block i (Nat.lt_of_lt_of_le hi h.ch.size) (by simp; omega)).trans (h.ch.block i hi (by simp))⟩
theorem rc_rowR {s : Value} (hm : Bk w g 67 (rcC I os rs p q s c)) (h1 : os.length = 16) (h2 : rs.length = 16) : w.rangeAt g 28 (rs.map (Value.int .u32)) := by
  unfold rcC at hm
  rw [← List.append_assoc] at hm
  have hk := Bk.mid hm
  rw [List.length_append, List.length_map, h1] at hk
  exact hk
theorem rc_rowQ {s : Value} (hm : Bk w g 67 (rcC I os rs p q s c)) (h1 : os.length = 16) (h2 : rs.length = 16) : w.rangeAt g 54 q.v := by
  unfold rcC at hm
  rw [← List.append_assoc, ← List.append_assoc, ← List.append_assoc] at hm
  have hk := Bk.mid hm
  rw [List.length_append, List.length_append, List.length_append, List.length_map, List.length_map, h1, h2] at hk
  exact hk
theorem rc65 {s : Value} (hm : Bk w g 67 (rcC I os rs p q s c)) (h1 : os.length = 16) (h2 : rs.length = 16) : w.cell? ⟨g, 65, none⟩ = some (.int .i64 c) := by
  refine hm.cell ?_
  unfold rcC
  rw [List.getElem?_append_right (by simp [In.v]), List.getElem?_append_right (by simp [In.v]; omega), List.getElem?_append_right (by simp [In.v]; omega), List.getElem?_append_right (by simp [In.v, Ps.v]; omega), List.getElem?_append_right (by simp [In.v, Ps.v]; omega)]
  simp [In.v, Ps.v, h1, h2]
/-- where the storage's header has been replaced -/
structure XR (w0 w : World) (G : Foot) (bs ks : List Int) (g : Nat) (m a b : List Value) : Prop where
  m : Bk w g 67 m
  a : Bk w (w0.heap.size + 1 + 1 + 1) 26 a
  b : Bk w (w0.heap.size + 1 + 1 + 1 + 1) 28 b
  st : St 70 w G bs ks
  ch : Ch w0 w [G.g]
  n : w0.heap.size + 1 + 1 + 1 + 1 < g ∧ G.g < w0.heap.size ∧ w0.heap.size + 1 + 1 + 1 + 1 < G.gb ∧ w0.heap.size + 1 + 1 + 1 + 1 < G.gk
section
variable {m a b : List Value}
theorem XR.drew (h : XR w0 w G bs ks g m a b) : XR w0 w.drew G bs ks g m a b := ⟨h.m.drewN 1, h.a.drewN 1, h.b.drewN 1, h.st.drewN 1, h.ch.drewN 1, h.n⟩
theorem XR.seta (h : XR w0 w G bs ks g m a b) (a' : List Value) : XR w0 (w.setRow (w0.heap.size + 1 + 1 + 1) a'.toArray) G bs ks g m a' b := by
  have := h.n
  exact ⟨h.m.rowOth (by omega) _, h.a.rowSet _, h.b.rowOth (by omega) _, h.st.rowOth (by omega) (by omega) (by omega) _, h.ch.row (.inr (by omega)) _, h.n⟩
theorem XR.setb (h : XR w0 w G bs ks g m a b) (b' : List Value) : XR w0 (w.setRow (w0.heap.size + 1 + 1 + 1 + 1) b'.toArray) G bs ks g m a b' := by
  have := h.n
  exact ⟨h.m.rowOth (by omega) _, h.a.rowOth (by omega) _, h.b.rowSet _, h.st.rowOth (by omega) (by omega) (by omega) _, h.ch.row (.inr (by omega)) _, h.n⟩
theorem XR.start {w3 : World} {Gc : Foot} {z r zp : List Value} {bs' : List Int} (h : RS w3 w g Gc I os rs p q c bs' ks) (x : XE w0 w G bs ks z r zp a b) (hg : w0.heap.size + 1 + 1 + 1 + 1 < g) (h1 : w0.heap.size + 1 + 1 + 1 + 1 < Gc.gb) (h2 : w0.heap.size + 1 + 1 + 1 + 1 < Gc.gk) : XR w0 ((w.setCell ⟨G.g, 0, none⟩ (.slice (some ⟨Gc.gb, 0, none⟩) bs'.length Gc.cb)).setCell ⟨G.g, 1, none⟩ (.slice (some ⟨Gc.gk, 0, none⟩) ks.length Gc.ck)) ⟨G.g, Gc.gb, Gc.gk, Gc.cb, Gc.ck⟩ bs' ks g (rcC I os rs p q (.pointer (some ⟨Gc.g, 0, none⟩)) c) a b := by
  have hs := x.gs
  have hh : ∀ k, k ≠ G.g → ((w.setCell ⟨G.g, 0, none⟩ (.slice (some ⟨Gc.gb, 0, none⟩) bs'.length Gc.cb)).setCell ⟨G.g, 1, none⟩ (.slice (some ⟨Gc.gk, 0, none⟩) ks.length Gc.ck)).heap[k]? = w.heap[k]? := fun k hk => (Below.heap_setCell _ ⟨G.g, 1, none⟩ _ k hk).trans (Below.heap_setCell w ⟨G.g, 0, none⟩ _ k hk)
  exact ⟨h.m.kept (hh _ (by omega)), x.a.kept (hh _ (by omega)), x.b.kept (hh _ (by omega)), ⟨((Bk_of x.st.hd).set_ 0 _).set_ 1 _, h.st.b.keep (hh _ (by omega)), h.st.k.keep (hh _ (by omega)), h.st.rb, h.st.rk, h.st.ln, h.st.l0, h.st.l1⟩, ((x.ch.mono (by simp)).setCell (by simp) _).setCell (by simp) _, hg, hs.1, h1, h2⟩
end
theorem kn_dom : ∀ op ∈ knL, op = 4 ∨ (5 ≤ op ∧ op ≤ 7) ∨ (69 ≤ op ∧ op ≤ 71) ∨ (134 ≤ op ∧ op ≤ 135) ∨ (136 ≤ op ∧ op ≤ 143) ∨ (145 ≤ op ∧ op ≤ 151) ∨ (op = 209 ∨ op = 210 ∨ op = 211 ∨ op = 212 ∨ op = 213 ∨ op = 214 ∨ op = 215 ∨ op = 220 ∨ op = 221) ∨ op = 64 ∨ op = 65 ∨ op = 66 ∨ op = 67 ∨ op = 80 ∨ op = 144 ∨ op = 152 ∨ (16 ≤ op ∧ op ≤ 31) ∨ (72 ≤ op ∧ op ≤ 76) ∨ (84 ≤ op ∧ op ≤ 95) := by decide +kernel
theorem kn_grps (op : Int) (h : op ∈ knL) : (op = 4 ∧ ¬ op ≥ 134 ∧ op ≤ 135 ∧ (op == 4) = true ∧ ¬ op ≥ 5 ∧ op ≤ 7 ∧ ¬ op ≥ 69 ∧ op ≤ 71 ∧ ¬ op ≥ 136 ∧ op ≤ 143 ∧ ¬ op ≥ 145 ∧ op ≤ 151 ∧ ¬ op ≥ 209 ∧ (op == 64) = false ∧ (op == 65) = false ∧ (op == 66) = false ∧ (op == 67) = false ∧ (op == 80) = false ∧ (op == 144) = false ∧ (op == 152) = false) ∨ ((5 ≤ op ∧ op ≤ 7) ∧ ¬ op ≥ 134 ∧ op ≤ 135 ∧ (op == 4) = false ∧ op ≥ 5 ∧ op ≤ 7 ∧ ¬ op ≥ 69 ∧ op ≤ 71 ∧ ¬ op ≥ 136 ∧ op ≤ 143 ∧ ¬ op ≥ 145 ∧ op ≤ 151 ∧ ¬ op ≥ 209 ∧ (op == 64) = false ∧ (op == 65) = false ∧ (op == 66) = false ∧ (op == 67) = false ∧ (op == 80) = false ∧ (op == 144) = false ∧ (op == 152) = false) ∨ ((69 ≤ op ∧ op ≤ 71) ∧ ¬ op ≥ 134 ∧ op ≤ 135 ∧ (op == 4) = false ∧ op ≥ 5 ∧ ¬ op ≤ 7 ∧ op ≥ 69 ∧ op ≤ 71 ∧ ¬ op ≥ 136 ∧ op ≤ 143 ∧ ¬ op ≥ 145 ∧ op ≤ 151 ∧ ¬ op ≥ 209 ∧ (op == 64) = false ∧ (op == 65) = false ∧ (op == 66) = false ∧ (op == 67) = false ∧ (op == 80) = false ∧ (op == 144) = false ∧ (op == 152) = false) ∨ ((134 ≤ op ∧ op ≤ 135) ∧ op ≥ 134 ∧ op ≤ 135 ∧ (op == 4) = false ∧ op ≥ 5 ∧ ¬ op ≤ 7 ∧ op ≥ 69 ∧ ¬ op ≤ 71 ∧ ¬ op ≥ 136 ∧ op ≤ 143 ∧ ¬ op ≥ 145 ∧ op ≤ 151 ∧ ¬ op ≥ 209 ∧ (op == 64) = false ∧ (op == 65) = false ∧ (op == 66) = false ∧ (op == 67) = false ∧ (op == 80) = false ∧ (op == 144) = false ∧ (op == 152) = false) ∨ ((136 ≤ op ∧ op ≤ 143) ∧ op ≥ 134 ∧ ¬ op ≤ 135 ∧ (op == 4) = false ∧ op ≥ 5 ∧ ¬ op ≤ 7 ∧ op ≥ 69 ∧ ¬ op ≤ 71 ∧ op ≥ 136 ∧ op ≤ 143 ∧ ¬ op ≥ 145 ∧ op ≤ 151 ∧ ¬ op ≥ 209 ∧ (op == 64) = false ∧ (op == 65) = false ∧ (op == 66) = false ∧ (op == 67) = false ∧ (op == 80) = false ∧ (op == 144) = false ∧ (op == 152) = false) ∨ ((145 ≤ op ∧ op ≤ 151) ∧ op ≥ 134 ∧ ¬ op ≤ 135 ∧ (op == 4) = false ∧ op ≥ 5 ∧ ¬ op ≤ 7 ∧ op ≥ 69 ∧ ¬ op ≤ 71 ∧ op ≥ 136 ∧ ¬ op ≤ 143 ∧ op ≥ 145 ∧ op ≤ 151 ∧ ¬ op ≥ 209 ∧ (op == 64) = false ∧ (op == 65) = false ∧ (op == 66) = false ∧ (op == 67) = false ∧ (op == 80) = false ∧ (op == 144) = false ∧ (op == 152) = false) ∨ ((op = 209 ∨ op = 210 ∨ op = 211 ∨ op = 212 ∨ op = 213 ∨ op = 214 ∨ op = 215 ∨ op = 220 ∨ op = 221) ∧ op ≥ 134 ∧ ¬ op ≤ 135 ∧ (op == 4) = false ∧ op ≥ 5 ∧ ¬ op ≤ 7 ∧ op ≥ 69 ∧ ¬ op ≤ 71 ∧ op ≥ 136 ∧ ¬ op ≤ 143 ∧ op ≥ 145 ∧ ¬ op ≤ 151 ∧ op ≥ 209 ∧ (op == 64) = false ∧ (op == 65) = false ∧ (op == 66) = false ∧ (op == 67) = false ∧ (op == 80) = false ∧ (op == 144) = false ∧ (op == 152) = false) ∨ (op = 64 ∧ ¬ op ≥ 134 ∧ op ≤ 135 ∧ (op == 4) = false ∧ op ≥ 5 ∧ ¬ op ≤ 7 ∧ ¬ op ≥ 69 ∧ op ≤ 71 ∧ ¬ op ≥ 136 ∧ op ≤ 143 ∧ ¬ op ≥ 145 ∧ op ≤ 151 ∧ ¬ op ≥ 209 ∧ (op == 64) = true ∧ (op == 65) = false ∧ (op == 66) = false ∧ (op == 67) = false ∧ (op == 80) = false ∧ (op == 144) = false ∧ (op == 152) = false) ∨ (op = 65 ∧ ¬ op ≥ 134 ∧ op ≤ 135 ∧ (op == 4) = false ∧ op ≥ 5 ∧ ¬ op ≤ 7 ∧ ¬ op ≥ 69 ∧ op ≤ 71 ∧ ¬ op ≥ 136 ∧ op ≤ 143 ∧ ¬ op ≥ 145 ∧ op ≤ 151 ∧ ¬ op ≥ 209 ∧ (op == 64) = false ∧ (op == 65) = true ∧ (op == 66) = false ∧ (op == 67) = false ∧ (op == 80) = false ∧ (op == 144) = false ∧ (op == 152) = false) ∨ (op = 66 ∧ ¬ op ≥ 134 ∧ op ≤ 135 ∧ (op == 4) = false ∧ op ≥ 5 ∧ ¬ op ≤ 7 ∧ ¬ op ≥ 69 ∧ op ≤ 71 ∧ ¬ op ≥ 136 ∧ op ≤ 143 ∧ ¬ op ≥ 145 ∧ op ≤ 151 ∧ ¬ op ≥ 209 ∧ (op == 64) = false ∧ (op == 65) = false ∧ (op == 66) = true ∧ (op == 67) = false ∧ (op == 80) = false ∧ (op == 144) = false ∧ (op == 152) = false) ∨ (op = 67 ∧ ¬ op ≥ 134 ∧ op ≤ 135 ∧ (op == 4) = false ∧ op ≥ 5 ∧ ¬ op ≤ 7 ∧ ¬ op ≥ 69 ∧ op ≤ 71 ∧ ¬ op ≥ 136 ∧ op ≤ 143 ∧ ¬ op ≥ 145 ∧ op ≤ 151 ∧ ¬ op ≥ 209 ∧ (op == 64) = false ∧ (op == 65) = false ∧ (op == 66) = false ∧ (op == 67) = true ∧ (op == 80) = false ∧ (op == 144) = false ∧ (op == 152) = false) ∨ (op = 80 ∧ ¬ op ≥ 134 ∧ op ≤ 135 ∧ (op == 4) = false ∧ op ≥ 5 ∧ ¬ op ≤ 7 ∧ op ≥ 69 ∧ ¬ op ≤ 71 ∧ ¬ op ≥ 136 ∧ op ≤ 143 ∧ ¬ op ≥ 145 ∧ op ≤ 151 ∧ ¬ op ≥ 209 ∧ (op == 64) = false ∧ (op == 65) = false ∧ (op == 66) = false ∧ (op == 67) = false ∧ (op == 80) = true ∧ (op == 144) = false ∧ (op == 152) = false) ∨ (op = 144 ∧ op ≥ 134 ∧ ¬ op ≤ 135 ∧ (op == 4) = false ∧ op ≥ 5 ∧ ¬ op ≤ 7 ∧ op ≥ 69 ∧ ¬ op ≤ 71 ∧ op ≥ 136 ∧ ¬ op ≤ 143 ∧ ¬ op ≥ 145 ∧ op ≤ 151 ∧ ¬ op ≥ 209 ∧ (op == 64) = false ∧ (op == 65) = false ∧ (op == 66) = false ∧ (op == 67) = false ∧ (op == 80) = false ∧ (op == 144) = true ∧ (op == 152) = false) ∨ (op = 152 ∧ op ≥ 134 ∧ ¬ op ≤ 135 ∧ (op == 4) = false ∧ op ≥ 5 ∧ ¬ op ≤ 7 ∧ op ≥ 69 ∧ ¬ op ≤ 71 ∧ op ≥ 136 ∧ ¬ op ≤ 143 ∧ op ≥ 145 ∧ ¬ op ≤ 151 ∧ ¬ op ≥ 209 ∧ (op == 64) = false ∧ (op == 65) = false ∧ (op == 66) = false ∧ (op == 67) = false ∧ (op == 80) = false ∧ (op == 144) = false ∧ (op == 152) = true) ∨ ((16 ≤ op ∧ op ≤ 31) ∧ ¬ op ≥ 134 ∧ op ≤ 135 ∧ (op == 4) = false ∧ op ≥ 5 ∧ ¬ op ≤ 7 ∧ ¬ op ≥ 69 ∧ op ≤ 71 ∧ ¬ op ≥ 136 ∧ op ≤ 143 ∧ ¬ op ≥ 145 ∧ op ≤ 151 ∧ ¬ op ≥ 209 ∧ (op == 64) = false ∧ (op == 65) = false ∧ (op == 66) = false ∧ (op == 67) = false ∧ (op == 80) = false ∧ (op == 144) = false ∧ (op == 152) = false) ∨ ((72 ≤ op ∧ op ≤ 76) ∧ ¬ op ≥ 134 ∧ op ≤ 135 ∧ (op == 4) = false ∧ op ≥ 5 ∧ ¬ op ≤ 7 ∧ op ≥ 69 ∧ ¬ op ≤ 71 ∧ ¬ op ≥ 136 ∧ op ≤ 143 ∧ ¬ op ≥ 145 ∧ op ≤ 151 ∧ ¬ op ≥ 209 ∧ (op == 64) = false ∧ (op == 65) = false ∧ (op == 66) = false ∧ (op == 67) = false ∧ (op == 80) = false ∧ (op == 144) = false ∧ (op == 152) = false) ∨ ((84 ≤ op ∧ op ≤ 95) ∧ ¬ op ≥ 134 ∧ op ≤ 135 ∧ (op == 4) = false ∧ op ≥ 5 ∧ ¬ op ≤ 7 ∧ op ≥ 69 ∧ ¬ op ≤ 71 ∧ ¬ op ≥ 136 ∧ op ≤ 143 ∧ ¬ op ≥ 145 ∧ op ≤ 151 ∧ ¬ op ≥ 209 ∧ (op == 64) = false ∧ (op == 65) = false ∧ (op == 66) = false ∧ (op == 67) = false ∧ (op == 80) = false ∧ (op == 144) = false ∧ (op == 152) = false) := by
  rcases kn_dom op h with hg | hg | hg | hg | hg | hg | hg | hg | hg | hg | hg | hg | hg | hg | hg | hg | hg
  · left
    refine ⟨hg, ?_, ?_, ?_, ?_, ?_, ?_, ?_, ?_, ?_, ?_, ?_, ?_, ?_, ?_, ?_, ?_, ?_, ?_, ?_⟩ <;> first | omega | (simp; omega)
  · iterate 1 right
    left
    refine ⟨hg, ?_, ?_, ?_, ?_, ?_, ?_, ?_, ?_, ?_, ?_, ?_, ?_, ?_, ?_, ?_, ?_, ?_, ?_, ?_⟩ <;> first | omega | (simp; omega)
  · iterate 2 right
    left
    refine ⟨hg, ?_, ?_, ?_, ?_, ?_, ?_, ?_, ?_, ?_, ?_, ?_, ?_, ?_, ?_, ?_, ?_, ?_, ?_, ?_⟩ <;> first | omega | (simp; omega)
  · iterate 3 right
    left
    refine ⟨hg, ?_, ?_, ?_, ?_, ?_, ?_, ?_, ?_, ?_, ?_, ?_, ?_, ?_, ?_, ?_, ?_, ?_, ?_, ?_⟩ <;> first | omega | (simp; omega)
  · iterate 4 right
    left
    refine ⟨hg, ?_, ?_, ?_, ?_, ?_, ?_, ?_, ?_, ?_, ?_, ?_, ?_, ?_, ?_, ?_, ?_, ?_, ?_, ?_⟩ <;> first | omega | (simp; omega)
  · iterate 5 right
    left
    refine ⟨hg, ?_, ?_, ?_, ?_, ?_, ?_, ?_, ?_, ?_, ?_, ?_, ?_, ?_, ?_, ?_, ?_, ?_, ?_, ?_⟩ <;> first | omega | (simp; omega)
  · iterate 6 right
    left
    refine ⟨hg, ?_, ?_, ?_, ?_, ?_, ?_, ?_, ?_, ?_, ?_, ?_, ?_, ?_, ?_, ?_, ?_, ?_, ?_, ?_⟩ <;> first | omega | (simp; omega)
  · iterate 7 right
    left
    refine ⟨hg, ?_, ?_, ?_, ?_, ?_, ?_, ?_, ?_, ?_, ?_, ?_, ?_, ?_, ?_, ?_, ?_, ?_, ?_, ?_⟩ <;> first | omega | (simp; omega)
  · iterate 8 right
    left
    refine ⟨hg, ?_, ?_, ?_, ?_, ?_, ?_, ?_, ?_, ?_, ?_, ?_, ?_, ?_, ?_, ?_, ?_, ?_, ?_, ?_⟩ <;> first | omega | (simp; omega)
  · iterate 9 right
    left
    refine ⟨hg, ?_, ?_, ?_, ?_, ?_, ?_, ?_, ?_, ?_, ?_, ?_, ?_, ?_, ?_, ?_, ?_, ?_, ?_, ?_⟩ <;> first | omega | (simp; omega)
  · iterate 10 right
    left
    refine ⟨hg, ?_, ?_, ?_, ?_, ?_, ?_, ?_, ?_, ?_, ?_, ?_, ?_, ?_, ?_, ?_, ?_, ?_, ?_, ?_⟩ <;> first | omega | (simp; omega)
  · iterate 11 right
    left
    refine ⟨hg, ?_, ?_, ?_, ?_, ?_, ?_, ?_, ?_, ?_, ?_, ?_, ?_, ?_, ?_, ?_, ?_, ?_, ?_, ?_⟩ <;> first | omega | (simp; omega)
  · iterate 12 right
    left
    refine ⟨hg, ?_, ?_, ?_, ?_, ?_, ?_, ?_, ?_, ?_, ?_, ?_, ?_, ?_, ?_, ?_, ?_, ?_, ?_, ?_⟩ <;> first | omega | (simp; omega)
  · iterate 13 right
    left
    refine ⟨hg, ?_, ?_, ?_, ?_, ?_, ?_, ?_, ?_, ?_, ?_, ?_, ?_, ?_, ?_, ?_, ?_, ?_, ?_, ?_⟩ <;> first | omega | (simp; omega)
  · iterate 14 right
    left
    refine ⟨hg, ?_, ?_, ?_, ?_, ?_, ?_, ?_, ?_, ?_, ?_, ?_, ?_, ?_, ?_, ?_, ?_, ?_, ?_, ?_⟩ <;> first | omega | (simp; omega)
  · iterate 15 right
    left
    refine ⟨hg, ?_, ?_, ?_, ?_, ?_, ?_, ?_, ?_, ?_, ?_, ?_, ?_, ?_, ?_, ?_, ?_, ?_, ?_, ?_⟩ <;> first | omega | (simp; omega)
  · iterate 16 right
    refine ⟨hg, ?_, ?_, ?_, ?_, ?_, ?_, ?_, ?_, ?_, ?_, ?_, ?_, ?_, ?_, ?_, ?_, ?_, ?_, ?_⟩ <;> first | omega | (simp; omega)
set_option maxRecDepth 1000000 in
set_option maxHeartbeats 8000000 in
theorem rexec_ok (hl : os.length = 16) (ro : ∀ z ∈ os, 0 ≤ z ∧ z ≤ 4294967295) (hi : I.ok) (hp : p.ok) (h : St 70 w G bs ks) (hck : ∀ W, Calls Tryz.prog 22 #[.agg #[.int .i64 I.op, .int .i64 I.fm, .int .i64 (I.n : Int), .int .i64 (I.k : Int), .int .i64 (I.x : Int), .int .i64 (I.b : Int), .int .i64 I.d, .int .i64 (I.b' : Int), .int .i64 I.d', .int .i64 (I.l : Int), .int .i64 I.l', .int .i64 I.i]] W fun e w' => e = .returned (.int .i64 (chk I.op I.fm [I.op, I.fm, I.n, I.k, I.x, I.b, I.d, I.b', I.d', I.l, I.l', I.i])) ∧ Below W.heap.size W w') (h1 : kn I.op = true) (h2 : chk I.op I.fm [I.op, I.fm, I.n, I.k, I.x, I.b, I.d, I.b', I.d', I.l, I.l', I.i] = 0) (h3 : pok p.m p.key p.cd p.il p.cc p.pg p.ad = true) (hf : I.fm = fmOf I.op) {o : Out} (ho : exO ⟨os, p.key, p.il, p.cc, p.pg, p.ad, bs, ks⟩ I.op I.fm I.n I.k (I.a1 os) (I.a os) I.l I.i = o) : Calls Tryz.prog 8 #[.agg #[.int .i64 I.op, .int .i64 I.fm, .int .i64 (I.n : Int), .int .i64 (I.k : Int), .int .i64 (I.x : Int), .int .i64 (I.b : Int), .int .i64 I.d, .int .i64 (I.b' : Int), .int .i64 I.d', .int .i64 (I.l : Int), .int .i64 I.l', .int .i64 I.i], agR os, .agg p.v.toArray, .pointer (some ⟨G.g, 0, none⟩)] w (Rx w G os p bs ks o) := by
  rw [h2] at hck
  have CK := Lib.hid hck
  have X0 := Lib.hid (XE.start h)
  have HL := Lib.hid hl
  have RO := Lib.hid ro
  have HI := Lib.hid hi
  have HP := Lib.hid hp
  have HO := Lib.hid ho
  have HF := Lib.hid hf
  have H1 := Lib.hid h1
  obtain ⟨a0, a1, a2, a3, a4, a5, a6, a7, a8, a9, a10, a11, a12, a13, a14, a15, rfl⟩ := list_16 hl
  unfold agR
  clear hck h h2 hl ro hi hp ho hf
  go_enter Tryz.func8, Tryz.ntmps8
  go_upto_region 1 with fail
  have X1 := Lib.hid (X0.out [.int .i64 I.op, .int .i64 I.fm, .int .i64 (I.n : Int), .int .i64 (I.k : Int), .int .i64 (I.x : Int), .int .i64 (I.b : Int), .int .i64 I.d, .int .i64 (I.b' : Int), .int .i64 I.d', .int .i64 (I.l : Int), .int .i64 I.l', .int .i64 I.i] ([a0, a1, a2, a3, a4, a5, a6, a7, a8, a9, a10, a11, a12, a13, a14, a15].map (Value.int .u32)) p.v [.int .u32 0, .int .u32 0, .int .u32 0, .int .u32 0, .int .u32 0, .int .u32 0, .int .u32 0, .int .u32 0, .int .u32 0, .int .u32 0, .int .u32 0, .int .u32 0, .int .u32 0, .int .u32 0, .int .u32 0, .int .u32 0] [.int .i64 0, .int .i64 0, .bool false, .bool false, .bool false, .int .i64 0, .int .i64 0, .int .i64 0, .int .i64 0, .int .i64 0])
  refine X1.out.opn ?_
  intro _ B1 B2
  refine B1.opn12 ?_
  refine B2.opn10 ?_
  clear B1 B2
  intros
  go_upto_region 3 with (first
      | (go_at_call 21; refine nx (X1.out.call (h1 ▸ rknows_c I.op _)) ?_; intro w1 X1; refine X1.out.opn ?_; intro _ B1 B2; refine B1.opn12 ?_; refine B2.opn10 ?_; clear B1 B2; intros)
      | (go_at_call 22; refine nx (X1.out.call (CK.out _)) ?_; intro w1 X1; refine X1.out.opn ?_; intro _ B1 B2; refine B1.opn12 ?_; refine B2.opn10 ?_; clear B1 B2; intros)
      | (go_at_call 23; refine nx (X1.out.call (h3 ▸ rvalid_c _ _ _ _ _ _ _ _ _ _ _)) ?_; intro w1 X1; refine X1.out.opn ?_; intro _ B1 B2; refine B1.opn12 ?_; refine B2.opn10 ?_; clear B1 B2; intros))
  refine wp_region_held_drew (S := fun W => XE w W G bs ks [.int .i64 I.op, .int .i64 I.fm, .int .i64 (I.n : Int), .int .i64 (I.k : Int), .int .i64 (I.x : Int), .int .i64 (I.b : Int), .int .i64 I.d, .int .i64 (I.b' : Int), .int .i64 I.d', .int .i64 (I.l : Int), .int .i64 I.l', .int .i64 I.i] ([a0, a1, a2, a3, a4, a5, a6, a7, a8, a9, a10, a11, a12, a13, a14, a15].map (Value.int .u32)) p.v [.int .u32 0, .int .u32 0, .int .u32 0, .int .u32 0, .int .u32 0, .int .u32 0, .int .u32 0, .int .u32 0, .int .u32 0, .int .u32 0, .int .u32 0, .int .u32 0, .int .u32 0, .int .u32 0, .int .u32 0, .int .u32 0] [.int .i64 0, .int .i64 0, .bool false, .bool false, .bool false, .int .i64 0, .int .i64 0, .int .i64 0, .int .i64 0, .int .i64 0]) (by kernel_rfl) X1.out.drew (fun hHeld => ?_)
  replace X1 := Lib.hid X1.out.drew
  refine tkl 0 (fun w h => h.z.row) ?_
  refine tkl 1 (fun w h => h.r.row) ?_
  refine tkl 2 (fun w h => h.r.row) ?_
  refine tkl (cs := [.int .i64 p.m, .int .i64 p.key, .bool p.M, .bool p.W, .bool p.P, .int .i64 p.cd, .int .i64 p.il, .int .i64 p.cc, .int .i64 p.pg, .int .i64 p.ad]) 3 (fun w h => h.p.row) ?_
  refine tkl (cs := [.int .i64 p.m, .int .i64 p.key, .bool p.M, .bool p.W, .bool p.P, .int .i64 p.cd, .int .i64 p.il, .int .i64 p.cc, .int .i64 p.pg, .int .i64 p.ad]) 4 (fun w h => h.p.row) ?_
  refine tkn ?_
  refine tkce (R := fun v w2 => NewSt 70 _ bs ks v w2 ∧ XE w w2 G bs ks [.int .i64 I.op, .int .i64 I.fm, .int .i64 (I.n : Int), .int .i64 (I.k : Int), .int .i64 (I.x : Int), .int .i64 (I.b : Int), .int .i64 I.d, .int .i64 (I.b' : Int), .int .i64 I.d', .int .i64 (I.l : Int), .int .i64 I.l', .int .i64 I.i] ([a0, a1, a2, a3, a4, a5, a6, a7, a8, a9, a10, a11, a12, a13, a14, a15].map (Value.int .u32)) p.v [.int .u32 0, .int .u32 0, .int .u32 0, .int .u32 0, .int .u32 0, .int .u32 0, .int .u32 0, .int .u32 0, .int .u32 0, .int .u32 0, .int .u32 0, .int .u32 0, .int .u32 0, .int .u32 0, .int .u32 0, .int .u32 0] [.int .i64 0, .int .i64 0, .bool false, .bool false, .bool false, .int .i64 0, .int .i64 0, .int .i64 0, .int .i64 0, .int .i64 0]) ((rcopy_c _ X1.out.st).mono (by rintro e w2 ⟨v, rfl, hN⟩; exact ⟨v, rfl, hN, X1.out.keep (by obtain ⟨_, _, _, hb, _⟩ := hN; exact hb)⟩)) (fun _ _ h => h.2) ?_
  intro v w2 N2 hHeld
  obtain ⟨⟨Gc, rfl, hS, hB, hg0, hg1, hg2⟩, hX⟩ := N2.out
  have hz : w.heap.size + 1 + 1 + 1 + 1 < w1.drew.heap.size := X1.out.b.lt
  replace X1 := Lib.hid hX
  have SC := Lib.hid hS
  clear N2 hX hS hHeld
  refine tkv (v := .agg (rcC I [a0, a1, a2, a3, a4, a5, a6, a7, a8, a9, a10, a11, a12, a13, a14, a15] [a0, a1, a2, a3, a4, a5, a6, a7, a8, a9, a10, a11, a12, a13, a14, a15] p p (.pointer (some ⟨Gc.g, 0, none⟩)) 0).toArray) ?_ (y := by go_simp; kernel_rfl)
  have hsz : (rcC I [a0, a1, a2, a3, a4, a5, a6, a7, a8, a9, a10, a11, a12, a13, a14, a15] [a0, a1, a2, a3, a4, a5, a6, a7, a8, a9, a10, a11, a12, a13, a14, a15] p p (.pointer (some ⟨Gc.g, 0, none⟩)) 0).toArray.size = 66 := rfl
  refine tk1 (by with_unfolding_all rfl) ?_
  refine opb (v := .pointer (some ⟨w2.heap.size, 0, none⟩)) (w1 := w2.alloc (.cells (rcC I [a0, a1, a2, a3, a4, a5, a6, a7, a8, a9, a10, a11, a12, a13, a14, a15] [a0, a1, a2, a3, a4, a5, a6, a7, a8, a9, a10, a11, a12, a13, a14, a15] p p (.pointer (some ⟨Gc.g, 0, none⟩)) 0).toArray 67)) (R := fun w3 => RS w3 w3 w2.heap.size Gc I [a0, a1, a2, a3, a4, a5, a6, a7, a8, a9, a10, a11, a12, a13, a14, a15] [a0, a1, a2, a3, a4, a5, a6, a7, a8, a9, a10, a11, a12, a13, a14, a15] p p 0 bs ks ∧ XE w w3 G bs ks [.int .i64 I.op, .int .i64 I.fm, .int .i64 (I.n : Int), .int .i64 (I.k : Int), .int .i64 (I.x : Int), .int .i64 (I.b : Int), .int .i64 I.d, .int .i64 (I.b' : Int), .int .i64 I.d', .int .i64 (I.l : Int), .int .i64 I.l', .int .i64 I.i] ([a0, a1, a2, a3, a4, a5, a6, a7, a8, a9, a10, a11, a12, a13, a14, a15].map (Value.int .u32)) p.v [.int .u32 0, .int .u32 0, .int .u32 0, .int .u32 0, .int .u32 0, .int .u32 0, .int .u32 0, .int .u32 0, .int .u32 0, .int .u32 0, .int .u32 0, .int .u32 0, .int .u32 0, .int .u32 0, .int .u32 0, .int .u32 0] [.int .i64 0, .int .i64 0, .bool false, .bool false, .bool false, .int .i64 0, .int .i64 0, .int .i64 0, .int .i64 0, .int .i64 0]) ?_ (fun _ h => h.2) ?_
  · have s0 := SC.out.ltg
    have s1 := SC.out.ltb
    have s2 := SC.out.ltk
    exact ⟨⟨Bk.new _ _ _, SC.out.belowS ((Below.refl _ _).alloc (Nat.le_refl _) _), Ch.refl _ _, by omega, by omega, by omega, rfl, rfl, RO.out, HI.out⟩, X1.out.keep ((Below.refl _ _).alloc (Nat.le_refl _) _)⟩
  clear hsz X1 SC
  intro w3 N3 hHeld
  repeat refine tkn ?_
  refine wpAnyH_done (by kernel_rfl) ?_ _
  clear hHeld
  have R3 := Lib.hid N3.out.1
  have X3 := Lib.hid N3.out.2
  clear N3
  iterate 3 go_step
  go_cut [43] from 43 to 142 (fun t wx => Gd w3 wx w2.heap.size Gc I [a0, a1, a2, a3, a4, a5, a6, a7, a8, a9, a10, a11, a12, a13, a14, a15] p ks o)
  case first =>
    refine X3.out.opn ?_
    intro _ B1 B2
    refine B1.opn12 ?_
    clear B1 B2 X3
    intros
    rcases kn_grps _ (of_decide_eq_true H1.out) with ⟨hg, _, _, _, _, _, _, _, _, _, _, _, _, _, _, _, _, _, _, _⟩ | ⟨hg, _, _, _, _, _, _, _, _, _, _, _, _, _, _, _, _, _, _, _⟩ | ⟨hg, _, _, _, _, _, _, _, _, _, _, _, _, _, _, _, _, _, _, _⟩ | ⟨hg, _, _, _, _, _, _, _, _, _, _, _, _, _, _, _, _, _, _, _⟩ | ⟨hg, _, _, _, _, _, _, _, _, _, _, _, _, _, _, _, _, _, _, _⟩ | ⟨hg, _, _, _, _, _, _, _, _, _, _, _, _, _, _, _, _, _, _, _⟩ | ⟨hg, _, _, _, _, _, _, _, _, _, _, _, _, _, _, _, _, _, _, _⟩ | ⟨hg, _, _, _, _, _, _, _, _, _, _, _, _, _, _, _, _, _, _, _⟩ | ⟨hg, _, _, _, _, _, _, _, _, _, _, _, _, _, _, _, _, _, _, _⟩ | ⟨hg, _, _, _, _, _, _, _, _, _, _, _, _, _, _, _, _, _, _, _⟩ | ⟨hg, _, _, _, _, _, _, _, _, _, _, _, _, _, _, _, _, _, _, _⟩ | ⟨hg, _, _, _, _, _, _, _, _, _, _, _, _, _, _, _, _, _, _, _⟩ | ⟨hg, _, _, _, _, _, _, _, _, _, _, _, _, _, _, _, _, _, _, _⟩ | ⟨hg, _, _, _, _, _, _, _, _, _, _, _, _, _, _, _, _, _, _, _⟩ | ⟨hg, _, _, _, _, _, _, _, _, _, _, _, _, _, _, _, _, _, _, _⟩ | ⟨hg, _, _, _, _, _, _, _, _, _, _, _, _, _, _, _, _, _, _, _⟩ | ⟨hg, _, _, _, _, _, _, _, _, _, _, _, _, _, _, _, _, _, _, _⟩
    all_goals
      have HG := Lib.hid hg
      clear hg
      go_wp2_with (first
        | (go_at_call 25; refine nx (rxb R3.out HP.out HF.out (by have := HG.out; omega)) ?_; intro w4 R4)
        | (go_at_call 26; refine nx (rxs R3.out HG.out) ?_; intro w4 R4)
        | (go_at_call 27; refine nx (rxi R3.out HG.out) ?_; intro w4 R4)
        | (go_at_call 28; refine nx (rxl R3.out HP.out HG.out) ?_; intro w4 R4)
        | (go_at_call 29; refine nx (rxm R3.out (by have := HG.out; omega)) ?_; intro w4 R4)
        | (go_at_call 30; refine nx (rxa R3.out (by have := HG.out; omega)) ?_; intro w4 R4))
      go_meet
      exact HO.out ▸ R4.out
  case rest =>
    clear X0
    have s0 := hg0
    have s1 := hg1
    have s2 := hB.size
    obtain ⟨rs, q, c, bs', hR, hne, hz0⟩ := hcut
    have R4 := Lib.hid hR
    have X4 := Lib.hid (X3.out.ch_ hR.b (by omega) (by omega))
    have hc65 := hR.cc
    clear hR X3 R3
    by_cases hzc : o.c = 0
    · obtain ⟨hc, rfl, rfl, rfl⟩ := hz0 hzc
      subst hc
      have HZ := Lib.hid hzc
      obtain ⟨cf, hcf⟩ : ∃ x, (if o.ov = true ∧ 8 ≤ p.pg then (8 : Int) else 0) = x := ⟨_, rfl⟩
      have hcv : cf = 0 ∨ cf = 8 := by rw [← hcf]; split <;> simp
      rw [hcf] at R4 hc65
      have HC := Lib.hid hcf
      clear hcf hz0 hne hzc
      have hm64 := R4.out.cs
      have hd := Bk_of R4.out.st.hd
      have hd0 : wc.cell? ⟨Gc.g, 0, none⟩ = _ := hd.cell (c := 0) rfl
      have hd1 : wc.cell? ⟨Gc.g, 1, none⟩ = _ := hd.cell (c := 1) rfl
      have ht := Bk_of X4.out.st.hd
      have ht0 : wc.cell? ⟨G.g, 0, none⟩ = _ := ht.cell (c := 0) rfl
      have ht1 : wc.cell? ⟨G.g, 1, none⟩ = _ := ht.cell (c := 1) rfl
      have htf := ht.free
      clear hd ht
      rcases hcv with rfl | rfl
      all_goals
        go_upto_region 18 with fail
        have hn0 : w2.heap.size ≠ G.g := by have := X4.out.gs; omega
        have h4 := X4.out.gs
        have XR1 := Lib.hid (show XR w _ ⟨G.g, Gc.gb, Gc.gk, Gc.cb, Gc.ck⟩ o.bs ks w2.heap.size _ _ _ from XR.start R4.out X4.out (by omega) (by omega) (by omega))
        have KR := Lib.hid (R4.out.ol)
        have KL := Lib.hid (R4.out.rl)
        clear R4 X4 hc65 hm64 hd0 hd1 ht0 ht1 htf hn0 h4
        refine wp_region_held_drew (S := fun W => (∃ a b, XR w W ⟨G.g, Gc.gb, Gc.gk, Gc.cb, Gc.ck⟩ o.bs ks w2.heap.size (rcC I [a0, a1, a2, a3, a4, a5, a6, a7, a8, a9, a10, a11, a12, a13, a14, a15] o.rs p (p.to o.cc o.pg o.ad) (.pointer (some ⟨Gc.g, 0, none⟩)) _) a b) ∧ W.cell? ⟨w2.heap.size, 65, none⟩ = some (.int .i64 _)) (by kernel_rfl) ⟨⟨_, _, XR1.out.drew⟩, rc65 XR1.out.m KR.out KL.out⟩ (fun hHeld => ?_)
        replace XR1 := Lib.hid XR1.out.drew
        repeat refine tkn ?_
        refine tkl 3 (fun w h => by obtain ⟨⟨_, _, h⟩, _⟩ := h; exact rc_rowR h.m KR.out KL.out) ?_ (hn := by rw [List.length_map, KL.out]; kernel_rfl)
        repeat refine tkn ?_
        refine tkl (cs := (p.to o.cc o.pg o.ad).v) 7 (fun w h => by obtain ⟨⟨_, _, h⟩, _⟩ := h; exact rc_rowQ h.m KR.out KL.out) ?_
        repeat refine tkn ?_
        refine tks_ (cs' := o.rs.map (Value.int .u32)) XR1.out.a (by rw [List.length_map, KL.out]; rfl) (one_u32 _) (by rw [List.length_map, KL.out]; kernel_rfl) (R := fun W => XR w W ⟨G.g, Gc.gb, Gc.gk, Gc.cb, Gc.ck⟩ o.bs ks w2.heap.size (rcC I [a0, a1, a2, a3, a4, a5, a6, a7, a8, a9, a10, a11, a12, a13, a14, a15] o.rs p (p.to o.cc o.pg o.ad) (.pointer (some ⟨Gc.g, 0, none⟩)) _) (o.rs.map (Value.int .u32)) [.int .i64 0, .int .i64 0, .bool false, .bool false, .bool false, .int .i64 0, .int .i64 0, .int .i64 0, .int .i64 0, .int .i64 0]) (XR1.out.seta _) (fun _ h => ⟨⟨_, _, h⟩, rc65 h.m KR.out KL.out⟩) ?_
        clear XR1 hHeld
        intro w5 X5 hHeld
        refine tks_ (cs' := (p.to o.cc o.pg o.ad).v) X5.out.b (by rfl) (one_ps _) (by kernel_rfl) (R := fun W => XR w W ⟨G.g, Gc.gb, Gc.gk, Gc.cb, Gc.ck⟩ o.bs ks w2.heap.size (rcC I [a0, a1, a2, a3, a4, a5, a6, a7, a8, a9, a10, a11, a12, a13, a14, a15] o.rs p (p.to o.cc o.pg o.ad) (.pointer (some ⟨Gc.g, 0, none⟩)) _) (o.rs.map (Value.int .u32)) (p.to o.cc o.pg o.ad).v) (X5.out.setb _) (fun _ h => ⟨⟨_, _, h⟩, rc65 h.m KR.out KL.out⟩) ?_
        clear X5 hHeld
        intro w6 X6 hHeld
        repeat refine tkn ?_
        refine wpAnyH_done (by kernel_rfl) ?_ _
        clear hHeld
        go_wp2
        refine bodyPost_ret (res_cells2 rfl _ _ _ _ _ _ rfl rfl X6.out.a X6.out.b Tryz.underlying26 (by rfl) (by rw [List.length_map, KL.out]; kernel_rfl) Tryz.underlying28 (by rfl) (by kernel_rfl)) rfl ?_
        exact ⟨fun h => absurd HZ.out h, fun _ => ⟨⟨G.g, Gc.gb, Gc.gk, Gc.cb, Gc.ck⟩, rfl, by show _ ≤ Gc.gb; omega, by show _ ≤ Gc.gk; omega, by rw [HC.out]; rfl, X6.out.st, X6.out.ch⟩⟩
    · have hce := hne hzc
      have n8 : o.c ≠ 8 := HO.out ▸ exO_ne8 _ _ _ _ _ _ _ _ _
      subst hce
      have e1 : (o.c != 0) = true := by simpa using hzc
      have e2 : (o.c != 8) = true := by simpa using n8
      have HZ := Lib.hid hzc
      clear hz0 hne hzc n8
      go_upto_region 16 with fail
      refine wp_region_held_drew (S := fun W => (∃ a b, XE w W G bs ks [.int .i64 I.op, .int .i64 I.fm, .int .i64 (I.n : Int), .int .i64 (I.k : Int), .int .i64 (I.x : Int), .int .i64 (I.b : Int), .int .i64 I.d, .int .i64 (I.b' : Int), .int .i64 I.d', .int .i64 (I.l : Int), .int .i64 I.l', .int .i64 I.i] ([a0, a1, a2, a3, a4, a5, a6, a7, a8, a9, a10, a11, a12, a13, a14, a15].map (Value.int .u32)) p.v a b) ∧ W.cell? ⟨w2.heap.size, 65, none⟩ = some (.int .i64 o.c)) (by kernel_rfl) ⟨⟨_, _, X4.out.drew⟩, hc65⟩ (fun hHeld => ?_)
      replace X4 := Lib.hid X4.out.drew
      have hc66 : Hid (wc.drew.cell? ⟨w2.heap.size, 65, none⟩ = some (.int .i64 o.c)) := Lib.hid hc65
      refine tkl 0 (fun w h => by obtain ⟨⟨_, _, h⟩, _⟩ := h; exact h.r.row) ?_
      refine tkl (cs := [.int .i64 p.m, .int .i64 p.key, .bool p.M, .bool p.W, .bool p.P, .int .i64 p.cd, .int .i64 p.il, .int .i64 p.cc, .int .i64 p.pg, .int .i64 p.ad]) 1 (fun w h => by obtain ⟨⟨_, _, h⟩, _⟩ := h; exact h.p.row) ?_
      repeat refine tkn ?_
      have hn : w2.heap.size ≠ w.heap.size + 1 + 1 + 1 := by omega
      have hn' : w2.heap.size ≠ w.heap.size + 1 + 1 + 1 + 1 := by omega
      refine tks_ (cs' := [a0, a1, a2, a3, a4, a5, a6, a7, a8, a9, a10, a11, a12, a13, a14, a15].map (Value.int .u32)) X4.out.a (by rfl) (one_u32 _) (by kernel_rfl) (R := fun W => XE w W G bs ks [.int .i64 I.op, .int .i64 I.fm, .int .i64 (I.n : Int), .int .i64 (I.k : Int), .int .i64 (I.x : Int), .int .i64 (I.b : Int), .int .i64 I.d, .int .i64 (I.b' : Int), .int .i64 I.d', .int .i64 (I.l : Int), .int .i64 I.l', .int .i64 I.i] ([a0, a1, a2, a3, a4, a5, a6, a7, a8, a9, a10, a11, a12, a13, a14, a15].map (Value.int .u32)) p.v ([a0, a1, a2, a3, a4, a5, a6, a7, a8, a9, a10, a11, a12, a13, a14, a15].map (Value.int .u32)) [.int .i64 0, .int .i64 0, .bool false, .bool false, .bool false, .int .i64 0, .int .i64 0, .int .i64 0, .int .i64 0, .int .i64 0] ∧ W.cell? ⟨w2.heap.size, 65, none⟩ = some (.int .i64 o.c)) ⟨X4.out.seta _, (cell_setRow_other _ _ _ _ hn).trans hc66.out⟩ (fun _ h => ⟨⟨_, _, h.1⟩, h.2⟩) ?_
      clear X4 hHeld hc66
      intro w5 X5 hHeld
      refine tks_ (cs' := p.v) X5.out.1.b (by rfl) (one_ps p) (by kernel_rfl) (R := fun W => XE w W G bs ks [.int .i64 I.op, .int .i64 I.fm, .int .i64 (I.n : Int), .int .i64 (I.k : Int), .int .i64 (I.x : Int), .int .i64 (I.b : Int), .int .i64 I.d, .int .i64 (I.b' : Int), .int .i64 I.d', .int .i64 (I.l : Int), .int .i64 I.l', .int .i64 I.i] ([a0, a1, a2, a3, a4, a5, a6, a7, a8, a9, a10, a11, a12, a13, a14, a15].map (Value.int .u32)) p.v ([a0, a1, a2, a3, a4, a5, a6, a7, a8, a9, a10, a11, a12, a13, a14, a15].map (Value.int .u32)) p.v ∧ W.cell? ⟨w2.heap.size, 65, none⟩ = some (.int .i64 o.c)) ⟨X5.out.1.setb _, (cell_setRow_other _ _ _ _ hn').trans X5.out.2⟩ (fun _ h => ⟨⟨_, _, h.1⟩, h.2⟩) ?_
      clear X5 hHeld
      intro w6 X6 hHeld
      repeat refine tkn ?_
      refine wpAnyH_done (by kernel_rfl) ?_ _
      clear hHeld
      go_wp2
      refine bodyPost_ret (res_cells2 rfl _ _ _ _ _ _ rfl rfl X6.out.1.a X6.out.1.b Tryz.underlying26 (by rfl) (by kernel_rfl) Tryz.underlying28 (by rfl) (by kernel_rfl)) rfl ?_
      exact ⟨fun _ => ⟨rfl, X6.out.1.st, X6.out.1.ch⟩, fun h => absurd h HZ.out⟩
end
end Go.Proofs.YthjdjbipfdigeaaGreat

namespace Go.Proofs.YthjdjbipfdigeaaGreat
open Go.RowKit Go.Shelf
set_option linter.unusedVariables false
set_option linter.unusedSimpArgs false
attribute [local go_sem] Oper.semAt_some

theorem res_cell_tmp {P : Program} {fn : Func} {p q : Tmp} {ty : TypeId} (h : fn.results = #[.cell p ty, .tmp q]) (tmps : Array Value) (w : World) (g : Nat) (cs : Array Value) (t : TypeId) (v : Value) {d : TypeDesc}
    (hp : tmps.getD p undef = .pointer (some ⟨g, 0, none⟩)) (hq : tmps.getD q undef = v) (hg : w.heap[g]? = some (.cells cs t (0, 0)))
    (hu : P.underlying ty = some d) (hd : (match d with | .struct _ | .array _ _ => true | _ => false) = true) (hi : (P.info? ty).map (·.size) = some cs.size) :
    (results fn tmps).run P w = .ok (.tuple #[.agg cs, v]) w := by
  have hp' : tmps[p]?.getD undef = .pointer (some ⟨g, 0, none⟩) := by simpa using hp
  have hq' : tmps[q]?.getD undef = v := by simpa using hq
  simp [results, h, hp', hq', asAddr, run_loadVar_row w g t ty cs (0, 0) d hg hu hd hi]
theorem blk_sets12 {W : World} {g : Nat} {T : TypeId} {ys : List Int} (h : Blk W g T ys) (hl : ys.length = 12) (v0 v1 v2 v3 v4 v5 v6 v7 v8 v9 v10 v11 : Int) : Blk ((((((((((((W.setCell ⟨g, 0, none⟩ (.int .i64 v0)).setCell ⟨g, 1, none⟩ (.int .i64 v1)).setCell ⟨g, 2, none⟩ (.int .i64 v2)).setCell ⟨g, 3, none⟩ (.int .i64 v3)).setCell ⟨g, 4, none⟩ (.int .i64 v4)).setCell ⟨g, 5, none⟩ (.int .i64 v5)).setCell ⟨g, 6, none⟩ (.int .i64 v6)).setCell ⟨g, 7, none⟩ (.int .i64 v7)).setCell ⟨g, 8, none⟩ (.int .i64 v8)).setCell ⟨g, 9, none⟩ (.int .i64 v9)).setCell ⟨g, 10, none⟩ (.int .i64 v10)).setCell ⟨g, 11, none⟩ (.int .i64 v11)) g T [v0, v1, v2, v3, v4, v5, v6, v7, v8, v9, v10, v11] := by
  obtain ⟨a, b, c, d, e, f, g', h', i, j, k, m, rfl⟩ := list_12 hl
  exact ((((((((((((h.set_ 0 v0).set_ 1 v1).set_ 2 v2).set_ 3 v3).set_ 4 v4).set_ 5 v5).set_ 6 v6).set_ 7 v7).set_ 8 v8).set_ 9 v9).set_ 10 v10).set_ 11 v11)
theorem below_sets12 {W w : World} {B g : Nat} (hB : Below B w W) (hg : B ≤ g) (v0 v1 v2 v3 v4 v5 v6 v7 v8 v9 v10 v11 : Int) : Below B w ((((((((((((W.setCell ⟨g, 0, none⟩ (.int .i64 v0)).setCell ⟨g, 1, none⟩ (.int .i64 v1)).setCell ⟨g, 2, none⟩ (.int .i64 v2)).setCell ⟨g, 3, none⟩ (.int .i64 v3)).setCell ⟨g, 4, none⟩ (.int .i64 v4)).setCell ⟨g, 5, none⟩ (.int .i64 v5)).setCell ⟨g, 6, none⟩ (.int .i64 v6)).setCell ⟨g, 7, none⟩ (.int .i64 v7)).setCell ⟨g, 8, none⟩ (.int .i64 v8)).setCell ⟨g, 9, none⟩ (.int .i64 v9)).setCell ⟨g, 10, none⟩ (.int .i64 v10)).setCell ⟨g, 11, none⟩ (.int .i64 v11)) := (Below.setCell (p := ⟨g, 11, none⟩) (Below.setCell (p := ⟨g, 10, none⟩) (Below.setCell (p := ⟨g, 9, none⟩) (Below.setCell (p := ⟨g, 8, none⟩) (Below.setCell (p := ⟨g, 7, none⟩) (Below.setCell (p := ⟨g, 6, none⟩) (Below.setCell (p := ⟨g, 5, none⟩) (Below.setCell (p := ⟨g, 4, none⟩) (Below.setCell (p := ⟨g, 3, none⟩) (Below.setCell (p := ⟨g, 2, none⟩) (Below.setCell (p := ⟨g, 1, none⟩) (Below.setCell (p := ⟨g, 0, none⟩) hB hg _) hg _) hg _) hg _) hg _) hg _) hg _) hg _) hg _) hg _) hg _) hg _)
end Go.Proofs.YthjdjbipfdigeaaGreat

namespace Go.Proofs.YthjdjbipfdigeaaGreat
open Go.RowKit
set_option linter.unusedVariables false
set_option linter.unusedSimpArgs false
/-- the rows, three cells each -/
def rowsA : Array Value := ((List.range 97).flatMap fun k => [.int .i64 (opK k), .string (strN (nmK k)), .int .i64 (fmK k)]).toArray
theorem wpList_stepR {P : Program} {ops : Array Oper} {rest : List Oper} {o : Oper} {a : Act} {w w' : World} {v : Value} {Q : Exit → Act → World → Prop} (hg : o.guard = none) (h : (execOp a.eval o).run P w = .ok (.value v) w') (hn : wpList P ops Q rest (a.put o.dst v) w') : wpList P ops Q (o :: rest) a w := by
  refine wpList_plain hg fun K hK => ?_
  unfold Oper.wp
  rw [h]
  exact hK _ _ hn
set_option maxRecDepth 1000000 in
set_option maxHeartbeats 4000000 in
theorem rows_c (w : World) : Calls Tryz.prog 164 #[] w fun e w' => e = .returned (.slice (some ⟨w.heap.size, 0, none⟩) 97 97) ∧ w' = w.alloc (.cells rowsA 140) := by
  refine calls_of_wp Tryz.func164 rfl ?_
  refine wp_seq ?_
  refine wp_region_list ?_
  refine wpList_stepR rfl rfl ?_
  refine wpList_nil ?_
  refine wp_seq ?_
  refine wp_region_list ?_
  simp only [List.append_eq, List.cons_append, List.nil_append]
  refine wpList_stepR (v := .agg #[.int .i64 4, .string ⟨#[83, 80, 77]⟩, .int .i64 8]) (w' := w) rfl (by kernel_rfl) ?_
  refine wpList_stepR (v := .agg #[.int .i64 5, .string ⟨#[66, 65, 76, 82]⟩, .int .i64 1]) (w' := w) rfl (by kernel_rfl) ?_
  refine wpList_stepR (v := .agg #[.int .i64 6, .string ⟨#[66, 67, 84, 82]⟩, .int .i64 1]) (w' := w) rfl (by kernel_rfl) ?_
  refine wpList_stepR (v := .agg #[.int .i64 7, .string ⟨#[66, 67, 82]⟩, .int .i64 1]) (w' := w) rfl (by kernel_rfl) ?_
  refine wpList_stepR (v := .agg #[.int .i64 8, .string ⟨#[83, 83, 75]⟩, .int .i64 1]) (w' := w) rfl (by kernel_rfl) ?_
  refine wpList_stepR (v := .agg #[.int .i64 9, .string ⟨#[73, 83, 75]⟩, .int .i64 1]) (w' := w) rfl (by kernel_rfl) ?_
  refine wpList_stepR (v := .agg #[.int .i64 10, .string ⟨#[83, 86, 67]⟩, .int .i64 7]) (w' := w) rfl (by kernel_rfl) ?_
  refine wpList_stepR (v := .agg #[.int .i64 16, .string ⟨#[76, 80, 82]⟩, .int .i64 1]) (w' := w) rfl (by kernel_rfl) ?_
  refine wpList_stepR (v := .agg #[.int .i64 17, .string ⟨#[76, 78, 82]⟩, .int .i64 1]) (w' := w) rfl (by kernel_rfl) ?_
  refine wpList_stepR (v := .agg #[.int .i64 18, .string ⟨#[76, 84, 82]⟩, .int .i64 1]) (w' := w) rfl (by kernel_rfl) ?_
  refine wpList_stepR (v := .agg #[.int .i64 19, .string ⟨#[76, 67, 82]⟩, .int .i64 1]) (w' := w) rfl (by kernel_rfl) ?_
  refine wpList_stepR (v := .agg #[.int .i64 20, .string ⟨#[78, 82]⟩, .int .i64 1]) (w' := w) rfl (by kernel_rfl) ?_
  refine wpList_stepR (v := .agg #[.int .i64 21, .string ⟨#[67, 76, 82]⟩, .int .i64 1]) (w' := w) rfl (by kernel_rfl) ?_
  refine wpList_stepR (v := .agg #[.int .i64 22, .string ⟨#[79, 82]⟩, .int .i64 1]) (w' := w) rfl (by kernel_rfl) ?_
  refine wpList_stepR (v := .agg #[.int .i64 23, .string ⟨#[88, 82]⟩, .int .i64 1]) (w' := w) rfl (by kernel_rfl) ?_
  refine wpList_stepR (v := .agg #[.int .i64 24, .string ⟨#[76, 82]⟩, .int .i64 1]) (w' := w) rfl (by kernel_rfl) ?_
  refine wpList_stepR (v := .agg #[.int .i64 25, .string ⟨#[67, 82]⟩, .int .i64 1]) (w' := w) rfl (by kernel_rfl) ?_
  refine wpList_stepR (v := .agg #[.int .i64 26, .string ⟨#[65, 82]⟩, .int .i64 1]) (w' := w) rfl (by kernel_rfl) ?_
  refine wpList_stepR (v := .agg #[.int .i64 27, .string ⟨#[83, 82]⟩, .int .i64 1]) (w' := w) rfl (by kernel_rfl) ?_
  refine wpList_stepR (v := .agg #[.int .i64 28, .string ⟨#[77, 82]⟩, .int .i64 1]) (w' := w) rfl (by kernel_rfl) ?_
  refine wpList_stepR (v := .agg #[.int .i64 29, .string ⟨#[68, 82]⟩, .int .i64 1]) (w' := w) rfl (by kernel_rfl) ?_
  refine wpList_stepR (v := .agg #[.int .i64 30, .string ⟨#[65, 76, 82]⟩, .int .i64 1]) (w' := w) rfl (by kernel_rfl) ?_
  refine wpList_stepR (v := .agg #[.int .i64 31, .string ⟨#[83, 76, 82]⟩, .int .i64 1]) (w' := w) rfl (by kernel_rfl) ?_
  refine wpList_stepR (v := .agg #[.int .i64 64, .string ⟨#[83, 84, 72]⟩, .int .i64 2]) (w' := w) rfl (by kernel_rfl) ?_
  refine wpList_stepR (v := .agg #[.int .i64 65, .string ⟨#[76, 65]⟩, .int .i64 2]) (w' := w) rfl (by kernel_rfl) ?_
  refine wpList_stepR (v := .agg #[.int .i64 66, .string ⟨#[83, 84, 67]⟩, .int .i64 2]) (w' := w) rfl (by kernel_rfl) ?_
  refine wpList_stepR (v := .agg #[.int .i64 67, .string ⟨#[73, 67]⟩, .int .i64 2]) (w' := w) rfl (by kernel_rfl) ?_
  refine wpList_stepR (v := .agg #[.int .i64 68, .string ⟨#[69, 88]⟩, .int .i64 2]) (w' := w) rfl (by kernel_rfl) ?_
  refine wpList_stepR (v := .agg #[.int .i64 69, .string ⟨#[66, 65, 76]⟩, .int .i64 2]) (w' := w) rfl (by kernel_rfl) ?_
  refine wpList_stepR (v := .agg #[.int .i64 70, .string ⟨#[66, 67, 84]⟩, .int .i64 2]) (w' := w) rfl (by kernel_rfl) ?_
  refine wpList_stepR (v := .agg #[.int .i64 71, .string ⟨#[66, 67]⟩, .int .i64 2]) (w' := w) rfl (by kernel_rfl) ?_
  refine wpList_stepR (v := .agg #[.int .i64 72, .string ⟨#[76, 72]⟩, .int .i64 2]) (w' := w) rfl (by kernel_rfl) ?_
  refine wpList_stepR (v := .agg #[.int .i64 73, .string ⟨#[67, 72]⟩, .int .i64 2]) (w' := w) rfl (by kernel_rfl) ?_
  refine wpList_stepR (v := .agg #[.int .i64 74, .string ⟨#[65, 72]⟩, .int .i64 2]) (w' := w) rfl (by kernel_rfl) ?_
  refine wpList_stepR (v := .agg #[.int .i64 75, .string ⟨#[83, 72]⟩, .int .i64 2]) (w' := w) rfl (by kernel_rfl) ?_
  refine wpList_stepR (v := .agg #[.int .i64 76, .string ⟨#[77, 72]⟩, .int .i64 2]) (w' := w) rfl (by kernel_rfl) ?_
  refine wpList_stepR (v := .agg #[.int .i64 78, .string ⟨#[67, 86, 68]⟩, .int .i64 2]) (w' := w) rfl (by kernel_rfl) ?_
  refine wpList_stepR (v := .agg #[.int .i64 79, .string ⟨#[67, 86, 66]⟩, .int .i64 2]) (w' := w) rfl (by kernel_rfl) ?_
  refine wpList_stepR (v := .agg #[.int .i64 80, .string ⟨#[83, 84]⟩, .int .i64 2]) (w' := w) rfl (by kernel_rfl) ?_
  refine wpList_stepR (v := .agg #[.int .i64 84, .string ⟨#[78]⟩, .int .i64 2]) (w' := w) rfl (by kernel_rfl) ?_
  refine wpList_stepR (v := .agg #[.int .i64 85, .string ⟨#[67, 76]⟩, .int .i64 2]) (w' := w) rfl (by kernel_rfl) ?_
  refine wpList_stepR (v := .agg #[.int .i64 86, .string ⟨#[79]⟩, .int .i64 2]) (w' := w) rfl (by kernel_rfl) ?_
  refine wpList_stepR (v := .agg #[.int .i64 87, .string ⟨#[88]⟩, .int .i64 2]) (w' := w) rfl (by kernel_rfl) ?_
  refine wpList_stepR (v := .agg #[.int .i64 88, .string ⟨#[76]⟩, .int .i64 2]) (w' := w) rfl (by kernel_rfl) ?_
  refine wpList_stepR (v := .agg #[.int .i64 89, .string ⟨#[67]⟩, .int .i64 2]) (w' := w) rfl (by kernel_rfl) ?_
  refine wpList_stepR (v := .agg #[.int .i64 90, .string ⟨#[65]⟩, .int .i64 2]) (w' := w) rfl (by kernel_rfl) ?_
  refine wpList_stepR (v := .agg #[.int .i64 91, .string ⟨#[83]⟩, .int .i64 2]) (w' := w) rfl (by kernel_rfl) ?_
  refine wpList_stepR (v := .agg #[.int .i64 92, .string ⟨#[77]⟩, .int .i64 2]) (w' := w) rfl (by kernel_rfl) ?_
  refine wpList_stepR (v := .agg #[.int .i64 93, .string ⟨#[68]⟩, .int .i64 2]) (w' := w) rfl (by kernel_rfl) ?_
  refine wpList_stepR (v := .agg #[.int .i64 94, .string ⟨#[65, 76]⟩, .int .i64 2]) (w' := w) rfl (by kernel_rfl) ?_
  refine wpList_stepR (v := .agg #[.int .i64 95, .string ⟨#[83, 76]⟩, .int .i64 2]) (w' := w) rfl (by kernel_rfl) ?_
  refine wpList_stepR (v := .agg #[.int .i64 128, .string ⟨#[83, 83, 77]⟩, .int .i64 9]) (w' := w) rfl (by kernel_rfl) ?_
  refine wpList_stepR (v := .agg #[.int .i64 130, .string ⟨#[76, 80, 83, 87]⟩, .int .i64 9]) (w' := w) rfl (by kernel_rfl) ?_
  refine wpList_stepR (v := .agg #[.int .i64 134, .string ⟨#[66, 88, 72]⟩, .int .i64 3]) (w' := w) rfl (by kernel_rfl) ?_
  refine wpList_stepR (v := .agg #[.int .i64 135, .string ⟨#[66, 88, 76, 69]⟩, .int .i64 3]) (w' := w) rfl (by kernel_rfl) ?_
  refine wpList_stepR (v := .agg #[.int .i64 136, .string ⟨#[83, 82, 76]⟩, .int .i64 3]) (w' := w) rfl (by kernel_rfl) ?_
  refine wpList_stepR (v := .agg #[.int .i64 137, .string ⟨#[83, 76, 76]⟩, .int .i64 3]) (w' := w) rfl (by kernel_rfl) ?_
  refine wpList_stepR (v := .agg #[.int .i64 138, .string ⟨#[83, 82, 65]⟩, .int .i64 3]) (w' := w) rfl (by kernel_rfl) ?_
  refine wpList_stepR (v := .agg #[.int .i64 139, .string ⟨#[83, 76, 65]⟩, .int .i64 3]) (w' := w) rfl (by kernel_rfl) ?_
  refine wpList_stepR (v := .agg #[.int .i64 140, .string ⟨#[83, 82, 68, 76]⟩, .int .i64 3]) (w' := w) rfl (by kernel_rfl) ?_
  refine wpList_stepR (v := .agg #[.int .i64 141, .string ⟨#[83, 76, 68, 76]⟩, .int .i64 3]) (w' := w) rfl (by kernel_rfl) ?_
  refine wpList_stepR (v := .agg #[.int .i64 142, .string ⟨#[83, 82, 68, 65]⟩, .int .i64 3]) (w' := w) rfl (by kernel_rfl) ?_
  refine wpList_stepR (v := .agg #[.int .i64 143, .string ⟨#[83, 76, 68, 65]⟩, .int .i64 3]) (w' := w) rfl (by kernel_rfl) ?_
  refine wpList_stepR (v := .agg #[.int .i64 144, .string ⟨#[83, 84, 77]⟩, .int .i64 3]) (w' := w) rfl (by kernel_rfl) ?_
  refine wpList_stepR (v := .agg #[.int .i64 145, .string ⟨#[84, 77]⟩, .int .i64 4]) (w' := w) rfl (by kernel_rfl) ?_
  refine wpList_stepR (v := .agg #[.int .i64 146, .string ⟨#[77, 86, 73]⟩, .int .i64 4]) (w' := w) rfl (by kernel_rfl) ?_
  refine wpList_stepR (v := .agg #[.int .i64 147, .string ⟨#[84, 83]⟩, .int .i64 9]) (w' := w) rfl (by kernel_rfl) ?_
  refine wpList_stepR (v := .agg #[.int .i64 148, .string ⟨#[78, 73]⟩, .int .i64 4]) (w' := w) rfl (by kernel_rfl) ?_
  refine wpList_stepR (v := .agg #[.int .i64 149, .string ⟨#[67, 76, 73]⟩, .int .i64 4]) (w' := w) rfl (by kernel_rfl) ?_
  refine wpList_stepR (v := .agg #[.int .i64 150, .string ⟨#[79, 73]⟩, .int .i64 4]) (w' := w) rfl (by kernel_rfl) ?_
  refine wpList_stepR (v := .agg #[.int .i64 151, .string ⟨#[88, 73]⟩, .int .i64 4]) (w' := w) rfl (by kernel_rfl) ?_
  refine wpList_stepR (v := .agg #[.int .i64 152, .string ⟨#[76, 77]⟩, .int .i64 3]) (w' := w) rfl (by kernel_rfl) ?_
  refine wpList_stepR (v := .agg #[.int .i64 156, .string ⟨#[83, 73, 79]⟩, .int .i64 9]) (w' := w) rfl (by kernel_rfl) ?_
  refine wpList_stepR (v := .agg #[.int .i64 157, .string ⟨#[84, 73, 79]⟩, .int .i64 9]) (w' := w) rfl (by kernel_rfl) ?_
  refine wpList_stepR (v := .agg #[.int .i64 158, .string ⟨#[72, 73, 79]⟩, .int .i64 9]) (w' := w) rfl (by kernel_rfl) ?_
  refine wpList_stepR (v := .agg #[.int .i64 159, .string ⟨#[84, 67, 72]⟩, .int .i64 9]) (w' := w) rfl (by kernel_rfl) ?_
  refine wpList_stepR (v := .agg #[.int .i64 209, .string ⟨#[77, 86, 78]⟩, .int .i64 5]) (w' := w) rfl (by kernel_rfl) ?_
  refine wpList_stepR (v := .agg #[.int .i64 210, .string ⟨#[77, 86, 67]⟩, .int .i64 5]) (w' := w) rfl (by kernel_rfl) ?_
  refine wpList_stepR (v := .agg #[.int .i64 211, .string ⟨#[77, 86, 90]⟩, .int .i64 5]) (w' := w) rfl (by kernel_rfl) ?_
  refine wpList_stepR (v := .agg #[.int .i64 212, .string ⟨#[78, 67]⟩, .int .i64 5]) (w' := w) rfl (by kernel_rfl) ?_
  refine wpList_stepR (v := .agg #[.int .i64 213, .string ⟨#[67, 76, 67]⟩, .int .i64 5]) (w' := w) rfl (by kernel_rfl) ?_
  refine wpList_stepR (v := .agg #[.int .i64 214, .string ⟨#[79, 67]⟩, .int .i64 5]) (w' := w) rfl (by kernel_rfl) ?_
  refine wpList_stepR (v := .agg #[.int .i64 215, .string ⟨#[88, 67]⟩, .int .i64 5]) (w' := w) rfl (by kernel_rfl) ?_
  refine wpList_stepR (v := .agg #[.int .i64 220, .string ⟨#[84, 82]⟩, .int .i64 5]) (w' := w) rfl (by kernel_rfl) ?_
  refine wpList_stepR (v := .agg #[.int .i64 221, .string ⟨#[84, 82, 84]⟩, .int .i64 5]) (w' := w) rfl (by kernel_rfl) ?_
  refine wpList_stepR (v := .agg #[.int .i64 222, .string ⟨#[69, 68]⟩, .int .i64 5]) (w' := w) rfl (by kernel_rfl) ?_
  refine wpList_stepR (v := .agg #[.int .i64 223, .string ⟨#[69, 68, 77, 75]⟩, .int .i64 5]) (w' := w) rfl (by kernel_rfl) ?_
  refine wpList_stepR (v := .agg #[.int .i64 240, .string ⟨#[83, 82, 80]⟩, .int .i64 6]) (w' := w) rfl (by kernel_rfl) ?_
  refine wpList_stepR (v := .agg #[.int .i64 241, .string ⟨#[77, 86, 79]⟩, .int .i64 6]) (w' := w) rfl (by kernel_rfl) ?_
  refine wpList_stepR (v := .agg #[.int .i64 242, .string ⟨#[80, 65, 67, 75]⟩, .int .i64 6]) (w' := w) rfl (by kernel_rfl) ?_
  refine wpList_stepR (v := .agg #[.int .i64 243, .string ⟨#[85, 78, 80, 75]⟩, .int .i64 6]) (w' := w) rfl (by kernel_rfl) ?_
  refine wpList_stepR (v := .agg #[.int .i64 248, .string ⟨#[90, 65, 80]⟩, .int .i64 6]) (w' := w) rfl (by kernel_rfl) ?_
  refine wpList_stepR (v := .agg #[.int .i64 249, .string ⟨#[67, 80]⟩, .int .i64 6]) (w' := w) rfl (by kernel_rfl) ?_
  refine wpList_stepR (v := .agg #[.int .i64 250, .string ⟨#[65, 80]⟩, .int .i64 6]) (w' := w) rfl (by kernel_rfl) ?_
  refine wpList_stepR (v := .agg #[.int .i64 251, .string ⟨#[83, 80]⟩, .int .i64 6]) (w' := w) rfl (by kernel_rfl) ?_
  refine wpList_stepR (v := .agg #[.int .i64 252, .string ⟨#[77, 80]⟩, .int .i64 6]) (w' := w) rfl (by kernel_rfl) ?_
  refine wpList_stepR (v := .agg #[.int .i64 253, .string ⟨#[68, 80]⟩, .int .i64 6]) (w' := w) rfl (by kernel_rfl) ?_
  refine wpList_stepR (v := .slice (some ⟨w.heap.size, 0, none⟩) 97 97) (w' := w.alloc (.cells rowsA 140)) rfl (by kernel_rfl) ?_
  refine wpList_stepR (v := .slice (some ⟨w.heap.size, 0, none⟩) 97 97) (w' := w.alloc (.cells rowsA 140)) rfl (by kernel_rfl) ?_
  refine wpList_nil ?_
  refine wp_ret ?_
  refine bodyPost_ret (v := .slice (some ⟨w.heap.size, 0, none⟩) 97 97) (by kernel_rfl) (by kernel_rfl) ?_
  exact ⟨rfl, rfl⟩
end Go.Proofs.YthjdjbipfdigeaaGreat

namespace Go.Proofs.YthjdjbipfdigeaaGreat
open Go.RowKit
set_option linter.unusedVariables false
set_option linter.unusedSimpArgs false
theorem rowsA_eq : rowsA = ((List.range 97).flatMap fun k => [Value.int .i64 (opK k), .string (strN (nmK k)), .int .i64 (fmK k)]).toArray := rfl
theorem flat3 {α : Type} (f : Nat → α) (g : Nat → α) (h : Nat → α) : ∀ (n k : Nat), k < n → ((List.range n).flatMap fun k => [f k, g k, h k])[3 * k]? = some (f k) ∧ ((List.range n).flatMap fun k => [f k, g k, h k])[3 * k + 1]? = some (g k) ∧ ((List.range n).flatMap fun k => [f k, g k, h k])[3 * k + 2]? = some (h k)
  | n + 1, k, hk => by
    have hl : ∀ m, ((List.range m).flatMap fun k => [f k, g k, h k]).length = 3 * m := by
      intro m
      induction m with
      | zero => rfl
      | succ m ih => rw [List.range_succ, List.flatMap_append, List.length_append, ih]; simp; omega
    rw [List.range_succ, List.flatMap_append]
    rcases Nat.lt_or_ge k n with h1 | h1
    · have ih := flat3 f g h n k h1
      have := hl n
      rw [List.getElem?_append_left (by omega), List.getElem?_append_left (by omega), List.getElem?_append_left (by omega)]
      exact ih
    · obtain rfl : k = n := by omega
      have := hl k
      rw [List.getElem?_append_right (by omega), List.getElem?_append_right (by omega), List.getElem?_append_right (by omega)]
      rw [hl k, show 3 * k - 3 * k = 0 from by omega, show 3 * k + 1 - 3 * k = 1 from by omega, show 3 * k + 2 - 3 * k = 2 from by omega]
      exact ⟨rfl, rfl, rfl⟩
theorem rows_get {k : Nat} (hk : k < 97) : rowsA[3 * k]? = some (.int .i64 (opK k)) ∧ rowsA[3 * k + 1]? = some (.string (strN (nmK k))) ∧ rowsA[3 * k + 2]? = some (.int .i64 (fmK k)) := by
  rw [rowsA_eq]
  simp only [List.getElem?_toArray]
  exact flat3 (fun k => Value.int .i64 (opK k)) (fun k => .string (strN (nmK k))) (fun k => .int .i64 (fmK k)) 97 k hk
theorem free_of_row (W : World) (g c : Nat) (cs : Array Value) (T : TypeId) (h : W.heap[g]? = some (.cells cs T (0, 0))) : W.frozen? ⟨g, c, none⟩ = false := by simp [World.frozen?, h]
theorem sets3 {W : World} {g : Nat} {T : TypeId} {x y z : Value} (h : W.heap[g]? = some (.cells #[x, y, z] T (0, 0))) (a b c : Value) : (((W.setCell ⟨g, 0, none⟩ a).setCell ⟨g, 1, none⟩ b).setCell ⟨g, 2, none⟩ c).heap[g]? = some (.cells #[a, b, c] T (0, 0)) := by
  have h1 : (W.setCell ⟨g, 0, none⟩ a).heap[g]? = some (.cells #[a, y, z] T (0, 0)) := by rw [setCell_eq_setRow W g 0 _ T (0, 0) _ h, setRow_heap W g _ _ _ _ h]; rfl
  have h2 : ((W.setCell ⟨g, 0, none⟩ a).setCell ⟨g, 1, none⟩ b).heap[g]? = some (.cells #[a, b, z] T (0, 0)) := by rw [setCell_eq_setRow _ g 1 _ T (0, 0) _ h1, setRow_heap _ g _ _ _ _ h1]; rfl
  rw [setCell_eq_setRow _ g 2 _ T (0, 0) _ h2, setRow_heap _ g _ _ _ _ h2]; rfl
theorem below_sets3 {W w : World} {B g : Nat} (hB : Below B w W) (hg : B ≤ g) (a b c : Value) : Below B w (((W.setCell ⟨g, 0, none⟩ a).setCell ⟨g, 1, none⟩ b).setCell ⟨g, 2, none⟩ c) := Below.setCell (p := ⟨g, 2, none⟩) (Below.setCell (p := ⟨g, 1, none⟩) (Below.setCell (p := ⟨g, 0, none⟩) hB hg _) hg _) hg _
def opOf (op : Int) : Int := if ix op < 97 then op else 0
set_option maxRecDepth 1000000 in
set_option maxHeartbeats 4000000 in
theorem of_c (op : Int) (w : World) : Calls Tryz.prog 133 #[.int .i64 op] w fun e w' => e = .returned (.tuple #[.agg #[.int .i64 (opOf op), .string (strN (nmOf op)), .int .i64 (fmOf op)], .bool (isOp op)]) ∧ Below w.heap.size w w' := by
  go_enter Tryz.func133, Tryz.ntmps133
  go_wp2_with fail
  refine (rows_c _).mono ?_
  rintro e w1 ⟨rfl, rfl⟩
  have HB := Lib.hid (show Below w.heap.size w ((w.alloc (.cells #[.int .i64 0, .string ⟨#[]⟩, .int .i64 0] 140)).alloc (.cells rowsA 140)) from ((Below.refl _ _).alloc (Nat.le_refl _) _).alloc (by simp) _)
  have HR := Lib.hid (fun j => cell_of_row ((w.alloc (.cells #[.int .i64 0, .string ⟨#[]⟩, .int .i64 0] 140)).alloc (.cells rowsA 140)) (w.heap.size + 1) j rowsA 140 (0, 0) (heap_alloc2_new _ _ _))
  have H0 := Lib.hid (show ((w.alloc (.cells #[.int .i64 0, .string ⟨#[]⟩, .int .i64 0] 140)).alloc (.cells rowsA 140)).heap[w.heap.size]? = some (.cells #[.int .i64 0, .string ⟨#[]⟩, .int .i64 0] 140 (0, 0)) from (Below.heap_alloc _ _ _ (by simp)).trans (heap_alloc_new w _))
  obtain ⟨W0, hW0⟩ : ∃ W0, (w.alloc (.cells #[.int .i64 0, .string ⟨#[]⟩, .int .i64 0] 140)).alloc (.cells rowsA 140) = W0 := ⟨_, rfl⟩
  rw [hW0] at HB HR H0 ⊢
  clear hW0
  have q0 := (cell_of_row W0 w.heap.size 0 _ 140 (0, 0) H0.out)
  have q1 := (cell_of_row W0 w.heap.size 1 _ 140 (0, 0) H0.out)
  have q2 := (cell_of_row W0 w.heap.size 2 _ 140 (0, 0) H0.out)
  simp only [List.getElem?_toArray, List.getElem?_cons_zero, List.getElem?_cons_succ] at q0 q1 q2
  have g0 := free_of_row W0 w.heap.size 0 _ 140 H0.out
  have g1 := free_of_row W0 w.heap.size 1 _ 140 H0.out
  have g2 := free_of_row W0 w.heap.size 2 _ 140 H0.out
  go_wp2
  go_loopw [5] (fun x wr => ∃ k : Nat, k ≤ 97 ∧ x = .int .i64 (k : Int) ∧ (∀ j, j < k → opK j ≠ op) ∧ wr = W0) (fun x _ => 97 - (intOf x).toNat)
  case atStart => exact ⟨0, by omega, rfl, by intro j hj; omega, rfl⟩
  case round =>
    obtain ⟨k, hk, rfl, hlo, hw⟩ := hrel
    subst hw
    have LO := Lib.hid hlo
    clear hlo
    by_cases hlt : k < 97
    · have hI : (k : Int) < 97 := by omega
      obtain ⟨r0, r1, r2⟩ := rows_get hlt
      rw [Nat.mul_comm 3 k] at r0 r1 r2
      have c0 := (HR.out _).trans r0
      have c1 := (HR.out _).trans r1
      have c2 := (HR.out _).trans r2
      obtain ⟨o, ho⟩ : ∃ o, opK k = o := ⟨_, rfl⟩
      rw [ho] at c0
      have HO := Lib.hid ho
      clear ho r0 r1 r2
      by_cases h : o = op
      · subst h
        have hx := Lib.hid (ix_of hlt HO.out)
        have e0 : (o == o) = true := by simp
        go_wp2
        refine bodyPost_ret (res_cell_tmp Tryz.results133 _ _ w.heap.size _ 140 _ rfl rfl (sets3 H0.out (.int .i64 o) (.string (strN (nmK k))) (.int .i64 (fmK k))) Tryz.underlying140 rfl (by kernel_rfl)) rfl ⟨?_, below_sets3 HB.out (Nat.le_refl _) _ _ _⟩
        unfold opOf nmOf fmOf isOp
        rw [hx.out, if_pos hlt, if_pos hlt, if_pos hlt, decide_eq_true hlt]; rfl
      · have e0 : (o == op) = false := by simpa using h
        go_wp2
        refine ⟨⟨k + 1, by omega, rfl, ?_, trivial⟩, by simp [intOf]; omega⟩
        intro j hj
        rcases Nat.lt_or_ge j k with h2 | h2
        · exact LO.out j h2
        · rw [show j = k by omega, HO.out]; exact h
    · obtain rfl : k = 97 := by omega
      have hx := Lib.hid (ix_none LO.out)
      go_wp2
      refine bodyPost_ret (res_cell_tmp Tryz.results133 _ _ w.heap.size _ 140 _ rfl rfl (sets3 H0.out (.int .i64 0) (.string ⟨#[]⟩) (.int .i64 0)) Tryz.underlying140 rfl (by kernel_rfl)) rfl ⟨?_, below_sets3 HB.out (Nat.le_refl _) _ _ _⟩
      unfold opOf nmOf fmOf isOp
      rw [hx.out]; rfl
set_option maxHeartbeats 1000000 in
theorem rform_c (op : Int) (w : World) : Calls Tryz.prog 50 #[.int .i64 op] w fun e w' => e = .returned (.tuple #[.int .i64 (fmOf op), .bool (isOp op)]) ∧ Below w.heap.size w w' := by
  go_enter Tryz.func50, Tryz.ntmps50
  go_wp2_with fail
  refine (of_c op _).mono ?_
  rintro e w1 ⟨rfl, hb⟩
  have HB := Lib.hid hb
  clear hb
  go_wp2
  go_returns
  exact ⟨rfl, HB.out.alloc HB.out.size _⟩
end Go.Proofs.YthjdjbipfdigeaaGreat

