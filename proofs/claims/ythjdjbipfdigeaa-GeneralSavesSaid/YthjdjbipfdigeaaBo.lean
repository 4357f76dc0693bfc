/- SMALL: a slice of bytes that the call itself made (it may be written and appended to), as a list of numbers; append of bytes onto it. No conditions. -/
import Derived.Test.YthjdjbipfdigeaaProg
import Derived.Test.YthjdjbipfdigeaaWdF
import Derived.Laws.AppendOwn
import Derived.Laws.AppendOwnNone
import Derived.Laws.OwnMore
import Derived.Laws.CopyOwn
import Derived.OwnWalk
namespace Go.Proofs.Ythjdjbipfdigeaa
open Go.RowKit
set_option linter.unusedVariables false

theorem info_u8 : (Try.prog.info? 5).map (fun i => (i.zero, i.size, i.bytes)) = some (some (.int .u8 0), 1, 1) := by kernel_rfl

theorem cell_blk {w : World} {g : Nat} {C : Array Value} {t : TypeId} {fr : Nat × Nat} (h : w.heap[g]? = some (.cells C t fr)) (i : Nat) : w.cell? ⟨g, i, none⟩ = C[i]? := by simp [World.cell?, h]

/-- The slice value v of n bytes zs is the call's own: nil, or the head of a block from 'base' on. -/
def Own (w : World) (base : Nat) (v : Value) (n : Nat) (zs : List Int) : Prop :=
  w.ownsRow base 5 1 v n (zs.map (Value.int .u8)) ∧ ∀ z ∈ zs, 0 ≤ z ∧ z ≤ 255

section
variable {w w' : World} {base n : Nat} {v : Value} {zs : List Int}
theorem Own.len (h : Own w base v n zs) : zs.length = n := by have := h.1.1; simpa using this
theorem Own.nil (w : World) (base : Nat) : Own w base (.slice none 0 0) 0 [] := ⟨World.ownsRow_nil w base _ _, by simp⟩
theorem Own.empty (w : World) (base : Nat) (hb : base ≤ w.heap.size) : Own (w.alloc (.cells #[] 5)) base (.slice (some ⟨w.heap.size, 0, none⟩) 0 0) 0 [] :=
  ⟨World.ownsRow_made w #[] 0 hb (Nat.zero_le _) rfl, by simp⟩
theorem Own.alloc (h : Own w base v n zs) (o : Obj) : Own (w.alloc o) base v n zs := ⟨h.1.alloc o, h.2⟩
theorem Own.drewN (h : Own w base v n zs) (k : Nat) : Own (w.drewN k) base v n zs := h
theorem Own.below {B : Nat} (h : Own w base v n zs) (hb : Below B w w') (hv : ∀ g, v.ownBlock = some g → g < B) : Own w' base v n zs := by
  refine ⟨⟨h.1.1, ?_⟩, h.2⟩
  rcases h.1.2 with h0 | ⟨g, cap, cur, rfl, hg, hh, r⟩
  · exact .inl h0
  · exact .inr ⟨g, cap, cur, rfl, hg, (hb.block g (hv g rfl)).trans hh, r⟩
theorem Own.form (h : Own w base v n zs) : (v = .slice none 0 0 ∧ n = 0) ∨ ∃ g cap, v = .slice (some ⟨g, 0, none⟩) n cap ∧ base ≤ g ∧ g < w.heap.size ∧ n ≤ cap ∧ cap ≤ maxLen := by
  rcases h.1.2 with h0 | ⟨g, cap, cur, rfl, hg, hh, h1, h2, _⟩
  · exact .inl h0
  · exact .inr ⟨g, cap, rfl, hg, (Array.getElem?_eq_some_iff.1 hh).1, h1, h2⟩
theorem Own.pos (h : Own w base v n zs) (h0 : 0 < n) : ∃ g cap, v = .slice (some ⟨g, 0, none⟩) n cap ∧ base ≤ g ∧ g < w.heap.size ∧ n ≤ cap ∧ cap ≤ maxLen := by
  rcases h.form with ⟨_, h1⟩ | h1
  · omega
  · exact h1
theorem Own.heap {g cap : Nat} (h : Own w base (.slice (some ⟨g, 0, none⟩) n cap) n zs) : ∃ cur : List Value, w.heap[g]? = some (.cells cur.toArray 5 (0, 0)) ∧ cur.length = cap ∧ cur.take n = zs.map (Value.int .u8) ∧ base ≤ g ∧ n ≤ cap ∧ cap ≤ maxLen := by
  rcases h.1.2 with ⟨h0, _⟩ | ⟨g', cap', cur, hv, hg, hh, h1, h2, h3, h4⟩
  · cases h0
  · injection hv with hA _ hc
    injection hA with hA; injection hA with hA
    subst hA hc
    exact ⟨cur.toList, by simpa using hh, by simpa using h3, by simpa using h4, hg, h1, h2⟩
theorem Own.of_heap {g cap : Nat} {cur : List Value} (h : w.heap[g]? = some (.cells cur.toArray 5 (0, 0))) (hl : cur.length = cap) (ht : cur.take n = zs.map (Value.int .u8)) (hz : zs.length = n) (hg : base ≤ g) (hn : n ≤ cap) (hm : cap ≤ maxLen) (hr : ∀ z ∈ zs, 0 ≤ z ∧ z ≤ 255) :
    Own w base (.slice (some ⟨g, 0, none⟩) n cap) n zs :=
  ⟨⟨by simp [hz], .inr ⟨g, cap, cur.toArray, rfl, hg, h, hn, hm, by simp [hl], by simpa using ht⟩⟩, hr⟩
/-- it reads as its bytes -/
theorem Own.byt {A : Option Addr} {cap : Nat} (h : Own w base (.slice A n cap) n zs) : Byt w A n zs := by
  refine ⟨h.len, h.2, fun h0 => ?_⟩
  rcases h.1.2 with ⟨_, hn⟩ | ⟨g, cap', cur, hv, _, hh, _, _, _, ht⟩
  · omega
  · injection hv with hA _ hc
    refine ⟨g, 0, hA, fun i hi => ?_⟩
    have hz : i < zs.length := by rw [h.len]; exact hi
    have e : (cur.toList.take (n * 1))[i]? = some (.int .u8 zs[i]) := by rw [ht]; simp [hz]
    rw [List.getElem?_take, if_pos (by omega)] at e
    have e2 : cur[i]? = some (.int .u8 zs[i]) := by simpa using e
    simp [World.cell?, hh, e2, List.getD_eq_getElem?_getD, hz]
theorem Own.block (h : Own w base v n zs) : ∀ g, v.ownBlock = some g → base ≤ g ∧ g < w.heap.size := h.1.lt
end

/-- a new block of bytes, written out -/
theorem byt_new (w : World) (zs : List Int) (hr : ∀ z ∈ zs, 0 ≤ z ∧ z ≤ 255) (C : Array Value) (hC : C.toList = zs.map (Value.int .u8)) (n : Nat) (hn : zs.length = n) (e : TypeId) : Byt (w.alloc (.cells C e)) (some ⟨w.heap.size, 0, none⟩) n zs := by
  refine ⟨hn, hr, fun _ => ⟨w.heap.size, 0, rfl, fun i hi => ?_⟩⟩
  have hz : i < zs.length := by omega
  have e1 : C[i]? = some (.int .u8 zs[i]) := by rw [← Array.getElem?_toList, hC]; simp [hz]
  have e2 : (w.alloc (.cells C e)).heap[w.heap.size]? = some (.cells C e (0, 0)) := heap_alloc_new w _
  rw [cell_blk e2, Nat.zero_add, e1]; simp [List.getD_eq_getElem?_getD, hz]

theorem addr_plus (b off j : Nat) : (⟨b, off, none⟩ : Addr).add j = ⟨b, off + j, none⟩ := by unfold Addr.add; split <;> simp_all
/-- APPEND of bytes onto the call's own -/
theorem wpList_append_bytes {w : World} {ops : Array Oper} {rest : List Oper} {o : Oper} {a : Act} {Q : Exit → Act → World → Prop} (hgd : o.guard = none) (s x : Operand)
    (ho : o.op = .call { callee := .builtin .append, args := #[s, x], argTypes := #[31, 31] })
    (base : Nat) (v : Value) (n : Nat) (zs : List Int) (hs : a.eval s = v) (hown : Own w base v n zs)
    (A : Option Addr) (m c : Nat) (ys : List Int) (hx : a.eval x = .slice A m c) (hy : Byt w A m ys) (hc : A = none → c = 0) (h63 : n + m ≤ 140737488355328) (hbase : base ≤ w.heap.size)
    (h : ∀ v' w', Own w' base v' (n + m) (zs ++ ys) → w.grownBy w' v.ownBlock → wpList Try.prog ops Q rest (a.put o.dst v') w') : wpList Try.prog ops Q (o :: rest) a w := by
  obtain ⟨i0, hi, hz0, hz1, hz2⟩ := info_parts info_u8
  rcases A with _ | ad
  · have hm : m = 0 := by
      rcases Nat.eq_zero_or_pos m with h0 | h0
      · exact h0
      · obtain ⟨b, off, e, _⟩ := hy.2.2 h0; cases e
    subst hm
    obtain rfl : ys = [] := List.eq_nil_of_length_eq_zero hy.1
    rw [hc rfl] at hx
    refine wpList_append_own_none hgd s x 31 ho base 5 i0 1 Try.underlying31 hi v n _ hs hown.1 hx ?_
    exact h v w (by simpa using hown) (World.grownBy.refl w _)
  · refine wpList_append_own w hgd s x 31 ho base 5 i0 (.int .u8 0) 1 1 Try.underlying31 hi hz0 hz1 hz2 rfl (by decide) v n _ hs hown.1 ad m c (ys.map (Value.int .u8)) hx (by simp [hy.1]) ?_ (by simp [Value.oneCell']) (by unfold maxLen; omega) (by omega) hbase ?_
    · intro j u hu
      have hj : j < ys.length := by
        rcases Nat.lt_or_ge j ys.length with h1 | h1
        · exact h1
        · rw [List.getElem?_eq_none (by simpa using h1)] at hu; cases hu
      obtain ⟨b, off, e, hcell⟩ := hy.2.2 (by rw [← hy.1]; omega)
      obtain rfl := Option.some.inj e
      have h2 := hcell j (by rw [← hy.1]; exact hj)
      have hadd := addr_plus b off j
      rw [hadd, h2]
      simp [hj] at hu
      simp [List.getD_eq_getElem?_getD, hj, hu]
    · intro v' w' h1 h2 _
      refine h v' w' ⟨by simpa using h1, ?_⟩ h2
      intro z hz
      rcases List.mem_append.mp hz with hz | hz
      · exact hown.2 z hz
      · exact hy.2.1 z hz

theorem splice_map (f : Int → Value) (L : List Int) (k : Nat) (ys : List Int) : splice (L.map f) k (ys.map f) = (splice L k ys).map f := by simp [splice]
theorem splice_range (L : List Int) (k : Nat) (ys : List Int) (h1 : ∀ z ∈ L, 0 ≤ z ∧ z ≤ 255) (h2 : ∀ z ∈ ys, 0 ≤ z ∧ z ≤ 255) : ∀ z ∈ splice L k ys, 0 ≤ z ∧ z ≤ 255 := by
  intro z hz
  unfold splice at hz
  rcases List.mem_append.mp hz with hz | hz
  · exact h1 z (List.mem_of_mem_take hz)
  · rcases List.mem_append.mp hz with hz | hz
    · exact h2 z hz
    · exact h1 z (List.mem_of_mem_drop hz)
theorem take_splice {α : Type} (L : List α) (k n : Nat) (ys : List α) (h : k + ys.length ≤ n) (hn : n ≤ L.length) : (splice L k ys).take n = splice (L.take n) k ys := by
  have e1 : L.drop (k + ys.length) = (L.take n).drop (k + ys.length) ++ L.drop n := by
    conv => lhs; rw [← List.take_append_drop n L]
    rw [List.drop_append_of_le_length (by rw [List.length_take]; omega)]
  have e2 : L.take k = (L.take n).take k := by rw [List.take_take, Nat.min_eq_left (by omega)]
  have e3 : splice L k ys = splice (L.take n) k ys ++ L.drop n := by
    unfold splice; rw [e1, e2]; simp only [List.append_assoc]
  rw [e3]
  exact List.take_left' (by rw [length_splice _ _ _ (by rw [List.length_take]; omega), List.length_take]; omega)

/-- a slice's bytes as cells, at the address's own spelling -/
theorem Byt.cells {w : World} {b off m : Nat} {ys : List Int} (h : Byt w (some ⟨b, off, none⟩) m ys) (h0 : 0 < m) : ∀ j u, (ys.map (Value.int .u8))[j]? = some u → w.cell? ((⟨b, off, none⟩ : Addr).add j) = some u := by
  intro j u hu
  have hj : j < ys.length := by
    rcases Nat.lt_or_ge j ys.length with h1 | h1
    · exact h1
    · rw [List.getElem?_eq_none (by simpa using h1)] at hu; cases hu
  obtain ⟨b', off', e, hcell⟩ := h.2.2 h0
  injection e with e; injection e with e1 e2; subst e1 e2
  have h2 := hcell j (by rw [← h.1]; exact hj)
  have hadd : (⟨b, off, none⟩ : Addr).add j = ⟨b, off + j, none⟩ := by unfold Addr.add; split <;> simp_all
  rw [hadd, h2]
  simp [hj] at hu
  simp [List.getD_eq_getElem?_getD, hj, hu]

/-- COPY of bytes into the call's own, from place k on -/
theorem run_copy_own {w : World} {base n cap : Nat} {zs : List Int} {g k dLen dCap b off m c : Nat} {ys : List Int} (h : Own w base (.slice (some ⟨g, 0, none⟩) n cap) n zs) (hy : Byt w (some ⟨b, off, none⟩) m ys) (h0 : 0 < m) (hd : m ≤ dLen) (hk : k + m ≤ n) :
    ∃ w2, (Builtin.copy_ #[31, 31] 3 #[.slice (some ⟨g, k, none⟩) dLen dCap, .slice (some ⟨b, off, none⟩) m c]).run Try.prog w = .ok (.int .i64 (m : Int)) w2 ∧
      Own w2 base (.slice (some ⟨g, 0, none⟩) n cap) n (splice zs k ys) ∧ Below base w w2 := by
  obtain ⟨i0, hi, hz0, hz1, hz2⟩ := info_parts info_u8
  have hone : (Try.prog.info? 5).map (·.size) = some 1 := by rw [hi]; simp [hz1]
  obtain ⟨cur, q1, q2, q3, q4, q5, q6⟩ := Own.heap h
  have hlen : (ys.map (Value.int .u8)).length = m := by simp [hy.1]
  have hrun := run_copy_row (P := Try.prog) w 31 31 3 5 g k dLen dCap ⟨b, off, none⟩ m c cur.toArray 5 (ys.map (Value.int .u8)) Try.underlying31 hone q1 (by rw [hlen]; exact (Nat.min_eq_left hd).symm) (hy.cells h0) (by rw [hlen]; simp; omega) (by simp [Value.oneCell'])
  have e : cur.toArray.toList.take k ++ ys.map (Value.int .u8) ++ cur.toArray.toList.drop (k + (ys.map (Value.int .u8)).length) = splice cur k (ys.map (Value.int .u8)) := by simp [splice]
  rw [e, hlen] at hrun
  refine ⟨_, hrun, ?_, below_setRow (Below.refl _ _) q4 _⟩
  refine Own.of_heap (setRow_heap w g _ _ _ _ q1) ?_ ?_ ?_ q4 q5 q6 (splice_range _ _ _ h.2 hy.2.1)
  · rw [length_splice _ _ _ (by rw [hlen]; omega), q2]
  · rw [take_splice _ _ _ _ (by rw [hlen]; exact hk) (by omega), q3, splice_map]
  · rw [length_splice _ _ _ (by rw [hy.1, h.len]; exact hk), h.len]
end Go.Proofs.Ythjdjbipfdigeaa
