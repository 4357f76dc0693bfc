/- SMALL: make, copy, clear on a storage's rows as run equations; lists laid over lists. No conditions. -/
import Derived.Test.YthjdjbipfdigeaaSt
import Derived.Lib.SliceRun
import Derived.Laws.IdiomCopy
namespace Go.Proofs.Ythjdjbipfdigeaa
open Go.RowKit
set_option maxRecDepth 100000
set_option linter.unusedVariables false

theorem splice_get {α : Type} (L : List α) (k : Nat) (us : List α) (h : k + us.length ≤ L.length) (i : Nat) : (splice L k us)[i]? = if i < k then L[i]? else if i < k + us.length then us[i - k]? else L[i]? := by
  unfold splice
  rw [List.getElem?_append]
  rw [List.length_take]
  by_cases h1 : i < k
  · rw [if_pos (by omega), if_pos h1, List.getElem?_take, if_pos h1]
  · rw [if_neg (by omega), if_neg h1, List.getElem?_append, show min k L.length = k from by omega]
    by_cases h2 : i < k + us.length
    · rw [if_pos (by omega), if_pos h2]
    · rw [if_neg (by omega), if_neg h2, List.getElem?_drop]
      congr 1; omega
theorem splice_set {α : Type} (L : List α) (k : Nat) (us : List α) (y : α) (h : k + us.length < L.length) : (splice L k us).set (k + us.length) y = splice L k (us ++ [y]) := by
  apply List.ext_getElem?
  intro i
  rw [List.getElem?_set, splice_get _ _ _ (by omega), splice_get _ _ _ (by simp; omega), length_splice _ _ _ (by omega)]
  simp only [List.length_append, List.length_cons, List.length_nil]
  by_cases h1 : k + us.length = i
  · subst h1
    rw [if_pos rfl, if_pos h, if_neg (by omega), if_pos (by omega), List.getElem?_append, if_neg (by omega)]
    simp
  · rw [if_neg h1]
    by_cases h2 : i < k
    · rw [if_pos h2, if_pos h2]
    · rw [if_neg h2, if_neg h2]
      by_cases h3 : i < k + us.length
      · rw [if_pos h3, if_pos (by omega), List.getElem?_append, if_pos (by omega)]
      · rw [if_neg h3, if_neg (by omega)]
theorem splice_nil {α : Type} (L : List α) (k : Nat) : splice L k [] = L := by simp [splice]
theorem splice_all {α : Type} (L us : List α) (h : us.length = L.length) : splice L 0 us = us := by simp [splice, h]
theorem splice_cons {α : Type} (L : List α) (k : Nat) (u : α) (us : List α) (h : k + (us.length + 1) ≤ L.length) : splice (L.set k u) (k + 1) us = splice L k (u :: us) := by
  apply List.ext_getElem?
  intro i
  rw [splice_get _ _ _ (by simp; omega), splice_get _ _ _ (by simp; omega), List.getElem?_set]
  simp only [List.length_cons]
  by_cases h1 : i < k
  · rw [if_pos (by omega), if_pos h1, if_neg (by omega)]
  · rw [if_neg h1]
    by_cases h2 : i = k
    · subst h2
      rw [if_pos (by omega), if_pos rfl, if_pos (by omega), if_pos (by omega)]
      simp
    · rw [if_neg (by omega)]
      by_cases h3 : i < k + 1 + us.length
      · rw [if_pos h3, if_pos (by omega), show i - k = (i - (k + 1)) + 1 from by omega]
        simp
      · rw [if_neg h3, if_neg (by omega), if_neg (by omega)]

/-- k zero bytes, k zero numbers, behind a name -/
def zeroB (k : Nat) : Array Value := (List.replicate k (Value.int .u8 0)).toArray
def zeroI (k : Nat) : Array Value := (List.replicate k (Value.int .i64 0)).toArray
theorem info_int : (Try.prog.info? 3).map (fun i => (i.zero, i.size, i.bytes)) = some (some (.int .i64 0), 1, 8) := by kernel_rfl
theorem made_one (z : Value) (n : Nat) (hz : z.cells = #[z]) : madeCells z.cells n = (List.replicate n z).toArray := by
  rw [hz]
  unfold madeCells
  apply Array.ext
  · simp
  · intro i h1 h2
    simp [Nat.mod_one]
theorem run_mk_b (k : Nat) (hk : (k : Int) ≤ 1000000) (W : World) : (Instr.makeSlice 31 (.int .i64 (k : Int)) (.int .i64 (k : Int))).run Try.prog W = .ok (.slice (some ⟨W.heap.size, 0, none⟩) k k) (W.alloc (.cells (zeroB k) 5)) := by
  obtain ⟨i0, hi, hz0, hz1, hz2⟩ := info_parts info_u8
  have h := run_make (P := Try.prog) W 31 5 i0 (.int .u8 0) Try.underlying31 hi hz0 .i64 .i64 (k : Int) (k : Int) (by omega) (by omega) (by rw [hz2]; omega) (by omega)
  rw [hz1, Nat.mul_one, Int.toNat_natCast, made_one _ _ rfl] at h
  exact h
theorem run_mk_i (k : Nat) (hk : (k : Int) ≤ 1000000) (W : World) : (Instr.makeSlice 61 (.int .i64 (k : Int)) (.int .i64 (k : Int))).run Try.prog W = .ok (.slice (some ⟨W.heap.size, 0, none⟩) k k) (W.alloc (.cells (zeroI k) 3)) := by
  obtain ⟨i0, hi, hz0, hz1, hz2⟩ := info_parts info_int
  have h := run_make (P := Try.prog) W 61 3 i0 (.int .i64 0) Try.underlying61 hi hz0 .i64 .i64 (k : Int) (k : Int) (by omega) (by omega) (by rw [hz2]; omega) (by omega)
  rw [hz1, Nat.mul_one, Int.toNat_natCast, made_one _ _ rfl] at h
  exact h
theorem own_zeros (W : World) (k base : Nat) (hb : base ≤ W.heap.size) (hk : k ≤ maxLen) : Own (W.alloc (.cells (zeroB k) 5)) base (.slice (some ⟨W.heap.size, 0, none⟩) k k) k (List.replicate k 0) := by
  refine Own.of_heap (cur := List.replicate k (Value.int .u8 0)) (heap_alloc_new W _) (by simp) ?_ (by simp) hb (Nat.le_refl _) hk ?_
  · rw [List.take_of_length_le (by simp)]; simp
  · intro z hz; rw [List.eq_of_mem_replicate hz]; omega

section
variable {T : TypeId} {w : World} {F : Foot} {bs ks : List Int}
/-- COPY out of a storage into new bytes -/
theorem run_copy_from (h : St T w F bs ks) {base g k a : Nat} {c' : Nat} {zs : List Int} {X : Option Addr} (hO : Own w base (.slice (some ⟨g, 0, none⟩) k k) k zs) (ha : a + k ≤ bs.length) (hX : X = some ⟨F.gb, a, none⟩ ∨ (X = some ⟨F.gb, 0, none⟩ ∧ k = 0)) :
    ∃ w2, (Builtin.copy_ #[31, 31] 3 #[.slice (some ⟨g, 0, none⟩) k k, .slice X (bs.length - a) c']).run Try.prog w = .ok (.int .i64 (k : Int)) w2 ∧
      Own w2 base (.slice (some ⟨g, 0, none⟩) k k) k ((bs.drop a).take k) ∧ Below base w w2 := by
  obtain ⟨i0, hi, hz0, hz1, hz2⟩ := info_parts info_u8
  have hone : (Try.prog.info? 5).map (·.size) = some 1 := by rw [hi]; simp [hz1]
  obtain ⟨cur, q1, q2, q3, q4, q5, q6⟩ := Own.heap hO
  have hby := h.byt (a := a) (n := k) (by omega)
  have hlen : (((bs.drop a).take k).map (Value.int .u8)).length = k := by simp; omega
  obtain ⟨ad, rfl, hsrc⟩ : ∃ ad, X = some ad ∧ ∀ j u, (((bs.drop a).take k).map (Value.int .u8))[j]? = some u → w.cell? (ad.add j) = some u := by
    rcases hX with rfl | ⟨rfl, rfl⟩
    · refine ⟨_, rfl, ?_⟩
      rcases Nat.eq_zero_or_pos k with rfl | h0
      · intro j u hu; simp at hu
      · exact hby.cells h0
    · exact ⟨_, rfl, by intro j u hu; simp at hu⟩
  have hrun := run_copy_row (P := Try.prog) w 31 31 3 5 g 0 k k ad (bs.length - a) c' cur.toArray 5 (((bs.drop a).take k).map (Value.int .u8)) Try.underlying31 hone q1 (by rw [hlen]; exact (Nat.min_eq_right (by omega)).symm) hsrc (by rw [hlen]; simp; omega) (by intro v hv; obtain ⟨z, _, rfl⟩ := List.mem_map.1 hv; rfl)
  have e : cur.toArray.toList.take 0 ++ ((bs.drop a).take k).map (Value.int .u8) ++ cur.toArray.toList.drop (0 + (((bs.drop a).take k).map (Value.int .u8)).length) = ((bs.drop a).take k).map (Value.int .u8) := by
    rw [hlen]; simp [List.drop_of_length_le (show cur.length ≤ k by omega)]
  rw [e, hlen] at hrun
  refine ⟨_, hrun, ?_, below_setRow (Below.refl _ _) q4 _⟩
  refine Own.of_heap (setRow_heap w g _ _ _ _ q1) hlen ?_ hby.1 q4 q5 q6 hby.2.1
  rw [List.take_of_length_le (by rw [hlen]; exact Nat.le_refl _)]
/-- COPY of bytes into a storage -/
theorem run_copy_to (h : St T w F bs ks) (hT : T ≠ 5) {a len c dc : Nat} {ys : List Int} {A X : Option Addr} (hy : Byt w A len ys) (ha : a + len ≤ bs.length) (hX : X = some ⟨F.gb, a, none⟩ ∨ (X = some ⟨F.gb, 0, none⟩ ∧ len = 0)) :
    ∃ w2, (Builtin.copy_ #[31, 31] 3 #[.slice X (bs.length - a) dc, .slice A len c]).run Try.prog w = .ok (.int .i64 (len : Int)) w2 ∧
      St T w2 F (splice bs a ys) ks ∧ w.grownBy w2 (some F.gb) := by
  obtain ⟨i0, hi, hz0, hz1, hz2⟩ := info_parts info_u8
  have hone : (Try.prog.info? 5).map (·.size) = some 1 := by rw [hi]; simp [hz1]
  rcases Nat.eq_zero_or_pos len with rfl | h0
  · obtain rfl : ys = [] := List.eq_nil_of_length_eq_zero hy.1
    have hrun := run_copy_none (P := Try.prog) w 31 31 3 5 X A (bs.length - a) dc 0 c Try.underlying31 hone (by simp)
    exact ⟨w, hrun, by rw [splice_nil]; exact h, World.grownBy.refl w _⟩
  · obtain ⟨b, off, rfl, _⟩ := hy.2.2 h0
    obtain rfl : X = some ⟨F.gb, a, none⟩ := by
      rcases hX with h1 | ⟨_, h2⟩
      · exact h1
      · omega
    obtain ⟨cur, h1, h2, h3⟩ := h.lay hT a ys hy.2.1 (by rw [hy.1]; exact ha)
    have hlen : (ys.map (Value.int .u8)).length = len := by simp [hy.1]
    have hcap := h.capb
    have hrun := run_copy_row (P := Try.prog) w 31 31 3 5 F.gb a (bs.length - a) dc ⟨b, off, none⟩ len c cur.toArray 5 (ys.map (Value.int .u8)) Try.underlying31 hone h1 (by rw [hlen]; exact (Nat.min_eq_left (by omega)).symm) (hy.cells h0) (by rw [hlen]; simp; omega) (by intro v hv; obtain ⟨z, _, rfl⟩ := List.mem_map.1 hv; rfl)
    have e : cur.toArray.toList.take a ++ ys.map (Value.int .u8) ++ cur.toArray.toList.drop (a + (ys.map (Value.int .u8)).length) = splice cur a (ys.map (Value.int .u8)) := by simp [splice]
    rw [e, hlen] at hrun
    exact ⟨_, hrun, h3, grown_setRow _ _ _⟩
theorem St.setCells (hT : T ≠ 5) : ∀ (ys : List Int) (o : Nat) (w : World) (bs : List Int), St T w F bs ks → (∀ z ∈ ys, 0 ≤ z ∧ z ≤ 255) → o + ys.length ≤ bs.length → St T (w.setCells F.gb o (ys.map (Value.int .u8))) F (splice bs o ys) ks ∧ w.grownBy (w.setCells F.gb o (ys.map (Value.int .u8))) (some F.gb)
  | [], o, w, bs, h, _, _ => by rw [splice_nil]; exact ⟨h, World.grownBy.refl w _⟩
  | y :: ys, o, w, bs, h, hy, ho => by
    rw [List.length_cons] at ho
    have h1 := h.setByte hT (i := o) (hy y (by simp))
    obtain ⟨h2, h3⟩ := St.setCells hT ys (o + 1) _ _ h1 (fun z hz => hy z (by simp [hz])) (by rw [List.length_set]; omega)
    rw [splice_cons _ _ _ _ (by omega)] at h2
    exact ⟨h2, grown_trans (grown_setCell w F.gb o _) h3⟩
/-- CLEAR of bytes of a storage -/
theorem run_clear_st (h : St T w F bs ks) (hT : T ≠ 5) {a n c : Nat} {X : Option Addr} {ty : TypeId} (ha : a + n ≤ bs.length) (hX : X = some ⟨F.gb, a, none⟩ ∨ (X = some ⟨F.gb, 0, none⟩ ∧ n = 0)) :
    ∃ w2, (Builtin.clear_ #[31] ty #[.slice X n c]).run Try.prog w = .ok (.tuple #[]) w2 ∧ St T w2 F (splice bs a (List.replicate n 0)) ks ∧ w.grownBy w2 (some F.gb) := by
  rcases Nat.eq_zero_or_pos n with rfl | h0
  · refine ⟨w, ?_, by rw [List.replicate_zero, splice_nil]; exact h, World.grownBy.refl w _⟩
    rcases hX with rfl | ⟨rfl, _⟩ <;> simp [Builtin.clear_, run_underlying Try.underlying31]
  · obtain rfl : X = some ⟨F.gb, a, none⟩ := by
      rcases hX with h1 | ⟨_, h2⟩
      · exact h1
      · omega
    have hz : ∀ w, (zeroValue 5).run Try.prog w = .ok (.int .u8 0) w := fun w => by kernel_rfl
    have hrun := Lib.run_clear_slice (P := Try.prog) w 31 5 ty (.int .u8 0) Try.underlying31 hz rfl rfl F.gb a n c h0 (fun j hj => by rw [h.byte (by omega)]; rfl) (fun j _ => h.b.free _)
    have h2 := St.setCells hT (List.replicate n 0) a w bs h (fun z hz => by rw [List.eq_of_mem_replicate hz]; omega) (by simp; omega)
    rw [List.map_replicate] at h2
    exact ⟨_, hrun, h2.1, h2.2⟩
end
end Go.Proofs.Ythjdjbipfdigeaa
