/- Contracts and laws on the way to the statement, text 2 of 5. Conditions: as each states them. -/
import Derived.Test.YthjdjbipfdigeaaMv1
import Derived.Lib.SliceRun
import Derived.Laws.IdiomCopy
import Derived.Lib.Hide
import Derived.Outline
import Derived.Handy
import Derived.BigQuiet
import Derived.Deep.QuietTactic
import Derived.StillTailTactics
import Derived.RangeFuncNested
import Derived.RangeFuncBound
import Derived.RangeFuncCalls
import Derived.RangeFuncLeaves
import Derived.Shelf.Abstract
import Derived.Shelf.RegionOpen
import Derived.WalkKit
import Derived.OwnWalkIn
import Derived.TacticsInMore
import Derived.LoopNIn
import Derived.LoopIn
import Derived.Laws.EntriesVeiled
import Derived.BigRegion
import Derived.Deep.RegionHeld3
import Derived.Recover
import Derived.Defers
import Derived.Test.YthjdjbipfdigeaaProg
import Derived.Below
namespace Go.Proofs.Ythjdjbipfdigeaa
open Go.RowKit
set_option maxRecDepth 100000
set_option linter.unusedVariables false

theorem splice_get {α : Type} (L : List α) (k : Nat) (us : List α) (h : k + us.length ≤ L.length) (i : Nat) : (splice L k us)[i]? = if i < k then L[i]? else if i < k + us.length then us[i - k]? else L[i]? := by
  unfold splice
  rw [List.getElem?_append]
  rw [List.length_take]
  by_cases h1 : i < k
  · rw [if_pos (by omega), if_pos h1, List.getElem?_take, if_pos h1]
  · rw [if_neg (by omega), if_neg h1, List.getElem?_append, show min k L.length = k from by omega]
    by_cases h2 : i < k + us.length
    · rw [if_pos (by omega), if_pos h2]
    · rw [if_neg (by omega), if_neg h2, List.getElem?_drop]
      congr 1; omega
theorem splice_nil {α : Type} (L : List α) (k : Nat) : splice L k [] = L := by simp [splice]
/-- k zero bytes, k zero numbers, behind a name -/
def zeroB (k : Nat) : Array Value := (List.replicate k (Value.int .u8 0)).toArray
def zeroI (k : Nat) : Array Value := (List.replicate k (Value.int .i64 0)).toArray
theorem info_int : (Try.prog.info? 3).map (fun i => (i.zero, i.size, i.bytes)) = some (some (.int .i64 0), 1, 8) := by kernel_rfl
theorem made_one (z : Value) (n : Nat) (hz : z.cells = #[z]) : madeCells z.cells n = (List.replicate n z).toArray := by
  rw [hz]
  unfold madeCells
  apply Array.ext
  · simp
  · intro i h1 h2
    simp [Nat.mod_one]
theorem run_mk_b (k : Nat) (hk : (k : Int) ≤ 1000000) (W : World) : (Instr.makeSlice 31 (.int .i64 (k : Int)) (.int .i64 (k : Int))).run Try.prog W = .ok (.slice (some ⟨W.heap.size, 0, none⟩) k k) (W.alloc (.cells (zeroB k) 5)) := by
  obtain ⟨i0, hi, hz0, hz1, hz2⟩ := info_parts info_u8
  have h := run_make (P := Try.prog) W 31 5 i0 (.int .u8 0) Try.underlying31 hi hz0 .i64 .i64 (k : Int) (k : Int) (by omega) (by omega) (by rw [hz2]; omega) (by omega)
  rw [hz1, Nat.mul_one, Int.toNat_natCast, made_one _ _ rfl] at h
  exact h
theorem run_mk_i (k : Nat) (hk : (k : Int) ≤ 1000000) (W : World) : (Instr.makeSlice 61 (.int .i64 (k : Int)) (.int .i64 (k : Int))).run Try.prog W = .ok (.slice (some ⟨W.heap.size, 0, none⟩) k k) (W.alloc (.cells (zeroI k) 3)) := by
  obtain ⟨i0, hi, hz0, hz1, hz2⟩ := info_parts info_int
  have h := run_make (P := Try.prog) W 61 3 i0 (.int .i64 0) Try.underlying61 hi hz0 .i64 .i64 (k : Int) (k : Int) (by omega) (by omega) (by rw [hz2]; omega) (by omega)
  rw [hz1, Nat.mul_one, Int.toNat_natCast, made_one _ _ rfl] at h
  exact h
theorem own_zeros (W : World) (k base : Nat) (hb : base ≤ W.heap.size) (hk : k ≤ maxLen) : Own (W.alloc (.cells (zeroB k) 5)) base (.slice (some ⟨W.heap.size, 0, none⟩) k k) k (List.replicate k 0) := by
  refine Own.of_heap (cur := List.replicate k (Value.int .u8 0)) (heap_alloc_new W _) (by simp) ?_ (by simp) hb (Nat.le_refl _) hk ?_
  · rw [List.take_of_length_le (by simp)]; simp
  · intro z hz; rw [List.eq_of_mem_replicate hz]; omega

section
variable {T : TypeId} {w : World} {F : Foot} {bs ks : List Int}
/-- COPY out of a storage into new bytes -/
theorem run_copy_from (h : St T w F bs ks) {base g k a : Nat} {c' : Nat} {zs : List Int} {X : Option Addr} (hO : Own w base (.slice (some ⟨g, 0, none⟩) k k) k zs) (ha : a + k ≤ bs.length) (hX : X = some ⟨F.gb, a, none⟩ ∨ (X = some ⟨F.gb, 0, none⟩ ∧ k = 0)) :
    ∃ w2, (Builtin.copy_ #[31, 31] 3 #[.slice (some ⟨g, 0, none⟩) k k, .slice X (bs.length - a) c']).run Try.prog w = .ok (.int .i64 (k : Int)) w2 ∧
      Own w2 base (.slice (some ⟨g, 0, none⟩) k k) k ((bs.drop a).take k) ∧ Below base w w2 := by
  obtain ⟨i0, hi, hz0, hz1, hz2⟩ := info_parts info_u8
  have hone : (Try.prog.info? 5).map (·.size) = some 1 := by rw [hi]; simp [hz1]
  obtain ⟨cur, q1, q2, q3, q4, q5, q6⟩ := Own.heap hO
  have hby := h.byt (a := a) (n := k) (by omega)
  have hlen : (((bs.drop a).take k).map (Value.int .u8)).length = k := by simp; omega
  obtain ⟨ad, rfl, hsrc⟩ : ∃ ad, X = some ad ∧ ∀ j u, (((bs.drop a).take k).map (Value.int .u8))[j]? = some u → w.cell? (ad.add j) = some u := by
    rcases hX with rfl | ⟨rfl, rfl⟩
    · refine ⟨_, rfl, ?_⟩
      rcases Nat.eq_zero_or_pos k with rfl | h0
      · intro j u hu; simp at hu
      · exact hby.cells h0
    · exact ⟨_, rfl, by intro j u hu; simp at hu⟩
  have hrun := run_copy_row (P := Try.prog) w 31 31 3 5 g 0 k k ad (bs.length - a) c' cur.toArray 5 (((bs.drop a).take k).map (Value.int .u8)) Try.underlying31 hone q1 (by rw [hlen]; exact (Nat.min_eq_right (by omega)).symm) hsrc (by rw [hlen]; simp; omega) (by intro v hv; obtain ⟨z, _, rfl⟩ := List.mem_map.1 hv; rfl)
  have e : cur.toArray.toList.take 0 ++ ((bs.drop a).take k).map (Value.int .u8) ++ cur.toArray.toList.drop (0 + (((bs.drop a).take k).map (Value.int .u8)).length) = ((bs.drop a).take k).map (Value.int .u8) := by
    rw [hlen]; simp [List.drop_of_length_le (show cur.length ≤ k by omega)]
  rw [e, hlen] at hrun
  refine ⟨_, hrun, ?_, below_setRow (Below.refl _ _) q4 _⟩
  refine Own.of_heap (setRow_heap w g _ _ _ _ q1) hlen ?_ hby.1 q4 q5 q6 hby.2.1
  rw [List.take_of_length_le (by rw [hlen]; exact Nat.le_refl _)]
/-- COPY of bytes into a storage -/
theorem run_copy_to (h : St T w F bs ks) (hT : T ≠ 5) {a len c dc : Nat} {ys : List Int} {A X : Option Addr} (hy : Byt w A len ys) (ha : a + len ≤ bs.length) (hX : X = some ⟨F.gb, a, none⟩ ∨ (X = some ⟨F.gb, 0, none⟩ ∧ len = 0)) :
    ∃ w2, (Builtin.copy_ #[31, 31] 3 #[.slice X (bs.length - a) dc, .slice A len c]).run Try.prog w = .ok (.int .i64 (len : Int)) w2 ∧
      St T w2 F (splice bs a ys) ks ∧ w.grownBy w2 (some F.gb) := by
  obtain ⟨i0, hi, hz0, hz1, hz2⟩ := info_parts info_u8
  have hone : (Try.prog.info? 5).map (·.size) = some 1 := by rw [hi]; simp [hz1]
  rcases Nat.eq_zero_or_pos len with rfl | h0
  · obtain rfl : ys = [] := List.eq_nil_of_length_eq_zero hy.1
    have hrun := run_copy_none (P := Try.prog) w 31 31 3 5 X A (bs.length - a) dc 0 c Try.underlying31 hone (by simp)
    exact ⟨w, hrun, by rw [splice_nil]; exact h, World.grownBy.refl w _⟩
  · obtain ⟨b, off, rfl, _⟩ := hy.2.2 h0
    obtain rfl : X = some ⟨F.gb, a, none⟩ := by
      rcases hX with h1 | ⟨_, h2⟩
      · exact h1
      · omega
    obtain ⟨cur, h1, h2, h3⟩ := h.lay hT a ys hy.2.1 (by rw [hy.1]; exact ha)
    have hlen : (ys.map (Value.int .u8)).length = len := by simp [hy.1]
    have hcap := h.capb
    have hrun := run_copy_row (P := Try.prog) w 31 31 3 5 F.gb a (bs.length - a) dc ⟨b, off, none⟩ len c cur.toArray 5 (ys.map (Value.int .u8)) Try.underlying31 hone h1 (by rw [hlen]; exact (Nat.min_eq_left (by omega)).symm) (hy.cells h0) (by rw [hlen]; simp; omega) (by intro v hv; obtain ⟨z, _, rfl⟩ := List.mem_map.1 hv; rfl)
    have e : cur.toArray.toList.take a ++ ys.map (Value.int .u8) ++ cur.toArray.toList.drop (a + (ys.map (Value.int .u8)).length) = splice cur a (ys.map (Value.int .u8)) := by simp [splice]
    rw [e, hlen] at hrun
    exact ⟨_, hrun, h3, grown_setRow _ _ _⟩
end
end Go.Proofs.Ythjdjbipfdigeaa

namespace Go.Proofs.Ythjdjbipfdigeaa
open Go.RowKit
set_option maxRecDepth 100000
set_option linter.unusedVariables false
set_option linter.unusedSimpArgs false

/-- the call returns a slice of its own that holds zs, and writes nothing that was there -/
def GivesB (w : World) (zs : List Int) (e : Ending) (w' : World) : Prop := ∃ A m c, e = .returned (.slice A m c) ∧ Own w' w.heap.size (.slice A m c) m zs ∧ Below w.heap.size w w'
theorem sGet_no {N : Nat} {bs : List Int} {addr n : Int} (hN : bs.length = N) (h : sIn N addr n = false) : sGet bs addr n = [] := by unfold sGet; rw [hN, h]; rfl
theorem sGet_yes {N a k : Nat} {bs : List Int} (hN : bs.length = N) (h : sIn N (a : Int) (k : Int) = true) : sGet bs (a : Int) (k : Int) = (bs.drop a).take k := by unfold sGet; rw [hN, h]; simp

set_option maxHeartbeats 1000000 in
theorem bytes_c {F : Foot} {bs ks : List Int} (w : World) (h : St 71 w F bs ks) (addr n : Int) : Calls Try.prog 19 #[.pointer (some ⟨F.g, 0, none⟩), .int .i64 addr, .int .i64 n] w (GivesB w (sGet bs addr n)) := by
  obtain ⟨N, hN⟩ : ∃ N, bs.length = N := ⟨_, rfl⟩
  have c0 := h.cell0
  have H := Lib.hid h
  have n0 : (2048 : Int) ≤ (N : Int) := by have := h.ln; have := h.l0; omega
  have n1 : (N : Int) ≤ 65536 := by have := h.ln; have := h.l1; omega
  rw [hN] at c0
  have HN := Lib.hid hN
  have ltg := H.out.ltg
  clear hN h
  cases hi : sIn N addr n
  · rw [sGet_no HN.out hi]
    go_enter Try.func19, Try.ntmps19
    go_wp2_with (go_at_call 34; refine (in_c _ H.out _ _).mono ?_; rintro e w1 ⟨rfl, rfl⟩; rw [HN.out, hi])
    go_ret
    exact ⟨none, 0, 0, rfl, Own.nil _ _, Below.refl _ _⟩
  obtain ⟨b0, b1, b2, b3⟩ := sIn_yes hi
  obtain ⟨a, rfl⟩ := Int.eq_ofNat_of_zero_le b0
  obtain ⟨k, rfl⟩ := Int.eq_ofNat_of_zero_le b1
  have a0 : (a : Int) ≤ (N : Int) := b2
  have a1 : (a : Int) + (k : Int) ≤ (N : Int) := by omega
  have g0 := Lib.hid (show a + k ≤ bs.length from by rw [HN.out]; omega)
  have lb := H.out.capb
  rw [HN.out] at lb
  have lbb := H.out.maxb
  unfold maxLen at lbb
  have kN : (k : Int) ≤ 1000000 := by omega
  have aN : a ≤ N := by omega
  have kk : k ≤ N - a := by omega
  rw [sGet_yes HN.out hi]
  by_cases hcap : F.cb = a
  · obtain rfl : N = a := by omega
    obtain rfl : k = 0 := by omega
    rw [show ((0 : Nat) : Int) = 0 from rfl] at hi ⊢
    have hmk : ∀ W : World, (Instr.makeSlice 31 (.int .i64 0) (.int .i64 0)).run Try.prog W = .ok (.slice (some ⟨W.heap.size, 0, none⟩) 0 0) (W.alloc (.cells (zeroB 0) 5)) := fun W => run_mk_b 0 (by decide) W
    obtain ⟨w2, hcp, ho, hb⟩ := run_copy_from (H.out.alloc (.cells (zeroB 0) 5)) (own_zeros w 0 w.heap.size (Nat.le_refl _) (by decide)) g0.out (c' := 0) (.inr ⟨rfl, rfl⟩)
    rw [HN.out, Nat.sub_self] at hcp
    have hcp' : (Builtin.copy_ #[31, 31] 3 #[.slice (some ⟨w.heap.size, 0, none⟩) 0 0, .slice (some ⟨F.gb, 0, none⟩) 0 0]).run Try.prog (w.alloc (.cells (zeroB 0) 5)) = .ok (.int .i64 0) w2 := hcp
    have HO := Lib.hid ho
    have HB := Lib.hid hb
    rw [hcap] at c0
    clear ho hb hcp hcap lb lbb
    go_enter Try.func19, Try.ntmps19
    go_wp2_with (go_at_call 34; refine (in_c _ H.out _ _).mono ?_; rintro e w1 ⟨rfl, rfl⟩; rw [HN.out, hi])
    go_ret
    exact ⟨_, _, _, rfl, HO.out, ((Below.refl w.heap.size w).alloc (Nat.le_refl _) _).trans HB.out⟩
  · have hmk := fun W => run_mk_b k kN W
    obtain ⟨w2, hcp, ho, hb⟩ := run_copy_from (H.out.alloc (.cells (zeroB k) 5)) (own_zeros w k w.heap.size (Nat.le_refl _) (by unfold maxLen; omega)) g0.out (c' := F.cb - a) (.inl rfl)
    rw [HN.out] at hcp
    have HO := Lib.hid ho
    have HB := Lib.hid hb
    clear ho hb
    go_enter Try.func19, Try.ntmps19
    go_wp2_with (go_at_call 34; refine (in_c _ H.out _ _).mono ?_; rintro e w1 ⟨rfl, rfl⟩; rw [HN.out, hi])
    go_ret
    exact ⟨_, _, _, rfl, HO.out, ((Below.refl w.heap.size w).alloc (Nat.le_refl _) _).trans HB.out⟩

end Go.Proofs.Ythjdjbipfdigeaa

namespace Go.Proofs.Ythjdjbipfdigeaa
open Go.RowKit
set_option maxRecDepth 100000
set_option linter.unusedVariables false
set_option linter.unusedSimpArgs false

theorem sCode_no {al : Int → Bool} {N : Nat} {ks : List Int} {addr n : Int} (h : sIn N addr n = false) : sCode al N ks addr n = 5 := by unfold sCode; rw [h]; rfl
theorem sCode_yes {al : Int → Bool} {N : Nat} {ks : List Int} {a n : Nat} (h : sIn N (a : Int) (n : Int) = true) : sCode al N ks (a : Int) (n : Int) = if okB al ks a n = true then 0 else 4 := by unfold sCode; rw [h]; simp

end Go.Proofs.Ythjdjbipfdigeaa

namespace Go.Proofs.Ythjdjbipfdigeaa
open Go.RowKit
set_option maxRecDepth 100000
set_option linter.unusedVariables false
set_option linter.unusedSimpArgs false

/-- the bytes behind a Put, behind a Clear; what a Fetch returns -/
def sPut (al : Int → Bool) (bs ks : List Int) (addr : Int) (ys : List Int) : List Int := if sCode al bs.length ks addr ys.length = 0 then splice bs addr.toNat ys else bs
def sFet (al : Int → Bool) (bs ks : List Int) (addr n : Int) : List Int := if sCode al bs.length ks addr n = 0 then sGet bs addr n else []
theorem sCode_zero {al : Int → Bool} {N : Nat} {ks : List Int} {addr n : Int} (h : sCode al N ks addr n = 0) : sIn N addr n = true := by
  cases hi : sIn N addr n
  · rw [sCode_no hi] at h; cases h
  · rfl
/-- the call returns a slice of its own that holds zs, and a code -/
def GivesC (w : World) (zs : List Int) (c : Int) (e : Ending) (w' : World) : Prop := ∃ A m cap, e = .returned (.tuple #[.slice A m cap, .int .i64 c]) ∧ Own w' w.heap.size (.slice A m cap) m zs ∧ Below w.heap.size w w'

end Go.Proofs.Ythjdjbipfdigeaa

namespace Go.Proofs.Ythjdjbipfdigeaa
open Go.RowKit Go.Shelf
set_option maxRecDepth 100000
set_option linter.unusedVariables false
set_option linter.unusedSimpArgs false
attribute [local go_sem] Oper.semAt_some

/-- a one-cell block that is new, and its cell behind later blocks -/
theorem cell_new_l (W : World) (v : Value) (t : TypeId) : (W.alloc (.cells #[v] t)).cell? ⟨W.heap.size, 0, none⟩ = some v ∧ (W.alloc (.cells #[v] t)).frozen? ⟨W.heap.size, 0, none⟩ = false :=
  ⟨by simp, by simp⟩
theorem cell_alloc_l {W : World} {a : Addr} {v : Value} (o : Obj) (h : W.cell? a = some v) : (W.alloc o).cell? a = some v := cell_kept h (World.grownBy_alloc W o none) (fun r e => by cases e)
theorem frozen_alloc_l {W : World} {a : Addr} {v : Value} (o : Obj) (h : W.cell? a = some v) (hf : W.frozen? a = false) : (W.alloc o).frozen? a = false := (frozen_kept h (World.grownBy_alloc W o none) (fun r e => by cases e)).trans hf

/-- how many blocks a range touches, and their keys -/
def tC (a k : Nat) : Nat := if k = 0 then 0 else (a + k - 1) / 2048 + 1 - a / 2048
/-- a key's number -/
abbrev K31 := { x : Int // 0 ≤ x ∧ x ≤ 31 }
def tK (ks : List Int) (a c : Nat) : List Int := (List.range c).map fun j => ks.getD (a / 2048 + j) 0
theorem tK_succ (ks : List Int) (a c : Nat) : tK ks a (c + 1) = tK ks a c ++ [ks.getD (a / 2048 + c) 0] := by simp [tK, List.range_succ]
theorem tK_len (ks : List Int) (a c : Nat) : (tK ks a c).length = c := by simp [tK]
theorem tK_sub {ks : List Int} {a c d : Nat} (h : c ≤ d) {z : Int} (hz : z ∈ tK ks a c) : z ∈ tK ks a d := by
  obtain ⟨j, hj, rfl⟩ := List.mem_map.1 hz
  exact List.mem_map.2 ⟨j, List.mem_range.2 (Nat.lt_of_lt_of_le (List.mem_range.1 hj) h), rfl⟩
theorem okB_tK (al : Int → Bool) (ks : List Int) (a k : Nat) : okB al ks a k = (tK ks a (tC a k)).all al := by
  rw [Bool.eq_iff_iff]
  unfold okB tK
  rw [List.all_eq_true, List.all_eq_true]
  constructor
  · intro h x hx
    obtain ⟨j, hj, rfl⟩ := List.mem_map.1 hx
    rw [List.mem_range] at hj
    have hk : k ≠ 0 := by rintro rfl; simp [tC] at hj
    unfold tC at hj
    rw [if_neg hk] at hj
    by_cases hc : (a / 2048 + j) * 2048 ≤ a
    · have h1 := h 0 (List.mem_range.2 (by omega))
      rwa [show (a + 0) / 2048 = a / 2048 + j from by omega] at h1
    · have h1 := h ((a / 2048 + j) * 2048 - a) (List.mem_range.2 (by omega))
      rwa [show (a + ((a / 2048 + j) * 2048 - a)) / 2048 = a / 2048 + j from by omega] at h1
  · intro h j hj
    rw [List.mem_range] at hj
    have h1 := h (ks.getD (a / 2048 + ((a + j) / 2048 - a / 2048)) 0) (List.mem_map.2 ⟨(a + j) / 2048 - a / 2048, List.mem_range.2 (by unfold tC; rw [if_neg (by omega)]; omega), rfl⟩)
    rwa [show a / 2048 + ((a + j) / 2048 - a / 2048) = (a + j) / 2048 from by omega] at h1

theorem put1_c (Kb : Nat) (k key : Int) (hk : 0 ≤ k) (hk' : k ≤ 31) (w : World) (hc : w.cell? ⟨Kb, 0, none⟩ = some (.int .i64 key)) : Calls Try.prog 33 #[.int .i64 k, .pointer (some ⟨Kb, 0, none⟩)] w fun e w' => e = .returned (.bool (alP key k)) ∧ w = w' := by
  by_cases q0 : key = 0
  · subst q0
    have hr := Lib.hid (show alP 0 k = true from by simp [alP] <;> omega)
    go_enter Try.func33, Try.ntmps33
    go_wp2
    go_ret
    exact ⟨by rw [hr.out]; rfl, rfl⟩
  have e1 : (key == 0) = false := by simpa using q0
  by_cases q1 : key = k / 2
  · have e2 : (key == k / 2) = true := by rw [beq_iff_eq]; exact q1
    have hr := Lib.hid (show alP key k = true from by simp [alP] <;> omega)
    clear q1
    go_enter Try.func33, Try.ntmps33
    go_wp2
    go_ret
    exact ⟨by rw [hr.out]; rfl, rfl⟩
  have e2 : (key == k / 2) = false := by rw [beq_eq_false_iff_ne]; exact q1
  have hr := Lib.hid (show alP key k = false from by simp [alP] <;> omega)
  clear q0 q1
  go_enter Try.func33, Try.ntmps33
  go_wp2
  go_ret
  exact ⟨by rw [hr.out]; rfl, rfl⟩

theorem fetch1_c (Kb : Nat) (k key : Int) (hk : 0 ≤ k) (hk' : k ≤ 31) (w : World) (hc : w.cell? ⟨Kb, 0, none⟩ = some (.int .i64 key)) : Calls Try.prog 107 #[.int .i64 k, .pointer (some ⟨Kb, 0, none⟩)] w fun e w' => e = .returned (.bool (alF key k)) ∧ w = w' := by
  by_cases q0 : key = 0
  · subst q0
    have hr := Lib.hid (show alF 0 k = true from by simp [alF] <;> omega)
    go_enter Try.func107, Try.ntmps107
    go_wp2
    go_ret
    exact ⟨by rw [hr.out]; rfl, rfl⟩
  have e1 : (key == 0) = false := by simpa using q0
  by_cases q1 : key = k / 2
  · have e2 : (key == k / 2) = true := by rw [beq_iff_eq]; exact q1
    have hr := Lib.hid (show alF key k = true from by simp [alF] <;> omega)
    clear q1
    go_enter Try.func107, Try.ntmps107
    go_wp2
    go_ret
    exact ⟨by rw [hr.out]; rfl, rfl⟩
  have e2 : (key == k / 2) = false := by rw [beq_eq_false_iff_ne]; exact q1
  by_cases q2 : k % 2 = 0
  · have e3 : (k % 2 == 0) = true := by rw [beq_iff_eq]; exact q2
    have hr := Lib.hid (show alF key k = true from by simp [alF] <;> omega)
    clear q2
    go_enter Try.func107, Try.ntmps107
    go_wp2
    go_ret
    exact ⟨by rw [hr.out]; rfl, rfl⟩
  have e3 : (k % 2 == 0) = false := by rw [beq_eq_false_iff_ne]; exact q2
  have hr := Lib.hid (show alF key k = false from by simp [alF] <;> omega)
  clear q0 q1
  go_enter Try.func107, Try.ntmps107
  go_wp2
  go_ret
  exact ⟨by rw [hr.out]; rfl, rfl⟩

theorem touched_c (p : Value) (a k : Int) (hp : ∃ x, p = .pointer x) (w : World) : Calls Try.prog 49 #[p, .int .i64 a, .int .i64 k] w fun e w' => e = .returned (.func (.func 93) #[] #[.pointer (some ⟨w.heap.size + 1 + 1, 0, none⟩), .pointer (some ⟨w.heap.size + 1, 0, none⟩), .pointer (some ⟨w.heap.size, 0, none⟩)]) ∧ w' = ((w.alloc (.cells #[p] 40)).alloc (.cells #[.int .i64 a] 3)).alloc (.cells #[.int .i64 k] 3) := by
  obtain ⟨x, rfl⟩ := hp
  go_enter Try.func49, Try.ntmps49
  go_wp2
  go_ret
  exact ⟨rfl, rfl⟩

set_option maxRecDepth 100000 in
set_option maxHeartbeats 2000000 in
theorem touched1_stops (n : Nat) (hn : 1 ≤ n) {F : Foot} {bs ks : List Int} (a k Bn Ba Bs n₀ : Nat) (w : World) (h : St 71 w F bs ks) (hak : a + k ≤ bs.length) (hg : F.g < n₀) (hk : F.gk < n₀) (h1 : Bn < n₀) (h2 : Ba < n₀) (h3 : Bs < n₀) (hn₀ : n₀ ≤ w.heap.size)
    (c1 : w.cell? ⟨Bn, 0, none⟩ = some (.int .i64 k)) (c2 : w.cell? ⟨Ba, 0, none⟩ = some (.int .i64 a)) (c3 : w.cell? ⟨Bs, 0, none⟩ = some (.pointer (some ⟨F.g, 0, none⟩))) :
    SeqStopsK Fence.wide n Try.prog 93 #[.pointer (some ⟨Bn, 0, none⟩), .pointer (some ⟨Ba, 0, none⟩), .pointer (some ⟨Bs, 0, none⟩)] (fun x : K31 => #[Value.int .i64 x.1]) (Below n₀) (fun ys => ys.map (·.1) = tK ks a (tC a k)) (fun pre => ∃ c, c ≤ tC a k ∧ pre.map (·.1) = tK ks a c) (tC a k) w := fun l J Jx W hW _ _ hY h0 => by
  have hB0 : Below n₀ w W := hW.mono hn₀
  have C1 := (hB0.cell (p := ⟨Bn, 0, none⟩) h1).trans c1
  have C2 := (hB0.cell (p := ⟨Ba, 0, none⟩) h2).trans c2
  have l0 := h.ln
  have l1 := h.l1
  have ak : (a : Int) + (k : Int) ≤ 65536 := by omega
  refine callsIn_of_wp Try.func93 rfl trivial ?_ rfl
  simp only [Try.ntmps93, List.size_toArray, List.length_cons, List.length_nil, Nat.reduceAdd, Nat.reduceSub, Array.replicate_succ, Array.replicate_zero, List.push_toArray, List.append_toArray, List.nil_append, List.cons_append]
  by_cases hk0 : k = 0
  · subst hk0
    have z : tK ks a (tC a 0) = [] := rfl
    gi_wp2
    refine bodyPost_ret (results_none rfl _ _ _) rfl ?_
    exact ⟨⟨_, rfl⟩, .inl (by first | exact ⟨[], z.symm, h0⟩ | exact ⟨[], rfl, h0⟩ | exact h0)⟩
  have e0 : ((k : Int) == 0) = false := by rw [beq_eq_false_iff_ne]; omega
  have hC : tC a k = (a + k - 1) / 2048 + 1 - a / 2048 := by unfold tC; rw [if_neg hk0]
  have HC := Lib.hid hC
  have k1 : (1 : Int) ≤ (k : Int) := by omega
  clear hC hk0
  gi_wp2
  gi_loopw [5] (fun iv wr => ∃ (x : Nat) (pre : List K31), a / 2048 ≤ x ∧ x ≤ a / 2048 + tC a k ∧ iv = .int .i64 x ∧ pre.map (·.1) = tK ks a (x - a / 2048) ∧ J pre wr ∧ Below n₀ w wr) (fun iv _ => a / 2048 + tC a k - (intOf iv).toNat)
  case atStart => exact ⟨a / 2048, [], Nat.le_refl _, by omega, by simp, by rw [Nat.sub_self]; rfl, h0, hB0⟩
  case round =>
    obtain ⟨x, pre, x0, x1, rfl, hpre, hJs, hnx⟩ := hrel
    have PR := Lib.hid hpre
    have PL := Lib.hid (show pre.length = x - a / 2048 from by have := congrArg List.length hpre; rwa [List.length_map, tK_len] at this)
    clear hpre
    have D1 := (hnx.cell (p := ⟨Bn, 0, none⟩) h1).trans c1
    have D2 := (hnx.cell (p := ⟨Ba, 0, none⟩) h2).trans c2
    have D3 := (hnx.cell (p := ⟨Bs, 0, none⟩) h3).trans c3
    have D4 := (hnx.cell (p := ⟨F.g, 1, none⟩) hg).trans h.cell1
    obtain ⟨m, hm⟩ : ∃ m, ks.length = m := ⟨_, rfl⟩
    rw [hm] at D4 l0 l1
    by_cases hlt : (x : Int) ≤ ((a : Int) + (k : Int) - 1) / 2048
    · have xm : (x : Int) < (m : Int) := by omega
      have D5 := (hnx.cell (p := ⟨F.gk, x, none⟩) hk).trans (h.key (i := x) (by rw [hm]; omega))
      obtain ⟨kv, hkv⟩ : ∃ kv, ks.getD x 0 = kv := ⟨_, rfl⟩
      rw [hkv] at D5
      obtain ⟨kv', hkv'⟩ : ∃ kv' : K31, kv'.1 = kv := ⟨⟨kv, by rw [← hkv]; exact h.keyr x⟩, rfl⟩
      obtain ⟨fn, tmps, assign, body, hy, hR⟩ := hY pre kv' wr hJs (by rw [PL.out]; have := HC.out; omega)
      rw [hkv'] at hy
      have st := Lib.hid (show (pre ++ [kv']).map (·.1) = tK ks a (x + 1 - a / 2048) from by rw [List.map_append, PR.out, List.map_cons, List.map_nil, hkv', show x + 1 - a / 2048 = (x - a / 2048) + 1 from by omega, tK_succ, show a / 2048 + (x - a / 2048) = x from by omega, hkv])
      have X := Lib.hid (And.intro x0 x1)
      have HM := Lib.hid hm
      have LN := Lib.hid l0
      clear hkv hkv' hm l0
      gi_wp2
      refine hR.mono ?_
      rintro e W3 (⟨rfl, hJ3, hk3⟩ | ⟨rfl, hJx3⟩)
      · gi_wp2
        go_roundw
        case rel => exact ⟨x + 1, pre ++ [kv'], by omega, by have := HC.out; omega, by go_num, st.out, hJ3, hnx.trans hk3⟩
        case measure => simp [intOf]; have := HC.out; omega
      · gi_wp2
        refine bodyPost_ret (results_none rfl _ _ _) rfl ?_
        exact ⟨⟨_, rfl⟩, .inr ⟨_, ⟨x + 1 - a / 2048, by have := HC.out; omega, st.out⟩, hJx3⟩⟩
    · have fin : x - a / 2048 = tC a k := by have := HC.out; omega
      have PF := Lib.hid (show pre.map (·.1) = tK ks a (tC a k) from by rw [← fin]; exact PR.out)
      clear fin
      gi_wp2
      go_end0
      exact ⟨⟨_, rfl⟩, .inl ⟨pre, PF.out, hJs⟩⟩

set_option maxRecDepth 100000 in
set_option maxHeartbeats 4000000 in
theorem check_p {F : Foot} {bs ks : List Int} (addr n key : Int) (Kb : Nat) (w : World) (h : St 71 w F bs ks) (hc : w.cell? ⟨Kb, 0, none⟩ = some (.int .i64 key)) :
    Calls Try.prog 32 #[.pointer (some ⟨F.g, 0, none⟩), .int .i64 addr, .int .i64 n, .func (.func 33) #[] #[.pointer (some ⟨Kb, 0, none⟩)]] w fun e w' => e = .returned (.int .i64 (sCode (alP key) bs.length ks addr n)) ∧ Below w.heap.size w w' := by
  obtain ⟨N, hN⟩ : ∃ N, bs.length = N := ⟨_, rfl⟩
  have H := Lib.hid h
  have HN := Lib.hid hN
  rw [hN]
  clear hN h
  have kl : Kb < w.heap.size := by
    rcases Nat.lt_or_ge Kb w.heap.size with h2 | h2
    · exact h2
    · unfold World.cell? at hc; simp only [Array.getElem?_eq_none h2] at hc; cases hc
  refine (callsIn_wide (n := 5)).1 ?_
  refine callsIn_of_wp_marks Try.func32 rfl trivial ?_ rfl
  simp only [Try.ntmps32, List.size_toArray, List.length_cons, List.length_nil, Nat.reduceAdd, Nat.reduceSub, Array.replicate_succ, Array.replicate_zero, List.push_toArray, List.append_toArray, List.nil_append, List.cons_append]
  cases hi : sIn N addr n
  · rw [sCode_no hi]
    gi_wp2_with (refine ⟨trivial, ?_⟩; gi_at_call 34; refine (callsIn_wide.2 (in_c _ ((H.out.alloc _).alloc _) _ _)).mono ?_; rintro e w1 ⟨rfl, rfl⟩; rw [HN.out, hi])
    refine ⟨.int .i64 5, by simp [results, Try.results32, go_sem], rfl, ((Below.refl w.heap.size w).alloc (Nat.le_refl _) _).alloc (by simp) _⟩
  obtain ⟨b0, b1, b2, b3⟩ := sIn_yes hi
  obtain ⟨a, rfl⟩ := Int.eq_ofNat_of_zero_le b0
  obtain ⟨k, rfl⟩ := Int.eq_ofNat_of_zero_le b1
  rw [sCode_yes hi]
  obtain ⟨r, hr⟩ : ∃ r : Int, (if okB (alP key) ks a k = true then 0 else 4) = r := ⟨_, rfl⟩
  rw [hr]
  have HR := Lib.hid hr
  clear hr
  have hak : a + k ≤ bs.length := by rw [HN.out]; omega
  gi_wp2_with (refine ⟨trivial, ?_⟩; first | (gi_at_call 34; refine (callsIn_wide.2 (in_c _ ((H.out.alloc _).alloc _) _ _)).mono ?_; rintro e w1 ⟨rfl, rfl⟩; rw [HN.out, hi]) | (gi_at_call 49; refine (callsIn_wide.2 (touched_c _ _ _ ⟨_, rfl⟩ _)).mono ?_; rintro e w1 ⟨rfl, rfl⟩))
  obtain ⟨W0, hW0⟩ : ∃ W0, (((((w.alloc (.cells #[.func (.func 33) #[] #[.pointer (some ⟨Kb, 0, none⟩)]] 22)).alloc (.cells #[.int .i64 0] 3)).alloc (.cells #[.pointer (some ⟨F.g, 0, none⟩)] 40)).alloc (.cells #[.int .i64 a] 3)).alloc (.cells #[.int .i64 k] 3)) = W0 := ⟨_, rfl⟩
  rw [hW0]
  have hz : W0.heap.size = w.heap.size + 5 := by rw [← hW0]; simp
  have hB0 : Below w.heap.size w W0 := by rw [← hW0]; exact (((((Below.refl w.heap.size w).alloc (Nat.le_refl _) _).alloc (by simp) _).alloc (by simp; omega) _).alloc (by simp; omega) _).alloc (by simp; omega) _
  have q0 := cell_new_l w (.func (.func 33) #[] #[.pointer (some ⟨Kb, 0, none⟩)]) 22
  have q1 := cell_new_l (w.alloc (.cells #[.func (.func 33) #[] #[.pointer (some ⟨Kb, 0, none⟩)]] 22)) (.int .i64 0) 3
  have q2 := cell_new_l ((w.alloc (.cells #[.func (.func 33) #[] #[.pointer (some ⟨Kb, 0, none⟩)]] 22)).alloc (.cells #[.int .i64 0] 3)) (.pointer (some ⟨F.g, 0, none⟩)) 40
  have q3 := cell_new_l (((w.alloc (.cells #[.func (.func 33) #[] #[.pointer (some ⟨Kb, 0, none⟩)]] 22)).alloc (.cells #[.int .i64 0] 3)).alloc (.cells #[.pointer (some ⟨F.g, 0, none⟩)] 40)) (.int .i64 a) 3
  have q4 := cell_new_l ((((w.alloc (.cells #[.func (.func 33) #[] #[.pointer (some ⟨Kb, 0, none⟩)]] 22)).alloc (.cells #[.int .i64 0] 3)).alloc (.cells #[.pointer (some ⟨F.g, 0, none⟩)] 40)).alloc (.cells #[.int .i64 a] 3)) (.int .i64 k) 3
  simp only [World.size_alloc] at q1 q2 q3 q4
  have k0 : W0.cell? ⟨w.heap.size, 0, none⟩ = some (.func (.func 33) #[] #[.pointer (some ⟨Kb, 0, none⟩)]) := by rw [← hW0]; exact cell_alloc_l _ (cell_alloc_l _ (cell_alloc_l _ (cell_alloc_l _ q0.1)))
  have k1 : W0.cell? ⟨w.heap.size + 1, 0, none⟩ = some (.int .i64 0) := by rw [← hW0]; exact cell_alloc_l _ (cell_alloc_l _ (cell_alloc_l _ q1.1))
  have f1 : W0.frozen? ⟨w.heap.size + 1, 0, none⟩ = false := by rw [← hW0]; exact frozen_alloc_l _ (cell_alloc_l _ (cell_alloc_l _ q1.1)) (frozen_alloc_l _ (cell_alloc_l _ q1.1) (frozen_alloc_l _ q1.1 q1.2))
  have k2 : W0.cell? ⟨w.heap.size + 1 + 1, 0, none⟩ = some (.pointer (some ⟨F.g, 0, none⟩)) := by rw [← hW0]; exact cell_alloc_l _ (cell_alloc_l _ q2.1)
  have k3 : W0.cell? ⟨w.heap.size + 1 + 1 + 1, 0, none⟩ = some (.int .i64 a) := by rw [← hW0]; exact cell_alloc_l _ q3.1
  have k4 : W0.cell? ⟨w.heap.size + 1 + 1 + 1 + 1, 0, none⟩ = some (.int .i64 k) := by rw [← hW0]; exact q4.1
  have k5 : W0.cell? ⟨Kb, 0, none⟩ = some (.int .i64 key) := (hB0.cell (p := ⟨Kb, 0, none⟩) kl).trans hc
  have HS := Lib.hid (H.out.belowS hB0)
  have lg := H.out.ltg
  have lk := H.out.ltk
  skip
  refine wpIn_rangeFunc_ownF rfl (by omega) (gf := 93) (lb := #[.pointer (some ⟨w.heap.size + 1 + 1 + 1 + 1, 0, none⟩), .pointer (some ⟨w.heap.size + 1 + 1 + 1, 0, none⟩), .pointer (some ⟨w.heap.size + 1 + 1, 0, none⟩)]) rfl trivial (enters_of Try.func93 (by kernel_rfl) rfl)
    (touched1_stops (5 - 1) (by omega) a k (w.heap.size + 1 + 1 + 1 + 1) (w.heap.size + 1 + 1 + 1) (w.heap.size + 1 + 1) (w.heap.size + 5) W0 HS.out hak (by omega) (by omega) (by omega) (by omega) (by omega) (by omega) k4 k3 k2) belowK_t (belowK_b (by omega)) (Below.refl _ _) (fun _ => rfl)
    (fun pre W => ((∀ y ∈ pre, alP key y.1 = true) ∧ W.cell? ⟨w.heap.size, 0, none⟩ = some (.func (.func 33) #[] #[.pointer (some ⟨Kb, 0, none⟩)]) ∧ W.cell? ⟨w.heap.size + 1, 0, none⟩ = some (.int .i64 0) ∧ W.frozen? ⟨w.heap.size + 1, 0, none⟩ = false ∧ W.cell? ⟨Kb, 0, none⟩ = some (.int .i64 key)) ∧ Below w.heap.size w W)
    (fun c pre W => (c = .ret ∧ (∃ y ∈ pre, alP key y.1 = false) ∧ W.cell? ⟨w.heap.size + 1, 0, none⟩ = some (.int .i64 4)) ∧ Below w.heap.size w W)
    (OwnFrom.and (Own.from (fun s A B row hs hg hr => ⟨hs.1, cell_kept hs.2.1 hg hr, cell_kept hs.2.2.1 hg hr, (frozen_kept hs.2.2.1 hg hr).trans hs.2.2.2.1, cell_kept hs.2.2.2.2 hg hr⟩) _) (ownFrom_below (Nat.le_refl _) (by omega)))
    (fun c => OwnFrom.and (Own.from (fun s A B row hs hg hr => ⟨hs.1, hs.2.1, cell_kept hs.2.2 hg hr⟩) _) (ownFrom_below (Nat.le_refl _) (by omega)))
    ⟨⟨by simp, k0, k1, f1, k5⟩, hB0⟩
    (fun x => { tmps := #[.pointer (some ⟨F.g, 0, none⟩), .int .i64 a, .int .i64 k, .func (.func 33) #[] #[.pointer (some ⟨Kb, 0, none⟩)], undef, undef, undef, .pointer (some ⟨w.heap.size, 0, none⟩), .pointer (some ⟨w.heap.size + 1, 0, none⟩), .int .i64 x.1, .pointer (some ⟨F.g, 0, none⟩), .int .i64 a, .int .i64 k, .bool true, .bool false, .pointer (some ⟨F.g, 0, none⟩), .int .i64 a, .int .i64 k, .func (.func 93) #[] #[.pointer (some ⟨w.heap.size + 1 + 1 + 1 + 1, 0, none⟩), .pointer (some ⟨w.heap.size + 1 + 1 + 1, 0, none⟩), .pointer (some ⟨w.heap.size + 1 + 1, 0, none⟩)], .int .i64 x.1, undef, undef, undef, undef], defers := [] }) ?assign ?body ?done ?stop
  case assign =>
    intro l x W K hK
    gi_wp2
    exact hK
  case body =>
    rintro l pre x W ⟨⟨hal, hclo, hres, hfr, hkey⟩, hB⟩ hlen
    cases hx : alP key x.1
    · gi_wp2_with (refine ⟨trivial, ?_⟩; gi_at_call 33; refine (CallsIn.inRound l (callsIn_wide.2 (put1_c Kb _ key x.2.1 x.2.2 _ hkey))).mono ?_; rintro e w1 ⟨rfl, rfl⟩; rw [hx])
      exact ⟨KeepsOthers.setCell _ _ _, ⟨rfl, ⟨x, by simp, hx⟩, World.cell?_setCell_same' _ _ _ (by rw [hres]; rfl)⟩, hB.setCell (p := ⟨w.heap.size + 1, 0, none⟩) (by simp) _⟩
    · gi_wp2_with (refine ⟨trivial, ?_⟩; gi_at_call 33; refine (CallsIn.inRound l (callsIn_wide.2 (put1_c Kb _ key x.2.1 x.2.2 _ hkey))).mono ?_; rintro e w1 ⟨rfl, rfl⟩; rw [hx])
      refine ⟨KeepsOthers.refl _, Below.refl _ _, ⟨?_, hclo, hres, hfr, hkey⟩, hB⟩
      intro y hy
      rcases List.mem_append.1 hy with h1 | h1
      · exact hal y h1
      · rw [List.mem_singleton] at h1; rw [h1]; exact hx
  case done =>
    rintro D ys W hD hys ⟨⟨hal, hclo, hres, hfr, hkey⟩, hB⟩ hK
    have hok : okB (alP key) ks a k = true := by
      rw [okB_tK, ← hys, List.all_eq_true]
      intro z hz
      obtain ⟨y, hy, rfl⟩ := List.mem_map.1 hz
      exact hal y hy
    have fin := Lib.hid (show (0 : Int) = r from by rw [← HR.out, hok]; rfl)
    clear hok
    gi_wp2
    have hK' := (KeepsOthers.setCell W ⟨w.heap.size + 1, 0, none⟩ (.int .i64 0)).same D _ hK rfl
    refine ⟨by simp, .inl ⟨_, _, rfl, run_takeDeferred hK', ?_⟩⟩
    have hc5 := cell_kept (World.cell?_setCell_same' W ⟨w.heap.size + 1, 0, none⟩ (.int .i64 0) (by rw [hres]; rfl)) (grownBy_putObj' _ D (.deferred none)) (fun r e => by cases e; exact ⟨_, hK', rfl⟩)
    refine ⟨.int .i64 0, ?_, by rw [fin.out], (hB.setCell (p := ⟨w.heap.size + 1, 0, none⟩) (by simp) _).trans (belowK_b (w := w) (Nat.le_refl _) _ D _ _ (by omega) hK' rfl rfl)⟩
    simp [results, Try.results32, go_sem, hc5]
  case stop =>
    rintro D c pre W hD ⟨cc, hcc, hpre⟩ ⟨⟨rfl, ⟨y, hy, hf⟩, hres⟩, hB⟩ hK
    have hok : okB (alP key) ks a k = false := by
      rw [okB_tK, Bool.eq_false_iff]
      intro h1
      rw [List.all_eq_true] at h1
      have h2 := h1 y.1 (tK_sub hcc (by rw [← hpre]; exact List.mem_map.2 ⟨y, hy, rfl⟩))
      rw [hf] at h2; cases h2
    have fin := Lib.hid (show (4 : Int) = r from by rw [← HR.out, hok]; rfl)
    clear hok
    gi_wp2
    refine ⟨by simp, .inl ⟨_, _, rfl, run_takeDeferred hK, ?_⟩⟩
    have hc5 := cell_kept hres (grownBy_putObj' _ D (.deferred none)) (fun r e => by cases e; exact ⟨_, hK, rfl⟩)
    refine ⟨.int .i64 4, ?_, by rw [fin.out], hB.trans (belowK_b (w := w) (Nat.le_refl _) W D _ _ (by omega) hK rfl rfl)⟩
    simp [results, Try.results32, go_sem, hc5]

set_option maxRecDepth 100000 in
set_option maxHeartbeats 4000000 in
theorem check_f {F : Foot} {bs ks : List Int} (addr n key : Int) (Kb : Nat) (w : World) (h : St 71 w F bs ks) (hc : w.cell? ⟨Kb, 0, none⟩ = some (.int .i64 key)) :
    Calls Try.prog 32 #[.pointer (some ⟨F.g, 0, none⟩), .int .i64 addr, .int .i64 n, .func (.func 107) #[] #[.pointer (some ⟨Kb, 0, none⟩)]] w fun e w' => e = .returned (.int .i64 (sCode (alF key) bs.length ks addr n)) ∧ Below w.heap.size w w' := by
  obtain ⟨N, hN⟩ : ∃ N, bs.length = N := ⟨_, rfl⟩
  have H := Lib.hid h
  have HN := Lib.hid hN
  rw [hN]
  clear hN h
  have kl : Kb < w.heap.size := by
    rcases Nat.lt_or_ge Kb w.heap.size with h2 | h2
    · exact h2
    · unfold World.cell? at hc; simp only [Array.getElem?_eq_none h2] at hc; cases hc
  refine (callsIn_wide (n := 5)).1 ?_
  refine callsIn_of_wp_marks Try.func32 rfl trivial ?_ rfl
  simp only [Try.ntmps32, List.size_toArray, List.length_cons, List.length_nil, Nat.reduceAdd, Nat.reduceSub, Array.replicate_succ, Array.replicate_zero, List.push_toArray, List.append_toArray, List.nil_append, List.cons_append]
  cases hi : sIn N addr n
  · rw [sCode_no hi]
    gi_wp2_with (refine ⟨trivial, ?_⟩; gi_at_call 34; refine (callsIn_wide.2 (in_c _ ((H.out.alloc _).alloc _) _ _)).mono ?_; rintro e w1 ⟨rfl, rfl⟩; rw [HN.out, hi])
    refine ⟨.int .i64 5, by simp [results, Try.results32, go_sem], rfl, ((Below.refl w.heap.size w).alloc (Nat.le_refl _) _).alloc (by simp) _⟩
  obtain ⟨b0, b1, b2, b3⟩ := sIn_yes hi
  obtain ⟨a, rfl⟩ := Int.eq_ofNat_of_zero_le b0
  obtain ⟨k, rfl⟩ := Int.eq_ofNat_of_zero_le b1
  rw [sCode_yes hi]
  obtain ⟨r, hr⟩ : ∃ r : Int, (if okB (alF key) ks a k = true then 0 else 4) = r := ⟨_, rfl⟩
  rw [hr]
  have HR := Lib.hid hr
  clear hr
  have hak : a + k ≤ bs.length := by rw [HN.out]; omega
  gi_wp2_with (refine ⟨trivial, ?_⟩; first | (gi_at_call 34; refine (callsIn_wide.2 (in_c _ ((H.out.alloc _).alloc _) _ _)).mono ?_; rintro e w1 ⟨rfl, rfl⟩; rw [HN.out, hi]) | (gi_at_call 49; refine (callsIn_wide.2 (touched_c _ _ _ ⟨_, rfl⟩ _)).mono ?_; rintro e w1 ⟨rfl, rfl⟩))
  obtain ⟨W0, hW0⟩ : ∃ W0, (((((w.alloc (.cells #[.func (.func 107) #[] #[.pointer (some ⟨Kb, 0, none⟩)]] 22)).alloc (.cells #[.int .i64 0] 3)).alloc (.cells #[.pointer (some ⟨F.g, 0, none⟩)] 40)).alloc (.cells #[.int .i64 a] 3)).alloc (.cells #[.int .i64 k] 3)) = W0 := ⟨_, rfl⟩
  rw [hW0]
  have hz : W0.heap.size = w.heap.size + 5 := by rw [← hW0]; simp
  have hB0 : Below w.heap.size w W0 := by rw [← hW0]; exact (((((Below.refl w.heap.size w).alloc (Nat.le_refl _) _).alloc (by simp) _).alloc (by simp; omega) _).alloc (by simp; omega) _).alloc (by simp; omega) _
  have q0 := cell_new_l w (.func (.func 107) #[] #[.pointer (some ⟨Kb, 0, none⟩)]) 22
  have q1 := cell_new_l (w.alloc (.cells #[.func (.func 107) #[] #[.pointer (some ⟨Kb, 0, none⟩)]] 22)) (.int .i64 0) 3
  have q2 := cell_new_l ((w.alloc (.cells #[.func (.func 107) #[] #[.pointer (some ⟨Kb, 0, none⟩)]] 22)).alloc (.cells #[.int .i64 0] 3)) (.pointer (some ⟨F.g, 0, none⟩)) 40
  have q3 := cell_new_l (((w.alloc (.cells #[.func (.func 107) #[] #[.pointer (some ⟨Kb, 0, none⟩)]] 22)).alloc (.cells #[.int .i64 0] 3)).alloc (.cells #[.pointer (some ⟨F.g, 0, none⟩)] 40)) (.int .i64 a) 3
  have q4 := cell_new_l ((((w.alloc (.cells #[.func (.func 107) #[] #[.pointer (some ⟨Kb, 0, none⟩)]] 22)).alloc (.cells #[.int .i64 0] 3)).alloc (.cells #[.pointer (some ⟨F.g, 0, none⟩)] 40)).alloc (.cells #[.int .i64 a] 3)) (.int .i64 k) 3
  simp only [World.size_alloc] at q1 q2 q3 q4
  have k0 : W0.cell? ⟨w.heap.size, 0, none⟩ = some (.func (.func 107) #[] #[.pointer (some ⟨Kb, 0, none⟩)]) := by rw [← hW0]; exact cell_alloc_l _ (cell_alloc_l _ (cell_alloc_l _ (cell_alloc_l _ q0.1)))
  have k1 : W0.cell? ⟨w.heap.size + 1, 0, none⟩ = some (.int .i64 0) := by rw [← hW0]; exact cell_alloc_l _ (cell_alloc_l _ (cell_alloc_l _ q1.1))
  have f1 : W0.frozen? ⟨w.heap.size + 1, 0, none⟩ = false := by rw [← hW0]; exact frozen_alloc_l _ (cell_alloc_l _ (cell_alloc_l _ q1.1)) (frozen_alloc_l _ (cell_alloc_l _ q1.1) (frozen_alloc_l _ q1.1 q1.2))
  have k2 : W0.cell? ⟨w.heap.size + 1 + 1, 0, none⟩ = some (.pointer (some ⟨F.g, 0, none⟩)) := by rw [← hW0]; exact cell_alloc_l _ (cell_alloc_l _ q2.1)
  have k3 : W0.cell? ⟨w.heap.size + 1 + 1 + 1, 0, none⟩ = some (.int .i64 a) := by rw [← hW0]; exact cell_alloc_l _ q3.1
  have k4 : W0.cell? ⟨w.heap.size + 1 + 1 + 1 + 1, 0, none⟩ = some (.int .i64 k) := by rw [← hW0]; exact q4.1
  have k5 : W0.cell? ⟨Kb, 0, none⟩ = some (.int .i64 key) := (hB0.cell (p := ⟨Kb, 0, none⟩) kl).trans hc
  have HS := Lib.hid (H.out.belowS hB0)
  have lg := H.out.ltg
  have lk := H.out.ltk
  skip
  refine wpIn_rangeFunc_ownF rfl (by omega) (gf := 93) (lb := #[.pointer (some ⟨w.heap.size + 1 + 1 + 1 + 1, 0, none⟩), .pointer (some ⟨w.heap.size + 1 + 1 + 1, 0, none⟩), .pointer (some ⟨w.heap.size + 1 + 1, 0, none⟩)]) rfl trivial (enters_of Try.func93 (by kernel_rfl) rfl)
    (touched1_stops (5 - 1) (by omega) a k (w.heap.size + 1 + 1 + 1 + 1) (w.heap.size + 1 + 1 + 1) (w.heap.size + 1 + 1) (w.heap.size + 5) W0 HS.out hak (by omega) (by omega) (by omega) (by omega) (by omega) (by omega) k4 k3 k2) belowK_t (belowK_b (by omega)) (Below.refl _ _) (fun _ => rfl)
    (fun pre W => ((∀ y ∈ pre, alF key y.1 = true) ∧ W.cell? ⟨w.heap.size, 0, none⟩ = some (.func (.func 107) #[] #[.pointer (some ⟨Kb, 0, none⟩)]) ∧ W.cell? ⟨w.heap.size + 1, 0, none⟩ = some (.int .i64 0) ∧ W.frozen? ⟨w.heap.size + 1, 0, none⟩ = false ∧ W.cell? ⟨Kb, 0, none⟩ = some (.int .i64 key)) ∧ Below w.heap.size w W)
    (fun c pre W => (c = .ret ∧ (∃ y ∈ pre, alF key y.1 = false) ∧ W.cell? ⟨w.heap.size + 1, 0, none⟩ = some (.int .i64 4)) ∧ Below w.heap.size w W)
    (OwnFrom.and (Own.from (fun s A B row hs hg hr => ⟨hs.1, cell_kept hs.2.1 hg hr, cell_kept hs.2.2.1 hg hr, (frozen_kept hs.2.2.1 hg hr).trans hs.2.2.2.1, cell_kept hs.2.2.2.2 hg hr⟩) _) (ownFrom_below (Nat.le_refl _) (by omega)))
    (fun c => OwnFrom.and (Own.from (fun s A B row hs hg hr => ⟨hs.1, hs.2.1, cell_kept hs.2.2 hg hr⟩) _) (ownFrom_below (Nat.le_refl _) (by omega)))
    ⟨⟨by simp, k0, k1, f1, k5⟩, hB0⟩
    (fun x => { tmps := #[.pointer (some ⟨F.g, 0, none⟩), .int .i64 a, .int .i64 k, .func (.func 107) #[] #[.pointer (some ⟨Kb, 0, none⟩)], undef, undef, undef, .pointer (some ⟨w.heap.size, 0, none⟩), .pointer (some ⟨w.heap.size + 1, 0, none⟩), .int .i64 x.1, .pointer (some ⟨F.g, 0, none⟩), .int .i64 a, .int .i64 k, .bool true, .bool false, .pointer (some ⟨F.g, 0, none⟩), .int .i64 a, .int .i64 k, .func (.func 93) #[] #[.pointer (some ⟨w.heap.size + 1 + 1 + 1 + 1, 0, none⟩), .pointer (some ⟨w.heap.size + 1 + 1 + 1, 0, none⟩), .pointer (some ⟨w.heap.size + 1 + 1, 0, none⟩)], .int .i64 x.1, undef, undef, undef, undef], defers := [] }) ?assign ?body ?done ?stop
  case assign =>
    intro l x W K hK
    gi_wp2
    exact hK
  case body =>
    rintro l pre x W ⟨⟨hal, hclo, hres, hfr, hkey⟩, hB⟩ hlen
    cases hx : alF key x.1
    · gi_wp2_with (refine ⟨trivial, ?_⟩; gi_at_call 107; refine (CallsIn.inRound l (callsIn_wide.2 (fetch1_c Kb _ key x.2.1 x.2.2 _ hkey))).mono ?_; rintro e w1 ⟨rfl, rfl⟩; rw [hx])
      exact ⟨KeepsOthers.setCell _ _ _, ⟨rfl, ⟨x, by simp, hx⟩, World.cell?_setCell_same' _ _ _ (by rw [hres]; rfl)⟩, hB.setCell (p := ⟨w.heap.size + 1, 0, none⟩) (by simp) _⟩
    · gi_wp2_with (refine ⟨trivial, ?_⟩; gi_at_call 107; refine (CallsIn.inRound l (callsIn_wide.2 (fetch1_c Kb _ key x.2.1 x.2.2 _ hkey))).mono ?_; rintro e w1 ⟨rfl, rfl⟩; rw [hx])
      refine ⟨KeepsOthers.refl _, Below.refl _ _, ⟨?_, hclo, hres, hfr, hkey⟩, hB⟩
      intro y hy
      rcases List.mem_append.1 hy with h1 | h1
      · exact hal y h1
      · rw [List.mem_singleton] at h1; rw [h1]; exact hx
  case done =>
    rintro D ys W hD hys ⟨⟨hal, hclo, hres, hfr, hkey⟩, hB⟩ hK
    have hok : okB (alF key) ks a k = true := by
      rw [okB_tK, ← hys, List.all_eq_true]
      intro z hz
      obtain ⟨y, hy, rfl⟩ := List.mem_map.1 hz
      exact hal y hy
    have fin := Lib.hid (show (0 : Int) = r from by rw [← HR.out, hok]; rfl)
    clear hok
    gi_wp2
    have hK' := (KeepsOthers.setCell W ⟨w.heap.size + 1, 0, none⟩ (.int .i64 0)).same D _ hK rfl
    refine ⟨by simp, .inl ⟨_, _, rfl, run_takeDeferred hK', ?_⟩⟩
    have hc5 := cell_kept (World.cell?_setCell_same' W ⟨w.heap.size + 1, 0, none⟩ (.int .i64 0) (by rw [hres]; rfl)) (grownBy_putObj' _ D (.deferred none)) (fun r e => by cases e; exact ⟨_, hK', rfl⟩)
    refine ⟨.int .i64 0, ?_, by rw [fin.out], (hB.setCell (p := ⟨w.heap.size + 1, 0, none⟩) (by simp) _).trans (belowK_b (w := w) (Nat.le_refl _) _ D _ _ (by omega) hK' rfl rfl)⟩
    simp [results, Try.results32, go_sem, hc5]
  case stop =>
    rintro D c pre W hD ⟨cc, hcc, hpre⟩ ⟨⟨rfl, ⟨y, hy, hf⟩, hres⟩, hB⟩ hK
    have hok : okB (alF key) ks a k = false := by
      rw [okB_tK, Bool.eq_false_iff]
      intro h1
      rw [List.all_eq_true] at h1
      have h2 := h1 y.1 (tK_sub hcc (by rw [← hpre]; exact List.mem_map.2 ⟨y, hy, rfl⟩))
      rw [hf] at h2; cases h2
    have fin := Lib.hid (show (4 : Int) = r from by rw [← HR.out, hok]; rfl)
    clear hok
    gi_wp2
    refine ⟨by simp, .inl ⟨_, _, rfl, run_takeDeferred hK, ?_⟩⟩
    have hc5 := cell_kept hres (grownBy_putObj' _ D (.deferred none)) (fun r e => by cases e; exact ⟨_, hK, rfl⟩)
    refine ⟨.int .i64 4, ?_, by rw [fin.out], hB.trans (belowK_b (w := w) (Nat.le_refl _) W D _ _ (by omega) hK rfl rfl)⟩
    simp [results, Try.results32, go_sem, hc5]

end Go.Proofs.Ythjdjbipfdigeaa

namespace Go.Proofs.Ythjdjbipfdigeaa
open Go.RowKit
set_option maxRecDepth 100000
set_option linter.unusedVariables false
set_option linter.unusedSimpArgs false

theorem own_mono {w : World} {b b' n : Nat} {v : Value} {zs : List Int} (h : Own w b v n zs) (hb : b' ≤ b) : Own w b' v n zs := by
  refine ⟨⟨h.1.1, ?_⟩, h.2⟩
  rcases h.1.2 with h0 | ⟨g, cap, cur, h1, h2, h3⟩
  · exact .inl h0
  · exact .inr ⟨g, cap, cur, h1, Nat.le_trans hb h2, h3⟩

set_option maxHeartbeats 2000000 in
theorem put_c {F : Foot} {bs ks : List Int} (w : World) (h : St 71 w F bs ks) (addr key : Int) (A : Option Addr) (len cap : Nat) (ys : List Int) (hy : Byt w A len ys) (hl : (len : Int) ≤ 9223372036854775807) : Calls Try.prog 16 #[.pointer (some ⟨F.g, 0, none⟩), .int .i64 addr, .slice A len cap, .int .i64 key] w fun e w' => e = .returned (.int .i64 (sCode (alP key) bs.length ks addr len)) ∧ St 71 w' F (sPut (alP key) bs ks addr ys) ks ∧ w.grownBy w' (some F.gb) := by
  have H := Lib.hid h
  have HY := Lib.hid hy
  have HL := Lib.hid hy.1
  clear hy h
  obtain ⟨N, hN⟩ : ∃ N, bs.length = N := ⟨_, rfl⟩
  have n1 : (N : Int) ≤ 65536 := by have := H.out.ln; have := H.out.l1; omega
  have HN := Lib.hid hN
  clear hN
  obtain ⟨r, hr⟩ : ∃ r, sCode (alP key) bs.length ks addr len = r := ⟨_, rfl⟩
  rw [hr]
  have HR := Lib.hid hr
  by_cases h0 : r = 0
  · subst h0
    have hin := sCode_zero hr
    rw [HN.out] at hin
    obtain ⟨b0, b1, b2, b3⟩ := sIn_yes hin
    obtain ⟨a, rfl⟩ := Int.eq_ofNat_of_zero_le b0
    have g0 := Lib.hid (show a + len ≤ bs.length from by rw [HN.out]; omega)
    have a0 : (a : Int) ≤ (N : Int) := by omega
    have hp := Lib.hid (show sPut (alP key) bs ks (a : Int) ys = splice bs a ys from by unfold sPut; rw [HL.out, hr, if_pos rfl]; simp)
    have lb := H.out.capb
    rw [HN.out] at lb
    have lbb := H.out.maxb
    unfold maxLen at lbb
    have aN : a ≤ N := by omega
    clear hr hin
    go_enter Try.func16, Try.ntmps16
    go_wp2_with fail
    refine (check_p (F := F) (bs := bs) (ks := ks) _ _ key w.heap.size _ (H.out.alloc _) (by simp)).mono ?_
    rintro e w1 ⟨rfl, hb⟩
    rw [HR.out]
    have HB1 := Lib.hid (show Below w.heap.size w w1 from ((Below.refl w.heap.size w).alloc (Nat.le_refl _) _).trans (hb.mono (by simp)))
    have ST1 := Lib.hid ((H.out.alloc (.cells #[.int .i64 key] 3)).belowS hb)
    clear hb
    have e0 := ST1.out.cell0
    rw [HN.out] at e0
    by_cases hcap : F.cb = a
    · obtain rfl : N = a := by omega
      obtain rfl : len = 0 := by omega
      obtain ⟨w2, hcp, hs, hg⟩ := run_copy_to ST1.out (by decide) (HY.out.keep HB1.out) g0.out (X := some ⟨F.gb, 0, none⟩) (c := cap) (dc := 0) (.inr ⟨rfl, rfl⟩)
      rw [HN.out, Nat.sub_self] at hcp
      have hcp' : (Builtin.copy_ #[31, 31] 3 #[.slice (some ⟨F.gb, 0, none⟩) 0 0, .slice A 0 cap]).run Try.prog w1 = .ok (.int .i64 0) w2 := hcp
      rw [hcap] at e0
      have HS := Lib.hid hs
      have HG := Lib.hid hg
      clear hs hg hcp hcap lb lbb
      go_wp2
      go_ret
      exact ⟨rfl, by rw [hp.out]; exact HS.out, grown_trans (grown_of_below HB1.out _) HG.out⟩
    · obtain ⟨w2, hcp, hs, hg⟩ := run_copy_to ST1.out (by decide) (HY.out.keep HB1.out) g0.out (X := some ⟨F.gb, a, none⟩) (c := cap) (dc := F.cb - a) (.inl rfl)
      rw [HN.out] at hcp
      have HS := Lib.hid hs
      have HG := Lib.hid hg
      clear hs hg
      go_wp2
      go_ret
      exact ⟨rfl, by rw [hp.out]; exact HS.out, grown_trans (grown_of_below HB1.out _) HG.out⟩
  · have e0 : (r == 0) = false := by simpa using h0
    have hp := Lib.hid (show sPut (alP key) bs ks addr ys = bs from by unfold sPut; rw [HL.out, hr, if_neg h0])
    clear hr h0
    go_enter Try.func16, Try.ntmps16
    go_wp2_with (go_at_call 32; refine (check_p (F := F) (bs := bs) (ks := ks) _ _ key w.heap.size _ (H.out.alloc _) (by simp)).mono ?_; rintro e w1 ⟨rfl, hb⟩; rw [HR.out]; have HB1 := Lib.hid (show Below w.heap.size w w1 from ((Below.refl w.heap.size w).alloc (Nat.le_refl _) _).trans (hb.mono (by simp))); have ST1 := Lib.hid ((H.out.alloc (.cells #[.int .i64 key] 3)).belowS hb); clear hb)
    go_ret
    exact ⟨rfl, by rw [hp.out]; exact ST1.out, grown_of_below HB1.out _⟩

set_option maxHeartbeats 1000000 in
theorem fetch_c {F : Foot} {bs ks : List Int} (w : World) (h : St 71 w F bs ks) (addr n key : Int) : Calls Try.prog 100 #[.pointer (some ⟨F.g, 0, none⟩), .int .i64 addr, .int .i64 n, .int .i64 key] w (GivesC w (sFet (alF key) bs ks addr n) (sCode (alF key) bs.length ks addr n)) := by
  have H := Lib.hid h
  clear h
  obtain ⟨r, hr⟩ : ∃ r, sCode (alF key) bs.length ks addr n = r := ⟨_, rfl⟩
  by_cases h0 : r = 0
  · subst h0
    have hf := Lib.hid (show sFet (alF key) bs ks addr n = sGet bs addr n from by unfold sFet; rw [hr, if_pos rfl])
    rw [hf.out, hr]
    have HR := Lib.hid hr
    clear hr
    go_enter Try.func100, Try.ntmps100
    go_wp2_with (first | (go_at_call 32; refine (check_f (F := F) (bs := bs) (ks := ks) _ _ key w.heap.size _ (H.out.alloc _) (by simp)).mono ?_; rintro e w1 ⟨rfl, hb⟩; rw [HR.out]; have HB1 := Lib.hid (show Below w.heap.size w w1 from ((Below.refl w.heap.size w).alloc (Nat.le_refl _) _).trans (hb.mono (by simp))); have ST1 := Lib.hid ((H.out.alloc (.cells #[.int .i64 key] 3)).belowS hb); clear hb) | (go_at_call 19; refine (bytes_c _ ST1.out _ _).mono ?_; rintro e w2 ⟨A, m, cap, rfl, ho, hb⟩; have HO := Lib.hid ho; have HB := Lib.hid hb; clear ho hb))
    go_ret2
    exact ⟨A, m, cap, rfl, own_mono HO.out HB1.out.size, HB1.out.trans (HB.out.mono HB1.out.size)⟩
  · have e0 : (r != 0) = true := by simpa using h0
    have hf := Lib.hid (show sFet (alF key) bs ks addr n = [] from by unfold sFet; rw [hr, if_neg h0])
    rw [hf.out, hr]
    have HR := Lib.hid hr
    clear hr h0
    go_enter Try.func100, Try.ntmps100
    go_wp2_with (go_at_call 32; refine (check_f (F := F) (bs := bs) (ks := ks) _ _ key w.heap.size _ (H.out.alloc _) (by simp)).mono ?_; rintro e w1 ⟨rfl, hb⟩; rw [HR.out]; have HB1 := Lib.hid (show Below w.heap.size w w1 from ((Below.refl w.heap.size w).alloc (Nat.le_refl _) _).trans (hb.mono (by simp))); have ST1 := Lib.hid ((H.out.alloc (.cells #[.int .i64 key] 3)).belowS hb); clear hb)
    go_ret2
    exact ⟨none, 0, 0, rfl, Own.nil _ _, HB1.out⟩

end Go.Proofs.Ythjdjbipfdigeaa

namespace Go.Proofs.Ythjdjbipfdigeaa
open Go.RowKit
set_option maxRecDepth 100000
set_option linter.unusedVariables false
set_option linter.unusedSimpArgs false
/-- a machine and its storage -/
structure MS (w : World) (g : Nat) (F : Foot) (is os rs : List Int) (ps : List Value) (ov : Bool) (bs ks : List Int) : Prop where
  m : Mc w g is os rs ps (.pointer (some ⟨F.g, 0, none⟩)) ov
  st : St 71 w F bs ks
  n0 : g ≠ F.g
  n1 : g ≠ F.gb
  n2 : g ≠ F.gk
section
variable {w w' : World} {g : Nat} {F : Foot} {is os rs : List Int} {ps : List Value} {ov : Bool} {bs ks : List Int}
theorem MS.keep (h : MS w g F is os rs ps ov bs ks) (hb : Below w.heap.size w w') : MS w' g F is os rs ps ov bs ks := ⟨h.m.keep hb, h.st.belowS hb, h.n0, h.n1, h.n2⟩
theorem MS.drewN (h : MS w g F is os rs ps ov bs ks) (n : Nat) : MS (w.drewN n) g F is os rs ps ov bs ks := ⟨h.m.drewN n, h.st.drewN n, h.n0, h.n1, h.n2⟩
theorem MS.ch (h : MS w g F is os rs ps ov bs ks) (hc : Ch w w' []) : MS w' g F is os rs ps ov bs ks := h.keep (hc.below (Nat.le_refl _) (by simp))
theorem MS.set_ (h : MS w g F is os rs ps ov bs ks) {is' os' rs' : List Int} {ps' : List Value} {ov' : Bool} (hm : Mc w' g is' os' rs' ps' (.pointer (some ⟨F.g, 0, none⟩)) ov') (hc : Ch w w' [g]) : MS w' g F is' os' rs' ps' ov' bs ks :=
  ⟨hm, h.st.keep (hc.kept h.st.ltg (by simp; exact fun e => h.n0 e.symm)) (hc.kept h.st.ltb (by simp; exact fun e => h.n1 e.symm)) (hc.kept h.st.ltk (by simp; exact fun e => h.n2 e.symm)), h.n0, h.n1, h.n2⟩
theorem MS.put_ (h : MS w g F is os rs ps ov bs ks) {bs' : List Int} (hs : St 71 w' F bs' ks) (hg : w.grownBy w' (some F.gb)) : MS w' g F is os rs ps ov bs' ks :=
  ⟨h.m.kept (hg.block g h.m.lt (by intro e; injection e with e; exact h.n1 e)), hs, h.n0, h.n1, h.n2⟩
theorem Ch.of_grown {b : Nat} (hg : w.grownBy w' (some b)) : Ch w w' [b] := ⟨hg.os, hg.tape, hg.output, hg.size, fun k hk hb => hg.block k hk (by intro e; injection e with e; exact hb (by simp [e]))⟩
end
set_option maxRecDepth 1000000 in
set_option maxHeartbeats 4000000 in
theorem need_ok (c : Int) (w : World) : Calls Try.prog 60 #[.bool true, .int .i64 c] w fun e w' => e = .returned (.tuple #[]) ∧ w = w' := by
  go_enter Try.func60, Try.ntmps60
  go_wp2
  go_end0
  exact ⟨rfl, rfl⟩
set_option maxRecDepth 1000000 in
set_option maxHeartbeats 4000000 in
theorem put_m (g : Nat) (F : Foot) (is os rs : List Int) (ps : List Value) (ov : Bool) (bs ks : List Int) (addr key : Int) (A : Option Addr) (len cap : Nat) (ys : List Int) (w : World) (h : MS w g F is os rs ps ov bs ks) (hk : ps.getD 1 undef = .int .i64 key) (hy : Byt w A len ys) (hl : (len : Int) ≤ 9223372036854775807) (hc : sCode (alP key) bs.length ks addr len = 0) : Calls Try.prog 65 #[.pointer (some ⟨g, 0, none⟩), .int .i64 addr, .slice A len cap] w fun e w' => e = .returned (.tuple #[]) ∧ MS w' g F is os rs ps ov (sPut (alP key) bs ks addr ys) ks ∧ Ch w w' [F.gb] := by
  have HH := Lib.hid h
  have HK := Lib.hid hk
  have PC := Lib.hid (put_c w.drew (h.st.drewN 1) addr key A len cap ys (hy.keep (below_draw w 1)) hl)
  rw [hc] at PC
  clear h hk hy hc
  go_enter Try.func65, Try.ntmps65
  go_upto_region 0 with fail
  refine wp_region_held_drew (S := (fun w' => Mc w' g is os rs ps (.pointer (some ⟨F.g, 0, none⟩)) ov)) (by kernel_rfl) ?_ (fun hHeld => ?_)
  · (try dsimp only); exact HH.out.m.drewN 1
  refine' takeL (i := 0) (v := _) rfl (by kernel_rfl) (by kernel_rfl) (by kernel_rfl) (fun _ _ _ h => h) (Or.inl ⟨by rfl, ?yy1⟩) (by assumption) ?rr1
  case yy1 => intro w hSw; (try dsimp only at hSw); go_simp; (try with_reducible rfl)
  try simp only [Act.put, List.setIfInBounds_toArray, List.set_cons_zero, List.set_cons_succ]
  refine' takeL (i := 1) (v := _) rfl (by kernel_rfl) (by kernel_rfl) (by kernel_rfl) (fun _ _ _ h => h) (Or.inl ⟨by rfl, ?yy2⟩) (by assumption) ?rr2
  case yy2 => intro w hSw; (try dsimp only at hSw); go_simp; (try with_reducible rfl)
  try simp only [Act.put, List.setIfInBounds_toArray, List.set_cons_zero, List.set_cons_succ]
  refine' takeL (i := 2) (v := _) rfl (by kernel_rfl) (by kernel_rfl) (by kernel_rfl) (fun _ _ _ h => h) (Or.inl ⟨by rfl, ?yy3⟩) (by assumption) ?rr3
  case yy3 => intro w hSw; (try dsimp only at hSw); go_simp; (try with_reducible rfl)
  try simp only [Act.put, List.setIfInBounds_toArray, List.set_cons_zero, List.set_cons_succ]
  refine' takeL (i := 3) (v := .pointer (some ⟨F.g, 0, none⟩)) rfl (by kernel_rfl) (by kernel_rfl) (by kernel_rfl) (fun _ _ _ h => h) (Or.inl ⟨by rfl, ?yy4⟩) (by assumption) ?rr4
  case yy4 => intro w hSw; (try dsimp only at hSw); have hq := hSw.cs; go_simp; (try with_reducible rfl)
  try simp only [Act.put, List.setIfInBounds_toArray, List.set_cons_zero, List.set_cons_succ]
  refine' takeL (i := 4) (v := _) rfl (by kernel_rfl) (by kernel_rfl) (by kernel_rfl) (fun _ _ _ h => h) (Or.inl ⟨by rfl, ?yy5⟩) (by assumption) ?rr5
  case yy5 => intro w hSw; (try dsimp only at hSw); go_simp; (try with_reducible rfl)
  try simp only [Act.put, List.setIfInBounds_toArray, List.set_cons_zero, List.set_cons_succ]
  refine' takeL (i := 5) (v := _) rfl (by kernel_rfl) (by kernel_rfl) (by kernel_rfl) (fun _ _ _ h => h) (Or.inl ⟨by rfl, ?yy6⟩) (by assumption) ?rr6
  case yy6 => intro w hSw; (try dsimp only at hSw); go_simp; (try with_reducible rfl)
  try simp only [Act.put, List.setIfInBounds_toArray, List.set_cons_zero, List.set_cons_succ]
  refine' takeL (i := 6) (v := _) rfl (by kernel_rfl) (by kernel_rfl) (by kernel_rfl) (fun _ _ _ h => h) (Or.inl ⟨by rfl, ?yy7⟩) (by assumption) ?rr7
  case yy7 => intro w hSw; (try dsimp only at hSw); go_simp; (try with_reducible rfl)
  try simp only [Act.put, List.setIfInBounds_toArray, List.set_cons_zero, List.set_cons_succ]
  refine' takeL (i := 7) (v := _) rfl (by kernel_rfl) (by kernel_rfl) (by kernel_rfl) (fun _ _ _ h => h) (Or.inl ⟨by rfl, ?yy8⟩) (by assumption) ?rr8
  case yy8 => intro w hSw; (try dsimp only at hSw); go_simp; (try with_reducible rfl)
  try simp only [Act.put, List.setIfInBounds_toArray, List.set_cons_zero, List.set_cons_succ]
  refine' takeL (i := 8) (v := _) rfl (by kernel_rfl) (by kernel_rfl) (by kernel_rfl) (fun _ _ _ h => h) (Or.inl ⟨by rfl, ?yy9⟩) (by assumption) ?rr9
  case yy9 => intro w hSw; (try dsimp only at hSw); go_simp; (try with_reducible rfl)
  try simp only [Act.put, List.setIfInBounds_toArray, List.set_cons_zero, List.set_cons_succ]
  refine' takeL (i := 9) (v := _) rfl (by kernel_rfl) (by kernel_rfl) (by kernel_rfl) (fun _ _ _ h => h) (Or.inl ⟨by rfl, ?yy10⟩) (by assumption) ?rr10
  case yy10 => intro w hSw; (try dsimp only at hSw); go_simp; (try with_reducible rfl)
  try simp only [Act.put, List.setIfInBounds_toArray, List.set_cons_zero, List.set_cons_succ]
  refine' takeL (i := 10) (v := .int .i64 key) rfl (by kernel_rfl) (by kernel_rfl) (by kernel_rfl) (fun _ _ _ h => h) (Or.inl ⟨by rfl, ?yy11⟩) (by assumption) ?rr11
  case yy11 => intro w hSw; (try dsimp only at hSw); have hq := hSw.cp (n := 1) (by omega); rw [HK.out] at hq; go_simp; (try with_reducible rfl)
  try simp only [Act.put, List.setIfInBounds_toArray, List.set_cons_zero, List.set_cons_succ]
  refine wpAnyH_ready (rs := [11]) (by kernel_rfl) (by simp) ?_
  refine consL rfl (fun K hK => ?_) AllReadyH.nil
  go_simp
  go_at_call 16
  refine PC.out.mono ?_
  rintro e w5 ⟨rfl, hS, hG⟩
  have M5 := Lib.hid ((HH.out.drewN 1).put_ hS hG)
  have C5 := Lib.hid (show Ch w w5 [F.gb] from ((Ch.refl w [F.gb]).drewN 1).trans (Ch.of_grown hG))
  clear hS hG hHeld
  go_wp2_with fail
  refine hK.out _ _ ?_ (fun hHeld => ?_)
  · (try dsimp only); exact M5.out.m
  clear hK K
  try simp only [Act.put, List.setIfInBounds_toArray, List.set_cons_zero, List.set_cons_succ]
  refine' takeL (i := 12) (v := _) rfl (by kernel_rfl) (by kernel_rfl) (by kernel_rfl) (fun _ _ _ h => h) (Or.inl ⟨by rfl, ?yy12⟩) (by assumption) ?rr12
  case yy12 => intro w hSw; (try dsimp only at hSw); go_simp; (try with_reducible rfl)
  try simp only [Act.put, List.setIfInBounds_toArray, List.set_cons_zero, List.set_cons_succ]
  refine wpAnyH_done (by kernel_rfl) ?_ _
  clear hHeld
  go_wp2_with (go_at_call 60; refine (need_ok _ _).mono ?_; rintro e wx ⟨rfl, hwx⟩; subst hwx)
  go_end0
  exact ⟨rfl, M5.out, C5.out⟩
set_option maxRecDepth 1000000 in
set_option maxHeartbeats 4000000 in
theorem fetch_m (g : Nat) (F : Foot) (is os rs : List Int) (ps : List Value) (ov : Bool) (bs ks : List Int) (addr n key : Int) (w : World) (h : MS w g F is os rs ps ov bs ks) (hk : ps.getD 1 undef = .int .i64 key) (hc : sCode (alF key) bs.length ks addr n = 0) : Calls Try.prog 68 #[.pointer (some ⟨g, 0, none⟩), .int .i64 addr, .int .i64 n] w fun e w' => ∃ A m cap, e = .returned (.slice A m cap) ∧ Own w' w.heap.size (.slice A m cap) m (sGet bs addr n) ∧ MS w' g F is os rs ps ov bs ks ∧ Ch w w' [] := by
  have HH := Lib.hid h
  have HK := Lib.hid hk
  have FC := Lib.hid (fetch_c w.drew (h.st.drewN 1) addr n key)
  unfold sFet at FC
  rw [hc, if_pos rfl] at FC
  clear h hk hc
  go_enter Try.func68, Try.ntmps68
  go_upto_region 1 with fail
  refine wp_region_held_drew (S := (fun w' => Mc w' g is os rs ps (.pointer (some ⟨F.g, 0, none⟩)) ov)) (by kernel_rfl) ?_ (fun hHeld => ?_)
  · (try dsimp only); exact HH.out.m.drewN 1
  refine' takeL (i := 0) (v := _) rfl (by kernel_rfl) (by kernel_rfl) (by kernel_rfl) (fun _ _ _ h => h) (Or.inl ⟨by rfl, ?yy13⟩) (by assumption) ?rr13
  case yy13 => intro w hSw; (try dsimp only at hSw); go_simp; (try with_reducible rfl)
  try simp only [Act.put, List.setIfInBounds_toArray, List.set_cons_zero, List.set_cons_succ]
  refine' takeL (i := 1) (v := _) rfl (by kernel_rfl) (by kernel_rfl) (by kernel_rfl) (fun _ _ _ h => h) (Or.inl ⟨by rfl, ?yy14⟩) (by assumption) ?rr14
  case yy14 => intro w hSw; (try dsimp only at hSw); go_simp; (try with_reducible rfl)
  try simp only [Act.put, List.setIfInBounds_toArray, List.set_cons_zero, List.set_cons_succ]
  refine' takeL (i := 2) (v := _) rfl (by kernel_rfl) (by kernel_rfl) (by kernel_rfl) (fun _ _ _ h => h) (Or.inl ⟨by rfl, ?yy15⟩) (by assumption) ?rr15
  case yy15 => intro w hSw; (try dsimp only at hSw); go_simp; (try with_reducible rfl)
  try simp only [Act.put, List.setIfInBounds_toArray, List.set_cons_zero, List.set_cons_succ]
  refine' takeL (i := 3) (v := .pointer (some ⟨F.g, 0, none⟩)) rfl (by kernel_rfl) (by kernel_rfl) (by kernel_rfl) (fun _ _ _ h => h) (Or.inl ⟨by rfl, ?yy16⟩) (by assumption) ?rr16
  case yy16 => intro w hSw; (try dsimp only at hSw); have hq := hSw.cs; go_simp; (try with_reducible rfl)
  try simp only [Act.put, List.setIfInBounds_toArray, List.set_cons_zero, List.set_cons_succ]
  refine' takeL (i := 4) (v := _) rfl (by kernel_rfl) (by kernel_rfl) (by kernel_rfl) (fun _ _ _ h => h) (Or.inl ⟨by rfl, ?yy17⟩) (by assumption) ?rr17
  case yy17 => intro w hSw; (try dsimp only at hSw); go_simp; (try with_reducible rfl)
  try simp only [Act.put, List.setIfInBounds_toArray, List.set_cons_zero, List.set_cons_succ]
  refine' takeL (i := 5) (v := _) rfl (by kernel_rfl) (by kernel_rfl) (by kernel_rfl) (fun _ _ _ h => h) (Or.inl ⟨by rfl, ?yy18⟩) (by assumption) ?rr18
  case yy18 => intro w hSw; (try dsimp only at hSw); go_simp; (try with_reducible rfl)
  try simp only [Act.put, List.setIfInBounds_toArray, List.set_cons_zero, List.set_cons_succ]
  refine' takeL (i := 6) (v := _) rfl (by kernel_rfl) (by kernel_rfl) (by kernel_rfl) (fun _ _ _ h => h) (Or.inl ⟨by rfl, ?yy19⟩) (by assumption) ?rr19
  case yy19 => intro w hSw; (try dsimp only at hSw); go_simp; (try with_reducible rfl)
  try simp only [Act.put, List.setIfInBounds_toArray, List.set_cons_zero, List.set_cons_succ]
  refine' takeL (i := 7) (v := _) rfl (by kernel_rfl) (by kernel_rfl) (by kernel_rfl) (fun _ _ _ h => h) (Or.inl ⟨by rfl, ?yy20⟩) (by assumption) ?rr20
  case yy20 => intro w hSw; (try dsimp only at hSw); go_simp; (try with_reducible rfl)
  try simp only [Act.put, List.setIfInBounds_toArray, List.set_cons_zero, List.set_cons_succ]
  refine' takeL (i := 8) (v := _) rfl (by kernel_rfl) (by kernel_rfl) (by kernel_rfl) (fun _ _ _ h => h) (Or.inl ⟨by rfl, ?yy21⟩) (by assumption) ?rr21
  case yy21 => intro w hSw; (try dsimp only at hSw); go_simp; (try with_reducible rfl)
  try simp only [Act.put, List.setIfInBounds_toArray, List.set_cons_zero, List.set_cons_succ]
  refine' takeL (i := 9) (v := _) rfl (by kernel_rfl) (by kernel_rfl) (by kernel_rfl) (fun _ _ _ h => h) (Or.inl ⟨by rfl, ?yy22⟩) (by assumption) ?rr22
  case yy22 => intro w hSw; (try dsimp only at hSw); go_simp; (try with_reducible rfl)
  try simp only [Act.put, List.setIfInBounds_toArray, List.set_cons_zero, List.set_cons_succ]
  refine' takeL (i := 10) (v := .int .i64 key) rfl (by kernel_rfl) (by kernel_rfl) (by kernel_rfl) (fun _ _ _ h => h) (Or.inl ⟨by rfl, ?yy23⟩) (by assumption) ?rr23
  case yy23 => intro w hSw; (try dsimp only at hSw); have hq := hSw.cp (n := 1) (by omega); rw [HK.out] at hq; go_simp; (try with_reducible rfl)
  try simp only [Act.put, List.setIfInBounds_toArray, List.set_cons_zero, List.set_cons_succ]
  refine wpAnyH_ready (rs := [11]) (by kernel_rfl) (by simp) ?_
  refine consL rfl (fun K hK => ?_) AllReadyH.nil
  go_simp
  go_at_call 100
  refine FC.out.mono ?_
  rintro e w5 ⟨A, m, cap, rfl, hO, hb⟩
  have M5 := Lib.hid ((HH.out.drewN 1).keep hb)
  have C5 := Lib.hid (show Ch w w5 [] from ((Ch.refl w []).drewN 1).trans (Ch.of_below hb []))
  have O5 := Lib.hid hO
  clear hO hb hHeld
  go_wp2_with fail
  refine hK.out _ _ ?_ (fun hHeld => ?_)
  · (try dsimp only); exact M5.out.m
  clear hK K
  try simp only [Act.put, List.setIfInBounds_toArray, List.set_cons_zero, List.set_cons_succ]
  refine' takeL (i := 12) (v := _) rfl (by kernel_rfl) (by kernel_rfl) (by kernel_rfl) (fun _ _ _ h => h) (Or.inl ⟨by rfl, ?yy24⟩) (by assumption) ?rr24
  case yy24 => intro w hSw; (try dsimp only at hSw); go_simp; (try with_reducible rfl)
  try simp only [Act.put, List.setIfInBounds_toArray, List.set_cons_zero, List.set_cons_succ]
  refine' takeL (i := 13) (v := _) rfl (by kernel_rfl) (by kernel_rfl) (by kernel_rfl) (fun _ _ _ h => h) (Or.inl ⟨by rfl, ?yy25⟩) (by assumption) ?rr25
  case yy25 => intro w hSw; (try dsimp only at hSw); go_simp; (try with_reducible rfl)
  try simp only [Act.put, List.setIfInBounds_toArray, List.set_cons_zero, List.set_cons_succ]
  refine' takeL (i := 14) (v := _) rfl (by kernel_rfl) (by kernel_rfl) (by kernel_rfl) (fun _ _ _ h => h) (Or.inl ⟨by rfl, ?yy26⟩) (by assumption) ?rr26
  case yy26 => intro w hSw; (try dsimp only at hSw); go_simp; (try with_reducible rfl)
  try simp only [Act.put, List.setIfInBounds_toArray, List.set_cons_zero, List.set_cons_succ]
  refine' takeL (i := 15) (v := _) rfl (by kernel_rfl) (by kernel_rfl) (by kernel_rfl) (fun _ _ _ h => h) (Or.inl ⟨by rfl, ?yy27⟩) (by assumption) ?rr27
  case yy27 => intro w hSw; (try dsimp only at hSw); go_simp; (try with_reducible rfl)
  try simp only [Act.put, List.setIfInBounds_toArray, List.set_cons_zero, List.set_cons_succ]
  refine' takeL (i := 16) (v := _) rfl (by kernel_rfl) (by kernel_rfl) (by kernel_rfl) (fun _ _ _ h => h) (Or.inl ⟨by rfl, ?yy28⟩) (by assumption) ?rr28
  case yy28 => intro w hSw; (try dsimp only at hSw); go_simp; (try with_reducible rfl)
  try simp only [Act.put, List.setIfInBounds_toArray, List.set_cons_zero, List.set_cons_succ]
  refine wpAnyH_done (by kernel_rfl) ?_ _
  clear hHeld
  go_wp2_with (go_at_call 60; refine (need_ok _ _).mono ?_; rintro e wx ⟨rfl, hwx⟩; subst hwx)
  go_ret
  exact ⟨A, m, cap, by rfl, O5.out, M5.out, C5.out⟩
end Go.Proofs.Ythjdjbipfdigeaa

namespace Go.Proofs.Ythjdjbipfdigeaa
open Go.RowKit
set_option maxRecDepth 100000
set_option linter.unusedVariables false
set_option linter.unusedSimpArgs false
set_option maxRecDepth 1000000 in
set_option maxHeartbeats 4000000 in
theorem need_no (c : Int) (w : World) : Calls Try.prog 60 #[.bool false, .int .i64 c] w fun e w' => e = .panicked [{ v := .iface 65 (.int .i64 c), recovered := false }] ∧ w = w' := by
  go_enter Try.func60, Try.ntmps60
  go_wp2
  first | exact ⟨rfl, rfl⟩ | exact ⟨rfl, rfl, rfl⟩
set_option maxRecDepth 1000000 in
set_option maxHeartbeats 4000000 in
theorem put_no (g : Nat) (F : Foot) (is os rs : List Int) (ps : List Value) (ov : Bool) (bs ks : List Int) (addr key : Int) (A : Option Addr) (len cap : Nat) (ys : List Int) (w : World) (h : MS w g F is os rs ps ov bs ks) (hk : ps.getD 1 undef = .int .i64 key) (hy : Byt w A len ys) (hl : (len : Int) ≤ 9223372036854775807) (c : Int) (hc : sCode (alP key) bs.length ks addr len = c) (hc0 : c ≠ 0) : Calls Try.prog 65 #[.pointer (some ⟨g, 0, none⟩), .int .i64 addr, .slice A len cap] w fun e w' => e = .panicked [{ v := .iface 65 (.int .i64 c), recovered := false }] ∧ MS w' g F is os rs ps ov bs ks ∧ Ch w w' [F.gb] := by
  have HH := Lib.hid h
  have HK := Lib.hid hk
  have PC := Lib.hid (put_c w.drew (h.st.drewN 1) addr key A len cap ys (hy.keep (below_draw w 1)) hl)
  have hsame : sPut (alP key) bs ks addr ys = bs := by
    unfold sPut
    rw [hy.1, hc, if_neg hc0]
  rw [hc, hsame] at PC
  have e0 : (c == 0) = false := by simpa using hc0
  clear h hk hy hc hsame
  go_enter Try.func65, Try.ntmps65
  go_upto_region 0 with fail
  refine wp_region_held_drew (S := (fun w' => Mc w' g is os rs ps (.pointer (some ⟨F.g, 0, none⟩)) ov)) (by kernel_rfl) ?_ (fun hHeld => ?_)
  · (try dsimp only); exact HH.out.m.drewN 1
  refine' takeL (i := 0) (v := _) rfl (by kernel_rfl) (by kernel_rfl) (by kernel_rfl) (fun _ _ _ h => h) (Or.inl ⟨by rfl, ?yy1⟩) (by assumption) ?rr1
  case yy1 => intro w hSw; (try dsimp only at hSw); go_simp; (try with_reducible rfl)
  try simp only [Act.put, List.setIfInBounds_toArray, List.set_cons_zero, List.set_cons_succ]
  refine' takeL (i := 1) (v := _) rfl (by kernel_rfl) (by kernel_rfl) (by kernel_rfl) (fun _ _ _ h => h) (Or.inl ⟨by rfl, ?yy2⟩) (by assumption) ?rr2
  case yy2 => intro w hSw; (try dsimp only at hSw); go_simp; (try with_reducible rfl)
  try simp only [Act.put, List.setIfInBounds_toArray, List.set_cons_zero, List.set_cons_succ]
  refine' takeL (i := 2) (v := _) rfl (by kernel_rfl) (by kernel_rfl) (by kernel_rfl) (fun _ _ _ h => h) (Or.inl ⟨by rfl, ?yy3⟩) (by assumption) ?rr3
  case yy3 => intro w hSw; (try dsimp only at hSw); go_simp; (try with_reducible rfl)
  try simp only [Act.put, List.setIfInBounds_toArray, List.set_cons_zero, List.set_cons_succ]
  refine' takeL (i := 3) (v := .pointer (some ⟨F.g, 0, none⟩)) rfl (by kernel_rfl) (by kernel_rfl) (by kernel_rfl) (fun _ _ _ h => h) (Or.inl ⟨by rfl, ?yy4⟩) (by assumption) ?rr4
  case yy4 => intro w hSw; (try dsimp only at hSw); have hq := hSw.cs; go_simp; (try with_reducible rfl)
  try simp only [Act.put, List.setIfInBounds_toArray, List.set_cons_zero, List.set_cons_succ]
  refine' takeL (i := 4) (v := _) rfl (by kernel_rfl) (by kernel_rfl) (by kernel_rfl) (fun _ _ _ h => h) (Or.inl ⟨by rfl, ?yy5⟩) (by assumption) ?rr5
  case yy5 => intro w hSw; (try dsimp only at hSw); go_simp; (try with_reducible rfl)
  try simp only [Act.put, List.setIfInBounds_toArray, List.set_cons_zero, List.set_cons_succ]
  refine' takeL (i := 5) (v := _) rfl (by kernel_rfl) (by kernel_rfl) (by kernel_rfl) (fun _ _ _ h => h) (Or.inl ⟨by rfl, ?yy6⟩) (by assumption) ?rr6
  case yy6 => intro w hSw; (try dsimp only at hSw); go_simp; (try with_reducible rfl)
  try simp only [Act.put, List.setIfInBounds_toArray, List.set_cons_zero, List.set_cons_succ]
  refine' takeL (i := 6) (v := _) rfl (by kernel_rfl) (by kernel_rfl) (by kernel_rfl) (fun _ _ _ h => h) (Or.inl ⟨by rfl, ?yy7⟩) (by assumption) ?rr7
  case yy7 => intro w hSw; (try dsimp only at hSw); go_simp; (try with_reducible rfl)
  try simp only [Act.put, List.setIfInBounds_toArray, List.set_cons_zero, List.set_cons_succ]
  refine' takeL (i := 7) (v := _) rfl (by kernel_rfl) (by kernel_rfl) (by kernel_rfl) (fun _ _ _ h => h) (Or.inl ⟨by rfl, ?yy8⟩) (by assumption) ?rr8
  case yy8 => intro w hSw; (try dsimp only at hSw); go_simp; (try with_reducible rfl)
  try simp only [Act.put, List.setIfInBounds_toArray, List.set_cons_zero, List.set_cons_succ]
  refine' takeL (i := 8) (v := _) rfl (by kernel_rfl) (by kernel_rfl) (by kernel_rfl) (fun _ _ _ h => h) (Or.inl ⟨by rfl, ?yy9⟩) (by assumption) ?rr9
  case yy9 => intro w hSw; (try dsimp only at hSw); go_simp; (try with_reducible rfl)
  try simp only [Act.put, List.setIfInBounds_toArray, List.set_cons_zero, List.set_cons_succ]
  refine' takeL (i := 9) (v := _) rfl (by kernel_rfl) (by kernel_rfl) (by kernel_rfl) (fun _ _ _ h => h) (Or.inl ⟨by rfl, ?yy10⟩) (by assumption) ?rr10
  case yy10 => intro w hSw; (try dsimp only at hSw); go_simp; (try with_reducible rfl)
  try simp only [Act.put, List.setIfInBounds_toArray, List.set_cons_zero, List.set_cons_succ]
  refine' takeL (i := 10) (v := .int .i64 key) rfl (by kernel_rfl) (by kernel_rfl) (by kernel_rfl) (fun _ _ _ h => h) (Or.inl ⟨by rfl, ?yy11⟩) (by assumption) ?rr11
  case yy11 => intro w hSw; (try dsimp only at hSw); have hq := hSw.cp (n := 1) (by omega); rw [HK.out] at hq; go_simp; (try with_reducible rfl)
  try simp only [Act.put, List.setIfInBounds_toArray, List.set_cons_zero, List.set_cons_succ]
  refine wpAnyH_ready (rs := [11]) (by kernel_rfl) (by simp) ?_
  refine consL rfl (fun K hK => ?_) AllReadyH.nil
  go_simp
  go_at_call 16
  refine PC.out.mono ?_
  rintro e w5 ⟨rfl, hS, hG⟩
  have M5 := Lib.hid ((HH.out.drewN 1).put_ hS hG)
  have C5 := Lib.hid (show Ch w w5 [F.gb] from ((Ch.refl w [F.gb]).drewN 1).trans (Ch.of_grown hG))
  clear hS hG hHeld
  go_wp2_with fail
  refine hK.out _ _ ?_ (fun hHeld => ?_)
  · (try dsimp only); exact M5.out.m
  clear hK K
  try simp only [Act.put, List.setIfInBounds_toArray, List.set_cons_zero, List.set_cons_succ]
  refine' takeL (i := 12) (v := _) rfl (by kernel_rfl) (by kernel_rfl) (by kernel_rfl) (fun _ _ _ h => h) (Or.inl ⟨by rfl, ?yy12⟩) (by assumption) ?rr12
  case yy12 => intro w hSw; (try dsimp only at hSw); go_simp; (try with_reducible rfl)
  try simp only [Act.put, List.setIfInBounds_toArray, List.set_cons_zero, List.set_cons_succ]
  refine wpAnyH_done (by kernel_rfl) ?_ _
  clear hHeld
  go_wp2_with (go_at_call 60; refine (need_no _ _).mono ?_; rintro e wx ⟨rfl, hwx⟩; subst hwx)
  exact ⟨rfl, rfl, M5.out, C5.out⟩
set_option maxRecDepth 1000000 in
set_option maxHeartbeats 4000000 in
theorem fetch_no (g : Nat) (F : Foot) (is os rs : List Int) (ps : List Value) (ov : Bool) (bs ks : List Int) (addr n key : Int) (w : World) (h : MS w g F is os rs ps ov bs ks) (hk : ps.getD 1 undef = .int .i64 key) (c : Int) (hc : sCode (alF key) bs.length ks addr n = c) (hc0 : c ≠ 0) : Calls Try.prog 68 #[.pointer (some ⟨g, 0, none⟩), .int .i64 addr, .int .i64 n] w fun e w' => e = .panicked [{ v := .iface 65 (.int .i64 c), recovered := false }] ∧ MS w' g F is os rs ps ov bs ks ∧ Ch w w' [] := by
  have HH := Lib.hid h
  have HK := Lib.hid hk
  have FC := Lib.hid (fetch_c w.drew (h.st.drewN 1) addr n key)
  unfold sFet at FC
  rw [hc, if_neg hc0] at FC
  have e0 : (c == 0) = false := by simpa using hc0
  clear h hk hc
  go_enter Try.func68, Try.ntmps68
  go_upto_region 1 with fail
  refine wp_region_held_drew (S := (fun w' => Mc w' g is os rs ps (.pointer (some ⟨F.g, 0, none⟩)) ov)) (by kernel_rfl) ?_ (fun hHeld => ?_)
  · (try dsimp only); exact HH.out.m.drewN 1
  refine' takeL (i := 0) (v := _) rfl (by kernel_rfl) (by kernel_rfl) (by kernel_rfl) (fun _ _ _ h => h) (Or.inl ⟨by rfl, ?yy13⟩) (by assumption) ?rr13
  case yy13 => intro w hSw; (try dsimp only at hSw); go_simp; (try with_reducible rfl)
  try simp only [Act.put, List.setIfInBounds_toArray, List.set_cons_zero, List.set_cons_succ]
  refine' takeL (i := 1) (v := _) rfl (by kernel_rfl) (by kernel_rfl) (by kernel_rfl) (fun _ _ _ h => h) (Or.inl ⟨by rfl, ?yy14⟩) (by assumption) ?rr14
  case yy14 => intro w hSw; (try dsimp only at hSw); go_simp; (try with_reducible rfl)
  try simp only [Act.put, List.setIfInBounds_toArray, List.set_cons_zero, List.set_cons_succ]
  refine' takeL (i := 2) (v := _) rfl (by kernel_rfl) (by kernel_rfl) (by kernel_rfl) (fun _ _ _ h => h) (Or.inl ⟨by rfl, ?yy15⟩) (by assumption) ?rr15
  case yy15 => intro w hSw; (try dsimp only at hSw); go_simp; (try with_reducible rfl)
  try simp only [Act.put, List.setIfInBounds_toArray, List.set_cons_zero, List.set_cons_succ]
  refine' takeL (i := 3) (v := .pointer (some ⟨F.g, 0, none⟩)) rfl (by kernel_rfl) (by kernel_rfl) (by kernel_rfl) (fun _ _ _ h => h) (Or.inl ⟨by rfl, ?yy16⟩) (by assumption) ?rr16
  case yy16 => intro w hSw; (try dsimp only at hSw); have hq := hSw.cs; go_simp; (try with_reducible rfl)
  try simp only [Act.put, List.setIfInBounds_toArray, List.set_cons_zero, List.set_cons_succ]
  refine' takeL (i := 4) (v := _) rfl (by kernel_rfl) (by kernel_rfl) (by kernel_rfl) (fun _ _ _ h => h) (Or.inl ⟨by rfl, ?yy17⟩) (by assumption) ?rr17
  case yy17 => intro w hSw; (try dsimp only at hSw); go_simp; (try with_reducible rfl)
  try simp only [Act.put, List.setIfInBounds_toArray, List.set_cons_zero, List.set_cons_succ]
  refine' takeL (i := 5) (v := _) rfl (by kernel_rfl) (by kernel_rfl) (by kernel_rfl) (fun _ _ _ h => h) (Or.inl ⟨by rfl, ?yy18⟩) (by assumption) ?rr18
  case yy18 => intro w hSw; (try dsimp only at hSw); go_simp; (try with_reducible rfl)
  try simp only [Act.put, List.setIfInBounds_toArray, List.set_cons_zero, List.set_cons_succ]
  refine' takeL (i := 6) (v := _) rfl (by kernel_rfl) (by kernel_rfl) (by kernel_rfl) (fun _ _ _ h => h) (Or.inl ⟨by rfl, ?yy19⟩) (by assumption) ?rr19
  case yy19 => intro w hSw; (try dsimp only at hSw); go_simp; (try with_reducible rfl)
  try simp only [Act.put, List.setIfInBounds_toArray, List.set_cons_zero, List.set_cons_succ]
  refine' takeL (i := 7) (v := _) rfl (by kernel_rfl) (by kernel_rfl) (by kernel_rfl) (fun _ _ _ h => h) (Or.inl ⟨by rfl, ?yy20⟩) (by assumption) ?rr20
  case yy20 => intro w hSw; (try dsimp only at hSw); go_simp; (try with_reducible rfl)
  try simp only [Act.put, List.setIfInBounds_toArray, List.set_cons_zero, List.set_cons_succ]
  refine' takeL (i := 8) (v := _) rfl (by kernel_rfl) (by kernel_rfl) (by kernel_rfl) (fun _ _ _ h => h) (Or.inl ⟨by rfl, ?yy21⟩) (by assumption) ?rr21
  case yy21 => intro w hSw; (try dsimp only at hSw); go_simp; (try with_reducible rfl)
  try simp only [Act.put, List.setIfInBounds_toArray, List.set_cons_zero, List.set_cons_succ]
  refine' takeL (i := 9) (v := _) rfl (by kernel_rfl) (by kernel_rfl) (by kernel_rfl) (fun _ _ _ h => h) (Or.inl ⟨by rfl, ?yy22⟩) (by assumption) ?rr22
  case yy22 => intro w hSw; (try dsimp only at hSw); go_simp; (try with_reducible rfl)
  try simp only [Act.put, List.setIfInBounds_toArray, List.set_cons_zero, List.set_cons_succ]
  refine' takeL (i := 10) (v := .int .i64 key) rfl (by kernel_rfl) (by kernel_rfl) (by kernel_rfl) (fun _ _ _ h => h) (Or.inl ⟨by rfl, ?yy23⟩) (by assumption) ?rr23
  case yy23 => intro w hSw; (try dsimp only at hSw); have hq := hSw.cp (n := 1) (by omega); rw [HK.out] at hq; go_simp; (try with_reducible rfl)
  try simp only [Act.put, List.setIfInBounds_toArray, List.set_cons_zero, List.set_cons_succ]
  refine wpAnyH_ready (rs := [11]) (by kernel_rfl) (by simp) ?_
  refine consL rfl (fun K hK => ?_) AllReadyH.nil
  go_simp
  go_at_call 100
  refine FC.out.mono ?_
  rintro e w5 ⟨A, m, cap, rfl, hO, hb⟩
  have M5 := Lib.hid ((HH.out.drewN 1).keep hb)
  have C5 := Lib.hid (show Ch w w5 [] from ((Ch.refl w []).drewN 1).trans (Ch.of_below hb []))
  clear hO hb hHeld
  go_wp2_with fail
  refine hK.out _ _ ?_ (fun hHeld => ?_)
  · (try dsimp only); exact M5.out.m
  clear hK K
  try simp only [Act.put, List.setIfInBounds_toArray, List.set_cons_zero, List.set_cons_succ]
  refine' takeL (i := 12) (v := _) rfl (by kernel_rfl) (by kernel_rfl) (by kernel_rfl) (fun _ _ _ h => h) (Or.inl ⟨by rfl, ?yy24⟩) (by assumption) ?rr24
  case yy24 => intro w hSw; (try dsimp only at hSw); go_simp; (try with_reducible rfl)
  try simp only [Act.put, List.setIfInBounds_toArray, List.set_cons_zero, List.set_cons_succ]
  refine' takeL (i := 13) (v := _) rfl (by kernel_rfl) (by kernel_rfl) (by kernel_rfl) (fun _ _ _ h => h) (Or.inl ⟨by rfl, ?yy25⟩) (by assumption) ?rr25
  case yy25 => intro w hSw; (try dsimp only at hSw); go_simp; (try with_reducible rfl)
  try simp only [Act.put, List.setIfInBounds_toArray, List.set_cons_zero, List.set_cons_succ]
  refine' takeL (i := 14) (v := _) rfl (by kernel_rfl) (by kernel_rfl) (by kernel_rfl) (fun _ _ _ h => h) (Or.inl ⟨by rfl, ?yy26⟩) (by assumption) ?rr26
  case yy26 => intro w hSw; (try dsimp only at hSw); go_simp; (try with_reducible rfl)
  try simp only [Act.put, List.setIfInBounds_toArray, List.set_cons_zero, List.set_cons_succ]
  refine' takeL (i := 15) (v := _) rfl (by kernel_rfl) (by kernel_rfl) (by kernel_rfl) (fun _ _ _ h => h) (Or.inl ⟨by rfl, ?yy27⟩) (by assumption) ?rr27
  case yy27 => intro w hSw; (try dsimp only at hSw); go_simp; (try with_reducible rfl)
  try simp only [Act.put, List.setIfInBounds_toArray, List.set_cons_zero, List.set_cons_succ]
  refine' takeL (i := 16) (v := _) rfl (by kernel_rfl) (by kernel_rfl) (by kernel_rfl) (fun _ _ _ h => h) (Or.inl ⟨by rfl, ?yy28⟩) (by assumption) ?rr28
  case yy28 => intro w hSw; (try dsimp only at hSw); go_simp; (try with_reducible rfl)
  try simp only [Act.put, List.setIfInBounds_toArray, List.set_cons_zero, List.set_cons_succ]
  refine wpAnyH_done (by kernel_rfl) ?_ _
  clear hHeld
  go_wp2_with (go_at_call 60; refine (need_no _ _).mono ?_; rintro e wx ⟨rfl, hwx⟩; subst hwx)
  exact ⟨rfl, rfl, M5.out, C5.out⟩
end Go.Proofs.Ythjdjbipfdigeaa

namespace Go.Proofs.Ythjdjbipfdigeaa
open Go.RowKit
set_option maxRecDepth 100000
set_option linter.unusedVariables false
set_option linter.unusedSimpArgs false
set_option maxRecDepth 1000000 in
set_option maxHeartbeats 4000000 in
theorem exec_ar (g n m : Nat) (is os rs : List Int) (ps : List Value) (s : Value) (ov : Bool) (w : World) (hm : Mc w g is os rs ps s ov) (h0 : is.getD 0 0 = 26) (hf : is.getD 1 0 = 1) (hn : is.getD 2 0 = (n : Int)) (hn16 : n < 16) (hk : is.getD 3 0 = (m : Int)) (hk16 : m < 16) (ro : ∀ z ∈ os, 0 ≤ z ∧ z ≤ 4294967295) : Calls Try.prog 31 #[.pointer (some ⟨g, 0, none⟩)] w fun e w' => e = .returned (.tuple #[]) ∧ Mc w' g is os (rs.set n (lo32 (sg (os.getD n 0) + sg (os.getD m 0)))) (ps.set 7 (.int .i64 (rcc (sg (os.getD n 0) + sg (os.getD m 0))))) s (ovf (sg (os.getD n 0) + sg (os.getD m 0))) ∧ Ch w w' [g] := by
  have c0 := hm.ci (c := 0) (by omega)
  rw [h0] at c0
  have AC := Lib.hid (arith_ar g n m is os rs ps s ov w hm h0 hf hn hn16 hk hk16 ro)
  clear hm h0 hf hn hk ro
  go_enter Try.func31, Try.ntmps31
  go_wp2_with (go_at_call 48; refine AC.out.mono ?_; rintro e w3 ⟨rfl, hM3, hC3⟩; have HM3 := Lib.hid hM3; have HC3 := Lib.hid hC3; clear hM3 hC3)
  go_end0
  exact ⟨by rfl, HM3.out, HC3.out⟩
theorem opsS_value {P : Program} {ops : Array Oper} {Q : Exit → Act → List Frame → World → Prop} {i : Nat} {rest : List Nat} {a : Act} {cs : List Frame} {w w' : World} {o : Oper} {v : Value} (ho : ops[i]? = some o) (hw : Region.wanted o (yielded ops a.tmps) = true) (hr : (execOp a.eval o).run P w = .ok (.value v) w') (h : wpOpsS P ops Q rest (a.put o.dst v) cs w') : wpOpsS P ops Q (i :: rest) a cs w := by
  simp only [wpOpsS, ho, hw, if_true, hr]
  exact h
theorem opsS_idle {P : Program} {ops : Array Oper} {Q : Exit → Act → List Frame → World → Prop} {i : Nat} {rest : List Nat} {a : Act} {cs : List Frame} {w w' : World} {o : Oper} (ho : ops[i]? = some o) (hw : Region.wanted o (yielded ops a.tmps) = true) (hr : (execOp a.eval o).run P w = .ok .recover w') (hc : recoverD cs = none) (h : wpOpsS P ops Q rest (a.put o.dst .nilIface) cs w') : wpOpsS P ops Q (i :: rest) a cs w := by
  simp only [wpOpsS, ho, hw, if_true, hr, hc]
  exact h
set_option maxHeartbeats 4000000 in
theorem catch_idle (r p nr np en : Value) (w : World) :
    CallsD Try.prog 30 #[r, p, nr, np, en] .returning w fun e u' w' => e = .returned (.tuple #[]) ∧ u' = .returning ∧ w' = w := by
  refine callsD_of_wpS Try.func30 rfl fun c₀ cs hu => ?_
  simp only [Try.ntmps30, List.size_toArray, List.length_cons, List.length_nil, Nat.reduceAdd, Nat.reduceSub, Array.replicate_succ, Array.replicate_zero, List.push_toArray, List.append_toArray, List.nil_append, List.cons_append]
  apply wpS_seq
  apply wpS_region
  show wpOpsS _ _ _ [0, 1, 2, 3, 4, 5, 6] _ _ _
  refine opsS_idle (w' := w) rfl (by kernel_rfl) (by kernel_rfl) (by simp [recoverD, hu]) ?_
  refine opsS_value (v := .tuple #[.int .i64 0, .bool false]) (w' := w) rfl (by kernel_rfl) (by kernel_rfl) ?_
  refine opsS_value (v := .tuple #[.int .i64 0, .bool false]) (w' := w) rfl (by kernel_rfl) (by kernel_rfl) ?_
  refine opsS_value (v := .int .i64 0) (w' := w) rfl (by kernel_rfl) (by kernel_rfl) ?_
  refine opsS_value (v := .bool false) (w' := w) rfl (by kernel_rfl) (by kernel_rfl) ?_
  refine opsS_value (v := .int .i64 0) (w' := w) rfl (by kernel_rfl) (by kernel_rfl) ?_
  refine opsS_value (v := .bool false) (w' := w) rfl (by kernel_rfl) (by kernel_rfl) ?_
  simp only [Act.put, List.setIfInBounds_toArray, List.set_cons_zero, List.set_cons_succ]
  unfold wpOpsS
  simp only [Exit.thenS]
  refine wpS_of_wp ?_
  go_wp2
  exact ⟨rfl, .returning, by cases c₀; simp_all, .tuple #[], by simp [results, Try.results30], rfl, rfl, rfl⟩
end Go.Proofs.Ythjdjbipfdigeaa

namespace Go.Proofs.Ythjdjbipfdigeaa
open Go.RowKit
set_option linter.unusedVariables false
set_option linter.unusedSimpArgs false
def knL : List Int := [4, 5, 6, 7, 16, 17, 18, 19, 20, 21, 22, 23, 24, 25, 26, 27, 28, 29, 30, 31, 64, 65, 66, 67, 69, 70, 71, 72, 73, 74, 75, 76, 80, 84, 85, 86, 87, 88, 89, 90, 91, 92, 93, 94, 95, 134, 135, 136, 137, 138, 139, 140, 141, 142, 143, 144, 145, 146, 147, 148, 149, 150, 151, 152, 209, 210, 211, 212, 213, 214, 215, 220, 221]
def kn (op : Int) : Bool := decide (op ∈ knL)
def knB (op : Int) : Bool := isOp op && (!privB op && (!decide (op ∈ [10, 68, 78, 79, 222, 223]) && decide (op < 240)))
theorem isOp_in {op : Int} (h : isOp op = true) : 4 ≤ op ∧ op ≤ 253 := by
  unfold isOp at h; rw [decide_eq_true_iff] at h
  have := op_range _ h; rwa [ix_op h] at this
theorem knB_lt : ∀ n : Nat, n < 256 → knB (n : Int) = kn (n : Int) := by decide +kernel
theorem knL_in : ∀ op ∈ knL, 0 ≤ op ∧ op ≤ 255 := by decide
theorem knB_eq (op : Int) : knB op = kn op := by
  by_cases h : 0 ≤ op ∧ op ≤ 255
  · have e : ((op.toNat : Nat) : Int) = op := Int.toNat_of_nonneg h.1
    rw [← e]; exact knB_lt _ (by omega)
  · have h1 : isOp op = false := by
      cases hi : isOp op
      · rfl
      · have := isOp_in hi; omega
    have h2 : kn op = false := decide_eq_false (fun hm => h (knL_in op hm))
    rw [h2]; unfold knB; rw [h1]; rfl
set_option maxRecDepth 1000000 in
set_option maxHeartbeats 4000000 in
theorem knows_no (op : Int) (w : World) (h : isOp op = false) : Calls Try.prog 11 #[.int .i64 op] w fun e w' => e = .returned (.bool false) ∧ ∃ n, w' = w.drewN n := by
  have FC := Lib.hid (form_c op)
  have PC := Lib.hid (priv_c op)
  obtain ⟨f, hf⟩ : ∃ f, fmOf op = f := ⟨_, rfl⟩
  rw [hf] at FC
  clear hf
  rw [h] at FC
  clear h
  go_enter Try.func11, Try.ntmps11
  go_wp2_with (first
    | (go_at_call 25; refine (FC.out _).mono ?_; rintro e w1 ⟨rfl, n1, rfl⟩)
    | (go_at_call 26; refine (PC.out _).mono ?_; rintro e w2 ⟨rfl, hw2⟩; subst hw2))
  go_ret
  exact ⟨by first | rfl | (show Ending.returned (.bool (decide (op < 240))) = _; rw [decide_eq_false (by omega)]), _, rfl⟩
set_option maxRecDepth 1000000 in
set_option maxHeartbeats 4000000 in
theorem knows_priv (op : Int) (w : World) (h : isOp op = true) (hp : privB op = true) : Calls Try.prog 11 #[.int .i64 op] w fun e w' => e = .returned (.bool false) ∧ ∃ n, w' = w.drewN n := by
  have FC := Lib.hid (form_c op)
  have PC := Lib.hid (priv_c op)
  obtain ⟨f, hf⟩ : ∃ f, fmOf op = f := ⟨_, rfl⟩
  rw [hf] at FC
  clear hf
  rw [h] at FC
  rw [hp] at PC
  clear h hp
  go_enter Try.func11, Try.ntmps11
  go_wp2_with (first
    | (go_at_call 25; refine (FC.out _).mono ?_; rintro e w1 ⟨rfl, n1, rfl⟩)
    | (go_at_call 26; refine (PC.out _).mono ?_; rintro e w2 ⟨rfl, hw2⟩; subst hw2))
  go_ret
  exact ⟨by first | rfl | (show Ending.returned (.bool (decide (op < 240))) = _; rw [decide_eq_false (by omega)]), _, rfl⟩
set_option maxRecDepth 1000000 in
set_option maxHeartbeats 4000000 in
theorem knows_yes (op : Int) (w : World) (h : isOp op = true) (hp : privB op = false) (h10 : op ≠ 10) (h68 : op ≠ 68) (h78 : op ≠ 78) (h79 : op ≠ 79) (h222 : op ≠ 222) (h223 : op ≠ 223) (hl : op < 240) : Calls Try.prog 11 #[.int .i64 op] w fun e w' => e = .returned (.bool true) ∧ ∃ n, w' = w.drewN n := by
  have FC := Lib.hid (form_c op)
  have PC := Lib.hid (priv_c op)
  obtain ⟨f, hf⟩ : ∃ f, fmOf op = f := ⟨_, rfl⟩
  rw [hf] at FC
  clear hf
  rw [h] at FC
  rw [hp] at PC
  clear h hp
  have e10 : (op == 10) = false := by simpa using h10
  have e68 : (op == 68) = false := by simpa using h68
  have e78 : (op == 78) = false := by simpa using h78
  have e79 : (op == 79) = false := by simpa using h79
  have e222 : (op == 222) = false := by simpa using h222
  have e223 : (op == 223) = false := by simpa using h223
  clear h10 h68 h78 h79 h222 h223
  go_enter Try.func11, Try.ntmps11
  go_wp2_with (first
    | (go_at_call 25; refine (FC.out _).mono ?_; rintro e w1 ⟨rfl, n1, rfl⟩)
    | (go_at_call 26; refine (PC.out _).mono ?_; rintro e w2 ⟨rfl, hw2⟩; subst hw2))
  go_ret
  exact ⟨by first | rfl | (show Ending.returned (.bool (decide (op < 240))) = _; rw [decide_eq_false (by omega)]), _, rfl⟩
set_option maxRecDepth 1000000 in
set_option maxHeartbeats 4000000 in
theorem knows_ge (op : Int) (w : World) (h : isOp op = true) (hp : privB op = false) (h10 : op ≠ 10) (h68 : op ≠ 68) (h78 : op ≠ 78) (h79 : op ≠ 79) (h222 : op ≠ 222) (h223 : op ≠ 223) (hl : ¬ op < 240) : Calls Try.prog 11 #[.int .i64 op] w fun e w' => e = .returned (.bool false) ∧ ∃ n, w' = w.drewN n := by
  have FC := Lib.hid (form_c op)
  have PC := Lib.hid (priv_c op)
  obtain ⟨f, hf⟩ : ∃ f, fmOf op = f := ⟨_, rfl⟩
  rw [hf] at FC
  clear hf
  rw [h] at FC
  rw [hp] at PC
  clear h hp
  have e10 : (op == 10) = false := by simpa using h10
  have e68 : (op == 68) = false := by simpa using h68
  have e78 : (op == 78) = false := by simpa using h78
  have e79 : (op == 79) = false := by simpa using h79
  have e222 : (op == 222) = false := by simpa using h222
  have e223 : (op == 223) = false := by simpa using h223
  clear h10 h68 h78 h79 h222 h223
  go_enter Try.func11, Try.ntmps11
  go_wp2_with (first
    | (go_at_call 25; refine (FC.out _).mono ?_; rintro e w1 ⟨rfl, n1, rfl⟩)
    | (go_at_call 26; refine (PC.out _).mono ?_; rintro e w2 ⟨rfl, hw2⟩; subst hw2))
  go_ret
  exact ⟨by first | rfl | (show Ending.returned (.bool (decide (op < 240))) = _; rw [decide_eq_false (by omega)]), _, rfl⟩
set_option maxRecDepth 1000000 in
set_option maxHeartbeats 4000000 in
theorem knows_at10 (op : Int) (w : World) (h : isOp op = true) (hp : privB op = false) (hk : op = 10) : Calls Try.prog 11 #[.int .i64 op] w fun e w' => e = .returned (.bool false) ∧ ∃ n, w' = w.drewN n := by
  have FC := Lib.hid (form_c op)
  have PC := Lib.hid (priv_c op)
  obtain ⟨f, hf⟩ : ∃ f, fmOf op = f := ⟨_, rfl⟩
  rw [hf] at FC
  clear hf
  rw [h] at FC
  rw [hp] at PC
  clear h hp
  have e10 : (op == 10) = true := by rw [hk]; rfl
  have e68 : (op == 68) = false := by rw [hk]; rfl
  have e78 : (op == 78) = false := by rw [hk]; rfl
  have e79 : (op == 79) = false := by rw [hk]; rfl
  have e222 : (op == 222) = false := by rw [hk]; rfl
  have e223 : (op == 223) = false := by rw [hk]; rfl
  clear hk
  go_enter Try.func11, Try.ntmps11
  go_wp2_with (first
    | (go_at_call 25; refine (FC.out _).mono ?_; rintro e w1 ⟨rfl, n1, rfl⟩)
    | (go_at_call 26; refine (PC.out _).mono ?_; rintro e w2 ⟨rfl, hw2⟩; subst hw2))
  go_ret
  exact ⟨by first | rfl | (show Ending.returned (.bool (decide (op < 240))) = _; rw [decide_eq_false (by omega)]), _, rfl⟩
set_option maxRecDepth 1000000 in
set_option maxHeartbeats 4000000 in
theorem knows_at68 (op : Int) (w : World) (h : isOp op = true) (hp : privB op = false) (hk : op = 68) : Calls Try.prog 11 #[.int .i64 op] w fun e w' => e = .returned (.bool false) ∧ ∃ n, w' = w.drewN n := by
  have FC := Lib.hid (form_c op)
  have PC := Lib.hid (priv_c op)
  obtain ⟨f, hf⟩ : ∃ f, fmOf op = f := ⟨_, rfl⟩
  rw [hf] at FC
  clear hf
  rw [h] at FC
  rw [hp] at PC
  clear h hp
  have e10 : (op == 10) = false := by rw [hk]; rfl
  have e68 : (op == 68) = true := by rw [hk]; rfl
  have e78 : (op == 78) = false := by rw [hk]; rfl
  have e79 : (op == 79) = false := by rw [hk]; rfl
  have e222 : (op == 222) = false := by rw [hk]; rfl
  have e223 : (op == 223) = false := by rw [hk]; rfl
  clear hk
  go_enter Try.func11, Try.ntmps11
  go_wp2_with (first
    | (go_at_call 25; refine (FC.out _).mono ?_; rintro e w1 ⟨rfl, n1, rfl⟩)
    | (go_at_call 26; refine (PC.out _).mono ?_; rintro e w2 ⟨rfl, hw2⟩; subst hw2))
  go_ret
  exact ⟨by first | rfl | (show Ending.returned (.bool (decide (op < 240))) = _; rw [decide_eq_false (by omega)]), _, rfl⟩
set_option maxRecDepth 1000000 in
set_option maxHeartbeats 4000000 in
theorem knows_at78 (op : Int) (w : World) (h : isOp op = true) (hp : privB op = false) (hk : op = 78) : Calls Try.prog 11 #[.int .i64 op] w fun e w' => e = .returned (.bool false) ∧ ∃ n, w' = w.drewN n := by
  have FC := Lib.hid (form_c op)
  have PC := Lib.hid (priv_c op)
  obtain ⟨f, hf⟩ : ∃ f, fmOf op = f := ⟨_, rfl⟩
  rw [hf] at FC
  clear hf
  rw [h] at FC
  rw [hp] at PC
  clear h hp
  have e10 : (op == 10) = false := by rw [hk]; rfl
  have e68 : (op == 68) = false := by rw [hk]; rfl
  have e78 : (op == 78) = true := by rw [hk]; rfl
  have e79 : (op == 79) = false := by rw [hk]; rfl
  have e222 : (op == 222) = false := by rw [hk]; rfl
  have e223 : (op == 223) = false := by rw [hk]; rfl
  clear hk
  go_enter Try.func11, Try.ntmps11
  go_wp2_with (first
    | (go_at_call 25; refine (FC.out _).mono ?_; rintro e w1 ⟨rfl, n1, rfl⟩)
    | (go_at_call 26; refine (PC.out _).mono ?_; rintro e w2 ⟨rfl, hw2⟩; subst hw2))
  go_ret
  exact ⟨by first | rfl | (show Ending.returned (.bool (decide (op < 240))) = _; rw [decide_eq_false (by omega)]), _, rfl⟩
set_option maxRecDepth 1000000 in
set_option maxHeartbeats 4000000 in
theorem knows_at79 (op : Int) (w : World) (h : isOp op = true) (hp : privB op = false) (hk : op = 79) : Calls Try.prog 11 #[.int .i64 op] w fun e w' => e = .returned (.bool false) ∧ ∃ n, w' = w.drewN n := by
  have FC := Lib.hid (form_c op)
  have PC := Lib.hid (priv_c op)
  obtain ⟨f, hf⟩ : ∃ f, fmOf op = f := ⟨_, rfl⟩
  rw [hf] at FC
  clear hf
  rw [h] at FC
  rw [hp] at PC
  clear h hp
  have e10 : (op == 10) = false := by rw [hk]; rfl
  have e68 : (op == 68) = false := by rw [hk]; rfl
  have e78 : (op == 78) = false := by rw [hk]; rfl
  have e79 : (op == 79) = true := by rw [hk]; rfl
  have e222 : (op == 222) = false := by rw [hk]; rfl
  have e223 : (op == 223) = false := by rw [hk]; rfl
  clear hk
  go_enter Try.func11, Try.ntmps11
  go_wp2_with (first
    | (go_at_call 25; refine (FC.out _).mono ?_; rintro e w1 ⟨rfl, n1, rfl⟩)
    | (go_at_call 26; refine (PC.out _).mono ?_; rintro e w2 ⟨rfl, hw2⟩; subst hw2))
  go_ret
  exact ⟨by first | rfl | (show Ending.returned (.bool (decide (op < 240))) = _; rw [decide_eq_false (by omega)]), _, rfl⟩
set_option maxRecDepth 1000000 in
set_option maxHeartbeats 4000000 in
theorem knows_at222 (op : Int) (w : World) (h : isOp op = true) (hp : privB op = false) (hk : op = 222) : Calls Try.prog 11 #[.int .i64 op] w fun e w' => e = .returned (.bool false) ∧ ∃ n, w' = w.drewN n := by
  have FC := Lib.hid (form_c op)
  have PC := Lib.hid (priv_c op)
  obtain ⟨f, hf⟩ : ∃ f, fmOf op = f := ⟨_, rfl⟩
  rw [hf] at FC
  clear hf
  rw [h] at FC
  rw [hp] at PC
  clear h hp
  have e10 : (op == 10) = false := by rw [hk]; rfl
  have e68 : (op == 68) = false := by rw [hk]; rfl
  have e78 : (op == 78) = false := by rw [hk]; rfl
  have e79 : (op == 79) = false := by rw [hk]; rfl
  have e222 : (op == 222) = true := by rw [hk]; rfl
  have e223 : (op == 223) = false := by rw [hk]; rfl
  clear hk
  go_enter Try.func11, Try.ntmps11
  go_wp2_with (first
    | (go_at_call 25; refine (FC.out _).mono ?_; rintro e w1 ⟨rfl, n1, rfl⟩)
    | (go_at_call 26; refine (PC.out _).mono ?_; rintro e w2 ⟨rfl, hw2⟩; subst hw2))
  go_ret
  exact ⟨by first | rfl | (show Ending.returned (.bool (decide (op < 240))) = _; rw [decide_eq_false (by omega)]), _, rfl⟩
set_option maxRecDepth 1000000 in
set_option maxHeartbeats 4000000 in
theorem knows_at223 (op : Int) (w : World) (h : isOp op = true) (hp : privB op = false) (hk : op = 223) : Calls Try.prog 11 #[.int .i64 op] w fun e w' => e = .returned (.bool false) ∧ ∃ n, w' = w.drewN n := by
  have FC := Lib.hid (form_c op)
  have PC := Lib.hid (priv_c op)
  obtain ⟨f, hf⟩ : ∃ f, fmOf op = f := ⟨_, rfl⟩
  rw [hf] at FC
  clear hf
  rw [h] at FC
  rw [hp] at PC
  clear h hp
  have e10 : (op == 10) = false := by rw [hk]; rfl
  have e68 : (op == 68) = false := by rw [hk]; rfl
  have e78 : (op == 78) = false := by rw [hk]; rfl
  have e79 : (op == 79) = false := by rw [hk]; rfl
  have e222 : (op == 222) = false := by rw [hk]; rfl
  have e223 : (op == 223) = true := by rw [hk]; rfl
  clear hk
  go_enter Try.func11, Try.ntmps11
  go_wp2_with (first
    | (go_at_call 25; refine (FC.out _).mono ?_; rintro e w1 ⟨rfl, n1, rfl⟩)
    | (go_at_call 26; refine (PC.out _).mono ?_; rintro e w2 ⟨rfl, hw2⟩; subst hw2))
  go_ret
  exact ⟨by first | rfl | (show Ending.returned (.bool (decide (op < 240))) = _; rw [decide_eq_false (by omega)]), _, rfl⟩
theorem knows_c (op : Int) (w : World) : Calls Try.prog 11 #[.int .i64 op] w fun e w' => e = .returned (.bool (kn op)) ∧ ∃ n, w' = w.drewN n := by
  rw [← knB_eq]
  unfold knB
  cases h : isOp op
  · exact knows_no op w h
  cases hp : privB op
  case true => exact knows_priv op w h hp
  by_cases h10 : op = 10
  · rw [show decide (op ∈ [10, 68, 78, 79, 222, 223]) = true from decide_eq_true (by rw [h10]; decide)]
    exact knows_at10 op w h hp h10
  by_cases h68 : op = 68
  · rw [show decide (op ∈ [10, 68, 78, 79, 222, 223]) = true from decide_eq_true (by rw [h68]; decide)]
    exact knows_at68 op w h hp h68
  by_cases h78 : op = 78
  · rw [show decide (op ∈ [10, 68, 78, 79, 222, 223]) = true from decide_eq_true (by rw [h78]; decide)]
    exact knows_at78 op w h hp h78
  by_cases h79 : op = 79
  · rw [show decide (op ∈ [10, 68, 78, 79, 222, 223]) = true from decide_eq_true (by rw [h79]; decide)]
    exact knows_at79 op w h hp h79
  by_cases h222 : op = 222
  · rw [show decide (op ∈ [10, 68, 78, 79, 222, 223]) = true from decide_eq_true (by rw [h222]; decide)]
    exact knows_at222 op w h hp h222
  by_cases h223 : op = 223
  · rw [show decide (op ∈ [10, 68, 78, 79, 222, 223]) = true from decide_eq_true (by rw [h223]; decide)]
    exact knows_at223 op w h hp h223
  rw [show decide (op ∈ [10, 68, 78, 79, 222, 223]) = false from decide_eq_false (by simp only [List.mem_cons, List.not_mem_nil, or_false]; omega)]
  by_cases hl : op < 240
  · rw [decide_eq_true hl]; exact knows_yes op w h hp h10 h68 h78 h79 h222 h223 hl
  · rw [decide_eq_false hl]; exact knows_ge op w h hp h10 h68 h78 h79 h222 h223 hl
end Go.Proofs.Ythjdjbipfdigeaa

namespace Go.Proofs.Ythjdjbipfdigeaa
open Go.RowKit
set_option maxRecDepth 100000
set_option linter.unusedVariables false
set_option linter.unusedSimpArgs false

set_option maxHeartbeats 1000000 in
theorem limits_c (m k : Int) (M W P : Bool) (c i q g a : Int) (w : World) : Calls Try.prog 41 #[.agg #[.int .i64 m, .int .i64 k, .bool M, .bool W, .bool P, .int .i64 c, .int .i64 i, .int .i64 q, .int .i64 g, .int .i64 a]] w fun e w' => e = .returned (.agg #[.int .i64 m, .int .i64 255, .int .i64 k, .int .i64 15, .int .i64 c, .int .i64 65535, .int .i64 i, .int .i64 3, .int .i64 q, .int .i64 3, .int .i64 g, .int .i64 15, .int .i64 a, .int .i64 16777215]) ∧ Below w.heap.size w w' := by
  go_enter Try.func41, Try.ntmps41
  go_wp2
  go_returns
  exact ⟨rfl, ((Below.refl w.heap.size w).alloc (Nat.le_refl _) _).alloc (by simp) _⟩

theorem sz_limit : Try.prog.types[86].size = 2 := by kernel_rfl

set_option maxHeartbeats 2000000 in
theorem valid_c (m k : Int) (M W P : Bool) (c i q g a : Int) (w : World) : Calls Try.prog 29 #[.agg #[.int .i64 m, .int .i64 k, .bool M, .bool W, .bool P, .int .i64 c, .int .i64 i, .int .i64 q, .int .i64 g, .int .i64 a]] w fun e w' => e = .returned (.bool (pok m k c i q g a)) ∧ Below w.heap.size w w' := by
  go_enter Try.func29, Try.ntmps29
  go_wp2_with fail
  refine (limits_c m k M W P c i q g a _).mono ?_
  rintro e w1 ⟨rfl, hb⟩
  have HB := Lib.hid (show Below w.heap.size w w1 from ((Below.refl _ _).alloc (Nat.le_refl _) _).trans (hb.mono (by simp)))
  clear hb
  go_wp2_with fail
  go_loopw [7] (fun x wr => ∃ n : Nat, n ≤ 7 ∧ x = .int .i64 n ∧ Below w.heap.size w wr ∧ (([inr m 255, inr k 15, inr c 65535, inr i 3, inr q 3, inr g 15, inr a 16777215] : List Bool).take n).all id = true) (fun x _ => 7 - (intOf x).toNat)
  case atStart => exact ⟨0, Nat.zero_le _, rfl, HB.out, rfl⟩
  case round =>
    obtain ⟨n, hn, rfl, hbl, hall⟩ := hrel
    have HW := Lib.hid hbl
    have HS := Lib.hid hbl.size
    clear hbl
    match n, hn with
    | 0, _ =>
      have hx : (#[.int .i64 m, .int .i64 255, .int .i64 k, .int .i64 15, .int .i64 c, .int .i64 65535, .int .i64 i, .int .i64 3, .int .i64 q, .int .i64 3, .int .i64 g, .int .i64 15, .int .i64 a, .int .i64 16777215] : Array Value).extract (Int.toNat 0 * Try.prog.types[86].size) (Int.toNat 0 * Try.prog.types[86].size + Try.prog.types[86].size) = #[.int .i64 m, .int .i64 255] := by rw [sz_limit]; rfl
      have hp : True := by first | trivial | simpa using hall
      have HP := Lib.hid hp
      clear hall hp
      cases t : inr m 255
      · have hr := Lib.hid (show pok m k c i q g a = false from by simp [pok, t])
        have u := inr_no t
        clear t
        by_cases u0 : 0 ≤ m
        · have u1 : ¬ m ≤ 255 := by omega
          clear u
          go_wp2_with fail
          rename_i hK
          refine hK _ _ ?_
          rw [hx]
          go_wp2_with fail
          go_ret
          exact ⟨by rw [hr.out]; rfl, HW.out.alloc HS.out _⟩
        · clear u
          go_wp2_with fail
          rename_i hK
          refine hK _ _ ?_
          rw [hx]
          go_wp2_with fail
          go_ret
          exact ⟨by rw [hr.out]; rfl, HW.out.alloc HS.out _⟩
      · have ht := Lib.hid t
        have u0 := (inr_yes t).1
        have u1 := (inr_yes t).2
        clear t
        go_wp2_with fail
        rename_i hK
        refine hK _ _ ?_
        rw [hx]
        go_wp2_with fail
        go_roundw
        case rel => exact ⟨1, by omega, by go_num, HW.out.alloc HS.out _, by have := HP.out; simp [this, ht.out]⟩
        case measure => simp [intOf]
    | 1, _ =>
      have hx : (#[.int .i64 m, .int .i64 255, .int .i64 k, .int .i64 15, .int .i64 c, .int .i64 65535, .int .i64 i, .int .i64 3, .int .i64 q, .int .i64 3, .int .i64 g, .int .i64 15, .int .i64 a, .int .i64 16777215] : Array Value).extract (Int.toNat 1 * Try.prog.types[86].size) (Int.toNat 1 * Try.prog.types[86].size + Try.prog.types[86].size) = #[.int .i64 k, .int .i64 15] := by rw [sz_limit]; rfl
      have hp : inr m 255 = true := by first | trivial | simpa using hall
      have HP := Lib.hid hp
      clear hall hp
      cases t : inr k 15
      · have hr := Lib.hid (show pok m k c i q g a = false from by simp [pok, t])
        have u := inr_no t
        clear t
        by_cases u0 : 0 ≤ k
        · have u1 : ¬ k ≤ 15 := by omega
          clear u
          go_wp2_with fail
          rename_i hK
          refine hK _ _ ?_
          rw [hx]
          go_wp2_with fail
          go_ret
          exact ⟨by rw [hr.out]; rfl, HW.out.alloc HS.out _⟩
        · clear u
          go_wp2_with fail
          rename_i hK
          refine hK _ _ ?_
          rw [hx]
          go_wp2_with fail
          go_ret
          exact ⟨by rw [hr.out]; rfl, HW.out.alloc HS.out _⟩
      · have ht := Lib.hid t
        have u0 := (inr_yes t).1
        have u1 := (inr_yes t).2
        clear t
        go_wp2_with fail
        rename_i hK
        refine hK _ _ ?_
        rw [hx]
        go_wp2_with fail
        go_roundw
        case rel => exact ⟨2, by omega, by go_num, HW.out.alloc HS.out _, by have := HP.out; simp [this, ht.out]⟩
        case measure => simp [intOf]
    | 2, _ =>
      have hx : (#[.int .i64 m, .int .i64 255, .int .i64 k, .int .i64 15, .int .i64 c, .int .i64 65535, .int .i64 i, .int .i64 3, .int .i64 q, .int .i64 3, .int .i64 g, .int .i64 15, .int .i64 a, .int .i64 16777215] : Array Value).extract (Int.toNat 2 * Try.prog.types[86].size) (Int.toNat 2 * Try.prog.types[86].size + Try.prog.types[86].size) = #[.int .i64 c, .int .i64 65535] := by rw [sz_limit]; rfl
      have hp : inr m 255 = true ∧ inr k 15 = true := by first | trivial | simpa using hall
      have HP := Lib.hid hp
      clear hall hp
      cases t : inr c 65535
      · have hr := Lib.hid (show pok m k c i q g a = false from by simp [pok, t])
        have u := inr_no t
        clear t
        by_cases u0 : 0 ≤ c
        · have u1 : ¬ c ≤ 65535 := by omega
          clear u
          go_wp2_with fail
          rename_i hK
          refine hK _ _ ?_
          rw [hx]
          go_wp2_with fail
          go_ret
          exact ⟨by rw [hr.out]; rfl, HW.out.alloc HS.out _⟩
        · clear u
          go_wp2_with fail
          rename_i hK
          refine hK _ _ ?_
          rw [hx]
          go_wp2_with fail
          go_ret
          exact ⟨by rw [hr.out]; rfl, HW.out.alloc HS.out _⟩
      · have ht := Lib.hid t
        have u0 := (inr_yes t).1
        have u1 := (inr_yes t).2
        clear t
        go_wp2_with fail
        rename_i hK
        refine hK _ _ ?_
        rw [hx]
        go_wp2_with fail
        go_roundw
        case rel => exact ⟨3, by omega, by go_num, HW.out.alloc HS.out _, by have := HP.out; simp [this, ht.out]⟩
        case measure => simp [intOf]
    | 3, _ =>
      have hx : (#[.int .i64 m, .int .i64 255, .int .i64 k, .int .i64 15, .int .i64 c, .int .i64 65535, .int .i64 i, .int .i64 3, .int .i64 q, .int .i64 3, .int .i64 g, .int .i64 15, .int .i64 a, .int .i64 16777215] : Array Value).extract (Int.toNat 3 * Try.prog.types[86].size) (Int.toNat 3 * Try.prog.types[86].size + Try.prog.types[86].size) = #[.int .i64 i, .int .i64 3] := by rw [sz_limit]; rfl
      have hp : inr m 255 = true ∧ inr k 15 = true ∧ inr c 65535 = true := by first | trivial | simpa using hall
      have HP := Lib.hid hp
      clear hall hp
      cases t : inr i 3
      · have hr := Lib.hid (show pok m k c i q g a = false from by simp [pok, t])
        have u := inr_no t
        clear t
        by_cases u0 : 0 ≤ i
        · have u1 : ¬ i ≤ 3 := by omega
          clear u
          go_wp2_with fail
          rename_i hK
          refine hK _ _ ?_
          rw [hx]
          go_wp2_with fail
          go_ret
          exact ⟨by rw [hr.out]; rfl, HW.out.alloc HS.out _⟩
        · clear u
          go_wp2_with fail
          rename_i hK
          refine hK _ _ ?_
          rw [hx]
          go_wp2_with fail
          go_ret
          exact ⟨by rw [hr.out]; rfl, HW.out.alloc HS.out _⟩
      · have ht := Lib.hid t
        have u0 := (inr_yes t).1
        have u1 := (inr_yes t).2
        clear t
        go_wp2_with fail
        rename_i hK
        refine hK _ _ ?_
        rw [hx]
        go_wp2_with fail
        go_roundw
        case rel => exact ⟨4, by omega, by go_num, HW.out.alloc HS.out _, by have := HP.out; simp [this, ht.out]⟩
        case measure => simp [intOf]
    | 4, _ =>
      have hx : (#[.int .i64 m, .int .i64 255, .int .i64 k, .int .i64 15, .int .i64 c, .int .i64 65535, .int .i64 i, .int .i64 3, .int .i64 q, .int .i64 3, .int .i64 g, .int .i64 15, .int .i64 a, .int .i64 16777215] : Array Value).extract (Int.toNat 4 * Try.prog.types[86].size) (Int.toNat 4 * Try.prog.types[86].size + Try.prog.types[86].size) = #[.int .i64 q, .int .i64 3] := by rw [sz_limit]; rfl
      have hp : inr m 255 = true ∧ inr k 15 = true ∧ inr c 65535 = true ∧ inr i 3 = true := by first | trivial | simpa using hall
      have HP := Lib.hid hp
      clear hall hp
      cases t : inr q 3
      · have hr := Lib.hid (show pok m k c i q g a = false from by simp [pok, t])
        have u := inr_no t
        clear t
        by_cases u0 : 0 ≤ q
        · have u1 : ¬ q ≤ 3 := by omega
          clear u
          go_wp2_with fail
          rename_i hK
          refine hK _ _ ?_
          rw [hx]
          go_wp2_with fail
          go_ret
          exact ⟨by rw [hr.out]; rfl, HW.out.alloc HS.out _⟩
        · clear u
          go_wp2_with fail
          rename_i hK
          refine hK _ _ ?_
          rw [hx]
          go_wp2_with fail
          go_ret
          exact ⟨by rw [hr.out]; rfl, HW.out.alloc HS.out _⟩
      · have ht := Lib.hid t
        have u0 := (inr_yes t).1
        have u1 := (inr_yes t).2
        clear t
        go_wp2_with fail
        rename_i hK
        refine hK _ _ ?_
        rw [hx]
        go_wp2_with fail
        go_roundw
        case rel => exact ⟨5, by omega, by go_num, HW.out.alloc HS.out _, by have := HP.out; simp [this, ht.out]⟩
        case measure => simp [intOf]
    | 5, _ =>
      have hx : (#[.int .i64 m, .int .i64 255, .int .i64 k, .int .i64 15, .int .i64 c, .int .i64 65535, .int .i64 i, .int .i64 3, .int .i64 q, .int .i64 3, .int .i64 g, .int .i64 15, .int .i64 a, .int .i64 16777215] : Array Value).extract (Int.toNat 5 * Try.prog.types[86].size) (Int.toNat 5 * Try.prog.types[86].size + Try.prog.types[86].size) = #[.int .i64 g, .int .i64 15] := by rw [sz_limit]; rfl
      have hp : inr m 255 = true ∧ inr k 15 = true ∧ inr c 65535 = true ∧ inr i 3 = true ∧ inr q 3 = true := by first | trivial | simpa using hall
      have HP := Lib.hid hp
      clear hall hp
      cases t : inr g 15
      · have hr := Lib.hid (show pok m k c i q g a = false from by simp [pok, t])
        have u := inr_no t
        clear t
        by_cases u0 : 0 ≤ g
        · have u1 : ¬ g ≤ 15 := by omega
          clear u
          go_wp2_with fail
          rename_i hK
          refine hK _ _ ?_
          rw [hx]
          go_wp2_with fail
          go_ret
          exact ⟨by rw [hr.out]; rfl, HW.out.alloc HS.out _⟩
        · clear u
          go_wp2_with fail
          rename_i hK
          refine hK _ _ ?_
          rw [hx]
          go_wp2_with fail
          go_ret
          exact ⟨by rw [hr.out]; rfl, HW.out.alloc HS.out _⟩
      · have ht := Lib.hid t
        have u0 := (inr_yes t).1
        have u1 := (inr_yes t).2
        clear t
        go_wp2_with fail
        rename_i hK
        refine hK _ _ ?_
        rw [hx]
        go_wp2_with fail
        go_roundw
        case rel => exact ⟨6, by omega, by go_num, HW.out.alloc HS.out _, by have := HP.out; simp [this, ht.out]⟩
        case measure => simp [intOf]
    | 6, _ =>
      have hx : (#[.int .i64 m, .int .i64 255, .int .i64 k, .int .i64 15, .int .i64 c, .int .i64 65535, .int .i64 i, .int .i64 3, .int .i64 q, .int .i64 3, .int .i64 g, .int .i64 15, .int .i64 a, .int .i64 16777215] : Array Value).extract (Int.toNat 6 * Try.prog.types[86].size) (Int.toNat 6 * Try.prog.types[86].size + Try.prog.types[86].size) = #[.int .i64 a, .int .i64 16777215] := by rw [sz_limit]; rfl
      have hp : inr m 255 = true ∧ inr k 15 = true ∧ inr c 65535 = true ∧ inr i 3 = true ∧ inr q 3 = true ∧ inr g 15 = true := by first | trivial | simpa using hall
      have HP := Lib.hid hp
      clear hall hp
      cases t : inr a 16777215
      · have hr := Lib.hid (show pok m k c i q g a = false from by simp [pok, t])
        have u := inr_no t
        clear t
        by_cases u0 : 0 ≤ a
        · have u1 : ¬ a ≤ 16777215 := by omega
          clear u
          go_wp2_with fail
          rename_i hK
          refine hK _ _ ?_
          rw [hx]
          go_wp2_with fail
          go_ret
          exact ⟨by rw [hr.out]; rfl, HW.out.alloc HS.out _⟩
        · clear u
          go_wp2_with fail
          rename_i hK
          refine hK _ _ ?_
          rw [hx]
          go_wp2_with fail
          go_ret
          exact ⟨by rw [hr.out]; rfl, HW.out.alloc HS.out _⟩
      · have ht := Lib.hid t
        have u0 := (inr_yes t).1
        have u1 := (inr_yes t).2
        clear t
        go_wp2_with fail
        rename_i hK
        refine hK _ _ ?_
        rw [hx]
        go_wp2_with fail
        go_roundw
        case rel => exact ⟨7, by omega, by go_num, HW.out.alloc HS.out _, by have := HP.out; simp [this, ht.out]⟩
        case measure => simp [intOf]
    | 7, _ =>
      have hr := Lib.hid (show pok m k c i q g a = true from by simpa [pok] using hall)
      clear hall
      go_wp2_with fail
      go_ret
      exact ⟨by rw [hr.out]; rfl, HW.out⟩

end Go.Proofs.Ythjdjbipfdigeaa

namespace Go.Proofs.Ythjdjbipfdigeaa
open Go.RowKit
set_option maxRecDepth 100000
set_option linter.unusedVariables false
set_option linter.unusedSimpArgs false
/-- a block of cells -/
def Bk (W : World) (g : Nat) (T : TypeId) (cs : List Value) : Prop := W.heap[g]? = some (.cells cs.toArray T (0, 0))
section
variable {W W' : World} {g : Nat} {T : TypeId} {cs : List Value}
theorem Bk.cell (h : Bk W g T cs) {c : Nat} {v : Value} (hc : cs[c]? = some v) : W.cell? ⟨g, c, none⟩ = some v := by rw [cell_blk h c]; simpa using hc
theorem Bk.free (h : Bk W g T cs) (c : Nat) : W.frozen? ⟨g, c, none⟩ = false := by unfold Bk at h; simp [World.frozen?, h]
theorem Bk.lt (h : Bk W g T cs) : g < W.heap.size := (Array.getElem?_eq_some_iff.1 h).1
theorem Bk.kept (h : Bk W g T cs) (hk : W'.heap[g]? = W.heap[g]?) : Bk W' g T cs := hk.trans h
theorem Bk.keep (h : Bk W g T cs) (hb : Below W.heap.size W W') : Bk W' g T cs := h.kept (hb.block _ h.lt)
theorem Bk.ch {L : List Nat} (h : Bk W g T cs) (hb : Ch W W' L) (hg : g ∉ L) : Bk W' g T cs := h.kept (hb.block _ h.lt hg)
theorem Bk.alloc (h : Bk W g T cs) (o : Obj) : Bk (W.alloc o) g T cs := h.kept (Below.heap_alloc W o _ h.lt)
theorem Bk.new (W : World) (cs : List Value) (T : TypeId) : Bk (W.alloc (.cells cs.toArray T)) W.heap.size T cs := heap_alloc_new W _
theorem Bk.drewN (h : Bk W g T cs) (n : Nat) : Bk (W.drewN n) g T cs := h
theorem Bk.set_ (h : Bk W g T cs) (c : Nat) (v : Value) : Bk (W.setCell ⟨g, c, none⟩ v) g T (cs.set c v) := by
  unfold Bk at h ⊢
  rw [setCell_eq_setRow W g c _ _ (0, 0) _ h, setRow_heap W g _ _ _ _ h, List.setIfInBounds_toArray]
theorem Bk.other (h : Bk W g T cs) {p : Addr} (v : Value) (hp : p.block ≠ g) : Bk (W.setCell p v) g T cs := h.kept (Below.heap_setCell W p v g (Ne.symm hp))
theorem list_n {α : Type} : ∀ (n : Nat) (l : List α), l.length = n + 1 → ∃ a t, l = a :: t ∧ t.length = n
  | n, a :: t, h => ⟨a, t, rfl, by simpa using h⟩
theorem Bk.sets16 (h : Bk W g T cs) (hl : cs.length = 16) (v0 v1 v2 v3 v4 v5 v6 v7 v8 v9 v10 v11 v12 v13 v14 v15 : Value) : Bk ((((((((((((((((W.setCell ⟨g, 0, none⟩ v0).setCell ⟨g, 1, none⟩ v1).setCell ⟨g, 2, none⟩ v2).setCell ⟨g, 3, none⟩ v3).setCell ⟨g, 4, none⟩ v4).setCell ⟨g, 5, none⟩ v5).setCell ⟨g, 6, none⟩ v6).setCell ⟨g, 7, none⟩ v7).setCell ⟨g, 8, none⟩ v8).setCell ⟨g, 9, none⟩ v9).setCell ⟨g, 10, none⟩ v10).setCell ⟨g, 11, none⟩ v11).setCell ⟨g, 12, none⟩ v12).setCell ⟨g, 13, none⟩ v13).setCell ⟨g, 14, none⟩ v14).setCell ⟨g, 15, none⟩ v15) g T [v0, v1, v2, v3, v4, v5, v6, v7, v8, v9, v10, v11, v12, v13, v14, v15] := by
  obtain ⟨x0, l0, rfl, hl0⟩ := list_n _ cs hl
  obtain ⟨x1, l1, rfl, hl1⟩ := list_n _ l0 hl0
  obtain ⟨x2, l2, rfl, hl2⟩ := list_n _ l1 hl1
  obtain ⟨x3, l3, rfl, hl3⟩ := list_n _ l2 hl2
  obtain ⟨x4, l4, rfl, hl4⟩ := list_n _ l3 hl3
  obtain ⟨x5, l5, rfl, hl5⟩ := list_n _ l4 hl4
  obtain ⟨x6, l6, rfl, hl6⟩ := list_n _ l5 hl5
  obtain ⟨x7, l7, rfl, hl7⟩ := list_n _ l6 hl6
  obtain ⟨x8, l8, rfl, hl8⟩ := list_n _ l7 hl7
  obtain ⟨x9, l9, rfl, hl9⟩ := list_n _ l8 hl8
  obtain ⟨x10, l10, rfl, hl10⟩ := list_n _ l9 hl9
  obtain ⟨x11, l11, rfl, hl11⟩ := list_n _ l10 hl10
  obtain ⟨x12, l12, rfl, hl12⟩ := list_n _ l11 hl11
  obtain ⟨x13, l13, rfl, hl13⟩ := list_n _ l12 hl12
  obtain ⟨x14, l14, rfl, hl14⟩ := list_n _ l13 hl13
  obtain ⟨x15, l15, rfl, hl15⟩ := list_n _ l14 hl14
  obtain rfl := List.eq_nil_of_length_eq_zero hl15
  exact ((((((((((((((((h.set_ 0 v0).set_ 1 v1).set_ 2 v2).set_ 3 v3).set_ 4 v4).set_ 5 v5).set_ 6 v6).set_ 7 v7).set_ 8 v8).set_ 9 v9).set_ 10 v10).set_ 11 v11).set_ 12 v12).set_ 13 v13).set_ 14 v14).set_ 15 v15)
theorem Bk.oth16 (h : Bk W g T cs) {k : Nat} (hk : k ≠ g) (v0 v1 v2 v3 v4 v5 v6 v7 v8 v9 v10 v11 v12 v13 v14 v15 : Value) : Bk ((((((((((((((((W.setCell ⟨k, 0, none⟩ v0).setCell ⟨k, 1, none⟩ v1).setCell ⟨k, 2, none⟩ v2).setCell ⟨k, 3, none⟩ v3).setCell ⟨k, 4, none⟩ v4).setCell ⟨k, 5, none⟩ v5).setCell ⟨k, 6, none⟩ v6).setCell ⟨k, 7, none⟩ v7).setCell ⟨k, 8, none⟩ v8).setCell ⟨k, 9, none⟩ v9).setCell ⟨k, 10, none⟩ v10).setCell ⟨k, 11, none⟩ v11).setCell ⟨k, 12, none⟩ v12).setCell ⟨k, 13, none⟩ v13).setCell ⟨k, 14, none⟩ v14).setCell ⟨k, 15, none⟩ v15) g T cs := (Bk.other (p := ⟨k, 15, none⟩) (Bk.other (p := ⟨k, 14, none⟩) (Bk.other (p := ⟨k, 13, none⟩) (Bk.other (p := ⟨k, 12, none⟩) (Bk.other (p := ⟨k, 11, none⟩) (Bk.other (p := ⟨k, 10, none⟩) (Bk.other (p := ⟨k, 9, none⟩) (Bk.other (p := ⟨k, 8, none⟩) (Bk.other (p := ⟨k, 7, none⟩) (Bk.other (p := ⟨k, 6, none⟩) (Bk.other (p := ⟨k, 5, none⟩) (Bk.other (p := ⟨k, 4, none⟩) (Bk.other (p := ⟨k, 3, none⟩) (Bk.other (p := ⟨k, 2, none⟩) (Bk.other (p := ⟨k, 1, none⟩) (Bk.other (p := ⟨k, 0, none⟩) h v0 hk) v1 hk) v2 hk) v3 hk) v4 hk) v5 hk) v6 hk) v7 hk) v8 hk) v9 hk) v10 hk) v11 hk) v12 hk) v13 hk) v14 hk) v15 hk)
theorem ch_s16 {w : World} {L : List Nat} {k : Nat} (h : Ch w W L) (hk : w.heap.size ≤ k) (v0 v1 v2 v3 v4 v5 v6 v7 v8 v9 v10 v11 v12 v13 v14 v15 : Value) : Ch w ((((((((((((((((W.setCell ⟨k, 0, none⟩ v0).setCell ⟨k, 1, none⟩ v1).setCell ⟨k, 2, none⟩ v2).setCell ⟨k, 3, none⟩ v3).setCell ⟨k, 4, none⟩ v4).setCell ⟨k, 5, none⟩ v5).setCell ⟨k, 6, none⟩ v6).setCell ⟨k, 7, none⟩ v7).setCell ⟨k, 8, none⟩ v8).setCell ⟨k, 9, none⟩ v9).setCell ⟨k, 10, none⟩ v10).setCell ⟨k, 11, none⟩ v11).setCell ⟨k, 12, none⟩ v12).setCell ⟨k, 13, none⟩ v13).setCell ⟨k, 14, none⟩ v14).setCell ⟨k, 15, none⟩ v15) L := (Ch.setNew (p := ⟨k, 15, none⟩) (Ch.setNew (p := ⟨k, 14, none⟩) (Ch.setNew (p := ⟨k, 13, none⟩) (Ch.setNew (p := ⟨k, 12, none⟩) (Ch.setNew (p := ⟨k, 11, none⟩) (Ch.setNew (p := ⟨k, 10, none⟩) (Ch.setNew (p := ⟨k, 9, none⟩) (Ch.setNew (p := ⟨k, 8, none⟩) (Ch.setNew (p := ⟨k, 7, none⟩) (Ch.setNew (p := ⟨k, 6, none⟩) (Ch.setNew (p := ⟨k, 5, none⟩) (Ch.setNew (p := ⟨k, 4, none⟩) (Ch.setNew (p := ⟨k, 3, none⟩) (Ch.setNew (p := ⟨k, 2, none⟩) (Ch.setNew (p := ⟨k, 1, none⟩) (Ch.setNew (p := ⟨k, 0, none⟩) h hk v0) hk v1) hk v2) hk v3) hk v4) hk v5) hk v6) hk v7) hk v8) hk v9) hk v10) hk v11) hk v12) hk v13) hk v14) hk v15)
theorem Bk.sets10 (h : Bk W g T cs) (hl : cs.length = 10) (v0 v1 v2 v3 v4 v5 v6 v7 v8 v9 : Value) : Bk ((((((((((W.setCell ⟨g, 0, none⟩ v0).setCell ⟨g, 1, none⟩ v1).setCell ⟨g, 2, none⟩ v2).setCell ⟨g, 3, none⟩ v3).setCell ⟨g, 4, none⟩ v4).setCell ⟨g, 5, none⟩ v5).setCell ⟨g, 6, none⟩ v6).setCell ⟨g, 7, none⟩ v7).setCell ⟨g, 8, none⟩ v8).setCell ⟨g, 9, none⟩ v9) g T [v0, v1, v2, v3, v4, v5, v6, v7, v8, v9] := by
  obtain ⟨x0, l0, rfl, hl0⟩ := list_n _ cs hl
  obtain ⟨x1, l1, rfl, hl1⟩ := list_n _ l0 hl0
  obtain ⟨x2, l2, rfl, hl2⟩ := list_n _ l1 hl1
  obtain ⟨x3, l3, rfl, hl3⟩ := list_n _ l2 hl2
  obtain ⟨x4, l4, rfl, hl4⟩ := list_n _ l3 hl3
  obtain ⟨x5, l5, rfl, hl5⟩ := list_n _ l4 hl4
  obtain ⟨x6, l6, rfl, hl6⟩ := list_n _ l5 hl5
  obtain ⟨x7, l7, rfl, hl7⟩ := list_n _ l6 hl6
  obtain ⟨x8, l8, rfl, hl8⟩ := list_n _ l7 hl7
  obtain ⟨x9, l9, rfl, hl9⟩ := list_n _ l8 hl8
  obtain rfl := List.eq_nil_of_length_eq_zero hl9
  exact ((((((((((h.set_ 0 v0).set_ 1 v1).set_ 2 v2).set_ 3 v3).set_ 4 v4).set_ 5 v5).set_ 6 v6).set_ 7 v7).set_ 8 v8).set_ 9 v9)
theorem Bk.oth10 (h : Bk W g T cs) {k : Nat} (hk : k ≠ g) (v0 v1 v2 v3 v4 v5 v6 v7 v8 v9 : Value) : Bk ((((((((((W.setCell ⟨k, 0, none⟩ v0).setCell ⟨k, 1, none⟩ v1).setCell ⟨k, 2, none⟩ v2).setCell ⟨k, 3, none⟩ v3).setCell ⟨k, 4, none⟩ v4).setCell ⟨k, 5, none⟩ v5).setCell ⟨k, 6, none⟩ v6).setCell ⟨k, 7, none⟩ v7).setCell ⟨k, 8, none⟩ v8).setCell ⟨k, 9, none⟩ v9) g T cs := (Bk.other (p := ⟨k, 9, none⟩) (Bk.other (p := ⟨k, 8, none⟩) (Bk.other (p := ⟨k, 7, none⟩) (Bk.other (p := ⟨k, 6, none⟩) (Bk.other (p := ⟨k, 5, none⟩) (Bk.other (p := ⟨k, 4, none⟩) (Bk.other (p := ⟨k, 3, none⟩) (Bk.other (p := ⟨k, 2, none⟩) (Bk.other (p := ⟨k, 1, none⟩) (Bk.other (p := ⟨k, 0, none⟩) h v0 hk) v1 hk) v2 hk) v3 hk) v4 hk) v5 hk) v6 hk) v7 hk) v8 hk) v9 hk)
theorem ch_s10 {w : World} {L : List Nat} {k : Nat} (h : Ch w W L) (hk : w.heap.size ≤ k) (v0 v1 v2 v3 v4 v5 v6 v7 v8 v9 : Value) : Ch w ((((((((((W.setCell ⟨k, 0, none⟩ v0).setCell ⟨k, 1, none⟩ v1).setCell ⟨k, 2, none⟩ v2).setCell ⟨k, 3, none⟩ v3).setCell ⟨k, 4, none⟩ v4).setCell ⟨k, 5, none⟩ v5).setCell ⟨k, 6, none⟩ v6).setCell ⟨k, 7, none⟩ v7).setCell ⟨k, 8, none⟩ v8).setCell ⟨k, 9, none⟩ v9) L := (Ch.setNew (p := ⟨k, 9, none⟩) (Ch.setNew (p := ⟨k, 8, none⟩) (Ch.setNew (p := ⟨k, 7, none⟩) (Ch.setNew (p := ⟨k, 6, none⟩) (Ch.setNew (p := ⟨k, 5, none⟩) (Ch.setNew (p := ⟨k, 4, none⟩) (Ch.setNew (p := ⟨k, 3, none⟩) (Ch.setNew (p := ⟨k, 2, none⟩) (Ch.setNew (p := ⟨k, 1, none⟩) (Ch.setNew (p := ⟨k, 0, none⟩) h hk v0) hk v1) hk v2) hk v3) hk v4) hk v5) hk v6) hk v7) hk v8) hk v9)
end
/-- Exec's own blocks: the instruction, registers and status word as given, and the results' cells -/
structure XF (w W : World) (L : List Nat) (is rs : List Int) (ps nr np : List Value) (en : Value) : Prop where
  b0 : Bk W w.heap.size 25 (is.map (Value.int .i64))
  b1 : Bk W (w.heap.size + 1) 28 (rs.map (Value.int .u32))
  b2 : Bk W (w.heap.size + 1 + 1) 30 ps
  b3 : Bk W (w.heap.size + 1 + 1 + 1) 28 nr
  b4 : Bk W (w.heap.size + 1 + 1 + 1 + 1) 30 np
  b5 : Bk W (w.heap.size + 1 + 1 + 1 + 1 + 1) 3 [en]
  be : Ch w W L
theorem XF.start (w : World) (L : List Nat) (is rs : List Int) (ps nr np : List Value) (en : Value) : XF w ((((((w.alloc (.cells (is.map (Value.int .i64)).toArray 25)).alloc (.cells (rs.map (Value.int .u32)).toArray 28)).alloc (.cells ps.toArray 30)).alloc (.cells nr.toArray 28)).alloc (.cells np.toArray 30)).alloc (.cells [en].toArray 3)) L is rs ps nr np en := by
  refine ⟨?_, ?_, ?_, ?_, ?_, ?_, ?_⟩
  · exact (((((Bk.new w _ _).alloc _).alloc _).alloc _).alloc _).alloc _
  · have := Bk.new (w.alloc (.cells (is.map (Value.int .i64)).toArray 25)) (rs.map (Value.int .u32)) 28
    rw [World.size_alloc] at this
    exact (((this.alloc _).alloc _).alloc _).alloc _
  · have := Bk.new ((w.alloc (.cells (is.map (Value.int .i64)).toArray 25)).alloc (.cells (rs.map (Value.int .u32)).toArray 28)) ps 30
    rw [World.size_alloc, World.size_alloc] at this
    exact ((this.alloc _).alloc _).alloc _
  · have := Bk.new (((w.alloc (.cells (is.map (Value.int .i64)).toArray 25)).alloc (.cells (rs.map (Value.int .u32)).toArray 28)).alloc (.cells ps.toArray 30)) nr 28
    rw [World.size_alloc, World.size_alloc, World.size_alloc] at this
    exact (this.alloc _).alloc _
  · have := Bk.new ((((w.alloc (.cells (is.map (Value.int .i64)).toArray 25)).alloc (.cells (rs.map (Value.int .u32)).toArray 28)).alloc (.cells ps.toArray 30)).alloc (.cells nr.toArray 28)) np 30
    rw [World.size_alloc, World.size_alloc, World.size_alloc, World.size_alloc] at this
    exact this.alloc _
  · have := Bk.new (((((w.alloc (.cells (is.map (Value.int .i64)).toArray 25)).alloc (.cells (rs.map (Value.int .u32)).toArray 28)).alloc (.cells ps.toArray 30)).alloc (.cells nr.toArray 28)).alloc (.cells np.toArray 30)) [en] 3
    rw [World.size_alloc, World.size_alloc, World.size_alloc, World.size_alloc, World.size_alloc] at this
    exact this
  · exact ((((((Ch.refl w L).alloc _).alloc _).alloc _).alloc _).alloc _).alloc _
section
variable {w W W' : World} {L : List Nat} {is rs : List Int} {ps nr np : List Value} {en : Value}
theorem XF.keep (h : XF w W L is rs ps nr np en) (hb : Below W.heap.size W W') : XF w W' L is rs ps nr np en := ⟨h.b0.keep hb, h.b1.keep hb, h.b2.keep hb, h.b3.keep hb, h.b4.keep hb, h.b5.keep hb, h.be.trans (Ch.of_below hb L)⟩
theorem XF.drewN (h : XF w W L is rs ps nr np en) (n : Nat) : XF w (W.drewN n) L is rs ps nr np en := ⟨h.b0, h.b1, h.b2, h.b3, h.b4, h.b5, h.be.drewN n⟩
theorem XF.ch {g : Nat} (h : XF w W [] is rs ps nr np en) (hc : Ch W W' (g :: L)) (hL : ∀ k, k ∈ L → k < w.heap.size) (hg : w.heap.size + 6 ≤ g) : XF w W' L is rs ps nr np en := by
  have hn : ∀ k, w.heap.size ≤ k → k < w.heap.size + 6 → k ∉ g :: L := fun k h1 h2 hk => by
    rcases List.mem_cons.mp hk with hk | hk
    · omega
    · have := hL k hk; omega
  exact ⟨h.b0.ch hc (hn _ (by omega) (by omega)), h.b1.ch hc (hn _ (by omega) (by omega)), h.b2.ch hc (hn _ (by omega) (by omega)), h.b3.ch hc (hn _ (by omega) (by omega)), h.b4.ch hc (hn _ (by omega) (by omega)), h.b5.ch hc (hn _ (by omega) (by omega)), ⟨hc.os.trans h.be.os, hc.tape.trans h.be.tape, hc.output.trans h.be.output, Nat.le_trans h.be.size hc.size, fun k hk hkL => (hc.block k (Nat.lt_of_lt_of_le hk h.be.size) (fun hm => by rcases List.mem_cons.mp hm with hm | hm; (· omega); (· exact hkL hm))).trans (h.be.block k hk (by simp))⟩⟩
theorem XF.give (h : XF w W L is rs ps nr np en) (hr : nr.length = 16) (hp : np.length = 10) (e0 e1 e2 e3 e4 e5 e6 e7 e8 e9 e10 e11 e12 e13 e14 e15 q0 q1 q2 q3 q4 q5 q6 q7 q8 q9 e : Value) : XF w ((((((((((((((((((((((((((((W.setCell ⟨w.heap.size + 1 + 1 + 1, 0, none⟩ e0).setCell ⟨w.heap.size + 1 + 1 + 1, 1, none⟩ e1).setCell ⟨w.heap.size + 1 + 1 + 1, 2, none⟩ e2).setCell ⟨w.heap.size + 1 + 1 + 1, 3, none⟩ e3).setCell ⟨w.heap.size + 1 + 1 + 1, 4, none⟩ e4).setCell ⟨w.heap.size + 1 + 1 + 1, 5, none⟩ e5).setCell ⟨w.heap.size + 1 + 1 + 1, 6, none⟩ e6).setCell ⟨w.heap.size + 1 + 1 + 1, 7, none⟩ e7).setCell ⟨w.heap.size + 1 + 1 + 1, 8, none⟩ e8).setCell ⟨w.heap.size + 1 + 1 + 1, 9, none⟩ e9).setCell ⟨w.heap.size + 1 + 1 + 1, 10, none⟩ e10).setCell ⟨w.heap.size + 1 + 1 + 1, 11, none⟩ e11).setCell ⟨w.heap.size + 1 + 1 + 1, 12, none⟩ e12).setCell ⟨w.heap.size + 1 + 1 + 1, 13, none⟩ e13).setCell ⟨w.heap.size + 1 + 1 + 1, 14, none⟩ e14).setCell ⟨w.heap.size + 1 + 1 + 1, 15, none⟩ e15).setCell ⟨w.heap.size + 1 + 1 + 1 + 1, 0, none⟩ q0).setCell ⟨w.heap.size + 1 + 1 + 1 + 1, 1, none⟩ q1).setCell ⟨w.heap.size + 1 + 1 + 1 + 1, 2, none⟩ q2).setCell ⟨w.heap.size + 1 + 1 + 1 + 1, 3, none⟩ q3).setCell ⟨w.heap.size + 1 + 1 + 1 + 1, 4, none⟩ q4).setCell ⟨w.heap.size + 1 + 1 + 1 + 1, 5, none⟩ q5).setCell ⟨w.heap.size + 1 + 1 + 1 + 1, 6, none⟩ q6).setCell ⟨w.heap.size + 1 + 1 + 1 + 1, 7, none⟩ q7).setCell ⟨w.heap.size + 1 + 1 + 1 + 1, 8, none⟩ q8).setCell ⟨w.heap.size + 1 + 1 + 1 + 1, 9, none⟩ q9).setCell ⟨w.heap.size + 1 + 1 + 1 + 1 + 1, 0, none⟩ e)) L is rs ps [e0, e1, e2, e3, e4, e5, e6, e7, e8, e9, e10, e11, e12, e13, e14, e15] [q0, q1, q2, q3, q4, q5, q6, q7, q8, q9] e := by
  refine ⟨?_, ?_, ?_, ?_, ?_, ?_, ?_⟩
  · exact Bk.other (p := ⟨_, 0, none⟩) (Bk.oth10 (Bk.oth16 h.b0 (by omega) e0 e1 e2 e3 e4 e5 e6 e7 e8 e9 e10 e11 e12 e13 e14 e15) (by omega) q0 q1 q2 q3 q4 q5 q6 q7 q8 q9) e (by first | (simp; done) | (simp; omega))
  · exact Bk.other (p := ⟨_, 0, none⟩) (Bk.oth10 (Bk.oth16 h.b1 (by omega) e0 e1 e2 e3 e4 e5 e6 e7 e8 e9 e10 e11 e12 e13 e14 e15) (by omega) q0 q1 q2 q3 q4 q5 q6 q7 q8 q9) e (by first | (simp; done) | (simp; omega))
  · exact Bk.other (p := ⟨_, 0, none⟩) (Bk.oth10 (Bk.oth16 h.b2 (by omega) e0 e1 e2 e3 e4 e5 e6 e7 e8 e9 e10 e11 e12 e13 e14 e15) (by omega) q0 q1 q2 q3 q4 q5 q6 q7 q8 q9) e (by first | (simp; done) | (simp; omega))
  · exact Bk.other (p := ⟨_, 0, none⟩) (Bk.oth10 (Bk.sets16 h.b3 hr e0 e1 e2 e3 e4 e5 e6 e7 e8 e9 e10 e11 e12 e13 e14 e15) (by omega) q0 q1 q2 q3 q4 q5 q6 q7 q8 q9) e (by first | (simp; done) | (simp; omega))
  · exact Bk.other (p := ⟨_, 0, none⟩) (Bk.sets10 (Bk.oth16 h.b4 (by omega) e0 e1 e2 e3 e4 e5 e6 e7 e8 e9 e10 e11 e12 e13 e14 e15) hp q0 q1 q2 q3 q4 q5 q6 q7 q8 q9) e (by first | (simp; done) | (simp; omega))
  · exact Bk.set_ (Bk.oth10 (Bk.oth16 h.b5 (by omega) e0 e1 e2 e3 e4 e5 e6 e7 e8 e9 e10 e11 e12 e13 e14 e15) (by omega) q0 q1 q2 q3 q4 q5 q6 q7 q8 q9) 0 e
  · exact (ch_s10 (ch_s16 h.be (by omega) e0 e1 e2 e3 e4 e5 e6 e7 e8 e9 e10 e11 e12 e13 e14 e15) (by omega) q0 q1 q2 q3 q4 q5 q6 q7 q8 q9).setNew (p := ⟨_, 0, none⟩) (by first | (simp; done) | (simp; omega)) e
end
theorem below_s16 {w W0 W : World} {k : Nat} (h : Below w.heap.size W0 W) (hk : w.heap.size ≤ k) (v0 v1 v2 v3 v4 v5 v6 v7 v8 v9 v10 v11 v12 v13 v14 v15 : Value) : Below w.heap.size W0 ((((((((((((((((W.setCell ⟨k, 0, none⟩ v0).setCell ⟨k, 1, none⟩ v1).setCell ⟨k, 2, none⟩ v2).setCell ⟨k, 3, none⟩ v3).setCell ⟨k, 4, none⟩ v4).setCell ⟨k, 5, none⟩ v5).setCell ⟨k, 6, none⟩ v6).setCell ⟨k, 7, none⟩ v7).setCell ⟨k, 8, none⟩ v8).setCell ⟨k, 9, none⟩ v9).setCell ⟨k, 10, none⟩ v10).setCell ⟨k, 11, none⟩ v11).setCell ⟨k, 12, none⟩ v12).setCell ⟨k, 13, none⟩ v13).setCell ⟨k, 14, none⟩ v14).setCell ⟨k, 15, none⟩ v15) := (Below.setCell (p := ⟨k, 15, none⟩) (Below.setCell (p := ⟨k, 14, none⟩) (Below.setCell (p := ⟨k, 13, none⟩) (Below.setCell (p := ⟨k, 12, none⟩) (Below.setCell (p := ⟨k, 11, none⟩) (Below.setCell (p := ⟨k, 10, none⟩) (Below.setCell (p := ⟨k, 9, none⟩) (Below.setCell (p := ⟨k, 8, none⟩) (Below.setCell (p := ⟨k, 7, none⟩) (Below.setCell (p := ⟨k, 6, none⟩) (Below.setCell (p := ⟨k, 5, none⟩) (Below.setCell (p := ⟨k, 4, none⟩) (Below.setCell (p := ⟨k, 3, none⟩) (Below.setCell (p := ⟨k, 2, none⟩) (Below.setCell (p := ⟨k, 1, none⟩) (Below.setCell (p := ⟨k, 0, none⟩) h hk v0) hk v1) hk v2) hk v3) hk v4) hk v5) hk v6) hk v7) hk v8) hk v9) hk v10) hk v11) hk v12) hk v13) hk v14) hk v15)
theorem below_s10 {w W0 W : World} {k : Nat} (h : Below w.heap.size W0 W) (hk : w.heap.size ≤ k) (v0 v1 v2 v3 v4 v5 v6 v7 v8 v9 : Value) : Below w.heap.size W0 ((((((((((W.setCell ⟨k, 0, none⟩ v0).setCell ⟨k, 1, none⟩ v1).setCell ⟨k, 2, none⟩ v2).setCell ⟨k, 3, none⟩ v3).setCell ⟨k, 4, none⟩ v4).setCell ⟨k, 5, none⟩ v5).setCell ⟨k, 6, none⟩ v6).setCell ⟨k, 7, none⟩ v7).setCell ⟨k, 8, none⟩ v8).setCell ⟨k, 9, none⟩ v9) := (Below.setCell (p := ⟨k, 9, none⟩) (Below.setCell (p := ⟨k, 8, none⟩) (Below.setCell (p := ⟨k, 7, none⟩) (Below.setCell (p := ⟨k, 6, none⟩) (Below.setCell (p := ⟨k, 5, none⟩) (Below.setCell (p := ⟨k, 4, none⟩) (Below.setCell (p := ⟨k, 3, none⟩) (Below.setCell (p := ⟨k, 2, none⟩) (Below.setCell (p := ⟨k, 1, none⟩) (Below.setCell (p := ⟨k, 0, none⟩) h hk v0) hk v1) hk v2) hk v3) hk v4) hk v5) hk v6) hk v7) hk v8) hk v9)
theorem res_cells3 {P : Program} {fn : Func} {p q r : Tmp} {tp tq tr : TypeId} (h : fn.results = #[.cell p tp, .cell q tq, .cell r tr]) (tmps : Array Value) (w : World) (g g' g'' : Nat) (cs cs' : List Value) (v : Value) {T T' T'' : TypeId} {d d' : TypeDesc}
    (hp : tmps.getD p undef = .pointer (some ⟨g, 0, none⟩)) (hq : tmps.getD q undef = .pointer (some ⟨g', 0, none⟩)) (hr : tmps.getD r undef = .pointer (some ⟨g'', 0, none⟩)) (hg : Bk w g T cs) (hg' : Bk w g' T' cs') (hg'' : Bk w g'' T'' [v])
    (hu : P.underlying tp = some d) (hd : (match d with | .struct _ | .array _ _ => true | _ => false) = true) (hi : (P.info? tp).map (·.size) = some cs.length)
    (hu' : P.underlying tq = some d') (hd' : (match d' with | .struct _ | .array _ _ => true | _ => false) = true) (hi' : (P.info? tq).map (·.size) = some cs'.length)
    (hv : (loadVar tr ⟨g'', 0, none⟩).run P w = .ok v w) :
    (results fn tmps).run P w = .ok (.tuple #[.agg cs.toArray, .agg cs'.toArray, v]) w := by
  have hp' : tmps[p]?.getD undef = .pointer (some ⟨g, 0, none⟩) := by simpa using hp
  have hq' : tmps[q]?.getD undef = .pointer (some ⟨g', 0, none⟩) := by simpa using hq
  have hr' : tmps[r]?.getD undef = .pointer (some ⟨g'', 0, none⟩) := by simpa using hr
  simp [results, h, hp', hq', hr', asAddr, run_loadVar_row w g T tp cs.toArray (0, 0) d hg hu hd (by simpa using hi), run_loadVar_row w g' T' tq cs'.toArray (0, 0) d' hg' hu' hd' (by simpa using hi'), hv]
end Go.Proofs.Ythjdjbipfdigeaa

namespace Go.Proofs.Ythjdjbipfdigeaa
open Go.RowKit
set_option maxRecDepth 100000
set_option linter.unusedVariables false
set_option linter.unusedSimpArgs false
theorem St.chd {T : TypeId} {w w' : World} {F : Foot} {bs ks : List Int} {L : List Nat} (h : St T w F bs ks) (hc : Ch w w' L) (h1 : F.g ∉ L) (h2 : F.gb ∉ L) (h3 : F.gk ∉ L) : St T w' F bs ks := h.keep (hc.kept h.ltg h1) (hc.kept h.ltb h2) (hc.kept h.ltk h3)
theorem share2 {T P : World → Nat → Nat → Prop} {G : Prop} (tree : (∀ A p q, P A p q → T A p q) → G) (tail : ∀ A p q, P A p q → T A p q) : G := tree tail
theorem ch_n16 (W : World) (g : Nat) (v0 v1 v2 v3 v4 v5 v6 v7 v8 v9 v10 v11 v12 v13 v14 v15 : Value) : Ch W ((((((((((((((((W.setCell ⟨g, 0, none⟩ v0).setCell ⟨g, 1, none⟩ v1).setCell ⟨g, 2, none⟩ v2).setCell ⟨g, 3, none⟩ v3).setCell ⟨g, 4, none⟩ v4).setCell ⟨g, 5, none⟩ v5).setCell ⟨g, 6, none⟩ v6).setCell ⟨g, 7, none⟩ v7).setCell ⟨g, 8, none⟩ v8).setCell ⟨g, 9, none⟩ v9).setCell ⟨g, 10, none⟩ v10).setCell ⟨g, 11, none⟩ v11).setCell ⟨g, 12, none⟩ v12).setCell ⟨g, 13, none⟩ v13).setCell ⟨g, 14, none⟩ v14).setCell ⟨g, 15, none⟩ v15) [g] := (Ch.setCell (p := ⟨g, 15, none⟩) (Ch.setCell (p := ⟨g, 14, none⟩) (Ch.setCell (p := ⟨g, 13, none⟩) (Ch.setCell (p := ⟨g, 12, none⟩) (Ch.setCell (p := ⟨g, 11, none⟩) (Ch.setCell (p := ⟨g, 10, none⟩) (Ch.setCell (p := ⟨g, 9, none⟩) (Ch.setCell (p := ⟨g, 8, none⟩) (Ch.setCell (p := ⟨g, 7, none⟩) (Ch.setCell (p := ⟨g, 6, none⟩) (Ch.setCell (p := ⟨g, 5, none⟩) (Ch.setCell (p := ⟨g, 4, none⟩) (Ch.setCell (p := ⟨g, 3, none⟩) (Ch.setCell (p := ⟨g, 2, none⟩) (Ch.setCell (p := ⟨g, 1, none⟩) (Ch.setCell (p := ⟨g, 0, none⟩) (Ch.refl W [g]) (by simp) v0) (by simp) v1) (by simp) v2) (by simp) v3) (by simp) v4) (by simp) v5) (by simp) v6) (by simp) v7) (by simp) v8) (by simp) v9) (by simp) v10) (by simp) v11) (by simp) v12) (by simp) v13) (by simp) v14) (by simp) v15)
theorem ch_n10 (W : World) (g : Nat) (v0 v1 v2 v3 v4 v5 v6 v7 v8 v9 : Value) : Ch W ((((((((((W.setCell ⟨g, 0, none⟩ v0).setCell ⟨g, 1, none⟩ v1).setCell ⟨g, 2, none⟩ v2).setCell ⟨g, 3, none⟩ v3).setCell ⟨g, 4, none⟩ v4).setCell ⟨g, 5, none⟩ v5).setCell ⟨g, 6, none⟩ v6).setCell ⟨g, 7, none⟩ v7).setCell ⟨g, 8, none⟩ v8).setCell ⟨g, 9, none⟩ v9) [g] := (Ch.setCell (p := ⟨g, 9, none⟩) (Ch.setCell (p := ⟨g, 8, none⟩) (Ch.setCell (p := ⟨g, 7, none⟩) (Ch.setCell (p := ⟨g, 6, none⟩) (Ch.setCell (p := ⟨g, 5, none⟩) (Ch.setCell (p := ⟨g, 4, none⟩) (Ch.setCell (p := ⟨g, 3, none⟩) (Ch.setCell (p := ⟨g, 2, none⟩) (Ch.setCell (p := ⟨g, 1, none⟩) (Ch.setCell (p := ⟨g, 0, none⟩) (Ch.refl W [g]) (by simp) v0) (by simp) v1) (by simp) v2) (by simp) v3) (by simp) v4) (by simp) v5) (by simp) v6) (by simp) v7) (by simp) v8) (by simp) v9)
/-- a region's operations, by its number -/
def regOpsH (id : Nat) : Code → Option (Array Oper)
  | .region i ops _ => if i = id then some ops else none
  | .seq a b => (regOpsH id a).or (regOpsH id b)
  | .cond _ a b => (regOpsH id a).or (regOpsH id b)
  | .block _ b => regOpsH id b
  | .loop b => regOpsH id b
  | .scope b => regOpsH id b
  | .rangeFunc _ _ a b => (regOpsH id a).or (regOpsH id b)
  | _ => none
/-- the first loop's body -/
def loopAtH : Code → Option Code
  | .loop b => some b
  | .seq a b => (loopAtH a).or (loopAtH b)
  | .cond _ a b => (loopAtH a).or (loopAtH b)
  | .block _ b => loopAtH b
  | .scope b => loopAtH b
  | _ => none
set_option maxRecDepth 1000000 in
set_option maxHeartbeats 4000000 in
theorem ss_c (op n : Int) (w : World) (n0 : 1 ≤ n) (n1 : n ≤ 256) : Calls Try.prog 17 #[.int .i64 op, .int .i64 n] w fun e w' => e = .returned (.agg #[.int .i64 op, .int .i64 5, .int .i64 0, .int .i64 0, .int .i64 0, .int .i64 14, .int .i64 0, .int .i64 15, .int .i64 0, .int .i64 (n - 1), .int .i64 0, .int .i64 0]) ∧ Below w.heap.size w w' := by
  go_enter Try.func17, Try.ntmps17
  go_wp2
  exact bodyPost_ret (v := .agg #[.int .i64 op, .int .i64 5, .int .i64 0, .int .i64 0, .int .i64 0, .int .i64 14, .int .i64 0, .int .i64 15, .int .i64 0, .int .i64 (n - 1), .int .i64 0, .int .i64 0]) (by simp [results, Try.results17, go_sem]) rfl ⟨rfl, (Below.refl _ _).alloc (Nat.le_refl _) _⟩
end Go.Proofs.Ythjdjbipfdigeaa

