/- CONTRACTS of package isa: Ops, Find. No conditions. -/
import Derived.Test.YtfbcjpbfggbhfaaIs1
import Derived.OwnWalk
import Derived.Below
import Derived.IntWalk
import Derived.Handy
import Derived.WalkKit
namespace Go.Proofs.Ytfbcjpbfggbhfaa
open Go.RowKit
set_option linter.unusedVariables false
set_option linter.unusedSimpArgs false
theorem info_int : (Try.prog.info? 3).map (fun i => (i.zero, i.size, i.bytes)) = some (some (.int .i64 0), 1, 8) := by kernel_rfl
theorem grown_drewN {w w' : World} {n : Nat} {r : Option Nat} (h : w' = w.drewN n) : w.grownBy w' r := by subst h; exact ⟨rfl, rfl, rfl, Nat.le_refl _, fun _ _ _ => rfl⟩
theorem below_dn {B : Nat} {a w : World} (h : Below B a w) (n : Nat) : Below B a (w.drewN n) := ⟨h.os, h.tape, h.output, h.size, h.block⟩
theorem owns_read {w : World} {base : Nat} {e : TypeId} {v : Value} {n : Nat} {xs : List Value} (h : w.ownsRow base e 1 v n xs) (hn : 0 < n) : ∃ g cap, v = .slice (some ⟨g, 0, none⟩) n cap ∧ base ≤ g ∧ g < w.heap.size ∧ ∀ j u, xs[j]? = some u → w.cell? ⟨g, j, none⟩ = some u := by
  rcases h.2 with ⟨_, h0⟩ | ⟨g, cap, cur, rfl, hb, hg, _⟩
  · omega
  · refine ⟨g, cap, rfl, hb, (Array.getElem?_eq_some_iff.1 hg).1, fun j u hu => ?_⟩
    have := h.cells (g := g) (by simp [Value.ownBlock]) j u hu
    rwa [show (⟨g, 0, none⟩ : Addr).add j = ⟨g, j, none⟩ from by unfold Addr.add; split <;> simp_all] at this
theorem str_beq (a b : ByteArray) : (a.toList == b.toList) = decide (a = b) := by
  by_cases h : a = b
  · subst h; simp
  · rw [decide_eq_false h, beq_eq_false_iff_ne]
    intro hl
    rw [ByteArray.toList_eq, ByteArray.toList_eq] at hl
    exact h (ByteArray.ext (Array.ext' hl))
/-- the place of a name in the list (97: it isn't there) -/
def fnIx (s : ByteArray) : Nat := nmL.findIdx (fun l => decide (strN l = s))
def fnOk (s : ByteArray) : Bool := decide (fnIx s < 97)
def fnOp (s : ByteArray) : Int := if fnIx s < 97 then opK (fnIx s) else 0
theorem nmK_get {k : Nat} (h : k < 97) : ∃ h : k < nmL.length, nmK k = nmL[k] := by
  have hl : nmL.length = 97 := by decide +kernel
  refine ⟨by omega, ?_⟩
  unfold nmK; rw [List.getD_eq_getElem?_getD, List.getElem?_eq_getElem (by omega)]; rfl
theorem fnIx_at {k : Nat} {s : ByteArray} (hk : k < 97) (h : ∀ j, j < k → strN (nmK j) ≠ s) (he : strN (nmK k) = s) : fnIx s = k := by
  obtain ⟨h1, e1⟩ := nmK_get hk
  refine (List.findIdx_eq h1).2 ⟨by rw [← e1, he]; simp, fun j hj => ?_⟩
  obtain ⟨h2, e2⟩ := nmK_get (k := j) (by omega)
  rw [← e2]; simpa using h j hj
theorem fnOp_at {k : Nat} {s : ByteArray} (hk : k < 97) (h : ∀ j, j < k → strN (nmK j) ≠ s) (he : strN (nmK k) = s) : fnOp s = opK k ∧ fnOk s = true := by
  have := fnIx_at hk h he
  unfold fnOp fnOk
  rw [this, if_pos hk]; exact ⟨rfl, by simpa using hk⟩
theorem fnOp_none {s : ByteArray} (h : ∀ j, j < 97 → strN (nmK j) ≠ s) : fnOp s = 0 ∧ fnOk s = false := by
  have hl : nmL.length = 97 := by decide +kernel
  have : fnIx s = 97 := by
    have h1 : fnIx s ≤ nmL.length := List.findIdx_le_length
    rcases Nat.lt_or_ge (fnIx s) nmL.length with h2 | h2
    · obtain ⟨h3, e⟩ := nmK_get (k := fnIx s) (by omega)
      have h4 := List.findIdx_getElem (p := fun l => decide (strN l = s)) (xs := nmL) (w := h2)
      exact absurd (by rw [e]; exact of_decide_eq_true h4) (h (fnIx s) (by omega))
    · omega
  unfold fnOp fnOk
  rw [this]; exact ⟨rfl, rfl⟩
/-- the first codes -/
def opsV (k : Nat) : List Value := (opL.take k).map (Value.int .i64)
theorem opsV_len {k : Nat} (h : k ≤ 97) : (opsV k).length = k := by
  have hl : opL.length = 97 := by decide +kernel
  unfold opsV; rw [List.length_map, List.length_take, hl]; omega
theorem opsV_succ {k : Nat} (h : k < 97) : opsV k ++ [.int .i64 (opK k)] = opsV (k + 1) := by
  have hl : opL.length = 97 := by decide +kernel
  unfold opsV
  rw [List.take_succ_eq_append_getElem (by omega), List.map_append]
  congr 1
  unfold opK
  rw [List.getD_eq_getElem?_getD, List.getElem?_eq_getElem (by omega)]; rfl
set_option maxRecDepth 1000000 in
set_option maxHeartbeats 4000000 in
theorem ops_c (w : World) : Calls Try.prog 22 #[] w fun e w' => ∃ v, e = .returned v ∧ w'.ownsRow w.heap.size 3 1 v 97 (opsV 97) ∧ Below w.heap.size w w' := by
  obtain ⟨i0, hi, hz0, hz1, hz2⟩ := info_parts info_int
  go_enter Try.func22, Try.ntmps22
  go_wp2
  go_loopw [1, 2] (fun v x wr => ∃ k : Nat, k ≤ 97 ∧ x = .int .i64 ((8 * k : Nat) : Int) ∧ wr.ownsRow w.heap.size 3 1 v k (opsV k) ∧ Below w.heap.size w wr) (fun _ x _ => 776 - (intOf x).toNat)
  case atStart => exact ⟨0, by omega, rfl, World.ownsRow_nil _ _ _ _, Below.refl _ _⟩
  case round =>
    obtain ⟨k, hk, rfl, hown, hB⟩ := hrel
    by_cases hlt : k < 97
    · have hI : ((8 * k : Nat) : Int) < 776 := by omega
      have HO := Lib.hid hown
      have HB := Lib.hid hB
      clear hown hB
      have CC := Lib.hid (code_c k hlt)
      obtain ⟨a, ha⟩ : ∃ a, 8 * k = a := ⟨_, rfl⟩
      rw [ha] at CC hI
      rw [ha]
      have HA := Lib.hid ha
      clear ha
      go_wp2_with (first
        | (go_at_call 38; refine (CC.out _).mono ?_; rintro e w1 ⟨rfl, n1, rfl⟩; have hown := HO.out.kept (grown_drewN (r := none) (n := n1) rfl) (Classical.em _); have hB := below_dn HB.out n1)
        | (at_builtin; (refine wpList_append_own _ rfl _ _ 40 rfl w.heap.size 3 i0 (.int .i64 0) 1 8 Try.underlying40 hi hz0 hz1 hz2 rfl (by decide) _ _ _ rfl (hown.alloc _) ⟨wr.heap.size, 0, none⟩ 1 1 [.int .i64 (opK k)] rfl rfl ?c1 ?c2 ?c3 ?c4 ?c5 ?_)))
      case c1 =>
        intro j u hj
        match j, hj with
        | 0, hj => simp at hj; subst hj; rw [show (⟨wr.heap.size, 0, none⟩ : Addr).add 0 = ⟨(wr.drewN n1).heap.size, 0, none⟩ from rfl, cell_of_row _ _ 0 _ _ _ (heap_alloc_new (wr.drewN n1) _)]; rfl
      case c2 => intro u hu; simp at hu; subst hu; rfl
      case c3 => unfold maxLen; omega
      case c4 => omega
      case c5 => have := HB.out.size; have h2 : (wr.drewN n1).heap.size = wr.heap.size := rfl; simp; omega
      intro v' w2 hown' hg _
      have hB2 : Below w.heap.size w w2 := (hB.alloc hB.size _).grown hg (by have := HB.out.size; have h2 : (wr.drewN n1).heap.size = wr.heap.size := rfl; simp; omega) (fun j hj => (hown.lt j hj).1)
      rw [opsV_succ hlt] at hown'
      clear hg hown hB
      go_wp2
      exact ⟨⟨k + 1, by omega, by have := HA.out; go_num, hown', hB2⟩, by have := HA.out; simp [intOf]; omega⟩
    · obtain rfl : k = 97 := by omega
      go_wp2
      go_ret
      exact ⟨_, rfl, hown, hB⟩
set_option maxRecDepth 1000000 in
set_option maxHeartbeats 4000000 in
theorem find_c (s : ByteArray) (w : World) : Calls Try.prog 23 #[.string s] w fun e w' => e = .returned (.tuple #[.int .i64 (fnOp s), .bool (fnOk s)]) ∧ ∃ n, w' = w.drewN n := by
  go_enter Try.func23, Try.ntmps23
  go_wp2
  go_loopw [2, 3, 4] (fun a b x wr => ∃ k : Nat, k ≤ 97 ∧ a = .int .i64 0 ∧ b = .bool false ∧ x = .int .i64 ((8 * k : Nat) : Int) ∧ (∀ j, j < k → strN (nmK j) ≠ s) ∧ wr = w) (fun _ _ x _ => 776 - (intOf x).toNat)
  case atStart => exact ⟨0, by omega, rfl, rfl, rfl, by intro j hj; omega, rfl⟩
  case round =>
    obtain ⟨k, hk, rfl, rfl, rfl, hlo, hw⟩ := hrel
    subst hw
    have LO := Lib.hid hlo
    clear hlo
    by_cases hlt : k < 97
    · have hI : ((8 * k : Nat) : Int) < 776 := by omega
      obtain ⟨a, ha⟩ : ∃ a, 8 * k = a := ⟨_, rfl⟩
      have CC := Lib.hid (code_c k hlt)
      have TC := Lib.hid (title_c k hlt)
      rw [ha] at CC TC hI
      rw [ha]
      have HA := Lib.hid ha
      clear ha
      obtain ⟨t, ht⟩ : ∃ t, strN (nmK k) = t := ⟨_, rfl⟩
      rw [ht] at TC
      have HT := Lib.hid ht
      clear ht
      by_cases h : t = s
      · subst h
        have hr := Lib.hid (fnOp_at hlt LO.out HT.out)
        go_wp2_with (first
          | (go_at_call 39; refine (TC.out _).mono ?_; rintro e w1 ⟨rfl, rfl⟩)
          | (go_at_call 38; refine (CC.out _).mono ?_; rintro e w1 ⟨rfl, n1, rfl⟩))
        go_returns
        exact ⟨by rw [hr.out.1, hr.out.2]; rfl, _, rfl⟩
      · have e1 : (t.toList == s.toList) = false := by rw [str_beq]; simpa using h
        go_wp2_with (go_at_call 39; refine (TC.out _).mono ?_; rintro e w1 ⟨rfl, rfl⟩)
        refine ⟨⟨k + 1, by omega, rfl, rfl, by have := HA.out; go_num, ?_, trivial⟩, by have := HA.out; simp [intOf]; omega⟩
        intro j hj
        rcases Nat.lt_or_ge j k with h2 | h2
        · exact LO.out j h2
        · rw [show j = k by omega, HT.out]; exact h
    · obtain rfl : k = 97 := by omega
      have hr := Lib.hid (fnOp_none LO.out)
      go_wp2
      go_returns
      exact ⟨by rw [hr.out.1, hr.out.2]; rfl, 0, rfl⟩
end Go.Proofs.Ytfbcjpbfggbhfaa
