/- CONTRACTS of the reference: Of, Form, Name, Find, Length, Privileged. No conditions but the numbers' own. -/
import Derived.Test.YtfbcjpbfggbhfaaIsR
import Derived.Test.YtfbcjpbfggbhfaaIs5
import Derived.Test.YtfbcjpbfggbhfaaIs8
namespace Go.Proofs.Ytfbcjpbfggbhfaa
open Go.RowKit
set_option linter.unusedVariables false
set_option linter.unusedSimpArgs false
theorem rowsA_eq : rowsA = ((List.range 97).flatMap fun k => [Value.int .i64 (opK k), .string (strN (nmK k)), .int .i64 (fmK k)]).toArray := rfl
theorem flat3 {α : Type} (f : Nat → α) (g : Nat → α) (h : Nat → α) : ∀ (n k : Nat), k < n → ((List.range n).flatMap fun k => [f k, g k, h k])[3 * k]? = some (f k) ∧ ((List.range n).flatMap fun k => [f k, g k, h k])[3 * k + 1]? = some (g k) ∧ ((List.range n).flatMap fun k => [f k, g k, h k])[3 * k + 2]? = some (h k)
  | n + 1, k, hk => by
    have hl : ∀ m, ((List.range m).flatMap fun k => [f k, g k, h k]).length = 3 * m := by
      intro m
      induction m with
      | zero => rfl
      | succ m ih => rw [List.range_succ, List.flatMap_append, List.length_append, ih]; simp; omega
    rw [List.range_succ, List.flatMap_append]
    rcases Nat.lt_or_ge k n with h1 | h1
    · have ih := flat3 f g h n k h1
      have := hl n
      rw [List.getElem?_append_left (by omega), List.getElem?_append_left (by omega), List.getElem?_append_left (by omega)]
      exact ih
    · obtain rfl : k = n := by omega
      have := hl k
      rw [List.getElem?_append_right (by omega), List.getElem?_append_right (by omega), List.getElem?_append_right (by omega)]
      rw [hl k, show 3 * k - 3 * k = 0 from by omega, show 3 * k + 1 - 3 * k = 1 from by omega, show 3 * k + 2 - 3 * k = 2 from by omega]
      exact ⟨rfl, rfl, rfl⟩
theorem rows_get {k : Nat} (hk : k < 97) : rowsA[3 * k]? = some (.int .i64 (opK k)) ∧ rowsA[3 * k + 1]? = some (.string (strN (nmK k))) ∧ rowsA[3 * k + 2]? = some (.int .i64 (fmK k)) := by
  rw [rowsA_eq]
  simp only [List.getElem?_toArray]
  exact flat3 (fun k => Value.int .i64 (opK k)) (fun k => .string (strN (nmK k))) (fun k => .int .i64 (fmK k)) 97 k hk
theorem free_of_row (W : World) (g c : Nat) (cs : Array Value) (T : TypeId) (h : W.heap[g]? = some (.cells cs T (0, 0))) : W.frozen? ⟨g, c, none⟩ = false := by simp [World.frozen?, h]
theorem sets3 {W : World} {g : Nat} {T : TypeId} {x y z : Value} (h : W.heap[g]? = some (.cells #[x, y, z] T (0, 0))) (a b c : Value) : (((W.setCell ⟨g, 0, none⟩ a).setCell ⟨g, 1, none⟩ b).setCell ⟨g, 2, none⟩ c).heap[g]? = some (.cells #[a, b, c] T (0, 0)) := by
  have h1 : (W.setCell ⟨g, 0, none⟩ a).heap[g]? = some (.cells #[a, y, z] T (0, 0)) := by rw [setCell_eq_setRow W g 0 _ T (0, 0) _ h, setRow_heap W g _ _ _ _ h]; rfl
  have h2 : ((W.setCell ⟨g, 0, none⟩ a).setCell ⟨g, 1, none⟩ b).heap[g]? = some (.cells #[a, b, z] T (0, 0)) := by rw [setCell_eq_setRow _ g 1 _ T (0, 0) _ h1, setRow_heap _ g _ _ _ _ h1]; rfl
  rw [setCell_eq_setRow _ g 2 _ T (0, 0) _ h2, setRow_heap _ g _ _ _ _ h2]; rfl
theorem below_sets3 {W w : World} {B g : Nat} (hB : Below B w W) (hg : B ≤ g) (a b c : Value) : Below B w (((W.setCell ⟨g, 0, none⟩ a).setCell ⟨g, 1, none⟩ b).setCell ⟨g, 2, none⟩ c) := Below.setCell (p := ⟨g, 2, none⟩) (Below.setCell (p := ⟨g, 1, none⟩) (Below.setCell (p := ⟨g, 0, none⟩) hB hg _) hg _) hg _
def opOf (op : Int) : Int := if ix op < 97 then op else 0
set_option maxRecDepth 1000000 in
set_option maxHeartbeats 4000000 in
theorem of_c (op : Int) (w : World) : Calls Try.prog 32 #[.int .i64 op] w fun e w' => e = .returned (.tuple #[.agg #[.int .i64 (opOf op), .string (strN (nmOf op)), .int .i64 (fmOf op)], .bool (isOp op)]) ∧ Below w.heap.size w w' := by
  go_enter Try.func32, Try.ntmps32
  go_wp2_with fail
  refine (rows_c _).mono ?_
  rintro e w1 ⟨rfl, rfl⟩
  have HB := Lib.hid (show Below w.heap.size w ((w.alloc (.cells #[.int .i64 0, .string ⟨#[]⟩, .int .i64 0] 48)).alloc (.cells rowsA 48)) from ((Below.refl _ _).alloc (Nat.le_refl _) _).alloc (by simp) _)
  have HR := Lib.hid (fun j => cell_of_row ((w.alloc (.cells #[.int .i64 0, .string ⟨#[]⟩, .int .i64 0] 48)).alloc (.cells rowsA 48)) (w.heap.size + 1) j rowsA 48 (0, 0) (heap_alloc2_new _ _ _))
  have H0 := Lib.hid (show ((w.alloc (.cells #[.int .i64 0, .string ⟨#[]⟩, .int .i64 0] 48)).alloc (.cells rowsA 48)).heap[w.heap.size]? = some (.cells #[.int .i64 0, .string ⟨#[]⟩, .int .i64 0] 48 (0, 0)) from (Below.heap_alloc _ _ _ (by simp)).trans (heap_alloc_new w _))
  obtain ⟨W0, hW0⟩ : ∃ W0, (w.alloc (.cells #[.int .i64 0, .string ⟨#[]⟩, .int .i64 0] 48)).alloc (.cells rowsA 48) = W0 := ⟨_, rfl⟩
  rw [hW0] at HB HR H0 ⊢
  clear hW0
  have q0 := (cell_of_row W0 w.heap.size 0 _ 48 (0, 0) H0.out)
  have q1 := (cell_of_row W0 w.heap.size 1 _ 48 (0, 0) H0.out)
  have q2 := (cell_of_row W0 w.heap.size 2 _ 48 (0, 0) H0.out)
  simp only [List.getElem?_toArray, List.getElem?_cons_zero, List.getElem?_cons_succ] at q0 q1 q2
  have g0 := free_of_row W0 w.heap.size 0 _ 48 H0.out
  have g1 := free_of_row W0 w.heap.size 1 _ 48 H0.out
  have g2 := free_of_row W0 w.heap.size 2 _ 48 H0.out
  go_wp2
  go_loopw [5] (fun x wr => ∃ k : Nat, k ≤ 97 ∧ x = .int .i64 (k : Int) ∧ (∀ j, j < k → opK j ≠ op) ∧ wr = W0) (fun x _ => 97 - (intOf x).toNat)
  case atStart => exact ⟨0, by omega, rfl, by intro j hj; omega, rfl⟩
  case round =>
    obtain ⟨k, hk, rfl, hlo, hw⟩ := hrel
    subst hw
    have LO := Lib.hid hlo
    clear hlo
    by_cases hlt : k < 97
    · have hI : (k : Int) < 97 := by omega
      obtain ⟨r0, r1, r2⟩ := rows_get hlt
      rw [Nat.mul_comm 3 k] at r0 r1 r2
      have c0 := (HR.out _).trans r0
      have c1 := (HR.out _).trans r1
      have c2 := (HR.out _).trans r2
      obtain ⟨o, ho⟩ : ∃ o, opK k = o := ⟨_, rfl⟩
      rw [ho] at c0
      have HO := Lib.hid ho
      clear ho r0 r1 r2
      by_cases h : o = op
      · subst h
        have hx := Lib.hid (ix_of hlt HO.out)
        have e0 : (o == o) = true := by simp
        go_wp2
        refine bodyPost_ret (res_cell_tmp Try.results32 _ _ w.heap.size _ 48 _ rfl rfl (sets3 H0.out (.int .i64 o) (.string (strN (nmK k))) (.int .i64 (fmK k))) Try.underlying48 rfl (by kernel_rfl)) rfl ⟨?_, below_sets3 HB.out (Nat.le_refl _) _ _ _⟩
        unfold opOf nmOf fmOf isOp
        rw [hx.out, if_pos hlt, if_pos hlt, if_pos hlt, decide_eq_true hlt]; rfl
      · have e0 : (o == op) = false := by simpa using h
        go_wp2
        refine ⟨⟨k + 1, by omega, rfl, ?_, trivial⟩, by simp [intOf]; omega⟩
        intro j hj
        rcases Nat.lt_or_ge j k with h2 | h2
        · exact LO.out j h2
        · rw [show j = k by omega, HO.out]; exact h
    · obtain rfl : k = 97 := by omega
      have hx := Lib.hid (ix_none LO.out)
      go_wp2
      refine bodyPost_ret (res_cell_tmp Try.results32 _ _ w.heap.size _ 48 _ rfl rfl (sets3 H0.out (.int .i64 0) (.string ⟨#[]⟩) (.int .i64 0)) Try.underlying48 rfl (by kernel_rfl)) rfl ⟨?_, below_sets3 HB.out (Nat.le_refl _) _ _ _⟩
      unfold opOf nmOf fmOf isOp
      rw [hx.out]; rfl
set_option maxHeartbeats 1000000 in
theorem rform_c (op : Int) (w : World) : Calls Try.prog 11 #[.int .i64 op] w fun e w' => e = .returned (.tuple #[.int .i64 (fmOf op), .bool (isOp op)]) ∧ Below w.heap.size w w' := by
  go_enter Try.func11, Try.ntmps11
  go_wp2_with fail
  refine (of_c op _).mono ?_
  rintro e w1 ⟨rfl, hb⟩
  have HB := Lib.hid hb
  clear hb
  go_wp2
  go_returns
  exact ⟨rfl, HB.out.alloc HB.out.size _⟩
set_option maxHeartbeats 1000000 in
theorem rname_c (op : Int) (w : World) : Calls Try.prog 28 #[.int .i64 op] w fun e w' => e = .returned (.string (strN (nmOf op))) ∧ Below w.heap.size w w' := by
  go_enter Try.func28, Try.ntmps28
  go_wp2_with fail
  refine (of_c op _).mono ?_
  rintro e w1 ⟨rfl, hb⟩
  have HB := Lib.hid hb
  clear hb
  go_wp2
  go_ret
  exact ⟨rfl, HB.out.alloc HB.out.size _⟩
set_option maxHeartbeats 1000000 in
theorem rlength_c (op : Int) (w : World) : Calls Try.prog 13 #[.int .i64 op] w fun e w' => e = .returned (.int .i64 (lenOf op)) ∧ w = w' := by
  have h : (op < 0 ∧ lenOf op = 0) ∨ (¬ op < 0 ∧ op > 255 ∧ lenOf op = 0) ∨ (¬ op < 0 ∧ ¬ op > 255 ∧ op < 64 ∧ lenOf op = 2) ∨ (¬ op < 0 ∧ ¬ op > 255 ∧ ¬ op < 64 ∧ op < 192 ∧ lenOf op = 4) ∨ (¬ op < 0 ∧ ¬ op > 255 ∧ ¬ op < 64 ∧ ¬ op < 192 ∧ lenOf op = 6) := by
    unfold lenOf; repeat' split
    all_goals omega
  rcases h with ⟨h0, hr⟩ | ⟨h0, h1, hr⟩ | ⟨h0, h1, h2, hr⟩ | ⟨h0, h1, h2, h3, hr⟩ | ⟨h0, h1, h2, h3, hr⟩
  all_goals
    rw [hr]
    clear hr
    go_enter Try.func13, Try.ntmps13
    go_wp2
    go_ret
    exact ⟨rfl, rfl⟩
theorem privB_cases (op : Int) : (op = 8 ∧ privB op = true) ∨ (op = 9 ∧ privB op = true) ∨ (op = 128 ∧ privB op = true) ∨ (op = 130 ∧ privB op = true) ∨ (op ≠ 8 ∧ op ≠ 9 ∧ op ≠ 128 ∧ op ≠ 130 ∧ 156 ≤ op ∧ op ≤ 159 ∧ privB op = true) ∨ (op ≠ 8 ∧ op ≠ 9 ∧ op ≠ 128 ∧ op ≠ 130 ∧ 156 ≤ op ∧ ¬ op ≤ 159 ∧ privB op = false) ∨ (op ≠ 8 ∧ op ≠ 9 ∧ op ≠ 128 ∧ op ≠ 130 ∧ ¬ 156 ≤ op ∧ privB op = false) := by
  unfold privB
  simp only [decide_eq_true_iff, decide_eq_false_iff_not]
  omega
set_option maxHeartbeats 1000000 in
theorem rpriv_c (op : Int) (w : World) : Calls Try.prog 30 #[.int .i64 op] w fun e w' => e = .returned (.bool (privB op)) ∧ w = w' := by
  rcases privB_cases op with ⟨rfl, hr⟩ | ⟨rfl, hr⟩ | ⟨rfl, hr⟩ | ⟨rfl, hr⟩ | ⟨a0, a1, a2, a3, a4, a5, hr⟩ | ⟨a0, a1, a2, a3, a4, a5, hr⟩ | ⟨a0, a1, a2, a3, a4, hr⟩
  all_goals
    rw [hr]
    clear hr
    go_enter Try.func30, Try.ntmps30
    go_wp2
    go_ret
    exact ⟨by simp [*], rfl⟩
end Go.Proofs.Ytfbcjpbfggbhfaa
