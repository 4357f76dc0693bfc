/- CONTRACTS of package isa: fields and its iterator. No conditions but that the instruction lies in a block. -/
import Derived.RangeFuncNested
import Derived.RangeFuncBound
import Derived.RangeFuncCalls
import Derived.RangeFuncLeaves
import Derived.Shelf.Abstract
import Derived.Shelf.RegionOpen
import Derived.WalkKit
import Derived.OwnWalkIn
import Derived.TacticsInMore
import Derived.LoopNIn
import Derived.LoopIn
import Derived.Outline
import Derived.Laws.EntriesVeiled
import Derived.Test.YthjdjbipfdigeaaIs2
import Derived.Test.YthjdjbipfdigeaaBo
namespace Go.Proofs.Ythjdjbipfdigeaa
open Go.RowKit Go.Shelf
set_option linter.unusedVariables false
set_option linter.unusedSimpArgs false
attribute [local go_sem] Oper.semAt_some

theorem fields_c (p : Option Addr) (w : World) : Calls Try.prog 40 #[.pointer p] w fun e w' => e = .returned (.func (.func 52) #[] #[.pointer (some ⟨w.heap.size, 0, none⟩)]) ∧ w' = w.alloc (.cells #[.pointer p] 81) := by
  go_enter Try.func40, Try.ntmps40
  go_wp2
  go_ret
  exact ⟨rfl, rfl⟩
/-- what a round keeps: the cells' blocks from n1 on -/
def KpC (n1 : Nat) (W W' : World) : Prop := W.heap.size ≤ W'.heap.size ∧ ∀ k o, n1 ≤ k → W.heap[k]? = some o → o.isCells = true → W'.heap[k]? = some o
theorem kpC_t {n1 : Nat} {A B C : World} (h : KpC n1 A B) (k : KpC n1 B C) : KpC n1 A C := ⟨Nat.le_trans h.1 k.1, fun i o hi ho hc => k.2 i o hi (h.2 i o hi ho hc) hc⟩
theorem kpC_b {n1 : Nat} {w : World} (W : World) (l : Nat) (o o' : Obj) (_ : w.heap.size ≤ l) (h : W.heap[l]? = some o) (hc : o.isCells = false) (_ : o.isWalk = false) : KpC n1 W (W.putObj l o') :=
  ⟨by simp, fun k u hk hu hcu => by
    have hne : k ≠ l := by rintro rfl; rw [h] at hu; injection hu with hu; rw [hu] at hc; rw [hc] at hcu; cases hcu
    exact (World.putObj_heap_other hne).trans hu⟩
theorem kpC_refl (n1 : Nat) (W : World) : KpC n1 W W := ⟨Nat.le_refl _, fun _ _ _ h _ => h⟩
theorem kpC_of_below {n1 : Nat} {W W' : World} (h : Below W.heap.size W W') : KpC n1 W W' := ⟨h.size, fun k o _ ho _ => (h.block k (Array.getElem?_eq_some_iff.1 ho).1).trans ho⟩
theorem kpC_set {n1 : Nat} (W : World) (p : Addr) (v : Value) (hp : p.block < n1) : KpC n1 W (W.setCell p v) := ⟨(KeepsWalks.setCell W p v).size, fun k o hk ho _ => (Below.heap_setCell W p v k (by omega)).trans ho⟩

abbrev FE := Nat × Int × Int
theorem fvals_get (b : Nat) : ∀ (l : List FE) (j : Nat) (x : FE), l[j]? = some x → (fvals b l)[j * 3]? = some (.pointer (some ⟨b, x.1, none⟩)) ∧ (fvals b l)[j * 3 + 1]? = some (.int .i64 x.2.1) ∧ (fvals b l)[j * 3 + 2]? = some (.int .i64 x.2.2)
  | [], j, x, h => by simp at h
  | y :: l, 0, x, h => by simp at h; subst h; exact ⟨rfl, rfl, rfl⟩
  | y :: l, j + 1, x, h => by
    have ih := fvals_get b l j x (by simpa using h)
    have e : fvals b (y :: l) = [.pointer (some ⟨b, y.1, none⟩), .int .i64 y.2.1, .int .i64 y.2.2] ++ fvals b l := rfl
    rw [e]
    have e2 : ∀ k, ([.pointer (some ⟨b, y.1, none⟩), .int .i64 y.2.1, .int .i64 y.2.2] ++ fvals b l : List Value)[k + 3]? = (fvals b l)[k]? := fun k => by rw [List.getElem?_append_right (by simp)]; rfl
    refine ⟨?_, ?_, ?_⟩
    · rw [show (j + 1) * 3 = j * 3 + 3 by omega, e2]; exact ih.1
    · rw [show (j + 1) * 3 + 1 = j * 3 + 1 + 3 by omega, e2]; exact ih.2.1
    · rw [show (j + 1) * 3 + 2 = j * 3 + 2 + 3 by omega, e2]; exact ih.2.2
theorem cell_of_list {w : World} {g : Nat} {l : List Value} {T : TypeId} (h : w.heap[g]? = some (.cells l.toArray T (0, 0))) {i : Nat} {v : Value} (hv : l[i]? = some v) : w.cell? ⟨g, i, none⟩ = some v := by
  rw [cell_blk h]; simpa using hv

theorem lay_len (form : Int) : (lay form).length ≤ 6 := by unfold lay; (repeat' split) <;> decide
theorem grown_of_below' {a w : World} {row : Option Nat} (h : Below a.heap.size a w) : a.grownBy w row := ⟨h.os, h.tape, h.output, h.size, fun i hi _ => h.block i hi⟩
set_option maxRecDepth 100000 in
set_option maxHeartbeats 2000000 in
theorem fields1_stops (p : FE → Prop) (n : Nat) (hn : 1 ≤ n) (b Bx n1 : Nat) (form : Int) (w : World) (hb : w.cell? ⟨b, 1, none⟩ = some (.int .i64 form)) (hx : w.cell? ⟨Bx, 0, none⟩ = some (.pointer (some ⟨b, 0, none⟩))) (h1 : n1 ≤ w.heap.size) (hp : ∀ x ∈ lay form, p x) :
    SeqStopsK Fence.wide n Try.prog 52 #[.pointer (some ⟨Bx, 0, none⟩)] (fun x : { x : FE // p x } => #[Value.agg #[.pointer (some ⟨b, x.1.1, none⟩), .int .i64 x.1.2.1, .int .i64 x.1.2.2]]) (KpC n1) (fun ys => ys.map (·.1) = lay form) (fun pre => ∃ c, c ≤ (lay form).length ∧ pre.map (·.1) = (lay form).take c) (lay form).length w := fun l J Jx W hW hA hAx hY h0 => by
  have C1 := (hW.cell (p := ⟨b, 1, none⟩) (World.block_lt_of_cell? w _ hb)).trans hb
  have C2 := (hW.cell (p := ⟨Bx, 0, none⟩) (World.block_lt_of_cell? w _ hx)).trans hx
  have HZ := hW.size
  obtain ⟨L, hL⟩ : ∃ L, lay form = L := ⟨_, rfl⟩
  obtain ⟨m, hm⟩ : ∃ m, L.length = m := ⟨_, rfl⟩
  have HM := Lib.hid hm
  have m6 : m ≤ 6 := by rw [← hm, ← hL]; exact lay_len form
  have LC := Lib.hid (layout_c b form W C1)
  unfold layPost at LC
  rw [hL] at hp
  rw [hL, hm] at LC hY
  rw [hL, hm]
  have HA := Lib.hid hA
  have HL := Lib.hid hL
  clear hm hb hx hL hA hAx
  refine callsIn_of_wp Try.func52 rfl trivial ?_ rfl
  simp only [Try.ntmps52, List.size_toArray, List.length_cons, List.length_nil, Nat.reduceAdd, Nat.reduceSub, Array.replicate_succ, Array.replicate_zero, List.push_toArray, List.append_toArray, List.nil_append, List.cons_append]
  gi_wp2_with (refine ⟨trivial, ?_⟩; gi_at_call 53; refine (callsIn_wide.2 LC.out).mono ?_; rintro e w1 ⟨g, rfl, hg, hh, hbl⟩)
  have H0 := Lib.hid (HA.out [] W w1 none h0 (grown_of_below' hbl) (fun r e => by cases e))
  have HH := Lib.hid hh
  have n1g : n1 ≤ g := by omega
  clear h0 hh hbl C1 C2 LC
  gi_loopw [8] (fun iv wr => ∃ (j : Nat) (pre : List { x : FE // p x }), j ≤ m ∧ iv = .int .i64 j ∧ pre.map (·.1) = L.take j ∧ J pre wr ∧ wr.heap[g]? = some (.cells (fvals b L).toArray 84 (0, 0))) (fun iv _ => m - (intOf iv).toNat)
  case atStart => exact ⟨0, [], by omega, rfl, rfl, H0.out, HH.out⟩
  case round =>
    obtain ⟨j, pre, hj, rfl, hpre, hJ, hgb⟩ := hrel
    have PR := Lib.hid hpre
    have PL := Lib.hid (show pre.length = j from by have := congrArg List.length hpre; rw [List.length_map, List.length_take] at this; have := HM.out; omega)
    clear hpre
    have HJ := Lib.hid hJ
    have HG := Lib.hid hgb
    clear hJ hgb H0 HH
    by_cases hlt : j < m
    · have hI : (j : Int) < (m : Int) := by omega
      obtain ⟨x, hx⟩ : ∃ x, L[j]? = some x := ⟨_, List.getElem?_eq_getElem (by rw [HM.out]; exact hlt)⟩
      obtain ⟨x, rfl⟩ : ∃ x' : { x : FE // p x }, x'.1 = x := ⟨⟨x, hp x (List.mem_of_getElem? hx)⟩, rfl⟩
      obtain ⟨f0, f1, f2⟩ := fvals_get b L j x.1 hx
      have d0 := cell_of_list HG.out f0
      have d1 := cell_of_list HG.out f1
      have d2 := cell_of_list HG.out f2
      have ST := Lib.hid (show (pre ++ [x]).map (·.1) = L.take (j + 1) by rw [List.map_append, PR.out, List.take_add_one, hx]; rfl)
      obtain ⟨fn, tmps, assign, body, hy, hR⟩ := hY pre x (wr.alloc (.cells #[.pointer (some ⟨b, x.1.1, none⟩), .int .i64 x.1.2.1, .int .i64 x.1.2.2] 84)) (HA.out _ wr _ none HJ.out (World.grownBy_alloc wr _ none) (fun r e => by cases e)) (by rw [PL.out]; exact hlt)
      clear f0 f1 f2 hx
      gi_wp2
      refine hR.mono ?_
      rintro e W3 (⟨rfl, hJ3, hk3⟩ | ⟨rfl, hJx3⟩)
      · gi_wp2
        go_roundw
        case rel => exact ⟨j + 1, _, by omega, by go_num, ST.out, hJ3, hk3.2 g _ n1g ((Below.heap_alloc wr _ g (Array.getElem?_eq_some_iff.1 HG.out).1).trans HG.out) rfl⟩
        case measure => simp [intOf]; omega
      · gi_wp2
        refine bodyPost_ret (results_none rfl _ _ _) rfl ?_
        exact ⟨⟨_, rfl⟩, .inr ⟨_, ⟨j + 1, by omega, ST.out⟩, hJx3⟩⟩
    · obtain rfl : j = m := by omega
      have HF := Lib.hid (show L.take j = L by rw [List.take_of_length_le (by rw [HM.out]; exact Nat.le_refl _)])
      gi_wp2
      go_end0
      exact ⟨⟨_, rfl⟩, .inl ⟨pre, PR.out.trans HF.out, HJ.out⟩⟩
end Go.Proofs.Ythjdjbipfdigeaa
