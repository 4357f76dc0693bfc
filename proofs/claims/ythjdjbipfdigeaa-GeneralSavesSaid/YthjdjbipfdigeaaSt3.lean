/- CONTRACTS of package store and its reference: Bytes, Clear. No conditions but that the storage reads as one. -/
import Derived.Test.YthjdjbipfdigeaaSt1
import Derived.Test.YthjdjbipfdigeaaSt2
import Derived.Lib.Hide
import Derived.Outline
import Derived.Handy
import Derived.BigQuiet
import Derived.Deep.QuietTactic
namespace Go.Proofs.Ythjdjbipfdigeaa
open Go.RowKit
set_option maxRecDepth 100000
set_option linter.unusedVariables false
set_option linter.unusedSimpArgs false

/-- the call returns a slice of its own that holds zs, and writes nothing that was there -/
def GivesB (w : World) (zs : List Int) (e : Ending) (w' : World) : Prop := ∃ A m c, e = .returned (.slice A m c) ∧ Own w' w.heap.size (.slice A m c) m zs ∧ Below w.heap.size w w'
theorem sGet_no {N : Nat} {bs : List Int} {addr n : Int} (hN : bs.length = N) (h : sIn N addr n = false) : sGet bs addr n = [] := by unfold sGet; rw [hN, h]; rfl
theorem sGet_yes {N a k : Nat} {bs : List Int} (hN : bs.length = N) (h : sIn N (a : Int) (k : Int) = true) : sGet bs (a : Int) (k : Int) = (bs.drop a).take k := by unfold sGet; rw [hN, h]; simp

set_option maxHeartbeats 1000000 in
theorem bytes_c {F : Foot} {bs ks : List Int} (w : World) (h : St 71 w F bs ks) (addr n : Int) : Calls Try.prog 19 #[.pointer (some ⟨F.g, 0, none⟩), .int .i64 addr, .int .i64 n] w (GivesB w (sGet bs addr n)) := by
  obtain ⟨N, hN⟩ : ∃ N, bs.length = N := ⟨_, rfl⟩
  have c0 := h.cell0
  have H := Lib.hid h
  have n0 : (2048 : Int) ≤ (N : Int) := by have := h.ln; have := h.l0; omega
  have n1 : (N : Int) ≤ 65536 := by have := h.ln; have := h.l1; omega
  rw [hN] at c0
  have HN := Lib.hid hN
  have ltg := H.out.ltg
  clear hN h
  cases hi : sIn N addr n
  · rw [sGet_no HN.out hi]
    go_enter Try.func19, Try.ntmps19
    go_wp2_with (go_at_call 34; refine (in_c _ H.out _ _).mono ?_; rintro e w1 ⟨rfl, rfl⟩; rw [HN.out, hi])
    go_ret
    exact ⟨none, 0, 0, rfl, Own.nil _ _, Below.refl _ _⟩
  obtain ⟨b0, b1, b2, b3⟩ := sIn_yes hi
  obtain ⟨a, rfl⟩ := Int.eq_ofNat_of_zero_le b0
  obtain ⟨k, rfl⟩ := Int.eq_ofNat_of_zero_le b1
  have a0 : (a : Int) ≤ (N : Int) := b2
  have a1 : (a : Int) + (k : Int) ≤ (N : Int) := by omega
  have g0 := Lib.hid (show a + k ≤ bs.length from by rw [HN.out]; omega)
  have lb := H.out.capb
  rw [HN.out] at lb
  have lbb := H.out.maxb
  unfold maxLen at lbb
  have kN : (k : Int) ≤ 1000000 := by omega
  have aN : a ≤ N := by omega
  have kk : k ≤ N - a := by omega
  rw [sGet_yes HN.out hi]
  by_cases hcap : F.cb = a
  · obtain rfl : N = a := by omega
    obtain rfl : k = 0 := by omega
    rw [show ((0 : Nat) : Int) = 0 from rfl] at hi ⊢
    have hmk : ∀ W : World, (Instr.makeSlice 31 (.int .i64 0) (.int .i64 0)).run Try.prog W = .ok (.slice (some ⟨W.heap.size, 0, none⟩) 0 0) (W.alloc (.cells (zeroB 0) 5)) := fun W => run_mk_b 0 (by decide) W
    obtain ⟨w2, hcp, ho, hb⟩ := run_copy_from (H.out.alloc (.cells (zeroB 0) 5)) (own_zeros w 0 w.heap.size (Nat.le_refl _) (by decide)) g0.out (c' := 0) (.inr ⟨rfl, rfl⟩)
    rw [HN.out, Nat.sub_self] at hcp
    have hcp' : (Builtin.copy_ #[31, 31] 3 #[.slice (some ⟨w.heap.size, 0, none⟩) 0 0, .slice (some ⟨F.gb, 0, none⟩) 0 0]).run Try.prog (w.alloc (.cells (zeroB 0) 5)) = .ok (.int .i64 0) w2 := hcp
    have HO := Lib.hid ho
    have HB := Lib.hid hb
    rw [hcap] at c0
    clear ho hb hcp hcap lb lbb
    go_enter Try.func19, Try.ntmps19
    go_wp2_with (go_at_call 34; refine (in_c _ H.out _ _).mono ?_; rintro e w1 ⟨rfl, rfl⟩; rw [HN.out, hi])
    go_ret
    exact ⟨_, _, _, rfl, HO.out, ((Below.refl w.heap.size w).alloc (Nat.le_refl _) _).trans HB.out⟩
  · have hmk := fun W => run_mk_b k kN W
    obtain ⟨w2, hcp, ho, hb⟩ := run_copy_from (H.out.alloc (.cells (zeroB k) 5)) (own_zeros w k w.heap.size (Nat.le_refl _) (by unfold maxLen; omega)) g0.out (c' := F.cb - a) (.inl rfl)
    rw [HN.out] at hcp
    have HO := Lib.hid ho
    have HB := Lib.hid hb
    clear ho hb
    go_enter Try.func19, Try.ntmps19
    go_wp2_with (go_at_call 34; refine (in_c _ H.out _ _).mono ?_; rintro e w1 ⟨rfl, rfl⟩; rw [HN.out, hi])
    go_ret
    exact ⟨_, _, _, rfl, HO.out, ((Below.refl w.heap.size w).alloc (Nat.le_refl _) _).trans HB.out⟩

end Go.Proofs.Ythjdjbipfdigeaa
