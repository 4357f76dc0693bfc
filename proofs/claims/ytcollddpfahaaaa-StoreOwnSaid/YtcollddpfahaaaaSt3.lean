/- CONTRACTS of package store and its reference: Bytes, Clear. No conditions but that the storage reads as one. -/
import Derived.Test.YtcollddpfahaaaaSt1
import Derived.Test.YtcollddpfahaaaaSt2
import Derived.Lib.Hide
import Derived.Outline
import Derived.Handy
import Derived.BigQuiet
import Derived.Deep.QuietTactic
namespace Go.Proofs.Ytcollddpfahaaaa
open Go.RowKit
set_option linter.unusedVariables false
set_option linter.unusedSimpArgs false

/-- the call returns a slice of its own that holds zs, and writes nothing that was there -/
def GivesB (w : World) (zs : List Int) (e : Ending) (w' : World) : Prop := ∃ A m c, e = .returned (.slice A m c) ∧ Own w' w.heap.size (.slice A m c) m zs ∧ Below w.heap.size w w'
theorem sGet_no {N : Nat} {bs : List Int} {addr n : Int} (hN : bs.length = N) (h : sIn N addr n = false) : sGet bs addr n = [] := by unfold sGet; rw [hN, h]; rfl
theorem sGet_yes {N a k : Nat} {bs : List Int} (hN : bs.length = N) (h : sIn N (a : Int) (k : Int) = true) : sGet bs (a : Int) (k : Int) = (bs.drop a).take k := by unfold sGet; rw [hN, h]; simp

set_option maxHeartbeats 1000000 in
theorem bytes_c {F : Foot} {bs ks : List Int} (w : World) (h : St 66 w F bs ks) (addr n : Int) : Calls Try.prog 18 #[.pointer (some ⟨F.g, 0, none⟩), .int .i64 addr, .int .i64 n] w (GivesB w (sGet bs addr n)) := by
  obtain ⟨N, hN⟩ : ∃ N, bs.length = N := ⟨_, rfl⟩
  have c0 := h.cell0
  have H := Lib.hid h
  have n0 : (2048 : Int) ≤ (N : Int) := by have := h.ln; have := h.l0; omega
  have n1 : (N : Int) ≤ 65536 := by have := h.ln; have := h.l1; omega
  rw [hN] at c0
  have HN := Lib.hid hN
  have ltg := H.out.ltg
  clear hN h
  cases hi : sIn N addr n
  · rw [sGet_no HN.out hi]
    go_enter Try.func18, Try.ntmps18
    go_wp2_with (go_at_call 35; refine (in_c _ H.out _ _).mono ?_; rintro e w1 ⟨rfl, rfl⟩; rw [HN.out, hi])
    go_ret
    exact ⟨none, 0, 0, rfl, Own.nil _ _, Below.refl _ _⟩
  obtain ⟨b0, b1, b2, b3⟩ := sIn_yes hi
  obtain ⟨a, rfl⟩ := Int.eq_ofNat_of_zero_le b0
  obtain ⟨k, rfl⟩ := Int.eq_ofNat_of_zero_le b1
  have a0 : (a : Int) ≤ (N : Int) := b2
  have a1 : (a : Int) + (k : Int) ≤ (N : Int) := by omega
  have g0 := Lib.hid (show a + k ≤ bs.length from by rw [HN.out]; omega)
  have lb := H.out.capb
  rw [HN.out] at lb
  have lbb := H.out.maxb
  unfold maxLen at lbb
  have kN : (k : Int) ≤ 1000000 := by omega
  have aN : a ≤ N := by omega
  have kk : k ≤ N - a := by omega
  rw [sGet_yes HN.out hi]
  by_cases hcap : F.cb = a
  · obtain rfl : N = a := by omega
    obtain rfl : k = 0 := by omega
    rw [show ((0 : Nat) : Int) = 0 from rfl] at hi ⊢
    have hmk : ∀ W : World, (Instr.makeSlice 29 (.int .i64 0) (.int .i64 0)).run Try.prog W = .ok (.slice (some ⟨W.heap.size, 0, none⟩) 0 0) (W.alloc (.cells (zeroB 0) 5)) := fun W => run_mk_b 0 (by decide) W
    obtain ⟨w2, hcp, ho, hb⟩ := run_copy_from (H.out.alloc (.cells (zeroB 0) 5)) (own_zeros w 0 w.heap.size (Nat.le_refl _) (by decide)) g0.out (c' := 0) (.inr ⟨rfl, rfl⟩)
    rw [HN.out, Nat.sub_self] at hcp
    have hcp' : (Builtin.copy_ #[29, 29] 3 #[.slice (some ⟨w.heap.size, 0, none⟩) 0 0, .slice (some ⟨F.gb, 0, none⟩) 0 0]).run Try.prog (w.alloc (.cells (zeroB 0) 5)) = .ok (.int .i64 0) w2 := hcp
    have HO := Lib.hid ho
    have HB := Lib.hid hb
    rw [hcap] at c0
    clear ho hb hcp hcap lb lbb
    go_enter Try.func18, Try.ntmps18
    go_wp2_with (go_at_call 35; refine (in_c _ H.out _ _).mono ?_; rintro e w1 ⟨rfl, rfl⟩; rw [HN.out, hi])
    go_ret
    exact ⟨_, _, _, rfl, HO.out, ((Below.refl w.heap.size w).alloc (Nat.le_refl _) _).trans HB.out⟩
  · have hmk := fun W => run_mk_b k kN W
    obtain ⟨w2, hcp, ho, hb⟩ := run_copy_from (H.out.alloc (.cells (zeroB k) 5)) (own_zeros w k w.heap.size (Nat.le_refl _) (by unfold maxLen; omega)) g0.out (c' := F.cb - a) (.inl rfl)
    rw [HN.out] at hcp
    have HO := Lib.hid ho
    have HB := Lib.hid hb
    clear ho hb
    go_enter Try.func18, Try.ntmps18
    go_wp2_with (go_at_call 35; refine (in_c _ H.out _ _).mono ?_; rintro e w1 ⟨rfl, rfl⟩; rw [HN.out, hi])
    go_ret
    exact ⟨_, _, _, rfl, HO.out, ((Below.refl w.heap.size w).alloc (Nat.le_refl _) _).trans HB.out⟩

set_option maxHeartbeats 1000000 in
theorem rbytes_c {F : Foot} {bs ks : List Int} (w : World) (h : St 63 w F bs ks) (addr n : Int) : Calls Try.prog 33 #[.pointer (some ⟨F.g, 0, none⟩), .int .i64 addr, .int .i64 n] w (GivesB w (sGet bs addr n)) := by
  obtain ⟨N, hN⟩ : ∃ N, bs.length = N := ⟨_, rfl⟩
  have c0 := h.cell0
  have H := Lib.hid h
  have n0 : (2048 : Int) ≤ (N : Int) := by have := h.ln; have := h.l0; omega
  have n1 : (N : Int) ≤ 65536 := by have := h.ln; have := h.l1; omega
  rw [hN] at c0
  have HN := Lib.hid hN
  have ltg := H.out.ltg
  clear hN h
  cases hi : sIn N addr n
  · rw [sGet_no HN.out hi]
    go_enter Try.func33, Try.ntmps33
    go_wp2_with (go_at_call 40; refine (rin_c _ H.out _ _).mono ?_; rintro e w1 ⟨rfl, rfl⟩; rw [HN.out, hi])
    go_ret
    exact ⟨none, 0, 0, rfl, Own.nil _ _, Below.refl _ _⟩
  obtain ⟨b0, b1, b2, b3⟩ := sIn_yes hi
  obtain ⟨a, rfl⟩ := Int.eq_ofNat_of_zero_le b0
  obtain ⟨k, rfl⟩ := Int.eq_ofNat_of_zero_le b1
  have a0 : (a : Int) ≤ (N : Int) := b2
  have a1 : (a : Int) + (k : Int) ≤ (N : Int) := by omega
  have g0 := Lib.hid (show a + k ≤ bs.length from by rw [HN.out]; omega)
  have lb := H.out.capb
  rw [HN.out] at lb
  have lbb := H.out.maxb
  unfold maxLen at lbb
  have kN : (k : Int) ≤ 1000000 := by omega
  have aN : a ≤ N := by omega
  have kk : k ≤ N - a := by omega
  rw [sGet_yes HN.out hi]
  by_cases hcap : F.cb = a
  · obtain rfl : N = a := by omega
    obtain rfl : k = 0 := by omega
    rw [show ((0 : Nat) : Int) = 0 from rfl] at hi ⊢
    have HY := Lib.hid (show Byt w (some ⟨F.gb, 0, none⟩) 0 ((bs.drop N).take 0) from ⟨by simp, by simp, fun h => absurd h (by omega)⟩)
    rw [hcap] at c0
    clear hcap lb lbb
    go_enter Try.func33, Try.ntmps33
    go_wp2_with (first | (go_at_call 40; refine (rin_c _ H.out _ _).mono ?_; rintro e w1 ⟨rfl, rfl⟩; rw [HN.out, hi]) | (at_builtin; refine wpList_append_bytes rfl _ _ rfl w.heap.size (.slice (some ⟨w.heap.size, 0, none⟩) 0 0) 0 [] rfl (Own.empty w w.heap.size (Nat.le_refl _)) (some ⟨F.gb, 0, none⟩) 0 0 ((bs.drop N).take 0) rfl (HY.out.keep ((Below.refl _ _).alloc (Nat.le_refl _) _)) (by intro h; cases h) (by omega) (by simp) ?_; intro v' w1 hown hg; rw [Nat.zero_add, List.nil_append] at hown; have HO := Lib.hid hown; have HG := Lib.hid hg; clear hown hg))
    go_ret
    rcases HO.out.form with ⟨h1, h2⟩ | ⟨g, cap, h1, _⟩
    · first | subst h2 | clear h2
      exact ⟨none, 0, 0, by rw [h1]; rfl, by rw [← h1]; exact HO.out, ((Below.refl w.heap.size w).alloc (Nat.le_refl _) _).grown HG.out (by simp) (by intro g hg; simp [Value.ownBlock] at hg; omega)⟩
    · exact ⟨_, _, cap, by rw [h1]; rfl, by rw [← h1]; exact HO.out, ((Below.refl w.heap.size w).alloc (Nat.le_refl _) _).grown HG.out (by simp) (by intro g hg; simp [Value.ownBlock] at hg; omega)⟩
  · have hby := H.out.byt (a := a) (n := k) (by have := g0.out; omega)
    have HY := Lib.hid (show Byt w (some ⟨F.gb, a, none⟩) (a + k - a) ((bs.drop a).take k) from by rw [Nat.add_sub_cancel_left]; exact hby)
    clear hby
    go_enter Try.func33, Try.ntmps33
    go_wp2_with (first | (go_at_call 40; refine (rin_c _ H.out _ _).mono ?_; rintro e w1 ⟨rfl, rfl⟩; rw [HN.out, hi]) | (at_builtin; refine wpList_append_bytes rfl _ _ rfl w.heap.size (.slice (some ⟨w.heap.size, 0, none⟩) 0 0) 0 [] rfl (Own.empty w w.heap.size (Nat.le_refl _)) (some ⟨F.gb, a, none⟩) (a + k - a) (F.cb - a) ((bs.drop a).take k) rfl (HY.out.keep ((Below.refl _ _).alloc (Nat.le_refl _) _)) (by intro h; cases h) (by omega) (by simp) ?_; intro v' w1 hown hg; rw [Nat.zero_add, Nat.add_sub_cancel_left, List.nil_append] at hown; have HO := Lib.hid hown; have HG := Lib.hid hg; clear hown hg))
    go_ret
    rcases HO.out.form with ⟨h1, h2⟩ | ⟨g, cap, h1, _⟩
    · first | subst h2 | clear h2
      exact ⟨none, 0, 0, by rw [h1]; rfl, by rw [← h1]; exact HO.out, ((Below.refl w.heap.size w).alloc (Nat.le_refl _) _).grown HG.out (by simp) (by intro g hg; simp [Value.ownBlock] at hg; omega)⟩
    · exact ⟨_, _, cap, by rw [h1]; rfl, by rw [← h1]; exact HO.out, ((Below.refl w.heap.size w).alloc (Nat.le_refl _) _).grown HG.out (by simp) (by intro g hg; simp [Value.ownBlock] at hg; omega)⟩

end Go.Proofs.Ytcollddpfahaaaa
