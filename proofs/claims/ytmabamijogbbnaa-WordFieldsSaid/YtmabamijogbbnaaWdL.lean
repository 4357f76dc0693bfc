/- CONTRACTS of lent and kept, which the statement WordFields calls. Conditions: the slices read as bytes; at most 4096 of them. -/
import Derived.Test.YtmabamijogbbnaaWdK
namespace Go.Proofs.Ytmabamijogbbnaa
open Go.RowKit
set_option linter.unusedVariables false

theorem replicate_snoc (k : Nat) : List.replicate (k + 1) (7 : Int) = List.replicate k 7 ++ [7] := by rw [List.replicate_succ']

set_option maxHeartbeats 1000000 in
theorem lent_c (A : Option Addr) (len cap : Nat) (zs : List Int) (w : World) (hl : len ≤ 4096) (hb : Byt w A len zs) (hA : A = none → cap = 0) :
    Calls Try.prog 34 #[.slice A len cap] w fun e w' => ∃ v, e = .returned v ∧ Own w' w.heap.size v (len + 8) (zs ++ List.replicate 8 7) ∧ Below w.heap.size w w' := by
  have HB := Lib.hid hb
  have HA := Lib.hid hA
  clear hb hA
  go_enter Try.func34, Try.ntmps34
  go_wp2_with (at_builtin; refine wpList_append_bytes rfl _ _ rfl w.heap.size _ 0 [] rfl (Own.empty w _ (Nat.le_refl _)) A len cap zs rfl (HB.out.keep ((Below.refl _ _).alloc (Nat.le_refl _) _)) HA.out (by omega) (by simp) ?_; intro v' w1 hown hg; simp only [Nat.zero_add, List.nil_append] at hown; have HO := Lib.hid hown; have HX := Lib.hid (((Below.refl w.heap.size w).alloc (Nat.le_refl _) _).grown hg (by simp) (by intro k hk; have : some w.heap.size = some k := hk; injection this with this; omega)); clear hown hg)
  go_loopw [3, 4] (fun o i wr => ∃ k : Nat, k ≤ 8 ∧ i = .int .i64 k ∧ Own wr w.heap.size o (len + k) (zs ++ List.replicate k 7) ∧ Below w.heap.size w wr) (fun _ i _ => 8 - (intOf i).toNat)
  case atStart => exact ⟨0, Nat.zero_le _, rfl, by simpa using HO.out, HX.out⟩
  case round =>
    obtain ⟨k, hk, rfl, hown, hbl⟩ := hrel
    have HO1 := Lib.hid hown
    have HBl := Lib.hid hbl
    clear hown hbl
    by_cases hlt : k < 8
    · have hsz := HBl.out.size
      go_wp2_with (at_builtin; refine wpList_append_bytes rfl _ _ rfl w.heap.size _ (len + k) (zs ++ List.replicate k 7) rfl (HO1.out.alloc _) (some ⟨wr.heap.size, 0, none⟩) 1 1 [7] rfl (byt_new _ _ (by simp) _ (by simp) _ rfl _) (fun h => nomatch h) (by omega) (by simp; omega) ?_; intro v' w1 hown1 hg1; have HO2 := Lib.hid hown1; have HB1 := Lib.hid ((HBl.out.alloc hsz _).grown hg1 (by simp; omega) (fun g hg => (HO1.out.block g hg).1)); clear hown1 hg1)
      go_roundw
      case rel => exact ⟨k + 1, by omega, by go_num, by rw [replicate_snoc, ← List.append_assoc]; exact HO2.out, HB1.out⟩
      case measure => simp [intOf]; omega
    · obtain rfl : k = 8 := by omega
      go_wp2
      go_ret
      exact ⟨_, rfl, HO1.out, HBl.out⟩

theorem sevens (zs : List Int) (len k : Nat) (h : zs.length = len) (h0 : len ≤ k) (h1 : k < len + 8) : (zs ++ List.replicate 8 7).getD k 0 = 7 := by
  rw [List.getD_eq_getElem?_getD, List.getElem?_append_right (by omega), List.getElem?_replicate, if_pos (by omega)]; rfl

set_option maxHeartbeats 1000000 in
theorem kept_c (b off cap : Nat) (A : Option Addr) (len cap' : Nat) (zs : List Int) (w : World) (hl : len ≤ 4096) (hcap : len + 8 ≤ cap) (hcap2 : (cap : Int) ≤ 9223372036854775807) (ha : Byt w (some ⟨b, off, none⟩) (len + 8) (zs ++ List.replicate 8 7)) (hb : Byt w A len zs) :
    Calls Try.prog 44 #[.slice (some ⟨b, off, none⟩) (len + 8) cap, .slice A len cap'] w fun e w' => e = .returned (.bool true) ∧ ∃ n, w' = w.drewN n := by
  have HB := Lib.hid hb
  have HA := Lib.hid ha
  have HS := Lib.hid (sevens zs len · hb.1)
  have hcells : ∀ i, i < len + 8 → w.cell? ⟨b, off + i, none⟩ = some (.int .u8 ((zs ++ List.replicate 8 7).getD i 0)) := by
    obtain ⟨b', off', e, hc⟩ := ha.2.2 (by omega)
    injection e with e; injection e with e1 e2; subst e1 e2
    exact hc
  have HC := Lib.hid hcells
  have HP := Lib.hid (show Byt w (some ⟨b, off, none⟩) len zs from by have := ha.pre len (by omega); rwa [List.take_left' hb.1] at this)
  clear ha hb hcells
  go_enter Try.func44, Try.ntmps44
  go_wp2_with fail
  go_loop [4, 5] (fun r i => ∃ k : Nat, len ≤ k ∧ k ≤ len + 8 ∧ i = .int .i64 k) (fun _ i => len + 8 - (intOf i).toNat)
  case atStart => exact ⟨len, Nat.le_refl _, by omega, rfl⟩
  case round =>
    obtain ⟨k, hk0, hk, rfl⟩ := hrel
    by_cases hlt : k < len + 8
    · have c1 := HC.out k hlt
      rw [HS.out k hk0 hlt] at c1
      have k1 : (k : Int) < (len : Int) + 8 := by omega
      go_wp2_with fail
      go_round
      case rel => exact ⟨k + 1, by omega, by omega, by go_num⟩
      case measure => simp [intOf]; omega
    · obtain rfl : k = len + 8 := by omega
      go_wp2_with (go_at_call 43; refine (same_c (some ⟨b, off, none⟩) len cap zs A len cap' zs _ HP.out HB.out (by omega) (by omega)).mono ?_; rintro e w' ⟨rfl, n, rfl⟩)
      go_ret
      exact ⟨by simp, _, rfl⟩
end Go.Proofs.Ytmabamijogbbnaa
