/- CONTRACTS of package store and its reference: Put, Fetch. No conditions but that the storage reads as one. -/
import Derived.Test.YthjdjbipfdigeaaSt6
import Derived.StillTailTactics
import Derived.Lib.Hide
import Derived.Outline
import Derived.Handy
import Derived.BigQuiet
import Derived.Deep.QuietTactic
namespace Go.Proofs.Ythjdjbipfdigeaa
open Go.RowKit
set_option maxRecDepth 100000
set_option linter.unusedVariables false
set_option linter.unusedSimpArgs false

theorem own_mono {w : World} {b b' n : Nat} {v : Value} {zs : List Int} (h : Own w b v n zs) (hb : b' ≤ b) : Own w b' v n zs := by
  refine ⟨⟨h.1.1, ?_⟩, h.2⟩
  rcases h.1.2 with h0 | ⟨g, cap, cur, h1, h2, h3⟩
  · exact .inl h0
  · exact .inr ⟨g, cap, cur, h1, Nat.le_trans hb h2, h3⟩

set_option maxHeartbeats 2000000 in
theorem put_c {F : Foot} {bs ks : List Int} (w : World) (h : St 71 w F bs ks) (addr key : Int) (A : Option Addr) (len cap : Nat) (ys : List Int) (hy : Byt w A len ys) (hl : (len : Int) ≤ 9223372036854775807) : Calls Try.prog 16 #[.pointer (some ⟨F.g, 0, none⟩), .int .i64 addr, .slice A len cap, .int .i64 key] w fun e w' => e = .returned (.int .i64 (sCode (alP key) bs.length ks addr len)) ∧ St 71 w' F (sPut (alP key) bs ks addr ys) ks ∧ w.grownBy w' (some F.gb) := by
  have H := Lib.hid h
  have HY := Lib.hid hy
  have HL := Lib.hid hy.1
  clear hy h
  obtain ⟨N, hN⟩ : ∃ N, bs.length = N := ⟨_, rfl⟩
  have n1 : (N : Int) ≤ 65536 := by have := H.out.ln; have := H.out.l1; omega
  have HN := Lib.hid hN
  clear hN
  obtain ⟨r, hr⟩ : ∃ r, sCode (alP key) bs.length ks addr len = r := ⟨_, rfl⟩
  rw [hr]
  have HR := Lib.hid hr
  by_cases h0 : r = 0
  · subst h0
    have hin := sCode_zero hr
    rw [HN.out] at hin
    obtain ⟨b0, b1, b2, b3⟩ := sIn_yes hin
    obtain ⟨a, rfl⟩ := Int.eq_ofNat_of_zero_le b0
    have g0 := Lib.hid (show a + len ≤ bs.length from by rw [HN.out]; omega)
    have a0 : (a : Int) ≤ (N : Int) := by omega
    have hp := Lib.hid (show sPut (alP key) bs ks (a : Int) ys = splice bs a ys from by unfold sPut; rw [HL.out, hr, if_pos rfl]; simp)
    have lb := H.out.capb
    rw [HN.out] at lb
    have lbb := H.out.maxb
    unfold maxLen at lbb
    have aN : a ≤ N := by omega
    clear hr hin
    go_enter Try.func16, Try.ntmps16
    go_wp2_with fail
    refine (check_p (F := F) (bs := bs) (ks := ks) _ _ key w.heap.size _ (H.out.alloc _) (by simp)).mono ?_
    rintro e w1 ⟨rfl, hb⟩
    rw [HR.out]
    have HB1 := Lib.hid (show Below w.heap.size w w1 from ((Below.refl w.heap.size w).alloc (Nat.le_refl _) _).trans (hb.mono (by simp)))
    have ST1 := Lib.hid ((H.out.alloc (.cells #[.int .i64 key] 3)).belowS hb)
    clear hb
    have e0 := ST1.out.cell0
    rw [HN.out] at e0
    by_cases hcap : F.cb = a
    · obtain rfl : N = a := by omega
      obtain rfl : len = 0 := by omega
      obtain ⟨w2, hcp, hs, hg⟩ := run_copy_to ST1.out (by decide) (HY.out.keep HB1.out) g0.out (X := some ⟨F.gb, 0, none⟩) (c := cap) (dc := 0) (.inr ⟨rfl, rfl⟩)
      rw [HN.out, Nat.sub_self] at hcp
      have hcp' : (Builtin.copy_ #[31, 31] 3 #[.slice (some ⟨F.gb, 0, none⟩) 0 0, .slice A 0 cap]).run Try.prog w1 = .ok (.int .i64 0) w2 := hcp
      rw [hcap] at e0
      have HS := Lib.hid hs
      have HG := Lib.hid hg
      clear hs hg hcp hcap lb lbb
      go_wp2
      go_ret
      exact ⟨rfl, by rw [hp.out]; exact HS.out, grown_trans (grown_of_below HB1.out _) HG.out⟩
    · obtain ⟨w2, hcp, hs, hg⟩ := run_copy_to ST1.out (by decide) (HY.out.keep HB1.out) g0.out (X := some ⟨F.gb, a, none⟩) (c := cap) (dc := F.cb - a) (.inl rfl)
      rw [HN.out] at hcp
      have HS := Lib.hid hs
      have HG := Lib.hid hg
      clear hs hg
      go_wp2
      go_ret
      exact ⟨rfl, by rw [hp.out]; exact HS.out, grown_trans (grown_of_below HB1.out _) HG.out⟩
  · have e0 : (r == 0) = false := by simpa using h0
    have hp := Lib.hid (show sPut (alP key) bs ks addr ys = bs from by unfold sPut; rw [HL.out, hr, if_neg h0])
    clear hr h0
    go_enter Try.func16, Try.ntmps16
    go_wp2_with (go_at_call 32; refine (check_p (F := F) (bs := bs) (ks := ks) _ _ key w.heap.size _ (H.out.alloc _) (by simp)).mono ?_; rintro e w1 ⟨rfl, hb⟩; rw [HR.out]; have HB1 := Lib.hid (show Below w.heap.size w w1 from ((Below.refl w.heap.size w).alloc (Nat.le_refl _) _).trans (hb.mono (by simp))); have ST1 := Lib.hid ((H.out.alloc (.cells #[.int .i64 key] 3)).belowS hb); clear hb)
    go_ret
    exact ⟨rfl, by rw [hp.out]; exact ST1.out, grown_of_below HB1.out _⟩

set_option maxHeartbeats 1000000 in
theorem fetch_c {F : Foot} {bs ks : List Int} (w : World) (h : St 71 w F bs ks) (addr n key : Int) : Calls Try.prog 100 #[.pointer (some ⟨F.g, 0, none⟩), .int .i64 addr, .int .i64 n, .int .i64 key] w (GivesC w (sFet (alF key) bs ks addr n) (sCode (alF key) bs.length ks addr n)) := by
  have H := Lib.hid h
  clear h
  obtain ⟨r, hr⟩ : ∃ r, sCode (alF key) bs.length ks addr n = r := ⟨_, rfl⟩
  by_cases h0 : r = 0
  · subst h0
    have hf := Lib.hid (show sFet (alF key) bs ks addr n = sGet bs addr n from by unfold sFet; rw [hr, if_pos rfl])
    rw [hf.out, hr]
    have HR := Lib.hid hr
    clear hr
    go_enter Try.func100, Try.ntmps100
    go_wp2_with (first | (go_at_call 32; refine (check_f (F := F) (bs := bs) (ks := ks) _ _ key w.heap.size _ (H.out.alloc _) (by simp)).mono ?_; rintro e w1 ⟨rfl, hb⟩; rw [HR.out]; have HB1 := Lib.hid (show Below w.heap.size w w1 from ((Below.refl w.heap.size w).alloc (Nat.le_refl _) _).trans (hb.mono (by simp))); have ST1 := Lib.hid ((H.out.alloc (.cells #[.int .i64 key] 3)).belowS hb); clear hb) | (go_at_call 19; refine (bytes_c _ ST1.out _ _).mono ?_; rintro e w2 ⟨A, m, cap, rfl, ho, hb⟩; have HO := Lib.hid ho; have HB := Lib.hid hb; clear ho hb))
    go_ret2
    exact ⟨A, m, cap, rfl, own_mono HO.out HB1.out.size, HB1.out.trans (HB.out.mono HB1.out.size)⟩
  · have e0 : (r != 0) = true := by simpa using h0
    have hf := Lib.hid (show sFet (alF key) bs ks addr n = [] from by unfold sFet; rw [hr, if_neg h0])
    rw [hf.out, hr]
    have HR := Lib.hid hr
    clear hr h0
    go_enter Try.func100, Try.ntmps100
    go_wp2_with (go_at_call 32; refine (check_f (F := F) (bs := bs) (ks := ks) _ _ key w.heap.size _ (H.out.alloc _) (by simp)).mono ?_; rintro e w1 ⟨rfl, hb⟩; rw [HR.out]; have HB1 := Lib.hid (show Below w.heap.size w w1 from ((Below.refl w.heap.size w).alloc (Nat.le_refl _) _).trans (hb.mono (by simp))); have ST1 := Lib.hid ((H.out.alloc (.cells #[.int .i64 key] 3)).belowS hb); clear hb)
    go_ret2
    exact ⟨none, 0, 0, rfl, Own.nil _ _, HB1.out⟩

end Go.Proofs.Ythjdjbipfdigeaa
