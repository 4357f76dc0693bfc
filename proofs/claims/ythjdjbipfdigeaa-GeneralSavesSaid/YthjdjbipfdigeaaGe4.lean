/- CONTRACTS of the machine's methods on the way of AR. No conditions but the machine's form. -/
import Derived.Test.YthjdjbipfdigeaaGe3
import Derived.Test.YthjdjbipfdigeaaWdC1
import Derived.Test.YthjdjbipfdigeaaRg
import Derived.Deep.RegionHeld3
namespace Go.Proofs.Ythjdjbipfdigeaa
open Go.RowKit
set_option linter.unusedVariables false
set_option linter.unusedSimpArgs false
set_option maxRecDepth 1000000 in
set_option maxHeartbeats 4000000 in
theorem operand_rr (g n : Nat) (is os rs : List Int) (ps : List Value) (s : Value) (ov : Bool) (w : World) (hm : Mc w g is os rs ps s ov) (hf : is.getD 1 0 = 1) (hn : is.getD 3 0 = (n : Int)) (hn16 : n < 16) : Calls Try.prog 85 #[.pointer (some ⟨g, 0, none⟩)] w fun e w' => e = .returned (.int .u32 (os.getD n 0)) ∧ ∃ d, w' = w.drewN d := by
  have c0 := hm.ci (c := 0) (by omega)
  have c1 := hm.ci (c := 1) (by omega)
  have c3 := hm.ci (c := 3) (by omega)
  rw [hf] at c1
  rw [hn] at c3
  have c4 := hm.co hn16
  have i0 : (n : Int) < 16 := by omega
  have i1 : (0 : Int) ≤ (n : Int) := by omega
  clear hm hn hf
  go_enter Try.func85, Try.ntmps85
  go_upto_region 4 with fail
  go_region
  go_wp2
  go_ret
  exact ⟨by rfl, 1, rfl⟩
set_option maxRecDepth 1000000 in
set_option maxHeartbeats 4000000 in
theorem arith_ar (g n m : Nat) (is os rs : List Int) (ps : List Value) (s : Value) (ov : Bool) (w : World) (hm : Mc w g is os rs ps s ov) (h0 : is.getD 0 0 = 26) (hf : is.getD 1 0 = 1) (hn : is.getD 2 0 = (n : Int)) (hn16 : n < 16) (hk : is.getD 3 0 = (m : Int)) (hk16 : m < 16) (ro : ∀ z ∈ os, 0 ≤ z ∧ z ≤ 4294967295) : Calls Try.prog 48 #[.pointer (some ⟨g, 0, none⟩)] w fun e w' => e = .returned (.tuple #[]) ∧ Mc w' g is os (rs.set n (lo32 (sg (os.getD n 0) + sg (os.getD m 0)))) (ps.set 7 (.int .i64 (rcc (sg (os.getD n 0) + sg (os.getD m 0))))) s (ovf (sg (os.getD n 0) + sg (os.getD m 0))) ∧ Ch w w' [g] := by
  have c0 := hm.ci (c := 0) (by omega)
  rw [h0] at c0
  have c2 := hm.ci (c := 2) (by omega)
  rw [hn] at c2
  have c4 := hm.co hn16
  have i0 : (n : Int) < 16 := by omega
  have i1 : (0 : Int) ≤ (n : Int) := by omega
  have HM := Lib.hid hm
  have OC := Lib.hid (fun W (h : Mc W g is os rs ps s ov) => operand_rr g m is os rs ps s ov W h hf hk hk16)
  have HN := Lib.hid hn
  have H26 := Lib.hid h0
  obtain ⟨a, ha⟩ : ∃ a, os.getD n 0 = a := ⟨_, rfl⟩
  obtain ⟨b, hb⟩ : ∃ b, os.getD m 0 = b := ⟨_, rfl⟩
  have ra : 0 ≤ a ∧ a ≤ 4294967295 := by rw [← ha, List.getD_eq_getElem?_getD, List.getElem?_eq_getElem (by have := hm.2.2.1; omega)]; exact ro _ (List.getElem_mem _)
  have rb : 0 ≤ b ∧ b ≤ 4294967295 := by rw [← hb, List.getD_eq_getElem?_getD, List.getElem?_eq_getElem (by have := hm.2.2.1; omega)]; exact ro _ (List.getElem_mem _)
  rw [ha] at c4
  rw [ha, hb]
  simp only [hb] at OC
  have HA := Lib.hid ha
  clear hm h0 hf hn hk ro hb ha
  go_enter Try.func48, Try.ntmps48
  go_upto_region 6 with fail
  clear c0 c2 c4
  refine wp_region_held_drew (S := (fun w' => Mc w' g is os rs ps s ov ∧ Ch w w' [g])) (by kernel_rfl) ?_ (fun hHeld => ?_)
  · (try dsimp only); exact ⟨HM.out.drewN 1, (Ch.refl _ _).drewN 1⟩
  refine' takeL (i := 0) (v := _) rfl (by kernel_rfl) (by kernel_rfl) (by kernel_rfl) (fun _ _ _ h => h) (Or.inl ⟨by rfl, ?yy1⟩) (by assumption) ?rr1
  case yy1 => intro w hSw; (try dsimp only at hSw); go_simp; (try with_reducible rfl)
  try simp only [Act.put, List.setIfInBounds_toArray, List.set_cons_zero, List.set_cons_succ]
  refine' takeL (i := 1) (v := _) rfl (by kernel_rfl) (by kernel_rfl) (by kernel_rfl) (fun _ _ _ h => h) (Or.inl ⟨by rfl, ?yy2⟩) (by assumption) ?rr2
  case yy2 => intro w hSw; (try dsimp only at hSw); go_simp; (try with_reducible rfl)
  try simp only [Act.put, List.setIfInBounds_toArray, List.set_cons_zero, List.set_cons_succ]
  refine' takeL (i := 2) (v := _) rfl (by kernel_rfl) (by kernel_rfl) (by kernel_rfl) (fun _ _ _ h => h) (Or.inl ⟨by rfl, ?yy3⟩) (by assumption) ?rr3
  case yy3 => intro w hSw; (try dsimp only at hSw); go_simp; (try with_reducible rfl)
  try simp only [Act.put, List.setIfInBounds_toArray, List.set_cons_zero, List.set_cons_succ]
  refine' takeL (i := 3) (v := _) rfl (by kernel_rfl) (by kernel_rfl) (by kernel_rfl) (fun _ _ _ h => h) (Or.inl ⟨by rfl, ?yy4⟩) (by assumption) ?rr4
  case yy4 => intro w hSw; (try dsimp only at hSw); go_simp; (try with_reducible rfl)
  try simp only [Act.put, List.setIfInBounds_toArray, List.set_cons_zero, List.set_cons_succ]
  refine' takeL (i := 4) (v := _) rfl (by kernel_rfl) (by kernel_rfl) (by kernel_rfl) (fun _ _ _ h => h) (Or.inl ⟨by rfl, ?yy5⟩) (by assumption) ?rr5
  case yy5 => intro w hSw; (try dsimp only at hSw); go_simp; (try with_reducible rfl)
  try simp only [Act.put, List.setIfInBounds_toArray, List.set_cons_zero, List.set_cons_succ]
  refine' takeL (i := 5) (v := .int .i64 (n : Int)) rfl (by kernel_rfl) (by kernel_rfl) (by kernel_rfl) (fun _ _ _ h => h) (Or.inl ⟨by rfl, ?yy6⟩) (by assumption) ?rr6
  case yy6 => intro w hSw; (try dsimp only at hSw); have hc := hSw.1.ci (c := 2) (by omega); rw [HN.out] at hc; go_simp; (try with_reducible rfl)
  try simp only [Act.put, List.setIfInBounds_toArray, List.set_cons_zero, List.set_cons_succ]
  refine' takeL (i := 6) (v := _) rfl (by kernel_rfl) (by kernel_rfl) (by kernel_rfl) (fun _ _ _ h => h) (Or.inl ⟨by rfl, ?yy7⟩) (by assumption) ?rr7
  case yy7 => intro w hSw; (try dsimp only at hSw); go_simp; (try with_reducible rfl)
  try simp only [Act.put, List.setIfInBounds_toArray, List.set_cons_zero, List.set_cons_succ]
  refine' takeL (i := 7) (v := _) rfl (by kernel_rfl) (by kernel_rfl) (by kernel_rfl) (fun _ _ _ h => h) (Or.inl ⟨by rfl, ?yy8⟩) (by assumption) ?rr8
  case yy8 => intro w hSw; (try dsimp only at hSw); go_simp; (try with_reducible rfl)
  try simp only [Act.put, List.setIfInBounds_toArray, List.set_cons_zero, List.set_cons_succ]
  refine' takeL (i := 8) (v := _) rfl (by kernel_rfl) (by kernel_rfl) (by kernel_rfl) (fun _ _ _ h => h) (Or.inl ⟨by rfl, ?yy9⟩) (by assumption) ?rr9
  case yy9 => intro w hSw; (try dsimp only at hSw); go_simp; (try with_reducible rfl)
  try simp only [Act.put, List.setIfInBounds_toArray, List.set_cons_zero, List.set_cons_succ]
  refine' takeL (i := 9) (v := .int .u32 a) rfl (by kernel_rfl) (by kernel_rfl) (by kernel_rfl) (fun _ _ _ h => h) (Or.inl ⟨by rfl, ?yy10⟩) (by assumption) ?rr10
  case yy10 => intro w hSw; (try dsimp only at hSw); have hc := hSw.1.co hn16; rw [HA.out] at hc; go_simp; (try with_reducible rfl)
  try simp only [Act.put, List.setIfInBounds_toArray, List.set_cons_zero, List.set_cons_succ]
  refine' takeL (i := 10) (v := _) rfl (by kernel_rfl) (by kernel_rfl) (by kernel_rfl) (fun _ _ _ h => h) (Or.inl ⟨by rfl, ?yy11⟩) (by assumption) ?rr11
  case yy11 => intro w hSw; (try dsimp only at hSw); go_simp; (try with_reducible rfl)
  try simp only [Act.put, List.setIfInBounds_toArray, List.set_cons_zero, List.set_cons_succ]
  refine wpAnyH_ready (rs := [11]) (by kernel_rfl) (by simp) ?_
  refine consL rfl (fun K hK => ?_) AllReadyH.nil
  go_simp
  go_at_call 85
  refine (OC.out _ hHeld.1).mono ?_
  rintro e w5 ⟨rfl, d5, hw5⟩
  have BX := Lib.hid (show ((fun w' => Mc w' g is os rs ps s ov ∧ Ch w w' [g])) w5 from by rw [hw5]; exact ⟨hHeld.1.drewN d5, hHeld.2.drewN d5⟩)
  clear hHeld hw5
  go_wp2_with fail
  refine hK.out _ _ ?_ (fun hHeld => ?_)
  · (try dsimp only); exact BX.out
  clear hK K
  try simp only [Act.put, List.setIfInBounds_toArray, List.set_cons_zero, List.set_cons_succ]
  refine' takeL (i := 12) (v := _) rfl (by kernel_rfl) (by kernel_rfl) (by kernel_rfl) (fun _ _ _ h => h) (Or.inl ⟨by rfl, ?yy12⟩) (by assumption) ?rr12
  case yy12 => intro w hSw; (try dsimp only at hSw); go_simp; (try with_reducible rfl)
  try simp only [Act.put, List.setIfInBounds_toArray, List.set_cons_zero, List.set_cons_succ]
  refine' takeL (i := 13) (v := _) rfl (by kernel_rfl) (by kernel_rfl) (by kernel_rfl) (fun _ _ _ h => h) (Or.inl ⟨by rfl, ?yy13⟩) (by assumption) ?rr13
  case yy13 => intro w hSw; (try dsimp only at hSw); go_simp; (try with_reducible rfl)
  try simp only [Act.put, List.setIfInBounds_toArray, List.set_cons_zero, List.set_cons_succ]
  refine wpAnyH_done (by kernel_rfl) ?_ _
  obtain ⟨hM, hC⟩ := hHeld
  have c0' := hM.ci (c := 0) (by omega)
  rw [H26.out] at c0'
  have AC := Lib.hid (fun W => add_c a b ra.1 ra.2 rb.1 rb.2 W)
  have HMM := Lib.hid hM
  have HCC := Lib.hid hC
  clear hM hC
  go_wp2_with (first
    | (go_at_call 87; refine (AC.out _).mono ?_; rintro e w2 ⟨rfl, hw2⟩; subst hw2)
    | (go_at_call 58; refine (set_c g n _ _ _ is os rs ps s ov _ HMM.out HN.out hn16).mono ?_; rintro e w3 ⟨rfl, hM3, hC3⟩; have HM3 := Lib.hid hM3; have HC3 := Lib.hid hC3; clear hM3 hC3))
  go_end0
  exact ⟨by rfl, HM3.out, HCC.out.trans HC3.out⟩
end Go.Proofs.Ythjdjbipfdigeaa
