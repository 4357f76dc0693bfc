/- Contracts and laws on the way to the statement, text 3 of 25. Conditions: as each states them. -/
import Derived.Test.YthjdjbipfdigeaaCg1
import Derived.Test.YthjdjbipfdigeaaCg2
import Derived.Deep.RegionHeld3
import Derived.LoopNIn
import Derived.Below
import Derived.Deep.Draws
import Derived.Test.YthjdjbipfdigeaaProg
import Derived.Laws.CopyOwn
import Derived.Laws.MakeOwn
import Derived.Lib.Hide
import Derived.Outline
import Derived.Handy
import Derived.BigQuiet
import Derived.Deep.QuietTactic
import Derived.Lib.SliceRun
import Derived.Laws.IdiomCopy
namespace Go.Proofs.Ythjdjbipfdigeaa
open Go.RowKit
set_option linter.unusedVariables false
set_option linter.unusedSimpArgs false
set_option maxRecDepth 1000000 in
set_option maxHeartbeats 4000000 in
theorem operand_rr (g n : Nat) (is os rs : List Int) (ps : List Value) (s : Value) (ov : Bool) (w : World) (hm : Mc w g is os rs ps s ov) (hf : is.getD 1 0 = 1) (hn : is.getD 3 0 = (n : Int)) (hn16 : n < 16) : Calls Try.prog 85 #[.pointer (some ⟨g, 0, none⟩)] w fun e w' => e = .returned (.int .u32 (os.getD n 0)) ∧ ∃ d, w' = w.drewN d := by
  have c0 := hm.ci (c := 0) (by omega)
  have c1 := hm.ci (c := 1) (by omega)
  have c3 := hm.ci (c := 3) (by omega)
  rw [hf] at c1
  rw [hn] at c3
  have c4 := hm.co hn16
  have i0 : (n : Int) < 16 := by omega
  have i1 : (0 : Int) ≤ (n : Int) := by omega
  clear hm hn hf
  go_enter Try.func85, Try.ntmps85
  go_upto_region 4 with fail
  go_region
  go_wp2
  go_ret
  exact ⟨by rfl, 1, rfl⟩
set_option maxRecDepth 1000000 in
set_option maxHeartbeats 4000000 in
theorem arith_ar (g n m : Nat) (is os rs : List Int) (ps : List Value) (s : Value) (ov : Bool) (w : World) (hm : Mc w g is os rs ps s ov) (h0 : is.getD 0 0 = 26) (hf : is.getD 1 0 = 1) (hn : is.getD 2 0 = (n : Int)) (hn16 : n < 16) (hk : is.getD 3 0 = (m : Int)) (hk16 : m < 16) (ro : ∀ z ∈ os, 0 ≤ z ∧ z ≤ 4294967295) : Calls Try.prog 48 #[.pointer (some ⟨g, 0, none⟩)] w fun e w' => e = .returned (.tuple #[]) ∧ Mc w' g is os (rs.set n (lo32 (sg (os.getD n 0) + sg (os.getD m 0)))) (ps.set 7 (.int .i64 (rcc (sg (os.getD n 0) + sg (os.getD m 0))))) s (ovf (sg (os.getD n 0) + sg (os.getD m 0))) ∧ Ch w w' [g] := by
  have c0 := hm.ci (c := 0) (by omega)
  rw [h0] at c0
  have c2 := hm.ci (c := 2) (by omega)
  rw [hn] at c2
  have c4 := hm.co hn16
  have i0 : (n : Int) < 16 := by omega
  have i1 : (0 : Int) ≤ (n : Int) := by omega
  have HM := Lib.hid hm
  have OC := Lib.hid (fun W (h : Mc W g is os rs ps s ov) => operand_rr g m is os rs ps s ov W h hf hk hk16)
  have HN := Lib.hid hn
  have H26 := Lib.hid h0
  obtain ⟨a, ha⟩ : ∃ a, os.getD n 0 = a := ⟨_, rfl⟩
  obtain ⟨b, hb⟩ : ∃ b, os.getD m 0 = b := ⟨_, rfl⟩
  have ra : 0 ≤ a ∧ a ≤ 4294967295 := by rw [← ha, List.getD_eq_getElem?_getD, List.getElem?_eq_getElem (by have := hm.2.2.1; omega)]; exact ro _ (List.getElem_mem _)
  have rb : 0 ≤ b ∧ b ≤ 4294967295 := by rw [← hb, List.getD_eq_getElem?_getD, List.getElem?_eq_getElem (by have := hm.2.2.1; omega)]; exact ro _ (List.getElem_mem _)
  rw [ha] at c4
  rw [ha, hb]
  simp only [hb] at OC
  have HA := Lib.hid ha
  clear hm h0 hf hn hk ro hb ha
  go_enter Try.func48, Try.ntmps48
  go_upto_region 6 with fail
  clear c0 c2 c4
  refine wp_region_held_drew (S := (fun w' => Mc w' g is os rs ps s ov ∧ Ch w w' [g])) (by kernel_rfl) ?_ (fun hHeld => ?_)
  · (try dsimp only); exact ⟨HM.out.drewN 1, (Ch.refl _ _).drewN 1⟩
  refine' takeL (i := 0) (v := _) rfl (by kernel_rfl) (by kernel_rfl) (by kernel_rfl) (fun _ _ _ h => h) (Or.inl ⟨by rfl, ?yy1⟩) (by assumption) ?rr1
  case yy1 => intro w hSw; (try dsimp only at hSw); go_simp; (try with_reducible rfl)
  try simp only [Act.put, List.setIfInBounds_toArray, List.set_cons_zero, List.set_cons_succ]
  refine' takeL (i := 1) (v := _) rfl (by kernel_rfl) (by kernel_rfl) (by kernel_rfl) (fun _ _ _ h => h) (Or.inl ⟨by rfl, ?yy2⟩) (by assumption) ?rr2
  case yy2 => intro w hSw; (try dsimp only at hSw); go_simp; (try with_reducible rfl)
  try simp only [Act.put, List.setIfInBounds_toArray, List.set_cons_zero, List.set_cons_succ]
  refine' takeL (i := 2) (v := _) rfl (by kernel_rfl) (by kernel_rfl) (by kernel_rfl) (fun _ _ _ h => h) (Or.inl ⟨by rfl, ?yy3⟩) (by assumption) ?rr3
  case yy3 => intro w hSw; (try dsimp only at hSw); go_simp; (try with_reducible rfl)
  try simp only [Act.put, List.setIfInBounds_toArray, List.set_cons_zero, List.set_cons_succ]
  refine' takeL (i := 3) (v := _) rfl (by kernel_rfl) (by kernel_rfl) (by kernel_rfl) (fun _ _ _ h => h) (Or.inl ⟨by rfl, ?yy4⟩) (by assumption) ?rr4
  case yy4 => intro w hSw; (try dsimp only at hSw); go_simp; (try with_reducible rfl)
  try simp only [Act.put, List.setIfInBounds_toArray, List.set_cons_zero, List.set_cons_succ]
  refine' takeL (i := 4) (v := _) rfl (by kernel_rfl) (by kernel_rfl) (by kernel_rfl) (fun _ _ _ h => h) (Or.inl ⟨by rfl, ?yy5⟩) (by assumption) ?rr5
  case yy5 => intro w hSw; (try dsimp only at hSw); go_simp; (try with_reducible rfl)
  try simp only [Act.put, List.setIfInBounds_toArray, List.set_cons_zero, List.set_cons_succ]
  refine' takeL (i := 5) (v := .int .i64 (n : Int)) rfl (by kernel_rfl) (by kernel_rfl) (by kernel_rfl) (fun _ _ _ h => h) (Or.inl ⟨by rfl, ?yy6⟩) (by assumption) ?rr6
  case yy6 => intro w hSw; (try dsimp only at hSw); have hc := hSw.1.ci (c := 2) (by omega); rw [HN.out] at hc; go_simp; (try with_reducible rfl)
  try simp only [Act.put, List.setIfInBounds_toArray, List.set_cons_zero, List.set_cons_succ]
  refine' takeL (i := 6) (v := _) rfl (by kernel_rfl) (by kernel_rfl) (by kernel_rfl) (fun _ _ _ h => h) (Or.inl ⟨by rfl, ?yy7⟩) (by assumption) ?rr7
  case yy7 => intro w hSw; (try dsimp only at hSw); go_simp; (try with_reducible rfl)
  try simp only [Act.put, List.setIfInBounds_toArray, List.set_cons_zero, List.set_cons_succ]
  refine' takeL (i := 7) (v := _) rfl (by kernel_rfl) (by kernel_rfl) (by kernel_rfl) (fun _ _ _ h => h) (Or.inl ⟨by rfl, ?yy8⟩) (by assumption) ?rr8
  case yy8 => intro w hSw; (try dsimp only at hSw); go_simp; (try with_reducible rfl)
  try simp only [Act.put, List.setIfInBounds_toArray, List.set_cons_zero, List.set_cons_succ]
  refine' takeL (i := 8) (v := _) rfl (by kernel_rfl) (by kernel_rfl) (by kernel_rfl) (fun _ _ _ h => h) (Or.inl ⟨by rfl, ?yy9⟩) (by assumption) ?rr9
  case yy9 => intro w hSw; (try dsimp only at hSw); go_simp; (try with_reducible rfl)
  try simp only [Act.put, List.setIfInBounds_toArray, List.set_cons_zero, List.set_cons_succ]
  refine' takeL (i := 9) (v := .int .u32 a) rfl (by kernel_rfl) (by kernel_rfl) (by kernel_rfl) (fun _ _ _ h => h) (Or.inl ⟨by rfl, ?yy10⟩) (by assumption) ?rr10
  case yy10 => intro w hSw; (try dsimp only at hSw); have hc := hSw.1.co hn16; rw [HA.out] at hc; go_simp; (try with_reducible rfl)
  try simp only [Act.put, List.setIfInBounds_toArray, List.set_cons_zero, List.set_cons_succ]
  refine' takeL (i := 10) (v := _) rfl (by kernel_rfl) (by kernel_rfl) (by kernel_rfl) (fun _ _ _ h => h) (Or.inl ⟨by rfl, ?yy11⟩) (by assumption) ?rr11
  case yy11 => intro w hSw; (try dsimp only at hSw); go_simp; (try with_reducible rfl)
  try simp only [Act.put, List.setIfInBounds_toArray, List.set_cons_zero, List.set_cons_succ]
  refine wpAnyH_ready (rs := [11]) (by kernel_rfl) (by simp) ?_
  refine consL rfl (fun K hK => ?_) AllReadyH.nil
  go_simp
  go_at_call 85
  refine (OC.out _ hHeld.1).mono ?_
  rintro e w5 ⟨rfl, d5, hw5⟩
  have BX := Lib.hid (show ((fun w' => Mc w' g is os rs ps s ov ∧ Ch w w' [g])) w5 from by rw [hw5]; exact ⟨hHeld.1.drewN d5, hHeld.2.drewN d5⟩)
  clear hHeld hw5
  go_wp2_with fail
  refine hK.out _ _ ?_ (fun hHeld => ?_)
  · (try dsimp only); exact BX.out
  clear hK K
  try simp only [Act.put, List.setIfInBounds_toArray, List.set_cons_zero, List.set_cons_succ]
  refine' takeL (i := 12) (v := _) rfl (by kernel_rfl) (by kernel_rfl) (by kernel_rfl) (fun _ _ _ h => h) (Or.inl ⟨by rfl, ?yy12⟩) (by assumption) ?rr12
  case yy12 => intro w hSw; (try dsimp only at hSw); go_simp; (try with_reducible rfl)
  try simp only [Act.put, List.setIfInBounds_toArray, List.set_cons_zero, List.set_cons_succ]
  refine' takeL (i := 13) (v := _) rfl (by kernel_rfl) (by kernel_rfl) (by kernel_rfl) (fun _ _ _ h => h) (Or.inl ⟨by rfl, ?yy13⟩) (by assumption) ?rr13
  case yy13 => intro w hSw; (try dsimp only at hSw); go_simp; (try with_reducible rfl)
  try simp only [Act.put, List.setIfInBounds_toArray, List.set_cons_zero, List.set_cons_succ]
  refine wpAnyH_done (by kernel_rfl) ?_ _
  obtain ⟨hM, hC⟩ := hHeld
  have c0' := hM.ci (c := 0) (by omega)
  rw [H26.out] at c0'
  have AC := Lib.hid (fun W => add_c a b ra.1 ra.2 rb.1 rb.2 W)
  have HMM := Lib.hid hM
  have HCC := Lib.hid hC
  clear hM hC
  go_wp2_with (first
    | (go_at_call 87; refine (AC.out _).mono ?_; rintro e w2 ⟨rfl, hw2⟩; subst hw2)
    | (go_at_call 58; refine (set_c g n _ _ _ is os rs ps s ov _ HMM.out HN.out hn16).mono ?_; rintro e w3 ⟨rfl, hM3, hC3⟩; have HM3 := Lib.hid hM3; have HC3 := Lib.hid hC3; clear hM3 hC3))
  go_end0
  exact ⟨by rfl, HM3.out, HCC.out.trans HC3.out⟩
end Go.Proofs.Ythjdjbipfdigeaa

namespace Go.Proofs.Ythjdjbipfdigeaa
open Go.RowKit
set_option maxRecDepth 100000
set_option linter.unusedVariables false
set_option linter.unusedSimpArgs false
/-- what a register adds to an address -/
def baseV (os : List Int) (n : Nat) : Int := if n = 0 then 0 else os.getD n 0
def sumB (os : List Int) : List Nat → Int
  | [] => 0
  | n :: l => baseV os n + sumB os l
theorem sumB_app (os : List Int) : ∀ (l m : List Nat), sumB os (l ++ m) = sumB os l + sumB os m
  | [], m => by simp [sumB]
  | n :: l, m => by simp only [List.cons_append, sumB, sumB_app os l m]; omega
theorem getD_in {os : List Int} (ro : ∀ z ∈ os, 0 ≤ z ∧ z ≤ 4294967295) (n : Nat) : 0 ≤ os.getD n 0 ∧ os.getD n 0 ≤ 4294967295 := by
  rw [List.getD_eq_getElem?_getD]
  rcases Nat.lt_or_ge n os.length with h | h
  · rw [List.getElem?_eq_getElem h]; exact ro _ (List.getElem_mem _)
  · rw [List.getElem?_eq_none h]; exact ⟨by decide, by decide⟩
theorem baseV_in {os : List Int} (ro : ∀ z ∈ os, 0 ≤ z ∧ z ≤ 4294967295) (n : Nat) : 0 ≤ baseV os n ∧ baseV os n ≤ 4294967295 := by
  unfold baseV; split
  · exact ⟨by decide, by decide⟩
  · exact getD_in ro n
theorem sumB_in {os : List Int} (ro : ∀ z ∈ os, 0 ≤ z ∧ z ≤ 4294967295) : ∀ l : List Nat, 0 ≤ sumB os l ∧ sumB os l ≤ 4294967295 * l.length
  | [] => by simp [sumB]
  | n :: l => by
    have h1 := baseV_in ro n
    have h2 := sumB_in ro l
    simp only [sumB, List.length_cons]
    omega
set_option maxRecDepth 1000000 in
set_option maxHeartbeats 4000000 in
theorem address_c (g b : Nat) (d : Int) (ns : List Nat) (cap : Nat) (is os rs : List Int) (ps : List Value) (s : Value) (ov : Bool) (w : World) (hm : Mc w g is os rs ps s ov) (ro : ∀ z ∈ os, 0 ≤ z ∧ z ≤ 4294967295) (hd : 0 ≤ d) (hd' : d ≤ 4095) (hl : ns.length ≤ 2) (hn : ∀ n ∈ ns, n < 16) (hc : ∀ i, i < ns.length → w.cell? ⟨b, i, none⟩ = some (.int .i64 ((ns.getD i 0 : Nat) : Int))) : Calls Try.prog 64 #[.pointer (some ⟨g, 0, none⟩), .int .i64 d, .slice (some ⟨b, 0, none⟩) ns.length cap] w fun e w' => e = .returned (.int .i64 ((d + sumB os ns) % 16777216)) ∧ w = w' := by
  have HM := Lib.hid hm
  have HC := Lib.hid hc
  have HN := Lib.hid hn
  have RO := Lib.hid ro
  obtain ⟨L, hL⟩ : ∃ L, ns.length = L := ⟨_, rfl⟩
  rw [hL] at hl
  have LL := Lib.hid hL
  simp only [hL]
  clear hm hc hn ro hL
  go_enter Try.func64, Try.ntmps64
  go_wp2
  go_loopw [1, 11] (fun dv x wr => ∃ k : Nat, k ≤ L ∧ x = .int .i64 (k : Int) ∧ dv = .int .i64 (d + sumB os (ns.take k)) ∧ wr = w) (fun _ x _ => L - (intOf x).toNat)
  case atStart => exact ⟨0, by omega, rfl, by simp [sumB], rfl⟩
  case round =>
    obtain ⟨k, hk, rfl, rfl, hw⟩ := hrel
    subst hw
    by_cases hlt : k < L
    · have hI : (k : Int) < (L : Int) := by omega
      have c0 := HC.out k (by have := LL.out; omega)
      obtain ⟨n, hn⟩ : ∃ n, ns.getD k 0 = n := ⟨_, rfl⟩
      rw [hn] at c0
      have ht : ns.take (k + 1) = ns.take k ++ [n] := by
        rw [List.take_add_one, ← hn, List.getD_eq_getElem?_getD, List.getElem?_eq_getElem (by have := LL.out; omega)]; rfl
      have hn16 : n < 16 := HN.out n (by rw [← hn, List.getD_eq_getElem?_getD, List.getElem?_eq_getElem (by have := LL.out; omega)]; exact List.getElem_mem _)
      have hs := sumB_in RO.out (ns.take k)
      have hlen : (ns.take k).length = k := by rw [List.length_take]; have := LL.out; omega
      rw [hlen] at hs
      obtain ⟨S, hS⟩ : ∃ S, sumB os (ns.take k) = S := ⟨_, rfl⟩
      rw [hS] at hs ⊢
      have HS := Lib.hid (show sumB os (ns.take (k + 1)) = S + baseV os n from by rw [ht, sumB_app, hS]; simp [sumB])
      have s0 := hs.1
      have s1 : S ≤ 4294967295 * 2 := by have := hs.2; omega
      clear hn ht hs hlen hS
      rcases Nat.eq_zero_or_pos n with h0 | h0
      · subst h0
        have HB := Lib.hid (show sumB os (ns.take (k + 1)) = S from by rw [HS.out]; simp [baseV])
        go_wp2
        exact ⟨⟨k + 1, by omega, rfl, by rw [HB.out], trivial⟩, by simp [intOf]; omega⟩
      · have e0 : ((n : Int) != 0) = true := by simp; omega
        have c1 := HM.out.co hn16
        obtain ⟨v, hv⟩ : ∃ v, os.getD n 0 = v := ⟨_, rfl⟩
        rw [hv] at c1
        have rv : 0 ≤ v ∧ v ≤ 4294967295 := by rw [← hv]; exact getD_in RO.out n
        obtain ⟨v0, v1⟩ := rv
        have HB := Lib.hid (show sumB os (ns.take (k + 1)) = S + v from by rw [HS.out, ← hv]; unfold baseV; rw [if_neg (by omega)])
        have i0 : (n : Int) < 16 := by omega
        have i1 : (0 : Int) ≤ (n : Int) := by omega
        clear hv HS
        go_wp2
        refine ⟨⟨k + 1, by omega, rfl, ?_, trivial⟩, by simp [intOf]; omega⟩
        rw [HB.out]
        go_num
    · obtain rfl : k = L := by omega
      have hs := sumB_in RO.out ns
      have hs2 : (ns.length : Int) ≤ 2 := by have := LL.out; omega
      have ht : ns.take k = ns := by rw [← LL.out]; exact List.take_length
      rw [ht]
      obtain ⟨S, hS⟩ : ∃ S, sumB os ns = S := ⟨_, rfl⟩
      rw [hS] at hs ⊢
      have s0 := hs.1
      have s1 : S ≤ 4294967295 * 2 := by have := hs.2; omega
      have t0 : 0 ≤ d + S := by omega
      clear hs ht
      go_wp2
      go_ret
      exact ⟨by rw [hS]; rfl, rfl⟩
set_option maxRecDepth 1000000 in
set_option maxHeartbeats 4000000 in
theorem second_c (g n0 n1 : Nat) (d : Int) (is os rs : List Int) (ps : List Value) (s : Value) (ov : Bool) (w : World) (hm : Mc w g is os rs ps s ov) (ro : ∀ z ∈ os, 0 ≤ z ∧ z ≤ 4294967295) (hd0 : is.getD 8 0 = d) (hd : 0 ≤ d) (hd' : d ≤ 4095) (hn0 : is.getD 7 0 = (n0 : Int)) (h160 : n0 < 16) (hn1 : is.getD 4 0 = (n1 : Int)) (h161 : n1 < 16) : Calls Try.prog 44 #[.pointer (some ⟨g, 0, none⟩)] w fun e w' => e = .returned (.int .i64 ((d + sumB os [n0, n1]) % 16777216)) ∧ Ch w w' [] := by
  have HM := Lib.hid hm
  have RO := Lib.hid ro
  have HD := Lib.hid hd0
  have HN0 := Lib.hid hn0
  have HN1 := Lib.hid hn1
  clear hm ro hd0 hn0 hn1
  go_enter Try.func44, Try.ntmps44
  go_upto_region 1 with fail
  refine wp_region_held_drew (S := (fun w' => Mc w' g is os rs ps s ov ∧ Ch w w' [])) (by kernel_rfl) ?_ (fun hHeld => ?_)
  · (try dsimp only); exact ⟨HM.out.drewN 1, (Ch.refl _ _).drewN 1⟩
  refine' takeL (i := 0) (v := _) rfl (by kernel_rfl) (by kernel_rfl) (by kernel_rfl) (fun _ _ _ h => h) (Or.inl ⟨by rfl, ?yy1⟩) (by assumption) ?rr1
  case yy1 => intro w hSw; (try dsimp only at hSw); go_simp; (try with_reducible rfl)
  try simp only [Act.put, List.setIfInBounds_toArray, List.set_cons_zero, List.set_cons_succ]
  refine' takeL (i := 1) (v := _) rfl (by kernel_rfl) (by kernel_rfl) (by kernel_rfl) (fun _ _ _ h => h) (Or.inl ⟨by rfl, ?yy2⟩) (by assumption) ?rr2
  case yy2 => intro w hSw; (try dsimp only at hSw); go_simp; (try with_reducible rfl)
  try simp only [Act.put, List.setIfInBounds_toArray, List.set_cons_zero, List.set_cons_succ]
  refine' takeL (i := 2) (v := _) rfl (by kernel_rfl) (by kernel_rfl) (by kernel_rfl) (fun _ _ _ h => h) (Or.inl ⟨by rfl, ?yy3⟩) (by assumption) ?rr3
  case yy3 => intro w hSw; (try dsimp only at hSw); go_simp; (try with_reducible rfl)
  try simp only [Act.put, List.setIfInBounds_toArray, List.set_cons_zero, List.set_cons_succ]
  refine' takeL (i := 3) (v := _) rfl (by kernel_rfl) (by kernel_rfl) (by kernel_rfl) (fun _ _ _ h => h) (Or.inl ⟨by rfl, ?yy4⟩) (by assumption) ?rr4
  case yy4 => intro w hSw; (try dsimp only at hSw); go_simp; (try with_reducible rfl)
  try simp only [Act.put, List.setIfInBounds_toArray, List.set_cons_zero, List.set_cons_succ]
  refine' takeL (i := 4) (v := _) rfl (by kernel_rfl) (by kernel_rfl) (by kernel_rfl) (fun _ _ _ h => h) (Or.inl ⟨by rfl, ?yy5⟩) (by assumption) ?rr5
  case yy5 => intro w hSw; (try dsimp only at hSw); go_simp; (try with_reducible rfl)
  try simp only [Act.put, List.setIfInBounds_toArray, List.set_cons_zero, List.set_cons_succ]
  refine' takeL (i := 5) (v := .int .i64 d) rfl (by kernel_rfl) (by kernel_rfl) (by kernel_rfl) (fun _ _ _ h => h) (Or.inl ⟨by rfl, ?yy6⟩) (by assumption) ?rr6
  case yy6 => intro w hSw; (try dsimp only at hSw); have hc := hSw.1.ci (c := 8) (by omega); rw [HD.out] at hc; go_simp; (try with_reducible rfl)
  try simp only [Act.put, List.setIfInBounds_toArray, List.set_cons_zero, List.set_cons_succ]
  refine' takeL (i := 6) (v := _) rfl (by kernel_rfl) (by kernel_rfl) (by kernel_rfl) (fun _ _ _ h => h) (Or.inl ⟨by rfl, ?yy7⟩) (by assumption) ?rr7
  case yy7 => intro w hSw; (try dsimp only at hSw); go_simp; (try with_reducible rfl)
  try simp only [Act.put, List.setIfInBounds_toArray, List.set_cons_zero, List.set_cons_succ]
  refine' takeL (i := 7) (v := _) rfl (by kernel_rfl) (by kernel_rfl) (by kernel_rfl) (fun _ _ _ h => h) (Or.inl ⟨by rfl, ?yy8⟩) (by assumption) ?rr8
  case yy8 => intro w hSw; (try dsimp only at hSw); go_simp; (try with_reducible rfl)
  try simp only [Act.put, List.setIfInBounds_toArray, List.set_cons_zero, List.set_cons_succ]
  refine' takeL (i := 8) (v := _) rfl (by kernel_rfl) (by kernel_rfl) (by kernel_rfl) (fun _ _ _ h => h) (Or.inl ⟨by rfl, ?yy9⟩) (by assumption) ?rr9
  case yy9 => intro w hSw; (try dsimp only at hSw); go_simp; (try with_reducible rfl)
  try simp only [Act.put, List.setIfInBounds_toArray, List.set_cons_zero, List.set_cons_succ]
  refine' takeL (i := 9) (v := _) rfl (by kernel_rfl) (by kernel_rfl) (by kernel_rfl) (fun _ _ _ h => h) (Or.inl ⟨by rfl, ?yy10⟩) (by assumption) ?rr10
  case yy10 => intro w hSw; (try dsimp only at hSw); go_simp; (try with_reducible rfl)
  try simp only [Act.put, List.setIfInBounds_toArray, List.set_cons_zero, List.set_cons_succ]
  refine' takeL (i := 10) (v := .int .i64 (n0 : Int)) rfl (by kernel_rfl) (by kernel_rfl) (by kernel_rfl) (fun _ _ _ h => h) (Or.inl ⟨by rfl, ?yy11⟩) (by assumption) ?rr11
  case yy11 => intro w hSw; (try dsimp only at hSw); have hc := hSw.1.ci (c := 7) (by omega); rw [HN0.out] at hc; go_simp; (try with_reducible rfl)
  try simp only [Act.put, List.setIfInBounds_toArray, List.set_cons_zero, List.set_cons_succ]
  refine' takeL (i := 11) (v := _) rfl (by kernel_rfl) (by kernel_rfl) (by kernel_rfl) (fun _ _ _ h => h) (Or.inl ⟨by rfl, ?yy12⟩) (by assumption) ?rr12
  case yy12 => intro w hSw; (try dsimp only at hSw); go_simp; (try with_reducible rfl)
  try simp only [Act.put, List.setIfInBounds_toArray, List.set_cons_zero, List.set_cons_succ]
  refine' takeL (i := 12) (v := _) rfl (by kernel_rfl) (by kernel_rfl) (by kernel_rfl) (fun _ _ _ h => h) (Or.inl ⟨by rfl, ?yy13⟩) (by assumption) ?rr13
  case yy13 => intro w hSw; (try dsimp only at hSw); go_simp; (try with_reducible rfl)
  try simp only [Act.put, List.setIfInBounds_toArray, List.set_cons_zero, List.set_cons_succ]
  refine' takeL (i := 13) (v := _) rfl (by kernel_rfl) (by kernel_rfl) (by kernel_rfl) (fun _ _ _ h => h) (Or.inl ⟨by rfl, ?yy14⟩) (by assumption) ?rr14
  case yy14 => intro w hSw; (try dsimp only at hSw); go_simp; (try with_reducible rfl)
  try simp only [Act.put, List.setIfInBounds_toArray, List.set_cons_zero, List.set_cons_succ]
  refine' takeL (i := 14) (v := _) rfl (by kernel_rfl) (by kernel_rfl) (by kernel_rfl) (fun _ _ _ h => h) (Or.inl ⟨by rfl, ?yy15⟩) (by assumption) ?rr15
  case yy15 => intro w hSw; (try dsimp only at hSw); go_simp; (try with_reducible rfl)
  try simp only [Act.put, List.setIfInBounds_toArray, List.set_cons_zero, List.set_cons_succ]
  refine' takeL (i := 15) (v := .int .i64 (n1 : Int)) rfl (by kernel_rfl) (by kernel_rfl) (by kernel_rfl) (fun _ _ _ h => h) (Or.inl ⟨by rfl, ?yy16⟩) (by assumption) ?rr16
  case yy16 => intro w hSw; (try dsimp only at hSw); have hc := hSw.1.ci (c := 4) (by omega); rw [HN1.out] at hc; go_simp; (try with_reducible rfl)
  try simp only [Act.put, List.setIfInBounds_toArray, List.set_cons_zero, List.set_cons_succ]
  refine wpAnyH_ready (rs := [16]) (by kernel_rfl) (by simp) ?_
  refine consL rfl (fun K hK => ?_) AllReadyH.nil
  go_simp
  refine hK.out _ _ ?_ (fun hHeld => ?_)
  · exact ⟨hHeld.1.alloc _, hHeld.2.alloc _⟩
  clear hK K
  try simp only [Act.put, List.setIfInBounds_toArray, List.set_cons_zero, List.set_cons_succ]
  have hcell : ∀ i, i < [n0, n1].length → ((w.alloc (.cells #[.int .i64 (n0 : Int), .int .i64 (n1 : Int)] 3)).drew).cell? ⟨w.heap.size, i, none⟩ = some (.int .i64 (([n0, n1].getD i 0 : Nat) : Int)) := by
    intro i hi
    rw [cell_blk (show ((w.alloc (.cells #[.int .i64 (n0 : Int), .int .i64 (n1 : Int)] 3)).drew).heap[w.heap.size]? = _ from heap_alloc_new w _) i]
    match i, hi with
    | 0, _ => rfl
    | 1, _ => rfl
  have hmem : ∀ n ∈ [n0, n1], n < 16 := by intro n hn; simp at hn; omega
  refine wpAnyH_ready (rs := [17]) (by kernel_rfl) (by simp) ?_
  refine consL rfl (fun K hK => ?_) AllReadyH.nil
  go_simp
  go_at_call 64
  refine (address_c g w.heap.size d [n0, n1] 2 is os rs ps s ov _ hHeld.1 RO.out hd hd' (by simp) hmem hcell).mono ?_
  rintro e w5 ⟨rfl, hw5⟩
  subst hw5
  go_wp2_with fail
  refine hK.out _ _ ?_ (fun hHeld => ?_)
  · (try dsimp only); exact hHeld
  clear hK K
  try simp only [Act.put, List.setIfInBounds_toArray, List.set_cons_zero, List.set_cons_succ]
  refine' takeL (i := 18) (v := _) rfl (by kernel_rfl) (by kernel_rfl) (by kernel_rfl) (fun _ _ _ h => h) (Or.inl ⟨by rfl, ?yy17⟩) (by assumption) ?rr17
  case yy17 => intro w hSw; (try dsimp only at hSw); go_simp; (try with_reducible rfl)
  try simp only [Act.put, List.setIfInBounds_toArray, List.set_cons_zero, List.set_cons_succ]
  refine wpAnyH_done (by kernel_rfl) ?_ _
  go_wp2
  go_ret
  exact ⟨by rfl, hHeld.2⟩
set_option maxRecDepth 1000000 in
set_option maxHeartbeats 4000000 in
theorem first_c (g n0 : Nat) (d : Int) (is os rs : List Int) (ps : List Value) (s : Value) (ov : Bool) (w : World) (hm : Mc w g is os rs ps s ov) (ro : ∀ z ∈ os, 0 ≤ z ∧ z ≤ 4294967295) (hd0 : is.getD 6 0 = d) (hd : 0 ≤ d) (hd' : d ≤ 4095) (hn0 : is.getD 5 0 = (n0 : Int)) (h160 : n0 < 16) : Calls Try.prog 71 #[.pointer (some ⟨g, 0, none⟩)] w fun e w' => e = .returned (.int .i64 ((d + sumB os [n0]) % 16777216)) ∧ Ch w w' [] := by
  have HM := Lib.hid hm
  have RO := Lib.hid ro
  have HD := Lib.hid hd0
  have HN0 := Lib.hid hn0
  clear hm ro hd0 hn0
  go_enter Try.func71, Try.ntmps71
  go_upto_region 1 with fail
  refine wp_region_held_drew (S := (fun w' => Mc w' g is os rs ps s ov ∧ Ch w w' [])) (by kernel_rfl) ?_ (fun hHeld => ?_)
  · (try dsimp only); exact ⟨HM.out.drewN 1, (Ch.refl _ _).drewN 1⟩
  refine' takeL (i := 0) (v := _) rfl (by kernel_rfl) (by kernel_rfl) (by kernel_rfl) (fun _ _ _ h => h) (Or.inl ⟨by rfl, ?yy18⟩) (by assumption) ?rr18
  case yy18 => intro w hSw; (try dsimp only at hSw); go_simp; (try with_reducible rfl)
  try simp only [Act.put, List.setIfInBounds_toArray, List.set_cons_zero, List.set_cons_succ]
  refine' takeL (i := 1) (v := _) rfl (by kernel_rfl) (by kernel_rfl) (by kernel_rfl) (fun _ _ _ h => h) (Or.inl ⟨by rfl, ?yy19⟩) (by assumption) ?rr19
  case yy19 => intro w hSw; (try dsimp only at hSw); go_simp; (try with_reducible rfl)
  try simp only [Act.put, List.setIfInBounds_toArray, List.set_cons_zero, List.set_cons_succ]
  refine' takeL (i := 2) (v := _) rfl (by kernel_rfl) (by kernel_rfl) (by kernel_rfl) (fun _ _ _ h => h) (Or.inl ⟨by rfl, ?yy20⟩) (by assumption) ?rr20
  case yy20 => intro w hSw; (try dsimp only at hSw); go_simp; (try with_reducible rfl)
  try simp only [Act.put, List.setIfInBounds_toArray, List.set_cons_zero, List.set_cons_succ]
  refine' takeL (i := 3) (v := _) rfl (by kernel_rfl) (by kernel_rfl) (by kernel_rfl) (fun _ _ _ h => h) (Or.inl ⟨by rfl, ?yy21⟩) (by assumption) ?rr21
  case yy21 => intro w hSw; (try dsimp only at hSw); go_simp; (try with_reducible rfl)
  try simp only [Act.put, List.setIfInBounds_toArray, List.set_cons_zero, List.set_cons_succ]
  refine' takeL (i := 4) (v := _) rfl (by kernel_rfl) (by kernel_rfl) (by kernel_rfl) (fun _ _ _ h => h) (Or.inl ⟨by rfl, ?yy22⟩) (by assumption) ?rr22
  case yy22 => intro w hSw; (try dsimp only at hSw); go_simp; (try with_reducible rfl)
  try simp only [Act.put, List.setIfInBounds_toArray, List.set_cons_zero, List.set_cons_succ]
  refine' takeL (i := 5) (v := .int .i64 d) rfl (by kernel_rfl) (by kernel_rfl) (by kernel_rfl) (fun _ _ _ h => h) (Or.inl ⟨by rfl, ?yy23⟩) (by assumption) ?rr23
  case yy23 => intro w hSw; (try dsimp only at hSw); have hc := hSw.1.ci (c := 6) (by omega); rw [HD.out] at hc; go_simp; (try with_reducible rfl)
  try simp only [Act.put, List.setIfInBounds_toArray, List.set_cons_zero, List.set_cons_succ]
  refine' takeL (i := 6) (v := _) rfl (by kernel_rfl) (by kernel_rfl) (by kernel_rfl) (fun _ _ _ h => h) (Or.inl ⟨by rfl, ?yy24⟩) (by assumption) ?rr24
  case yy24 => intro w hSw; (try dsimp only at hSw); go_simp; (try with_reducible rfl)
  try simp only [Act.put, List.setIfInBounds_toArray, List.set_cons_zero, List.set_cons_succ]
  refine' takeL (i := 7) (v := _) rfl (by kernel_rfl) (by kernel_rfl) (by kernel_rfl) (fun _ _ _ h => h) (Or.inl ⟨by rfl, ?yy25⟩) (by assumption) ?rr25
  case yy25 => intro w hSw; (try dsimp only at hSw); go_simp; (try with_reducible rfl)
  try simp only [Act.put, List.setIfInBounds_toArray, List.set_cons_zero, List.set_cons_succ]
  refine' takeL (i := 8) (v := _) rfl (by kernel_rfl) (by kernel_rfl) (by kernel_rfl) (fun _ _ _ h => h) (Or.inl ⟨by rfl, ?yy26⟩) (by assumption) ?rr26
  case yy26 => intro w hSw; (try dsimp only at hSw); go_simp; (try with_reducible rfl)
  try simp only [Act.put, List.setIfInBounds_toArray, List.set_cons_zero, List.set_cons_succ]
  refine' takeL (i := 9) (v := _) rfl (by kernel_rfl) (by kernel_rfl) (by kernel_rfl) (fun _ _ _ h => h) (Or.inl ⟨by rfl, ?yy27⟩) (by assumption) ?rr27
  case yy27 => intro w hSw; (try dsimp only at hSw); go_simp; (try with_reducible rfl)
  try simp only [Act.put, List.setIfInBounds_toArray, List.set_cons_zero, List.set_cons_succ]
  refine' takeL (i := 10) (v := .int .i64 (n0 : Int)) rfl (by kernel_rfl) (by kernel_rfl) (by kernel_rfl) (fun _ _ _ h => h) (Or.inl ⟨by rfl, ?yy28⟩) (by assumption) ?rr28
  case yy28 => intro w hSw; (try dsimp only at hSw); have hc := hSw.1.ci (c := 5) (by omega); rw [HN0.out] at hc; go_simp; (try with_reducible rfl)
  try simp only [Act.put, List.setIfInBounds_toArray, List.set_cons_zero, List.set_cons_succ]
  refine wpAnyH_ready (rs := [11]) (by kernel_rfl) (by simp) ?_
  refine consL rfl (fun K hK => ?_) AllReadyH.nil
  go_simp
  refine hK.out _ _ ?_ (fun hHeld => ?_)
  · exact ⟨hHeld.1.alloc _, hHeld.2.alloc _⟩
  clear hK K
  try simp only [Act.put, List.setIfInBounds_toArray, List.set_cons_zero, List.set_cons_succ]
  have hcell : ∀ i, i < [n0].length → ((w.alloc (.cells #[.int .i64 (n0 : Int)] 3)).drew).cell? ⟨w.heap.size, i, none⟩ = some (.int .i64 (([n0].getD i 0 : Nat) : Int)) := by
    intro i hi
    rw [cell_blk (show ((w.alloc (.cells #[.int .i64 (n0 : Int)] 3)).drew).heap[w.heap.size]? = _ from heap_alloc_new w _) i]
    match i, hi with
    | 0, _ => rfl
  have hmem : ∀ n ∈ [n0], n < 16 := by intro n hn; simp at hn; omega
  refine wpAnyH_ready (rs := [12]) (by kernel_rfl) (by simp) ?_
  refine consL rfl (fun K hK => ?_) AllReadyH.nil
  go_simp
  go_at_call 64
  refine (address_c g w.heap.size d [n0] 1 is os rs ps s ov _ hHeld.1 RO.out hd hd' (by simp) hmem hcell).mono ?_
  rintro e w5 ⟨rfl, hw5⟩
  subst hw5
  go_wp2_with fail
  refine hK.out _ _ ?_ (fun hHeld => ?_)
  · (try dsimp only); exact hHeld
  clear hK K
  try simp only [Act.put, List.setIfInBounds_toArray, List.set_cons_zero, List.set_cons_succ]
  refine' takeL (i := 13) (v := _) rfl (by kernel_rfl) (by kernel_rfl) (by kernel_rfl) (fun _ _ _ h => h) (Or.inl ⟨by rfl, ?yy29⟩) (by assumption) ?rr29
  case yy29 => intro w hSw; (try dsimp only at hSw); go_simp; (try with_reducible rfl)
  try simp only [Act.put, List.setIfInBounds_toArray, List.set_cons_zero, List.set_cons_succ]
  refine wpAnyH_done (by kernel_rfl) ?_ _
  go_wp2
  go_ret
  exact ⟨by rfl, hHeld.2⟩
end Go.Proofs.Ythjdjbipfdigeaa

namespace Go.Proofs.Ythjdjbipfdigeaa
open Go.RowKit
theorem dBelow {B : Nat} {a w : World} (h : Below B a w) (n : Nat) : Below B a (w.drewN n) := ⟨h.os, h.tape, h.output, h.size, h.block⟩
end Go.Proofs.Ythjdjbipfdigeaa

namespace Go.Proofs.Ythjdjbipfdigeaa
open Go.RowKit
set_option maxRecDepth 100000
set_option linter.unusedVariables false

/-- is a range in a storage of N bytes? -/
def sIn (N : Nat) (addr n : Int) : Bool := decide (0 ≤ addr ∧ 0 ≤ n ∧ addr ≤ (N : Int) ∧ n ≤ (N : Int) - addr)
theorem sIn_yes {N : Nat} {addr n : Int} (h : sIn N addr n = true) : 0 ≤ addr ∧ 0 ≤ n ∧ addr ≤ (N : Int) ∧ n ≤ (N : Int) - addr := by simpa [sIn] using h
/-- may a key store, fetch, in a block of key k? -/
def alP (key k : Int) : Bool := decide (key = 0 ∨ key = k / 2)
def alF (key k : Int) : Bool := decide (key = 0 ∨ key = k / 2 ∨ k % 2 = 0)
/-- may every byte of a range be touched? -/
def okB (al : Int → Bool) (ks : List Int) (a n : Nat) : Bool := (List.range n).all fun j => al (ks.getD ((a + j) / 2048) 0)
/-- the code of an access -/
def sCode (al : Int → Bool) (N : Nat) (ks : List Int) (addr n : Int) : Int := if sIn N addr n = true then (if okB al ks addr.toNat n.toNat = true then 0 else 4) else 5
/-- the bytes of a range -/
def sGet (bs : List Int) (addr n : Int) : List Int := if sIn bs.length addr n = true then (bs.drop addr.toNat).take n.toNat else []
/-- is an address in the storage? -/
def sAt (N : Nat) (addr : Int) : Bool := decide (0 ≤ addr ∧ addr < (N : Int))
/-- block g is a row of c cells of type e, of which the first are vs -/
def Rw (w : World) (g : Nat) (e : TypeId) (c : Nat) (vs : List Value) : Prop :=
  ∃ cur : List Value, w.heap[g]? = some (.cells cur.toArray e (0, 0)) ∧ cur.length = c ∧ cur.take vs.length = vs ∧ c ≤ maxLen

section
variable {w w' : World} {g c : Nat} {e : TypeId} {vs : List Value}
theorem Rw.lt (h : Rw w g e c vs) : g < w.heap.size := by obtain ⟨cur, h1, _⟩ := h; exact (Array.getElem?_eq_some_iff.1 h1).1
theorem Rw.len (h : Rw w g e c vs) : vs.length ≤ c := by
  obtain ⟨cur, _, h2, h3, _⟩ := h
  have := congrArg List.length h3
  rw [List.length_take] at this; omega
theorem Rw.cell (h : Rw w g e c vs) {i : Nat} (hi : i < vs.length) : w.cell? ⟨g, i, none⟩ = some vs[i] := by
  obtain ⟨cur, h1, h2, h3, _⟩ := h
  have e1 : cur[i]? = some vs[i] := by
    have h4 : (cur.take vs.length)[i]? = some vs[i] := by rw [h3]; exact List.getElem?_eq_getElem hi
    rwa [List.getElem?_take, if_pos hi] at h4
  simp [World.cell?, h1, e1]
theorem Rw.free (h : Rw w g e c vs) (i : Nat) : w.frozen? ⟨g, i, none⟩ = false := by obtain ⟨cur, h1, _⟩ := h; simp [World.frozen?, h1]
theorem Rw.keep (h : Rw w g e c vs) (hk : w'.heap[g]? = w.heap[g]?) : Rw w' g e c vs := by obtain ⟨cur, h1, h2⟩ := h; exact ⟨cur, hk.trans h1, h2⟩
theorem Rw.set_ (h : Rw w g e c vs) {i : Nat} (v : Value) : Rw (w.setCell ⟨g, i, none⟩ v) g e c (vs.set i v) := by
  obtain ⟨cur, h1, h2, h3, h4⟩ := h
  refine ⟨cur.set i v, ?_, by simpa using h2, by rw [List.length_set, List.take_set, h3], h4⟩
  rw [setCell_eq_setRow w g i cur.toArray e (0, 0) _ h1, setRow_heap w g _ _ _ _ h1]
  simp
theorem Rw.ne {g' c' : Nat} {e' : TypeId} {vs' : List Value} (h : Rw w g e c vs) (h' : Rw w g' e' c' vs') (he : e ≠ e') : g ≠ g' := by
  rintro rfl
  obtain ⟨cur, h1, _⟩ := h
  obtain ⟨cur', h1', _⟩ := h'
  rw [h1] at h1'
  injection h1' with h1'
  injection h1' with _ ht
  exact he ht
theorem Rw.ne_blk {g' : Nat} {e' : TypeId} {C : Array Value} (h : Rw w g e c vs) (h' : w.heap[g']? = some (.cells C e' (0, 0))) (he : e ≠ e') : g ≠ g' := by
  rintro rfl
  obtain ⟨cur, h1, _⟩ := h
  rw [h1] at h'
  injection h' with h'
  injection h' with _ ht
  exact he ht
theorem Rw.new (w : World) (C : Array Value) (e : TypeId) (vs : List Value) (hC : C.toList = vs) (hm : vs.length ≤ maxLen) : Rw (w.alloc (.cells C e)) w.heap.size e vs.length vs := by
  refine ⟨C.toList, ?_, by rw [hC], by rw [hC, List.take_length], hm⟩
  have := heap_alloc_new w (.cells C e)
  simpa using this
/-- cells laid over a row from place k on -/
theorem Rw.lay (h : Rw w g e c vs) (k : Nat) (us : List Value) (hk : k + us.length ≤ vs.length) : ∃ cur : List Value, w.heap[g]? = some (.cells cur.toArray e (0, 0)) ∧ cur.length = c ∧
    Rw (w.setRow g (splice cur k us).toArray) g e c (splice vs k us) := by
  obtain ⟨cur, h1, h2, h3, h4⟩ := h
  have hl : vs.length ≤ cur.length := by have := congrArg List.length h3; rw [List.length_take] at this; omega
  refine ⟨cur, h1, h2, splice cur k us, setRow_heap w g _ _ _ _ h1, ?_, ?_, h4⟩
  · rw [length_splice _ _ _ (by omega), h2]
  · rw [length_splice _ _ _ hk, take_splice _ _ _ _ hk hl, h3]
end

/-- A storage: the struct in block g, its bytes in block gb, its keys in block gk. -/
structure Foot where
  g : Nat
  gb : Nat
  gk : Nat
  cb : Nat
  ck : Nat
structure St (T : TypeId) (w : World) (F : Foot) (bs ks : List Int) : Prop where
  hd : w.heap[F.g]? = some (.cells #[.slice (some ⟨F.gb, 0, none⟩) bs.length F.cb, .slice (some ⟨F.gk, 0, none⟩) ks.length F.ck] T (0, 0))
  b : Rw w F.gb 5 F.cb (bs.map (Value.int .u8))
  k : Rw w F.gk 3 F.ck (ks.map (Value.int .i64))
  rb : ∀ z ∈ bs, 0 ≤ z ∧ z ≤ 255
  rk : ∀ z ∈ ks, 0 ≤ z ∧ z ≤ 31
  ln : bs.length = 2048 * ks.length
  l0 : 1 ≤ ks.length
  l1 : ks.length ≤ 32
section
variable {T T' : TypeId} {w w' : World} {F F' : Foot} {bs ks bs' ks' : List Int}
theorem St.ltg (h : St T w F bs ks) : F.g < w.heap.size := (Array.getElem?_eq_some_iff.1 h.hd).1
theorem St.ltb (h : St T w F bs ks) : F.gb < w.heap.size := h.b.lt
theorem St.ltk (h : St T w F bs ks) : F.gk < w.heap.size := h.k.lt
theorem St.keep (h : St T w F bs ks) (h1 : w'.heap[F.g]? = w.heap[F.g]?) (h2 : w'.heap[F.gb]? = w.heap[F.gb]?) (h3 : w'.heap[F.gk]? = w.heap[F.gk]?) : St T w' F bs ks :=
  ⟨h1.trans h.hd, h.b.keep h2, h.k.keep h3, h.rb, h.rk, h.ln, h.l0, h.l1⟩
theorem St.below {B : Nat} (h : St T w F bs ks) (hb : Below B w w') (h1 : F.g < B) (h2 : F.gb < B) (h3 : F.gk < B) : St T w' F bs ks := h.keep (hb.block _ h1) (hb.block _ h2) (hb.block _ h3)
theorem St.belowS (h : St T w F bs ks) (hb : Below w.heap.size w w') : St T w' F bs ks := h.below hb h.ltg h.ltb h.ltk
theorem St.drewN (h : St T w F bs ks) (n : Nat) : St T (w.drewN n) F bs ks := h.keep rfl rfl rfl
theorem St.alloc (h : St T w F bs ks) (o : Obj) : St T (w.alloc o) F bs ks := h.keep (Below.heap_alloc w o _ h.ltg) (Below.heap_alloc w o _ h.ltb) (Below.heap_alloc w o _ h.ltk)
theorem St.grown {row : Option Nat} (h : St T w F bs ks) (hb : w.grownBy w' row) (h1 : some F.g ≠ row) (h2 : some F.gb ≠ row) (h3 : some F.gk ≠ row) : St T w' F bs ks :=
  h.keep (hb.block _ h.ltg h1) (hb.block _ h.ltb h2) (hb.block _ h.ltk h3)
theorem St.cell0 (h : St T w F bs ks) : w.cell? ⟨F.g, 0, none⟩ = some (.slice (some ⟨F.gb, 0, none⟩) bs.length F.cb) := cell_blk h.hd 0
theorem St.cell1 (h : St T w F bs ks) : w.cell? ⟨F.g, 1, none⟩ = some (.slice (some ⟨F.gk, 0, none⟩) ks.length F.ck) := cell_blk h.hd 1
theorem St.byte (h : St T w F bs ks) {i : Nat} (hi : i < bs.length) : w.cell? ⟨F.gb, i, none⟩ = some (.int .u8 (bs.getD i 0)) := by
  rw [h.b.cell (by simpa using hi)]; simp [List.getD_eq_getElem?_getD, hi]
theorem St.key (h : St T w F bs ks) {i : Nat} (hi : i < ks.length) : w.cell? ⟨F.gk, i, none⟩ = some (.int .i64 (ks.getD i 0)) := by
  rw [h.k.cell (by simpa using hi)]; simp [List.getD_eq_getElem?_getD, hi]
theorem St.keyr (h : St T w F bs ks) (i : Nat) : 0 ≤ ks.getD i 0 ∧ ks.getD i 0 ≤ 31 := by
  rw [List.getD_eq_getElem?_getD]
  rcases Nat.lt_or_ge i ks.length with hi | hi
  · rw [List.getElem?_eq_getElem hi]; exact h.rk _ (List.getElem_mem hi)
  · rw [List.getElem?_eq_none hi]; simp
theorem St.capb (h : St T w F bs ks) : bs.length ≤ F.cb := by have := h.b.len; simpa using this
theorem St.maxb (h : St T w F bs ks) : F.cb ≤ maxLen := by obtain ⟨cur, _, _, _, h4⟩ := h.b; exact h4
theorem St.byt (h : St T w F bs ks) {a n : Nat} (hn : a + n ≤ bs.length) : Byt w (some ⟨F.gb, a, none⟩) n ((bs.drop a).take n) := by
  refine ⟨by rw [List.length_take, List.length_drop]; omega, fun z hz => h.rb z (List.mem_of_mem_drop (List.mem_of_mem_take hz)), fun _ => ⟨F.gb, a, rfl, fun i hi => ?_⟩⟩
  rw [h.byte (by omega)]
  simp [List.getD_eq_getElem?_getD, hi]
/-- the three blocks are not one -/
theorem St.nbk (h : St T w F bs ks) : F.gb ≠ F.gk := h.b.ne h.k (by decide)
theorem St.ngb (h : St T w F bs ks) (hT : T ≠ 5) : F.gb ≠ F.g := h.b.ne_blk h.hd (Ne.symm hT)
theorem St.ngk (h : St T w F bs ks) (hT : T ≠ 3) : F.gk ≠ F.g := h.k.ne_blk h.hd (Ne.symm hT)
/-- a key is stored -/
theorem St.setKey (h : St T w F bs ks) (hT : T ≠ 3) {i : Nat} {v : Int} (hv : 0 ≤ v ∧ v ≤ 31) : St T (w.setCell ⟨F.gk, i, none⟩ (.int .i64 v)) F bs (ks.set i v) := by
  refine ⟨?_, ?_, ?_, h.rb, ?_, by rw [List.length_set]; exact h.ln, by rw [List.length_set]; exact h.l0, by rw [List.length_set]; exact h.l1⟩
  · rw [List.length_set]; exact (Below.heap_setCell _ _ _ _ (Ne.symm (h.ngk hT))).trans h.hd
  · exact h.b.keep (Below.heap_setCell _ _ _ _ h.nbk)
  · rw [List.map_set]; exact h.k.set_ _
  · intro z hz
    rcases List.mem_or_eq_of_mem_set hz with hz | rfl
    · exact h.rk z hz
    · exact hv
/-- a byte is stored -/
theorem St.setByte (h : St T w F bs ks) (hT : T ≠ 5) {i : Nat} {v : Int} (hv : 0 ≤ v ∧ v ≤ 255) : St T (w.setCell ⟨F.gb, i, none⟩ (.int .u8 v)) F (bs.set i v) ks := by
  refine ⟨?_, ?_, ?_, ?_, h.rk, by rw [List.length_set]; exact h.ln, h.l0, h.l1⟩
  · rw [List.length_set]; exact (Below.heap_setCell _ _ _ _ (Ne.symm (h.ngb hT))).trans h.hd
  · rw [List.map_set]; exact h.b.set_ _
  · exact h.k.keep (Below.heap_setCell _ _ _ _ (Ne.symm h.nbk))
  · intro z hz
    rcases List.mem_or_eq_of_mem_set hz with hz | rfl
    · exact h.rb z hz
    · exact hv
/-- bytes are laid over it -/
theorem St.lay (h : St T w F bs ks) (hT : T ≠ 5) (k : Nat) (ys : List Int) (hy : ∀ z ∈ ys, 0 ≤ z ∧ z ≤ 255) (hk : k + ys.length ≤ bs.length) :
    ∃ cur : List Value, w.heap[F.gb]? = some (.cells cur.toArray 5 (0, 0)) ∧ cur.length = F.cb ∧ St T (w.setRow F.gb (splice cur k (ys.map (Value.int .u8))).toArray) F (splice bs k ys) ks := by
  obtain ⟨cur, h1, h2, h3⟩ := h.b.lay k (ys.map (Value.int .u8)) (by simpa using hk)
  refine ⟨cur, h1, h2, ?_, ?_, ?_, splice_range _ _ _ h.rb hy, h.rk, by rw [length_splice _ _ _ hk]; exact h.ln, h.l0, h.l1⟩
  · rw [length_splice _ _ _ hk]; exact (setRow_other _ _ _ _ (Ne.symm (h.ngb hT))).trans h.hd
  · rw [← splice_map]; exact h3
  · exact h.k.keep (setRow_other _ _ _ _ (Ne.symm h.nbk))
end

theorem grown_setRow (w : World) (g : Nat) (cs : Array Value) : w.grownBy (w.setRow g cs) (some g) := ⟨rfl, rfl, rfl, by simp [World.setRow], fun k _ hk => setRow_other w g k cs (fun e => hk (by rw [e]))⟩
theorem grown_setCell (w : World) (g i : Nat) (v : Value) : w.grownBy (w.setCell ⟨g, i, none⟩ v) (some g) := ⟨rfl, rfl, rfl, by simp [World.setCell], fun k _ hk => Below.heap_setCell w _ v k (fun e => hk (by rw [e]))⟩
theorem grown_drewN {a w : World} {row : Option Nat} (h : a.grownBy w row) (n : Nat) : a.grownBy (w.drewN n) row := ⟨h.os, h.tape, h.output, h.size, h.block⟩
theorem grown_of_below {a w : World} (h : Below a.heap.size a w) (row : Option Nat) : a.grownBy w row := ⟨h.os, h.tape, h.output, h.size, fun i hi _ => h.block i hi⟩
theorem grown_trans {a b c : World} {row : Option Nat} (h : a.grownBy b row) (k : b.grownBy c row) : a.grownBy c row :=
  ⟨k.os.trans h.os, k.tape.trans h.tape, k.output.trans h.output, Nat.le_trans h.size k.size, fun i hi hne => (k.block i (Nat.lt_of_lt_of_le hi h.size) hne).trans (h.block i hi hne)⟩
end Go.Proofs.Ythjdjbipfdigeaa

namespace Go.Proofs.Ythjdjbipfdigeaa
open Go.RowKit
set_option maxRecDepth 100000
set_option linter.unusedVariables false
set_option linter.unusedSimpArgs false

theorem in_c {F : Foot} {bs ks : List Int} (w : World) (h : St 71 w F bs ks) (addr n : Int) : Calls Try.prog 34 #[.pointer (some ⟨F.g, 0, none⟩), .int .i64 addr, .int .i64 n] w fun e w' => e = .returned (.bool (sIn bs.length addr n)) ∧ w = w' := by
  obtain ⟨N, hN⟩ : ∃ N, bs.length = N := ⟨_, rfl⟩
  obtain ⟨m, hm⟩ : ∃ m, ks.length = m := ⟨_, rfl⟩
  have c0 := h.cell0
  have c1 := h.cell1
  have H := Lib.hid h
  have ln := h.ln
  have l0 := h.l0
  have l1 := h.l1
  rw [hN] at c0 ln ⊢
  rw [hm] at c1 ln l0 l1
  have HN := Lib.hid hN
  have HM := Lib.hid hm
  have n0 : (2048 : Int) ≤ (N : Int) := by omega
  have n1 : (N : Int) ≤ 65536 := by omega
  have m0 : (1 : Int) ≤ (m : Int) := by omega
  have m1 : (m : Int) ≤ 32 := by omega
  have LN := Lib.hid ln
  clear hN hm h ln l0 l1
  by_cases b1 : 0 ≤ addr
  case neg =>
    have hr := Lib.hid (show sIn N addr n = false from by simp [sIn]; omega)
    go_enter Try.func34, Try.ntmps34
    go_wp2
    go_ret
    exact ⟨by rw [hr.out]; rfl, rfl⟩
  by_cases b1 : 0 ≤ n
  case neg =>
    have hr := Lib.hid (show sIn N addr n = false from by simp [sIn]; omega)
    go_enter Try.func34, Try.ntmps34
    go_wp2
    go_ret
    exact ⟨by rw [hr.out]; rfl, rfl⟩
  by_cases b1 : addr ≤ (N : Int)
  case neg =>
    have hr := Lib.hid (show sIn N addr n = false from by simp [sIn]; omega)
    go_enter Try.func34, Try.ntmps34
    go_wp2
    go_ret
    exact ⟨by rw [hr.out]; rfl, rfl⟩
  by_cases b1 : n ≤ (N : Int) - addr
  case neg =>
    have hr := Lib.hid (show sIn N addr n = false from by simp [sIn]; omega)
    go_enter Try.func34, Try.ntmps34
    go_wp2
    go_ret
    exact ⟨by rw [hr.out]; rfl, rfl⟩
  have hr := Lib.hid (show sIn N addr n = true from by simp [sIn]; omega)
  go_enter Try.func34, Try.ntmps34
  go_wp2
  go_ret
  exact ⟨by rw [hr.out]; rfl, rfl⟩

theorem rin_c {F : Foot} {bs ks : List Int} (w : World) (h : St 93 w F bs ks) (addr n : Int) : Calls Try.prog 94 #[.pointer (some ⟨F.g, 0, none⟩), .int .i64 addr, .int .i64 n] w fun e w' => e = .returned (.bool (sIn bs.length addr n)) ∧ w = w' := by
  obtain ⟨N, hN⟩ : ∃ N, bs.length = N := ⟨_, rfl⟩
  obtain ⟨m, hm⟩ : ∃ m, ks.length = m := ⟨_, rfl⟩
  have c0 := h.cell0
  have c1 := h.cell1
  have H := Lib.hid h
  have ln := h.ln
  have l0 := h.l0
  have l1 := h.l1
  rw [hN] at c0 ln ⊢
  rw [hm] at c1 ln l0 l1
  have HN := Lib.hid hN
  have HM := Lib.hid hm
  have n0 : (2048 : Int) ≤ (N : Int) := by omega
  have n1 : (N : Int) ≤ 65536 := by omega
  have m0 : (1 : Int) ≤ (m : Int) := by omega
  have m1 : (m : Int) ≤ 32 := by omega
  have LN := Lib.hid ln
  clear hN hm h ln l0 l1
  by_cases b1 : 0 ≤ addr
  case neg =>
    have hr := Lib.hid (show sIn N addr n = false from by simp [sIn]; omega)
    go_enter Try.func94, Try.ntmps94
    go_wp2
    go_ret
    exact ⟨by rw [hr.out]; rfl, rfl⟩
  by_cases b1 : 0 ≤ n
  case neg =>
    have hr := Lib.hid (show sIn N addr n = false from by simp [sIn]; omega)
    go_enter Try.func94, Try.ntmps94
    go_wp2
    go_ret
    exact ⟨by rw [hr.out]; rfl, rfl⟩
  by_cases b1 : addr ≤ (N : Int)
  case neg =>
    have hr := Lib.hid (show sIn N addr n = false from by simp [sIn]; omega)
    go_enter Try.func94, Try.ntmps94
    go_wp2
    go_ret
    exact ⟨by rw [hr.out]; rfl, rfl⟩
  by_cases b1 : n ≤ (N : Int) - addr
  case neg =>
    have hr := Lib.hid (show sIn N addr n = false from by simp [sIn]; omega)
    go_enter Try.func94, Try.ntmps94
    go_wp2
    go_ret
    exact ⟨by rw [hr.out]; rfl, rfl⟩
  have hr := Lib.hid (show sIn N addr n = true from by simp [sIn]; omega)
  go_enter Try.func94, Try.ntmps94
  go_wp2
  go_ret
  exact ⟨by rw [hr.out]; rfl, rfl⟩

theorem size_c {F : Foot} {bs ks : List Int} (w : World) (h : St 71 w F bs ks)  : Calls Try.prog 22 #[.pointer (some ⟨F.g, 0, none⟩)] w fun e w' => e = .returned (.int .i64 bs.length) ∧ w = w' := by
  obtain ⟨N, hN⟩ : ∃ N, bs.length = N := ⟨_, rfl⟩
  obtain ⟨m, hm⟩ : ∃ m, ks.length = m := ⟨_, rfl⟩
  have c0 := h.cell0
  have c1 := h.cell1
  have H := Lib.hid h
  have ln := h.ln
  have l0 := h.l0
  have l1 := h.l1
  rw [hN] at c0 ln ⊢
  rw [hm] at c1 ln l0 l1
  have HN := Lib.hid hN
  have HM := Lib.hid hm
  have n0 : (2048 : Int) ≤ (N : Int) := by omega
  have n1 : (N : Int) ≤ 65536 := by omega
  have m0 : (1 : Int) ≤ (m : Int) := by omega
  have m1 : (m : Int) ≤ 32 := by omega
  have LN := Lib.hid ln
  clear hN hm h ln l0 l1
  go_enter Try.func22, Try.ntmps22
  go_wp2
  go_ret
  exact ⟨rfl, rfl⟩

/-- the key that KeyOf returns -/
def sKV (N : Nat) (ks : List Int) (addr : Int) : Int := if sAt N addr = true then ks.getD (addr / 2048).toNat 0 else 0

theorem keyof_c {F : Foot} {bs ks : List Int} (w : World) (h : St 71 w F bs ks) (addr : Int) : Calls Try.prog 23 #[.pointer (some ⟨F.g, 0, none⟩), .int .i64 addr] w fun e w' => e = .returned (.tuple #[.int .i64 (sKV bs.length ks addr), .bool (sAt bs.length addr)]) ∧ w = w' := by
  obtain ⟨N, hN⟩ : ∃ N, bs.length = N := ⟨_, rfl⟩
  obtain ⟨m, hm⟩ : ∃ m, ks.length = m := ⟨_, rfl⟩
  have c0 := h.cell0
  have c1 := h.cell1
  have H := Lib.hid h
  have ln := h.ln
  have l0 := h.l0
  have l1 := h.l1
  rw [hN] at c0 ln ⊢
  rw [hm] at c1 ln l0 l1
  have HN := Lib.hid hN
  have HM := Lib.hid hm
  have n0 : (2048 : Int) ≤ (N : Int) := by omega
  have n1 : (N : Int) ≤ 65536 := by omega
  have m0 : (1 : Int) ≤ (m : Int) := by omega
  have m1 : (m : Int) ≤ 32 := by omega
  have LN := Lib.hid ln
  clear hN hm h ln l0 l1
  by_cases b1 : 0 ≤ addr
  case neg =>
    have hr := Lib.hid (show sAt N addr = false from by simp [sAt]; omega)
    go_enter Try.func23, Try.ntmps23
    go_wp2
    go_ret2
    exact ⟨by unfold sKV; rw [hr.out]; rfl, rfl⟩
  by_cases b2 : addr < (N : Int)
  case neg =>
    have hr := Lib.hid (show sAt N addr = false from by simp [sAt]; omega)
    go_enter Try.func23, Try.ntmps23
    go_wp2
    go_ret2
    exact ⟨by unfold sKV; rw [hr.out]; rfl, rfl⟩
  have hr := Lib.hid (show sAt N addr = true from by simp [sAt]; omega)
  have i0 : 0 ≤ addr / 2048 := by omega
  have i1 : addr / 2048 < (m : Int) := by have := LN.out; omega
  have ck := H.out.key (i := (addr / 2048).toNat) (by rw [HM.out]; omega)
  obtain ⟨kv, hk⟩ : ∃ kv, ks.getD (addr / 2048).toNat 0 = kv := ⟨_, rfl⟩
  rw [hk] at ck
  have HK := Lib.hid hk
  clear hk
  go_enter Try.func23, Try.ntmps23
  go_wp2
  go_ret2
  exact ⟨by unfold sKV; rw [hr.out, if_pos rfl, HK.out]; rfl, rfl⟩

/-- is a key? -/
def sKey (k : Int) : Bool := decide (0 ≤ k ∧ k ≤ 31)
def sSet (N : Nat) (ks : List Int) (addr key : Int) : List Int := if (sAt N addr && sKey key) = true then ks.set (addr / 2048).toNat key else ks

theorem setkey_c {F : Foot} {bs ks : List Int} (w : World) (h : St 71 w F bs ks) (addr key : Int) : Calls Try.prog 37 #[.pointer (some ⟨F.g, 0, none⟩), .int .i64 addr, .int .i64 key] w fun e w' => e = .returned (.bool (sAt bs.length addr && sKey key)) ∧ St 71 w' F bs (sSet bs.length ks addr key) ∧ w.grownBy w' (some F.gk) := by
  obtain ⟨N, hN⟩ : ∃ N, bs.length = N := ⟨_, rfl⟩
  obtain ⟨m, hm⟩ : ∃ m, ks.length = m := ⟨_, rfl⟩
  have c0 := h.cell0
  have c1 := h.cell1
  have H := Lib.hid h
  have ln := h.ln
  have l0 := h.l0
  have l1 := h.l1
  rw [hN] at c0 ln ⊢
  rw [hm] at c1 ln l0 l1
  have HN := Lib.hid hN
  have HM := Lib.hid hm
  have n0 : (2048 : Int) ≤ (N : Int) := by omega
  have n1 : (N : Int) ≤ 65536 := by omega
  have m0 : (1 : Int) ≤ (m : Int) := by omega
  have m1 : (m : Int) ≤ 32 := by omega
  have LN := Lib.hid ln
  clear hN hm h ln l0 l1
  by_cases b1 : 0 ≤ addr
  case neg =>
    have hr := Lib.hid (show (sAt N addr && sKey key) = false from by simp [sAt, sKey]; omega)
    go_enter Try.func37, Try.ntmps37
    go_wp2
    go_ret
    exact ⟨by rw [hr.out]; rfl, by unfold sSet; rw [hr.out]; exact H.out, World.grownBy.refl w _⟩
  by_cases b2 : addr < (N : Int)
  case neg =>
    have hr := Lib.hid (show (sAt N addr && sKey key) = false from by simp [sAt, sKey]; omega)
    go_enter Try.func37, Try.ntmps37
    go_wp2
    go_ret
    exact ⟨by rw [hr.out]; rfl, by unfold sSet; rw [hr.out]; exact H.out, World.grownBy.refl w _⟩
  by_cases b3 : 0 ≤ key
  case neg =>
    have hr := Lib.hid (show (sAt N addr && sKey key) = false from by simp [sAt, sKey]; omega)
    go_enter Try.func37, Try.ntmps37
    go_wp2
    go_ret
    exact ⟨by rw [hr.out]; rfl, by unfold sSet; rw [hr.out]; exact H.out, World.grownBy.refl w _⟩
  by_cases b4 : key ≤ 31
  case neg =>
    have hr := Lib.hid (show (sAt N addr && sKey key) = false from by simp [sAt, sKey]; omega)
    go_enter Try.func37, Try.ntmps37
    go_wp2
    go_ret
    exact ⟨by rw [hr.out]; rfl, by unfold sSet; rw [hr.out]; exact H.out, World.grownBy.refl w _⟩
  have hr := Lib.hid (show (sAt N addr && sKey key) = true from by simp [sAt, sKey]; omega)
  have i0 : 0 ≤ addr / 2048 := by omega
  have i1 : addr / 2048 < (m : Int) := by have := LN.out; omega
  have ck := H.out.key (i := (addr / 2048).toNat) (by rw [HM.out]; omega)
  obtain ⟨kv, hk⟩ : ∃ kv, ks.getD (addr / 2048).toNat 0 = kv := ⟨_, rfl⟩
  rw [hk] at ck
  clear hk
  have fk := H.out.k.free (addr / 2048).toNat
  go_enter Try.func37, Try.ntmps37
  go_wp2
  go_ret
  exact ⟨by rw [hr.out]; rfl, by unfold sSet; rw [hr.out]; exact H.out.setKey (by decide) ⟨b3, b4⟩, grown_setCell _ _ _ _⟩

theorem rsetkey_c {F : Foot} {bs ks : List Int} (w : World) (h : St 93 w F bs ks) (addr key : Int) : Calls Try.prog 38 #[.pointer (some ⟨F.g, 0, none⟩), .int .i64 addr, .int .i64 key] w fun e w' => e = .returned (.bool (sAt bs.length addr && sKey key)) ∧ St 93 w' F bs (sSet bs.length ks addr key) ∧ w.grownBy w' (some F.gk) := by
  obtain ⟨N, hN⟩ : ∃ N, bs.length = N := ⟨_, rfl⟩
  obtain ⟨m, hm⟩ : ∃ m, ks.length = m := ⟨_, rfl⟩
  have c0 := h.cell0
  have c1 := h.cell1
  have H := Lib.hid h
  have ln := h.ln
  have l0 := h.l0
  have l1 := h.l1
  rw [hN] at c0 ln ⊢
  rw [hm] at c1 ln l0 l1
  have HN := Lib.hid hN
  have HM := Lib.hid hm
  have n0 : (2048 : Int) ≤ (N : Int) := by omega
  have n1 : (N : Int) ≤ 65536 := by omega
  have m0 : (1 : Int) ≤ (m : Int) := by omega
  have m1 : (m : Int) ≤ 32 := by omega
  have LN := Lib.hid ln
  clear hN hm h ln l0 l1
  by_cases b1 : 0 ≤ addr
  case neg =>
    have hr := Lib.hid (show (sAt N addr && sKey key) = false from by simp [sAt, sKey]; omega)
    go_enter Try.func38, Try.ntmps38
    go_wp2
    go_ret
    exact ⟨by rw [hr.out]; rfl, by unfold sSet; rw [hr.out]; exact H.out, World.grownBy.refl w _⟩
  by_cases b2 : addr < (N : Int)
  case neg =>
    have hr := Lib.hid (show (sAt N addr && sKey key) = false from by simp [sAt, sKey]; omega)
    go_enter Try.func38, Try.ntmps38
    go_wp2
    go_ret
    exact ⟨by rw [hr.out]; rfl, by unfold sSet; rw [hr.out]; exact H.out, World.grownBy.refl w _⟩
  by_cases b3 : 0 ≤ key
  case neg =>
    have hr := Lib.hid (show (sAt N addr && sKey key) = false from by simp [sAt, sKey]; omega)
    go_enter Try.func38, Try.ntmps38
    go_wp2
    go_ret
    exact ⟨by rw [hr.out]; rfl, by unfold sSet; rw [hr.out]; exact H.out, World.grownBy.refl w _⟩
  by_cases b4 : key ≤ 31
  case neg =>
    have hr := Lib.hid (show (sAt N addr && sKey key) = false from by simp [sAt, sKey]; omega)
    go_enter Try.func38, Try.ntmps38
    go_wp2
    go_ret
    exact ⟨by rw [hr.out]; rfl, by unfold sSet; rw [hr.out]; exact H.out, World.grownBy.refl w _⟩
  have hr := Lib.hid (show (sAt N addr && sKey key) = true from by simp [sAt, sKey]; omega)
  have i0 : 0 ≤ addr / 2048 := by omega
  have i1 : addr / 2048 < (m : Int) := by have := LN.out; omega
  have ck := H.out.key (i := (addr / 2048).toNat) (by rw [HM.out]; omega)
  obtain ⟨kv, hk⟩ : ∃ kv, ks.getD (addr / 2048).toNat 0 = kv := ⟨_, rfl⟩
  rw [hk] at ck
  clear hk
  have fk := H.out.k.free (addr / 2048).toNat
  go_enter Try.func38, Try.ntmps38
  go_wp2
  go_ret
  exact ⟨by rw [hr.out]; rfl, by unfold sSet; rw [hr.out]; exact H.out.setKey (by decide) ⟨b3, b4⟩, grown_setCell _ _ _ _⟩

end Go.Proofs.Ythjdjbipfdigeaa

namespace Go.Proofs.Ythjdjbipfdigeaa
open Go.RowKit
set_option maxRecDepth 100000
set_option linter.unusedVariables false

theorem splice_get {α : Type} (L : List α) (k : Nat) (us : List α) (h : k + us.length ≤ L.length) (i : Nat) : (splice L k us)[i]? = if i < k then L[i]? else if i < k + us.length then us[i - k]? else L[i]? := by
  unfold splice
  rw [List.getElem?_append]
  rw [List.length_take]
  by_cases h1 : i < k
  · rw [if_pos (by omega), if_pos h1, List.getElem?_take, if_pos h1]
  · rw [if_neg (by omega), if_neg h1, List.getElem?_append, show min k L.length = k from by omega]
    by_cases h2 : i < k + us.length
    · rw [if_pos (by omega), if_pos h2]
    · rw [if_neg (by omega), if_neg h2, List.getElem?_drop]
      congr 1; omega
theorem splice_set {α : Type} (L : List α) (k : Nat) (us : List α) (y : α) (h : k + us.length < L.length) : (splice L k us).set (k + us.length) y = splice L k (us ++ [y]) := by
  apply List.ext_getElem?
  intro i
  rw [List.getElem?_set, splice_get _ _ _ (by omega), splice_get _ _ _ (by simp; omega), length_splice _ _ _ (by omega)]
  simp only [List.length_append, List.length_cons, List.length_nil]
  by_cases h1 : k + us.length = i
  · subst h1
    rw [if_pos rfl, if_pos h, if_neg (by omega), if_pos (by omega), List.getElem?_append, if_neg (by omega)]
    simp
  · rw [if_neg h1]
    by_cases h2 : i < k
    · rw [if_pos h2, if_pos h2]
    · rw [if_neg h2, if_neg h2]
      by_cases h3 : i < k + us.length
      · rw [if_pos h3, if_pos (by omega), List.getElem?_append, if_pos (by omega)]
      · rw [if_neg h3, if_neg (by omega)]
theorem splice_nil {α : Type} (L : List α) (k : Nat) : splice L k [] = L := by simp [splice]
/-- k zero bytes, k zero numbers, behind a name -/
def zeroB (k : Nat) : Array Value := (List.replicate k (Value.int .u8 0)).toArray
def zeroI (k : Nat) : Array Value := (List.replicate k (Value.int .i64 0)).toArray
theorem info_int : (Try.prog.info? 3).map (fun i => (i.zero, i.size, i.bytes)) = some (some (.int .i64 0), 1, 8) := by kernel_rfl
theorem made_one (z : Value) (n : Nat) (hz : z.cells = #[z]) : madeCells z.cells n = (List.replicate n z).toArray := by
  rw [hz]
  unfold madeCells
  apply Array.ext
  · simp
  · intro i h1 h2
    simp [Nat.mod_one]
theorem run_mk_b (k : Nat) (hk : (k : Int) ≤ 1000000) (W : World) : (Instr.makeSlice 31 (.int .i64 (k : Int)) (.int .i64 (k : Int))).run Try.prog W = .ok (.slice (some ⟨W.heap.size, 0, none⟩) k k) (W.alloc (.cells (zeroB k) 5)) := by
  obtain ⟨i0, hi, hz0, hz1, hz2⟩ := info_parts info_u8
  have h := run_make (P := Try.prog) W 31 5 i0 (.int .u8 0) Try.underlying31 hi hz0 .i64 .i64 (k : Int) (k : Int) (by omega) (by omega) (by rw [hz2]; omega) (by omega)
  rw [hz1, Nat.mul_one, Int.toNat_natCast, made_one _ _ rfl] at h
  exact h
theorem run_mk_i (k : Nat) (hk : (k : Int) ≤ 1000000) (W : World) : (Instr.makeSlice 61 (.int .i64 (k : Int)) (.int .i64 (k : Int))).run Try.prog W = .ok (.slice (some ⟨W.heap.size, 0, none⟩) k k) (W.alloc (.cells (zeroI k) 3)) := by
  obtain ⟨i0, hi, hz0, hz1, hz2⟩ := info_parts info_int
  have h := run_make (P := Try.prog) W 61 3 i0 (.int .i64 0) Try.underlying61 hi hz0 .i64 .i64 (k : Int) (k : Int) (by omega) (by omega) (by rw [hz2]; omega) (by omega)
  rw [hz1, Nat.mul_one, Int.toNat_natCast, made_one _ _ rfl] at h
  exact h
theorem own_zeros (W : World) (k base : Nat) (hb : base ≤ W.heap.size) (hk : k ≤ maxLen) : Own (W.alloc (.cells (zeroB k) 5)) base (.slice (some ⟨W.heap.size, 0, none⟩) k k) k (List.replicate k 0) := by
  refine Own.of_heap (cur := List.replicate k (Value.int .u8 0)) (heap_alloc_new W _) (by simp) ?_ (by simp) hb (Nat.le_refl _) hk ?_
  · rw [List.take_of_length_le (by simp)]; simp
  · intro z hz; rw [List.eq_of_mem_replicate hz]; omega

section
variable {T : TypeId} {w : World} {F : Foot} {bs ks : List Int}
/-- COPY out of a storage into new bytes -/
theorem run_copy_from (h : St T w F bs ks) {base g k a : Nat} {c' : Nat} {zs : List Int} {X : Option Addr} (hO : Own w base (.slice (some ⟨g, 0, none⟩) k k) k zs) (ha : a + k ≤ bs.length) (hX : X = some ⟨F.gb, a, none⟩ ∨ (X = some ⟨F.gb, 0, none⟩ ∧ k = 0)) :
    ∃ w2, (Builtin.copy_ #[31, 31] 3 #[.slice (some ⟨g, 0, none⟩) k k, .slice X (bs.length - a) c']).run Try.prog w = .ok (.int .i64 (k : Int)) w2 ∧
      Own w2 base (.slice (some ⟨g, 0, none⟩) k k) k ((bs.drop a).take k) ∧ Below base w w2 := by
  obtain ⟨i0, hi, hz0, hz1, hz2⟩ := info_parts info_u8
  have hone : (Try.prog.info? 5).map (·.size) = some 1 := by rw [hi]; simp [hz1]
  obtain ⟨cur, q1, q2, q3, q4, q5, q6⟩ := Own.heap hO
  have hby := h.byt (a := a) (n := k) (by omega)
  have hlen : (((bs.drop a).take k).map (Value.int .u8)).length = k := by simp; omega
  obtain ⟨ad, rfl, hsrc⟩ : ∃ ad, X = some ad ∧ ∀ j u, (((bs.drop a).take k).map (Value.int .u8))[j]? = some u → w.cell? (ad.add j) = some u := by
    rcases hX with rfl | ⟨rfl, rfl⟩
    · refine ⟨_, rfl, ?_⟩
      rcases Nat.eq_zero_or_pos k with rfl | h0
      · intro j u hu; simp at hu
      · exact hby.cells h0
    · exact ⟨_, rfl, by intro j u hu; simp at hu⟩
  have hrun := run_copy_row (P := Try.prog) w 31 31 3 5 g 0 k k ad (bs.length - a) c' cur.toArray 5 (((bs.drop a).take k).map (Value.int .u8)) Try.underlying31 hone q1 (by rw [hlen]; exact (Nat.min_eq_right (by omega)).symm) hsrc (by rw [hlen]; simp; omega) (by intro v hv; obtain ⟨z, _, rfl⟩ := List.mem_map.1 hv; rfl)
  have e : cur.toArray.toList.take 0 ++ ((bs.drop a).take k).map (Value.int .u8) ++ cur.toArray.toList.drop (0 + (((bs.drop a).take k).map (Value.int .u8)).length) = ((bs.drop a).take k).map (Value.int .u8) := by
    rw [hlen]; simp [List.drop_of_length_le (show cur.length ≤ k by omega)]
  rw [e, hlen] at hrun
  refine ⟨_, hrun, ?_, below_setRow (Below.refl _ _) q4 _⟩
  refine Own.of_heap (setRow_heap w g _ _ _ _ q1) hlen ?_ hby.1 q4 q5 q6 hby.2.1
  rw [List.take_of_length_le (by rw [hlen]; exact Nat.le_refl _)]
/-- COPY of bytes into a storage -/
theorem run_copy_to (h : St T w F bs ks) (hT : T ≠ 5) {a len c dc : Nat} {ys : List Int} {A X : Option Addr} (hy : Byt w A len ys) (ha : a + len ≤ bs.length) (hX : X = some ⟨F.gb, a, none⟩ ∨ (X = some ⟨F.gb, 0, none⟩ ∧ len = 0)) :
    ∃ w2, (Builtin.copy_ #[31, 31] 3 #[.slice X (bs.length - a) dc, .slice A len c]).run Try.prog w = .ok (.int .i64 (len : Int)) w2 ∧
      St T w2 F (splice bs a ys) ks ∧ w.grownBy w2 (some F.gb) := by
  obtain ⟨i0, hi, hz0, hz1, hz2⟩ := info_parts info_u8
  have hone : (Try.prog.info? 5).map (·.size) = some 1 := by rw [hi]; simp [hz1]
  rcases Nat.eq_zero_or_pos len with rfl | h0
  · obtain rfl : ys = [] := List.eq_nil_of_length_eq_zero hy.1
    have hrun := run_copy_none (P := Try.prog) w 31 31 3 5 X A (bs.length - a) dc 0 c Try.underlying31 hone (by simp)
    exact ⟨w, hrun, by rw [splice_nil]; exact h, World.grownBy.refl w _⟩
  · obtain ⟨b, off, rfl, _⟩ := hy.2.2 h0
    obtain rfl : X = some ⟨F.gb, a, none⟩ := by
      rcases hX with h1 | ⟨_, h2⟩
      · exact h1
      · omega
    obtain ⟨cur, h1, h2, h3⟩ := h.lay hT a ys hy.2.1 (by rw [hy.1]; exact ha)
    have hlen : (ys.map (Value.int .u8)).length = len := by simp [hy.1]
    have hcap := h.capb
    have hrun := run_copy_row (P := Try.prog) w 31 31 3 5 F.gb a (bs.length - a) dc ⟨b, off, none⟩ len c cur.toArray 5 (ys.map (Value.int .u8)) Try.underlying31 hone h1 (by rw [hlen]; exact (Nat.min_eq_left (by omega)).symm) (hy.cells h0) (by rw [hlen]; simp; omega) (by intro v hv; obtain ⟨z, _, rfl⟩ := List.mem_map.1 hv; rfl)
    have e : cur.toArray.toList.take a ++ ys.map (Value.int .u8) ++ cur.toArray.toList.drop (a + (ys.map (Value.int .u8)).length) = splice cur a (ys.map (Value.int .u8)) := by simp [splice]
    rw [e, hlen] at hrun
    exact ⟨_, hrun, h3, grown_setRow _ _ _⟩
end
end Go.Proofs.Ythjdjbipfdigeaa

namespace Go.Proofs.Ythjdjbipfdigeaa
open Go.RowKit
set_option maxRecDepth 100000
set_option linter.unusedVariables false
set_option linter.unusedSimpArgs false

/-- the call returns a slice of its own that holds zs, and writes nothing that was there -/
def GivesB (w : World) (zs : List Int) (e : Ending) (w' : World) : Prop := ∃ A m c, e = .returned (.slice A m c) ∧ Own w' w.heap.size (.slice A m c) m zs ∧ Below w.heap.size w w'
theorem sGet_no {N : Nat} {bs : List Int} {addr n : Int} (hN : bs.length = N) (h : sIn N addr n = false) : sGet bs addr n = [] := by unfold sGet; rw [hN, h]; rfl
theorem sGet_yes {N a k : Nat} {bs : List Int} (hN : bs.length = N) (h : sIn N (a : Int) (k : Int) = true) : sGet bs (a : Int) (k : Int) = (bs.drop a).take k := by unfold sGet; rw [hN, h]; simp

set_option maxHeartbeats 1000000 in
theorem bytes_c {F : Foot} {bs ks : List Int} (w : World) (h : St 71 w F bs ks) (addr n : Int) : Calls Try.prog 19 #[.pointer (some ⟨F.g, 0, none⟩), .int .i64 addr, .int .i64 n] w (GivesB w (sGet bs addr n)) := by
  obtain ⟨N, hN⟩ : ∃ N, bs.length = N := ⟨_, rfl⟩
  have c0 := h.cell0
  have H := Lib.hid h
  have n0 : (2048 : Int) ≤ (N : Int) := by have := h.ln; have := h.l0; omega
  have n1 : (N : Int) ≤ 65536 := by have := h.ln; have := h.l1; omega
  rw [hN] at c0
  have HN := Lib.hid hN
  have ltg := H.out.ltg
  clear hN h
  cases hi : sIn N addr n
  · rw [sGet_no HN.out hi]
    go_enter Try.func19, Try.ntmps19
    go_wp2_with (go_at_call 34; refine (in_c _ H.out _ _).mono ?_; rintro e w1 ⟨rfl, rfl⟩; rw [HN.out, hi])
    go_ret
    exact ⟨none, 0, 0, rfl, Own.nil _ _, Below.refl _ _⟩
  obtain ⟨b0, b1, b2, b3⟩ := sIn_yes hi
  obtain ⟨a, rfl⟩ := Int.eq_ofNat_of_zero_le b0
  obtain ⟨k, rfl⟩ := Int.eq_ofNat_of_zero_le b1
  have a0 : (a : Int) ≤ (N : Int) := b2
  have a1 : (a : Int) + (k : Int) ≤ (N : Int) := by omega
  have g0 := Lib.hid (show a + k ≤ bs.length from by rw [HN.out]; omega)
  have lb := H.out.capb
  rw [HN.out] at lb
  have lbb := H.out.maxb
  unfold maxLen at lbb
  have kN : (k : Int) ≤ 1000000 := by omega
  have aN : a ≤ N := by omega
  have kk : k ≤ N - a := by omega
  rw [sGet_yes HN.out hi]
  by_cases hcap : F.cb = a
  · obtain rfl : N = a := by omega
    obtain rfl : k = 0 := by omega
    rw [show ((0 : Nat) : Int) = 0 from rfl] at hi ⊢
    have hmk : ∀ W : World, (Instr.makeSlice 31 (.int .i64 0) (.int .i64 0)).run Try.prog W = .ok (.slice (some ⟨W.heap.size, 0, none⟩) 0 0) (W.alloc (.cells (zeroB 0) 5)) := fun W => run_mk_b 0 (by decide) W
    obtain ⟨w2, hcp, ho, hb⟩ := run_copy_from (H.out.alloc (.cells (zeroB 0) 5)) (own_zeros w 0 w.heap.size (Nat.le_refl _) (by decide)) g0.out (c' := 0) (.inr ⟨rfl, rfl⟩)
    rw [HN.out, Nat.sub_self] at hcp
    have hcp' : (Builtin.copy_ #[31, 31] 3 #[.slice (some ⟨w.heap.size, 0, none⟩) 0 0, .slice (some ⟨F.gb, 0, none⟩) 0 0]).run Try.prog (w.alloc (.cells (zeroB 0) 5)) = .ok (.int .i64 0) w2 := hcp
    have HO := Lib.hid ho
    have HB := Lib.hid hb
    rw [hcap] at c0
    clear ho hb hcp hcap lb lbb
    go_enter Try.func19, Try.ntmps19
    go_wp2_with (go_at_call 34; refine (in_c _ H.out _ _).mono ?_; rintro e w1 ⟨rfl, rfl⟩; rw [HN.out, hi])
    go_ret
    exact ⟨_, _, _, rfl, HO.out, ((Below.refl w.heap.size w).alloc (Nat.le_refl _) _).trans HB.out⟩
  · have hmk := fun W => run_mk_b k kN W
    obtain ⟨w2, hcp, ho, hb⟩ := run_copy_from (H.out.alloc (.cells (zeroB k) 5)) (own_zeros w k w.heap.size (Nat.le_refl _) (by unfold maxLen; omega)) g0.out (c' := F.cb - a) (.inl rfl)
    rw [HN.out] at hcp
    have HO := Lib.hid ho
    have HB := Lib.hid hb
    clear ho hb
    go_enter Try.func19, Try.ntmps19
    go_wp2_with (go_at_call 34; refine (in_c _ H.out _ _).mono ?_; rintro e w1 ⟨rfl, rfl⟩; rw [HN.out, hi])
    go_ret
    exact ⟨_, _, _, rfl, HO.out, ((Below.refl w.heap.size w).alloc (Nat.le_refl _) _).trans HB.out⟩

end Go.Proofs.Ythjdjbipfdigeaa

