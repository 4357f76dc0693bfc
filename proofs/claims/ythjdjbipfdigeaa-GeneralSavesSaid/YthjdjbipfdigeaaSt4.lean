/- CONTRACTS of package store and its reference: the reference's code. No conditions but that the storage reads as one. -/
import Derived.Test.YthjdjbipfdigeaaSt3
import Derived.Lib.Hide
import Derived.Outline
import Derived.Handy
import Derived.BigQuiet
import Derived.Deep.QuietTactic
namespace Go.Proofs.Ythjdjbipfdigeaa
open Go.RowKit
set_option maxRecDepth 100000
set_option linter.unusedVariables false
set_option linter.unusedSimpArgs false

theorem okB_zero (al : Int → Bool) (ks : List Int) (a : Nat) : okB al ks a 0 = true := by simp [okB]
theorem okB_succ (al : Int → Bool) (ks : List Int) (a n : Nat) : okB al ks a (n + 1) = (okB al ks a n && al (ks.getD ((a + n) / 2048) 0)) := by
  unfold okB
  rw [List.range_succ, List.all_append]
  simp
theorem okB_false {al : Int → Bool} {ks : List Int} {a n j : Nat} (hj : j < n) (h : al (ks.getD ((a + j) / 2048) 0) = false) : okB al ks a n = false := by
  rw [Bool.eq_false_iff]
  intro h1
  unfold okB at h1
  rw [List.all_eq_true] at h1
  have := h1 j (List.mem_range.2 hj)
  rw [h] at this; cases this
theorem sCode_no {al : Int → Bool} {N : Nat} {ks : List Int} {addr n : Int} (h : sIn N addr n = false) : sCode al N ks addr n = 5 := by unfold sCode; rw [h]; rfl
theorem sCode_yes {al : Int → Bool} {N : Nat} {ks : List Int} {a n : Nat} (h : sIn N (a : Int) (n : Int) = true) : sCode al N ks (a : Int) (n : Int) = if okB al ks a n = true then 0 else 4 := by unfold sCode; rw [h]; simp

set_option maxHeartbeats 2000000 in
theorem rcode_p {F : Foot} {bs ks : List Int} (w : World) (h : St 93 w F bs ks) (addr n key : Int) : Calls Try.prog 50 #[.pointer (some ⟨F.g, 0, none⟩), .int .i64 addr, .int .i64 n, .int .i64 key, .bool false] w fun e w' => e = .returned (.int .i64 (sCode (alP key) bs.length ks addr n)) ∧ w = w' := by
  obtain ⟨N, hN⟩ : ∃ N, bs.length = N := ⟨_, rfl⟩
  obtain ⟨m, hm⟩ : ∃ m, ks.length = m := ⟨_, rfl⟩
  have c0 := h.cell0
  have c1 := h.cell1
  have H := Lib.hid h
  have LN := Lib.hid (show N = 2048 * m from by rw [← hN, ← hm]; exact h.ln)
  have n0 : (2048 : Int) ≤ (N : Int) := by have := h.ln; have := h.l0; omega
  have n1 : (N : Int) ≤ 65536 := by have := h.ln; have := h.l1; omega
  rw [hN] at c0
  rw [hm] at c1
  have HN := Lib.hid hN
  have HM := Lib.hid hm
  have ltg := H.out.ltg
  clear hN hm h
  rw [HN.out]
  cases hi : sIn N addr n
  · rw [sCode_no hi]
    go_enter Try.func50, Try.ntmps50
    go_wp2_with (go_at_call 94; refine (rin_c _ H.out _ _).mono ?_; rintro e w1 ⟨rfl, rfl⟩; rw [HN.out, hi])
    go_ret
    exact ⟨rfl, rfl⟩
  obtain ⟨b0, b1, b2, b3⟩ := sIn_yes hi
  obtain ⟨a, rfl⟩ := Int.eq_ofNat_of_zero_le b0
  obtain ⟨k, rfl⟩ := Int.eq_ofNat_of_zero_le b1
  rw [sCode_yes hi]
  have a0 : (a : Int) ≤ (N : Int) := b2
  have a1 : (a : Int) + (k : Int) ≤ (N : Int) := by omega
  obtain ⟨r, hr⟩ : ∃ r : Int, (if okB (alP key) ks a k = true then 0 else 4) = r := ⟨_, rfl⟩
  rw [hr]
  have HR := Lib.hid hr
  clear hr
  go_enter Try.func50, Try.ntmps50
  go_wp2_with (go_at_call 94; refine (rin_c _ H.out _ _).mono ?_; rintro e w1 ⟨rfl, rfl⟩; rw [HN.out, hi])
  go_loop [11] (fun iv => ∃ x : Nat, a ≤ x ∧ x ≤ a + k ∧ iv = .int .i64 x ∧ okB (alP key) ks a (x - a) = true) (fun iv => a + k - (intOf iv).toNat)
  case atStart => exact ⟨a, Nat.le_refl _, by omega, rfl, by rw [Nat.sub_self]; exact okB_zero _ _ _⟩
  case round =>
    obtain ⟨x, x0, x1, rfl, hok⟩ := hrel
    have OK := Lib.hid hok
    clear hok
    by_cases hlt : (x : Int) < (a : Int) + (k : Int)
    · have i0 : 0 ≤ (x : Int) / 2048 := by omega
      have i1 : (x : Int) / 2048 < (m : Int) := by have := LN.out; omega
      have ck := H.out.key (i := x / 2048) (by rw [HM.out]; have := LN.out; omega)
      have rk := H.out.keyr (x / 2048)
      obtain ⟨kv, hk⟩ : ∃ kv, ks.getD (x / 2048) 0 = kv := ⟨_, rfl⟩
      rw [hk] at ck rk
      have HK := Lib.hid hk
      obtain ⟨k0, k1⟩ := rk
      clear hk
      have st := Lib.hid (show okB (alP key) ks a (x + 1 - a) = alP key kv from by rw [show x + 1 - a = (x - a) + 1 from by omega, okB_succ, OK.out, show a + (x - a) = x from by omega, HK.out]; rfl)
      have fl := fun h : alP key kv = false => (show okB (alP key) ks a k = false from okB_false (j := x - a) (by omega) (by rw [show a + (x - a) = x from by omega, HK.out]; exact h))
      have FL := Lib.hid fl
      clear fl
      by_cases q0 : key = 0
      · subst q0
        have ok := Lib.hid (show alP 0 kv = true from by simp [alP] <;> omega)
        go_wp2
        go_round
        case rel => exact ⟨x + 1, by omega, by omega, by go_num, by rw [st.out]; exact ok.out⟩
        case measure => simp [intOf]; omega
      have e1 : (key != 0) = true := by simpa using q0
      by_cases q1 : key = kv / 2
      · have e2 : (key != kv / 2) = false := by rw [bne_eq_false_iff_eq]; exact q1
        have ok := Lib.hid (show alP key kv = true from by simp [alP] <;> omega)
        clear q1
        go_wp2
        go_round
        case rel => exact ⟨x + 1, by omega, by omega, by go_num, by rw [st.out]; exact ok.out⟩
        case measure => simp [intOf]; omega
      have e2 : (key != kv / 2) = true := by rw [bne_iff_ne]; exact q1
      have bad := Lib.hid (FL.out (show alP key kv = false from by simp [alP] <;> omega))
      clear q0 q1
      go_wp2
      go_ret
      exact ⟨by rw [← HR.out, bad.out]; rfl, rfl⟩
    · obtain rfl : x = a + k := by omega
      have fin := Lib.hid (show r = 0 from by rw [← HR.out, show okB (alP key) ks a k = true from by have := OK.out; rwa [Nat.add_sub_cancel_left] at this]; rfl)
      go_wp2
      go_ret
      exact ⟨by rw [fin.out]; rfl, rfl⟩

set_option maxHeartbeats 2000000 in
theorem rcode_f {F : Foot} {bs ks : List Int} (w : World) (h : St 93 w F bs ks) (addr n key : Int) : Calls Try.prog 50 #[.pointer (some ⟨F.g, 0, none⟩), .int .i64 addr, .int .i64 n, .int .i64 key, .bool true] w fun e w' => e = .returned (.int .i64 (sCode (alF key) bs.length ks addr n)) ∧ w = w' := by
  obtain ⟨N, hN⟩ : ∃ N, bs.length = N := ⟨_, rfl⟩
  obtain ⟨m, hm⟩ : ∃ m, ks.length = m := ⟨_, rfl⟩
  have c0 := h.cell0
  have c1 := h.cell1
  have H := Lib.hid h
  have LN := Lib.hid (show N = 2048 * m from by rw [← hN, ← hm]; exact h.ln)
  have n0 : (2048 : Int) ≤ (N : Int) := by have := h.ln; have := h.l0; omega
  have n1 : (N : Int) ≤ 65536 := by have := h.ln; have := h.l1; omega
  rw [hN] at c0
  rw [hm] at c1
  have HN := Lib.hid hN
  have HM := Lib.hid hm
  have ltg := H.out.ltg
  clear hN hm h
  rw [HN.out]
  cases hi : sIn N addr n
  · rw [sCode_no hi]
    go_enter Try.func50, Try.ntmps50
    go_wp2_with (go_at_call 94; refine (rin_c _ H.out _ _).mono ?_; rintro e w1 ⟨rfl, rfl⟩; rw [HN.out, hi])
    go_ret
    exact ⟨rfl, rfl⟩
  obtain ⟨b0, b1, b2, b3⟩ := sIn_yes hi
  obtain ⟨a, rfl⟩ := Int.eq_ofNat_of_zero_le b0
  obtain ⟨k, rfl⟩ := Int.eq_ofNat_of_zero_le b1
  rw [sCode_yes hi]
  have a0 : (a : Int) ≤ (N : Int) := b2
  have a1 : (a : Int) + (k : Int) ≤ (N : Int) := by omega
  obtain ⟨r, hr⟩ : ∃ r : Int, (if okB (alF key) ks a k = true then 0 else 4) = r := ⟨_, rfl⟩
  rw [hr]
  have HR := Lib.hid hr
  clear hr
  go_enter Try.func50, Try.ntmps50
  go_wp2_with (go_at_call 94; refine (rin_c _ H.out _ _).mono ?_; rintro e w1 ⟨rfl, rfl⟩; rw [HN.out, hi])
  go_loop [11] (fun iv => ∃ x : Nat, a ≤ x ∧ x ≤ a + k ∧ iv = .int .i64 x ∧ okB (alF key) ks a (x - a) = true) (fun iv => a + k - (intOf iv).toNat)
  case atStart => exact ⟨a, Nat.le_refl _, by omega, rfl, by rw [Nat.sub_self]; exact okB_zero _ _ _⟩
  case round =>
    obtain ⟨x, x0, x1, rfl, hok⟩ := hrel
    have OK := Lib.hid hok
    clear hok
    by_cases hlt : (x : Int) < (a : Int) + (k : Int)
    · have i0 : 0 ≤ (x : Int) / 2048 := by omega
      have i1 : (x : Int) / 2048 < (m : Int) := by have := LN.out; omega
      have ck := H.out.key (i := x / 2048) (by rw [HM.out]; have := LN.out; omega)
      have rk := H.out.keyr (x / 2048)
      obtain ⟨kv, hk⟩ : ∃ kv, ks.getD (x / 2048) 0 = kv := ⟨_, rfl⟩
      rw [hk] at ck rk
      have HK := Lib.hid hk
      obtain ⟨k0, k1⟩ := rk
      clear hk
      have st := Lib.hid (show okB (alF key) ks a (x + 1 - a) = alF key kv from by rw [show x + 1 - a = (x - a) + 1 from by omega, okB_succ, OK.out, show a + (x - a) = x from by omega, HK.out]; rfl)
      have fl := fun h : alF key kv = false => (show okB (alF key) ks a k = false from okB_false (j := x - a) (by omega) (by rw [show a + (x - a) = x from by omega, HK.out]; exact h))
      have FL := Lib.hid fl
      clear fl
      by_cases q0 : key = 0
      · subst q0
        have ok := Lib.hid (show alF 0 kv = true from by simp [alF] <;> omega)
        go_wp2
        go_round
        case rel => exact ⟨x + 1, by omega, by omega, by go_num, by rw [st.out]; exact ok.out⟩
        case measure => simp [intOf]; omega
      have e1 : (key != 0) = true := by simpa using q0
      by_cases q1 : key = kv / 2
      · have e2 : (key != kv / 2) = false := by rw [bne_eq_false_iff_eq]; exact q1
        have ok := Lib.hid (show alF key kv = true from by simp [alF] <;> omega)
        clear q1
        go_wp2
        go_round
        case rel => exact ⟨x + 1, by omega, by omega, by go_num, by rw [st.out]; exact ok.out⟩
        case measure => simp [intOf]; omega
      have e2 : (key != kv / 2) = true := by rw [bne_iff_ne]; exact q1
      by_cases q2 : kv % 2 = 0
      · have e3 : (kv % 2 == 1) = false := by rw [beq_eq_false_iff_ne]; omega
        have ok := Lib.hid (show alF key kv = true from by simp [alF] <;> omega)
        clear q2
        go_wp2
        go_round
        case rel => exact ⟨x + 1, by omega, by omega, by go_num, by rw [st.out]; exact ok.out⟩
        case measure => simp [intOf]; omega
      have e3 : (kv % 2 == 1) = true := by rw [beq_iff_eq]; omega
      have bad := Lib.hid (FL.out (show alF key kv = false from by simp [alF] <;> omega))
      clear q0 q1
      go_wp2
      go_ret
      exact ⟨by rw [← HR.out, bad.out]; rfl, rfl⟩
    · obtain rfl : x = a + k := by omega
      have fin := Lib.hid (show r = 0 from by rw [← HR.out, show okB (alF key) ks a k = true from by have := OK.out; rwa [Nat.add_sub_cancel_left] at this]; rfl)
      go_wp2
      go_ret
      exact ⟨by rw [fin.out]; rfl, rfl⟩

end Go.Proofs.Ythjdjbipfdigeaa
