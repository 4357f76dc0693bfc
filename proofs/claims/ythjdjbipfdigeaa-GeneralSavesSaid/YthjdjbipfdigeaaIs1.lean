/- CONTRACTS of package isa: digit, code, row, Form, Length, title, Name, Privileged. No conditions but the place's own bounds. -/
import Derived.Test.YthjdjbipfdigeaaIs0
import Derived.Test.YthjdjbipfdigeaaWdF
import Derived.Test.YthjdjbipfdigeaaPw2
import Derived.Test.YthjdjbipfdigeaaQt
import Derived.Lib.Hide
import Derived.Scope
import Derived.Outline
import Derived.Handy
import Derived.BigQuiet
import Derived.Deep.QuietTactic
import Derived.Test.YthjdjbipfdigeaaRg
namespace Go.Proofs.Ythjdjbipfdigeaa
open Go.RowKit
set_option linter.unusedVariables false
set_option linter.unusedSimpArgs false
theorem digit_c (c : Int) (h0 : 48 ≤ c) (h1 : c ≤ 255) (w : World) : Calls Try.prog 95 #[.int .u8 c] w fun e w' => e = .returned (.int .i64 (dig c)) ∧ w = w' := by
  by_cases h : 65 ≤ c
  · have hd := Lib.hid (show dig c = c - 65 + 10 by unfold dig; rw [if_pos h]; omega)
    go_enter Try.func95, Try.ntmps95
    go_wp2
    go_ret
    exact ⟨by rw [hd.out]; rfl, rfl⟩
  · have hd := Lib.hid (show dig c = c - 48 by unfold dig; rw [if_neg h])
    go_enter Try.func95, Try.ntmps95
    go_wp2
    go_ret
    exact ⟨by rw [hd.out]; rfl, rfl⟩
set_option maxRecDepth 1000000 in
set_option maxHeartbeats 4000000 in
theorem code_c (k : Nat) (hk : k < 97) (w : World) : Calls Try.prog 51 #[.int .i64 ((8 * k : Nat) : Int)] w fun e w' => e = .returned (.int .i64 (opK k)) ∧ ∃ n, w' = w.drewN n := by
  have X := Lib.hid (tb_hex k hk)
  have O := Lib.hid (tb_op k hk)
  obtain ⟨a, ha⟩ : ∃ a, 8 * k = a := ⟨_, rfl⟩
  rw [ha] at X O ⊢
  have h1 : a ≤ 768 := by omega
  have m1 : (a : Int) < 776 := by omega
  have m2 : (a : Int) + 1 < 776 := by omega
  have m3 : 0 ≤ (a : Int) + 1 := by omega
  have hw : IntKind.i64.wrap ((a : Int) + 1) = ((a + 1 : Nat) : Int) := by simp only [IntKind.wrap, IntKind.bits, IntKind.signed]; simp; omega
  clear ha hk
  go_enter Try.func51, Try.ntmps51
  go_wp2_with fail
  refine wp_region_held_drew (S := (fun w' => ∃ n, w' = w.drewN n)) (by kernel_rfl) ?_ (fun hHeld => ?_)
  · (try dsimp only); exact ⟨1, rfl⟩
  refine' takeL (i := 0) (v := _) rfl (by kernel_rfl) (by kernel_rfl) (by kernel_rfl) (fun _ _ _ h => h) (Or.inl ⟨by rfl, ?yy1⟩) (by assumption) ?rr1
  case yy1 => intro w hSw; (try dsimp only at hSw); go_simp; (try with_reducible rfl)
  try simp only [Act.put, List.setIfInBounds_toArray, List.set_cons_zero, List.set_cons_succ]
  refine' takeL (i := 1) (v := _) rfl (by kernel_rfl) (by kernel_rfl) (by kernel_rfl) (fun _ _ _ h => h) (Or.inl ⟨by rfl, ?yy2⟩) (by assumption) ?rr2
  case yy2 => intro w hSw; (try dsimp only at hSw); go_simp; (try rw [tb_get _ _ _ (by kernel_rfl)]); (try with_reducible rfl)
  try simp only [Act.put, List.setIfInBounds_toArray, List.set_cons_zero, List.set_cons_succ]
  refine' takeL (i := 4) (v := _) rfl (by kernel_rfl) (by kernel_rfl) (by kernel_rfl) (fun _ _ _ h => h) (Or.inl ⟨by rfl, ?yy3⟩) (by assumption) ?rr3
  case yy3 => intro w hSw; (try dsimp only at hSw); go_simp; (try with_reducible rfl)
  try simp only [Act.put, List.setIfInBounds_toArray, List.set_cons_zero, List.set_cons_succ]
  refine' takeL (i := 5) (v := _) rfl (by kernel_rfl) (by kernel_rfl) (by kernel_rfl) (fun _ _ _ h => h) (Or.inl ⟨by rfl, ?yy4⟩) (by assumption) ?rr4
  case yy4 => intro w hSw; (try dsimp only at hSw); go_simp; (try with_reducible rfl)
  try simp only [Act.put, List.setIfInBounds_toArray, List.set_cons_zero, List.set_cons_succ]
  refine' takeL (i := 6) (v := _) rfl (by kernel_rfl) (by kernel_rfl) (by kernel_rfl) (fun _ _ _ h => h) (Or.inl ⟨by rfl, ?yy5⟩) (by assumption) ?rr5
  case yy5 => intro w hSw; (try dsimp only at hSw); go_simp; (try rw [tb_get _ _ _ (by kernel_rfl)]); (try with_reducible rfl)
  try simp only [Act.put, List.setIfInBounds_toArray, List.set_cons_zero, List.set_cons_succ]
  refine wpAnyH_ready (rs := [2]) (by kernel_rfl) (by simp) ?_
  refine consL rfl (fun K hK => ?_) AllReadyH.nil
  go_simp
  go_at_call 95
  refine (digit_c _ (by have := X.out; omega) (by have := X.out; omega) _).mono ?_
  rintro e _ ⟨rfl, rfl⟩
  go_wp2_with fail
  refine hK.out _ _ ?_ (fun hHeld => ?_)
  · (try dsimp only); exact hHeld
  clear hK K
  try simp only [Act.put, List.setIfInBounds_toArray, List.set_cons_zero, List.set_cons_succ]
  refine' takeL (i := 3) (v := _) rfl (by kernel_rfl) (by kernel_rfl) (by kernel_rfl) (fun _ _ _ h => h) (Or.inl ⟨by rfl, ?yy6⟩) (by assumption) ?rr6
  case yy6 => intro w hSw; (try dsimp only at hSw); go_simp; (try with_reducible rfl)
  try simp only [Act.put, List.setIfInBounds_toArray, List.set_cons_zero, List.set_cons_succ]
  refine wpAnyH_ready (rs := [7]) (by kernel_rfl) (by simp) ?_
  refine consL rfl (fun K hK => ?_) AllReadyH.nil
  go_simp
  go_at_call 95
  refine (digit_c _ (by have := X.out; omega) (by have := X.out; omega) _).mono ?_
  rintro e _ ⟨rfl, rfl⟩
  go_wp2_with fail
  refine hK.out _ _ ?_ (fun hHeld => ?_)
  · (try dsimp only); exact hHeld
  clear hK K
  try simp only [Act.put, List.setIfInBounds_toArray, List.set_cons_zero, List.set_cons_succ]
  refine' takeL (i := 8) (v := _) rfl (by kernel_rfl) (by kernel_rfl) (by kernel_rfl) (fun _ _ _ h => h) (Or.inl ⟨by rfl, ?yy7⟩) (by assumption) ?rr7
  case yy7 => intro w hSw; (try dsimp only at hSw); go_simp; (try with_reducible rfl)
  try simp only [Act.put, List.setIfInBounds_toArray, List.set_cons_zero, List.set_cons_succ]
  refine' takeL (i := 9) (v := _) rfl (by kernel_rfl) (by kernel_rfl) (by kernel_rfl) (fun _ _ _ h => h) (Or.inl ⟨by rfl, ?yy8⟩) (by assumption) ?rr8
  case yy8 => intro w hSw; (try dsimp only at hSw); go_simp; (try with_reducible rfl)
  try simp only [Act.put, List.setIfInBounds_toArray, List.set_cons_zero, List.set_cons_succ]
  refine wpAnyH_done (by kernel_rfl) ?_ _
  go_wp2
  go_ret
  exact ⟨by rw [← O.out]; show Ending.returned (.int .i64 (IntKind.i64.wrap (IntKind.i64.wrap (16 * dig ↑(tb a)) + dig ↑(tb (a + 1))))) = _; rw [wrap_hex (dig_range _ (by have := X.out; omega) (by have := X.out; omega)) (dig_range _ (by have := X.out; omega) (by have := X.out; omega))], 1, rfl⟩
theorem wrap_i64_id {n : Int} (h0 : -9223372036854775808 ≤ n) (h1 : n ≤ 9223372036854775807) : IntKind.i64.wrap n = n := by
  simp only [IntKind.wrap, IntKind.bits, IntKind.signed]; simp; omega
set_option maxRecDepth 1000000 in
set_option maxHeartbeats 4000000 in
theorem row_c (op : Int) (w : World) : Calls Try.prog 39 #[.int .i64 op] w fun e w' => e = .returned (.int .i64 (rowAt op)) ∧ ∃ n, w' = w.drewN n := by
  go_enter Try.func39, Try.ntmps39
  go_wp2_with (first | refine wp_scope_straight ?_ | refine wp_label ?_)
  go_loopw [3, 4] (fun f x wr => ∃ k : Nat, k ≤ 97 ∧ f = .int .i64 (-1) ∧ x = .int .i64 ((8 * k : Nat) : Int) ∧ (∀ j, j < k → opK j < op) ∧ ∃ n, wr = w.drewN n) (fun _ x _ => 776 - (intOf x).toNat)
  case atStart => exact ⟨0, by omega, rfl, rfl, by intro j hj; omega, 0, rfl⟩
  case round =>
    obtain ⟨k, hk, rfl, rfl, hlo, n, rfl⟩ := hrel
    have LO := Lib.hid hlo
    clear hlo
    by_cases hlt : k < 97
    · have hI : ((8 * k : Nat) : Int) < 776 := by omega
      obtain ⟨a, ha⟩ : ∃ a, 8 * k = a := ⟨_, rfl⟩
      have CC := Lib.hid (code_c k hlt)
      rw [ha] at CC hI
      rw [ha]
      have HA := Lib.hid ha
      clear ha
      obtain ⟨o, ho⟩ : ∃ o, opK k = o := ⟨_, rfl⟩
      rw [ho] at CC
      have HO := Lib.hid ho
      clear ho
      rcases (show o < op ∨ o = op ∨ op < o by omega) with h | h | h
      · go_wp2_with fail
        refine (CC.out _).mono ?_
        rintro e w1 ⟨rfl, n1, rfl⟩
        go_wp2_with fail
        refine ⟨⟨k + 1, by omega, rfl, ?_, ?_, _, rfl⟩, ?_⟩
        · congr 1; have := HA.out; omega
        · intro j hj
          rcases Nat.lt_or_ge j k with h2 | h2
          · exact LO.out j h2
          · rw [show j = k by omega, HO.out]; exact h
        · have := HA.out; simp [intOf]; omega
      · have hr := Lib.hid (show rowAt op = (a : Int) by unfold rowAt; rw [ix_of hlt (HO.out.trans h), if_pos hlt, HA.out])
        have e1 : (o == op) = true := by simp [h]
        have e2 : ¬ (o < op) := by omega
        clear h
        go_wp2_with fail
        refine (CC.out _).mono ?_
        rintro e w1 ⟨rfl, n1, rfl⟩
        go_wp2_with fail
        simp only [Exit.noGoto]
        go_ret
        exact ⟨by rw [hr.out]; rfl, _, rfl⟩
      · have hr := Lib.hid (show rowAt op = -1 by
          unfold rowAt
          rw [ix_none (op := op) fun j hj => ?_, if_neg (by omega)]
          rcases Nat.lt_or_ge j k with h2 | h2
          · have := LO.out j h2; omega
          · rcases Nat.lt_or_ge k j with h3 | h3
            · have := op_lt h3 hj; have := HO.out; omega
            · rw [show j = k by omega, HO.out]; omega)
        have e1 : (o == op) = false := by rw [beq_eq_false_iff_ne]; omega
        have e2 : ¬ (o < op) := by omega
        go_wp2_with fail
        refine (CC.out _).mono ?_
        rintro e w1 ⟨rfl, n1, rfl⟩
        go_wp2_with fail
        simp only [Exit.noGoto]
        go_ret
        exact ⟨by rw [hr.out]; rfl, _, rfl⟩
    · obtain rfl : k = 97 := by omega
      have hr := Lib.hid (show rowAt op = -1 by
        unfold rowAt
        rw [ix_none (op := op) fun j hj => by have := LO.out j hj; omega, if_neg (by omega)])
      go_wp2_with fail
      simp only [Exit.noGoto]
      go_ret
      exact ⟨by rw [hr.out]; rfl, _, rfl⟩
set_option maxRecDepth 1000000 in
set_option maxHeartbeats 4000000 in
theorem form_c (op : Int) (w : World) : Calls Try.prog 25 #[.int .i64 op] w fun e w' => e = .returned (.tuple #[.int .i64 (fmOf op), .bool (isOp op)]) ∧ ∃ n, w' = w.drewN n := by
  by_cases hx : ix op < 97
  · have F := Lib.hid (tb_fm _ hx)
    have R := Lib.hid (row_c op)
    have r1 := Lib.hid (show fmOf op = fmK (ix op) from by unfold fmOf; rw [if_pos hx])
    have r2 := Lib.hid (show isOp op = true from by unfold isOp; simpa using hx)
    have r3 := Lib.hid (show rowAt op = ((8 * ix op : Nat) : Int) from by unfold rowAt; rw [if_pos hx])
    obtain ⟨a, ha⟩ : ∃ a, 8 * ix op = a := ⟨_, rfl⟩
    rw [r3.out, ha] at R
    rw [ha] at F
    rw [r1.out, r2.out]
    have h1 : a ≤ 768 := by omega
    clear ha hx r1 r2 r3
    have m1 : 0 ≤ (a : Int) + 8 - 1 := by omega
    have m2 : (a : Int) + 8 - 1 < 776 := by omega
    have m3 : ¬ ((a : Int) < 0) := by omega
    go_enter Try.func25, Try.ntmps25
    go_wp2_with (go_at_call 39; refine (R.out _).mono ?_; rintro e w1 ⟨rfl, n1, rfl⟩)
    go_ret2
    refine ⟨?_, _, rfl⟩
    have e1 : ((tb (a + 7) : Int) - 97) % 256 + 1 = fmK (ix op) := by have := F.out; omega
    rw [tb_get _ _ _ (by kernel_rfl), e1]; rfl
  · have R := Lib.hid (row_c op)
    have r1 := Lib.hid (show fmOf op = 0 from by unfold fmOf; rw [if_neg hx])
    have r2 := Lib.hid (show isOp op = false from by unfold isOp; simpa using hx)
    have r3 := Lib.hid (show rowAt op = -1 from by unfold rowAt; rw [if_neg hx])
    rw [r3.out] at R
    rw [r1.out, r2.out]
    clear hx r1 r2 r3
    go_enter Try.func25, Try.ntmps25
    go_wp2_with (go_at_call 39; refine (R.out _).mono ?_; rintro e w1 ⟨rfl, n1, rfl⟩)
    go_ret2
    exact ⟨rfl, _, rfl⟩
theorem priv_c (op : Int) (w : World) : Calls Try.prog 26 #[.int .i64 op] w fun e w' => e = .returned (.bool (privB op)) ∧ w = w' := by
  by_cases h : op = 8 ∨ op = 9 ∨ op = 128 ∨ op = 130 ∨ op = 156 ∨ op = 157 ∨ op = 158 ∨ op = 159
  · have hr := Lib.hid (show privB op = true from by unfold privB; rw [decide_eq_true_iff]; omega)
    rcases h with rfl | rfl | rfl | rfl | rfl | rfl | rfl | rfl <;>
    · go_enter Try.func26, Try.ntmps26
      go_wp2
      go_ret
      exact ⟨by rw [hr.out]; rfl, rfl⟩
  · have hr := Lib.hid (show privB op = false from by unfold privB; rw [decide_eq_false_iff_not]; omega)
    have p8 : (op == 8) = false := by rw [beq_eq_false_iff_ne]; omega
    have p9 : (op == 9) = false := by rw [beq_eq_false_iff_ne]; omega
    have p128 : (op == 128) = false := by rw [beq_eq_false_iff_ne]; omega
    have p130 : (op == 130) = false := by rw [beq_eq_false_iff_ne]; omega
    have p156 : (op == 156) = false := by rw [beq_eq_false_iff_ne]; omega
    have p157 : (op == 157) = false := by rw [beq_eq_false_iff_ne]; omega
    have p158 : (op == 158) = false := by rw [beq_eq_false_iff_ne]; omega
    have p159 : (op == 159) = false := by rw [beq_eq_false_iff_ne]; omega
    clear h
    go_enter Try.func26, Try.ntmps26
    go_wp2
    go_ret
    exact ⟨by rw [hr.out]; rfl, rfl⟩
end Go.Proofs.Ythjdjbipfdigeaa
