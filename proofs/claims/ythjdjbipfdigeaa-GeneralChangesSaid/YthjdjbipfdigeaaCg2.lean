/- Contracts and laws on the way to the statement, text 2 of 25. Conditions: as each states them. -/
import Derived.Test.YthjdjbipfdigeaaCg1
import Derived.WalkKit
import Derived.Deep.QuietTactic
import Derived.BigQuiet
import Derived.Lib.Hide
import Derived.Scope
import Derived.Outline
import Derived.Handy
import Derived.Test.YthjdjbipfdigeaaProg
import Derived.Laws.StructEq
import Derived.Laws.Tables
import Derived.TacticsIn
import Derived.Sort.QuietIn
import Derived.RangeFuncCalls
import Derived.RegionIn
import Derived.Deep.Cut
import Derived.BigRegion
namespace Go.Proofs.Ythjdjbipfdigeaa
open Go.RowKit
set_option linter.unusedVariables false
set_option linter.unusedSimpArgs false
theorem digit_c (c : Int) (h0 : 48 ≤ c) (h1 : c ≤ 255) (w : World) : Calls Try.prog 95 #[.int .u8 c] w fun e w' => e = .returned (.int .i64 (dig c)) ∧ w = w' := by
  by_cases h : 65 ≤ c
  · have hd := Lib.hid (show dig c = c - 65 + 10 by unfold dig; rw [if_pos h]; omega)
    go_enter Try.func95, Try.ntmps95
    go_wp2
    go_ret
    exact ⟨by rw [hd.out]; rfl, rfl⟩
  · have hd := Lib.hid (show dig c = c - 48 by unfold dig; rw [if_neg h])
    go_enter Try.func95, Try.ntmps95
    go_wp2
    go_ret
    exact ⟨by rw [hd.out]; rfl, rfl⟩
set_option maxRecDepth 1000000 in
set_option maxHeartbeats 4000000 in
theorem code_c (k : Nat) (hk : k < 97) (w : World) : Calls Try.prog 51 #[.int .i64 ((8 * k : Nat) : Int)] w fun e w' => e = .returned (.int .i64 (opK k)) ∧ ∃ n, w' = w.drewN n := by
  have X := Lib.hid (tb_hex k hk)
  have O := Lib.hid (tb_op k hk)
  obtain ⟨a, ha⟩ : ∃ a, 8 * k = a := ⟨_, rfl⟩
  rw [ha] at X O ⊢
  have h1 : a ≤ 768 := by omega
  have m1 : (a : Int) < 776 := by omega
  have m2 : (a : Int) + 1 < 776 := by omega
  have m3 : 0 ≤ (a : Int) + 1 := by omega
  have hw : IntKind.i64.wrap ((a : Int) + 1) = ((a + 1 : Nat) : Int) := by simp only [IntKind.wrap, IntKind.bits, IntKind.signed]; simp; omega
  clear ha hk
  go_enter Try.func51, Try.ntmps51
  go_wp2_with fail
  refine wp_region_held_drew (S := (fun w' => ∃ n, w' = w.drewN n)) (by kernel_rfl) ?_ (fun hHeld => ?_)
  · (try dsimp only); exact ⟨1, rfl⟩
  refine' takeL (i := 0) (v := _) rfl (by kernel_rfl) (by kernel_rfl) (by kernel_rfl) (fun _ _ _ h => h) (Or.inl ⟨by rfl, ?yy1⟩) (by assumption) ?rr1
  case yy1 => intro w hSw; (try dsimp only at hSw); go_simp; (try with_reducible rfl)
  try simp only [Act.put, List.setIfInBounds_toArray, List.set_cons_zero, List.set_cons_succ]
  refine' takeL (i := 1) (v := _) rfl (by kernel_rfl) (by kernel_rfl) (by kernel_rfl) (fun _ _ _ h => h) (Or.inl ⟨by rfl, ?yy2⟩) (by assumption) ?rr2
  case yy2 => intro w hSw; (try dsimp only at hSw); go_simp; (try rw [tb_get _ _ _ (by kernel_rfl)]); (try with_reducible rfl)
  try simp only [Act.put, List.setIfInBounds_toArray, List.set_cons_zero, List.set_cons_succ]
  refine' takeL (i := 4) (v := _) rfl (by kernel_rfl) (by kernel_rfl) (by kernel_rfl) (fun _ _ _ h => h) (Or.inl ⟨by rfl, ?yy3⟩) (by assumption) ?rr3
  case yy3 => intro w hSw; (try dsimp only at hSw); go_simp; (try with_reducible rfl)
  try simp only [Act.put, List.setIfInBounds_toArray, List.set_cons_zero, List.set_cons_succ]
  refine' takeL (i := 5) (v := _) rfl (by kernel_rfl) (by kernel_rfl) (by kernel_rfl) (fun _ _ _ h => h) (Or.inl ⟨by rfl, ?yy4⟩) (by assumption) ?rr4
  case yy4 => intro w hSw; (try dsimp only at hSw); go_simp; (try with_reducible rfl)
  try simp only [Act.put, List.setIfInBounds_toArray, List.set_cons_zero, List.set_cons_succ]
  refine' takeL (i := 6) (v := _) rfl (by kernel_rfl) (by kernel_rfl) (by kernel_rfl) (fun _ _ _ h => h) (Or.inl ⟨by rfl, ?yy5⟩) (by assumption) ?rr5
  case yy5 => intro w hSw; (try dsimp only at hSw); go_simp; (try rw [tb_get _ _ _ (by kernel_rfl)]); (try with_reducible rfl)
  try simp only [Act.put, List.setIfInBounds_toArray, List.set_cons_zero, List.set_cons_succ]
  refine wpAnyH_ready (rs := [2]) (by kernel_rfl) (by simp) ?_
  refine consL rfl (fun K hK => ?_) AllReadyH.nil
  go_simp
  go_at_call 95
  refine (digit_c _ (by have := X.out; omega) (by have := X.out; omega) _).mono ?_
  rintro e _ ⟨rfl, rfl⟩
  go_wp2_with fail
  refine hK.out _ _ ?_ (fun hHeld => ?_)
  · (try dsimp only); exact hHeld
  clear hK K
  try simp only [Act.put, List.setIfInBounds_toArray, List.set_cons_zero, List.set_cons_succ]
  refine' takeL (i := 3) (v := _) rfl (by kernel_rfl) (by kernel_rfl) (by kernel_rfl) (fun _ _ _ h => h) (Or.inl ⟨by rfl, ?yy6⟩) (by assumption) ?rr6
  case yy6 => intro w hSw; (try dsimp only at hSw); go_simp; (try with_reducible rfl)
  try simp only [Act.put, List.setIfInBounds_toArray, List.set_cons_zero, List.set_cons_succ]
  refine wpAnyH_ready (rs := [7]) (by kernel_rfl) (by simp) ?_
  refine consL rfl (fun K hK => ?_) AllReadyH.nil
  go_simp
  go_at_call 95
  refine (digit_c _ (by have := X.out; omega) (by have := X.out; omega) _).mono ?_
  rintro e _ ⟨rfl, rfl⟩
  go_wp2_with fail
  refine hK.out _ _ ?_ (fun hHeld => ?_)
  · (try dsimp only); exact hHeld
  clear hK K
  try simp only [Act.put, List.setIfInBounds_toArray, List.set_cons_zero, List.set_cons_succ]
  refine' takeL (i := 8) (v := _) rfl (by kernel_rfl) (by kernel_rfl) (by kernel_rfl) (fun _ _ _ h => h) (Or.inl ⟨by rfl, ?yy7⟩) (by assumption) ?rr7
  case yy7 => intro w hSw; (try dsimp only at hSw); go_simp; (try with_reducible rfl)
  try simp only [Act.put, List.setIfInBounds_toArray, List.set_cons_zero, List.set_cons_succ]
  refine' takeL (i := 9) (v := _) rfl (by kernel_rfl) (by kernel_rfl) (by kernel_rfl) (fun _ _ _ h => h) (Or.inl ⟨by rfl, ?yy8⟩) (by assumption) ?rr8
  case yy8 => intro w hSw; (try dsimp only at hSw); go_simp; (try with_reducible rfl)
  try simp only [Act.put, List.setIfInBounds_toArray, List.set_cons_zero, List.set_cons_succ]
  refine wpAnyH_done (by kernel_rfl) ?_ _
  go_wp2
  go_ret
  exact ⟨by rw [← O.out]; show Ending.returned (.int .i64 (IntKind.i64.wrap (IntKind.i64.wrap (16 * dig ↑(tb a)) + dig ↑(tb (a + 1))))) = _; rw [wrap_hex (dig_range _ (by have := X.out; omega) (by have := X.out; omega)) (dig_range _ (by have := X.out; omega) (by have := X.out; omega))], 1, rfl⟩
theorem wrap_i64_id {n : Int} (h0 : -9223372036854775808 ≤ n) (h1 : n ≤ 9223372036854775807) : IntKind.i64.wrap n = n := by
  simp only [IntKind.wrap, IntKind.bits, IntKind.signed]; simp; omega
set_option maxRecDepth 1000000 in
set_option maxHeartbeats 4000000 in
theorem row_c (op : Int) (w : World) : Calls Try.prog 39 #[.int .i64 op] w fun e w' => e = .returned (.int .i64 (rowAt op)) ∧ ∃ n, w' = w.drewN n := by
  go_enter Try.func39, Try.ntmps39
  go_wp2_with (first | refine wp_scope_straight ?_ | refine wp_label ?_)
  go_loopw [3, 4] (fun f x wr => ∃ k : Nat, k ≤ 97 ∧ f = .int .i64 (-1) ∧ x = .int .i64 ((8 * k : Nat) : Int) ∧ (∀ j, j < k → opK j < op) ∧ ∃ n, wr = w.drewN n) (fun _ x _ => 776 - (intOf x).toNat)
  case atStart => exact ⟨0, by omega, rfl, rfl, by intro j hj; omega, 0, rfl⟩
  case round =>
    obtain ⟨k, hk, rfl, rfl, hlo, n, rfl⟩ := hrel
    have LO := Lib.hid hlo
    clear hlo
    by_cases hlt : k < 97
    · have hI : ((8 * k : Nat) : Int) < 776 := by omega
      obtain ⟨a, ha⟩ : ∃ a, 8 * k = a := ⟨_, rfl⟩
      have CC := Lib.hid (code_c k hlt)
      rw [ha] at CC hI
      rw [ha]
      have HA := Lib.hid ha
      clear ha
      obtain ⟨o, ho⟩ : ∃ o, opK k = o := ⟨_, rfl⟩
      rw [ho] at CC
      have HO := Lib.hid ho
      clear ho
      rcases (show o < op ∨ o = op ∨ op < o by omega) with h | h | h
      · go_wp2_with fail
        refine (CC.out _).mono ?_
        rintro e w1 ⟨rfl, n1, rfl⟩
        go_wp2_with fail
        refine ⟨⟨k + 1, by omega, rfl, ?_, ?_, _, rfl⟩, ?_⟩
        · congr 1; have := HA.out; omega
        · intro j hj
          rcases Nat.lt_or_ge j k with h2 | h2
          · exact LO.out j h2
          · rw [show j = k by omega, HO.out]; exact h
        · have := HA.out; simp [intOf]; omega
      · have hr := Lib.hid (show rowAt op = (a : Int) by unfold rowAt; rw [ix_of hlt (HO.out.trans h), if_pos hlt, HA.out])
        have e1 : (o == op) = true := by simp [h]
        have e2 : ¬ (o < op) := by omega
        clear h
        go_wp2_with fail
        refine (CC.out _).mono ?_
        rintro e w1 ⟨rfl, n1, rfl⟩
        go_wp2_with fail
        simp only [Exit.noGoto]
        go_ret
        exact ⟨by rw [hr.out]; rfl, _, rfl⟩
      · have hr := Lib.hid (show rowAt op = -1 by
          unfold rowAt
          rw [ix_none (op := op) fun j hj => ?_, if_neg (by omega)]
          rcases Nat.lt_or_ge j k with h2 | h2
          · have := LO.out j h2; omega
          · rcases Nat.lt_or_ge k j with h3 | h3
            · have := op_lt h3 hj; have := HO.out; omega
            · rw [show j = k by omega, HO.out]; omega)
        have e1 : (o == op) = false := by rw [beq_eq_false_iff_ne]; omega
        have e2 : ¬ (o < op) := by omega
        go_wp2_with fail
        refine (CC.out _).mono ?_
        rintro e w1 ⟨rfl, n1, rfl⟩
        go_wp2_with fail
        simp only [Exit.noGoto]
        go_ret
        exact ⟨by rw [hr.out]; rfl, _, rfl⟩
    · obtain rfl : k = 97 := by omega
      have hr := Lib.hid (show rowAt op = -1 by
        unfold rowAt
        rw [ix_none (op := op) fun j hj => by have := LO.out j hj; omega, if_neg (by omega)])
      go_wp2_with fail
      simp only [Exit.noGoto]
      go_ret
      exact ⟨by rw [hr.out]; rfl, _, rfl⟩
set_option maxRecDepth 1000000 in
set_option maxHeartbeats 4000000 in
theorem form_c (op : Int) (w : World) : Calls Try.prog 25 #[.int .i64 op] w fun e w' => e = .returned (.tuple #[.int .i64 (fmOf op), .bool (isOp op)]) ∧ ∃ n, w' = w.drewN n := by
  by_cases hx : ix op < 97
  · have F := Lib.hid (tb_fm _ hx)
    have R := Lib.hid (row_c op)
    have r1 := Lib.hid (show fmOf op = fmK (ix op) from by unfold fmOf; rw [if_pos hx])
    have r2 := Lib.hid (show isOp op = true from by unfold isOp; simpa using hx)
    have r3 := Lib.hid (show rowAt op = ((8 * ix op : Nat) : Int) from by unfold rowAt; rw [if_pos hx])
    obtain ⟨a, ha⟩ : ∃ a, 8 * ix op = a := ⟨_, rfl⟩
    rw [r3.out, ha] at R
    rw [ha] at F
    rw [r1.out, r2.out]
    have h1 : a ≤ 768 := by omega
    clear ha hx r1 r2 r3
    have m1 : 0 ≤ (a : Int) + 8 - 1 := by omega
    have m2 : (a : Int) + 8 - 1 < 776 := by omega
    have m3 : ¬ ((a : Int) < 0) := by omega
    go_enter Try.func25, Try.ntmps25
    go_wp2_with (go_at_call 39; refine (R.out _).mono ?_; rintro e w1 ⟨rfl, n1, rfl⟩)
    go_ret2
    refine ⟨?_, _, rfl⟩
    have e1 : ((tb (a + 7) : Int) - 97) % 256 + 1 = fmK (ix op) := by have := F.out; omega
    rw [tb_get _ _ _ (by kernel_rfl), e1]; rfl
  · have R := Lib.hid (row_c op)
    have r1 := Lib.hid (show fmOf op = 0 from by unfold fmOf; rw [if_neg hx])
    have r2 := Lib.hid (show isOp op = false from by unfold isOp; simpa using hx)
    have r3 := Lib.hid (show rowAt op = -1 from by unfold rowAt; rw [if_neg hx])
    rw [r3.out] at R
    rw [r1.out, r2.out]
    clear hx r1 r2 r3
    go_enter Try.func25, Try.ntmps25
    go_wp2_with (go_at_call 39; refine (R.out _).mono ?_; rintro e w1 ⟨rfl, n1, rfl⟩)
    go_ret2
    exact ⟨rfl, _, rfl⟩
theorem priv_c (op : Int) (w : World) : Calls Try.prog 26 #[.int .i64 op] w fun e w' => e = .returned (.bool (privB op)) ∧ w = w' := by
  by_cases h : op = 8 ∨ op = 9 ∨ op = 128 ∨ op = 130 ∨ op = 156 ∨ op = 157 ∨ op = 158 ∨ op = 159
  · have hr := Lib.hid (show privB op = true from by unfold privB; rw [decide_eq_true_iff]; omega)
    rcases h with rfl | rfl | rfl | rfl | rfl | rfl | rfl | rfl <;>
    · go_enter Try.func26, Try.ntmps26
      go_wp2
      go_ret
      exact ⟨by rw [hr.out]; rfl, rfl⟩
  · have hr := Lib.hid (show privB op = false from by unfold privB; rw [decide_eq_false_iff_not]; omega)
    have p8 : (op == 8) = false := by rw [beq_eq_false_iff_ne]; omega
    have p9 : (op == 9) = false := by rw [beq_eq_false_iff_ne]; omega
    have p128 : (op == 128) = false := by rw [beq_eq_false_iff_ne]; omega
    have p130 : (op == 130) = false := by rw [beq_eq_false_iff_ne]; omega
    have p156 : (op == 156) = false := by rw [beq_eq_false_iff_ne]; omega
    have p157 : (op == 157) = false := by rw [beq_eq_false_iff_ne]; omega
    have p158 : (op == 158) = false := by rw [beq_eq_false_iff_ne]; omega
    have p159 : (op == 159) = false := by rw [beq_eq_false_iff_ne]; omega
    clear h
    go_enter Try.func26, Try.ntmps26
    go_wp2
    go_ret
    exact ⟨by rw [hr.out]; rfl, rfl⟩
end Go.Proofs.Ythjdjbipfdigeaa

namespace Go.Proofs.Ythjdjbipfdigeaa
open Go.RowKit
set_option linter.unusedVariables false
set_option linter.unusedSimpArgs false
def eqiB (op fm r1 r2 x2 b1 d1 b2 d2 l1 l2 i2 op' fm' r1' r2' x2' b1' d1' b2' d2' l1' l2' i2' : Int) : Bool := op == op' && (fm == fm' && (r1 == r1' && (r2 == r2' && (x2 == x2' && (b1 == b1' && (d1 == d1' && (b2 == b2' && (d2 == d2' && (l1 == l1' && (l2 == l2' && (i2 == i2')))))))))))
set_option maxHeartbeats 1000000 in
theorem eqi_run (op fm r1 r2 x2 b1 d1 b2 d2 l1 l2 i2 op' fm' r1' r2' x2' b1' d1' b2' d2' l1' l2' i2' : Int) (w : World) : (Op.equalIn 10000 25 (.agg #[.int .i64 op, .int .i64 fm, .int .i64 r1, .int .i64 r2, .int .i64 x2, .int .i64 b1, .int .i64 d1, .int .i64 b2, .int .i64 d2, .int .i64 l1, .int .i64 l2, .int .i64 i2]) (.agg #[.int .i64 op', .int .i64 fm', .int .i64 r1', .int .i64 r2', .int .i64 x2', .int .i64 b1', .int .i64 d1', .int .i64 b2', .int .i64 d2', .int .i64 l1', .int .i64 l2', .int .i64 i2'])).run Try.prog w = .ok (eqiB op fm r1 r2 x2 b1 d1 b2 d2 l1 l2 i2 op' fm' r1' r2' x2' b1' d1' b2' d2' l1' l2' i2') w := by
  have hS : Try.prog.underlying 25 = some (.struct (Try.prog.fieldsOf 25)) := by kernel_rfl
  have hp : Try.prog.stoodInHeld 25 = false := by kernel_rfl
  rw [show (10000 : Nat) = 9999 + 1 from rfl, run_equalIn_agg w 9999 25 _ _ hS hp]
  simp only [Program.fieldsOf, Try.underlying25]
  go_simp
  unfold eqiB
  by_cases h_op : op = op'
  case neg => simp [h_op]
  subst h_op
  by_cases h_fm : fm = fm'
  case neg => simp [h_fm]
  subst h_fm
  by_cases h_r1 : r1 = r1'
  case neg => simp [h_r1]
  subst h_r1
  by_cases h_r2 : r2 = r2'
  case neg => simp [h_r2]
  subst h_r2
  by_cases h_x2 : x2 = x2'
  case neg => simp [h_x2]
  subst h_x2
  by_cases h_b1 : b1 = b1'
  case neg => simp [h_b1]
  subst h_b1
  by_cases h_d1 : d1 = d1'
  case neg => simp [h_d1]
  subst h_d1
  by_cases h_b2 : b2 = b2'
  case neg => simp [h_b2]
  subst h_b2
  by_cases h_d2 : d2 = d2'
  case neg => simp [h_d2]
  subst h_d2
  by_cases h_l1 : l1 = l1'
  case neg => simp [h_l1]
  subst h_l1
  by_cases h_l2 : l2 = l2'
  case neg => simp [h_l2]
  subst h_l2
  by_cases h_i2 : i2 = i2'
  case neg => simp [h_i2]
  subst h_i2
  simp
theorem eqi_guard : Try.prog.eqGuardType Try.prog.depth 25 = false := by kernel_rfl
theorem eqiB_iff (op fm r1 r2 x2 b1 d1 b2 d2 l1 l2 i2 op' fm' r1' r2' x2' b1' d1' b2' d2' l1' l2' i2' : Int) : eqiB op fm r1 r2 x2 b1 d1 b2 d2 l1 l2 i2 op' fm' r1' r2' x2' b1' d1' b2' d2' l1' l2' i2' = true ↔ op = op' ∧ fm = fm' ∧ r1 = r1' ∧ r2 = r2' ∧ x2 = x2' ∧ b1 = b1' ∧ d1 = d1' ∧ b2 = b2' ∧ d2 = d2' ∧ l1 = l1' ∧ l2 = l2' ∧ i2 = i2' := by
  unfold eqiB; simp only [Bool.and_eq_true, beq_iff_eq]
end Go.Proofs.Ythjdjbipfdigeaa

namespace Go.Proofs.Ythjdjbipfdigeaa
open Go.RowKit
set_option linter.unusedVariables false
section
variable {F : Fence} {n : Nat} {P : Program}
def noDefer (o : Oper) : Bool := match o.op with | .defer _ => false | _ => true
theorem noDefer_ne {o : Oper} (h : noDefer o = true) (c) : o.op ≠ .defer c := by
  intro e; unfold noDefer at h; rw [e] at h; cases h
theorem opIn_round {o : Oper} {a : Act} {w : World} {K : Act → World → Prop} {Q : Exit → Act → World → Prop} (l : Nat) (hro : F.round = none) (hd : noDefer o = true) (h : o.wpIn F n P a w K Q) : o.wpIn (F.inRound l) n P a w K Q := by
  unfold Oper.wpIn at *
  obtain ⟨h1, h2⟩ := h
  rw [hro, Oper.semAt_none] at h2
  refine ⟨h1, ?_⟩
  rw [Fence.inRound_round, Oper.semAt_some l a.eval o (noDefer_ne hd)]
  exact h2
theorem opsIn_round {ops : Array Oper} {i : Nat} {a : Act} {w : World} {K K' : Act → World → Prop} {Q : Exit → Act → World → Prop} (l : Nat) (hro : F.round = none) (hd : ops.toList.all noDefer = true) (hK : ∀ a w, K a w → K' a w) (h : wpOpIn F n P ops Q i K a w) : wpOpIn (F.inRound l) n P ops Q i K' a w := by
  unfold wpOpIn at *
  cases ho : ops[i]? with
  | none => simp only [ho] at h ⊢; exact hK _ _ h
  | some o =>
    simp only [ho] at h ⊢
    have hn : noDefer o = true := List.all_eq_true.1 hd o (Array.mem_toList_iff.2 (Array.mem_of_getElem? ho))
    split
    · next hw => rw [if_pos hw] at h; exact Oper.wpIn_mono hK (opIn_round l hro hn h)
    · next hw => rw [if_neg hw] at h; exact ⟨h.1, hK _ _ h.2⟩
theorem anyIn_round {ops : Array Oper} {Q : Exit → Act → World → Prop} (l : Nat) (hro : F.round = none) (hd : ops.toList.all noDefer = true) {md : Region.Mode} : ∀ (fuel : Nat) (listed : Array Bool) (a : Act) (w : World), wpAnyIn F n P md ops Q fuel listed a w → wpAnyIn (F.inRound l) n P md ops Q fuel listed a w
  | 0, _, _, _, h => h
  | fuel + 1, _, _, _, h => ⟨h.1, fun i hi => opsIn_round l hro hd (fun a w h => anyIn_round l hro hd fuel _ a w h) (h.2 i hi)⟩
theorem wpIn_round_quiet {l id : Nat} {Q : Exit → Act → World → Prop} {a : Act} {w : World} {L : List Oper} (hro : F.round = none) (hd : L.all noDefer = true) (hm : P.follows .mixedOrders = true) (hB : Region.lexB .any L.toArray = true)
    (h : wpQuietIn F n P L.toArray (fun w' => ∃ n, w' = w.drewN n) (fun a' => ∀ w', (∃ n, w' = w.drewN n) → Q .normal a' w') L a) : (Code.region id L.toArray true).wpIn (F.inRound l) n P Q a w := by
  simp only [Region.lexB, Bool.and_eq_true] at hB
  refine wpIn_region_any hm (anyIn_round l hro (by simpa using hd) _ _ _ _ (wpAnyIn_of_quiet (C := fun w' => ∃ n, w' = w.drewN n) (Q := fun a' => ∀ w', (∃ n, w' = w.drewN n) → Q .normal a' w') hro (fun _ w' hw' h => h w' hw') _ _ _ _ ⟨1, rfl⟩ ?_))
  have := wpAnyQIn_lex (F := F) (n := n) (C := fun w' => ∃ n, w' = w.drewN n) (md := .any) hB.1 L 0 (Array.replicate L.toArray.size false) a (by simp) (by simpa using hB.2) h
  simpa using this
end
end Go.Proofs.Ythjdjbipfdigeaa

namespace Go.Proofs.Ythjdjbipfdigeaa
open Go.RowKit Go.Shelf
set_option linter.unusedVariables false
set_option linter.unusedSimpArgs false
attribute [local go_sem] Oper.semAt_some eqi_run eqi_guard

/-- the fields of a format, one after another: in range? each is set to zero -/
def scan : List FE → List Int → Option (List Int)
  | [], xs => some xs
  | f :: fs, xs => if 0 ≤ xs.getD f.1 0 ∧ xs.getD f.1 0 < 2 ^ f.2.1.toNat then scan fs (xs.set f.1 0) else none
theorem scan_app : ∀ (l : List FE) (f : FE) (xs : List Int), scan (l ++ [f]) xs = (scan l xs).bind fun ys => if 0 ≤ ys.getD f.1 0 ∧ ys.getD f.1 0 < 2 ^ f.2.1.toNat then some (ys.set f.1 0) else none
  | [], f, xs => by simp [scan]
  | g :: l, f, xs => by
    simp only [scan, List.cons_append]
    by_cases h : 0 ≤ xs.getD g.1 0 ∧ xs.getD g.1 0 < 2 ^ g.2.1.toNat
    · rw [if_pos h, if_pos h, scan_app l f]
    · rw [if_neg h, if_neg h]; rfl
theorem scan_pre : ∀ (l m : List FE) (xs : List Int), scan l xs = none → scan (l ++ m) xs = none
  | [], m, xs, h => by simp [scan] at h
  | f :: l, m, xs, h => by
    simp only [scan, List.cons_append] at h ⊢
    split
    · next hc => rw [if_pos hc] at h; exact scan_pre l m _ h
    · rfl
theorem scan_take {l : List FE} {c : Nat} {xs : List Int} (h : scan (l.take c) xs = none) : scan l xs = none := by
  have := scan_pre _ (l.drop c) xs h
  rwa [List.take_append_drop] at this
theorem list_12 {α : Type} : ∀ {l : List α}, l.length = 12 → ∃ a b c d e f g h i j k m, l = [a, b, c, d, e, f, g, h, i, j, k, m]
  | [a, b, c, d, e, f, g, h, i, j, k, m], _ => ⟨a, b, c, d, e, f, g, h, i, j, k, m, rfl⟩
/-- what Check answers -/
def chk (op fm : Int) (xs : List Int) : Int := if isOp op = true ∧ fmOf op = fm then (match scan (lay fm) xs with | none => 6 | some ys => if ys = [op, fm, 0, 0, 0, 0, 0, 0, 0, 0, 0, 0] then 0 else 6) else 80
theorem dBelow' {B : Nat} {a w : World} (h : Below B a w) (n : Nat) : Below B a (w.drewN n) := ⟨h.os, h.tape, h.output, h.size, h.block⟩
def okF (x : FE) : Prop := 2 ≤ x.1 ∧ x.1 ≤ 11 ∧ (x.2.1 = 4 ∨ x.2.1 = 8 ∨ x.2.1 = 12)
theorem lay_ok (form : Int) : ∀ x ∈ lay form, okF x := by
  unfold lay okF; (repeat' split) <;> decide
theorem alloc4_heap (w : World) (o0 o1 o2 o3 : Obj) (n : Nat) : (((((w.alloc o0).alloc o1).drewN n).alloc o2).alloc o3).heap[w.heap.size]? = some o0 := by
  rw [Below.heap_alloc _ _ _ (by simp; omega), Below.heap_alloc _ _ _ (by simp; omega)]
  show ((w.alloc o0).alloc o1).heap[w.heap.size]? = some o0
  rw [Below.heap_alloc _ _ _ (by simp)]
  exact heap_alloc_new w o0
theorem alloc4_heap1 (w : World) (o0 o1 o2 o3 : Obj) (n : Nat) : (((((w.alloc o0).alloc o1).drewN n).alloc o2).alloc o3).heap[w.heap.size + 1]? = some o1 := by
  rw [Below.heap_alloc _ _ _ (by simp), Below.heap_alloc _ _ _ (by simp)]
  show ((w.alloc o0).alloc o1).heap[w.heap.size + 1]? = some o1
  have := heap_alloc_new (w.alloc o0) o1
  rwa [World.size_alloc] at this
theorem alloc4_heap2 (w : World) (o0 o1 o2 o3 : Obj) (n : Nat) : (((((w.alloc o0).alloc o1).drewN n).alloc o2).alloc o3).heap[w.heap.size + 1 + 1]? = some o2 := by
  rw [Below.heap_alloc _ _ _ (by simp)]
  have := heap_alloc_new (((w.alloc o0).alloc o1).drewN n) o2
  rwa [show (((w.alloc o0).alloc o1).drewN n).heap.size = w.heap.size + 1 + 1 by simp] at this
theorem alloc4_heap3 (w : World) (o0 o1 o2 o3 : Obj) (n : Nat) : (((((w.alloc o0).alloc o1).drewN n).alloc o2).alloc o3).heap[w.heap.size + 1 + 1 + 1]? = some o3 := by
  have := heap_alloc_new ((((w.alloc o0).alloc o1).drewN n).alloc o2) o3
  rwa [show ((((w.alloc o0).alloc o1).drewN n).alloc o2).heap.size = w.heap.size + 1 + 1 + 1 by simp] at this
/-- a block of cells abides what a loop's law turns -/
theorem blk_kept {A B : World} {k : Nat} {cs : Array Value} {T : TypeId} {row : Option Nat} (h : A.heap[k]? = some (.cells cs T (0, 0))) (hg : A.grownBy B row) (hr : ∀ r, row = some r → ∃ o : Obj, A.heap[r]? = some o ∧ o.isCells = false) : B.heap[k]? = some (.cells cs T (0, 0)) := by
  refine (hg.block k (Array.getElem?_eq_some_iff.1 h).1 (fun e => ?_)).trans h
  obtain ⟨o, ho, hc⟩ := hr k e.symm
  rw [h] at ho; injection ho with ho; rw [← ho] at hc; cases hc
/-- a struct of numbers in a block -/
def Blk (W : World) (g : Nat) (T : TypeId) (ys : List Int) : Prop := W.heap[g]? = some (.cells (ys.map (Value.int .i64)).toArray T (0, 0))
theorem Blk.cell {W : World} {g : Nat} {T : TypeId} {ys : List Int} (h : Blk W g T ys) {c : Nat} (hc : c < ys.length) : W.cell? ⟨g, c, none⟩ = some (.int .i64 (ys.getD c 0)) := by
  rw [cell_blk h]; simp [List.getD_eq_getElem?_getD, hc]
theorem Blk.free {W : World} {g : Nat} {T : TypeId} {ys : List Int} (h : Blk W g T ys) (c : Nat) : W.frozen? ⟨g, c, none⟩ = false := by
  unfold Blk at h; simp [World.frozen?, h]
theorem Blk.set_ {W : World} {g : Nat} {T : TypeId} {ys : List Int} (h : Blk W g T ys) (c : Nat) (v : Int) : Blk (W.setCell ⟨g, c, none⟩ (.int .i64 v)) g T (ys.set c v) := by
  unfold Blk at *
  rw [setCell_eq_setRow W g c _ T (0, 0) _ h, setRow_heap W g _ _ _ _ h]
  simp [List.map_set]
theorem Blk.other {W : World} {g : Nat} {T : TypeId} {ys : List Int} (h : Blk W g T ys) {p : Addr} (v : Value) (hp : p.block ≠ g) : Blk (W.setCell p v) g T ys := (Below.heap_setCell W p v g (Ne.symm hp)).trans h
theorem Blk.alloc {W : World} {g : Nat} {T : TypeId} {ys : List Int} (h : Blk W g T ys) (o : Obj) : Blk (W.alloc o) g T ys := (Below.heap_alloc W o g (Array.getElem?_eq_some_iff.1 h).1).trans h
theorem Blk.keep {W W' : World} {g : Nat} {T : TypeId} {ys : List Int} (h : Blk W g T ys) (hb : Below W.heap.size W W') : Blk W' g T ys := (hb.block _ (Array.getElem?_eq_some_iff.1 h).1).trans h
theorem Blk.kept {A B : World} {g : Nat} {T : TypeId} {ys : List Int} {row : Option Nat} (h : Blk A g T ys) (hg : A.grownBy B row) (hr : ∀ r, row = some r → ∃ o : Obj, A.heap[r]? = some o ∧ o.isCells = false) : Blk B g T ys := blk_kept h hg hr
theorem Blk.drewN {W : World} {g : Nat} {T : TypeId} {ys : List Int} (h : Blk W g T ys) (n : Nat) : Blk (W.drewN n) g T ys := h
theorem keeps_drewN (W : World) (n : Nat) : KeepsOthers W (W.drewN n) := ⟨Nat.le_refl _, fun _ _ h _ => h⟩
theorem kpC_drewN (n1 : Nat) (W : World) (n : Nat) : KpC n1 W (W.drewN n) := ⟨Nat.le_refl _, fun _ _ _ h _ => h⟩
/-- the round's variable f, boxed -/
def FBox (W : World) (fb rb : Nat) (x : FE) : Prop := W.heap[fb]? = some (.cells #[.pointer (some ⟨rb, x.1, none⟩), .int .i64 x.2.1, .int .i64 x.2.2] 84 (0, 0))
set_option maxRecDepth 100000 in
set_option maxHeartbeats 4000000 in
theorem icheck_c (op fm r1 r2 x2 b1 d1 b2 d2 l1 l2 i2 : Int) (w : World) : Calls Try.prog 28 #[.agg #[.int .i64 op, .int .i64 fm, .int .i64 r1, .int .i64 r2, .int .i64 x2, .int .i64 b1, .int .i64 d1, .int .i64 b2, .int .i64 d2, .int .i64 l1, .int .i64 l2, .int .i64 i2]] w fun e w' => e = .returned (.int .i64 (chk op fm [op, fm, r1, r2, x2, b1, d1, b2, d2, l1, l2, i2])) ∧ Below w.heap.size w w' := by
  refine (callsIn_wide (n := 5)).1 ?_
  refine callsIn_of_wp_marks Try.func28 rfl trivial ?_ rfl
  simp only [Try.ntmps28, List.size_toArray, List.length_cons, List.length_nil, Nat.reduceAdd, Nat.reduceSub, Array.replicate_succ, Array.replicate_zero, List.push_toArray, List.append_toArray, List.nil_append, List.cons_append]
  obtain ⟨io, hio⟩ : ∃ x, isOp op = x := ⟨_, rfl⟩
  obtain ⟨fo, hfo⟩ : ∃ x, fmOf op = x := ⟨_, rfl⟩
  have FC := Lib.hid (form_c op)
  rw [hio, hfo] at FC
  by_cases hA : io = true ∧ fo = fm
  · obtain ⟨rfl, rfl⟩ := hA
    have hne : (fo != fo) = false := by simp
    have hr := Lib.hid (show chk op fo [op, fo, r1, r2, x2, b1, d1, b2, d2, l1, l2, i2] = (match scan (lay fo) [op, fo, r1, r2, x2, b1, d1, b2, d2, l1, l2, i2] with | none => 6 | some ys => if ys = [op, fo, 0, 0, 0, 0, 0, 0, 0, 0, 0, 0] then 0 else 6) from by unfold chk; rw [if_pos ⟨hio, hfo⟩])
    clear hio hfo
    gi_wp2_with (refine ⟨trivial, ?_⟩; first | (gi_at_call 25; refine (callsIn_wide.2 (FC.out _)).mono ?_; rintro e w1 ⟨rfl, n1, rfl⟩) | (gi_at_call 40; refine (callsIn_wide.2 (fields_c _ _)).mono ?_; rintro e w1 ⟨rfl, rfl⟩))
    obtain ⟨W0, hW0⟩ : ∃ W0, (((((w.alloc (.cells #[.int .i64 op, .int .i64 fo, .int .i64 r1, .int .i64 r2, .int .i64 x2, .int .i64 b1, .int .i64 d1, .int .i64 b2, .int .i64 d2, .int .i64 l1, .int .i64 l2, .int .i64 i2] 25)).alloc (.cells #[.int .i64 0] 41)).drewN n1).alloc (.cells #[.int .i64 op, .int .i64 fo, .int .i64 r1, .int .i64 r2, .int .i64 x2, .int .i64 b1, .int .i64 d1, .int .i64 b2, .int .i64 d2, .int .i64 l1, .int .i64 l2, .int .i64 i2] 25)).alloc (.cells #[.pointer (some ⟨w.heap.size + 1 + 1, 0, none⟩)] 81)) = W0 := ⟨_, rfl⟩
    rw [hW0]
    have hz : W0.heap.size = w.heap.size + 4 := by rw [← hW0]; simp
    have hB0 : Below w.heap.size w W0 := by rw [← hW0]; exact ((dBelow' (((Below.refl w.heap.size w).alloc (Nat.le_refl _) _).alloc (by simp) _) n1).alloc (by simp; omega) _).alloc (by simp; omega) _
    have q0 : Blk W0 w.heap.size 25 [op, fo, r1, r2, x2, b1, d1, b2, d2, l1, l2, i2] := by rw [← hW0]; exact alloc4_heap _ _ _ _ _ _
    have q1 : Blk W0 (w.heap.size + 1) 41 [0] := by rw [← hW0]; exact alloc4_heap1 _ _ _ _ _ _
    have q2 : Blk W0 (w.heap.size + 1 + 1) 25 [op, fo, r1, r2, x2, b1, d1, b2, d2, l1, l2, i2] := by rw [← hW0]; exact alloc4_heap2 _ _ _ _ _ _
    have q3 : W0.heap[w.heap.size + 1 + 1 + 1]? = some (.cells #[.pointer (some ⟨w.heap.size + 1 + 1, 0, none⟩)] 81 (0, 0)) := by rw [← hW0]; exact alloc4_heap3 _ _ _ _ _ _
    clear hW0
    obtain ⟨xs, hxs⟩ : ∃ xs, xs = [op, fo, r1, r2, x2, b1, d1, b2, d2, l1, l2, i2] := ⟨_, rfl⟩
    rw [← hxs] at q2
    have XS := Lib.hid hxs
    have xl : xs.length = 12 := by rw [hxs]; rfl
    refine wpIn_rangeFunc_ownH rfl (by omega) (gf := 52) (lb := #[.pointer (some ⟨w.heap.size + 1 + 1 + 1, 0, none⟩)]) rfl trivial (enters_of Try.func52 (by kernel_rfl) rfl)
      (fields1_stops okF (5 - 1) (by omega) (w.heap.size + 1 + 1) (w.heap.size + 1 + 1 + 1) W0.heap.size fo W0 (by rw [q2.cell (by omega), hxs]; rfl) (by rw [cell_blk q3]; rfl) (Nat.le_refl _) (lay_ok fo)) kpC_t kpC_b (Below.refl _ _) (fun _ => rfl)
      (fun pre W => (W0.heap.size ≤ W.heap.size ∧ ∃ ys, scan (pre.map (·.1)) xs = some ys ∧ ys.length = 12 ∧ Blk W (w.heap.size + 1 + 1) 25 ys ∧ Blk W w.heap.size 25 [op, fo, r1, r2, x2, b1, d1, b2, d2, l1, l2, i2] ∧ Blk W (w.heap.size + 1) 41 [0]) ∧ Below w.heap.size w W)
      (fun c pre W => (c = .ret ∧ scan (pre.map (·.1)) xs = none ∧ Blk W (w.heap.size + 1) 41 [6]) ∧ Below w.heap.size w W)
      (OwnFrom.and (Own.from (fun s A B row hs hg hr => by obtain ⟨h0, ys, h1, h2, h3, h4, h5⟩ := hs; exact ⟨Nat.le_trans h0 hg.size, ys, h1, h2, h3.kept hg hr, h4.kept hg hr, h5.kept hg hr⟩) _) (ownFrom_below (Nat.le_refl _) (by omega)))
      (fun c => OwnFrom.and (Own.from (fun s A B row hs hg hr => ⟨hs.1, hs.2.1, hs.2.2.kept hg hr⟩) _) (ownFrom_below (Nat.le_refl _) (by omega)))
      ⟨⟨Nat.le_refl _, xs, rfl, xl, q2, q0, q1⟩, hB0⟩
      (fun x a' W => ∃ fb, W0.heap.size ≤ fb ∧ FBox W fb (w.heap.size + 1 + 1) x.1 ∧ a' = { tmps := #[.agg #[.int .i64 op, .int .i64 fo, .int .i64 r1, .int .i64 r2, .int .i64 x2, .int .i64 b1, .int .i64 d1, .int .i64 b2, .int .i64 d2, .int .i64 l1, .int .i64 l2, .int .i64 i2], .pointer (some ⟨w.heap.size, 0, none⟩), .pointer (some ⟨w.heap.size + 1, 0, none⟩), .int .i64 fo, .bool true, .pointer (some ⟨w.heap.size + 1 + 1, 0, none⟩), .pointer (some ⟨fb, 0, none⟩), .tuple #[.int .i64 fo, .bool true], .pointer (some ⟨w.heap.size, 0, none⟩), .int .i64 op, .tuple #[.int .i64 fo, .bool true], .int .i64 fo, .bool true, .bool true, .bool false, .bool false, .int .i64 fo, .pointer (some ⟨w.heap.size, 1, none⟩), .int .i64 fo, .bool false, .bool false, .agg #[.int .i64 op, .int .i64 fo, .int .i64 r1, .int .i64 r2, .int .i64 x2, .int .i64 b1, .int .i64 d1, .int .i64 b2, .int .i64 d2, .int .i64 l1, .int .i64 l2, .int .i64 i2], .func (.func 52) #[] #[.pointer (some ⟨w.heap.size + 1 + 1 + 1, 0, none⟩)], .agg #[.pointer (some ⟨w.heap.size + 1 + 1, x.1.1, none⟩), .int .i64 x.1.2.1, .int .i64 x.1.2.2], undef, undef, undef, undef, undef, undef, undef, undef, undef, undef, undef, undef, undef, undef, undef, undef, undef, undef, undef, undef, undef, undef, undef, undef, undef], defers := [] })
      (fun x a' => Own.from (fun s A B row hs hg hr => by obtain ⟨fb, h1, h2, h3⟩ := hs; exact ⟨fb, h1, blk_kept h2 hg hr, h3⟩) _) ?assign ?body ?done ?stop
    case assign =>
      intro l pre x W K hI hK
      gi_wp2
      obtain ⟨⟨h0, ys, h1, h2, h3, h4, h5⟩, hB⟩ := hI
      exact hK _ _ ((KeepsOthers.alloc _ _).from _) (kpC_of_below (al_keep W _)) ⟨⟨by simp; omega, ys, h1, h2, h3.alloc _, h4.alloc _, h5.alloc _⟩, hB.alloc (by omega) _⟩ ⟨W.heap.size, h0, heap_alloc_new W _, rfl⟩
    case body =>
      rintro l pre ⟨⟨c, n, at_⟩, ok1, ok2, ok3⟩ a' W hl hrr ⟨⟨h0, ys, h1, h2, h3, h4, h5⟩, hB⟩ ⟨fb, hfb, hF, rfl⟩ hlen
      have k0 : W.cell? ⟨fb, 0, none⟩ = some (.pointer (some ⟨w.heap.size + 1 + 1, c, none⟩)) := by rw [cell_blk hF]; rfl
      have k1 : W.cell? ⟨fb, 1, none⟩ = some (.int .i64 n) := by rw [cell_blk hF]; rfl
      have k2 := h3.cell (c := c) (by dsimp only at ok2; omega)
      have k3 := h3.free c
      have k4 := h5.cell (c := 0) (by decide)
      have k5 := h5.free 0
      have SC := Lib.hid (scan_app (pre.map (·.1)) (c, n, at_) xs)
      rw [h1] at SC
      obtain ⟨v, hv⟩ : ∃ v, ys.getD c 0 = v := ⟨_, rfl⟩
      rw [hv] at k2
      have HS := Lib.hid (And.intro h2 (And.intro h3 (And.intro h4 (And.intro h5 (And.intro hB (And.intro h0 hv))))))
      dsimp only at ok1 ok2 ok3
      clear h1 h2 h3 h4 h5 hB h0 hF hv hr
      have hmx : Try.prog.follows .mixedOrders = true := by kernel_rfl
      rcases ok3 with rfl | rfl | rfl
      · have pw : (2 : Int) ^ Int.toNat 4 = 16 := by decide
        have SC' := SC
        by_cases e1 : v < 0
        · gi_wp2
          refine wpIn_round_quiet rfl (by kernel_rfl) (by kernel_rfl) (by kernel_rfl) ?_
          repeat (gi_big_quiet_step (fail))
          refine wpQuietIn_nil ?_
          rintro _ ⟨nq, rfl⟩
          gi_wp2
          obtain ⟨h2, h3, h4, h5, hB, h0, hv⟩ := HS.out
          exact ⟨((keeps_drewN W nq).trans (KeepsOthers.setCell _ _ _)).from _, ⟨rfl, by rw [List.map_append]; refine SC.out.trans ?_; rw [Option.bind_some, if_neg (by rw [hv, pw]; omega)], (h5.drewN nq).set_ 0 6⟩, (dBelow' hB nq).setCell (p := ⟨w.heap.size + 1, 0, none⟩) (by simp) _⟩
        · have g1 : decide (v < 0) = false := by rw [decide_eq_false_iff_not]; exact e1
          by_cases e2 : 16 ≤ v
          · have g2 : decide (16 ≤ v) = true := by rw [decide_eq_true_iff]; exact e2
            clear e1
            gi_wp2
            refine wpIn_round_quiet rfl (by kernel_rfl) (by kernel_rfl) (by kernel_rfl) ?_
            repeat (gi_big_quiet_step (fail))
            refine wpQuietIn_nil ?_
            rintro _ ⟨nq, rfl⟩
            gi_wp2
            obtain ⟨h2, h3, h4, h5, hB, h0, hv⟩ := HS.out
            exact ⟨((keeps_drewN W nq).trans (KeepsOthers.setCell _ _ _)).from _, ⟨rfl, by rw [List.map_append]; refine SC.out.trans ?_; rw [Option.bind_some, if_neg (by rw [hv, pw]; omega)], (h5.drewN nq).set_ 0 6⟩, (dBelow' hB nq).setCell (p := ⟨w.heap.size + 1, 0, none⟩) (by simp) _⟩
          · have g2 : decide (16 ≤ v) = false := by rw [decide_eq_false_iff_not]; exact e2
            have E1 := Lib.hid e1
            have E2 := Lib.hid e2
            clear e1 e2
            gi_wp2
            refine wpIn_round_quiet rfl (by kernel_rfl) (by kernel_rfl) (by kernel_rfl) ?_
            repeat (gi_big_quiet_step (fail))
            refine wpQuietIn_nil ?_
            rintro _ ⟨nq, rfl⟩
            gi_wp2
            obtain ⟨h2, h3, h4, h5, hB, h0, hv⟩ := HS.out
            have e1 := E1.out
            have e2 := E2.out
            exact ⟨((keeps_drewN W nq).trans (KeepsOthers.setCell _ _ _)).from _, kpC_t (kpC_drewN _ W nq) (kpC_set _ _ _ (by show w.heap.size + 1 + 1 < _; omega)), ⟨by simp; omega, _, by rw [List.map_append]; refine SC.out.trans ?_; rw [Option.bind_some, if_pos (by rw [hv, pw]; omega)], by rw [List.length_set]; exact h2, (h3.drewN nq).set_ c 0, (h4.drewN nq).other _ (by simp; omega), (h5.drewN nq).other _ (by simp)⟩, (dBelow' hB nq).setCell (p := ⟨w.heap.size + 1 + 1, c, none⟩) (by simp; omega) _⟩
      · have pw : (2 : Int) ^ Int.toNat 8 = 256 := by decide
        have SC' := SC
        by_cases e1 : v < 0
        · gi_wp2
          refine wpIn_round_quiet rfl (by kernel_rfl) (by kernel_rfl) (by kernel_rfl) ?_
          repeat (gi_big_quiet_step (fail))
          refine wpQuietIn_nil ?_
          rintro _ ⟨nq, rfl⟩
          gi_wp2
          obtain ⟨h2, h3, h4, h5, hB, h0, hv⟩ := HS.out
          exact ⟨((keeps_drewN W nq).trans (KeepsOthers.setCell _ _ _)).from _, ⟨rfl, by rw [List.map_append]; refine SC.out.trans ?_; rw [Option.bind_some, if_neg (by rw [hv, pw]; omega)], (h5.drewN nq).set_ 0 6⟩, (dBelow' hB nq).setCell (p := ⟨w.heap.size + 1, 0, none⟩) (by simp) _⟩
        · have g1 : decide (v < 0) = false := by rw [decide_eq_false_iff_not]; exact e1
          by_cases e2 : 256 ≤ v
          · have g2 : decide (256 ≤ v) = true := by rw [decide_eq_true_iff]; exact e2
            clear e1
            gi_wp2
            refine wpIn_round_quiet rfl (by kernel_rfl) (by kernel_rfl) (by kernel_rfl) ?_
            repeat (gi_big_quiet_step (fail))
            refine wpQuietIn_nil ?_
            rintro _ ⟨nq, rfl⟩
            gi_wp2
            obtain ⟨h2, h3, h4, h5, hB, h0, hv⟩ := HS.out
            exact ⟨((keeps_drewN W nq).trans (KeepsOthers.setCell _ _ _)).from _, ⟨rfl, by rw [List.map_append]; refine SC.out.trans ?_; rw [Option.bind_some, if_neg (by rw [hv, pw]; omega)], (h5.drewN nq).set_ 0 6⟩, (dBelow' hB nq).setCell (p := ⟨w.heap.size + 1, 0, none⟩) (by simp) _⟩
          · have g2 : decide (256 ≤ v) = false := by rw [decide_eq_false_iff_not]; exact e2
            have E1 := Lib.hid e1
            have E2 := Lib.hid e2
            clear e1 e2
            gi_wp2
            refine wpIn_round_quiet rfl (by kernel_rfl) (by kernel_rfl) (by kernel_rfl) ?_
            repeat (gi_big_quiet_step (fail))
            refine wpQuietIn_nil ?_
            rintro _ ⟨nq, rfl⟩
            gi_wp2
            obtain ⟨h2, h3, h4, h5, hB, h0, hv⟩ := HS.out
            have e1 := E1.out
            have e2 := E2.out
            exact ⟨((keeps_drewN W nq).trans (KeepsOthers.setCell _ _ _)).from _, kpC_t (kpC_drewN _ W nq) (kpC_set _ _ _ (by show w.heap.size + 1 + 1 < _; omega)), ⟨by simp; omega, _, by rw [List.map_append]; refine SC.out.trans ?_; rw [Option.bind_some, if_pos (by rw [hv, pw]; omega)], by rw [List.length_set]; exact h2, (h3.drewN nq).set_ c 0, (h4.drewN nq).other _ (by simp; omega), (h5.drewN nq).other _ (by simp)⟩, (dBelow' hB nq).setCell (p := ⟨w.heap.size + 1 + 1, c, none⟩) (by simp; omega) _⟩
      · have pw : (2 : Int) ^ Int.toNat 12 = 4096 := by decide
        have SC' := SC
        by_cases e1 : v < 0
        · gi_wp2
          refine wpIn_round_quiet rfl (by kernel_rfl) (by kernel_rfl) (by kernel_rfl) ?_
          repeat (gi_big_quiet_step (fail))
          refine wpQuietIn_nil ?_
          rintro _ ⟨nq, rfl⟩
          gi_wp2
          obtain ⟨h2, h3, h4, h5, hB, h0, hv⟩ := HS.out
          exact ⟨((keeps_drewN W nq).trans (KeepsOthers.setCell _ _ _)).from _, ⟨rfl, by rw [List.map_append]; refine SC.out.trans ?_; rw [Option.bind_some, if_neg (by rw [hv, pw]; omega)], (h5.drewN nq).set_ 0 6⟩, (dBelow' hB nq).setCell (p := ⟨w.heap.size + 1, 0, none⟩) (by simp) _⟩
        · have g1 : decide (v < 0) = false := by rw [decide_eq_false_iff_not]; exact e1
          by_cases e2 : 4096 ≤ v
          · have g2 : decide (4096 ≤ v) = true := by rw [decide_eq_true_iff]; exact e2
            clear e1
            gi_wp2
            refine wpIn_round_quiet rfl (by kernel_rfl) (by kernel_rfl) (by kernel_rfl) ?_
            repeat (gi_big_quiet_step (fail))
            refine wpQuietIn_nil ?_
            rintro _ ⟨nq, rfl⟩
            gi_wp2
            obtain ⟨h2, h3, h4, h5, hB, h0, hv⟩ := HS.out
            exact ⟨((keeps_drewN W nq).trans (KeepsOthers.setCell _ _ _)).from _, ⟨rfl, by rw [List.map_append]; refine SC.out.trans ?_; rw [Option.bind_some, if_neg (by rw [hv, pw]; omega)], (h5.drewN nq).set_ 0 6⟩, (dBelow' hB nq).setCell (p := ⟨w.heap.size + 1, 0, none⟩) (by simp) _⟩
          · have g2 : decide (4096 ≤ v) = false := by rw [decide_eq_false_iff_not]; exact e2
            have E1 := Lib.hid e1
            have E2 := Lib.hid e2
            clear e1 e2
            gi_wp2
            refine wpIn_round_quiet rfl (by kernel_rfl) (by kernel_rfl) (by kernel_rfl) ?_
            repeat (gi_big_quiet_step (fail))
            refine wpQuietIn_nil ?_
            rintro _ ⟨nq, rfl⟩
            gi_wp2
            obtain ⟨h2, h3, h4, h5, hB, h0, hv⟩ := HS.out
            have e1 := E1.out
            have e2 := E2.out
            exact ⟨((keeps_drewN W nq).trans (KeepsOthers.setCell _ _ _)).from _, kpC_t (kpC_drewN _ W nq) (kpC_set _ _ _ (by show w.heap.size + 1 + 1 < _; omega)), ⟨by simp; omega, _, by rw [List.map_append]; refine SC.out.trans ?_; rw [Option.bind_some, if_pos (by rw [hv, pw]; omega)], by rw [List.length_set]; exact h2, (h3.drewN nq).set_ c 0, (h4.drewN nq).other _ (by simp; omega), (h5.drewN nq).other _ (by simp)⟩, (dBelow' hB nq).setCell (p := ⟨w.heap.size + 1 + 1, c, none⟩) (by simp; omega) _⟩
    case done =>
      rintro D pre W hD hys ⟨⟨h0, ys, h1, h2, h3, h4, h5⟩, hB⟩ hK
      rw [hys] at h1
      obtain ⟨z0, z1, z2, z3, z4, z5, z6, z7, z8, z9, z10, z11, rfl⟩ := list_12 h2
      rw [← XS.out] at hr
      rw [h1] at hr
      have c0 : W.cell? ⟨w.heap.size + 1 + 1, 0, none⟩ = some (.int .i64 z0) := h3.cell (c := 0) (by simp)
      have c1 : W.cell? ⟨w.heap.size + 1 + 1, 1, none⟩ = some (.int .i64 z1) := h3.cell (c := 1) (by simp)
      have c2 : W.cell? ⟨w.heap.size + 1 + 1, 2, none⟩ = some (.int .i64 z2) := h3.cell (c := 2) (by simp)
      have c3 : W.cell? ⟨w.heap.size + 1 + 1, 3, none⟩ = some (.int .i64 z3) := h3.cell (c := 3) (by simp)
      have c4 : W.cell? ⟨w.heap.size + 1 + 1, 4, none⟩ = some (.int .i64 z4) := h3.cell (c := 4) (by simp)
      have c5 : W.cell? ⟨w.heap.size + 1 + 1, 5, none⟩ = some (.int .i64 z5) := h3.cell (c := 5) (by simp)
      have c6 : W.cell? ⟨w.heap.size + 1 + 1, 6, none⟩ = some (.int .i64 z6) := h3.cell (c := 6) (by simp)
      have c7 : W.cell? ⟨w.heap.size + 1 + 1, 7, none⟩ = some (.int .i64 z7) := h3.cell (c := 7) (by simp)
      have c8 : W.cell? ⟨w.heap.size + 1 + 1, 8, none⟩ = some (.int .i64 z8) := h3.cell (c := 8) (by simp)
      have c9 : W.cell? ⟨w.heap.size + 1 + 1, 9, none⟩ = some (.int .i64 z9) := h3.cell (c := 9) (by simp)
      have c10 : W.cell? ⟨w.heap.size + 1 + 1, 10, none⟩ = some (.int .i64 z10) := h3.cell (c := 10) (by simp)
      have c11 : W.cell? ⟨w.heap.size + 1 + 1, 11, none⟩ = some (.int .i64 z11) := h3.cell (c := 11) (by simp)
      have b0 : W.cell? ⟨w.heap.size, 0, none⟩ = some (.int .i64 op) := h4.cell (c := 0) (by simp)
      have b1' : W.cell? ⟨w.heap.size, 1, none⟩ = some (.int .i64 fo) := h4.cell (c := 1) (by simp)
      have f5 := h5.free 0
      have g5 := h5.cell (c := 0) (by simp)
      have HS := Lib.hid (And.intro h5 (And.intro hB hK))
      have hl5 := h5
      clear h1 h2 h3 h4 h5 hB q0 q1 q2 q3
      by_cases hE : [z0, z1, z2, z3, z4, z5, z6, z7, z8, z9, z10, z11] = [op, fo, 0, 0, 0, 0, 0, 0, 0, 0, 0, 0]
      · have eq : eqiB z0 z1 z2 z3 z4 z5 z6 z7 z8 z9 z10 z11 op fo 0 0 0 0 0 0 0 0 0 0 = true := by rw [eqiB_iff]; simpa using hE
        have fin := Lib.hid (show chk op fo [op, fo, r1, r2, x2, b1, d1, b2, d2, l1, l2, i2] = 0 from by rw [← XS.out]; refine hr.out.trans ?_; show (if _ then (0 : Int) else 6) = 0; rw [if_pos hE])
        clear hr
        simp only [List.cons.injEq, and_true] at hE
        obtain ⟨rfl, rfl, rfl, rfl, rfl, rfl, rfl, rfl, rfl, rfl, rfl, rfl⟩ := hE
        clear eq
        gi_wp2
        obtain ⟨h5, hB, hK⟩ := HS.out
        have hK' := (KeepsOthers.setCell W ⟨w.heap.size + 1, 0, none⟩ (.int .i64 0)).same D _ hK rfl
        refine ⟨by simp, .inl ⟨_, _, rfl, run_takeDeferred hK', ?_⟩⟩
        have hc5 := cell_kept ((h5.set_ 0 0).cell (c := 0) (by simp)) (grownBy_putObj' _ D (.deferred none)) (fun r e => by cases e; exact ⟨_, hK', rfl⟩)
        refine ⟨.int .i64 0, ?_, by rw [fin.out], (hB.setCell (p := ⟨w.heap.size + 1, 0, none⟩) (by simp) _).trans (belowK_b (w := w) (Nat.le_refl _) _ D _ _ (by omega) hK' rfl rfl)⟩
        simp [results, Try.results28, go_sem, hc5]
      · have eq : eqiB z0 z1 z2 z3 z4 z5 z6 z7 z8 z9 z10 z11 op fo 0 0 0 0 0 0 0 0 0 0 = false := by rw [Bool.eq_false_iff]; intro h; rw [eqiB_iff] at h; exact hE (by simpa using h)
        have hq := fun W => eqi_run z0 z1 z2 z3 z4 z5 z6 z7 z8 z9 z10 z11 op fo 0 0 0 0 0 0 0 0 0 0 W
        simp only [eq] at hq
        have fin := Lib.hid (show chk op fo [op, fo, r1, r2, x2, b1, d1, b2, d2, l1, l2, i2] = 6 from by rw [← XS.out]; refine hr.out.trans ?_; show (if _ then (0 : Int) else 6) = 6; rw [if_neg hE])
        clear hr hE
        gi_wp2
        obtain ⟨h5, hB, hK⟩ := HS.out
        have hK' := (KeepsOthers.setCell W ⟨w.heap.size + 1, 0, none⟩ (.int .i64 6)).same D _ hK rfl
        refine ⟨by simp, .inl ⟨_, _, rfl, run_takeDeferred hK', ?_⟩⟩
        have hc5 := cell_kept ((h5.set_ 0 6).cell (c := 0) (by simp)) (grownBy_putObj' _ D (.deferred none)) (fun r e => by cases e; exact ⟨_, hK', rfl⟩)
        refine ⟨.int .i64 6, ?_, by rw [fin.out], (hB.setCell (p := ⟨w.heap.size + 1, 0, none⟩) (by simp) _).trans (belowK_b (w := w) (Nat.le_refl _) _ D _ _ (by omega) hK' rfl rfl)⟩
        simp [results, Try.results28, go_sem, hc5]
    case stop =>
      rintro D c pre W hD ⟨cc, hcc, hpre⟩ ⟨⟨rfl, hsc, h5⟩, hB⟩ hK
      have fin := Lib.hid (show chk op fo [op, fo, r1, r2, x2, b1, d1, b2, d2, l1, l2, i2] = 6 from by rw [hr.out, ← XS.out, scan_take (c := cc) (by rw [← hpre]; exact hsc)])
      gi_wp2
      refine ⟨by simp, .inl ⟨_, _, rfl, run_takeDeferred hK, ?_⟩⟩
      have hc5 := cell_kept (h5.cell (c := 0) (by simp)) (grownBy_putObj' _ D (.deferred none)) (fun r e => by cases e; exact ⟨_, hK, rfl⟩)
      refine ⟨.int .i64 6, ?_, by rw [fin.out], hB.trans (belowK_b (w := w) (Nat.le_refl _) W D _ _ (by omega) hK rfl rfl)⟩
      simp [results, Try.results28, go_sem, hc5]
  · have hr := Lib.hid (show chk op fm [op, fm, r1, r2, x2, b1, d1, b2, d2, l1, l2, i2] = 80 from by unfold chk; rw [if_neg (by rw [hio, hfo]; exact hA)])
    cases io
    · clear hA hio hfo
      gi_wp2_with (refine ⟨trivial, ?_⟩; gi_at_call 25; refine (callsIn_wide.2 (FC.out _)).mono ?_; rintro e w1 ⟨rfl, n1, rfl⟩)
      refine ⟨.int .i64 80, by simp [results, Try.results28, go_sem], by rw [hr.out], ?_⟩
      exact (dBelow' (((Below.refl w.heap.size w).alloc (Nat.le_refl _) _).alloc (by simp) _) n1).setCell (p := ⟨w.heap.size + 1, 0, none⟩) (by simp) _
    · have hne : (fo != fm) = true := by rw [bne_iff_ne]; exact fun e => hA ⟨rfl, e⟩
      clear hA hio hfo
      gi_wp2_with (refine ⟨trivial, ?_⟩; gi_at_call 25; refine (callsIn_wide.2 (FC.out _)).mono ?_; rintro e w1 ⟨rfl, n1, rfl⟩)
      refine ⟨.int .i64 80, by simp [results, Try.results28, go_sem], by rw [hr.out], ?_⟩
      exact (dBelow' (((Below.refl w.heap.size w).alloc (Nat.le_refl _) _).alloc (by simp) _) n1).setCell (p := ⟨w.heap.size + 1, 0, none⟩) (by simp) _
end Go.Proofs.Ythjdjbipfdigeaa

namespace Go.Proofs.Ythjdjbipfdigeaa
open Go.RowKit
set_option linter.unusedVariables false
set_option linter.unusedSimpArgs false
/-- the cells of a machine -/
def mcC (is os rs : List Int) (ps : List Value) (s : Value) (ov : Bool) : List Value := is.map (Value.int .i64) ++ (os.map (Value.int .u32) ++ (rs.map (Value.int .u32) ++ (ps ++ [s, .bool ov])))
def Mc (w : World) (g : Nat) (is os rs : List Int) (ps : List Value) (s : Value) (ov : Bool) : Prop := w.heap[g]? = some (.cells (mcC is os rs ps s ov).toArray 69 (0, 0)) ∧ is.length = 12 ∧ os.length = 16 ∧ rs.length = 16 ∧ ps.length = 10
section
variable {w w' : World} {g : Nat} {is os rs : List Int} {ps : List Value} {s : Value} {ov : Bool}
theorem Mc.cellAt (h : Mc w g is os rs ps s ov) (c : Nat) : w.cell? ⟨g, c, none⟩ = (mcC is os rs ps s ov)[c]? := by rw [cell_blk h.1 c]; simp
theorem Mc.lt (h : Mc w g is os rs ps s ov) : g < w.heap.size := (Array.getElem?_eq_some_iff.1 h.1).1
theorem Mc.ci (h : Mc w g is os rs ps s ov) {c : Nat} (hc : c < 12) : w.cell? ⟨g, c, none⟩ = some (.int .i64 (is.getD c 0)) := by
  obtain ⟨h0, h1, h2, h3, h4⟩ := h
  rw [Mc.cellAt ⟨h0, h1, h2, h3, h4⟩]; unfold mcC
  rw [List.getElem?_append_left (by simp; omega), List.getElem?_map, List.getD_eq_getElem?_getD, List.getElem?_eq_getElem (by omega)]; rfl
theorem Mc.co (h : Mc w g is os rs ps s ov) {n : Nat} (hn : n < 16) : w.cell? ⟨g, 12 + n, none⟩ = some (.int .u32 (os.getD n 0)) := by
  obtain ⟨h0, h1, h2, h3, h4⟩ := h
  rw [Mc.cellAt ⟨h0, h1, h2, h3, h4⟩]; unfold mcC
  rw [List.getElem?_append_right (by simp; omega), List.getElem?_append_left (by simp; omega), List.length_map, h1, show 12 + n - 12 = n by omega, List.getElem?_map, List.getD_eq_getElem?_getD, List.getElem?_eq_getElem (by omega)]; rfl
theorem Mc.cr (h : Mc w g is os rs ps s ov) {n : Nat} (hn : n < 16) : w.cell? ⟨g, 28 + n, none⟩ = some (.int .u32 (rs.getD n 0)) := by
  obtain ⟨h0, h1, h2, h3, h4⟩ := h
  rw [Mc.cellAt ⟨h0, h1, h2, h3, h4⟩]; unfold mcC
  rw [List.getElem?_append_right (by simp; omega), List.getElem?_append_right (by simp; omega), List.getElem?_append_left (by simp; omega), List.length_map, List.length_map, h1, h2, show 28 + n - 12 - 16 = n by omega, List.getElem?_map, List.getD_eq_getElem?_getD, List.getElem?_eq_getElem (by omega)]; rfl
theorem Mc.cp (h : Mc w g is os rs ps s ov) {n : Nat} (hn : n < 10) : w.cell? ⟨g, 44 + n, none⟩ = some (ps.getD n undef) := by
  obtain ⟨h0, h1, h2, h3, h4⟩ := h
  rw [Mc.cellAt ⟨h0, h1, h2, h3, h4⟩]; unfold mcC
  rw [List.getElem?_append_right (by simp; omega), List.getElem?_append_right (by simp; omega), List.getElem?_append_right (by simp; omega), List.getElem?_append_left (by simp; omega), List.length_map, List.length_map, List.length_map, h1, h2, h3, show 44 + n - 12 - 16 - 16 = n by omega, List.getD_eq_getElem?_getD, List.getElem?_eq_getElem (by omega)]; rfl
theorem Mc.cs (h : Mc w g is os rs ps s ov) : w.cell? ⟨g, 54, none⟩ = some s := by
  obtain ⟨h0, h1, h2, h3, h4⟩ := h
  rw [Mc.cellAt ⟨h0, h1, h2, h3, h4⟩]; unfold mcC
  rw [List.getElem?_append_right (by simp; omega), List.getElem?_append_right (by simp; omega), List.getElem?_append_right (by simp; omega), List.getElem?_append_right (by simp; omega), List.length_map, List.length_map, List.length_map, h1, h2, h3, h4]; rfl
theorem Mc.cv (h : Mc w g is os rs ps s ov) : w.cell? ⟨g, 55, none⟩ = some (.bool ov) := by
  obtain ⟨h0, h1, h2, h3, h4⟩ := h
  rw [Mc.cellAt ⟨h0, h1, h2, h3, h4⟩]; unfold mcC
  rw [List.getElem?_append_right (by simp; omega), List.getElem?_append_right (by simp; omega), List.getElem?_append_right (by simp; omega), List.getElem?_append_right (by simp; omega), List.length_map, List.length_map, List.length_map, h1, h2, h3, h4]; rfl
theorem Mc.free (h : Mc w g is os rs ps s ov) (c : Nat) : w.frozen? ⟨g, c, none⟩ = false := by simp [World.frozen?, h.1]
theorem Mc.kept (h : Mc w g is os rs ps s ov) (hk : w'.heap[g]? = w.heap[g]?) : Mc w' g is os rs ps s ov := ⟨hk.trans h.1, h.2⟩
theorem Mc.keep (h : Mc w g is os rs ps s ov) (hb : Below w.heap.size w w') : Mc w' g is os rs ps s ov := h.kept (hb.block _ h.lt)
theorem Mc.alloc (h : Mc w g is os rs ps s ov) (o : Obj) : Mc (w.alloc o) g is os rs ps s ov := h.kept (Below.heap_alloc w o _ h.lt)
theorem Mc.drewN (h : Mc w g is os rs ps s ov) (n : Nat) : Mc (w.drewN n) g is os rs ps s ov := h
theorem Mc.other (h : Mc w g is os rs ps s ov) {p : Addr} (v : Value) (hp : p.block ≠ g) : Mc (w.setCell p v) g is os rs ps s ov := h.kept (Below.heap_setCell w p v g (Ne.symm hp))
theorem Mc.setr (h : Mc w g is os rs ps s ov) {n : Nat} (hn : n < 16) (v : Int) : Mc (w.setCell ⟨g, 28 + n, none⟩ (.int .u32 v)) g is os (rs.set n v) ps s ov := by
  obtain ⟨h0, h1, h2, h3, h4⟩ := h
  refine ⟨?_, h1, h2, by simpa using h3, h4⟩
  rw [setCell_eq_setRow w g (28 + n) _ _ (0, 0) _ h0, setRow_heap w g _ _ _ _ h0, List.setIfInBounds_toArray]
  congr 3
  unfold mcC
  rw [List.set_append_right _ _ (by simp; omega), List.set_append_right _ _ (by simp; omega), List.set_append_left _ _ (by simp; omega), List.length_map, List.length_map, h1, h2, show 28 + n - 12 - 16 = n by omega, List.map_set]
theorem Mc.setp (h : Mc w g is os rs ps s ov) {n : Nat} (hn : n < 10) (v : Value) : Mc (w.setCell ⟨g, 44 + n, none⟩ v) g is os rs (ps.set n v) s ov := by
  obtain ⟨h0, h1, h2, h3, h4⟩ := h
  refine ⟨?_, h1, h2, h3, by simpa using h4⟩
  rw [setCell_eq_setRow w g (44 + n) _ _ (0, 0) _ h0, setRow_heap w g _ _ _ _ h0, List.setIfInBounds_toArray]
  congr 3
  unfold mcC
  rw [List.set_append_right _ _ (by simp; omega), List.set_append_right _ _ (by simp; omega), List.set_append_right _ _ (by simp; omega), List.set_append_left _ _ (by simp; omega), List.length_map, List.length_map, List.length_map, h1, h2, h3, show 44 + n - 12 - 16 - 16 = n by omega]
theorem Mc.setv (h : Mc w g is os rs ps s ov) (b : Bool) : Mc (w.setCell ⟨g, 55, none⟩ (.bool b)) g is os rs ps s b := by
  obtain ⟨h0, h1, h2, h3, h4⟩ := h
  refine ⟨?_, h1, h2, h3, h4⟩
  rw [setCell_eq_setRow w g 55 _ _ (0, 0) _ h0, setRow_heap w g _ _ _ _ h0, List.setIfInBounds_toArray]
  congr 3
  unfold mcC
  rw [List.set_append_right _ _ (by simp; omega), List.set_append_right _ _ (by simp; omega), List.set_append_right _ _ (by simp; omega), List.set_append_right _ _ (by simp; omega), List.length_map, List.length_map, List.length_map, h1, h2, h3, h4]
  rfl
end
/-- only the blocks of L may have changed -/
structure Ch (w w' : World) (L : List Nat) : Prop where
  os : w'.os = w.os
  tape : w'.tape = w.tape
  output : w'.output = w.output
  size : w.heap.size ≤ w'.heap.size
  block : ∀ k, k < w.heap.size → k ∉ L → w'.heap[k]? = w.heap[k]?
theorem Ch.refl (w : World) (L : List Nat) : Ch w w L := ⟨rfl, rfl, rfl, Nat.le_refl _, fun _ _ _ => rfl⟩
theorem Ch.trans {a b c : World} {L : List Nat} (h : Ch a b L) (k : Ch b c L) : Ch a c L := ⟨k.os.trans h.os, k.tape.trans h.tape, k.output.trans h.output, Nat.le_trans h.size k.size, fun i hi hL => (k.block i (Nat.lt_of_lt_of_le hi h.size) hL).trans (h.block i hi hL)⟩
theorem Ch.mono {a b : World} {L M : List Nat} (h : Ch a b L) (hs : ∀ k, k ∈ L → k ∈ M) : Ch a b M := ⟨h.os, h.tape, h.output, h.size, fun i hi hM => h.block i hi (fun hk => hM (hs i hk))⟩
theorem Ch.of_below {a b : World} (h : Below a.heap.size a b) (L : List Nat) : Ch a b L := ⟨h.os, h.tape, h.output, h.size, fun i hi _ => h.block i hi⟩
theorem Ch.setCell {a b : World} {L : List Nat} (h : Ch a b L) {p : Addr} (hp : p.block ∈ L) (v : Value) : Ch a (b.setCell p v) L :=
  h.trans ⟨rfl, rfl, rfl, by simp [World.setCell], fun k _ hk => Below.heap_setCell b p v k (fun e => hk (e ▸ hp))⟩
theorem Ch.setNew {a b : World} {L : List Nat} (h : Ch a b L) {p : Addr} (hp : a.heap.size ≤ p.block) (v : Value) : Ch a (b.setCell p v) L :=
  ⟨h.os, h.tape, h.output, by have := h.size; simpa [World.setCell] using this, fun k hk hL => (Below.heap_setCell b p v k (by omega)).trans (h.block k hk hL)⟩
theorem Ch.drewN {a b : World} {L : List Nat} (h : Ch a b L) (n : Nat) : Ch a (b.drewN n) L := ⟨h.os, h.tape, h.output, h.size, h.block⟩
theorem Ch.alloc {a b : World} {L : List Nat} (h : Ch a b L) (o : Obj) : Ch a (b.alloc o) L := ⟨h.os, h.tape, h.output, by have := h.size; simp; omega, fun k hk hL => (Below.heap_alloc b o k (Nat.lt_of_lt_of_le hk h.size)).trans (h.block k hk hL)⟩
theorem Ch.below {a b : World} {L : List Nat} {B : Nat} (h : Ch a b L) (hB : B ≤ a.heap.size) (hL : ∀ k, k ∈ L → B ≤ k) : Below B a b := ⟨h.os, h.tape, h.output, h.size, fun i hi => h.block i (by omega) (fun hk => by have := hL i hk; omega)⟩
theorem Ch.kept {a b : World} {L : List Nat} (h : Ch a b L) {k : Nat} (hk : k < a.heap.size) (hL : k ∉ L) : b.heap[k]? = a.heap[k]? := h.block k hk hL
end Go.Proofs.Ythjdjbipfdigeaa

namespace Go.Proofs.Ythjdjbipfdigeaa
open Go.RowKit
set_option linter.unusedVariables false
set_option linter.unusedSimpArgs false
set_option maxRecDepth 1000000 in
set_option maxHeartbeats 4000000 in
theorem set_c (g n : Nat) (v cc : Int) (o : Bool) (is os rs : List Int) (ps : List Value) (s : Value) (ov : Bool) (w : World) (hm : Mc w g is os rs ps s ov) (hn : is.getD 2 0 = (n : Int)) (hn16 : n < 16) : Calls Try.prog 58 #[.pointer (some ⟨g, 0, none⟩), .int .u32 v, .int .i64 cc, .bool o] w fun e w' => e = .returned (.tuple #[]) ∧ Mc w' g is os (rs.set n v) (ps.set 7 (.int .i64 cc)) s o ∧ Ch w w' [g] := by
  have c2 := hm.ci (c := 2) (by omega)
  rw [hn] at c2
  have c3 := hm.cr hn16
  have c4 := hm.cp (n := 7) (by omega)
  have c5 := hm.cv
  have f3 := hm.free (28 + n)
  have f4 := hm.free 51
  have f5 := hm.free 55
  have i0 : (n : Int) < 16 := by omega
  have i1 : (0 : Int) ≤ (n : Int) := by omega
  have HM := Lib.hid hm
  clear hm hn
  go_enter Try.func58, Try.ntmps58
  go_upto_region 0 with fail
  go_region
  go_wp2
  go_end0
  refine ⟨rfl, ?_, ?_⟩
  · exact (((HM.out.setr hn16 v).setp (n := 7) (by omega) (.int .i64 cc)).setv o).drewN 1
  · exact ((((Ch.refl w [g]).setCell (by simp) _).setCell (by simp) _).setCell (by simp) _).drewN 1
end Go.Proofs.Ythjdjbipfdigeaa

namespace Go.Proofs.Ythjdjbipfdigeaa
open Go.RowKit
set_option linter.unusedVariables false

set_option maxHeartbeats 400000 in
theorem sign_c (n : Int) (w : World) :
    Calls Try.prog 96 #[.int .i64 n] w fun e w' => e = .returned (.int .i64 (sgn n)) ∧ w = w' := by
  by_cases h0 : n = 0
  · subst h0
    go_enter Try.func96, Try.ntmps96
    go_wp2
    go_ret
    exact ⟨rfl, rfl⟩
  · have e0 : (n == 0) = false := by simpa using h0
    by_cases h1 : n < 0
    · have hs := Lib.hid (sgn_neg n h1)
      go_enter Try.func96, Try.ntmps96
      go_wp2
      go_ret
      exact ⟨by rw [hs.out]; rfl, rfl⟩
    · have hs := Lib.hid (sgn_pos n (by omega))
      go_enter Try.func96, Try.ntmps96
      go_wp2
      go_ret
      exact ⟨by rw [hs.out]; rfl, rfl⟩

set_option maxHeartbeats 400000 in
theorem test_c (a : Int) (ha : 0 ≤ a) (ha' : a ≤ 4294967295) (w : World) :
    Calls Try.prog 98 #[.int .u32 a] w fun e w' => e = .returned (.int .i64 (sgn (sg a))) ∧ w = w' := by
  have ea := wrap32_sg a ha ha'
  have la := sg_lo a ha
  have ua := sg_hi a ha'
  go_enter Try.func98, Try.ntmps98
  go_wp2_with (go_at_call 96; refine (sign_c _ _).mono ?_; rintro e w' ⟨rfl, rfl⟩)
  go_ret
  exact ⟨rfl, rfl⟩

set_option maxHeartbeats 400000 in
theorem result_c (n : Int) (hn : -9223372036854775808 ≤ n) (hn' : n ≤ 9223372036854775807) (w : World) :
    Calls Try.prog 105 #[.int .i64 n] w fun e w' => e = .returned (.tuple #[.int .u32 (lo32 n), .int .i64 (rcc n), .bool (ovf n)]) ∧ w = w' := by
  have et := fits_test n hn hn'
  cases ho : ovf n
  · have hr := Lib.hid (rcc_in n ho)
    rw [ho] at et
    clear ho
    go_enter Try.func105, Try.ntmps105
    go_wp2_with (go_at_call 96; refine (sign_c _ _).mono ?_; rintro e w' ⟨rfl, rfl⟩)
    go_ret3
    exact ⟨by rw [hr.out]; rfl, rfl⟩
  · have hr := Lib.hid (rcc_over n ho)
    rw [ho] at et
    clear ho
    go_enter Try.func105, Try.ntmps105
    go_wp2_with (go_at_call 96; refine (sign_c _ _).mono ?_; rintro e w' ⟨rfl, rfl⟩)
    go_ret3
    exact ⟨by rw [hr.out]; rfl, rfl⟩

set_option maxHeartbeats 400000 in
theorem add_c (a b : Int) (ha : 0 ≤ a) (ha' : a ≤ 4294967295) (hb : 0 ≤ b) (hb' : b ≤ 4294967295) (w : World) :
    Calls Try.prog 87 #[.int .u32 a, .int .u32 b] w fun e w' => e = .returned (.tuple #[.int .u32 (lo32 (sg a + sg b)), .int .i64 (rcc (sg a + sg b)), .bool (ovf (sg a + sg b))]) ∧ w = w' := by
  have ea := wrap32_sg a ha ha'
  have la := sg_lo a ha
  have ua := sg_hi a ha'
  have eb := wrap32_sg b hb hb'
  have lb := sg_lo b hb
  have ub := sg_hi b hb'
  go_enter Try.func87, Try.ntmps87
  go_wp2_with (go_at_call 105; refine (result_c _ (by omega) (by omega) _).mono ?_; rintro e w' ⟨rfl, rfl⟩)
  go_ret3
  exact ⟨rfl, rfl⟩

set_option maxHeartbeats 400000 in
theorem sub_c (a b : Int) (ha : 0 ≤ a) (ha' : a ≤ 4294967295) (hb : 0 ≤ b) (hb' : b ≤ 4294967295) (w : World) :
    Calls Try.prog 88 #[.int .u32 a, .int .u32 b] w fun e w' => e = .returned (.tuple #[.int .u32 (lo32 (sg a - sg b)), .int .i64 (rcc (sg a - sg b)), .bool (ovf (sg a - sg b))]) ∧ w = w' := by
  have ea := wrap32_sg a ha ha'
  have la := sg_lo a ha
  have ua := sg_hi a ha'
  have eb := wrap32_sg b hb hb'
  have lb := sg_lo b hb
  have ub := sg_hi b hb'
  go_enter Try.func88, Try.ntmps88
  go_wp2_with (go_at_call 105; refine (result_c _ (by omega) (by omega) _).mono ?_; rintro e w' ⟨rfl, rfl⟩)
  go_ret3
  exact ⟨rfl, rfl⟩

set_option maxHeartbeats 400000 in
theorem complement_c (a : Int) (ha : 0 ≤ a) (ha' : a ≤ 4294967295) (w : World) :
    Calls Try.prog 104 #[.int .u32 a] w fun e w' => e = .returned (.tuple #[.int .u32 (lo32 (-sg a)), .int .i64 (rcc (-sg a)), .bool (ovf (-sg a))]) ∧ w = w' := by
  have hz := Lib.hid (show sg 0 - sg a = -sg a from by rw [sg_zero]; omega)
  go_enter Try.func104, Try.ntmps104
  go_wp2_with (go_at_call 88; refine (sub_c 0 a (by omega) (by omega) ha ha' _).mono ?_; rintro e w' ⟨rfl, rfl⟩)
  go_ret3
  exact ⟨by rw [← hz.out]; rfl, rfl⟩

set_option maxHeartbeats 400000 in
theorem carry_c (v : Int) (high : Bool) (w : World) :
    Calls Try.prog 106 #[.int .u32 v, .bool high] w fun e w' => e = .returned (.int .i64 (lcc v high)) ∧ w = w' := by
  by_cases h0 : v = 0
  · subst h0
    cases high
    all_goals
      go_enter Try.func106, Try.ntmps106
      go_wp2
      go_ret
      exact ⟨rfl, rfl⟩
  · have e0 : (v != 0) = true := by simpa using h0
    have hs := Lib.hid h0
    clear h0
    cases high
    all_goals
      go_enter Try.func106, Try.ntmps106
      go_wp2
      go_ret
      exact ⟨by simp [lcc, hs.out], rfl⟩

set_option maxHeartbeats 400000 in
theorem addl_c (a b : Int) (ha : 0 ≤ a) (ha' : a ≤ 4294967295) (hb : 0 ≤ b) (hb' : b ≤ 4294967295) (w : World) :
    Calls Try.prog 89 #[.int .u32 a, .int .u32 b] w fun e w' => e = .returned (.tuple #[.int .u32 (lo32 (a + b)), .int .i64 (lcc (lo32 (a + b)) (decide (4294967296 ≤ a + b)))]) ∧ w = w' := by
  have hs := Lib.hid (sum_high a b ha ha' hb hb')
  have hl := lo32_is (a + b)
  go_enter Try.func89, Try.ntmps89
  go_wp2_with (go_at_call 106; refine (carry_c _ _ _).mono ?_; rintro e w' ⟨rfl, rfl⟩)
  go_ret2
  exact ⟨by rw [← hs.out]; rfl, rfl⟩

set_option maxHeartbeats 400000 in
theorem subl_c (a b : Int) (ha : 0 ≤ a) (ha' : a ≤ 4294967295) (hb : 0 ≤ b) (hb' : b ≤ 4294967295) (w : World) :
    Calls Try.prog 90 #[.int .u32 a, .int .u32 b] w fun e w' => e = .returned (.tuple #[.int .u32 (lo32 (a - b)), .int .i64 (lcc (lo32 (a - b)) (decide (b ≤ a)))]) ∧ w = w' := by
  have hl := lo32_is (a - b)
  go_enter Try.func90, Try.ntmps90
  go_wp2_with (go_at_call 106; refine (carry_c _ _ _).mono ?_; rintro e w' ⟨rfl, rfl⟩)
  go_ret2
  exact ⟨rfl, rfl⟩

set_option maxHeartbeats 400000 in
theorem compare_c (a b : Int) (ha : 0 ≤ a) (ha' : a ≤ 4294967295) (hb : 0 ≤ b) (hb' : b ≤ 4294967295) (w : World) :
    Calls Try.prog 55 #[.int .u32 a, .int .u32 b] w fun e w' => e = .returned (.int .i64 (sgn (sg a - sg b))) ∧ w = w' := by
  have ea := wrap32_sg a ha ha'
  have la := sg_lo a ha
  have ua := sg_hi a ha'
  have eb := wrap32_sg b hb hb'
  have lb := sg_lo b hb
  have ub := sg_hi b hb'
  go_enter Try.func55, Try.ntmps55
  go_wp2_with (go_at_call 96; refine (sign_c _ _).mono ?_; rintro e w' ⟨rfl, rfl⟩)
  go_ret
  exact ⟨rfl, rfl⟩

set_option maxHeartbeats 400000 in
theorem comparel_c (a b : Int) (ha : 0 ≤ a) (ha' : a ≤ 4294967295) (hb : 0 ≤ b) (hb' : b ≤ 4294967295) (w : World) :
    Calls Try.prog 73 #[.int .u32 a, .int .u32 b] w fun e w' => e = .returned (.int .i64 (sgn (a - b))) ∧ w = w' := by
  go_enter Try.func73, Try.ntmps73
  go_wp2_with (go_at_call 96; refine (sign_c _ _).mono ?_; rintro e w' ⟨rfl, rfl⟩)
  go_ret
  exact ⟨rfl, rfl⟩

set_option maxHeartbeats 400000 in
theorem mul_c (a b : Int) (ha : 0 ≤ a) (ha' : a ≤ 4294967295) (hb : 0 ≤ b) (hb' : b ≤ 4294967295) (w : World) :
    Calls Try.prog 92 #[.int .u32 a, .int .u32 b] w fun e w' => e = .returned (.tuple #[.int .u32 (lo32 (sg a * sg b / 4294967296)), .int .u32 (lo32 (sg a * sg b))]) ∧ w = w' := by
  have ea := wrap32_sg a ha ha'
  have la := sg_lo a ha
  have ua := sg_hi a ha'
  have eb := wrap32_sg b hb hb'
  have lb := sg_lo b hb
  have ub := sg_hi b hb'
  have p0 := prod_lo a b ha ha' hb hb'
  have p1 := prod_hi a b ha ha' hb hb'
  go_enter Try.func92, Try.ntmps92
  go_wp2
  go_ret2
  exact ⟨rfl, rfl⟩

set_option maxHeartbeats 400000 in
theorem double_c (a b : Int) (ha : 0 ≤ a) (ha' : a ≤ 4294967295) (hb : 0 ≤ b) (hb' : b ≤ 4294967295) (w : World) :
    Calls Try.prog 99 #[.int .u32 a, .int .u32 b] w fun e w' => e = .returned (.int .u64 (dbl a b)) ∧ w = w' := by
  have ho := or_dbl a b ha ha' hb hb'
  go_enter Try.func99, Try.ntmps99
  go_wp2
  go_ret
  exact ⟨rfl, rfl⟩

set_option maxHeartbeats 800000 in
theorem div_c (a b d : Int) (ha : 0 ≤ a) (ha' : a ≤ 4294967295) (hb : 0 ≤ b) (hb' : b ≤ 4294967295) (hd : 0 ≤ d) (hd' : d ≤ 4294967295) (w : World) :
    Calls Try.prog 102 #[.int .u32 a, .int .u32 b, .int .u32 d] w fun e w' => e = .returned (.tuple #[.int .u32 (drem (sg64 (dbl a b)) (sg d)), .int .u32 (dquo (sg64 (dbl a b)) (sg d)), .bool (dok (sg64 (dbl a b)) (sg d))]) ∧ w = w' := by
  have x0 := dbl_lo a b ha hb
  have x1 := dbl_hi a b ha' hb'
  have ex := wrap64_sg (dbl a b) x0 x1
  have y0 := sg64_lo (dbl a b) x0
  have y1 := sg64_hi (dbl a b) x1
  have ed := wrap32_sg d hd hd'
  have ld := sg_lo d hd
  have ud := sg_hi d hd'
  by_cases hz : sg d = 0
  · have hq := Lib.hid (dok_zero (sg64 (dbl a b)))
    have eb : (sg d == 0) = true := by simpa using hz
    have hz' := Lib.hid hz
    clear hz
    go_enter Try.func102, Try.ntmps102
    go_wp2_with (go_at_call 99; refine (double_c _ _ ha ha' hb hb' _).mono ?_; rintro e w' ⟨rfl, rfl⟩)
    go_ret3
    exact ⟨by simp [hz'.out, drem, dquo, hq.out], rfl⟩
  · have eb : (sg d == 0) = false := by simpa using hz
    have hz' := Lib.hid hz
    have et := quo_test (sg64 (dbl a b)) (sg d) hz y0 y1
    cases hq : dok (sg64 (dbl a b)) (sg d)
    · rw [hq] at et
      have hq' := Lib.hid hq
      clear hq
      go_enter Try.func102, Try.ntmps102
      go_wp2_with (go_at_call 99; refine (double_c _ _ ha ha' hb hb' _).mono ?_; rintro e w' ⟨rfl, rfl⟩)
      go_ret3
      exact ⟨by simp [drem, dquo, hq'.out], rfl⟩
    · rw [hq] at et
      have hq' := Lib.hid hq
      clear hq
      have q0 := (dok_in _ _ hq'.out).2.1
      have q1 := (dok_in _ _ hq'.out).2.2
      go_enter Try.func102, Try.ntmps102
      go_wp2_with (go_at_call 99; refine (double_c _ _ ha ha' hb hb' _).mono ?_; rintro e w' ⟨rfl, rfl⟩)
      go_ret3
      exact ⟨by rw [drem_ok _ _ hq'.out, dquo_ok _ _ hq'.out]; rfl, rfl⟩

set_option maxHeartbeats 400000 in
theorem places_c (n : Int) (hn : -9223372036854775808 ≤ n) (hn' : n ≤ 9223372036854775807) (w : World) :
    Calls Try.prog 97 #[.int .i64 n] w fun e w' => e = .returned (.int .u64 (↑(plc n))) ∧ w = w' := by
  have e1 := Lib.hid (show IntKind.u64.wrap n % 64 = (plc n : Int) from by rw [IntKind.wrap_u64]; unfold plc; omega)
  have b0 : 0 ≤ IntKind.u64.wrap n := by rw [IntKind.wrap_u64]; omega
  go_enter Try.func97, Try.ntmps97
  go_wp2
  go_ret
  exact ⟨by rw [← e1.out]; rfl, rfl⟩

end Go.Proofs.Ythjdjbipfdigeaa

