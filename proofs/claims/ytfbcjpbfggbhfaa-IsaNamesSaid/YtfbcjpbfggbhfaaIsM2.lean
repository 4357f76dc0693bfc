/- CONTRACT of isa.Mask. No conditions but the string's size. -/
import Derived.Test.YtfbcjpbfggbhfaaIsM
import Derived.Deep.Cut
namespace Go.Proofs.Ytfbcjpbfggbhfaa
open Go.RowKit
set_option linter.unusedVariables false
set_option linter.unusedSimpArgs false
def cutR (s : ByteArray) : ByteArray := s.extract 0 (s.size - 1)
def lastB (s : ByteArray) : Int := ((s.data.getD (s.size - 1) 0).toNat : Int)
theorem mkV_no {s : ByteArray} (h : mkOk s = false) : mkV s = 0 := by
  unfold mkOk at h; unfold mkV; rw [if_neg (of_decide_eq_false h)]
theorem wpList_stepG {P : Program} {ops : Array Oper} {rest : List Oper} {o : Oper} {a : Act} {w w' : World} {v : Value} {Q : Exit → Act → World → Prop} (hg : Region.wanted o (yielded ops a.tmps) = true) (h : (execOp a.eval o).run P w = .ok (.value v) w') (hn : wpList P ops Q rest (a.put o.dst v) w') : wpList P ops Q (o :: rest) a w := by
  refine wpList_step fun K hK => ?_
  rw [hg, if_pos rfl]
  unfold Oper.wp
  rw [h]
  exact hK _ _ hn
theorem run_lastB (s : ByteArray) (w : World) (h : (0 : Int) < s.size) : (Instr.index 9 (.string s) (.int .i64 ((s.size : Int) - 1))).run Try.prog w = .ok (.int .u8 (lastB s)) w := by
  rw [run_index_string _ _ _ _ _ (by kernel_rfl), dif_pos ⟨by omega, by omega⟩]
  have e : ((s.size : Int) - 1).toNat = s.size - 1 := by omega
  congr 2
  unfold lastB
  simp only [e]
  rw [ByteArray.getElem_eq_getElem_data, Array.getD_eq_getD_getElem?, Array.getElem?_eq_getElem]
  rfl
theorem run_lastV (s : ByteArray) (w : World) (h : (0 : Int) < s.size) : ((Instr.index 9 (.string s) (.int .i64 ((s.size : Int) - 1))) >>= fun v => pure (Next.value v)).run Try.prog w = .ok (.value (.int .u8 (lastB s))) w := by
  rw [Sem.run_bind, run_lastB s w h]
  rfl
theorem run_cutV (s : ByteArray) (w : World) (h : (0 : Int) < s.size) : ((Instr.sliceAt 9 (.string s) none (some (.int .i64 ((s.size : Int) - 1))) none) >>= fun v => pure (Next.value v)).run Try.prog w = .ok (.value (.string (cutR s))) w := by
  rw [Sem.run_bind, run_sliceAt_string _ _ _ _ _ _ (by kernel_rfl), run_slice_string_h _ _ _ (by kernel_rfl) _ _ (by omega) (by omega)]
  have e : ((s.size : Int) - 1).toNat = s.size - 1 := by omega
  rw [e]
  rfl
set_option maxRecDepth 1000000 in
set_option maxHeartbeats 4000000 in
theorem mask_hit (s : ByteArray) (w : World) (hk : mkOk s = true) : Calls Try.prog 26 #[.string s] w fun e w' => e = .returned (.tuple #[.int .i64 (mkV s), .bool false, .bool true]) ∧ w = w' := by
  have MC := Lib.hid (masks_c s)
  rw [hk] at MC
  clear hk
  go_enter Try.func26, Try.ntmps26
  go_wp2_with (go_at_call 41; refine (MC.out _).mono ?_; rintro e w1 ⟨rfl, hw⟩; subst hw)
  go_ret3
  exact ⟨rfl, rfl⟩
set_option maxRecDepth 1000000 in
set_option maxHeartbeats 4000000 in
theorem mask_nil (s : ByteArray) (w : World) (hk : mkOk s = false) (hs : s.size = 0) : Calls Try.prog 26 #[.string s] w fun e w' => e = .returned (.tuple #[.int .i64 0, .bool false, .bool false]) ∧ w = w' := by
  have MC := Lib.hid (masks_c s)
  rw [hk] at MC
  clear hk
  go_enter Try.func26, Try.ntmps26
  go_wp2_with (go_at_call 41; refine (MC.out _).mono ?_; rintro e w1 ⟨rfl, hw⟩; subst hw)
  go_ret3
  exact ⟨rfl, rfl⟩
set_option maxRecDepth 1000000 in
set_option maxHeartbeats 4000000 in
theorem mask_no (s : ByteArray) (w : World) (hk : mkOk s = false) (hs : (0 : Int) < s.size) (hl : ((s.size : Nat) : Int) ≤ 9223372036854775807) (h8 : lastB s ≠ 82) : Calls Try.prog 26 #[.string s] w fun e w' => e = .returned (.tuple #[.int .i64 0, .bool false, .bool false]) ∧ w = w' := by
  have MC := Lib.hid (masks_c s)
  rw [hk] at MC
  have MC2 := Lib.hid (masks_c (cutR s))
  clear hk
  have g1 : (0 : Int) ≤ (s.size : Int) - 1 := by omega
  have g2 : (s.size : Int) - 1 < (s.size : Int) := by omega
  have g3 : IntKind.i64.wrap ((s.size : Int) - 1) = (s.size : Int) - 1 := by apply wrap_i64_id <;> omega
  have HL := Lib.hid hl
  have HS := Lib.hid hs
  clear hl
  go_enter Try.func26, Try.ntmps26
  go_upto_region 5 with (go_at_call 41; first | (refine (MC.out _).mono ?_; rintro e w1 ⟨rfl, hw⟩; subst hw) | (refine (MC2.out _).mono ?_; rintro e w1 ⟨rfl, hw⟩; subst hw))
  refine wp_region_list ?_
  simp only [List.append_eq, List.cons_append, List.nil_append]
  refine wpList_stepG (v := .int .i64 s.size) (w' := w) rfl (by kernel_rfl) ?_
  try simp only [Act.put, List.setIfInBounds_toArray, List.set_cons_zero, List.set_cons_succ]
  refine wpList_stepG (v := .bool true) (w' := w) rfl (by go_simp; exact Int.ofNat_lt.mp HS.out) ?_
  try simp only [Act.put, List.setIfInBounds_toArray, List.set_cons_zero, List.set_cons_succ]
  refine wpList_stepG (v := .bool true) (w' := w) rfl (by kernel_rfl) ?_
  try simp only [Act.put, List.setIfInBounds_toArray, List.set_cons_zero, List.set_cons_succ]
  refine wpList_stepG (v := .string s) (w' := w) rfl (by kernel_rfl) ?_
  try simp only [Act.put, List.setIfInBounds_toArray, List.set_cons_zero, List.set_cons_succ]
  refine wpList_stepG (v := .int .i64 s.size) (w' := w) rfl (by kernel_rfl) ?_
  try simp only [Act.put, List.setIfInBounds_toArray, List.set_cons_zero, List.set_cons_succ]
  refine wpList_stepG (v := .int .i64 ((s.size : Int) - 1)) (w' := w) rfl (by go_simp) ?_
  try simp only [Act.put, List.setIfInBounds_toArray, List.set_cons_zero, List.set_cons_succ]
  refine wpList_stepG (v := .int .u8 (lastB s)) (w' := w) rfl (run_lastV s w HS.out) ?_
  try simp only [Act.put, List.setIfInBounds_toArray, List.set_cons_zero, List.set_cons_succ]
  refine wpList_stepG (v := .bool false) (w' := w) rfl (by go_simp) ?_
  try simp only [Act.put, List.setIfInBounds_toArray, List.set_cons_zero, List.set_cons_succ]
  refine wpList_stepG (v := .bool false) (w' := w) rfl (by kernel_rfl) ?_
  try simp only [Act.put, List.setIfInBounds_toArray, List.set_cons_zero, List.set_cons_succ]
  refine wpList_nil ?_
  go_wp2
  go_ret3
  exact ⟨rfl, rfl⟩
set_option maxRecDepth 1000000 in
set_option maxHeartbeats 4000000 in
theorem mask_R (s : ByteArray) (w : World) (hk : mkOk s = false) (hs : (0 : Int) < s.size) (hl : ((s.size : Nat) : Int) ≤ 9223372036854775807) (h8 : lastB s = 82) : Calls Try.prog 26 #[.string s] w fun e w' => e = .returned (.tuple #[.int .i64 (mkV (cutR s)), .bool (mkOk (cutR s)), .bool (mkOk (cutR s))]) ∧ w = w' := by
  have MC := Lib.hid (masks_c s)
  rw [hk] at MC
  have MC2 := Lib.hid (masks_c (cutR s))
  clear hk
  have g1 : (0 : Int) ≤ (s.size : Int) - 1 := by omega
  have g2 : (s.size : Int) - 1 < (s.size : Int) := by omega
  have g3 : IntKind.i64.wrap ((s.size : Int) - 1) = (s.size : Int) - 1 := by apply wrap_i64_id <;> omega
  have HL := Lib.hid hl
  have HS := Lib.hid hs
  clear hl
  go_enter Try.func26, Try.ntmps26
  go_upto_region 5 with (go_at_call 41; first | (refine (MC.out _).mono ?_; rintro e w1 ⟨rfl, hw⟩; subst hw) | (refine (MC2.out _).mono ?_; rintro e w1 ⟨rfl, hw⟩; subst hw))
  refine wp_region_list ?_
  simp only [List.append_eq, List.cons_append, List.nil_append]
  refine wpList_stepG (v := .int .i64 s.size) (w' := w) rfl (by kernel_rfl) ?_
  try simp only [Act.put, List.setIfInBounds_toArray, List.set_cons_zero, List.set_cons_succ]
  refine wpList_stepG (v := .bool true) (w' := w) rfl (by go_simp; exact Int.ofNat_lt.mp HS.out) ?_
  try simp only [Act.put, List.setIfInBounds_toArray, List.set_cons_zero, List.set_cons_succ]
  refine wpList_stepG (v := .bool true) (w' := w) rfl (by kernel_rfl) ?_
  try simp only [Act.put, List.setIfInBounds_toArray, List.set_cons_zero, List.set_cons_succ]
  refine wpList_stepG (v := .string s) (w' := w) rfl (by kernel_rfl) ?_
  try simp only [Act.put, List.setIfInBounds_toArray, List.set_cons_zero, List.set_cons_succ]
  refine wpList_stepG (v := .int .i64 s.size) (w' := w) rfl (by kernel_rfl) ?_
  try simp only [Act.put, List.setIfInBounds_toArray, List.set_cons_zero, List.set_cons_succ]
  refine wpList_stepG (v := .int .i64 ((s.size : Int) - 1)) (w' := w) rfl (by go_simp) ?_
  try simp only [Act.put, List.setIfInBounds_toArray, List.set_cons_zero, List.set_cons_succ]
  refine wpList_stepG (v := .int .u8 (lastB s)) (w' := w) rfl (run_lastV s w HS.out) ?_
  try simp only [Act.put, List.setIfInBounds_toArray, List.set_cons_zero, List.set_cons_succ]
  refine wpList_stepG (v := .bool true) (w' := w) rfl (by go_simp) ?_
  try simp only [Act.put, List.setIfInBounds_toArray, List.set_cons_zero, List.set_cons_succ]
  refine wpList_stepG (v := .bool true) (w' := w) rfl (by kernel_rfl) ?_
  try simp only [Act.put, List.setIfInBounds_toArray, List.set_cons_zero, List.set_cons_succ]
  refine wpList_nil ?_
  go_upto_region 6 with fail
  refine wp_region_list ?_
  simp only [List.append_eq, List.cons_append, List.nil_append]
  refine wpList_stepG (v := .string s) (w' := w) rfl (by kernel_rfl) ?_
  try simp only [Act.put, List.setIfInBounds_toArray, List.set_cons_zero, List.set_cons_succ]
  refine wpList_stepG (v := .int .i64 s.size) (w' := w) rfl (by kernel_rfl) ?_
  try simp only [Act.put, List.setIfInBounds_toArray, List.set_cons_zero, List.set_cons_succ]
  refine wpList_stepG (v := .int .i64 ((s.size : Int) - 1)) (w' := w) rfl (by go_simp) ?_
  try simp only [Act.put, List.setIfInBounds_toArray, List.set_cons_zero, List.set_cons_succ]
  refine wpList_stepG (v := .string (cutR s)) (w' := w) rfl (run_cutV s w HS.out) ?_
  try simp only [Act.put, List.setIfInBounds_toArray, List.set_cons_zero, List.set_cons_succ]
  cases hq : mkOk (cutR s)
  all_goals rw [hq] at MC2
  · go_wp2_with (go_at_call 41; refine (MC2.out _).mono ?_; rintro e w1 ⟨rfl, hw⟩; subst hw)
    go_ret3
    refine ⟨?_, rfl⟩
    show Ending.returned (.tuple #[.int .i64 0, .bool false, .bool false]) = _
    rw [mkV_no hq, hq]
  · go_wp2_with (go_at_call 41; refine (MC2.out _).mono ?_; rintro e w1 ⟨rfl, hw⟩; subst hw)
    go_ret3
    refine ⟨?_, rfl⟩
    show Ending.returned (.tuple #[.int .i64 (mkV (cutR s)), .bool true, .bool true]) = _
    rw [hq]
def isR (s : ByteArray) : Bool := decide ((0 : Int) < s.size) && decide (lastB s = 82)
def maskV (s : ByteArray) : Int := if mkOk s = true then mkV s else if isR s = true then mkV (cutR s) else 0
def maskR (s : ByteArray) : Bool := !mkOk s && (isR s && mkOk (cutR s))
def maskO (s : ByteArray) : Bool := mkOk s || (isR s && mkOk (cutR s))
theorem mask_c (s : ByteArray) (w : World) (hl : ((s.size : Nat) : Int) ≤ 9223372036854775807) : Calls Try.prog 26 #[.string s] w fun e w' => e = .returned (.tuple #[.int .i64 (maskV s), .bool (maskR s), .bool (maskO s)]) ∧ w = w' := by
  cases hk : mkOk s
  · by_cases h0 : s.size = 0
    · have hr : isR s = false := by unfold isR; rw [h0]; rfl
      have e := mask_nil s w hk h0
      unfold maskV maskR maskO
      rw [hk, hr]
      exact e
    · by_cases h8 : lastB s = 82
      · have hr : isR s = true := by unfold isR; rw [h8, decide_eq_true (by omega)]; rfl
        have e := mask_R s w hk (by omega) hl h8
        unfold maskV maskR maskO
        rw [hk, hr]
        simpa using e
      · have hr : isR s = false := by unfold isR; rw [decide_eq_false h8]; simp
        have e := mask_no s w hk (by omega) hl h8
        unfold maskV maskR maskO
        rw [hk, hr]
        exact e
  · have e := mask_hit s w hk
    unfold maskV maskR maskO
    rw [hk]
    simpa using e
end Go.Proofs.Ytfbcjpbfggbhfaa
