/- THE WALK of WordKnown: the examples of the chapter hold; it writes nothing that was there. No conditions. -/
import Derived.Test.YtmabamijogbbnaaWdC7
import Derived.Test.YtmabamijogbbnaaWdK
import Derived.OpenShut
namespace Go.Proofs.Ytmabamijogbbnaa
open Go.RowKit Go.ChangeShapes Go.WideShapes
set_option linter.unusedVariables false

set_option maxRecDepth 100000 in
set_option maxHeartbeats 4000000 in
theorem knownShifts_c (w : World) : Calls Try.prog 66 #[] w fun e w' => e = .returned (.bool true) ∧ w = w' := by
  have q0 : slv 2147483649 (plc 1) = 2147483650 := by decide +kernel
  have q1 : slc 2147483649 (plc 1) = 3 := by decide +kernel
  have q2 : slo 2147483649 (plc 1) = true := by decide +kernel
  have q3 : slv 3221225472 (plc 1) = 2147483648 := by decide +kernel
  have q4 : slc 3221225472 (plc 1) = 1 := by decide +kernel
  have q5 : slo 3221225472 (plc 1) = false := by decide +kernel
  have q6 : slv 1 (plc 64) = 1 := by decide +kernel
  have q7 : slc 1 (plc 64) = 2 := by decide +kernel
  have q8 : slo 1 (plc 64) = false := by decide +kernel
  have q9 : srv 2147483648 (plc 31) = 4294967295 := by decide +kernel
  have q10 : srv 2147483648 (plc 63) = 4294967295 := by decide +kernel
  have q11 : sgn (sg 4294967295) = 1 := by decide +kernel
  have q12 : slg 2147483648 (plc 31) false = 1 := by decide +kernel
  have q13 : lo32 (dlv (dbl 0 2147483648) (plc 1) / 4294967296) = 1 := by decide +kernel
  have q14 : lo32 (dlv (dbl 0 2147483648) (plc 1)) = 0 := by decide +kernel
  have q15 : dlc (dbl 0 2147483648) (plc 1) = 2 := by decide +kernel
  have q16 : dlo (dbl 0 2147483648) (plc 1) = false := by decide +kernel
  have q17 : lo32 (drv (dbl 2147483648 0) (plc 32) / 4294967296) = 4294967295 := by decide +kernel
  have q18 : lo32 (drv (dbl 2147483648 0) (plc 32)) = 2147483648 := by decide +kernel
  have q19 : sgn (sg64 (drv (dbl 2147483648 0) (plc 32))) = 1 := by decide +kernel
  have q20 : lo32 (dlg (dbl 1 2147483648) (plc 63) true / 4294967296) = 0 := by decide +kernel
  have q21 : lo32 (dlg (dbl 1 2147483648) (plc 63) true) = 0 := by decide +kernel
  go_enter Try.func66, Try.ntmps66
  go_wp2_with (first | (go_at_call 45; refine (add_c _ _ (by omega) (by omega) (by omega) (by omega) _).mono ?_; rintro e w' ⟨rfl, rfl⟩) | (go_at_call 32; refine (sub_c _ _ (by omega) (by omega) (by omega) (by omega) _).mono ?_; rintro e w' ⟨rfl, rfl⟩) | (go_at_call 48; refine (complement_c _ (by omega) (by omega) _).mono ?_; rintro e w' ⟨rfl, rfl⟩) | (go_at_call 50; refine (addl_c _ _ (by omega) (by omega) (by omega) (by omega) _).mono ?_; rintro e w' ⟨rfl, rfl⟩) | (go_at_call 33; refine (subl_c _ _ (by omega) (by omega) (by omega) (by omega) _).mono ?_; rintro e w' ⟨rfl, rfl⟩) | (go_at_call 19; refine (compare_c _ _ (by omega) (by omega) (by omega) (by omega) _).mono ?_; rintro e w' ⟨rfl, rfl⟩) | (go_at_call 21; refine (comparel_c _ _ (by omega) (by omega) (by omega) (by omega) _).mono ?_; rintro e w' ⟨rfl, rfl⟩) | (go_at_call 23; refine (test_c _ (by omega) (by omega) _).mono ?_; rintro e w' ⟨rfl, rfl⟩) | (go_at_call 25; refine (mul_c _ _ (by omega) (by omega) (by omega) (by omega) _).mono ?_; rintro e w' ⟨rfl, rfl⟩) | (go_at_call 27; refine (div_c _ _ _ (by omega) (by omega) (by omega) (by omega) (by omega) (by omega) _).mono ?_; rintro e w' ⟨rfl, rfl⟩) | (go_at_call 61; refine (shiftla_c _ _ (by omega) (by omega) (by omega) (by omega) _).mono ?_; rintro e w' ⟨rfl, rfl⟩) | (go_at_call 60; refine (shiftr_c _ _ (by omega) (by omega) (by omega) (by omega) _).mono ?_; rintro e w' ⟨rfl, rfl⟩) | (go_at_call 64; refine (shiftl_c _ _ _ (by omega) (by omega) (by omega) (by omega) _).mono ?_; rintro e w' ⟨rfl, rfl⟩) | (go_at_call 54; refine (shiftlad_c _ _ _ (by omega) (by omega) (by omega) (by omega) (by omega) (by omega) _).mono ?_; rintro e w' ⟨rfl, rfl⟩) | (go_at_call 56; refine (shiftrd_c _ _ _ (by omega) (by omega) (by omega) (by omega) (by omega) (by omega) _).mono ?_; rintro e w' ⟨rfl, rfl⟩) | (go_at_call 58; refine (shiftld_c _ _ _ _ (by omega) (by omega) (by omega) (by omega) (by omega) (by omega) _).mono ?_; rintro e w' ⟨rfl, rfl⟩) | (go_at_call 30; refine (signed_c _ (by omega) (by omega) _).mono ?_; rintro e w' ⟨rfl, rfl⟩) | (go_at_call 29; refine (long_c _ _ (by omega) (by omega) (by omega) (by omega) _).mono ?_; rintro e w' ⟨rfl, rfl⟩) | (go_at_call 53; refine (code_c _ _).mono ?_; rintro e w' ⟨rfl, rfl⟩) | (go_at_call 31; refine (size_c _ (by omega) (by omega) _).mono ?_; rintro e w' ⟨rfl, rfl⟩))
  go_ret
  exact ⟨rfl, rfl⟩

set_option maxRecDepth 100000 in
set_option maxHeartbeats 8000000 in
theorem wordKnown_walk (w : World) : Calls Try.prog 17 #[] w fun e w' => e = .returned (.bool true) ∧ Below w.heap.size w w' := by
  have q0 : fval 5 1 [1, 2, 3, 4, 5] = 33752069 := by decide +kernel
  have q1 : fitB 5 1 4 = true := by decide +kernel
  have q2 : fitB 5 2 4 = false := by decide +kernel
  have q3 : fitB 5 (-1) 4 = false := by decide +kernel
  have q4 : plen 3 1 2 = 3 := by decide +kernel
  have q5 : pbytes 3 1 2 [1, 2, 3] (hby 41136) = [1, 160, 176] := by decide +kernel
  have q6 : fitB 3 1 2 = true := by decide +kernel
  have q7 : plen 3 0 4 = 0 := by decide +kernel
  have q8 : pbytes 3 0 4 [1, 2, 3] (fby 41136) = [] := by decide +kernel
  have q9 : fitB 3 0 4 = false := by decide +kernel
  have q10 : lo32 (sg 2147483648 - sg 1) = 2147483647 := by decide +kernel
  have q11 : rcc (sg 2147483648 - sg 1) = 3 := by decide +kernel
  have q12 : ovf (sg 2147483648 - sg 1) = true := by decide +kernel
  have q13 : lo32 (-sg 2147483648) = 2147483648 := by decide +kernel
  have q14 : rcc (-sg 2147483648) = 3 := by decide +kernel
  have q15 : ovf (-sg 2147483648) = true := by decide +kernel
  have q16 : lo32 4294967296 = 0 := by decide +kernel
  have q17 : lcc 0 true = 2 := by decide +kernel
  have q18 : lo32 (-1) = 4294967295 := by decide +kernel
  have q19 : lcc 4294967295 false = 1 := by decide +kernel
  have q20 : lo32 0 = 0 := by decide +kernel
  have q21 : sgn 4294967295 = 2 := by decide +kernel
  have q22 : sgn (sg 2147483648) = 1 := by decide +kernel
  have q23 : lo32 (sg 4294967294 * sg 3 / 4294967296) = 4294967295 := by decide +kernel
  have q24 : lo32 (sg 4294967294 * sg 3) = 4294967290 := by decide +kernel
  have q25 : drem (sg64 (dbl 4294967295 4294967290)) (sg 4) = 4294967294 := by decide +kernel
  have q26 : dquo (sg64 (dbl 4294967295 4294967290)) (sg 4) = 4294967295 := by decide +kernel
  have q27 : dok (sg64 (dbl 4294967295 4294967290)) (sg 4) = true := by decide +kernel
  have q28 : dok (sg64 (dbl 0 2147483648)) (sg 1) = false := by decide +kernel
  go_enter Try.func17, Try.ntmps17
  go_wp2_with fail
  have Y1 := Lib.hid (byt_new w [1, 2, 3, 4, 5] (by decide) #[.int .u8 1, .int .u8 2, .int .u8 3, .int .u8 4, .int .u8 5] (by simp) 5 rfl 5)
  have X1 := Lib.hid ((Below.refl w.heap.size w).alloc (Nat.le_refl _) (.cells #[.int .u8 1, .int .u8 2, .int .u8 3, .int .u8 4, .int .u8 5] 5))
  refine (full_any (some ⟨w.heap.size, 0, none⟩) 5 5 1 [1, 2, 3, 4, 5] _ (by omega) (by exact Y1.out) (by omega) (by omega)).mono ?_
  rintro e w1 ⟨rfl, n1, rfl⟩
  go_wp2_with fail
  refine (full_any (some ⟨w.heap.size, 0, none⟩) 5 5 2 [1, 2, 3, 4, 5] _ (by omega) (by exact Y1.out.drewN _) (by omega) (by omega)).mono ?_
  rintro e w1 ⟨rfl, n2, rfl⟩
  go_wp2_with fail
  refine (full_any (some ⟨w.heap.size, 0, none⟩) 5 5 (-1) [1, 2, 3, 4, 5] _ (by omega) (by exact Y1.out.drewN _) (by omega) (by omega)).mono ?_
  rintro e w1 ⟨rfl, n3, rfl⟩
  go_wp2_with fail
  have Y2 := Lib.hid (byt_new ((w.alloc (.cells #[.int .u8 1, .int .u8 2, .int .u8 3, .int .u8 4, .int .u8 5] 5)).drewN (n1 + n2 + n3)) [1, 2, 3] (by decide) #[.int .u8 1, .int .u8 2, .int .u8 3] (by simp) 3 rfl 5)
  refine (puthalf_any (some ⟨w.heap.size + 1, 0, none⟩) 3 3 1 41136 [1, 2, 3] _ (by omega) (by have := Y2.out; simpa using this) (by intro h; cases h) (by omega) (by omega) (by omega) (by omega)).mono ?_
  rintro e w2 ⟨A3, c3, rfl, o3, h3, b3⟩
  rw [q4, q5] at o3
  have O3 := Lib.hid o3
  have B3 := Lib.hid (show Below w.heap.size w w2 from ((drewN_below ((Below.refl w.heap.size w).alloc (Nat.le_refl _) _) _).alloc (by simp) _).trans (b3.mono (by simp; omega)))
  clear o3 h3 b3
  go_wp2_with fail
  have Y3 := Lib.hid (byt_new w2 [1, 2, 3] (by decide) #[.int .u8 1, .int .u8 2, .int .u8 3] (by simp) 3 rfl 5)
  refine (putfull_any (some ⟨w2.heap.size, 0, none⟩) 3 3 0 41136 [1, 2, 3] _ (by omega) (by exact Y3.out) (by intro h; cases h) (by omega) (by omega) (by omega) (by omega)).mono ?_
  rintro e w3 ⟨A4, c4, rfl, o4, h4, b4⟩
  have B4 := Lib.hid (show Below w2.heap.size w2 w3 from ((Below.refl _ _).alloc (Nat.le_refl _) _).trans (b4.mono (by simp)))
  clear o4 h4 b4
  go_wp2_with fail
  have Y4 := Lib.hid (byt_new w3 [1, 160, 176] (by decide) #[.int .u8 1, .int .u8 160, .int .u8 176] (by simp) 3 rfl 5)
  refine (same_c A3 3 c3 [1, 160, 176] (some ⟨w3.heap.size, 0, none⟩) 3 3 [1, 160, 176] _ (by exact (O3.out.byt.keep B4.out).keep ((Below.refl _ _).alloc (Nat.le_refl _) _)) (by exact Y4.out) (by omega) (by omega)).mono ?_
  rintro e w4 ⟨rfl, n4, rfl⟩
  rw [show decide (([1, 160, 176] : List Int) = [1, 160, 176]) = true from by decide]
  have B5 := Lib.hid (show Below w.heap.size w (w3.alloc (.cells #[.int .u8 1, .int .u8 160, .int .u8 176] 5)) from (B3.out.trans (B4.out.mono B3.out.size)).alloc (Nat.le_trans B3.out.size B4.out.size) _)
  go_wp2_with (first | (go_at_call 66; refine (knownShifts_c _).mono ?_; rintro e w' ⟨rfl, rfl⟩) | (go_at_call 45; refine (add_c _ _ (by omega) (by omega) (by omega) (by omega) _).mono ?_; rintro e w' ⟨rfl, rfl⟩) | (go_at_call 32; refine (sub_c _ _ (by omega) (by omega) (by omega) (by omega) _).mono ?_; rintro e w' ⟨rfl, rfl⟩) | (go_at_call 48; refine (complement_c _ (by omega) (by omega) _).mono ?_; rintro e w' ⟨rfl, rfl⟩) | (go_at_call 50; refine (addl_c _ _ (by omega) (by omega) (by omega) (by omega) _).mono ?_; rintro e w' ⟨rfl, rfl⟩) | (go_at_call 33; refine (subl_c _ _ (by omega) (by omega) (by omega) (by omega) _).mono ?_; rintro e w' ⟨rfl, rfl⟩) | (go_at_call 19; refine (compare_c _ _ (by omega) (by omega) (by omega) (by omega) _).mono ?_; rintro e w' ⟨rfl, rfl⟩) | (go_at_call 21; refine (comparel_c _ _ (by omega) (by omega) (by omega) (by omega) _).mono ?_; rintro e w' ⟨rfl, rfl⟩) | (go_at_call 23; refine (test_c _ (by omega) (by omega) _).mono ?_; rintro e w' ⟨rfl, rfl⟩) | (go_at_call 25; refine (mul_c _ _ (by omega) (by omega) (by omega) (by omega) _).mono ?_; rintro e w' ⟨rfl, rfl⟩) | (go_at_call 27; refine (div_c _ _ _ (by omega) (by omega) (by omega) (by omega) (by omega) (by omega) _).mono ?_; rintro e w' ⟨rfl, rfl⟩) | (go_at_call 61; refine (shiftla_c _ _ (by omega) (by omega) (by omega) (by omega) _).mono ?_; rintro e w' ⟨rfl, rfl⟩) | (go_at_call 60; refine (shiftr_c _ _ (by omega) (by omega) (by omega) (by omega) _).mono ?_; rintro e w' ⟨rfl, rfl⟩) | (go_at_call 64; refine (shiftl_c _ _ _ (by omega) (by omega) (by omega) (by omega) _).mono ?_; rintro e w' ⟨rfl, rfl⟩) | (go_at_call 54; refine (shiftlad_c _ _ _ (by omega) (by omega) (by omega) (by omega) (by omega) (by omega) _).mono ?_; rintro e w' ⟨rfl, rfl⟩) | (go_at_call 56; refine (shiftrd_c _ _ _ (by omega) (by omega) (by omega) (by omega) (by omega) (by omega) _).mono ?_; rintro e w' ⟨rfl, rfl⟩) | (go_at_call 58; refine (shiftld_c _ _ _ _ (by omega) (by omega) (by omega) (by omega) (by omega) (by omega) _).mono ?_; rintro e w' ⟨rfl, rfl⟩) | (go_at_call 30; refine (signed_c _ (by omega) (by omega) _).mono ?_; rintro e w' ⟨rfl, rfl⟩) | (go_at_call 29; refine (long_c _ _ (by omega) (by omega) (by omega) (by omega) _).mono ?_; rintro e w' ⟨rfl, rfl⟩) | (go_at_call 53; refine (code_c _ _).mono ?_; rintro e w' ⟨rfl, rfl⟩) | (go_at_call 31; refine (size_c _ (by omega) (by omega) _).mono ?_; rintro e w' ⟨rfl, rfl⟩))
  refine (works_c _).mono ?_
  rintro e w6 ⟨rfl, hb⟩
  have B6 := Lib.hid hb
  clear hb
  go_wp2_with fail
  go_ret
  exact ⟨rfl, (drewN_below B5.out _).trans (B6.out.mono B5.out.size)⟩
end Go.Proofs.Ytmabamijogbbnaa
