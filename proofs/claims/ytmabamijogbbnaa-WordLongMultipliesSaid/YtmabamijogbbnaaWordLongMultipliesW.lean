/- THE WALK of WordLongMultiplies: whatever the words, it returns true and writes nothing that was there. No conditions. -/
import Derived.Test.YtmabamijogbbnaaWdC7
import Derived.Test.YtmabamijogbbnaaWd4
import Derived.OpenShut
namespace Go.Proofs.Ytmabamijogbbnaa
open Go.RowKit Go.ChangeShapes Go.WideShapes
set_option linter.unusedVariables false

set_option maxRecDepth 100000 in
set_option maxHeartbeats 2000000 in
theorem wlm1 (a0 a1 a2 : Int) (p : Nat) (w : World) (la0 : 0 ≤ a0) (ua0 : a0 ≤ 4294967295) (la1 : 0 ≤ a1) (ua1 : a1 ≤ 4294967295) (la2 : -9223372036854775808 ≤ a2) (ua2 : a2 ≤ 9223372036854775807) (hp : plc a2 = p) (hp63 : p ≤ 63) (hpp : plc (p : Int) = p) (hn : 0 ≤ a2) (ht : a2 % 64 = (p : Int)) :
    Calls Try.prog 12 #[.int .u32 a0, .int .u32 a1, .int .i64 a2] w fun e w' => e = .returned (.bool true) ∧ Below w.heap.size w w' := by
  have x0 := dbl_lo a0 a1 la0 la1
  have x1 := dbl_hi a0 a1 ua0 ua1
  obtain ⟨x, hx⟩ : ∃ x, dbl a0 a1 = x := ⟨_, rfl⟩
  rw [hx] at x0 x1
  have y0 := sg64_lo x x0
  have y1 := sg64_hi x x1
  have eu : IntKind.u64.wrap (sg64 x) = x := by rw [IntKind.wrap_u64]; exact sg64_mod x x0 x1
  have v0 := dlv_lo x p
  have v1 := dlv_hi x p
  have r0 := drv_lo x p
  have r1 := drv_hi x p
  have g0 := dlg_lo x p true x0
  have g1 := dlg_hi x p true x0 x1
  have q0 := dlg_lo x p false x0
  have q1 := dlg_hi x p false x0 x1
  have d1 := dbl_split (drv x p) r0 r1
  have d2 := dbl_split (dlg x p true) g0 g1
  have d3 := dbl_split (dlg x p false) q0 q1
  have d4 := dbl_split (dlv x p) v0 v1
  have b1 := lo32_lo (drv x p / 4294967296)
  have b2 := lo32_hi (drv x p / 4294967296)
  have b3 := lo32_lo (drv x p)
  have b4 := lo32_hi (drv x p)
  have c1 := lo32_lo (dlg x p true / 4294967296)
  have c2 := lo32_hi (dlg x p true / 4294967296)
  have c3 := lo32_lo (dlg x p true)
  have c4 := lo32_hi (dlg x p true)
  have f1 := lo32_lo (dlg x p false / 4294967296)
  have f2 := lo32_hi (dlg x p false / 4294967296)
  have f3 := lo32_lo (dlg x p false)
  have f4 := lo32_hi (dlg x p false)
  have h1 := lo32_lo (dlv x p / 4294967296)
  have h2 := lo32_hi (dlv x p / 4294967296)
  have h3 := lo32_lo (dlv x p)
  have h4 := lo32_hi (dlv x p)
  have er := sgn_drv x p x0 x1
  have el := long_left x p
  have eg : IntKind.u64.wrap (sg64 (dlg x p false)) = x / 2 ^ p := by rw [IntKind.wrap_u64]; exact sg64_mod _ q0 q1
  have ev : IntKind.u64.wrap (sg64 (dlv x p)) = dlv x p := by rw [IntKind.wrap_u64]; exact sg64_mod _ v0 v1
  have et := dlo_test x p hp63 x0 x1
  have eb := dlv_bits x p x0 x1
  have eq2 : (wrap64 (sg64 x * 2 ^ p) / 2 ^ p == sg64 x) = !dlo x p := by rw [← et]; simp [bne]
  clear et
  cases ho : dlo x p
  · have hc : dlc x p = sgn (sg64 (dlv x p)) := by simp [dlc, ho]
    rw [ho] at eq2
    go_enter Try.func12, Try.ntmps12
    go_wp2_with (first | (go_at_call 18; refine (works_c _).mono ?_; rintro e w1 ⟨rfl, hb⟩) | (go_at_call 45; refine (add_c _ _ (by omega) (by omega) (by omega) (by omega) _).mono ?_; rintro e w' ⟨rfl, rfl⟩) | (go_at_call 32; refine (sub_c _ _ (by omega) (by omega) (by omega) (by omega) _).mono ?_; rintro e w' ⟨rfl, rfl⟩) | (go_at_call 48; refine (complement_c _ (by omega) (by omega) _).mono ?_; rintro e w' ⟨rfl, rfl⟩) | (go_at_call 50; refine (addl_c _ _ (by omega) (by omega) (by omega) (by omega) _).mono ?_; rintro e w' ⟨rfl, rfl⟩) | (go_at_call 33; refine (subl_c _ _ (by omega) (by omega) (by omega) (by omega) _).mono ?_; rintro e w' ⟨rfl, rfl⟩) | (go_at_call 19; refine (compare_c _ _ (by omega) (by omega) (by omega) (by omega) _).mono ?_; rintro e w' ⟨rfl, rfl⟩) | (go_at_call 21; refine (comparel_c _ _ (by omega) (by omega) (by omega) (by omega) _).mono ?_; rintro e w' ⟨rfl, rfl⟩) | (go_at_call 23; refine (test_c _ (by omega) (by omega) _).mono ?_; rintro e w' ⟨rfl, rfl⟩) | (go_at_call 25; refine (mul_c _ _ (by omega) (by omega) (by omega) (by omega) _).mono ?_; rintro e w' ⟨rfl, rfl⟩) | (go_at_call 27; refine (div_c _ _ _ (by omega) (by omega) (by omega) (by omega) (by omega) (by omega) _).mono ?_; rintro e w' ⟨rfl, rfl⟩) | (go_at_call 61; refine (shiftla_c _ _ (by omega) (by omega) (by omega) (by omega) _).mono ?_; rintro e w' ⟨rfl, rfl⟩) | (go_at_call 60; refine (shiftr_c _ _ (by omega) (by omega) (by omega) (by omega) _).mono ?_; rintro e w' ⟨rfl, rfl⟩) | (go_at_call 64; refine (shiftl_c _ _ _ (by omega) (by omega) (by omega) (by omega) _).mono ?_; rintro e w' ⟨rfl, rfl⟩) | (go_at_call 54; refine (shiftlad_c _ _ _ (by omega) (by omega) (by omega) (by omega) (by omega) (by omega) _).mono ?_; rintro e w' ⟨rfl, rfl⟩) | (go_at_call 56; refine (shiftrd_c _ _ _ (by omega) (by omega) (by omega) (by omega) (by omega) (by omega) _).mono ?_; rintro e w' ⟨rfl, rfl⟩) | (go_at_call 58; refine (shiftld_c _ _ _ _ (by omega) (by omega) (by omega) (by omega) (by omega) (by omega) _).mono ?_; rintro e w' ⟨rfl, rfl⟩) | (go_at_call 30; refine (signed_c _ (by omega) (by omega) _).mono ?_; rintro e w' ⟨rfl, rfl⟩) | (go_at_call 29; refine (long_c _ _ (by omega) (by omega) (by omega) (by omega) _).mono ?_; rintro e w' ⟨rfl, rfl⟩) | (go_at_call 53; refine (code_c _ _).mono ?_; rintro e w' ⟨rfl, rfl⟩) | (go_at_call 31; refine (size_c _ (by omega) (by omega) _).mono ?_; rintro e w' ⟨rfl, rfl⟩))
    go_ret
    exact ⟨rfl, hb⟩
  · have hc : dlc x p = 3 := by simp [dlc, ho]
    rw [ho] at eq2
    go_enter Try.func12, Try.ntmps12
    go_wp2_with (first | (go_at_call 18; refine (works_c _).mono ?_; rintro e w1 ⟨rfl, hb⟩) | (go_at_call 45; refine (add_c _ _ (by omega) (by omega) (by omega) (by omega) _).mono ?_; rintro e w' ⟨rfl, rfl⟩) | (go_at_call 32; refine (sub_c _ _ (by omega) (by omega) (by omega) (by omega) _).mono ?_; rintro e w' ⟨rfl, rfl⟩) | (go_at_call 48; refine (complement_c _ (by omega) (by omega) _).mono ?_; rintro e w' ⟨rfl, rfl⟩) | (go_at_call 50; refine (addl_c _ _ (by omega) (by omega) (by omega) (by omega) _).mono ?_; rintro e w' ⟨rfl, rfl⟩) | (go_at_call 33; refine (subl_c _ _ (by omega) (by omega) (by omega) (by omega) _).mono ?_; rintro e w' ⟨rfl, rfl⟩) | (go_at_call 19; refine (compare_c _ _ (by omega) (by omega) (by omega) (by omega) _).mono ?_; rintro e w' ⟨rfl, rfl⟩) | (go_at_call 21; refine (comparel_c _ _ (by omega) (by omega) (by omega) (by omega) _).mono ?_; rintro e w' ⟨rfl, rfl⟩) | (go_at_call 23; refine (test_c _ (by omega) (by omega) _).mono ?_; rintro e w' ⟨rfl, rfl⟩) | (go_at_call 25; refine (mul_c _ _ (by omega) (by omega) (by omega) (by omega) _).mono ?_; rintro e w' ⟨rfl, rfl⟩) | (go_at_call 27; refine (div_c _ _ _ (by omega) (by omega) (by omega) (by omega) (by omega) (by omega) _).mono ?_; rintro e w' ⟨rfl, rfl⟩) | (go_at_call 61; refine (shiftla_c _ _ (by omega) (by omega) (by omega) (by omega) _).mono ?_; rintro e w' ⟨rfl, rfl⟩) | (go_at_call 60; refine (shiftr_c _ _ (by omega) (by omega) (by omega) (by omega) _).mono ?_; rintro e w' ⟨rfl, rfl⟩) | (go_at_call 64; refine (shiftl_c _ _ _ (by omega) (by omega) (by omega) (by omega) _).mono ?_; rintro e w' ⟨rfl, rfl⟩) | (go_at_call 54; refine (shiftlad_c _ _ _ (by omega) (by omega) (by omega) (by omega) (by omega) (by omega) _).mono ?_; rintro e w' ⟨rfl, rfl⟩) | (go_at_call 56; refine (shiftrd_c _ _ _ (by omega) (by omega) (by omega) (by omega) (by omega) (by omega) _).mono ?_; rintro e w' ⟨rfl, rfl⟩) | (go_at_call 58; refine (shiftld_c _ _ _ _ (by omega) (by omega) (by omega) (by omega) (by omega) (by omega) _).mono ?_; rintro e w' ⟨rfl, rfl⟩) | (go_at_call 30; refine (signed_c _ (by omega) (by omega) _).mono ?_; rintro e w' ⟨rfl, rfl⟩) | (go_at_call 29; refine (long_c _ _ (by omega) (by omega) (by omega) (by omega) _).mono ?_; rintro e w' ⟨rfl, rfl⟩) | (go_at_call 53; refine (code_c _ _).mono ?_; rintro e w' ⟨rfl, rfl⟩) | (go_at_call 31; refine (size_c _ (by omega) (by omega) _).mono ?_; rintro e w' ⟨rfl, rfl⟩))
    go_ret
    exact ⟨rfl, hb⟩

set_option maxRecDepth 100000 in
set_option maxHeartbeats 2000000 in
theorem wlm2 (a0 a1 a2 : Int) (p : Nat) (w : World) (la0 : 0 ≤ a0) (ua0 : a0 ≤ 4294967295) (la1 : 0 ≤ a1) (ua1 : a1 ≤ 4294967295) (la2 : -9223372036854775808 ≤ a2) (ua2 : a2 ≤ 9223372036854775807) (hp : plc a2 = p) (hp63 : p ≤ 63) (hpp : plc (p : Int) = p) (hz : a2.tmod 64 = (p : Int)) :
    Calls Try.prog 12 #[.int .u32 a0, .int .u32 a1, .int .i64 a2] w fun e w' => e = .returned (.bool true) ∧ Below w.heap.size w w' := by
  have x0 := dbl_lo a0 a1 la0 la1
  have x1 := dbl_hi a0 a1 ua0 ua1
  obtain ⟨x, hx⟩ : ∃ x, dbl a0 a1 = x := ⟨_, rfl⟩
  rw [hx] at x0 x1
  have y0 := sg64_lo x x0
  have y1 := sg64_hi x x1
  have eu : IntKind.u64.wrap (sg64 x) = x := by rw [IntKind.wrap_u64]; exact sg64_mod x x0 x1
  have v0 := dlv_lo x p
  have v1 := dlv_hi x p
  have r0 := drv_lo x p
  have r1 := drv_hi x p
  have g0 := dlg_lo x p true x0
  have g1 := dlg_hi x p true x0 x1
  have q0 := dlg_lo x p false x0
  have q1 := dlg_hi x p false x0 x1
  have d1 := dbl_split (drv x p) r0 r1
  have d2 := dbl_split (dlg x p true) g0 g1
  have d3 := dbl_split (dlg x p false) q0 q1
  have d4 := dbl_split (dlv x p) v0 v1
  have b1 := lo32_lo (drv x p / 4294967296)
  have b2 := lo32_hi (drv x p / 4294967296)
  have b3 := lo32_lo (drv x p)
  have b4 := lo32_hi (drv x p)
  have c1 := lo32_lo (dlg x p true / 4294967296)
  have c2 := lo32_hi (dlg x p true / 4294967296)
  have c3 := lo32_lo (dlg x p true)
  have c4 := lo32_hi (dlg x p true)
  have f1 := lo32_lo (dlg x p false / 4294967296)
  have f2 := lo32_hi (dlg x p false / 4294967296)
  have f3 := lo32_lo (dlg x p false)
  have f4 := lo32_hi (dlg x p false)
  have h1 := lo32_lo (dlv x p / 4294967296)
  have h2 := lo32_hi (dlv x p / 4294967296)
  have h3 := lo32_lo (dlv x p)
  have h4 := lo32_hi (dlv x p)
  have er := sgn_drv x p x0 x1
  have el := long_left x p
  have eg : IntKind.u64.wrap (sg64 (dlg x p false)) = x / 2 ^ p := by rw [IntKind.wrap_u64]; exact sg64_mod _ q0 q1
  have ev : IntKind.u64.wrap (sg64 (dlv x p)) = dlv x p := by rw [IntKind.wrap_u64]; exact sg64_mod _ v0 v1
  have et := dlo_test x p hp63 x0 x1
  have eb := dlv_bits x p x0 x1
  have eq2 : (wrap64 (sg64 x * 2 ^ p) / 2 ^ p == sg64 x) = !dlo x p := by rw [← et]; simp [bne]
  clear et
  cases ho : dlo x p
  · have hc : dlc x p = sgn (sg64 (dlv x p)) := by simp [dlc, ho]
    rw [ho] at eq2
    go_enter Try.func12, Try.ntmps12
    go_wp2_with (first | (go_at_call 18; refine (works_c _).mono ?_; rintro e w1 ⟨rfl, hb⟩) | (go_at_call 45; refine (add_c _ _ (by omega) (by omega) (by omega) (by omega) _).mono ?_; rintro e w' ⟨rfl, rfl⟩) | (go_at_call 32; refine (sub_c _ _ (by omega) (by omega) (by omega) (by omega) _).mono ?_; rintro e w' ⟨rfl, rfl⟩) | (go_at_call 48; refine (complement_c _ (by omega) (by omega) _).mono ?_; rintro e w' ⟨rfl, rfl⟩) | (go_at_call 50; refine (addl_c _ _ (by omega) (by omega) (by omega) (by omega) _).mono ?_; rintro e w' ⟨rfl, rfl⟩) | (go_at_call 33; refine (subl_c _ _ (by omega) (by omega) (by omega) (by omega) _).mono ?_; rintro e w' ⟨rfl, rfl⟩) | (go_at_call 19; refine (compare_c _ _ (by omega) (by omega) (by omega) (by omega) _).mono ?_; rintro e w' ⟨rfl, rfl⟩) | (go_at_call 21; refine (comparel_c _ _ (by omega) (by omega) (by omega) (by omega) _).mono ?_; rintro e w' ⟨rfl, rfl⟩) | (go_at_call 23; refine (test_c _ (by omega) (by omega) _).mono ?_; rintro e w' ⟨rfl, rfl⟩) | (go_at_call 25; refine (mul_c _ _ (by omega) (by omega) (by omega) (by omega) _).mono ?_; rintro e w' ⟨rfl, rfl⟩) | (go_at_call 27; refine (div_c _ _ _ (by omega) (by omega) (by omega) (by omega) (by omega) (by omega) _).mono ?_; rintro e w' ⟨rfl, rfl⟩) | (go_at_call 61; refine (shiftla_c _ _ (by omega) (by omega) (by omega) (by omega) _).mono ?_; rintro e w' ⟨rfl, rfl⟩) | (go_at_call 60; refine (shiftr_c _ _ (by omega) (by omega) (by omega) (by omega) _).mono ?_; rintro e w' ⟨rfl, rfl⟩) | (go_at_call 64; refine (shiftl_c _ _ _ (by omega) (by omega) (by omega) (by omega) _).mono ?_; rintro e w' ⟨rfl, rfl⟩) | (go_at_call 54; refine (shiftlad_c _ _ _ (by omega) (by omega) (by omega) (by omega) (by omega) (by omega) _).mono ?_; rintro e w' ⟨rfl, rfl⟩) | (go_at_call 56; refine (shiftrd_c _ _ _ (by omega) (by omega) (by omega) (by omega) (by omega) (by omega) _).mono ?_; rintro e w' ⟨rfl, rfl⟩) | (go_at_call 58; refine (shiftld_c _ _ _ _ (by omega) (by omega) (by omega) (by omega) (by omega) (by omega) _).mono ?_; rintro e w' ⟨rfl, rfl⟩) | (go_at_call 30; refine (signed_c _ (by omega) (by omega) _).mono ?_; rintro e w' ⟨rfl, rfl⟩) | (go_at_call 29; refine (long_c _ _ (by omega) (by omega) (by omega) (by omega) _).mono ?_; rintro e w' ⟨rfl, rfl⟩) | (go_at_call 53; refine (code_c _ _).mono ?_; rintro e w' ⟨rfl, rfl⟩) | (go_at_call 31; refine (size_c _ (by omega) (by omega) _).mono ?_; rintro e w' ⟨rfl, rfl⟩))
    go_ret
    exact ⟨rfl, hb⟩
  · have hc : dlc x p = 3 := by simp [dlc, ho]
    rw [ho] at eq2
    go_enter Try.func12, Try.ntmps12
    go_wp2_with (first | (go_at_call 18; refine (works_c _).mono ?_; rintro e w1 ⟨rfl, hb⟩) | (go_at_call 45; refine (add_c _ _ (by omega) (by omega) (by omega) (by omega) _).mono ?_; rintro e w' ⟨rfl, rfl⟩) | (go_at_call 32; refine (sub_c _ _ (by omega) (by omega) (by omega) (by omega) _).mono ?_; rintro e w' ⟨rfl, rfl⟩) | (go_at_call 48; refine (complement_c _ (by omega) (by omega) _).mono ?_; rintro e w' ⟨rfl, rfl⟩) | (go_at_call 50; refine (addl_c _ _ (by omega) (by omega) (by omega) (by omega) _).mono ?_; rintro e w' ⟨rfl, rfl⟩) | (go_at_call 33; refine (subl_c _ _ (by omega) (by omega) (by omega) (by omega) _).mono ?_; rintro e w' ⟨rfl, rfl⟩) | (go_at_call 19; refine (compare_c _ _ (by omega) (by omega) (by omega) (by omega) _).mono ?_; rintro e w' ⟨rfl, rfl⟩) | (go_at_call 21; refine (comparel_c _ _ (by omega) (by omega) (by omega) (by omega) _).mono ?_; rintro e w' ⟨rfl, rfl⟩) | (go_at_call 23; refine (test_c _ (by omega) (by omega) _).mono ?_; rintro e w' ⟨rfl, rfl⟩) | (go_at_call 25; refine (mul_c _ _ (by omega) (by omega) (by omega) (by omega) _).mono ?_; rintro e w' ⟨rfl, rfl⟩) | (go_at_call 27; refine (div_c _ _ _ (by omega) (by omega) (by omega) (by omega) (by omega) (by omega) _).mono ?_; rintro e w' ⟨rfl, rfl⟩) | (go_at_call 61; refine (shiftla_c _ _ (by omega) (by omega) (by omega) (by omega) _).mono ?_; rintro e w' ⟨rfl, rfl⟩) | (go_at_call 60; refine (shiftr_c _ _ (by omega) (by omega) (by omega) (by omega) _).mono ?_; rintro e w' ⟨rfl, rfl⟩) | (go_at_call 64; refine (shiftl_c _ _ _ (by omega) (by omega) (by omega) (by omega) _).mono ?_; rintro e w' ⟨rfl, rfl⟩) | (go_at_call 54; refine (shiftlad_c _ _ _ (by omega) (by omega) (by omega) (by omega) (by omega) (by omega) _).mono ?_; rintro e w' ⟨rfl, rfl⟩) | (go_at_call 56; refine (shiftrd_c _ _ _ (by omega) (by omega) (by omega) (by omega) (by omega) (by omega) _).mono ?_; rintro e w' ⟨rfl, rfl⟩) | (go_at_call 58; refine (shiftld_c _ _ _ _ (by omega) (by omega) (by omega) (by omega) (by omega) (by omega) _).mono ?_; rintro e w' ⟨rfl, rfl⟩) | (go_at_call 30; refine (signed_c _ (by omega) (by omega) _).mono ?_; rintro e w' ⟨rfl, rfl⟩) | (go_at_call 29; refine (long_c _ _ (by omega) (by omega) (by omega) (by omega) _).mono ?_; rintro e w' ⟨rfl, rfl⟩) | (go_at_call 53; refine (code_c _ _).mono ?_; rintro e w' ⟨rfl, rfl⟩) | (go_at_call 31; refine (size_c _ (by omega) (by omega) _).mono ?_; rintro e w' ⟨rfl, rfl⟩))
    go_ret
    exact ⟨rfl, hb⟩

set_option maxRecDepth 100000 in
set_option maxHeartbeats 2000000 in
theorem wlm3 (a0 a1 a2 : Int) (p : Nat) (w : World) (la0 : 0 ≤ a0) (ua0 : a0 ≤ 4294967295) (la1 : 0 ≤ a1) (ua1 : a1 ≤ 4294967295) (la2 : -9223372036854775808 ≤ a2) (ua2 : a2 ≤ 9223372036854775807) (hp : plc a2 = p) (hp63 : p ≤ 63) (hpp : plc (p : Int) = p) (h31 : a2.tmod 64 < 0) (h32 : -64 < a2.tmod 64) (ht : a2.tmod 64 + 64 = (p : Int)) :
    Calls Try.prog 12 #[.int .u32 a0, .int .u32 a1, .int .i64 a2] w fun e w' => e = .returned (.bool true) ∧ Below w.heap.size w w' := by
  have x0 := dbl_lo a0 a1 la0 la1
  have x1 := dbl_hi a0 a1 ua0 ua1
  obtain ⟨x, hx⟩ : ∃ x, dbl a0 a1 = x := ⟨_, rfl⟩
  rw [hx] at x0 x1
  have y0 := sg64_lo x x0
  have y1 := sg64_hi x x1
  have eu : IntKind.u64.wrap (sg64 x) = x := by rw [IntKind.wrap_u64]; exact sg64_mod x x0 x1
  have v0 := dlv_lo x p
  have v1 := dlv_hi x p
  have r0 := drv_lo x p
  have r1 := drv_hi x p
  have g0 := dlg_lo x p true x0
  have g1 := dlg_hi x p true x0 x1
  have q0 := dlg_lo x p false x0
  have q1 := dlg_hi x p false x0 x1
  have d1 := dbl_split (drv x p) r0 r1
  have d2 := dbl_split (dlg x p true) g0 g1
  have d3 := dbl_split (dlg x p false) q0 q1
  have d4 := dbl_split (dlv x p) v0 v1
  have b1 := lo32_lo (drv x p / 4294967296)
  have b2 := lo32_hi (drv x p / 4294967296)
  have b3 := lo32_lo (drv x p)
  have b4 := lo32_hi (drv x p)
  have c1 := lo32_lo (dlg x p true / 4294967296)
  have c2 := lo32_hi (dlg x p true / 4294967296)
  have c3 := lo32_lo (dlg x p true)
  have c4 := lo32_hi (dlg x p true)
  have f1 := lo32_lo (dlg x p false / 4294967296)
  have f2 := lo32_hi (dlg x p false / 4294967296)
  have f3 := lo32_lo (dlg x p false)
  have f4 := lo32_hi (dlg x p false)
  have h1 := lo32_lo (dlv x p / 4294967296)
  have h2 := lo32_hi (dlv x p / 4294967296)
  have h3 := lo32_lo (dlv x p)
  have h4 := lo32_hi (dlv x p)
  have er := sgn_drv x p x0 x1
  have el := long_left x p
  have eg : IntKind.u64.wrap (sg64 (dlg x p false)) = x / 2 ^ p := by rw [IntKind.wrap_u64]; exact sg64_mod _ q0 q1
  have ev : IntKind.u64.wrap (sg64 (dlv x p)) = dlv x p := by rw [IntKind.wrap_u64]; exact sg64_mod _ v0 v1
  have et := dlo_test x p hp63 x0 x1
  have eb := dlv_bits x p x0 x1
  have eq2 : (wrap64 (sg64 x * 2 ^ p) / 2 ^ p == sg64 x) = !dlo x p := by rw [← et]; simp [bne]
  clear et
  cases ho : dlo x p
  · have hc : dlc x p = sgn (sg64 (dlv x p)) := by simp [dlc, ho]
    rw [ho] at eq2
    go_enter Try.func12, Try.ntmps12
    go_wp2_with (first | (go_at_call 18; refine (works_c _).mono ?_; rintro e w1 ⟨rfl, hb⟩) | (go_at_call 45; refine (add_c _ _ (by omega) (by omega) (by omega) (by omega) _).mono ?_; rintro e w' ⟨rfl, rfl⟩) | (go_at_call 32; refine (sub_c _ _ (by omega) (by omega) (by omega) (by omega) _).mono ?_; rintro e w' ⟨rfl, rfl⟩) | (go_at_call 48; refine (complement_c _ (by omega) (by omega) _).mono ?_; rintro e w' ⟨rfl, rfl⟩) | (go_at_call 50; refine (addl_c _ _ (by omega) (by omega) (by omega) (by omega) _).mono ?_; rintro e w' ⟨rfl, rfl⟩) | (go_at_call 33; refine (subl_c _ _ (by omega) (by omega) (by omega) (by omega) _).mono ?_; rintro e w' ⟨rfl, rfl⟩) | (go_at_call 19; refine (compare_c _ _ (by omega) (by omega) (by omega) (by omega) _).mono ?_; rintro e w' ⟨rfl, rfl⟩) | (go_at_call 21; refine (comparel_c _ _ (by omega) (by omega) (by omega) (by omega) _).mono ?_; rintro e w' ⟨rfl, rfl⟩) | (go_at_call 23; refine (test_c _ (by omega) (by omega) _).mono ?_; rintro e w' ⟨rfl, rfl⟩) | (go_at_call 25; refine (mul_c _ _ (by omega) (by omega) (by omega) (by omega) _).mono ?_; rintro e w' ⟨rfl, rfl⟩) | (go_at_call 27; refine (div_c _ _ _ (by omega) (by omega) (by omega) (by omega) (by omega) (by omega) _).mono ?_; rintro e w' ⟨rfl, rfl⟩) | (go_at_call 61; refine (shiftla_c _ _ (by omega) (by omega) (by omega) (by omega) _).mono ?_; rintro e w' ⟨rfl, rfl⟩) | (go_at_call 60; refine (shiftr_c _ _ (by omega) (by omega) (by omega) (by omega) _).mono ?_; rintro e w' ⟨rfl, rfl⟩) | (go_at_call 64; refine (shiftl_c _ _ _ (by omega) (by omega) (by omega) (by omega) _).mono ?_; rintro e w' ⟨rfl, rfl⟩) | (go_at_call 54; refine (shiftlad_c _ _ _ (by omega) (by omega) (by omega) (by omega) (by omega) (by omega) _).mono ?_; rintro e w' ⟨rfl, rfl⟩) | (go_at_call 56; refine (shiftrd_c _ _ _ (by omega) (by omega) (by omega) (by omega) (by omega) (by omega) _).mono ?_; rintro e w' ⟨rfl, rfl⟩) | (go_at_call 58; refine (shiftld_c _ _ _ _ (by omega) (by omega) (by omega) (by omega) (by omega) (by omega) _).mono ?_; rintro e w' ⟨rfl, rfl⟩) | (go_at_call 30; refine (signed_c _ (by omega) (by omega) _).mono ?_; rintro e w' ⟨rfl, rfl⟩) | (go_at_call 29; refine (long_c _ _ (by omega) (by omega) (by omega) (by omega) _).mono ?_; rintro e w' ⟨rfl, rfl⟩) | (go_at_call 53; refine (code_c _ _).mono ?_; rintro e w' ⟨rfl, rfl⟩) | (go_at_call 31; refine (size_c _ (by omega) (by omega) _).mono ?_; rintro e w' ⟨rfl, rfl⟩))
    go_ret
    exact ⟨rfl, hb⟩
  · have hc : dlc x p = 3 := by simp [dlc, ho]
    rw [ho] at eq2
    go_enter Try.func12, Try.ntmps12
    go_wp2_with (first | (go_at_call 18; refine (works_c _).mono ?_; rintro e w1 ⟨rfl, hb⟩) | (go_at_call 45; refine (add_c _ _ (by omega) (by omega) (by omega) (by omega) _).mono ?_; rintro e w' ⟨rfl, rfl⟩) | (go_at_call 32; refine (sub_c _ _ (by omega) (by omega) (by omega) (by omega) _).mono ?_; rintro e w' ⟨rfl, rfl⟩) | (go_at_call 48; refine (complement_c _ (by omega) (by omega) _).mono ?_; rintro e w' ⟨rfl, rfl⟩) | (go_at_call 50; refine (addl_c _ _ (by omega) (by omega) (by omega) (by omega) _).mono ?_; rintro e w' ⟨rfl, rfl⟩) | (go_at_call 33; refine (subl_c _ _ (by omega) (by omega) (by omega) (by omega) _).mono ?_; rintro e w' ⟨rfl, rfl⟩) | (go_at_call 19; refine (compare_c _ _ (by omega) (by omega) (by omega) (by omega) _).mono ?_; rintro e w' ⟨rfl, rfl⟩) | (go_at_call 21; refine (comparel_c _ _ (by omega) (by omega) (by omega) (by omega) _).mono ?_; rintro e w' ⟨rfl, rfl⟩) | (go_at_call 23; refine (test_c _ (by omega) (by omega) _).mono ?_; rintro e w' ⟨rfl, rfl⟩) | (go_at_call 25; refine (mul_c _ _ (by omega) (by omega) (by omega) (by omega) _).mono ?_; rintro e w' ⟨rfl, rfl⟩) | (go_at_call 27; refine (div_c _ _ _ (by omega) (by omega) (by omega) (by omega) (by omega) (by omega) _).mono ?_; rintro e w' ⟨rfl, rfl⟩) | (go_at_call 61; refine (shiftla_c _ _ (by omega) (by omega) (by omega) (by omega) _).mono ?_; rintro e w' ⟨rfl, rfl⟩) | (go_at_call 60; refine (shiftr_c _ _ (by omega) (by omega) (by omega) (by omega) _).mono ?_; rintro e w' ⟨rfl, rfl⟩) | (go_at_call 64; refine (shiftl_c _ _ _ (by omega) (by omega) (by omega) (by omega) _).mono ?_; rintro e w' ⟨rfl, rfl⟩) | (go_at_call 54; refine (shiftlad_c _ _ _ (by omega) (by omega) (by omega) (by omega) (by omega) (by omega) _).mono ?_; rintro e w' ⟨rfl, rfl⟩) | (go_at_call 56; refine (shiftrd_c _ _ _ (by omega) (by omega) (by omega) (by omega) (by omega) (by omega) _).mono ?_; rintro e w' ⟨rfl, rfl⟩) | (go_at_call 58; refine (shiftld_c _ _ _ _ (by omega) (by omega) (by omega) (by omega) (by omega) (by omega) _).mono ?_; rintro e w' ⟨rfl, rfl⟩) | (go_at_call 30; refine (signed_c _ (by omega) (by omega) _).mono ?_; rintro e w' ⟨rfl, rfl⟩) | (go_at_call 29; refine (long_c _ _ (by omega) (by omega) (by omega) (by omega) _).mono ?_; rintro e w' ⟨rfl, rfl⟩) | (go_at_call 53; refine (code_c _ _).mono ?_; rintro e w' ⟨rfl, rfl⟩) | (go_at_call 31; refine (size_c _ (by omega) (by omega) _).mono ?_; rintro e w' ⟨rfl, rfl⟩))
    go_ret
    exact ⟨rfl, hb⟩

set_option maxRecDepth 100000 in
set_option maxHeartbeats 1000000 in
theorem wordLongMultiplies_walk (a0 : Int) (a1 : Int) (a2 : Int) (w : World) (w0 : (Lit.int .u32 a0).wf = true) (w1 : (Lit.int .u32 a1).wf = true) (w2 : (Lit.int .i64 a2).wf = true) :
    Calls Try.prog 12 #[.int .u32 a0, .int .u32 a1, .int .i64 a2] w fun e w' => e = .returned (.bool true) ∧ Below w.heap.size w w' := by
  have la0 := (bounds_u32 w0).1
  have ua0 := (bounds_u32 w0).2
  have la1 := (bounds_u32 w1).1
  have ua1 := (bounds_u32 w1).2
  have la2 := (bounds_i64 w2).1
  have ua2 := (bounds_i64 w2).2
  clear w0 w1 w2
  obtain ⟨p, hp⟩ : ∃ p : Nat, plc a2 = p := ⟨_, rfl⟩
  have hp63 : p ≤ 63 := by rw [← hp]; exact plc_hi _
  have hpp := plc_nat p hp63
  by_cases hn : 0 ≤ a2
  · exact wlm1 a0 a1 a2 p w la0 ua0 la1 ua1 la2 ua2 hp hp63 hpp hn (by rw [← hp]; exact plc_is _)
  · by_cases hz : a2.tmod 64 = 0
    · exact wlm2 a0 a1 a2 p w la0 ua0 la1 ua1 la2 ua2 hp hp63 hpp (by rw [hz]; have := plc_tzero a2 (by omega) hz; omega)
    · have h3 := plc_tneg a2 (by omega) hz
      exact wlm3 a0 a1 a2 p w la0 ua0 la1 ua1 la2 ua2 hp hp63 hpp h3.1 h3.2.1 (by rw [h3.2.2, hp])
end Go.Proofs.Ytmabamijogbbnaa
