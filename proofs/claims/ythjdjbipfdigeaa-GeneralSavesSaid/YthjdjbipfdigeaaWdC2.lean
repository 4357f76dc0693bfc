/- CONTRACTS of package word (layer 1) and of its reference jobshopref01, but for the fields. Each: whatever the words, the call returns what the plain function says; the world stays as it was. No conditions but the words' own ranges. -/
import Derived.Test.YthjdjbipfdigeaaProg
import Derived.Test.YthjdjbipfdigeaaWdC1
import Derived.Lib.Hide
import Derived.Outline
namespace Go.Proofs.Ythjdjbipfdigeaa
open Go.RowKit
set_option linter.unusedVariables false

/-- four results -/
theorem results4 {fn : Func} {t u v x : Tmp} (h : fn.results = #[.tmp t, .tmp u, .tmp v, .tmp x]) (tmps : Array Value) (P : Program) (w : World) :
    (results fn tmps).run P w = .ok (.tuple #[tmps.getD t undef, tmps.getD u undef, tmps.getD v undef, tmps.getD x undef]) w := by simp [results, h]

set_option maxHeartbeats 400000 in
theorem shiftl_c (a n : Int) (l : Bool) (ha : 0 ≤ a) (ha' : a ≤ 4294967295) (hn : -9223372036854775808 ≤ n) (hn' : n ≤ 9223372036854775807) (w : World) :
    Calls Try.prog 56 #[.int .u32 a, .int .i64 n, .bool l] w fun e w' => e = .returned (.int .u32 (slg a (plc n) l)) ∧ w = w' := by
  have hp := plc_hi n
  have h1 := Lib.hid (slg_min a (plc n) ha ha')
  have h2 := Lib.hid (slg_minL a (plc n))
  cases l
  all_goals
    go_enter Try.func56, Try.ntmps56
    go_wp2_with (go_at_call 97; refine (places_c _ hn hn' _).mono ?_; rintro e w' ⟨rfl, rfl⟩)
    go_ret
    first | exact ⟨by rw [show slg a (plc n) true = lo32 (a * 2 ^ plc n) from rfl, ← h2.out]; rfl, rfl⟩ | exact ⟨by rw [show slg a (plc n) false = a / 2 ^ plc n from rfl, ← h1.out]; rfl, rfl⟩

set_option maxHeartbeats 400000 in
theorem shiftr_c (a n : Int) (ha : 0 ≤ a) (ha' : a ≤ 4294967295) (hn : -9223372036854775808 ≤ n) (hn' : n ≤ 9223372036854775807) (w : World) :
    Calls Try.prog 57 #[.int .u32 a, .int .i64 n] w fun e w' => e = .returned (.tuple #[.int .u32 (srv a (plc n)), .int .i64 (sgn (sg (srv a (plc n))))]) ∧ w = w' := by
  have ea := wrap32_sg a ha ha'
  have la := sg_lo a ha
  have ua := sg_hi a ha'
  have hp := plc_hi n
  have hm := sr_min a (plc n) ha ha'
  have hl : sg a / 2 ^ plc n % 4294967296 = srv a (plc n) := rfl
  have r0 := srv_lo a (plc n)
  have r1 := srv_hi a (plc n)
  go_enter Try.func57, Try.ntmps57
  go_wp2_with (first | (go_at_call 97; refine (places_c _ hn hn' _).mono ?_; rintro e w' ⟨rfl, rfl⟩) | (go_at_call 98; refine (test_c _ r0 r1 _).mono ?_; rintro e w' ⟨rfl, rfl⟩))
  go_ret2
  exact ⟨rfl, rfl⟩

set_option maxHeartbeats 400000 in
theorem shiftrd_c (a b n : Int) (ha : 0 ≤ a) (ha' : a ≤ 4294967295) (hb : 0 ≤ b) (hb' : b ≤ 4294967295) (hn : -9223372036854775808 ≤ n) (hn' : n ≤ 9223372036854775807) (w : World) :
    Calls Try.prog 62 #[.int .u32 a, .int .u32 b, .int .i64 n] w fun e w' => e = .returned (.tuple #[.int .u32 (lo32 (drv (dbl a b) (plc n) / 4294967296)), .int .u32 (lo32 (drv (dbl a b) (plc n))), .int .i64 (sgn (sg64 (drv (dbl a b) (plc n))))]) ∧ w = w' := by
  have x0 := dbl_lo a b ha hb
  have x1 := dbl_hi a b ha' hb'
  have ex := wrap64_sg (dbl a b) x0 x1
  have y0 := sg64_lo (dbl a b) x0
  have y1 := sg64_hi (dbl a b) x1
  have hp := plc_hi n
  have hs := Lib.hid (sgn_drv (dbl a b) (plc n) x0 x1)
  have d0 := (dr_box (dbl a b) (plc n) x0 x1).1
  have d1 := (dr_box (dbl a b) (plc n) x0 x1).2
  go_enter Try.func62, Try.ntmps62
  go_wp2_with (first | (go_at_call 99; refine (double_c _ _ ha ha' hb hb' _).mono ?_; rintro e w' ⟨rfl, rfl⟩) | (go_at_call 97; refine (places_c _ hn hn' _).mono ?_; rintro e w' ⟨rfl, rfl⟩) | (go_at_call 96; refine (sign_c _ _).mono ?_; rintro e w' ⟨rfl, rfl⟩))
  go_ret3
  exact ⟨by rw [hs.out, drv, hi_mod, lo_mod]; rfl, rfl⟩

set_option maxHeartbeats 400000 in
theorem shiftld_c (a b n : Int) (l : Bool) (ha : 0 ≤ a) (ha' : a ≤ 4294967295) (hb : 0 ≤ b) (hb' : b ≤ 4294967295) (hn : -9223372036854775808 ≤ n) (hn' : n ≤ 9223372036854775807) (w : World) :
    Calls Try.prog 61 #[.int .u32 a, .int .u32 b, .int .i64 n, .bool l] w fun e w' => e = .returned (.tuple #[.int .u32 (lo32 (dlg (dbl a b) (plc n) l / 4294967296)), .int .u32 (lo32 (dlg (dbl a b) (plc n) l))]) ∧ w = w' := by
  have x0 := dbl_lo a b ha hb
  have x1 := dbl_hi a b ha' hb'
  have ex := wrap64_sg (dbl a b) x0 x1
  have y0 := sg64_lo (dbl a b) x0
  have y1 := sg64_hi (dbl a b) x1
  have hp := plc_hi n
  cases l
  all_goals
    go_enter Try.func61, Try.ntmps61
    go_wp2_with (first | (go_at_call 99; refine (double_c _ _ ha ha' hb hb' _).mono ?_; rintro e w' ⟨rfl, rfl⟩) | (go_at_call 97; refine (places_c _ hn hn' _).mono ?_; rintro e w' ⟨rfl, rfl⟩))
    go_ret2
    exact ⟨rfl, rfl⟩

set_option maxHeartbeats 800000 in
theorem shiftlad_c (a b n : Int) (ha : 0 ≤ a) (ha' : a ≤ 4294967295) (hb : 0 ≤ b) (hb' : b ≤ 4294967295) (hn : -9223372036854775808 ≤ n) (hn' : n ≤ 9223372036854775807) (w : World) :
    Calls Try.prog 63 #[.int .u32 a, .int .u32 b, .int .i64 n] w fun e w' => e = .returned (.tuple #[.int .u32 (lo32 (dlv (dbl a b) (plc n) / 4294967296)), .int .u32 (lo32 (dlv (dbl a b) (plc n))), .int .i64 (dlc (dbl a b) (plc n)), .bool (dlo (dbl a b) (plc n))]) ∧ w = w' := by
  have x0 := dbl_lo a b ha hb
  have x1 := dbl_hi a b ha' hb'
  have ex := wrap64_sg (dbl a b) x0 x1
  have y0 := sg64_lo (dbl a b) x0
  have y1 := sg64_hi (dbl a b) x1
  have hp := plc_hi n
  have em : IntKind.u64.wrap (sg64 (dbl a b)) = dbl a b := by rw [IntKind.wrap_u64]; exact sg64_mod (dbl a b) x0 x1
  have e1 := and_sign64 (dbl a b) x0 x1
  have e2 : bits .andNot .u64 (IntKind.u64.wrap (dbl a b * 2 ^ plc n)) 9223372036854775808 = sg64 (dbl a b) * 2 ^ plc n % 9223372036854775808 := by rw [IntKind.wrap_u64, andNot_sign64 _ (by omega) (by omega)]; exact dlv_low _ _
  have e3 : bits .or .u64 (if dbl a b < 9223372036854775808 then 0 else 9223372036854775808) (sg64 (dbl a b) * 2 ^ plc n % 9223372036854775808) = dlv (dbl a b) (plc n) := by rw [or_sign64 _ _ (by split <;> simp) (by omega) (by omega)]; rfl
  rw [← e1] at e3
  have et := dlo_test (dbl a b) (plc n) hp x0 x1
  have v0 := dlv_lo (dbl a b) (plc n)
  have v1 := dlv_hi (dbl a b) (plc n)
  have ev := wrap64_sg _ v0 v1
  have hh := Lib.hid (lo32_id (dlv (dbl a b) (plc n) / 4294967296) (by omega) (by omega))
  clear e1
  cases hq : dlo (dbl a b) (plc n)
  all_goals
    rw [hq] at et
    have hq' := Lib.hid hq
    clear hq
    go_enter Try.func63, Try.ntmps63
    go_wp2_with (first | (go_at_call 99; refine (double_c _ _ ha ha' hb hb' _).mono ?_; rintro e w' ⟨rfl, rfl⟩) | (go_at_call 97; refine (places_c _ hn hn' _).mono ?_; rintro e w' ⟨rfl, rfl⟩) | (go_at_call 96; refine (sign_c _ _).mono ?_; rintro e w' ⟨rfl, rfl⟩))
    refine bodyPost_ret (results4 rfl _ _ _) rfl ?_
    exact ⟨by simp [dlc, hq'.out, hh.out]; rfl, rfl⟩

set_option maxHeartbeats 800000 in
theorem shiftla_c (a n : Int) (ha : 0 ≤ a) (ha' : a ≤ 4294967295) (hn : -9223372036854775808 ≤ n) (hn' : n ≤ 9223372036854775807) (w : World) :
    Calls Try.prog 59 #[.int .u32 a, .int .i64 n] w fun e w' => e = .returned (.tuple #[.int .u32 (slv a (plc n)), .int .i64 (slc a (plc n)), .bool (slo a (plc n))]) ∧ w = w' := by
  have ea := wrap32_sg a ha ha'
  have la := sg_lo a ha
  have ua := sg_hi a ha'
  have hp := plc_hi n
  have r0 := slv_lo a (plc n)
  have r1 := slv_hi a (plc n)
  have e1 := and_sign a ha ha'
  by_cases h32 : 32 ≤ plc n
  · have ev := slv_ge32 a (plc n) h32
    rw [← ev] at e1
    have eo := slo_ge32 a (plc n) h32 ha ha'
    have hv := Lib.hid ev
    clear ev
    cases hq : slo a (plc n)
    all_goals
      rw [hq] at eo
      have eo' := eo.symm
      have hq' := Lib.hid hq
      clear hq eo
      go_enter Try.func59, Try.ntmps59
      go_wp2_with (first | (go_at_call 97; refine (places_c _ hn hn' _).mono ?_; rintro e w' ⟨rfl, rfl⟩) | (go_at_call 98; refine (test_c _ r0 r1 _).mono ?_; rintro e w' ⟨rfl, rfl⟩))
      go_ret3
      exact ⟨by simp [slc, hq'.out]; try rfl, rfl⟩
  · have hx := exact_box a (plc n) (by omega) ha ha'
    have b0 := hx.1
    have b1 := hx.2
    clear hx
    have e2 : bits .andNot .u32 (sg a * 2 ^ plc n % 4294967296) 2147483648 = sg a * 2 ^ plc n % 2147483648 := by rw [andNot_sign _ (by omega) (by omega)]; omega
    have e3 : bits .or .u32 (bits .and .u32 a 2147483648) (sg a * 2 ^ plc n % 2147483648) = slv a (plc n) := by rw [e1, or_sign _ _ (by split <;> simp) (by omega) (by omega)]; rfl
    clear e1
    have hh := exact_high (sg a * 2 ^ plc n)
    cases hq : slo a (plc n)
    · have hq' := Lib.hid hq
      have hn : ¬ (ovf (sg a * 2 ^ plc n) = true) := by rw [show ovf (sg a * 2 ^ plc n) = slo a (plc n) from rfl, hq]; simp
      rw [hh] at hn
      clear hq hh
      by_cases h0 : sg a * 2 ^ plc n / 2147483648 = 0
      · have t0 : (sg a * 2 ^ plc n / 2147483648 != 0) = false := by simp [h0]
        clear h0 hn
        go_enter Try.func59, Try.ntmps59
        go_wp2_with (first | (go_at_call 97; refine (places_c _ hn hn' _).mono ?_; rintro e w' ⟨rfl, rfl⟩) | (go_at_call 98; refine (test_c _ r0 r1 _).mono ?_; rintro e w' ⟨rfl, rfl⟩))
        go_ret3
        exact ⟨by simp [slc, hq'.out]; try rfl, rfl⟩
      · have h1 : sg a * 2 ^ plc n / 2147483648 = -1 := by omega
        have t0 : (sg a * 2 ^ plc n / 2147483648 != 0) = true := by simp [h0]
        have t1 : (sg a * 2 ^ plc n / 2147483648 != -1) = false := by simp [h1]
        clear h0 h1 hn
        go_enter Try.func59, Try.ntmps59
        go_wp2_with (first | (go_at_call 97; refine (places_c _ hn hn' _).mono ?_; rintro e w' ⟨rfl, rfl⟩) | (go_at_call 98; refine (test_c _ r0 r1 _).mono ?_; rintro e w' ⟨rfl, rfl⟩))
        go_ret3
        exact ⟨by simp [slc, hq'.out]; try rfl, rfl⟩
    · have hq' := Lib.hid hq
      have hn : ovf (sg a * 2 ^ plc n) = true := hq
      rw [hh] at hn
      have t0 : (sg a * 2 ^ plc n / 2147483648 != 0) = true := by simp [hn.1]
      have t1 : (sg a * 2 ^ plc n / 2147483648 != -1) = true := by simp [hn.2]
      clear hq hh hn
      go_enter Try.func59, Try.ntmps59
      go_wp2_with (first | (go_at_call 97; refine (places_c _ hn hn' _).mono ?_; rintro e w' ⟨rfl, rfl⟩) | (go_at_call 98; refine (test_c _ r0 r1 _).mono ?_; rintro e w' ⟨rfl, rfl⟩))
      go_ret3
      exact ⟨by simp [slc, hq'.out]; try rfl, rfl⟩

end Go.Proofs.Ythjdjbipfdigeaa
