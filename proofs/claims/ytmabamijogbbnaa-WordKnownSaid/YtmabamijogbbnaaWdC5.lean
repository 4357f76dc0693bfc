/- CONTRACTS of package word (layer 1) and of its reference jobshopref01, but for the fields. Each: whatever the words, the call returns what the plain function says; the world stays as it was. No conditions but the words' own ranges. -/
import Derived.Test.YtmabamijogbbnaaProg
import Derived.Test.YtmabamijogbbnaaWdC4
import Derived.Lib.Hide
import Derived.Outline
namespace Go.Proofs.Ytmabamijogbbnaa
open Go.RowKit
set_option linter.unusedVariables false

set_option maxHeartbeats 400000 in
theorem rshiftla_c (a n : Int) (ha : 0 ≤ a) (ha' : a ≤ 4294967295) (hn : -9223372036854775808 ≤ n) (hn' : n ≤ 9223372036854775807) (w : World) :
    Calls Try.prog 62 #[.int .u32 a, .int .i64 n] w fun e w' => e = .returned (.tuple #[.int .u32 (slv a (plc n)), .int .i64 (slc a (plc n)), .bool (slo a (plc n))]) ∧ w = w' := by
  have hp := plc_hi n
  have r0 := slv_lo a (plc n)
  have r1 := slv_hi a (plc n)
  cases hq : slo a (plc n)
  all_goals
    have hq' := Lib.hid hq
    go_enter Try.func62, Try.ntmps62
    go_wp2_with (first | (go_at_call 82; refine (rplaces_c _ hn hn' _).mono ?_; rintro e w' ⟨rfl, rfl⟩) | (go_at_call 81; refine (rleft32_c a _ hp ha ha' _).mono ?_; rintro e w' ⟨rfl, rfl⟩) | (go_at_call 24; refine (rtest_c _ r0 r1 _).mono ?_; rintro e w' ⟨rfl, rfl⟩))
    go_ret3
    exact ⟨by simp [slc, hq'.out]; try rfl, rfl⟩

set_option maxHeartbeats 400000 in
theorem rshiftr_c (a n : Int) (ha : 0 ≤ a) (ha' : a ≤ 4294967295) (hn : -9223372036854775808 ≤ n) (hn' : n ≤ 9223372036854775807) (w : World) :
    Calls Try.prog 63 #[.int .u32 a, .int .i64 n] w fun e w' => e = .returned (.tuple #[.int .u32 (srv a (plc n)), .int .i64 (sgn (sg (srv a (plc n))))]) ∧ w = w' := by
  have hp := plc_hi n
  have r0 := srv_lo a (plc n)
  have r1 := srv_hi a (plc n)
  go_enter Try.func63, Try.ntmps63
  go_wp2_with (first | (go_at_call 82; refine (rplaces_c _ hn hn' _).mono ?_; rintro e w' ⟨rfl, rfl⟩) | (go_at_call 84; refine (rright32_c a _ hp ha ha' _).mono ?_; rintro e w' ⟨rfl, rfl⟩) | (go_at_call 24; refine (rtest_c _ r0 r1 _).mono ?_; rintro e w' ⟨rfl, rfl⟩))
  go_ret2
  exact ⟨rfl, rfl⟩

set_option maxHeartbeats 400000 in
theorem rshiftlad_c (a b n : Int) (ha : 0 ≤ a) (ha' : a ≤ 4294967295) (hb : 0 ≤ b) (hb' : b ≤ 4294967295) (hn : -9223372036854775808 ≤ n) (hn' : n ≤ 9223372036854775807) (w : World) :
    Calls Try.prog 55 #[.int .u32 a, .int .u32 b, .int .i64 n] w fun e w' => e = .returned (.tuple #[.int .u32 (lo32 (dlv (dbl a b) (plc n) / 4294967296)), .int .u32 (lo32 (dlv (dbl a b) (plc n))), .int .i64 (dlc (dbl a b) (plc n)), .bool (dlo (dbl a b) (plc n))]) ∧ w = w' := by
  have x0 := dbl_lo a b ha hb
  have x1 := dbl_hi a b ha' hb'
  have ex := wrap64_sg (dbl a b) x0 x1
  have y0 := sg64_lo (dbl a b) x0
  have y1 := sg64_hi (dbl a b) x1
  have hp := plc_hi n
  have r0 := dlv_lo (dbl a b) (plc n)
  have r1 := dlv_hi (dbl a b) (plc n)
  cases hq : dlo (dbl a b) (plc n)
  all_goals
    have hq' := Lib.hid hq
    go_enter Try.func55, Try.ntmps55
    go_wp2_with (first | (go_at_call 71; refine (rlong_c _ _ ha ha' hb hb' _).mono ?_; rintro e w' ⟨rfl, rfl⟩) | (go_at_call 82; refine (rplaces_c _ hn hn' _).mono ?_; rintro e w' ⟨rfl, rfl⟩) | (go_at_call 81; refine (rleft64_c _ _ hp x0 x1 _).mono ?_; rintro e w' ⟨rfl, rfl⟩) | (go_at_call 83; refine (rtest64_c _ r0 r1 _).mono ?_; rintro e w' ⟨rfl, rfl⟩) | (go_at_call 69; refine (rwords_c _ r0 r1 _).mono ?_; rintro e w' ⟨rfl, rfl⟩))
    refine bodyPost_ret (results4 rfl _ _ _) rfl ?_
    exact ⟨by simp [dlc, hq'.out]; try rfl, rfl⟩

set_option maxHeartbeats 400000 in
theorem rshiftrd_c (a b n : Int) (ha : 0 ≤ a) (ha' : a ≤ 4294967295) (hb : 0 ≤ b) (hb' : b ≤ 4294967295) (hn : -9223372036854775808 ≤ n) (hn' : n ≤ 9223372036854775807) (w : World) :
    Calls Try.prog 57 #[.int .u32 a, .int .u32 b, .int .i64 n] w fun e w' => e = .returned (.tuple #[.int .u32 (lo32 (drv (dbl a b) (plc n) / 4294967296)), .int .u32 (lo32 (drv (dbl a b) (plc n))), .int .i64 (sgn (sg64 (drv (dbl a b) (plc n))))]) ∧ w = w' := by
  have x0 := dbl_lo a b ha hb
  have x1 := dbl_hi a b ha' hb'
  have ex := wrap64_sg (dbl a b) x0 x1
  have y0 := sg64_lo (dbl a b) x0
  have y1 := sg64_hi (dbl a b) x1
  have hp := plc_hi n
  have r0 := drv_lo (dbl a b) (plc n)
  have r1 := drv_hi (dbl a b) (plc n)
  go_enter Try.func57, Try.ntmps57
  go_wp2_with (first | (go_at_call 71; refine (rlong_c _ _ ha ha' hb hb' _).mono ?_; rintro e w' ⟨rfl, rfl⟩) | (go_at_call 82; refine (rplaces_c _ hn hn' _).mono ?_; rintro e w' ⟨rfl, rfl⟩) | (go_at_call 84; refine (rright64_c _ _ hp x0 x1 _).mono ?_; rintro e w' ⟨rfl, rfl⟩) | (go_at_call 83; refine (rtest64_c _ r0 r1 _).mono ?_; rintro e w' ⟨rfl, rfl⟩) | (go_at_call 69; refine (rwords_c _ r0 r1 _).mono ?_; rintro e w' ⟨rfl, rfl⟩))
  go_ret3
  exact ⟨rfl, rfl⟩

set_option maxHeartbeats 1000000 in
theorem rshiftl_c (a n : Int) (l : Bool) (ha : 0 ≤ a) (ha' : a ≤ 4294967295) (hn : -9223372036854775808 ≤ n) (hn' : n ≤ 9223372036854775807) (w : World) :
    Calls Try.prog 65 #[.int .u32 a, .int .i64 n, .bool l] w fun e w' => e = .returned (.int .u32 (slg a (plc n) l)) ∧ w = w' := by
  have hp := plc_hi n
  have hz := Lib.hid (slg_zero a l ha ha')
  go_enter Try.func65, Try.ntmps65
  go_wp2_with fail
  go_loop [0, 7] (fun x i => ∃ k : Nat, k ≤ plc n ∧ x = .int .u32 (slg a k l) ∧ i = .int .i64 k) (fun _ i => plc n - (intOf i).toNat)
  case atStart => exact ⟨0, Nat.zero_le _, by rw [hz.out], rfl⟩
  case round =>
    obtain ⟨k, hk, rfl, rfl⟩ := hrel
    have b0 := slg_lo a k l ha
    have b1 := slg_hi a k l ha ha'
    by_cases hlt : k < plc n
    · cases l
      · have hsu := Lib.hid (slg_right a k)
        go_wp2_with (go_at_call 82; refine (rplaces_c _ hn hn' _).mono ?_; rintro e w' ⟨rfl, rfl⟩)
        go_round
        case rel => exact ⟨k + 1, by omega, by rw [hsu.out], by go_num⟩
        case measure => simp [intOf]; omega
      · have hsu := Lib.hid (slg_left a k)
        go_wp2_with (go_at_call 82; refine (rplaces_c _ hn hn' _).mono ?_; rintro e w' ⟨rfl, rfl⟩)
        go_round
        case rel => exact ⟨k + 1, by omega, by rw [hsu.out]; rfl, by go_num⟩
        case measure => simp [intOf]; omega
    · obtain rfl : k = plc n := by omega
      go_wp2_with (go_at_call 82; refine (rplaces_c _ hn hn' _).mono ?_; rintro e w' ⟨rfl, rfl⟩)
      go_ret
      exact ⟨rfl, rfl⟩

set_option maxHeartbeats 1000000 in
theorem rshiftld_c (a b n : Int) (l : Bool) (ha : 0 ≤ a) (ha' : a ≤ 4294967295) (hb : 0 ≤ b) (hb' : b ≤ 4294967295) (hn : -9223372036854775808 ≤ n) (hn' : n ≤ 9223372036854775807) (w : World) :
    Calls Try.prog 59 #[.int .u32 a, .int .u32 b, .int .i64 n, .bool l] w fun e w' => e = .returned (.tuple #[.int .u32 (lo32 (dlg (dbl a b) (plc n) l / 4294967296)), .int .u32 (lo32 (dlg (dbl a b) (plc n) l))]) ∧ w = w' := by
  have x0 := dbl_lo a b ha hb
  have x1 := dbl_hi a b ha' hb'
  have ex := wrap64_sg (dbl a b) x0 x1
  have y0 := sg64_lo (dbl a b) x0
  have y1 := sg64_hi (dbl a b) x1
  have hp := plc_hi n
  have hz := Lib.hid (dlg_zero (dbl a b) l x0 x1)
  go_enter Try.func59, Try.ntmps59
  go_wp2_with (go_at_call 71; refine (rlong_c _ _ ha ha' hb hb' _).mono ?_; rintro e w' ⟨rfl, rfl⟩)
  go_loop [10, 11] (fun x i => ∃ k : Nat, k ≤ plc n ∧ x = .int .u64 (dlg (dbl a b) k l) ∧ i = .int .i64 k) (fun _ i => plc n - (intOf i).toNat)
  case atStart => exact ⟨0, Nat.zero_le _, by rw [hz.out], rfl⟩
  case round =>
    obtain ⟨k, hk, rfl, rfl⟩ := hrel
    have b0 := dlg_lo (dbl a b) k l x0
    have b1 := dlg_hi (dbl a b) k l x0 x1
    by_cases hlt : k < plc n
    · cases l
      · have hsu := Lib.hid (dlg_right (dbl a b) k)
        go_wp2_with (go_at_call 82; refine (rplaces_c _ hn hn' _).mono ?_; rintro e w' ⟨rfl, rfl⟩)
        go_round
        case rel => exact ⟨k + 1, by omega, by rw [hsu.out], by go_num⟩
        case measure => simp [intOf]; omega
      · have hsu := Lib.hid (dlg_left (dbl a b) k)
        go_wp2_with (go_at_call 82; refine (rplaces_c _ hn hn' _).mono ?_; rintro e w' ⟨rfl, rfl⟩)
        go_round
        case rel => exact ⟨k + 1, by omega, by rw [hsu.out]; try rfl, by go_num⟩
        case measure => simp [intOf]; omega
    · obtain rfl : k = plc n := by omega
      go_wp2_with (first | (go_at_call 82; refine (rplaces_c _ hn hn' _).mono ?_; rintro e w' ⟨rfl, rfl⟩) | (go_at_call 69; refine (rwords_c _ b0 b1 _).mono ?_; rintro e w' ⟨rfl, rfl⟩))
      go_ret2
      exact ⟨rfl, rfl⟩

end Go.Proofs.Ytmabamijogbbnaa
