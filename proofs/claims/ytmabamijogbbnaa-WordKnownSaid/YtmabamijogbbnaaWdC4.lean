/- CONTRACTS of package word (layer 1) and of its reference jobshopref01, but for the fields. Each: whatever the words, the call returns what the plain function says; the world stays as it was. No conditions but the words' own ranges. -/
import Derived.Test.YtmabamijogbbnaaProg
import Derived.Test.YtmabamijogbbnaaWdC3
import Derived.Lib.Hide
import Derived.Outline
namespace Go.Proofs.Ytmabamijogbbnaa
open Go.RowKit
set_option linter.unusedVariables false

set_option maxHeartbeats 800000 in
theorem rdiv_c (a b d : Int) (ha : 0 ≤ a) (ha' : a ≤ 4294967295) (hb : 0 ≤ b) (hb' : b ≤ 4294967295) (hd : 0 ≤ d) (hd' : d ≤ 4294967295) (w : World) :
    Calls Try.prog 28 #[.int .u32 a, .int .u32 b, .int .u32 d] w fun e w' => e = .returned (.tuple #[.int .u32 (drem (sg64 (dbl a b)) (sg d)), .int .u32 (dquo (sg64 (dbl a b)) (sg d)), .bool (dok (sg64 (dbl a b)) (sg d))]) ∧ w = w' := by
  have x0 := dbl_lo a b ha hb
  have x1 := dbl_hi a b ha' hb'
  have ex := wrap64_sg (dbl a b) x0 x1
  have y0 := sg64_lo (dbl a b) x0
  have y1 := sg64_hi (dbl a b) x1
  have ld := sg_lo d hd
  have ud := sg_hi d hd'
  by_cases hz : sg d = 0
  · have hq := Lib.hid (dok_zero (sg64 (dbl a b)))
    have eb : (sg d == 0) = true := by simpa using hz
    have hz' := Lib.hid hz
    clear hz
    go_enter Try.func28, Try.ntmps28
    go_wp2_with (first | (go_at_call 71; refine (rlong_c _ _ ha ha' hb hb' _).mono ?_; rintro e w' ⟨rfl, rfl⟩) | (go_at_call 68; refine (rsigned_c _ (by omega) (by omega) _).mono ?_; rintro e w' ⟨rfl, rfl⟩))
    go_ret3
    exact ⟨by simp [hz'.out, drem, dquo, hq.out], rfl⟩
  · have eb : (sg d == 0) = false := by simpa using hz
    have hz' := Lib.hid hz
    by_cases hm : sg64 (dbl a b) = -9223372036854775808
    · have hq := Lib.hid (dok_least (sg d) ld ud)
      have em : (sg64 (dbl a b) == -9223372036854775808) = true := by simpa using hm
      have hm' := Lib.hid hm
      clear hm hz
      go_enter Try.func28, Try.ntmps28
      go_wp2_with (first | (go_at_call 71; refine (rlong_c _ _ ha ha' hb hb' _).mono ?_; rintro e w' ⟨rfl, rfl⟩) | (go_at_call 68; refine (rsigned_c _ (by omega) (by omega) _).mono ?_; rintro e w' ⟨rfl, rfl⟩))
      go_ret3
      exact ⟨by simp [hm'.out, drem, dquo, hq.out], rfl⟩
    · have em : (sg64 (dbl a b) == -9223372036854775808) = false := by simpa using hm
      have eq0 := rquo_in (sg64 (dbl a b)) (sg d) hz (by omega) y1
      have et := rquo_test (sg64 (dbl a b)) (sg d) hz (by omega) y1
      have hl := lo32_is ((sg64 (dbl a b)).tdiv (sg d))
      have q0 := lo32_lo ((sg64 (dbl a b)).tdiv (sg d))
      have q1 := lo32_hi ((sg64 (dbl a b)).tdiv (sg d))
      clear hm hz
      cases hq : dok (sg64 (dbl a b)) (sg d)
      · rw [hq] at et
        have hq' := Lib.hid hq
        clear hq
        go_enter Try.func28, Try.ntmps28
        go_wp2_with (first | (go_at_call 71; refine (rlong_c _ _ ha ha' hb hb' _).mono ?_; rintro e w' ⟨rfl, rfl⟩) | (go_at_call 68; refine (rsigned_c _ (by omega) (by omega) _).mono ?_; rintro e w' ⟨rfl, rfl⟩))
        go_ret3
        exact ⟨by simp [drem, dquo, hq'.out], rfl⟩
      · rw [hq] at et
        have hq' := Lib.hid hq
        clear hq
        have er := Lib.hid (rrem_w (sg64 (dbl a b)) (sg d))
        go_enter Try.func28, Try.ntmps28
        go_wp2_with (first | (go_at_call 71; refine (rlong_c _ _ ha ha' hb hb' _).mono ?_; rintro e w' ⟨rfl, rfl⟩) | (go_at_call 68; refine (rsigned_c _ (by omega) (by omega) _).mono ?_; rintro e w' ⟨rfl, rfl⟩))
        go_ret3
        exact ⟨by rw [drem_ok _ _ hq'.out, dquo_ok _ _ hq'.out, ← er.out]; rfl, rfl⟩

set_option maxHeartbeats 400000 in
theorem rplaces_c (n : Int) (hn : -9223372036854775808 ≤ n) (hn' : n ≤ 9223372036854775807) (w : World) :
    Calls Try.prog 82 #[.int .i64 n] w fun e w' => e = .returned (.int .i64 (↑(plc n))) ∧ w = w' := by
  by_cases h0 : 0 ≤ n
  · have hs := Lib.hid (plc_is n)
    go_enter Try.func82, Try.ntmps82
    go_wp2
    go_ret
    exact ⟨by rw [← hs.out]; rfl, rfl⟩
  · have t0 : n.tmod 64 = -((-n) % 64) := by have := Int.neg_tmod (-n) 64; rw [Int.neg_neg] at this; rw [this, Int.tmod_eq_emod_of_nonneg (by omega)]
    by_cases h1 : n.tmod 64 = 0
    · have hs := Lib.hid (show (plc n : Int) = 0 from by rw [← plc_is]; omega)
      have h1' : n.tmod 64 = 0 := h1
      clear t0
      go_enter Try.func82, Try.ntmps82
      go_wp2
      go_ret
      exact ⟨by rw [hs.out]; rfl, rfl⟩
    · have hs := Lib.hid (show n.tmod 64 + 64 = (plc n : Int) from by rw [← plc_is]; omega)
      have b0 : -64 < n.tmod 64 := by omega
      have b1 : n.tmod 64 < 0 := by omega
      clear t0 h1
      go_enter Try.func82, Try.ntmps82
      go_wp2
      go_ret
      exact ⟨by rw [← hs.out]; rfl, rfl⟩

set_option maxHeartbeats 400000 in
theorem rtest64_c (x : Int) (hx : 0 ≤ x) (hx' : x ≤ 18446744073709551615) (w : World) :
    Calls Try.prog 83 #[.int .u64 x] w fun e w' => e = .returned (.int .i64 (sgn (sg64 x))) ∧ w = w' := by
  by_cases h0 : x = 0
  · subst h0
    go_enter Try.func83, Try.ntmps83
    go_wp2
    go_ret
    exact ⟨rfl, rfl⟩
  · have e0 : (x == 0) = false := by simpa using h0
    by_cases h1 : x < 9223372036854775808
    · have hs := Lib.hid (sgn_pos (sg64 x) (by unfold sg64; rw [if_pos h1]; omega))
      clear h0
      go_enter Try.func83, Try.ntmps83
      go_wp2
      go_ret
      exact ⟨by rw [hs.out]; rfl, rfl⟩
    · have hs := Lib.hid (sgn_neg (sg64 x) (by unfold sg64; rw [if_neg h1]; omega))
      clear h0
      go_enter Try.func83, Try.ntmps83
      go_wp2
      go_ret
      exact ⟨by rw [hs.out]; rfl, rfl⟩

set_option maxHeartbeats 1000000 in
theorem rleft32_c (v : Int) (p : Nat) (hp : p ≤ 63) (hv : 0 ≤ v) (hv' : v ≤ 4294967295) (w : World) :
    Calls Try.prog 81 #[.int .u64 v, .int .i64 32, .int .i64 (↑p)] w fun e w' => e = .returned (.tuple #[.int .u64 (slv v p), .bool (slo v p)]) ∧ w = w' := by
  have es : bits .and .u64 (v / 2147483648) 1 = v / 2147483648 := by rw [and_one64 _ (by omega) (by omega)]; omega
  have hz := Lib.hid (slv_zero v hv hv')
  have hy := Lib.hid (slo_zero v hv hv')
  go_enter Try.func81, Try.ntmps81
  go_wp2
  go_loop [0, 10, 11] (fun x o i => ∃ k : Nat, k ≤ p ∧ x = .int .u64 (slv v k) ∧ o = .bool (slo v k) ∧ i = .int .i64 k) (fun _ _ i => p - (intOf i).toNat)
  case atStart => exact ⟨0, Nat.zero_le _, by rw [hz.out], by rw [hy.out], rfl⟩
  case round =>
    obtain ⟨k, hk, rfl, rfl, rfl⟩ := hrel
    have b0 := slv_lo v k
    have b1 := slv_hi v k
    have es2 := and_one64 (slv v k / 1073741824) (by omega) (by omega)
    have eA := IntKind.wrap_u64 (slv v k * 2)
    have hn := Lib.hid (slv_succ v k hv hv')
    have ho := Lib.hid (slo_succ v k hv hv')
    by_cases hlt : k < p
    · cases ht : (slv v k / 1073741824 % 2 != v / 2147483648)
      all_goals
        have ht' := Lib.hid ht
        go_wp2
        go_round
        case rel => exact ⟨k + 1, by omega, by rw [hn.out], by rw [ho.out, ht'.out]; simp, by go_num⟩
        case measure => simp [intOf]; omega
    · obtain rfl : k = p := by omega
      go_wp2
      go_ret2
      exact ⟨rfl, rfl⟩

set_option maxHeartbeats 1000000 in
theorem rleft64_c (v : Int) (p : Nat) (hp : p ≤ 63) (hv : 0 ≤ v) (hv' : v ≤ 18446744073709551615) (w : World) :
    Calls Try.prog 81 #[.int .u64 v, .int .i64 64, .int .i64 (↑p)] w fun e w' => e = .returned (.tuple #[.int .u64 (dlv v p), .bool (dlo v p)]) ∧ w = w' := by
  have es : bits .and .u64 (v / 9223372036854775808) 1 = v / 9223372036854775808 := by rw [and_one64 _ (by omega) (by omega)]; omega
  have hz := Lib.hid (dlv_zero v hv hv')
  have hy := Lib.hid (dlo_zero v hv hv')
  go_enter Try.func81, Try.ntmps81
  go_wp2
  go_loop [0, 10, 11] (fun x o i => ∃ k : Nat, k ≤ p ∧ x = .int .u64 (dlv v k) ∧ o = .bool (dlo v k) ∧ i = .int .i64 k) (fun _ _ i => p - (intOf i).toNat)
  case atStart => exact ⟨0, Nat.zero_le _, by rw [hz.out], by rw [hy.out], rfl⟩
  case round =>
    obtain ⟨k, hk, rfl, rfl, rfl⟩ := hrel
    have b0 := dlv_lo v k
    have b1 := dlv_hi v k
    have es2 := and_one64 (dlv v k / 4611686018427387904) (by omega) (by omega)
    have eA := IntKind.wrap_u64 (dlv v k * 2)
    have hn := Lib.hid (dlv_succ v k hv hv')
    have ho := Lib.hid (dlo_succ v k hv hv')
    by_cases hlt : k < p
    · cases ht : (dlv v k / 4611686018427387904 % 2 != v / 9223372036854775808)
      all_goals
        have ht' := Lib.hid ht
        go_wp2
        go_round
        case rel => exact ⟨k + 1, by omega, by rw [hn.out], by rw [ho.out, ht'.out]; simp, by go_num⟩
        case measure => simp [intOf]; omega
    · obtain rfl : k = p := by omega
      go_wp2
      go_ret2
      exact ⟨rfl, rfl⟩

set_option maxHeartbeats 1000000 in
theorem rright32_c (v : Int) (p : Nat) (hp : p ≤ 63) (hv : 0 ≤ v) (hv' : v ≤ 4294967295) (w : World) :
    Calls Try.prog 84 #[.int .u64 v, .int .i64 32, .int .i64 (↑p)] w fun e w' => e = .returned (.int .u64 (srv v p)) ∧ w = w' := by
  have es : bits .and .u64 (v / 2147483648) 1 = v / 2147483648 := by rw [and_one64 _ (by omega) (by omega)]; omega
  have hz := Lib.hid (srv_zero v hv hv')
  go_enter Try.func84, Try.ntmps84
  go_wp2
  go_loop [0, 9] (fun x i => ∃ k : Nat, k ≤ p ∧ x = .int .u64 (srv v k) ∧ i = .int .i64 k) (fun _ i => p - (intOf i).toNat)
  case atStart => exact ⟨0, Nat.zero_le _, by rw [hz.out], rfl⟩
  case round =>
    obtain ⟨k, hk, rfl, rfl⟩ := hrel
    have b0 := srv_lo v k
    have b1 := srv_hi v k
    have hn := Lib.hid (srv_succ v k hv hv')
    by_cases hlt : k < p
    · go_wp2
      go_round
      case rel => exact ⟨k + 1, by omega, by rw [hn.out], by go_num⟩
      case measure => simp [intOf]; omega
    · obtain rfl : k = p := by omega
      go_wp2
      go_ret
      exact ⟨rfl, rfl⟩

set_option maxHeartbeats 1000000 in
theorem rright64_c (v : Int) (p : Nat) (hp : p ≤ 63) (hv : 0 ≤ v) (hv' : v ≤ 18446744073709551615) (w : World) :
    Calls Try.prog 84 #[.int .u64 v, .int .i64 64, .int .i64 (↑p)] w fun e w' => e = .returned (.int .u64 (drv v p)) ∧ w = w' := by
  have es : bits .and .u64 (v / 9223372036854775808) 1 = v / 9223372036854775808 := by rw [and_one64 _ (by omega) (by omega)]; omega
  have hz := Lib.hid (drv_zero v hv hv')
  go_enter Try.func84, Try.ntmps84
  go_wp2
  go_loop [0, 9] (fun x i => ∃ k : Nat, k ≤ p ∧ x = .int .u64 (drv v k) ∧ i = .int .i64 k) (fun _ i => p - (intOf i).toNat)
  case atStart => exact ⟨0, Nat.zero_le _, by rw [hz.out], rfl⟩
  case round =>
    obtain ⟨k, hk, rfl, rfl⟩ := hrel
    have b0 := drv_lo v k
    have b1 := drv_hi v k
    have hn := Lib.hid (drv_succ v k hv hv')
    by_cases hlt : k < p
    · go_wp2
      go_round
      case rel => exact ⟨k + 1, by omega, by rw [hn.out], by go_num⟩
      case measure => simp [intOf]; omega
    · obtain rfl : k = p := by omega
      go_wp2
      go_ret
      exact ⟨rfl, rfl⟩

end Go.Proofs.Ytmabamijogbbnaa
