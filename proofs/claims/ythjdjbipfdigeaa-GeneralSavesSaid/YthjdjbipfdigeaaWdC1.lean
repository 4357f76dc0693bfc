/- CONTRACTS of package word (layer 1) and of its reference jobshopref01, but for the fields. Each: whatever the words, the call returns what the plain function says; the world stays as it was. No conditions but the words' own ranges. -/
import Derived.Test.YthjdjbipfdigeaaProg
import Derived.Test.YthjdjbipfdigeaaWd
import Derived.Lib.Hide
import Derived.Outline
namespace Go.Proofs.Ythjdjbipfdigeaa
open Go.RowKit
set_option linter.unusedVariables false

set_option maxHeartbeats 400000 in
theorem sign_c (n : Int) (w : World) :
    Calls Try.prog 96 #[.int .i64 n] w fun e w' => e = .returned (.int .i64 (sgn n)) ∧ w = w' := by
  by_cases h0 : n = 0
  · subst h0
    go_enter Try.func96, Try.ntmps96
    go_wp2
    go_ret
    exact ⟨rfl, rfl⟩
  · have e0 : (n == 0) = false := by simpa using h0
    by_cases h1 : n < 0
    · have hs := Lib.hid (sgn_neg n h1)
      go_enter Try.func96, Try.ntmps96
      go_wp2
      go_ret
      exact ⟨by rw [hs.out]; rfl, rfl⟩
    · have hs := Lib.hid (sgn_pos n (by omega))
      go_enter Try.func96, Try.ntmps96
      go_wp2
      go_ret
      exact ⟨by rw [hs.out]; rfl, rfl⟩

set_option maxHeartbeats 400000 in
theorem test_c (a : Int) (ha : 0 ≤ a) (ha' : a ≤ 4294967295) (w : World) :
    Calls Try.prog 98 #[.int .u32 a] w fun e w' => e = .returned (.int .i64 (sgn (sg a))) ∧ w = w' := by
  have ea := wrap32_sg a ha ha'
  have la := sg_lo a ha
  have ua := sg_hi a ha'
  go_enter Try.func98, Try.ntmps98
  go_wp2_with (go_at_call 96; refine (sign_c _ _).mono ?_; rintro e w' ⟨rfl, rfl⟩)
  go_ret
  exact ⟨rfl, rfl⟩

set_option maxHeartbeats 400000 in
theorem result_c (n : Int) (hn : -9223372036854775808 ≤ n) (hn' : n ≤ 9223372036854775807) (w : World) :
    Calls Try.prog 105 #[.int .i64 n] w fun e w' => e = .returned (.tuple #[.int .u32 (lo32 n), .int .i64 (rcc n), .bool (ovf n)]) ∧ w = w' := by
  have et := fits_test n hn hn'
  cases ho : ovf n
  · have hr := Lib.hid (rcc_in n ho)
    rw [ho] at et
    clear ho
    go_enter Try.func105, Try.ntmps105
    go_wp2_with (go_at_call 96; refine (sign_c _ _).mono ?_; rintro e w' ⟨rfl, rfl⟩)
    go_ret3
    exact ⟨by rw [hr.out]; rfl, rfl⟩
  · have hr := Lib.hid (rcc_over n ho)
    rw [ho] at et
    clear ho
    go_enter Try.func105, Try.ntmps105
    go_wp2_with (go_at_call 96; refine (sign_c _ _).mono ?_; rintro e w' ⟨rfl, rfl⟩)
    go_ret3
    exact ⟨by rw [hr.out]; rfl, rfl⟩

set_option maxHeartbeats 400000 in
theorem add_c (a b : Int) (ha : 0 ≤ a) (ha' : a ≤ 4294967295) (hb : 0 ≤ b) (hb' : b ≤ 4294967295) (w : World) :
    Calls Try.prog 87 #[.int .u32 a, .int .u32 b] w fun e w' => e = .returned (.tuple #[.int .u32 (lo32 (sg a + sg b)), .int .i64 (rcc (sg a + sg b)), .bool (ovf (sg a + sg b))]) ∧ w = w' := by
  have ea := wrap32_sg a ha ha'
  have la := sg_lo a ha
  have ua := sg_hi a ha'
  have eb := wrap32_sg b hb hb'
  have lb := sg_lo b hb
  have ub := sg_hi b hb'
  go_enter Try.func87, Try.ntmps87
  go_wp2_with (go_at_call 105; refine (result_c _ (by omega) (by omega) _).mono ?_; rintro e w' ⟨rfl, rfl⟩)
  go_ret3
  exact ⟨rfl, rfl⟩

set_option maxHeartbeats 400000 in
theorem sub_c (a b : Int) (ha : 0 ≤ a) (ha' : a ≤ 4294967295) (hb : 0 ≤ b) (hb' : b ≤ 4294967295) (w : World) :
    Calls Try.prog 88 #[.int .u32 a, .int .u32 b] w fun e w' => e = .returned (.tuple #[.int .u32 (lo32 (sg a - sg b)), .int .i64 (rcc (sg a - sg b)), .bool (ovf (sg a - sg b))]) ∧ w = w' := by
  have ea := wrap32_sg a ha ha'
  have la := sg_lo a ha
  have ua := sg_hi a ha'
  have eb := wrap32_sg b hb hb'
  have lb := sg_lo b hb
  have ub := sg_hi b hb'
  go_enter Try.func88, Try.ntmps88
  go_wp2_with (go_at_call 105; refine (result_c _ (by omega) (by omega) _).mono ?_; rintro e w' ⟨rfl, rfl⟩)
  go_ret3
  exact ⟨rfl, rfl⟩

set_option maxHeartbeats 400000 in
theorem complement_c (a : Int) (ha : 0 ≤ a) (ha' : a ≤ 4294967295) (w : World) :
    Calls Try.prog 104 #[.int .u32 a] w fun e w' => e = .returned (.tuple #[.int .u32 (lo32 (-sg a)), .int .i64 (rcc (-sg a)), .bool (ovf (-sg a))]) ∧ w = w' := by
  have hz := Lib.hid (show sg 0 - sg a = -sg a from by rw [sg_zero]; omega)
  go_enter Try.func104, Try.ntmps104
  go_wp2_with (go_at_call 88; refine (sub_c 0 a (by omega) (by omega) ha ha' _).mono ?_; rintro e w' ⟨rfl, rfl⟩)
  go_ret3
  exact ⟨by rw [← hz.out]; rfl, rfl⟩

set_option maxHeartbeats 400000 in
theorem carry_c (v : Int) (high : Bool) (w : World) :
    Calls Try.prog 106 #[.int .u32 v, .bool high] w fun e w' => e = .returned (.int .i64 (lcc v high)) ∧ w = w' := by
  by_cases h0 : v = 0
  · subst h0
    cases high
    all_goals
      go_enter Try.func106, Try.ntmps106
      go_wp2
      go_ret
      exact ⟨rfl, rfl⟩
  · have e0 : (v != 0) = true := by simpa using h0
    have hs := Lib.hid h0
    clear h0
    cases high
    all_goals
      go_enter Try.func106, Try.ntmps106
      go_wp2
      go_ret
      exact ⟨by simp [lcc, hs.out], rfl⟩

set_option maxHeartbeats 400000 in
theorem addl_c (a b : Int) (ha : 0 ≤ a) (ha' : a ≤ 4294967295) (hb : 0 ≤ b) (hb' : b ≤ 4294967295) (w : World) :
    Calls Try.prog 89 #[.int .u32 a, .int .u32 b] w fun e w' => e = .returned (.tuple #[.int .u32 (lo32 (a + b)), .int .i64 (lcc (lo32 (a + b)) (decide (4294967296 ≤ a + b)))]) ∧ w = w' := by
  have hs := Lib.hid (sum_high a b ha ha' hb hb')
  have hl := lo32_is (a + b)
  go_enter Try.func89, Try.ntmps89
  go_wp2_with (go_at_call 106; refine (carry_c _ _ _).mono ?_; rintro e w' ⟨rfl, rfl⟩)
  go_ret2
  exact ⟨by rw [← hs.out]; rfl, rfl⟩

set_option maxHeartbeats 400000 in
theorem subl_c (a b : Int) (ha : 0 ≤ a) (ha' : a ≤ 4294967295) (hb : 0 ≤ b) (hb' : b ≤ 4294967295) (w : World) :
    Calls Try.prog 90 #[.int .u32 a, .int .u32 b] w fun e w' => e = .returned (.tuple #[.int .u32 (lo32 (a - b)), .int .i64 (lcc (lo32 (a - b)) (decide (b ≤ a)))]) ∧ w = w' := by
  have hl := lo32_is (a - b)
  go_enter Try.func90, Try.ntmps90
  go_wp2_with (go_at_call 106; refine (carry_c _ _ _).mono ?_; rintro e w' ⟨rfl, rfl⟩)
  go_ret2
  exact ⟨rfl, rfl⟩

set_option maxHeartbeats 400000 in
theorem compare_c (a b : Int) (ha : 0 ≤ a) (ha' : a ≤ 4294967295) (hb : 0 ≤ b) (hb' : b ≤ 4294967295) (w : World) :
    Calls Try.prog 55 #[.int .u32 a, .int .u32 b] w fun e w' => e = .returned (.int .i64 (sgn (sg a - sg b))) ∧ w = w' := by
  have ea := wrap32_sg a ha ha'
  have la := sg_lo a ha
  have ua := sg_hi a ha'
  have eb := wrap32_sg b hb hb'
  have lb := sg_lo b hb
  have ub := sg_hi b hb'
  go_enter Try.func55, Try.ntmps55
  go_wp2_with (go_at_call 96; refine (sign_c _ _).mono ?_; rintro e w' ⟨rfl, rfl⟩)
  go_ret
  exact ⟨rfl, rfl⟩

set_option maxHeartbeats 400000 in
theorem comparel_c (a b : Int) (ha : 0 ≤ a) (ha' : a ≤ 4294967295) (hb : 0 ≤ b) (hb' : b ≤ 4294967295) (w : World) :
    Calls Try.prog 73 #[.int .u32 a, .int .u32 b] w fun e w' => e = .returned (.int .i64 (sgn (a - b))) ∧ w = w' := by
  go_enter Try.func73, Try.ntmps73
  go_wp2_with (go_at_call 96; refine (sign_c _ _).mono ?_; rintro e w' ⟨rfl, rfl⟩)
  go_ret
  exact ⟨rfl, rfl⟩

set_option maxHeartbeats 400000 in
theorem mul_c (a b : Int) (ha : 0 ≤ a) (ha' : a ≤ 4294967295) (hb : 0 ≤ b) (hb' : b ≤ 4294967295) (w : World) :
    Calls Try.prog 92 #[.int .u32 a, .int .u32 b] w fun e w' => e = .returned (.tuple #[.int .u32 (lo32 (sg a * sg b / 4294967296)), .int .u32 (lo32 (sg a * sg b))]) ∧ w = w' := by
  have ea := wrap32_sg a ha ha'
  have la := sg_lo a ha
  have ua := sg_hi a ha'
  have eb := wrap32_sg b hb hb'
  have lb := sg_lo b hb
  have ub := sg_hi b hb'
  have p0 := prod_lo a b ha ha' hb hb'
  have p1 := prod_hi a b ha ha' hb hb'
  go_enter Try.func92, Try.ntmps92
  go_wp2
  go_ret2
  exact ⟨rfl, rfl⟩

set_option maxHeartbeats 400000 in
theorem double_c (a b : Int) (ha : 0 ≤ a) (ha' : a ≤ 4294967295) (hb : 0 ≤ b) (hb' : b ≤ 4294967295) (w : World) :
    Calls Try.prog 99 #[.int .u32 a, .int .u32 b] w fun e w' => e = .returned (.int .u64 (dbl a b)) ∧ w = w' := by
  have ho := or_dbl a b ha ha' hb hb'
  go_enter Try.func99, Try.ntmps99
  go_wp2
  go_ret
  exact ⟨rfl, rfl⟩

set_option maxHeartbeats 800000 in
theorem div_c (a b d : Int) (ha : 0 ≤ a) (ha' : a ≤ 4294967295) (hb : 0 ≤ b) (hb' : b ≤ 4294967295) (hd : 0 ≤ d) (hd' : d ≤ 4294967295) (w : World) :
    Calls Try.prog 102 #[.int .u32 a, .int .u32 b, .int .u32 d] w fun e w' => e = .returned (.tuple #[.int .u32 (drem (sg64 (dbl a b)) (sg d)), .int .u32 (dquo (sg64 (dbl a b)) (sg d)), .bool (dok (sg64 (dbl a b)) (sg d))]) ∧ w = w' := by
  have x0 := dbl_lo a b ha hb
  have x1 := dbl_hi a b ha' hb'
  have ex := wrap64_sg (dbl a b) x0 x1
  have y0 := sg64_lo (dbl a b) x0
  have y1 := sg64_hi (dbl a b) x1
  have ed := wrap32_sg d hd hd'
  have ld := sg_lo d hd
  have ud := sg_hi d hd'
  by_cases hz : sg d = 0
  · have hq := Lib.hid (dok_zero (sg64 (dbl a b)))
    have eb : (sg d == 0) = true := by simpa using hz
    have hz' := Lib.hid hz
    clear hz
    go_enter Try.func102, Try.ntmps102
    go_wp2_with (go_at_call 99; refine (double_c _ _ ha ha' hb hb' _).mono ?_; rintro e w' ⟨rfl, rfl⟩)
    go_ret3
    exact ⟨by simp [hz'.out, drem, dquo, hq.out], rfl⟩
  · have eb : (sg d == 0) = false := by simpa using hz
    have hz' := Lib.hid hz
    have et := quo_test (sg64 (dbl a b)) (sg d) hz y0 y1
    cases hq : dok (sg64 (dbl a b)) (sg d)
    · rw [hq] at et
      have hq' := Lib.hid hq
      clear hq
      go_enter Try.func102, Try.ntmps102
      go_wp2_with (go_at_call 99; refine (double_c _ _ ha ha' hb hb' _).mono ?_; rintro e w' ⟨rfl, rfl⟩)
      go_ret3
      exact ⟨by simp [drem, dquo, hq'.out], rfl⟩
    · rw [hq] at et
      have hq' := Lib.hid hq
      clear hq
      have q0 := (dok_in _ _ hq'.out).2.1
      have q1 := (dok_in _ _ hq'.out).2.2
      go_enter Try.func102, Try.ntmps102
      go_wp2_with (go_at_call 99; refine (double_c _ _ ha ha' hb hb' _).mono ?_; rintro e w' ⟨rfl, rfl⟩)
      go_ret3
      exact ⟨by rw [drem_ok _ _ hq'.out, dquo_ok _ _ hq'.out]; rfl, rfl⟩

set_option maxHeartbeats 400000 in
theorem places_c (n : Int) (hn : -9223372036854775808 ≤ n) (hn' : n ≤ 9223372036854775807) (w : World) :
    Calls Try.prog 97 #[.int .i64 n] w fun e w' => e = .returned (.int .u64 (↑(plc n))) ∧ w = w' := by
  have e1 := Lib.hid (show IntKind.u64.wrap n % 64 = (plc n : Int) from by rw [IntKind.wrap_u64]; unfold plc; omega)
  have b0 : 0 ≤ IntKind.u64.wrap n := by rw [IntKind.wrap_u64]; omega
  go_enter Try.func97, Try.ntmps97
  go_wp2
  go_ret
  exact ⟨by rw [← e1.out]; rfl, rfl⟩

end Go.Proofs.Ythjdjbipfdigeaa
