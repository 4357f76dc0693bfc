/- CONTRACTS of package word (layer 1) and of its reference jobshopref01, but for the fields. Each: whatever the words, the call returns what the plain function says; the world stays as it was. No conditions but the words' own ranges. -/
import Derived.Test.YtmabamijogbbnaaProg
import Derived.Test.YtmabamijogbbnaaWdC2
import Derived.Lib.Hide
import Derived.Outline
namespace Go.Proofs.Ytmabamijogbbnaa
open Go.RowKit
set_option linter.unusedVariables false

set_option maxHeartbeats 400000 in
theorem rsigned_c (a : Int) (ha : 0 ≤ a) (ha' : a ≤ 4294967295) (w : World) :
    Calls Try.prog 68 #[.int .u32 a] w fun e w' => e = .returned (.int .i64 (sg a)) ∧ w = w' := by
  by_cases h0 : a < 2147483648
  · have hs := Lib.hid (show sg a = a from if_pos h0)
    go_enter Try.func68, Try.ntmps68
    go_wp2
    go_ret
    exact ⟨by rw [hs.out]; rfl, rfl⟩
  · have hs := Lib.hid (show sg a = a - 4294967296 from if_neg h0)
    go_enter Try.func68, Try.ntmps68
    go_wp2
    go_ret
    exact ⟨by rw [hs.out]; rfl, rfl⟩

set_option maxHeartbeats 400000 in
theorem rtest_c (a : Int) (ha : 0 ≤ a) (ha' : a ≤ 4294967295) (w : World) :
    Calls Try.prog 24 #[.int .u32 a] w fun e w' => e = .returned (.int .i64 (sgn (sg a))) ∧ w = w' := by
  have la := sg_lo a ha
  have ua := sg_hi a ha'
  have hz := Lib.hid (show sg a = 0 ↔ a = 0 from by unfold sg; split <;> omega)
  by_cases h0 : a = 0
  · subst h0
    go_enter Try.func24, Try.ntmps24
    go_wp2
    go_ret
    exact ⟨rfl, rfl⟩
  · have e0 : (a == 0) = false := by simpa using h0
    by_cases h1 : sg a < 0
    · have hs := Lib.hid (sgn_neg (sg a) h1)
      go_enter Try.func24, Try.ntmps24
      go_wp2_with (go_at_call 68; refine (rsigned_c _ (by omega) (by omega) _).mono ?_; rintro e w' ⟨rfl, rfl⟩)
      go_ret
      exact ⟨by rw [hs.out]; rfl, rfl⟩
    · have hs := Lib.hid (sgn_pos (sg a) (by have := hz.out; omega))
      go_enter Try.func24, Try.ntmps24
      go_wp2_with (go_at_call 68; refine (rsigned_c _ (by omega) (by omega) _).mono ?_; rintro e w' ⟨rfl, rfl⟩)
      go_ret
      exact ⟨by rw [hs.out]; rfl, rfl⟩

set_option maxHeartbeats 400000 in
theorem rexact_c (n : Int) (hn : -9223372036854775808 ≤ n) (hn' : n ≤ 9223372036854775807) (w : World) :
    Calls Try.prog 78 #[.int .i64 n] w fun e w' => e = .returned (.tuple #[.int .u32 (lo32 n), .int .i64 (rcc n), .bool (ovf n)]) ∧ w = w' := by
  have et := signed_test n
  have hl := lo32_is n
  cases ho : ovf n
  · have hr := Lib.hid (show rcc n = sgn (sg (lo32 n)) from by rw [sg_lo32_in n ho]; exact rcc_in n ho)
    rw [ho] at et
    clear ho
    go_enter Try.func78, Try.ntmps78
    go_wp2_with (first | (go_at_call 68; refine (rsigned_c _ (lo32_lo _) (lo32_hi _) _).mono ?_; rintro e w' ⟨rfl, rfl⟩) | (go_at_call 24; refine (rtest_c _ (lo32_lo _) (lo32_hi _) _).mono ?_; rintro e w' ⟨rfl, rfl⟩))
    go_ret3
    exact ⟨by rw [hr.out]; rfl, rfl⟩
  · have hr := Lib.hid (rcc_over n ho)
    rw [ho] at et
    clear ho
    go_enter Try.func78, Try.ntmps78
    go_wp2_with (first | (go_at_call 68; refine (rsigned_c _ (lo32_lo _) (lo32_hi _) _).mono ?_; rintro e w' ⟨rfl, rfl⟩) | (go_at_call 24; refine (rtest_c _ (lo32_lo _) (lo32_hi _) _).mono ?_; rintro e w' ⟨rfl, rfl⟩))
    go_ret3
    exact ⟨by rw [hr.out]; rfl, rfl⟩

set_option maxHeartbeats 400000 in
theorem radd_c (a b : Int) (ha : 0 ≤ a) (ha' : a ≤ 4294967295) (hb : 0 ≤ b) (hb' : b ≤ 4294967295) (w : World) :
    Calls Try.prog 46 #[.int .u32 a, .int .u32 b] w fun e w' => e = .returned (.tuple #[.int .u32 (lo32 (sg a + sg b)), .int .i64 (rcc (sg a + sg b)), .bool (ovf (sg a + sg b))]) ∧ w = w' := by
  have la := sg_lo a ha
  have ua := sg_hi a ha'
  have lb := sg_lo b hb
  have ub := sg_hi b hb'
  go_enter Try.func46, Try.ntmps46
  go_wp2_with (first | (go_at_call 68; refine (rsigned_c _ (by omega) (by omega) _).mono ?_; rintro e w' ⟨rfl, rfl⟩) | (go_at_call 78; refine (rexact_c _ (by omega) (by omega) _).mono ?_; rintro e w' ⟨rfl, rfl⟩))
  go_ret3
  exact ⟨rfl, rfl⟩

set_option maxHeartbeats 400000 in
theorem rsub_c (a b : Int) (ha : 0 ≤ a) (ha' : a ≤ 4294967295) (hb : 0 ≤ b) (hb' : b ≤ 4294967295) (w : World) :
    Calls Try.prog 47 #[.int .u32 a, .int .u32 b] w fun e w' => e = .returned (.tuple #[.int .u32 (lo32 (sg a - sg b)), .int .i64 (rcc (sg a - sg b)), .bool (ovf (sg a - sg b))]) ∧ w = w' := by
  have la := sg_lo a ha
  have ua := sg_hi a ha'
  have lb := sg_lo b hb
  have ub := sg_hi b hb'
  go_enter Try.func47, Try.ntmps47
  go_wp2_with (first | (go_at_call 68; refine (rsigned_c _ (by omega) (by omega) _).mono ?_; rintro e w' ⟨rfl, rfl⟩) | (go_at_call 78; refine (rexact_c _ (by omega) (by omega) _).mono ?_; rintro e w' ⟨rfl, rfl⟩))
  go_ret3
  exact ⟨rfl, rfl⟩

set_option maxHeartbeats 400000 in
theorem rcomplement_c (a : Int) (ha : 0 ≤ a) (ha' : a ≤ 4294967295) (w : World) :
    Calls Try.prog 49 #[.int .u32 a] w fun e w' => e = .returned (.tuple #[.int .u32 (lo32 (-sg a)), .int .i64 (rcc (-sg a)), .bool (ovf (-sg a))]) ∧ w = w' := by
  have la := sg_lo a ha
  have ua := sg_hi a ha'
  go_enter Try.func49, Try.ntmps49
  go_wp2_with (first | (go_at_call 68; refine (rsigned_c _ (by omega) (by omega) _).mono ?_; rintro e w' ⟨rfl, rfl⟩) | (go_at_call 78; refine (rexact_c _ (by omega) (by omega) _).mono ?_; rintro e w' ⟨rfl, rfl⟩))
  go_ret3
  exact ⟨rfl, rfl⟩

set_option maxHeartbeats 400000 in
theorem rlogical_c (v : Int) (high : Bool) (w : World) :
    Calls Try.prog 79 #[.int .u32 v, .bool high] w fun e w' => e = .returned (.tuple #[.int .u32 v, .int .i64 (lcc v high)]) ∧ w = w' := by
  by_cases h0 : v = 0
  · subst h0
    cases high
    all_goals
      go_enter Try.func79, Try.ntmps79
      go_wp2
      go_ret2
      exact ⟨rfl, rfl⟩
  · have e0 : (v != 0) = true := by simpa using h0
    have hs := Lib.hid h0
    clear h0
    cases high
    all_goals
      go_enter Try.func79, Try.ntmps79
      go_wp2
      go_ret2
      exact ⟨by simp [lcc, hs.out], rfl⟩

set_option maxHeartbeats 400000 in
theorem raddl_c (a b : Int) (ha : 0 ≤ a) (ha' : a ≤ 4294967295) (hb : 0 ≤ b) (hb' : b ≤ 4294967295) (w : World) :
    Calls Try.prog 51 #[.int .u32 a, .int .u32 b] w fun e w' => e = .returned (.tuple #[.int .u32 (lo32 (a + b)), .int .i64 (lcc (lo32 (a + b)) (decide (4294967296 ≤ a + b)))]) ∧ w = w' := by
  have hl := lo32_is (a + b)
  go_enter Try.func51, Try.ntmps51
  go_wp2_with (go_at_call 79; refine (rlogical_c _ _ _).mono ?_; rintro e w' ⟨rfl, rfl⟩)
  go_ret2
  exact ⟨rfl, rfl⟩

set_option maxHeartbeats 400000 in
theorem rsubl_c (a b : Int) (ha : 0 ≤ a) (ha' : a ≤ 4294967295) (hb : 0 ≤ b) (hb' : b ≤ 4294967295) (w : World) :
    Calls Try.prog 52 #[.int .u32 a, .int .u32 b] w fun e w' => e = .returned (.tuple #[.int .u32 (lo32 (a - b)), .int .i64 (lcc (lo32 (a - b)) (decide (b ≤ a)))]) ∧ w = w' := by
  have h1 := Lib.hid (show lo32 (a + 4294967296 - b) = lo32 (a - b) from by unfold lo32; omega)
  have h2 := Lib.hid (show decide (4294967296 ≤ a + 4294967296 - b) = decide (b ≤ a) from by rw [Bool.eq_iff_iff, decide_eq_true_iff, decide_eq_true_iff]; omega)
  have hl := lo32_is (a + 4294967296 - b)
  go_enter Try.func52, Try.ntmps52
  go_wp2_with (go_at_call 79; refine (rlogical_c _ _ _).mono ?_; rintro e w' ⟨rfl, rfl⟩)
  go_ret2
  exact ⟨by rw [← h1.out, ← h2.out]; rfl, rfl⟩

set_option maxHeartbeats 400000 in
theorem rcompare_c (a b : Int) (ha : 0 ≤ a) (ha' : a ≤ 4294967295) (hb : 0 ≤ b) (hb' : b ≤ 4294967295) (w : World) :
    Calls Try.prog 20 #[.int .u32 a, .int .u32 b] w fun e w' => e = .returned (.int .i64 (sgn (sg a - sg b))) ∧ w = w' := by
  have la := sg_lo a ha
  have ua := sg_hi a ha'
  have lb := sg_lo b hb
  have ub := sg_hi b hb'
  have hz := Lib.hid (show sg a = sg b ↔ a = b from by unfold sg; split <;> split <;> omega)
  by_cases h0 : a = b
  · subst h0
    go_enter Try.func20, Try.ntmps20
    go_wp2
    go_ret
    exact ⟨rfl, rfl⟩
  · have e0 : (a == b) = false := by simpa using h0
    by_cases h1 : sg a < sg b
    · have hs := Lib.hid (sgn_neg (sg a - sg b) (by omega))
      go_enter Try.func20, Try.ntmps20
      go_wp2_with (go_at_call 68; refine (rsigned_c _ (by omega) (by omega) _).mono ?_; rintro e w' ⟨rfl, rfl⟩)
      go_ret
      exact ⟨by rw [hs.out]; rfl, rfl⟩
    · have hs := Lib.hid (sgn_pos (sg a - sg b) (by have := hz.out; omega))
      go_enter Try.func20, Try.ntmps20
      go_wp2_with (go_at_call 68; refine (rsigned_c _ (by omega) (by omega) _).mono ?_; rintro e w' ⟨rfl, rfl⟩)
      go_ret
      exact ⟨by rw [hs.out]; rfl, rfl⟩

set_option maxHeartbeats 400000 in
theorem rcomparel_c (a b : Int) (ha : 0 ≤ a) (ha' : a ≤ 4294967295) (hb : 0 ≤ b) (hb' : b ≤ 4294967295) (w : World) :
    Calls Try.prog 22 #[.int .u32 a, .int .u32 b] w fun e w' => e = .returned (.int .i64 (sgn (a - b))) ∧ w = w' := by
  by_cases h0 : a = b
  · subst h0
    go_enter Try.func22, Try.ntmps22
    go_wp2
    go_ret
    exact ⟨by simp [sgn], rfl⟩
  · have e0 : (a == b) = false := by simpa using h0
    by_cases h1 : a < b
    · have hs := Lib.hid (sgn_neg (a - b) (by omega))
      go_enter Try.func22, Try.ntmps22
      go_wp2
      go_ret
      exact ⟨by rw [hs.out]; rfl, rfl⟩
    · have hs := Lib.hid (sgn_pos (a - b) (by omega))
      go_enter Try.func22, Try.ntmps22
      go_wp2
      go_ret
      exact ⟨by rw [hs.out]; rfl, rfl⟩

set_option maxHeartbeats 400000 in
theorem rwords_c (x : Int) (hx : 0 ≤ x) (hx' : x ≤ 18446744073709551615) (w : World) :
    Calls Try.prog 69 #[.int .u64 x] w fun e w' => e = .returned (.tuple #[.int .u32 (lo32 (x / 4294967296)), .int .u32 (lo32 x)]) ∧ w = w' := by
  have hh := Lib.hid (lo32_id (x / 4294967296) (by omega) (by omega))
  go_enter Try.func69, Try.ntmps69
  go_wp2
  go_ret2
  exact ⟨by rw [hh.out]; rfl, rfl⟩

set_option maxHeartbeats 400000 in
theorem rmul_c (a b : Int) (ha : 0 ≤ a) (ha' : a ≤ 4294967295) (hb : 0 ≤ b) (hb' : b ≤ 4294967295) (w : World) :
    Calls Try.prog 26 #[.int .u32 a, .int .u32 b] w fun e w' => e = .returned (.tuple #[.int .u32 (lo32 (sg a * sg b / 4294967296)), .int .u32 (lo32 (sg a * sg b))]) ∧ w = w' := by
  have la := sg_lo a ha
  have ua := sg_hi a ha'
  have lb := sg_lo b hb
  have ub := sg_hi b hb'
  have p0 := prod_lo a b ha ha' hb hb'
  have p1 := prod_hi a b ha ha' hb hb'
  have h1 := Lib.hid (hi_mod (sg a * sg b))
  have h2 := Lib.hid (lo_mod (sg a * sg b))
  have eu := IntKind.wrap_u64 (sg a * sg b)
  go_enter Try.func26, Try.ntmps26
  go_wp2_with (first | (go_at_call 68; refine (rsigned_c _ (by omega) (by omega) _).mono ?_; rintro e w' ⟨rfl, rfl⟩) | (go_at_call 69; refine (rwords_c _ (by omega) (by omega) _).mono ?_; rintro e w' ⟨rfl, rfl⟩))
  go_ret2
  exact ⟨by rw [← h1.out, ← h2.out]; rfl, rfl⟩

set_option maxHeartbeats 400000 in
theorem rlong_c (a b : Int) (ha : 0 ≤ a) (ha' : a ≤ 4294967295) (hb : 0 ≤ b) (hb' : b ≤ 4294967295) (w : World) :
    Calls Try.prog 71 #[.int .u32 a, .int .u32 b] w fun e w' => e = .returned (.int .u64 (dbl a b)) ∧ w = w' := by
  have ho := dbl_is a b
  go_enter Try.func71, Try.ntmps71
  go_wp2
  go_ret
  exact ⟨rfl, rfl⟩

end Go.Proofs.Ytmabamijogbbnaa
