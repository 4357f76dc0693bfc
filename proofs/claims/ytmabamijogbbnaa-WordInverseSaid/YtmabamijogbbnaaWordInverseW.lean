/- THE WALK of WordInverse: whatever the words, it returns true and writes nothing that was there. No conditions. -/
import Derived.Test.YtmabamijogbbnaaWdC7
import Derived.OpenShut
namespace Go.Proofs.Ytmabamijogbbnaa
open Go.RowKit Go.ChangeShapes Go.WideShapes
set_option linter.unusedVariables false

set_option maxRecDepth 100000 in
set_option maxHeartbeats 1000000 in
theorem wordInverse_walk (a0 : Int) (a1 : Int) (w : World) (w0 : (Lit.int .u32 a0).wf = true) (w1 : (Lit.int .u32 a1).wf = true) :
    Calls Try.prog 10 #[.int .u32 a0, .int .u32 a1] w fun e w' => e = .returned (.bool true) ∧ Below w.heap.size w w' := by
  have la0 := (bounds_u32 w0).1
  have ua0 := (bounds_u32 w0).2
  have la1 := (bounds_u32 w1).1
  have ua1 := (bounds_u32 w1).2
  clear w0 w1
  have s0 := sg_lo a0 la0
  have s1 := sg_hi a0 ua0
  have s2 := sg_lo a1 la1
  have s3 := sg_hi a1 ua1
  obtain ⟨t, ht⟩ : ∃ t, lo32 (a0 + a1) = t := ⟨_, rfl⟩
  obtain ⟨d, hd⟩ : ∃ d, lo32 (a0 - a1) = d := ⟨_, rfl⟩
  obtain ⟨n, hn⟩ : ∃ n, lo32 (-sg a1) = n := ⟨_, rfl⟩
  have t0 : 0 ≤ t := by rw [← ht]; exact lo32_lo _
  have t1 : t ≤ 4294967295 := by rw [← ht]; exact lo32_hi _
  have d0 : 0 ≤ d := by rw [← hd]; exact lo32_lo _
  have d1 : d ≤ 4294967295 := by rw [← hd]; exact lo32_hi _
  have n0 : 0 ≤ n := by rw [← hn]; exact lo32_lo _
  have n1 : n ≤ 4294967295 := by rw [← hn]; exact lo32_hi _
  have e1 : lo32 (sg a0 + sg a1) = t := by rw [← ht]; exact inv_sum a0 a1 la0 ua0 la1 ua1
  have e2 : lo32 (sg a0 - sg a1) = d := by rw [← hd]; exact inv_diff a0 a1 la0 ua0 la1 ua1
  have e3 : lo32 (sg t - sg a1) = a0 := by rw [← ht]; exact inv_back a0 a1 la0 ua0 la1 ua1
  have e4 : lo32 (a0 + n) = d := by rw [← hd, ← hn]; exact inv_neg a0 a1 la0 ua0 la1 ua1
  have e5 : (n + a1) % 4294967296 = 0 := by rw [← hn]; exact inv_zero a1 la1 ua1
  have e6 : (sg a0 + sg a1 != sg t) = ovf (sg a0 + sg a1) := by rw [← e1]; exact over_test _
  have e7 : (sg a0 - sg a1 != sg d) = ovf (sg a0 - sg a1) := by rw [← e2]; exact over_test _
  obtain ⟨dd, hdd⟩ : ∃ dd, lcc t (decide (4294967296 ≤ a0 + a1)) = dd := ⟨_, rfl⟩
  obtain ⟨ff, hff⟩ : ∃ ff, lcc d (decide (a1 ≤ a0)) = ff := ⟨_, rfl⟩
  have p0 : 0 ≤ dd := by rw [← hdd]; exact lcc_lo _ _
  have p1 : dd ≤ 3 := by rw [← hdd]; exact lcc_hi _ _
  have q0 : 0 ≤ ff := by rw [← hff]; exact lcc_lo _ _
  have q1 : ff ≤ 3 := by rw [← hff]; exact lcc_hi _ _
  have f1 : (dd / 2 == (a0 + a1) / 4294967296) = true := by rw [← hdd, lcc_high, carry_is a0 a1 la0 ua0 la1 ua1]; simp
  have f2 : (dd % 2 == 1) = (t != 0) := by rw [← hdd]; exact lcc_some _ _
  have f3 : decide (2 ≤ ff) = decide (a1 ≤ a0) := by rw [← hff]; exact lcc_two _ _
  have f4 : (ff % 2 == 1) = (d != 0) := by rw [← hff]; exact lcc_some _ _
  have hr1 := rcc_over (sg a0 + sg a1)
  have hr2 := rcc_in (sg a0 + sg a1)
  have hr3 := rcc_over (sg a0 - sg a1)
  have hr4 := rcc_in (sg a0 - sg a1)
  cases ho : ovf (sg a0 + sg a1)
  all_goals
    cases hl : ovf (sg a0 - sg a1)
    all_goals
      rw [ho] at e6
      rw [hl] at e7
      first | replace hr1 := hr1 ho | replace hr1 := hr2 ho
      first | replace hr3 := hr3 hl | replace hr3 := hr4 hl
      clear hr2 hr4
      go_enter Try.func10, Try.ntmps10
      go_wp2_with (first | (go_at_call 18; refine (works_c _).mono ?_; rintro e w1 ⟨rfl, hb⟩) | (go_at_call 45; refine (add_c _ _ (by omega) (by omega) (by omega) (by omega) _).mono ?_; rintro e w' ⟨rfl, rfl⟩) | (go_at_call 32; refine (sub_c _ _ (by omega) (by omega) (by omega) (by omega) _).mono ?_; rintro e w' ⟨rfl, rfl⟩) | (go_at_call 48; refine (complement_c _ (by omega) (by omega) _).mono ?_; rintro e w' ⟨rfl, rfl⟩) | (go_at_call 50; refine (addl_c _ _ (by omega) (by omega) (by omega) (by omega) _).mono ?_; rintro e w' ⟨rfl, rfl⟩) | (go_at_call 33; refine (subl_c _ _ (by omega) (by omega) (by omega) (by omega) _).mono ?_; rintro e w' ⟨rfl, rfl⟩) | (go_at_call 19; refine (compare_c _ _ (by omega) (by omega) (by omega) (by omega) _).mono ?_; rintro e w' ⟨rfl, rfl⟩) | (go_at_call 21; refine (comparel_c _ _ (by omega) (by omega) (by omega) (by omega) _).mono ?_; rintro e w' ⟨rfl, rfl⟩) | (go_at_call 23; refine (test_c _ (by omega) (by omega) _).mono ?_; rintro e w' ⟨rfl, rfl⟩) | (go_at_call 25; refine (mul_c _ _ (by omega) (by omega) (by omega) (by omega) _).mono ?_; rintro e w' ⟨rfl, rfl⟩) | (go_at_call 27; refine (div_c _ _ _ (by omega) (by omega) (by omega) (by omega) (by omega) (by omega) _).mono ?_; rintro e w' ⟨rfl, rfl⟩) | (go_at_call 61; refine (shiftla_c _ _ (by omega) (by omega) (by omega) (by omega) _).mono ?_; rintro e w' ⟨rfl, rfl⟩) | (go_at_call 60; refine (shiftr_c _ _ (by omega) (by omega) (by omega) (by omega) _).mono ?_; rintro e w' ⟨rfl, rfl⟩) | (go_at_call 64; refine (shiftl_c _ _ _ (by omega) (by omega) (by omega) (by omega) _).mono ?_; rintro e w' ⟨rfl, rfl⟩) | (go_at_call 54; refine (shiftlad_c _ _ _ (by omega) (by omega) (by omega) (by omega) (by omega) (by omega) _).mono ?_; rintro e w' ⟨rfl, rfl⟩) | (go_at_call 56; refine (shiftrd_c _ _ _ (by omega) (by omega) (by omega) (by omega) (by omega) (by omega) _).mono ?_; rintro e w' ⟨rfl, rfl⟩) | (go_at_call 58; refine (shiftld_c _ _ _ _ (by omega) (by omega) (by omega) (by omega) (by omega) (by omega) _).mono ?_; rintro e w' ⟨rfl, rfl⟩) | (go_at_call 30; refine (signed_c _ (by omega) (by omega) _).mono ?_; rintro e w' ⟨rfl, rfl⟩) | (go_at_call 29; refine (long_c _ _ (by omega) (by omega) (by omega) (by omega) _).mono ?_; rintro e w' ⟨rfl, rfl⟩) | (go_at_call 53; refine (code_c _ _).mono ?_; rintro e w' ⟨rfl, rfl⟩) | (go_at_call 31; refine (size_c _ (by omega) (by omega) _).mono ?_; rintro e w' ⟨rfl, rfl⟩))
      go_ret
      exact ⟨rfl, hb⟩
end Go.Proofs.Ytmabamijogbbnaa
