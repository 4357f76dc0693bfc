/- THE WALK of WordProductShifts: whatever the words, it returns true and writes nothing that was there. No conditions. -/
import Derived.Test.YtmabamijogbbnaaWdC7
import Derived.Test.YtmabamijogbbnaaWd3
import Derived.OpenShut
namespace Go.Proofs.Ytmabamijogbbnaa
open Go.RowKit Go.ChangeShapes Go.WideShapes
set_option linter.unusedVariables false

set_option maxRecDepth 100000 in
set_option maxHeartbeats 1000000 in
theorem wordProductShifts_walk (a0 : Int) (a1 : Int) (a2 : Int) (w : World) (w0 : (Lit.int .u32 a0).wf = true) (w1 : (Lit.int .u32 a1).wf = true) (w2 : (Lit.int .u8 a2).wf = true) :
    Calls Try.prog 13 #[.int .u32 a0, .int .u32 a1, .int .u8 a2] w fun e w' => e = .returned (.bool true) ∧ Below w.heap.size w w' := by
  have la0 := (bounds_u32 w0).1
  have ua0 := (bounds_u32 w0).2
  have la1 := (bounds_u32 w1).1
  have ua1 := (bounds_u32 w1).2
  have la2 := (bounds_u8 w2).1
  have ua2 := (bounds_u8 w2).2
  clear w0 w1 w2
  have s0 := sg_lo a0 la0
  have s1 := sg_hi a0 ua0
  obtain ⟨k, hk⟩ : ∃ k : Nat, a2 % 31 = (k : Int) := ⟨(a2 % 31).toNat, by omega⟩
  have k1 : k ≤ 30 := by omega
  have kp := plc_nat k (by omega)
  have kq : plc 31 = 31 := by decide
  obtain ⟨m, hm1⟩ : ∃ m, sg a0 * sg a1 = m := ⟨_, rfl⟩
  have hm2 : sg a1 * sg a0 = m := by rw [← hm1]; exact Int.mul_comm _ _
  have hsp := sg_pow k k1
  have hp0 := pow_pos2 k
  have hp1 := pow_le30 k k1
  obtain ⟨sv, hsv⟩ : ∃ sv, srv a0 31 = sv := ⟨_, rfl⟩
  have v0 : 0 ≤ sv := by rw [← hsv]; exact srv_lo _ _
  have v1 : sv ≤ 4294967295 := by rw [← hsv]; exact srv_hi _ _
  have ho := ext_over a0 k la0 ua0 k1
  have hv := ext_val a0 k la0 ua0 k1
  rw [hsv] at ho hv
  have g1 : lo32 (dlv (dbl sv a0) k / 4294967296) = lo32 (sg a0 * 2 ^ k / 4294967296) := by rw [hv]; exact hi_mod _
  have g2 : lo32 (dlv (dbl sv a0) k) = lo32 (sg a0 * 2 ^ k) := by rw [hv]; exact lo_mod _
  clear hv
  have hz := sg_zero
  have hz2 : lo32 0 = 0 := by decide
  have hmo : sg 4294967295 = -1 := by decide
  obtain ⟨E, hE⟩ : ∃ E, lo32 (-sg a0 / 4294967296) = E := ⟨_, rfl⟩
  obtain ⟨G, hG⟩ : ∃ G, lo32 (-sg a0) = G := ⟨_, rfl⟩
  have hL := neg_long a0 la0 ua0
  rw [hE, hG] at hL
  have E0 : 0 ≤ E := by rw [← hE]; exact lo32_lo _
  have E1 : E ≤ 4294967295 := by rw [← hE]; exact lo32_hi _
  have G0 : 0 ≤ G := by rw [← hG]; exact lo32_lo _
  have G1 : G ≤ 4294967295 := by rw [← hG]; exact lo32_hi _
  go_enter Try.func13, Try.ntmps13
  go_wp2_with (first | (go_at_call 18; refine (works_c _).mono ?_; rintro e w1 ⟨rfl, hb⟩) | (go_at_call 45; refine (add_c _ _ (by omega) (by omega) (by omega) (by omega) _).mono ?_; rintro e w' ⟨rfl, rfl⟩) | (go_at_call 32; refine (sub_c _ _ (by omega) (by omega) (by omega) (by omega) _).mono ?_; rintro e w' ⟨rfl, rfl⟩) | (go_at_call 48; refine (complement_c _ (by omega) (by omega) _).mono ?_; rintro e w' ⟨rfl, rfl⟩) | (go_at_call 50; refine (addl_c _ _ (by omega) (by omega) (by omega) (by omega) _).mono ?_; rintro e w' ⟨rfl, rfl⟩) | (go_at_call 33; refine (subl_c _ _ (by omega) (by omega) (by omega) (by omega) _).mono ?_; rintro e w' ⟨rfl, rfl⟩) | (go_at_call 19; refine (compare_c _ _ (by omega) (by omega) (by omega) (by omega) _).mono ?_; rintro e w' ⟨rfl, rfl⟩) | (go_at_call 21; refine (comparel_c _ _ (by omega) (by omega) (by omega) (by omega) _).mono ?_; rintro e w' ⟨rfl, rfl⟩) | (go_at_call 23; refine (test_c _ (by omega) (by omega) _).mono ?_; rintro e w' ⟨rfl, rfl⟩) | (go_at_call 25; refine (mul_c _ _ (by omega) (by omega) (by omega) (by omega) _).mono ?_; rintro e w' ⟨rfl, rfl⟩) | (go_at_call 27; refine (div_c _ _ _ (by omega) (by omega) (by omega) (by omega) (by omega) (by omega) _).mono ?_; rintro e w' ⟨rfl, rfl⟩) | (go_at_call 61; refine (shiftla_c _ _ (by omega) (by omega) (by omega) (by omega) _).mono ?_; rintro e w' ⟨rfl, rfl⟩) | (go_at_call 60; refine (shiftr_c _ _ (by omega) (by omega) (by omega) (by omega) _).mono ?_; rintro e w' ⟨rfl, rfl⟩) | (go_at_call 64; refine (shiftl_c _ _ _ (by omega) (by omega) (by omega) (by omega) _).mono ?_; rintro e w' ⟨rfl, rfl⟩) | (go_at_call 54; refine (shiftlad_c _ _ _ (by omega) (by omega) (by omega) (by omega) (by omega) (by omega) _).mono ?_; rintro e w' ⟨rfl, rfl⟩) | (go_at_call 56; refine (shiftrd_c _ _ _ (by omega) (by omega) (by omega) (by omega) (by omega) (by omega) _).mono ?_; rintro e w' ⟨rfl, rfl⟩) | (go_at_call 58; refine (shiftld_c _ _ _ _ (by omega) (by omega) (by omega) (by omega) (by omega) (by omega) _).mono ?_; rintro e w' ⟨rfl, rfl⟩) | (go_at_call 30; refine (signed_c _ (by omega) (by omega) _).mono ?_; rintro e w' ⟨rfl, rfl⟩) | (go_at_call 29; refine (long_c _ _ (by omega) (by omega) (by omega) (by omega) _).mono ?_; rintro e w' ⟨rfl, rfl⟩) | (go_at_call 53; refine (code_c _ _).mono ?_; rintro e w' ⟨rfl, rfl⟩) | (go_at_call 31; refine (size_c _ (by omega) (by omega) _).mono ?_; rintro e w' ⟨rfl, rfl⟩))
  go_ret
  exact ⟨rfl, hb⟩
end Go.Proofs.Ytmabamijogbbnaa
