/- CONTRACTS of the reference's Half, Full, put, PutHalf, PutFull. Conditions: the slices read as bytes; lengths within the form's reach. -/
import Derived.Test.YtmabamijogbbnaaWdH
namespace Go.Proofs.Ytmabamijogbbnaa
open Go.RowKit
set_option linter.unusedVariables false

set_option maxHeartbeats 400000 in
theorem rhalf_no (A : Option Addr) (len cap : Nat) (at_ : Int) (w : World) (hl : (len : Int) ≤ 9223372036854775807) (ha : -9223372036854775808 ≤ at_) (ha' : at_ ≤ 9223372036854775807) (hf : fitB len at_ 2 = false) :
    Calls Try.prog 36 #[.slice A len cap, .int .i64 at_] w fun e w' => e = .returned (.tuple #[.int .u32 0, .bool false]) ∧ w = w' := by
  have HF := Lib.hid hf
  clear hf
  go_enter Try.func36, Try.ntmps36
  go_wp2_with (go_at_call 75; refine (rfield_no _ _ _ _ _ _ hl ha ha' (by omega) (by omega) HF.out).mono ?_; rintro e w' ⟨rfl, rfl⟩)
  go_ret2
  exact ⟨rfl, rfl⟩

set_option maxHeartbeats 400000 in
theorem rhalf_yes (A : Option Addr) (len cap k : Nat) (zs : List Int) (w : World) (hl : (len : Int) ≤ 9223372036854775807) (hb : Byt w A len zs) (hk : (k : Int) + 2 ≤ (len : Int)) :
    Calls Try.prog 36 #[.slice A len cap, .int .i64 k] w fun e w' => e = .returned (.tuple #[.int .u32 (hfv (zs.getD k 0) (zs.getD (k + 1) 0)), .bool true]) ∧ w = w' := by
  have HB := Lib.hid hb
  have hr1 := hb.range k
  have hr2 := hb.range (k + 1)
  have h2 := hrn_two zs k
  clear hb
  obtain ⟨x, hx⟩ : ∃ x, zs.getD k 0 = x := ⟨_, rfl⟩
  obtain ⟨y, hy⟩ : ∃ y, zs.getD (k + 1) 0 = y := ⟨_, rfl⟩
  rw [hx] at hr1 h2
  rw [hy] at hr2 h2
  rw [hx, hy]
  have H2 := Lib.hid h2
  clear hx hy h2
  have x0 := hr1.1
  have x1 := hr1.2
  have y0 := hr2.1
  have y1 := hr2.2
  clear hr1 hr2
  by_cases hlt : x * 256 + y < 32768
  · have hs := Lib.hid (show hfv x y = x * 256 + y from by unfold hfv sx16 lo32; rw [if_pos hlt]; omega)
    go_enter Try.func36, Try.ntmps36
    go_wp2_with (go_at_call 75; refine (rfield_yes _ _ _ k 2 zs _ hl HB.out (by omega) (by omega) (by omega)).mono ?_; rintro e w' ⟨rfl, rfl⟩; rw [show (2 : Int).toNat = 2 from rfl, H2.out])
    go_ret2
    exact ⟨by rw [hs.out]; rfl, rfl⟩
  · have hs := Lib.hid (show hfv x y = x * 256 + y + 4294901760 from by unfold hfv sx16 lo32; rw [if_neg hlt]; omega)
    go_enter Try.func36, Try.ntmps36
    go_wp2_with (go_at_call 75; refine (rfield_yes _ _ _ k 2 zs _ hl HB.out (by omega) (by omega) (by omega)).mono ?_; rintro e w' ⟨rfl, rfl⟩; rw [show (2 : Int).toNat = 2 from rfl, H2.out])
    go_ret2
    exact ⟨by rw [hs.out]; rfl, rfl⟩

set_option maxHeartbeats 400000 in
theorem rfull_no (A : Option Addr) (len cap : Nat) (at_ : Int) (w : World) (hl : (len : Int) ≤ 9223372036854775807) (ha : -9223372036854775808 ≤ at_) (ha' : at_ ≤ 9223372036854775807) (hf : fitB len at_ 4 = false) :
    Calls Try.prog 38 #[.slice A len cap, .int .i64 at_] w fun e w' => e = .returned (.tuple #[.int .u32 0, .bool false]) ∧ w = w' := by
  have HF := Lib.hid hf
  clear hf
  go_enter Try.func38, Try.ntmps38
  go_wp2_with (go_at_call 75; refine (rfield_no _ _ _ _ _ _ hl ha ha' (by omega) (by omega) HF.out).mono ?_; rintro e w' ⟨rfl, rfl⟩)
  go_ret2
  exact ⟨rfl, rfl⟩

set_option maxHeartbeats 400000 in
theorem rfull_yes (A : Option Addr) (len cap k : Nat) (zs : List Int) (w : World) (hl : (len : Int) ≤ 9223372036854775807) (hb : Byt w A len zs) (hk : (k : Int) + 4 ≤ (len : Int)) :
    Calls Try.prog 38 #[.slice A len cap, .int .i64 k] w fun e w' => e = .returned (.tuple #[.int .u32 (flv (zs.getD k 0) (zs.getD (k + 1) 0) (zs.getD (k + 2) 0) (zs.getD (k + 3) 0)), .bool true]) ∧ w = w' := by
  have HB := Lib.hid hb
  have H2 := Lib.hid (hrn_four zs k)
  clear hb
  generalize flv (zs.getD k 0) (zs.getD (k + 1) 0) (zs.getD (k + 2) 0) (zs.getD (k + 3) 0) = V at *
  go_enter Try.func38, Try.ntmps38
  go_wp2_with (go_at_call 75; refine (rfield_yes _ _ _ k 4 zs _ hl HB.out (by omega) (by omega) (by omega)).mono ?_; rintro e w' ⟨rfl, rfl⟩; rw [show (4 : Int).toNat = 4 from rfl, H2.out])
  go_ret2
  exact ⟨rfl, rfl⟩
end Go.Proofs.Ytmabamijogbbnaa
