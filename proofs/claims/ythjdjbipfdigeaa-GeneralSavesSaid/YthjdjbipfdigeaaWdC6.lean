/- CONTRACTS of the fields of package word: fits, Half; and 'works', which the statements call: it returns true. No conditions. -/
import Derived.Test.YthjdjbipfdigeaaProg
import Derived.Test.YthjdjbipfdigeaaWdC2
import Derived.Lib.Hide
import Derived.Outline
import Derived.Test.YthjdjbipfdigeaaWdF
import Derived.Deep.QuietTactic
import Derived.BigQuiet
namespace Go.Proofs.Ythjdjbipfdigeaa
open Go.RowKit
set_option linter.unusedVariables false

set_option maxHeartbeats 400000 in
theorem fits_c (A : Option Addr) (len cap : Nat) (at_ n : Int) (w : World) (hl : (len : Int) ≤ 9223372036854775807) (ha : -9223372036854775808 ≤ at_) (ha' : at_ ≤ 9223372036854775807) (hn : 0 ≤ n) (hn' : n ≤ 100) :
    Calls Try.prog 101 #[.slice A len cap, .int .i64 at_, .int .i64 n] w fun e w' => e = .returned (.bool (fitB len at_ n)) ∧ w = w' := by
  by_cases h0 : 0 ≤ at_
  · have hs := Lib.hid (show fitB len at_ n = decide (at_ ≤ (len : Int) - n) from by unfold fitB; simp [h0])
    go_enter Try.func101, Try.ntmps101
    go_wp2
    go_ret
    exact ⟨by rw [hs.out]; rfl, rfl⟩
  · have hs := Lib.hid (show fitB len at_ n = false from by unfold fitB; simp [h0])
    have hd : decide (0 ≤ at_) = false := by simp [h0]
    have h0' : at_ < 0 := by omega
    go_enter Try.func101, Try.ntmps101
    go_wp2
    go_ret
    exact ⟨by rw [hs.out]; rfl, rfl⟩

set_option maxHeartbeats 400000 in
theorem half_no (A : Option Addr) (len cap : Nat) (at_ : Int) (w : World) (hl : (len : Int) ≤ 9223372036854775807) (ha : -9223372036854775808 ≤ at_) (ha' : at_ ≤ 9223372036854775807) (hf : fitB len at_ 2 = false) :
    Calls Try.prog 103 #[.slice A len cap, .int .i64 at_] w fun e w' => e = .returned (.tuple #[.int .u32 0, .bool false]) ∧ ∃ n, w' = w.drewN n := by
  go_enter Try.func103, Try.ntmps103
  go_wp2_with (go_at_call 101; refine (fits_c _ _ _ _ _ _ hl ha ha' (by omega) (by omega)).mono ?_; rintro e w' ⟨rfl, rfl⟩)
  go_ret2
  exact ⟨rfl, 0, rfl⟩

set_option maxHeartbeats 400000 in
theorem half_yes (b off len cap k : Nat) (x y : Int) (w : World) (hl : (len : Int) ≤ 9223372036854775807) (hk : (k : Int) + 2 ≤ (len : Int))
    (hc0 : w.cell? ⟨b, off + k, none⟩ = some (.int .u8 x)) (hc1 : w.cell? ⟨b, off + (k + 1), none⟩ = some (.int .u8 y)) (hx : 0 ≤ x) (hx' : x ≤ 255) (hy : 0 ≤ y) (hy' : y ≤ 255) :
    Calls Try.prog 103 #[.slice (some ⟨b, off, none⟩) len cap, .int .i64 k] w fun e w' => e = .returned (.tuple #[.int .u32 (hfv x y), .bool true]) ∧ ∃ n, w' = w.drewN n := by
  have hf : fitB len k 2 = true := by unfold fitB; simp; omega
  have eo := or_half x y hx hx' hy hy'
  have s0 := sx16_lo (x * 256 + y) (by omega)
  have s1 := sx16_hi (x * 256 + y) (by omega)
  have k1 : (k : Int) < (len : Int) := by omega
  have k2 : (k : Int) + 1 < (len : Int) := by omega
  have hl' := lo32_is (sx16 (x * 256 + y))
  go_enter Try.func103, Try.ntmps103
  go_wp2_with (go_at_call 101; refine (fits_c _ _ _ _ _ _ hl (by omega) (by omega) (by omega) (by omega)).mono ?_; rintro e w' ⟨rfl, rfl⟩)
  go_quiet (fail)
  go_wp2
  go_ret2
  exact ⟨rfl, _, rfl⟩

theorem drewN_below {B : Nat} {a w : World} (h : Below B a w) (n : Nat) : Below B a (w.drewN n) := ⟨h.os, h.tape, h.output, h.size, h.block⟩

end Go.Proofs.Ythjdjbipfdigeaa
