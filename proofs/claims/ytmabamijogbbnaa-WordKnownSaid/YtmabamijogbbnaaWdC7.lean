/- CONTRACTS of package word (layer 1) and of its reference jobshopref01, but for the fields. Each: whatever the words, the call returns what the plain function says; the world stays as it was. No conditions but the words' own ranges. -/
import Derived.Test.YtmabamijogbbnaaProg
import Derived.Test.YtmabamijogbbnaaWdC6
import Derived.Test.YtmabamijogbbnaaWd2
import Derived.Lib.Hide
import Derived.Outline
namespace Go.Proofs.Ytmabamijogbbnaa
open Go.RowKit
set_option linter.unusedVariables false

set_option maxHeartbeats 400000 in
theorem signed_c (a : Int) (ha : 0 ≤ a) (ha' : a ≤ 4294967295) (w : World) :
    Calls Try.prog 30 #[.int .u32 a] w fun e w' => e = .returned (.int .i64 (sg a)) ∧ w = w' := by
  have ea := wrap32_sg a ha ha'
  have la := sg_lo a ha
  have ua := sg_hi a ha'
  go_enter Try.func30, Try.ntmps30
  go_wp2
  go_ret
  exact ⟨rfl, rfl⟩

set_option maxHeartbeats 400000 in
theorem long_c (a b : Int) (ha : 0 ≤ a) (ha' : a ≤ 4294967295) (hb : 0 ≤ b) (hb' : b ≤ 4294967295) (w : World) :
    Calls Try.prog 29 #[.int .u32 a, .int .u32 b] w fun e w' => e = .returned (.int .i64 (sg64 (dbl a b))) ∧ w = w' := by
  have ho := or_dbl a b ha ha' hb hb'
  have x0 := dbl_lo a b ha hb
  have x1 := dbl_hi a b ha' hb'
  have ex := Lib.hid (wrap64_sg (dbl a b) x0 x1)
  go_enter Try.func29, Try.ntmps29
  go_wp2
  go_ret
  exact ⟨by rw [← ex.out]; rfl, rfl⟩

set_option maxHeartbeats 400000 in
theorem code_c (n : Int) (w : World) :
    Calls Try.prog 53 #[.int .i64 n] w fun e w' => e = .returned (.int .i64 (sgn n)) ∧ w = w' := by
  by_cases h0 : n = 0
  · subst h0
    go_enter Try.func53, Try.ntmps53
    go_wp2
    go_ret
    exact ⟨rfl, rfl⟩
  · have e0 : (n == 0) = false := by simpa using h0
    by_cases h1 : n < 0
    · have hs := Lib.hid (sgn_neg n h1)
      go_enter Try.func53, Try.ntmps53
      go_wp2
      go_ret
      exact ⟨by rw [hs.out]; rfl, rfl⟩
    · have hs := Lib.hid (sgn_pos n (by omega))
      go_enter Try.func53, Try.ntmps53
      go_wp2
      go_ret
      exact ⟨by rw [hs.out]; rfl, rfl⟩

set_option maxHeartbeats 400000 in
theorem size_c (n : Int) (hn : -9223372036854775808 ≤ n) (hn' : n ≤ 9223372036854775807) (w : World) :
    Calls Try.prog 31 #[.int .i64 n] w fun e w' => e = .returned (.int .u64 (absv n)) ∧ w = w' := by
  by_cases h1 : n < 0
  · have hs := Lib.hid (show absv n = (-(n + 18446744073709551616)) % 18446744073709551616 from by unfold absv; rw [if_pos h1]; omega)
    have eu : IntKind.u64.wrap n = n + 18446744073709551616 := by rw [IntKind.wrap_u64]; omega
    have ev := IntKind.wrap_u64 (-(n + 18446744073709551616))
    go_enter Try.func31, Try.ntmps31
    go_wp2
    go_ret
    exact ⟨by rw [hs.out]; simp; done, rfl⟩
  · have hs := Lib.hid (show absv n = n from by unfold absv; rw [if_neg h1])
    go_enter Try.func31, Try.ntmps31
    go_wp2
    go_ret
    exact ⟨by rw [hs.out]; rfl, rfl⟩

end Go.Proofs.Ytmabamijogbbnaa
