/- CONTRACT of the reference's address. The numbers in their ranges. -/
import Derived.Test.YtfbcjpbfggbhfaaIsA
import Derived.Deep.Cut
namespace Go.Proofs.Ytfbcjpbfggbhfaa
open Go.RowKit
set_option linter.unusedVariables false
set_option linter.unusedSimpArgs false
set_option maxRecDepth 1000000 in
set_option maxHeartbeats 4000000 in
theorem addr_c (b d : Int) (w : World) (h0 : 0 ≤ b) (h1 : b ≤ 15) (h2 : 0 ≤ d) (h3 : d ≤ 4095) : Calls Try.prog 34 #[.int .i64 b, .int .i64 d] w fun e w' => e = .returned (.slice (some ⟨w.heap.size, 0, none⟩) 2 2) ∧ w' = w.alloc (.cells #[.int .u8 (16 * b + d / 256), .int .u8 (d % 256)] 5) := by
  have g1 : IntKind.i64.wrap (16 * b) = 16 * b := wrap_i64_id (by omega) (by omega)
  have g2 : IntKind.i64.wrap (16 * b + d / 256) = 16 * b + d / 256 := wrap_i64_id (by omega) (by omega)
  go_enter Try.func34, Try.ntmps34
  go_wp2
  go_ret
  exact ⟨rfl, rfl⟩
end Go.Proofs.Ytfbcjpbfggbhfaa
