/- THE WALK of GeneralKnows: it returns true and writes nothing that was there. No conditions. -/
import Derived.Test.YthjdjbipfdigeaaGe10
namespace Go.Proofs.Ythjdjbipfdigeaa
open Go.RowKit
set_option maxRecDepth 100000
set_option linter.unusedVariables false
set_option linter.unusedSimpArgs false
set_option maxRecDepth 1000000 in
set_option maxHeartbeats 4000000 in
theorem generalKnows_walk (op : Int) (w : World) (ho : (Lit.int .i64 op).wf = true) : Calls Try.prog 3 #[.int .i64 op] w fun e w' => e = .returned (.bool true) ∧ Below w.heap.size w w' := by
  have KC := Lib.hid (knows_c op)
  have RC := Lib.hid (rknows_c op)
  obtain ⟨b, hb⟩ : ∃ x, kn op = x := ⟨_, rfl⟩
  rw [hb] at KC RC
  have e2 : (b == b) = true := by simp
  clear hb
  have WK := Lib.hid (fun W (h : Below w.heap.size w W) => (works_c W).mono (fun e w' h' => And.intro h'.1 (h.trans (h'.2.mono h.size))))
  go_enter Try.func3, Try.ntmps3
  go_wp2_with (first
    | (go_at_call 11; refine (KC.out _).mono ?_; rintro e w1 ⟨rfl, n1, rfl⟩)
    | (go_at_call 12; refine (RC.out _).mono ?_; rintro e w2 ⟨rfl, hb⟩; have HB := Lib.hid ((dBelow' (Below.refl w.heap.size w) n1).trans (hb.mono (Nat.le_refl _))); clear hb)
    | (go_at_call 13; refine (WK.out _ HB.out).mono ?_; rintro e w4 ⟨rfl, HB3⟩))
  go_ret
  exact ⟨by simp, HB3⟩
end Go.Proofs.Ythjdjbipfdigeaa
