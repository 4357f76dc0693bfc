/- THE WALK of IsaForms: it returns true and writes nothing that was there. No conditions but the number's own. -/
import Derived.Test.YtfbcjpbfggbhfaaIs7
import Derived.Test.YtfbcjpbfggbhfaaIsR1
namespace Go.Proofs.Ytfbcjpbfggbhfaa
open Go.RowKit
set_option linter.unusedVariables false
set_option linter.unusedSimpArgs false
set_option maxRecDepth 100000 in
set_option maxHeartbeats 4000000 in
theorem isaForms_walk (op : Int) (w : World) (ho : (Lit.int .i64 op).wf = true) : Calls Try.prog 3 #[.int .i64 op] w fun e w' => e = .returned (.bool true) ∧ Below w.heap.size w w' := by
  obtain ⟨o0, o1⟩ := bounds_i64 ho
  have FC := Lib.hid (form_c op)
  have RC := Lib.hid (rform_c op)
  have LC := Lib.hid (length_c op o0 o1)
  have RL := Lib.hid (rlength_c op)
  obtain ⟨f, hf⟩ : ∃ x, fmOf op = x := ⟨_, rfl⟩
  obtain ⟨b, hb⟩ : ∃ x, isOp op = x := ⟨_, rfl⟩
  obtain ⟨l, hl⟩ : ∃ x, lenOf op = x := ⟨_, rfl⟩
  rw [hf, hb] at FC RC
  rw [hl] at LC RL
  have e1 : (f == f) = true := by simp
  have e2 : (b == b) = true := by simp
  have e3 : (l == l) = true := by simp
  clear hf hb hl
  have WK := Lib.hid (fun W (h : Below w.heap.size w W) => (works_c W).mono (fun e w' h' => And.intro h'.1 (h.trans (h'.2.mono h.size))))
  go_enter Try.func3, Try.ntmps3
  go_wp2_with (first
    | (go_at_call 10; refine (FC.out _).mono ?_; rintro e w1 ⟨rfl, n1, rfl⟩)
    | (go_at_call 11; refine (RC.out _).mono ?_; rintro e w2 ⟨rfl, hb⟩; have HB := Lib.hid ((below_dn (Below.refl w.heap.size w) n1).trans (hb.mono (Nat.le_refl _))); clear hb)
    | (go_at_call 12; refine (LC.out _).mono ?_; rintro e w3 ⟨rfl, hw3⟩; subst hw3)
    | (go_at_call 13; refine (RL.out _).mono ?_; rintro e w3 ⟨rfl, hw3⟩; subst hw3)
    | (go_at_call 14; refine (WK.out _ HB.out).mono ?_; rintro e w4 ⟨rfl, HB3⟩))
  go_ret
  exact ⟨by simp, HB3⟩
end Go.Proofs.Ytfbcjpbfggbhfaa
