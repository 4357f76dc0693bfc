/- StorePlays: the walk. No conditions but that the arguments read as calls. -/
import Derived.Test.YtcollddpfahaaaaSt16
import Derived.Lib.Hide
import Derived.Outline
import Derived.Handy
import Derived.BigQuiet
import Derived.Deep.QuietTactic
namespace Go.Proofs.Ytcollddpfahaaaa
open Go.RowKit
set_option linter.unusedVariables false
set_option linter.unusedSimpArgs false

set_option maxHeartbeats 2000000 in
theorem storePlays_walk (n : Int) (A : Option Addr) (len cap : Nat) (w : World) (hn : (Lit.int .u8 n).wf = true) (hl : IsOps w A len cap) : Calls Try.prog 3 #[.int .u8 n, .slice A len cap] w fun e w' => e = .returned (.bool true) ∧ Below w.heap.size w w' := by
  obtain ⟨n0, n1⟩ := bounds_u8 hn
  have L0 := hl.len
  have HL := Lib.hid hl
  clear hl hn
  go_enter Try.func3, Try.ntmps3
  go_wp2_with fail
  refine (make_c n n0 n1 _).mono ?_
  rintro e w1 ⟨F, rfl, hs, hb, q1, q2, q3⟩
  have HS := Lib.hid hs
  have HB := Lib.hid hb
  clear hs hb
  go_wp2_with fail
  refine (lsize_c n n0 n1 _).mono ?_
  rintro e w2 ⟨rfl, rfl⟩
  go_wp2_with fail
  refine (rnew_yes (sBlk n) (sBlk_lo n) (by have := sBlk_hi n; omega) _).mono ?_
  rintro e w2 ⟨v, rfl, F', rfl, hs, hb, q4, q5, q6⟩
  have TW := Lib.hid (tw_new HS.out HB.out ⟨q1, q2, q3⟩ hs hb ⟨q4, q5, q6⟩ (R := fun _ => True) trivial (fun _ _ _ _ _ _ => trivial))
  clear HS HB hs hb q1 q2 q3 q4 q5 q6
  go_wp2_with fail
  go_loopw [7] (fun x wr => ∃ k : Nat, k ≤ len ∧ k ≤ 60 ∧ x = .int .i64 k ∧ ∃ bs ks, Tw (fun _ => True) w wr F F' bs ks bs ks) (fun x _ => 60 - (intOf x).toNat)
  case atStart => exact ⟨0, by omega, by omega, rfl, _, _, TW.out⟩
  case round =>
    obtain ⟨k, k0, k1, rfl, bs, ks, tw⟩ := hrel
    have T1 := Lib.hid tw
    clear tw TW
    by_cases hk : k < len ∧ k < 60
    · obtain ⟨b, off, rfl, kind, addr, m, key, B, bl, bc, ys, c0, c1, c2, c3, c4, hy, h1, h2, h3⟩ := HL.out.at_ hk.1
      replace c0 := tw_cell T1.out c0
      replace c1 := tw_cell T1.out c1
      replace c2 := tw_cell T1.out c2
      replace c3 := tw_cell T1.out c3
      replace c4 := tw_cell T1.out c4
      have e1 : ((k : Int) < (len : Int)) := by omega
      have e2 : ((k : Int) < 60) := by omega
      go_wp2_with fail
      refine (one_c w wr T1.out kind addr m key B bl bc ys hy h1 h2 h3).mono ?_
      rintro e w3 ⟨rfl, bs', ks', tw⟩
      have T2 := Lib.hid tw
      clear tw c0 c1 c2 c3 c4 T1
      go_wp2_with fail
      exact ⟨⟨k + 1, by omega, by omega, rfl, _, _, T2.out⟩, by simp [intOf]; omega⟩
    · have e1 : ¬ ((k : Int) < (len : Int) ∧ (k : Int) < 60) := by omega
      by_cases e2 : (k : Int) < (len : Int)
      · have e3 : ¬ ((k : Int) < 60) := by omega
        clear e1 hk
        go_wp2_with fail
        refine (alike_c _ T1.out.p T1.out.r).mono ?_
        rintro e w3 ⟨rfl, hb⟩
        have B3 := Lib.hid (T1.out.bl.trans (hb.mono T1.out.bl.size))
        clear hb
        go_wp2_with fail
        refine (works_c _).mono ?_
        rintro e w4 ⟨rfl, hb⟩
        have B4 := Lib.hid (B3.out.trans (hb.mono B3.out.size))
        clear hb
        go_wp2_with fail
        go_ret
        exact ⟨rfl, B4.out⟩
      · clear e1 hk
        go_wp2_with fail
        refine (alike_c _ T1.out.p T1.out.r).mono ?_
        rintro e w3 ⟨rfl, hb⟩
        have B3 := Lib.hid (T1.out.bl.trans (hb.mono T1.out.bl.size))
        clear hb
        go_wp2_with fail
        refine (works_c _).mono ?_
        rintro e w4 ⟨rfl, hb⟩
        have B4 := Lib.hid (B3.out.trans (hb.mono B3.out.size))
        clear hb
        go_wp2_with fail
        go_ret
        exact ⟨rfl, B4.out⟩
end Go.Proofs.Ytcollddpfahaaaa
