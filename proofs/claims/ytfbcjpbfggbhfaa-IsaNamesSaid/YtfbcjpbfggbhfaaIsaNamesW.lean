/- THE WALK of IsaNames: it returns true and writes nothing that was there. No conditions but the number's and the string's own. -/
import Derived.Test.YtfbcjpbfggbhfaaIs7
import Derived.Test.YtfbcjpbfggbhfaaIsM3
namespace Go.Proofs.Ytfbcjpbfggbhfaa
open Go.RowKit
set_option linter.unusedVariables false
set_option linter.unusedSimpArgs false
set_option maxRecDepth 100000 in
set_option maxHeartbeats 4000000 in
theorem isaNames_walk (op : Int) (s : ByteArray) (w : World) (ho : (Lit.int .i64 op).wf = true) (hs : s.size ≤ maxLen) : Calls Try.prog 9 #[.int .i64 op, .string s] w fun e w' => e = .returned (.bool true) ∧ Below w.heap.size w w' := by
  have hm : (maxLen : Int) ≤ 9223372036854775807 := by decide
  have MC := Lib.hid (fun W => mask_c s W (by omega))
  clear hm
  have RM := Lib.hid (rmask_c s)
  have FC := Lib.hid (find_c s)
  have RF := Lib.hid (rfind_c s)
  have NC := Lib.hid (name_c op)
  have RN := Lib.hid (rname_c op)
  have PC := Lib.hid (priv_c op)
  have RP := Lib.hid (rpriv_c op)
  clear hs
  obtain ⟨a, ha⟩ : ∃ x, maskV s = x := ⟨_, rfl⟩
  obtain ⟨b, hb⟩ : ∃ x, maskR s = x := ⟨_, rfl⟩
  obtain ⟨c, hc⟩ : ∃ x, maskO s = x := ⟨_, rfl⟩
  obtain ⟨o, ho⟩ : ∃ x, fnOp s = x := ⟨_, rfl⟩
  obtain ⟨d, hd⟩ : ∃ x, fnOk s = x := ⟨_, rfl⟩
  obtain ⟨t, ht⟩ : ∃ x, strN (nmOf op) = x := ⟨_, rfl⟩
  obtain ⟨p, hp⟩ : ∃ x, privB op = x := ⟨_, rfl⟩
  rw [ha, hb, hc] at MC RM
  rw [ho, hd] at FC RF
  rw [ht] at NC RN
  rw [hp] at PC RP
  clear ha hb hc ho hd ht hp
  have e1 : (a == a) = true := by simp
  have e2 : (b == b) = true := by simp
  have e3 : (c == c) = true := by simp
  have e4 : (o == o) = true := by simp
  have e5 : (d == d) = true := by simp
  have e6 : (t.toList == t.toList) = true := by simp
  have e7 : (p == p) = true := by simp
  have WK := Lib.hid (fun W (h : Below w.heap.size w W) => (works_c W).mono (fun e w' h' => And.intro h'.1 (h.trans (h'.2.mono h.size))))
  go_enter Try.func9, Try.ntmps9
  go_wp2_with (first
    | (go_at_call 23; refine (FC.out _).mono ?_; rintro e w1 ⟨rfl, n1, rfl⟩)
    | (go_at_call 25; refine (RF.out _).mono ?_; rintro e w2 ⟨rfl, hb⟩; have HB1 := Lib.hid ((below_dn (Below.refl w.heap.size w) n1).trans (hb.mono (Nat.le_refl _))); clear hb)
    | (go_at_call 26; refine (MC.out _).mono ?_; rintro e w3 ⟨rfl, hw3⟩; subst hw3)
    | (go_at_call 27; refine (RM.out _).mono ?_; rintro e w4 ⟨rfl, hb⟩; have HB2 := Lib.hid (HB1.out.trans (hb.mono HB1.out.size)); clear hb)
    | (go_at_call 24; refine (NC.out _).mono ?_; rintro e w5 ⟨rfl, n5, rfl⟩)
    | (go_at_call 28; refine (RN.out _).mono ?_; rintro e w6 ⟨rfl, hb⟩; have HB3 := Lib.hid ((below_dn HB2.out n5).trans (hb.mono (below_dn HB2.out n5).size)); clear hb)
    | (go_at_call 29; refine (PC.out _).mono ?_; rintro e w7 ⟨rfl, hw7⟩; subst hw7)
    | (go_at_call 30; refine (RP.out _).mono ?_; rintro e w8 ⟨rfl, hw8⟩; subst hw8)
    | (go_at_call 14; refine (WK.out _ HB3.out).mono ?_; rintro e w9 ⟨rfl, HB4⟩))
  go_ret
  exact ⟨by simp, HB4⟩
end Go.Proofs.Ytfbcjpbfggbhfaa
