/- CONTRACTS of package jobshoplaw07: StoreNew. No conditions but that the storage reads as one. -/
import Derived.Test.YtcollddpfahaaaaSt13
import Derived.Test.YtcollddpfahaaaaRow
import Derived.Lib.Hide
import Derived.Outline
import Derived.Handy
import Derived.BigQuiet
import Derived.Deep.QuietTactic
namespace Go.Proofs.Ytcollddpfahaaaa
open Go.RowKit
set_option linter.unusedVariables false
set_option linter.unusedSimpArgs false

set_option maxHeartbeats 1000000 in
theorem storeNew_walk (size n : Int) (w : World) (h1 : (Lit.int .i64 size).wf = true) (h2 : (Lit.int .u8 n).wf = true) : Calls Try.prog 4 #[.int .i64 size, .int .u8 n] w fun e w' => e = .returned (.bool true) ∧ Below w.heap.size w w' := by
  go_enter Try.func4, Try.ntmps4
  go_wp2
  obtain ⟨m1, hm1⟩ : ∃ m, wrap64 (wrap64 n * 1024) = m := ⟨_, rfl⟩
  obtain ⟨m2, hm2⟩ : ∃ m, wrap64 (wrap64 ((wrap64 ((IntKind.u64.wrap size).tmod 100000)).tdiv 2048) * 2048) = m := ⟨_, rfl⟩
  rw [hm1, hm2]
  clear hm1 hm2
  have i0 : ∀ W, (Instr.index 36 (.agg #[.int .i64 size, .int .i64 m1, .int .i64 m2]) (.int .i64 0)).run Try.prog W = .ok (.int .i64 size) W := fun _ => by kernel_rfl
  have i1 : ∀ W, (Instr.index 36 (.agg #[.int .i64 size, .int .i64 m1, .int .i64 m2]) (.int .i64 1)).run Try.prog W = .ok (.int .i64 m1) W := fun _ => by kernel_rfl
  have i2 : ∀ W, (Instr.index 36 (.agg #[.int .i64 size, .int .i64 m1, .int .i64 m2]) (.int .i64 2)).run Try.prog W = .ok (.int .i64 m2) W := fun _ => by kernel_rfl
  go_loopw [21] (fun x wr => ∃ k : Nat, k ≤ 3 ∧ x = .int .i64 k ∧ Below w.heap.size w wr) (fun x _ => 3 - (intOf x).toNat)
  case atStart => exact ⟨0, by omega, rfl, Below.refl _ _⟩
  case round =>
    obtain ⟨k, k0, rfl, hb⟩ := hrel
    have HB := Lib.hid hb
    clear hb
    rcases (show k = 0 ∨ k = 1 ∨ k = 2 ∨ k = 3 by omega) with rfl | rfl | rfl | rfl
    · cases hn : nOk size
      · go_wp2_with (first | (go_at_call 16; refine (new_no _ _ hn).mono ?_; rintro e w1 ⟨rfl, rfl⟩) | (go_at_call 11; refine (rnew_no _ _ hn).mono ?_; rintro e w1 ⟨rfl, rfl⟩))
        exact ⟨⟨0 + 1, by omega, rfl, HB.out⟩, by decide⟩
      · obtain ⟨y0, y1, y2⟩ := nOk_yes hn
        obtain ⟨q, hq⟩ : ∃ q : Nat, size = ((2048 * q : Nat) : Int) := ⟨(size / 2048).toNat, by omega⟩
        have q0 : 1 ≤ q := by omega
        have q1 : q ≤ 32 := by omega
        have nw := new_yes q q0 q1
        have rw' := rnew_yes q q0 q1
        rw [← hq] at nw rw'
        have NW := Lib.hid nw
        have RW := Lib.hid rw'
        clear y0 y1 y2 hn nw rw' hq
        go_wp2_with fail
        refine (NW.out _).mono ?_
        rintro e w1 ⟨v, rfl, F, rfl, hs, hb, p1, p2, p3⟩
        have S1 := Lib.hid hs
        have B1 := Lib.hid (HB.out.trans (hb.mono HB.out.size))
        clear hs hb
        go_wp2_with fail
        refine (RW.out _).mono ?_
        rintro e w2 ⟨v, rfl, F', rfl, hs, hb, p1', p2', p3'⟩
        have S2 := Lib.hid (S1.out.belowS hb)
        have S3 := Lib.hid hs
        have B2 := Lib.hid (B1.out.trans (hb.mono B1.out.size))
        clear hs hb
        go_wp2_with fail
        refine (alike_c _ S2.out S3.out).mono ?_
        rintro e w3 ⟨rfl, hb⟩
        have B3 := Lib.hid (B2.out.trans (hb.mono B2.out.size))
        clear hb
        go_wp2_with fail
        exact ⟨⟨0 + 1, by omega, rfl, B3.out⟩, by decide⟩
    · cases hn : nOk m1
      · go_wp2_with (first | (go_at_call 16; refine (new_no _ _ hn).mono ?_; rintro e w1 ⟨rfl, rfl⟩) | (go_at_call 11; refine (rnew_no _ _ hn).mono ?_; rintro e w1 ⟨rfl, rfl⟩))
        exact ⟨⟨1 + 1, by omega, rfl, HB.out⟩, by decide⟩
      · obtain ⟨y0, y1, y2⟩ := nOk_yes hn
        obtain ⟨q, hq⟩ : ∃ q : Nat, m1 = ((2048 * q : Nat) : Int) := ⟨(m1 / 2048).toNat, by omega⟩
        have q0 : 1 ≤ q := by omega
        have q1 : q ≤ 32 := by omega
        have nw := new_yes q q0 q1
        have rw' := rnew_yes q q0 q1
        rw [← hq] at nw rw'
        have NW := Lib.hid nw
        have RW := Lib.hid rw'
        clear y0 y1 y2 hn nw rw' hq
        go_wp2_with fail
        refine (NW.out _).mono ?_
        rintro e w1 ⟨v, rfl, F, rfl, hs, hb, p1, p2, p3⟩
        have S1 := Lib.hid hs
        have B1 := Lib.hid (HB.out.trans (hb.mono HB.out.size))
        clear hs hb
        go_wp2_with fail
        refine (RW.out _).mono ?_
        rintro e w2 ⟨v, rfl, F', rfl, hs, hb, p1', p2', p3'⟩
        have S2 := Lib.hid (S1.out.belowS hb)
        have S3 := Lib.hid hs
        have B2 := Lib.hid (B1.out.trans (hb.mono B1.out.size))
        clear hs hb
        go_wp2_with fail
        refine (alike_c _ S2.out S3.out).mono ?_
        rintro e w3 ⟨rfl, hb⟩
        have B3 := Lib.hid (B2.out.trans (hb.mono B2.out.size))
        clear hb
        go_wp2_with fail
        exact ⟨⟨1 + 1, by omega, rfl, B3.out⟩, by decide⟩
    · cases hn : nOk m2
      · go_wp2_with (first | (go_at_call 16; refine (new_no _ _ hn).mono ?_; rintro e w1 ⟨rfl, rfl⟩) | (go_at_call 11; refine (rnew_no _ _ hn).mono ?_; rintro e w1 ⟨rfl, rfl⟩))
        exact ⟨⟨2 + 1, by omega, rfl, HB.out⟩, by decide⟩
      · obtain ⟨y0, y1, y2⟩ := nOk_yes hn
        obtain ⟨q, hq⟩ : ∃ q : Nat, m2 = ((2048 * q : Nat) : Int) := ⟨(m2 / 2048).toNat, by omega⟩
        have q0 : 1 ≤ q := by omega
        have q1 : q ≤ 32 := by omega
        have nw := new_yes q q0 q1
        have rw' := rnew_yes q q0 q1
        rw [← hq] at nw rw'
        have NW := Lib.hid nw
        have RW := Lib.hid rw'
        clear y0 y1 y2 hn nw rw' hq
        go_wp2_with fail
        refine (NW.out _).mono ?_
        rintro e w1 ⟨v, rfl, F, rfl, hs, hb, p1, p2, p3⟩
        have S1 := Lib.hid hs
        have B1 := Lib.hid (HB.out.trans (hb.mono HB.out.size))
        clear hs hb
        go_wp2_with fail
        refine (RW.out _).mono ?_
        rintro e w2 ⟨v, rfl, F', rfl, hs, hb, p1', p2', p3'⟩
        have S2 := Lib.hid (S1.out.belowS hb)
        have S3 := Lib.hid hs
        have B2 := Lib.hid (B1.out.trans (hb.mono B1.out.size))
        clear hs hb
        go_wp2_with fail
        refine (alike_c _ S2.out S3.out).mono ?_
        rintro e w3 ⟨rfl, hb⟩
        have B3 := Lib.hid (B2.out.trans (hb.mono B2.out.size))
        clear hb
        go_wp2_with fail
        exact ⟨⟨2 + 1, by omega, rfl, B3.out⟩, by decide⟩
    · go_wp2_with (first | (go_at_call 15; refine (works_c _).mono ?_; rintro e w9 ⟨rfl, h9⟩; have HW := Lib.hid (HB.out.trans (h9.mono HB.out.size)); clear h9))
      go_ret
      exact ⟨rfl, HW.out⟩

end Go.Proofs.Ytcollddpfahaaaa
