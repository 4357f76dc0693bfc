/- CONTRACTS of package psw and its reference: Decode. No conditions but the numbers' ranges. -/
import Derived.Test.YtfjnmlklpebfcaaPwF
import Derived.Test.YtfjnmlklpebfcaaPw2
import Derived.Test.YtfjnmlklpebfcaaWdF
import Derived.Test.YtfjnmlklpebfcaaBo
import Derived.Test.YtfjnmlklpebfcaaQt
import Derived.Test.YtfjnmlklpebfcaaSm
import Derived.Handy
import Derived.StillTailTactics
import Derived.BigQuiet
import Derived.Deep.QuietTactic
namespace Go.Proofs.Ytfjnmlklpebfcaa
open Go.RowKit
set_option linter.unusedVariables false
set_option linter.unusedSimpArgs false

theorem cell_ltB {w : World} {b o : Nat} {v : Value} (h : w.cell? ⟨b, o, none⟩ = some v) : b < w.heap.size := by
  rcases Nat.lt_or_ge b w.heap.size with h2 | h2
  · exact h2
  · unfold World.cell? at h; simp only [Array.getElem?_eq_none h2] at h; cases h

set_option maxHeartbeats 2000000 in
theorem decode_c_no (A : Option Addr) (len cap : Nat) (zs : List Int) (w : World) (hb : Byt w A len zs) (hl : (len : Int) ≤ 9223372036854775807) (hp : pdok len zs = false) : Calls Try.prog 18 #[.slice A len cap] w fun e w' => e = .returned (.tuple #[.agg #[.int .i64 0, .int .i64 0, .bool false, .bool false, .bool false, .int .i64 0, .int .i64 0, .int .i64 0, .int .i64 0, .int .i64 0], .bool false]) ∧ Below w.heap.size w w' := by
  unfold pdok at hp
  have hp' := of_decide_eq_false hp
  clear hp
  by_cases h8 : len = 8
  · subst h8
    obtain ⟨b, off, rfl, hc⟩ := hb.at_ (by omega)
    have c1 := hc 1 (by omega)
    have hlt := cell_ltB c1
    clear hc
    have r1 := hb.range 1
    have hx : zs.getD 1 0 / 8 % 2 ≠ 0 := fun h => hp' ⟨rfl, h⟩
    clear hp' hb
    obtain ⟨x1, e1⟩ : ∃ x, zs.getD 1 0 = x := ⟨_, rfl⟩
    rw [e1] at c1 r1 hx
    clear e1
    obtain ⟨r0, r1⟩ := r1
    have t0 : (bits .and .u8 x1 8 != 0) = true := by rw [u8_bit 3 8 x1 rfl (by omega) r0 r1, decide_eq_true_iff]; omega
    clear hx
    go_enter Try.func18, Try.ntmps18
    go_wp2
    skip
    go_returns
    exact ⟨rfl, (Below.refl w.heap.size w).alloc (Nat.le_refl _) _⟩
  · have t0 : ((len : Int) != 8) = true := by rw [bne_iff_ne]; omega
    clear hp' hb h8
    go_enter Try.func18, Try.ntmps18
    go_wp2
    skip
    go_returns
    exact ⟨rfl, (Below.refl w.heap.size w).alloc (Nat.le_refl _) _⟩
set_option maxHeartbeats 2000000 in
theorem decode_c_yes (A : Option Addr) (len cap : Nat) (zs : List Int) (w : World) (hb : Byt w A len zs) (hl : (len : Int) ≤ 9223372036854775807) (hp : pdok len zs = true) : Calls Try.prog 18 #[.slice A len cap] w fun e w' => e = .returned (.tuple #[.agg #[.int .i64 (zs.getD 0 0), .int .i64 (zs.getD 1 0 / 16), .bool (decide (zs.getD 1 0 / 4 % 2 = 1)), .bool (decide (zs.getD 1 0 / 2 % 2 = 1)), .bool (decide (zs.getD 1 0 % 2 = 1)), .int .i64 (256 * zs.getD 2 0 + zs.getD 3 0), .int .i64 (zs.getD 4 0 / 64), .int .i64 (zs.getD 4 0 / 16 % 4), .int .i64 (zs.getD 4 0 % 16), .int .i64 (65536 * zs.getD 5 0 + 256 * zs.getD 6 0 + zs.getD 7 0)], .bool true]) ∧ Below w.heap.size w w' := by
  unfold pdok at hp
  obtain ⟨h8, hx⟩ := of_decide_eq_true hp
  subst h8
  clear hp
  obtain ⟨b, off, rfl, hc⟩ := hb.at_ (by omega)
  have c0 := hc 0 (by omega)
  have r0 := hb.range 0
  obtain ⟨x0, e0⟩ : ∃ x, zs.getD 0 0 = x := ⟨_, rfl⟩
  rw [e0] at c0 r0
  have E0 := Lib.hid e0
  have c1 := hc 1 (by omega)
  have r1 := hb.range 1
  obtain ⟨x1, e1⟩ : ∃ x, zs.getD 1 0 = x := ⟨_, rfl⟩
  rw [e1] at c1 r1
  have E1 := Lib.hid e1
  have c2 := hc 2 (by omega)
  have r2 := hb.range 2
  obtain ⟨x2, e2⟩ : ∃ x, zs.getD 2 0 = x := ⟨_, rfl⟩
  rw [e2] at c2 r2
  have E2 := Lib.hid e2
  have c3 := hc 3 (by omega)
  have r3 := hb.range 3
  obtain ⟨x3, e3⟩ : ∃ x, zs.getD 3 0 = x := ⟨_, rfl⟩
  rw [e3] at c3 r3
  have E3 := Lib.hid e3
  have c4 := hc 4 (by omega)
  have r4 := hb.range 4
  obtain ⟨x4, e4⟩ : ∃ x, zs.getD 4 0 = x := ⟨_, rfl⟩
  rw [e4] at c4 r4
  have E4 := Lib.hid e4
  have c5 := hc 5 (by omega)
  have r5 := hb.range 5
  obtain ⟨x5, e5⟩ : ∃ x, zs.getD 5 0 = x := ⟨_, rfl⟩
  rw [e5] at c5 r5
  have E5 := Lib.hid e5
  have c6 := hc 6 (by omega)
  have r6 := hb.range 6
  obtain ⟨x6, e6⟩ : ∃ x, zs.getD 6 0 = x := ⟨_, rfl⟩
  rw [e6] at c6 r6
  have E6 := Lib.hid e6
  have c7 := hc 7 (by omega)
  have r7 := hb.range 7
  obtain ⟨x7, e7⟩ : ∃ x, zs.getD 7 0 = x := ⟨_, rfl⟩
  rw [e7] at c7 r7
  have E7 := Lib.hid e7
  rw [e1] at hx
  rw [Nat.add_zero] at c0
  have hlt := cell_ltB c1
  clear e0
  obtain ⟨r0, s0⟩ := r0
  clear e1
  obtain ⟨r1, s1⟩ := r1
  clear e2
  obtain ⟨r2, s2⟩ := r2
  clear e3
  obtain ⟨r3, s3⟩ := r3
  clear e4
  obtain ⟨r4, s4⟩ := r4
  clear e5
  obtain ⟨r5, s5⟩ := r5
  clear e6
  obtain ⟨r6, s6⟩ := r6
  clear e7
  obtain ⟨r7, s7⟩ := r7
  clear hc hb
  rw [E0.out]
  rw [E1.out]
  rw [E2.out]
  rw [E3.out]
  rw [E4.out]
  rw [E5.out]
  rw [E6.out]
  rw [E7.out]
  have t0 : (bits .and .u8 x1 8 != 0) = false := by rw [u8_bit 3 8 x1 rfl (by omega) r1 s1, decide_eq_false_iff_not]; omega
  have T2 := Lib.hid (u8_bit 2 4 x1 rfl (by omega) r1 s1)
  have T1 := Lib.hid (u8_bit 1 2 x1 rfl (by omega) r1 s1)
  have T0 := Lib.hid (u8_bit 0 1 x1 rfl (by omega) r1 s1)
  have j1 := i64_join 8 256 (x2 * 256) x3 rfl (by omega) (by omega) (by omega) (by omega) (by omega) (by omega)
  have j2 := i64_join 16 65536 (x5 * 65536) (x6 * 256) rfl (by omega) (by omega) (by omega) (by omega) (by omega) (by omega)
  have j3 := i64_join 8 256 (x5 * 65536 + x6 * 256) x7 rfl (by omega) (by omega) (by omega) (by omega) (by omega) (by omega)
  have l1 := u8_low 2 3 (x4 / 16) rfl (by omega) (by omega) (by omega)
  have l2 := u8_low 4 15 x4 rfl (by omega) (by omega) (by omega)
  clear hx
  go_enter Try.func18, Try.ntmps18
  go_wp2
  refine wp_region_still_tail 67 (by kernel_rfl) (by kernel_rfl) ?_
  change wpStill _ _ (World.drew _) (fun a => wpList _ _ _ _ a (World.drew _)) _ _
  simp only [List.append_eq, List.cons_append, List.nil_append, List.take_succ_cons, List.take_zero, List.drop_succ_cons, List.drop_zero]
  repeat still_step
  refine wpStill_nil ?_
  go_wp2
  skip
  go_returns
  exact ⟨by rw [T2.out, T1.out, T0.out, j1, j2, j3]; simp <;> omega, dBelow ((Below.refl w.heap.size w).alloc (Nat.le_refl _) _) 1⟩

end Go.Proofs.Ytfjnmlklpebfcaa
