/- THE WALK of PswDecodes: it returns true and writes nothing that was there. No conditions but the input's own ranges. -/
import Derived.Test.YtfjnmlklpebfcaaPwL
import Derived.Test.YtfjnmlklpebfcaaRow
namespace Go.Proofs.Ytfjnmlklpebfcaa
open Go.RowKit
set_option linter.unusedVariables false
set_option linter.unusedSimpArgs false

attribute [local go_sem] eqp_run eqp_guard eqp_refl
set_option maxRecDepth 100000 in
set_option maxHeartbeats 4000000 in
theorem pswDecodes_yes (A : Option Addr) (len cap : Nat) (zs : List Int) (x0 x1 x2 x3 x4 x5 x6 x7 : Int) (E : x0 = zs.getD 0 0 ∧ x1 = zs.getD 1 0 ∧ x2 = zs.getD 2 0 ∧ x3 = zs.getD 3 0 ∧ x4 = zs.getD 4 0 ∧ x5 = zs.getD 5 0 ∧ x6 = zs.getD 6 0 ∧ x7 = zs.getD 7 0) (w : World) (hA : Byt w A len zs) (hc : A = none → cap = 0) (hl : len ≤ 1000) (hp : pdok len zs = true) : Calls Try.prog 4 #[.slice A len cap] w fun e w' => e = .returned (.bool true) ∧ Below w.heap.size w w' := by
  have HA := Lib.hid hA
  have HP := Lib.hid hp
  have HC := Lib.hid hc
  have EE := Lib.hid E
  clear E
  clear hA hp hc
  go_enter Try.func4, Try.ntmps4
  go_wp2_with (at_builtin; refine wpList_append_bytes rfl _ _ rfl w.heap.size (.slice (some ⟨w.heap.size, 0, none⟩) 0 0) 0 [] rfl (Own.empty w w.heap.size (Nat.le_refl _)) A len cap zs rfl (HA.out.keep ((Below.refl _ _).alloc (Nat.le_refl _) _)) HC.out (by omega) (by simp) ?_; intro v' w1 hown hg)
  have HB1 := Lib.hid (show Below w.heap.size w w1 from ((Below.refl _ _).alloc (Nat.le_refl _) _).grown hg (by simp) (by intro g hk; have := Own.block (Own.empty w w.heap.size (Nat.le_refl _)) g hk; omega))
  rw [Nat.zero_add, List.nil_append] at hown
  obtain ⟨A1, cap1, rfl⟩ : ∃ A1 cap1, v' = .slice A1 len cap1 := by
    rcases hown.form with ⟨h1, h2⟩ | ⟨g, cap', h1, _⟩
    · exact ⟨none, 0, by rw [h1, h2]⟩
    · exact ⟨_, _, h1⟩
  have HO := Lib.hid hown
  have Y2 := Lib.hid (show Byt w1 A len zs from HA.out.keep HB1.out)
  clear hown hg
  go_wp2_with fail
  refine (decode_x A1 len cap1 zs _ HO.out.byt (by omega) HP.out x0 x1 x2 x3 x4 x5 x6 x7 EE.out).mono ?_
  rintro e w2 ⟨rfl, hb⟩
  have HB2 := Lib.hid (HB1.out.trans (hb.mono HB1.out.size))
  have Y1 := Lib.hid (HO.out.byt.keep hb)
  have Y3 := Lib.hid (Y2.out.keep hb)
  clear hb
  go_wp2_with fail
  have HB3 := Lib.hid (HB2.out.alloc HB2.out.size (.cells #[.int .i64 x0, .int .i64 (x1 / 16), .bool (decide (x1 / 4 % 2 = 1)), .bool (decide (x1 / 2 % 2 = 1)), .bool (decide (x1 % 2 = 1)), .int .i64 (256 * x2 + x3), .int .i64 (x4 / 64), .int .i64 (x4 / 16 % 4), .int .i64 (x4 % 16), .int .i64 (65536 * x5 + 256 * x6 + x7)] 23))
  have Y4 := Lib.hid (Y1.out.keep ((Below.refl w2.heap.size w2).alloc (Nat.le_refl _) (.cells #[.int .i64 x0, .int .i64 (x1 / 16), .bool (decide (x1 / 4 % 2 = 1)), .bool (decide (x1 / 2 % 2 = 1)), .bool (decide (x1 % 2 = 1)), .int .i64 (256 * x2 + x3), .int .i64 (x4 / 64), .int .i64 (x4 / 16 % 4), .int .i64 (x4 % 16), .int .i64 (65536 * x5 + 256 * x6 + x7)] 23)))
  have Y5 := Lib.hid (Y3.out.keep ((Below.refl w2.heap.size w2).alloc (Nat.le_refl _) (.cells #[.int .i64 x0, .int .i64 (x1 / 16), .bool (decide (x1 / 4 % 2 = 1)), .bool (decide (x1 / 2 % 2 = 1)), .bool (decide (x1 % 2 = 1)), .int .i64 (256 * x2 + x3), .int .i64 (x4 / 64), .int .i64 (x4 / 16 % 4), .int .i64 (x4 % 16), .int .i64 (65536 * x5 + 256 * x6 + x7)] 23)))
  refine (rdecode_x A len cap zs _ Y5.out (by omega) HP.out x0 x1 x2 x3 x4 x5 x6 x7 EE.out).mono ?_
  rintro e w3 ⟨rfl, hb⟩
  have HB4 := Lib.hid (HB3.out.trans (hb.mono HB3.out.size))
  have Y6 := Lib.hid (Y4.out.keep hb)
  have Y7 := Lib.hid (Y5.out.keep hb)
  have d0 : w3.cell? ⟨w2.heap.size, 0, none⟩ = some (.int .i64 x0) := bcell_keep (w := w2.alloc (.cells #[.int .i64 x0, .int .i64 (x1 / 16), .bool (decide (x1 / 4 % 2 = 1)), .bool (decide (x1 / 2 % 2 = 1)), .bool (decide (x1 % 2 = 1)), .int .i64 (256 * x2 + x3), .int .i64 (x4 / 64), .int .i64 (x4 / 16 % 4), .int .i64 (x4 % 16), .int .i64 (65536 * x5 + 256 * x6 + x7)] 23)) (by simp) hb
  have d1 : w3.cell? ⟨w2.heap.size, 1, none⟩ = some (.int .i64 (x1 / 16)) := bcell_keep (w := w2.alloc (.cells #[.int .i64 x0, .int .i64 (x1 / 16), .bool (decide (x1 / 4 % 2 = 1)), .bool (decide (x1 / 2 % 2 = 1)), .bool (decide (x1 % 2 = 1)), .int .i64 (256 * x2 + x3), .int .i64 (x4 / 64), .int .i64 (x4 / 16 % 4), .int .i64 (x4 % 16), .int .i64 (65536 * x5 + 256 * x6 + x7)] 23)) (by simp) hb
  have d2 : w3.cell? ⟨w2.heap.size, 2, none⟩ = some (.bool (decide (x1 / 4 % 2 = 1))) := bcell_keep (w := w2.alloc (.cells #[.int .i64 x0, .int .i64 (x1 / 16), .bool (decide (x1 / 4 % 2 = 1)), .bool (decide (x1 / 2 % 2 = 1)), .bool (decide (x1 % 2 = 1)), .int .i64 (256 * x2 + x3), .int .i64 (x4 / 64), .int .i64 (x4 / 16 % 4), .int .i64 (x4 % 16), .int .i64 (65536 * x5 + 256 * x6 + x7)] 23)) (by simp) hb
  have d3 : w3.cell? ⟨w2.heap.size, 3, none⟩ = some (.bool (decide (x1 / 2 % 2 = 1))) := bcell_keep (w := w2.alloc (.cells #[.int .i64 x0, .int .i64 (x1 / 16), .bool (decide (x1 / 4 % 2 = 1)), .bool (decide (x1 / 2 % 2 = 1)), .bool (decide (x1 % 2 = 1)), .int .i64 (256 * x2 + x3), .int .i64 (x4 / 64), .int .i64 (x4 / 16 % 4), .int .i64 (x4 % 16), .int .i64 (65536 * x5 + 256 * x6 + x7)] 23)) (by simp) hb
  have d4 : w3.cell? ⟨w2.heap.size, 4, none⟩ = some (.bool (decide (x1 % 2 = 1))) := bcell_keep (w := w2.alloc (.cells #[.int .i64 x0, .int .i64 (x1 / 16), .bool (decide (x1 / 4 % 2 = 1)), .bool (decide (x1 / 2 % 2 = 1)), .bool (decide (x1 % 2 = 1)), .int .i64 (256 * x2 + x3), .int .i64 (x4 / 64), .int .i64 (x4 / 16 % 4), .int .i64 (x4 % 16), .int .i64 (65536 * x5 + 256 * x6 + x7)] 23)) (by simp) hb
  have d5 : w3.cell? ⟨w2.heap.size, 5, none⟩ = some (.int .i64 (256 * x2 + x3)) := bcell_keep (w := w2.alloc (.cells #[.int .i64 x0, .int .i64 (x1 / 16), .bool (decide (x1 / 4 % 2 = 1)), .bool (decide (x1 / 2 % 2 = 1)), .bool (decide (x1 % 2 = 1)), .int .i64 (256 * x2 + x3), .int .i64 (x4 / 64), .int .i64 (x4 / 16 % 4), .int .i64 (x4 % 16), .int .i64 (65536 * x5 + 256 * x6 + x7)] 23)) (by simp) hb
  have d6 : w3.cell? ⟨w2.heap.size, 6, none⟩ = some (.int .i64 (x4 / 64)) := bcell_keep (w := w2.alloc (.cells #[.int .i64 x0, .int .i64 (x1 / 16), .bool (decide (x1 / 4 % 2 = 1)), .bool (decide (x1 / 2 % 2 = 1)), .bool (decide (x1 % 2 = 1)), .int .i64 (256 * x2 + x3), .int .i64 (x4 / 64), .int .i64 (x4 / 16 % 4), .int .i64 (x4 % 16), .int .i64 (65536 * x5 + 256 * x6 + x7)] 23)) (by simp) hb
  have d7 : w3.cell? ⟨w2.heap.size, 7, none⟩ = some (.int .i64 (x4 / 16 % 4)) := bcell_keep (w := w2.alloc (.cells #[.int .i64 x0, .int .i64 (x1 / 16), .bool (decide (x1 / 4 % 2 = 1)), .bool (decide (x1 / 2 % 2 = 1)), .bool (decide (x1 % 2 = 1)), .int .i64 (256 * x2 + x3), .int .i64 (x4 / 64), .int .i64 (x4 / 16 % 4), .int .i64 (x4 % 16), .int .i64 (65536 * x5 + 256 * x6 + x7)] 23)) (by simp) hb
  have d8 : w3.cell? ⟨w2.heap.size, 8, none⟩ = some (.int .i64 (x4 % 16)) := bcell_keep (w := w2.alloc (.cells #[.int .i64 x0, .int .i64 (x1 / 16), .bool (decide (x1 / 4 % 2 = 1)), .bool (decide (x1 / 2 % 2 = 1)), .bool (decide (x1 % 2 = 1)), .int .i64 (256 * x2 + x3), .int .i64 (x4 / 64), .int .i64 (x4 / 16 % 4), .int .i64 (x4 % 16), .int .i64 (65536 * x5 + 256 * x6 + x7)] 23)) (by simp) hb
  have d9 : w3.cell? ⟨w2.heap.size, 9, none⟩ = some (.int .i64 (65536 * x5 + 256 * x6 + x7)) := bcell_keep (w := w2.alloc (.cells #[.int .i64 x0, .int .i64 (x1 / 16), .bool (decide (x1 / 4 % 2 = 1)), .bool (decide (x1 / 2 % 2 = 1)), .bool (decide (x1 % 2 = 1)), .int .i64 (256 * x2 + x3), .int .i64 (x4 / 64), .int .i64 (x4 / 16 % 4), .int .i64 (x4 % 16), .int .i64 (65536 * x5 + 256 * x6 + x7)] 23)) (by simp) hb
  have hz := cell_ltB d0
  clear hb
  go_wp2_with fail
  have HB5 := Lib.hid (HB4.out.alloc HB4.out.size (.cells #[.int .i64 x0, .int .i64 (x1 / 16), .bool (decide (x1 / 4 % 2 = 1)), .bool (decide (x1 / 2 % 2 = 1)), .bool (decide (x1 % 2 = 1)), .int .i64 (256 * x2 + x3), .int .i64 (x4 / 64), .int .i64 (x4 / 16 % 4), .int .i64 (x4 % 16), .int .i64 (65536 * x5 + 256 * x6 + x7)] 23))
  have Y8 := Lib.hid (Y6.out.keep ((Below.refl w3.heap.size w3).alloc (Nat.le_refl _) (.cells #[.int .i64 x0, .int .i64 (x1 / 16), .bool (decide (x1 / 4 % 2 = 1)), .bool (decide (x1 / 2 % 2 = 1)), .bool (decide (x1 % 2 = 1)), .int .i64 (256 * x2 + x3), .int .i64 (x4 / 64), .int .i64 (x4 / 16 % 4), .int .i64 (x4 % 16), .int .i64 (65536 * x5 + 256 * x6 + x7)] 23)))
  have Y9 := Lib.hid (Y7.out.keep ((Below.refl w3.heap.size w3).alloc (Nat.le_refl _) (.cells #[.int .i64 x0, .int .i64 (x1 / 16), .bool (decide (x1 / 4 % 2 = 1)), .bool (decide (x1 / 2 % 2 = 1)), .bool (decide (x1 % 2 = 1)), .int .i64 (256 * x2 + x3), .int .i64 (x4 / 64), .int .i64 (x4 / 16 % 4), .int .i64 (x4 % 16), .int .i64 (65536 * x5 + 256 * x6 + x7)] 23)))
  refine (same_c A1 len cap1 zs A len cap zs _ (by exact Y8.out) (by exact Y9.out) (by omega) (by omega)).mono ?_
  rintro e w5 ⟨rfl, n5, rfl⟩
  have HB6 := Lib.hid (dBelow HB5.out n5)
  go_wp2_with fail
  refine (works_c _).mono ?_
  rintro e w6 ⟨rfl, hb⟩
  have HB7 := Lib.hid (HB6.out.trans (hb.mono HB6.out.size))
  clear hb
  go_wp2_with fail
  go_ret
  exact ⟨rfl, HB7.out⟩
set_option maxRecDepth 100000 in
set_option maxHeartbeats 4000000 in
theorem pswDecodes_no (A : Option Addr) (len cap : Nat) (zs : List Int) (w : World) (hA : Byt w A len zs) (hc : A = none → cap = 0) (hl : len ≤ 1000) (hp : pdok len zs = false) : Calls Try.prog 4 #[.slice A len cap] w fun e w' => e = .returned (.bool true) ∧ Below w.heap.size w w' := by
  have HA := Lib.hid hA
  have HP := Lib.hid hp
  have HC := Lib.hid hc
  clear hA hp hc
  go_enter Try.func4, Try.ntmps4
  go_wp2_with (at_builtin; refine wpList_append_bytes rfl _ _ rfl w.heap.size (.slice (some ⟨w.heap.size, 0, none⟩) 0 0) 0 [] rfl (Own.empty w w.heap.size (Nat.le_refl _)) A len cap zs rfl (HA.out.keep ((Below.refl _ _).alloc (Nat.le_refl _) _)) HC.out (by omega) (by simp) ?_; intro v' w1 hown hg)
  have HB1 := Lib.hid (show Below w.heap.size w w1 from ((Below.refl _ _).alloc (Nat.le_refl _) _).grown hg (by simp) (by intro g hk; have := Own.block (Own.empty w w.heap.size (Nat.le_refl _)) g hk; omega))
  rw [Nat.zero_add, List.nil_append] at hown
  obtain ⟨A1, cap1, rfl⟩ : ∃ A1 cap1, v' = .slice A1 len cap1 := by
    rcases hown.form with ⟨h1, h2⟩ | ⟨g, cap', h1, _⟩
    · exact ⟨none, 0, by rw [h1, h2]⟩
    · exact ⟨_, _, h1⟩
  have HO := Lib.hid hown
  have Y2 := Lib.hid (show Byt w1 A len zs from HA.out.keep HB1.out)
  clear hown hg
  go_wp2_with fail
  refine (decode_c_no A1 len cap1 zs _ HO.out.byt (by omega) HP.out).mono ?_
  rintro e w2 ⟨rfl, hb⟩
  have HB2 := Lib.hid (HB1.out.trans (hb.mono HB1.out.size))
  have Y1 := Lib.hid (HO.out.byt.keep hb)
  have Y3 := Lib.hid (Y2.out.keep hb)
  clear hb
  go_wp2_with fail
  have HB3 := Lib.hid (HB2.out.alloc HB2.out.size (.cells #[.int .i64 0, .int .i64 0, .bool false, .bool false, .bool false, .int .i64 0, .int .i64 0, .int .i64 0, .int .i64 0, .int .i64 0] 23))
  have Y4 := Lib.hid (Y1.out.keep ((Below.refl w2.heap.size w2).alloc (Nat.le_refl _) (.cells #[.int .i64 0, .int .i64 0, .bool false, .bool false, .bool false, .int .i64 0, .int .i64 0, .int .i64 0, .int .i64 0, .int .i64 0] 23)))
  have Y5 := Lib.hid (Y3.out.keep ((Below.refl w2.heap.size w2).alloc (Nat.le_refl _) (.cells #[.int .i64 0, .int .i64 0, .bool false, .bool false, .bool false, .int .i64 0, .int .i64 0, .int .i64 0, .int .i64 0, .int .i64 0] 23)))
  refine (rdecode_c_no A len cap zs _ Y5.out (by omega) HP.out).mono ?_
  rintro e w3 ⟨rfl, hb⟩
  have HB4 := Lib.hid (HB3.out.trans (hb.mono HB3.out.size))
  have Y6 := Lib.hid (Y4.out.keep hb)
  have Y7 := Lib.hid (Y5.out.keep hb)
  have d0 : w3.cell? ⟨w2.heap.size, 0, none⟩ = some (.int .i64 0) := bcell_keep (w := w2.alloc (.cells #[.int .i64 0, .int .i64 0, .bool false, .bool false, .bool false, .int .i64 0, .int .i64 0, .int .i64 0, .int .i64 0, .int .i64 0] 23)) (by simp) hb
  have d1 : w3.cell? ⟨w2.heap.size, 1, none⟩ = some (.int .i64 0) := bcell_keep (w := w2.alloc (.cells #[.int .i64 0, .int .i64 0, .bool false, .bool false, .bool false, .int .i64 0, .int .i64 0, .int .i64 0, .int .i64 0, .int .i64 0] 23)) (by simp) hb
  have d2 : w3.cell? ⟨w2.heap.size, 2, none⟩ = some (.bool false) := bcell_keep (w := w2.alloc (.cells #[.int .i64 0, .int .i64 0, .bool false, .bool false, .bool false, .int .i64 0, .int .i64 0, .int .i64 0, .int .i64 0, .int .i64 0] 23)) (by simp) hb
  have d3 : w3.cell? ⟨w2.heap.size, 3, none⟩ = some (.bool false) := bcell_keep (w := w2.alloc (.cells #[.int .i64 0, .int .i64 0, .bool false, .bool false, .bool false, .int .i64 0, .int .i64 0, .int .i64 0, .int .i64 0, .int .i64 0] 23)) (by simp) hb
  have d4 : w3.cell? ⟨w2.heap.size, 4, none⟩ = some (.bool false) := bcell_keep (w := w2.alloc (.cells #[.int .i64 0, .int .i64 0, .bool false, .bool false, .bool false, .int .i64 0, .int .i64 0, .int .i64 0, .int .i64 0, .int .i64 0] 23)) (by simp) hb
  have d5 : w3.cell? ⟨w2.heap.size, 5, none⟩ = some (.int .i64 0) := bcell_keep (w := w2.alloc (.cells #[.int .i64 0, .int .i64 0, .bool false, .bool false, .bool false, .int .i64 0, .int .i64 0, .int .i64 0, .int .i64 0, .int .i64 0] 23)) (by simp) hb
  have d6 : w3.cell? ⟨w2.heap.size, 6, none⟩ = some (.int .i64 0) := bcell_keep (w := w2.alloc (.cells #[.int .i64 0, .int .i64 0, .bool false, .bool false, .bool false, .int .i64 0, .int .i64 0, .int .i64 0, .int .i64 0, .int .i64 0] 23)) (by simp) hb
  have d7 : w3.cell? ⟨w2.heap.size, 7, none⟩ = some (.int .i64 0) := bcell_keep (w := w2.alloc (.cells #[.int .i64 0, .int .i64 0, .bool false, .bool false, .bool false, .int .i64 0, .int .i64 0, .int .i64 0, .int .i64 0, .int .i64 0] 23)) (by simp) hb
  have d8 : w3.cell? ⟨w2.heap.size, 8, none⟩ = some (.int .i64 0) := bcell_keep (w := w2.alloc (.cells #[.int .i64 0, .int .i64 0, .bool false, .bool false, .bool false, .int .i64 0, .int .i64 0, .int .i64 0, .int .i64 0, .int .i64 0] 23)) (by simp) hb
  have d9 : w3.cell? ⟨w2.heap.size, 9, none⟩ = some (.int .i64 0) := bcell_keep (w := w2.alloc (.cells #[.int .i64 0, .int .i64 0, .bool false, .bool false, .bool false, .int .i64 0, .int .i64 0, .int .i64 0, .int .i64 0, .int .i64 0] 23)) (by simp) hb
  have hz := cell_ltB d0
  clear hb
  go_wp2_with fail
  have HB5 := Lib.hid (HB4.out.alloc HB4.out.size (.cells #[.int .i64 0, .int .i64 0, .bool false, .bool false, .bool false, .int .i64 0, .int .i64 0, .int .i64 0, .int .i64 0, .int .i64 0] 23))
  have Y8 := Lib.hid (Y6.out.keep ((Below.refl w3.heap.size w3).alloc (Nat.le_refl _) (.cells #[.int .i64 0, .int .i64 0, .bool false, .bool false, .bool false, .int .i64 0, .int .i64 0, .int .i64 0, .int .i64 0, .int .i64 0] 23)))
  have Y9 := Lib.hid (Y7.out.keep ((Below.refl w3.heap.size w3).alloc (Nat.le_refl _) (.cells #[.int .i64 0, .int .i64 0, .bool false, .bool false, .bool false, .int .i64 0, .int .i64 0, .int .i64 0, .int .i64 0, .int .i64 0] 23)))
  refine (same_c A1 len cap1 zs A len cap zs _ (by exact Y8.out) (by exact Y9.out) (by omega) (by omega)).mono ?_
  rintro e w5 ⟨rfl, n5, rfl⟩
  have HB6 := Lib.hid (dBelow HB5.out n5)
  go_wp2_with fail
  refine (works_c _).mono ?_
  rintro e w6 ⟨rfl, hb⟩
  have HB7 := Lib.hid (HB6.out.trans (hb.mono HB6.out.size))
  clear hb
  go_wp2_with fail
  go_ret
  exact ⟨rfl, HB7.out⟩

theorem pswDecodes_walk (a0 : Option Addr) (len0 cap0 : Nat) (z0 : List Int) (w : World) (w0 : IsRow .u8 w a0 len0 cap0 z0) :
    Calls Try.prog 4 #[.slice a0 len0 cap0] w fun e w' => e = .returned (.bool true) ∧ Below w.heap.size w w' := by
  obtain ⟨hby, hnil, hlc, hcm⟩ := row_byt w0
  generalize z0.take len0 = zs at hby
  unfold maxLen at hcm
  by_cases hl : len0 ≤ 1000
  · cases hp : pdok len0 zs
    · exact pswDecodes_no a0 len0 cap0 zs w hby hnil hl hp
    · exact pswDecodes_yes a0 len0 cap0 zs _ _ _ _ _ _ _ _ ⟨rfl, rfl, rfl, rfl, rfl, rfl, rfl, rfl⟩ w hby hnil hl hp
  · have hL : (1000 : Int) < (len0 : Int) := by omega
    clear hl hby hnil w0
    go_enter Try.func4, Try.ntmps4
    go_wp2
    go_ret
    exact ⟨rfl, Below.refl _ _⟩
end Go.Proofs.Ytfjnmlklpebfcaa
