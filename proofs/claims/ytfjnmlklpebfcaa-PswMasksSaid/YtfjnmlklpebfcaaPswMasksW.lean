/- THE WALK of PswMasks: it returns true and writes nothing that was there. No conditions but the input's own ranges. -/
import Derived.Test.YtfjnmlklpebfcaaPwL
import Derived.Test.YtfjnmlklpebfcaaRow
namespace Go.Proofs.Ytfjnmlklpebfcaa
open Go.RowKit
set_option linter.unusedVariables false
set_option linter.unusedSimpArgs false

set_option maxRecDepth 100000 in
set_option maxHeartbeats 4000000 in
theorem pswMasks_no (m k : Int) (M W P : Bool) (c i q g a : Int) (more cl code ch : Int) (w : World) (hp : pok m k c i q g a = false) : Calls Try.prog 9 #[.agg #[.int .i64 m, .int .i64 k, .bool M, .bool W, .bool P, .int .i64 c, .int .i64 i, .int .i64 q, .int .i64 g, .int .i64 a], .int .i64 more, .agg #[.int .i64 cl, .int .i64 code, .int .i64 ch]] w fun e w' => e = .returned (.bool true) ∧ Below w.heap.size w w' := by
  go_enter Try.func9, Try.ntmps9
  go_wp2_with fail
  refine (valid_c m k M W P c i q g a _).mono ?_
  rintro e w1 ⟨rfl, hb⟩
  have HB1 := Lib.hid (show Below w.heap.size w w1 from (((Below.refl w.heap.size w).alloc (Nat.le_refl _) _).alloc (by simp) _).trans (hb.mono (by simp; omega)))
  have hz0 : w.heap.size < w1.heap.size := by have := hb.size; simp at this; omega
  have hz : w.heap.size + 1 < w1.heap.size := by have := hb.size; simp at this; omega
  have c0 : w1.cell? ⟨w.heap.size, 0, none⟩ = some (.int .i64 m) := bcell_keep (w := ((w.alloc (.cells #[.int .i64 m, .int .i64 k, .bool M, .bool W, .bool P, .int .i64 c, .int .i64 i, .int .i64 q, .int .i64 g, .int .i64 a] 23)).alloc (.cells #[.int .i64 cl, .int .i64 code, .int .i64 ch] 35))) (by first | assumption | simp) hb
  have c1 : w1.cell? ⟨w.heap.size, 1, none⟩ = some (.int .i64 k) := bcell_keep (w := ((w.alloc (.cells #[.int .i64 m, .int .i64 k, .bool M, .bool W, .bool P, .int .i64 c, .int .i64 i, .int .i64 q, .int .i64 g, .int .i64 a] 23)).alloc (.cells #[.int .i64 cl, .int .i64 code, .int .i64 ch] 35))) (by first | assumption | simp) hb
  have c2 : w1.cell? ⟨w.heap.size, 2, none⟩ = some (.bool M) := bcell_keep (w := ((w.alloc (.cells #[.int .i64 m, .int .i64 k, .bool M, .bool W, .bool P, .int .i64 c, .int .i64 i, .int .i64 q, .int .i64 g, .int .i64 a] 23)).alloc (.cells #[.int .i64 cl, .int .i64 code, .int .i64 ch] 35))) (by first | assumption | simp) hb
  have c3 : w1.cell? ⟨w.heap.size, 3, none⟩ = some (.bool W) := bcell_keep (w := ((w.alloc (.cells #[.int .i64 m, .int .i64 k, .bool M, .bool W, .bool P, .int .i64 c, .int .i64 i, .int .i64 q, .int .i64 g, .int .i64 a] 23)).alloc (.cells #[.int .i64 cl, .int .i64 code, .int .i64 ch] 35))) (by first | assumption | simp) hb
  have c4 : w1.cell? ⟨w.heap.size, 4, none⟩ = some (.bool P) := bcell_keep (w := ((w.alloc (.cells #[.int .i64 m, .int .i64 k, .bool M, .bool W, .bool P, .int .i64 c, .int .i64 i, .int .i64 q, .int .i64 g, .int .i64 a] 23)).alloc (.cells #[.int .i64 cl, .int .i64 code, .int .i64 ch] 35))) (by first | assumption | simp) hb
  have c5 : w1.cell? ⟨w.heap.size, 5, none⟩ = some (.int .i64 c) := bcell_keep (w := ((w.alloc (.cells #[.int .i64 m, .int .i64 k, .bool M, .bool W, .bool P, .int .i64 c, .int .i64 i, .int .i64 q, .int .i64 g, .int .i64 a] 23)).alloc (.cells #[.int .i64 cl, .int .i64 code, .int .i64 ch] 35))) (by first | assumption | simp) hb
  have c6 : w1.cell? ⟨w.heap.size, 6, none⟩ = some (.int .i64 i) := bcell_keep (w := ((w.alloc (.cells #[.int .i64 m, .int .i64 k, .bool M, .bool W, .bool P, .int .i64 c, .int .i64 i, .int .i64 q, .int .i64 g, .int .i64 a] 23)).alloc (.cells #[.int .i64 cl, .int .i64 code, .int .i64 ch] 35))) (by first | assumption | simp) hb
  have c7 : w1.cell? ⟨w.heap.size, 7, none⟩ = some (.int .i64 q) := bcell_keep (w := ((w.alloc (.cells #[.int .i64 m, .int .i64 k, .bool M, .bool W, .bool P, .int .i64 c, .int .i64 i, .int .i64 q, .int .i64 g, .int .i64 a] 23)).alloc (.cells #[.int .i64 cl, .int .i64 code, .int .i64 ch] 35))) (by first | assumption | simp) hb
  have c8 : w1.cell? ⟨w.heap.size, 8, none⟩ = some (.int .i64 g) := bcell_keep (w := ((w.alloc (.cells #[.int .i64 m, .int .i64 k, .bool M, .bool W, .bool P, .int .i64 c, .int .i64 i, .int .i64 q, .int .i64 g, .int .i64 a] 23)).alloc (.cells #[.int .i64 cl, .int .i64 code, .int .i64 ch] 35))) (by first | assumption | simp) hb
  have c9 : w1.cell? ⟨w.heap.size, 9, none⟩ = some (.int .i64 a) := bcell_keep (w := ((w.alloc (.cells #[.int .i64 m, .int .i64 k, .bool M, .bool W, .bool P, .int .i64 c, .int .i64 i, .int .i64 q, .int .i64 g, .int .i64 a] 23)).alloc (.cells #[.int .i64 cl, .int .i64 code, .int .i64 ch] 35))) (by first | assumption | simp) hb
  have ca0 : w1.cell? ⟨w.heap.size + 1, 0, none⟩ = some (.int .i64 cl) := bcell_keep (w := ((w.alloc (.cells #[.int .i64 m, .int .i64 k, .bool M, .bool W, .bool P, .int .i64 c, .int .i64 i, .int .i64 q, .int .i64 g, .int .i64 a] 23)).alloc (.cells #[.int .i64 cl, .int .i64 code, .int .i64 ch] 35))) (by first | assumption | simp) hb
  have ca1 : w1.cell? ⟨w.heap.size + 1, 1, none⟩ = some (.int .i64 code) := bcell_keep (w := ((w.alloc (.cells #[.int .i64 m, .int .i64 k, .bool M, .bool W, .bool P, .int .i64 c, .int .i64 i, .int .i64 q, .int .i64 g, .int .i64 a] 23)).alloc (.cells #[.int .i64 cl, .int .i64 code, .int .i64 ch] 35))) (by first | assumption | simp) hb
  have ca2 : w1.cell? ⟨w.heap.size + 1, 2, none⟩ = some (.int .i64 ch) := bcell_keep (w := ((w.alloc (.cells #[.int .i64 m, .int .i64 k, .bool M, .bool W, .bool P, .int .i64 c, .int .i64 i, .int .i64 q, .int .i64 g, .int .i64 a] 23)).alloc (.cells #[.int .i64 cl, .int .i64 code, .int .i64 ch] 35))) (by first | assumption | simp) hb
  clear hb
  rw [hp]
  go_wp2_with fail
  refine (admits_c m k M W P c i q g a cl code ch _).mono ?_
  rintro e w2 ⟨rfl, hb⟩
  have HB2 := Lib.hid (HB1.out.trans (hb.mono HB1.out.size))
  clear hb
  rw [hp, Bool.false_and]
  go_wp2_with fail
  refine (works_c _).mono ?_
  rintro e w3 ⟨rfl, hb⟩
  have HB3 := Lib.hid (HB2.out.trans (hb.mono HB2.out.size))
  clear hb
  go_wp2_with fail
  go_ret
  exact ⟨rfl, HB3.out⟩

set_option maxRecDepth 100000 in
set_option maxHeartbeats 4000000 in
theorem pswMasks_yes (m k : Int) (M W P : Bool) (c i q g a : Int) (more cl code ch : Int) (w : World) (hm0 : -9223372036854775808 ≤ more) (hm1 : more ≤ 9223372036854775807) (hp : pok m k c i q g a = true) : Calls Try.prog 9 #[.agg #[.int .i64 m, .int .i64 k, .bool M, .bool W, .bool P, .int .i64 c, .int .i64 i, .int .i64 q, .int .i64 g, .int .i64 a], .int .i64 more, .agg #[.int .i64 cl, .int .i64 code, .int .i64 ch]] w fun e w' => e = .returned (.bool true) ∧ Below w.heap.size w w' := by
  have hq := (pok_iff m k c i q g a).1 hp
  obtain ⟨⟨m0, m1⟩, ⟨k0, k1⟩, ⟨c0', c1'⟩, ⟨i0, i1⟩, ⟨q0, q1⟩, ⟨g0, g1⟩, a0, a1⟩ := hq
  have f1 := i64_lowx 8 255 more rfl (by omega)
  have f2 := i64_lowx 4 15 (more / 256) rfl (by omega)
  have f3 := i64_lowx 1 1 (more / 4096) rfl (by omega)
  obtain ⟨u, hu⟩ : ∃ u, more % ((2 ^ 8 : Nat) : Int) = u := ⟨_, rfl⟩
  obtain ⟨v, hv⟩ : ∃ v, more / 256 % ((2 ^ 4 : Nat) : Int) = v := ⟨_, rfl⟩
  obtain ⟨t, ht⟩ : ∃ t, more / 4096 % ((2 ^ 1 : Nat) : Int) = t := ⟨_, rfl⟩
  rw [hu] at f1
  rw [hv] at f2
  rw [ht] at f3
  have u0 : 0 ≤ u := by omega
  have u1 : u < 256 := by omega
  have v0 : 0 ≤ v := by omega
  have v1 : v < 16 := by omega
  clear hu hv ht
  have rm := or_le 8 m u m0 (by omega) u0 (by omega) (by omega)
  have rg := or_le 4 g v g0 (by omega) v0 (by omega) (by omega)
  have bm := fun j => or_bit m u m0 (by omega) u0 (by omega) j
  have bg := fun j => or_bit g v g0 (by omega) v0 (by omega) j
  obtain ⟨m', hm'⟩ : ∃ m', bits .or .i64 m u = m' := ⟨_, rfl⟩
  obtain ⟨g', hg'⟩ : ∃ g', bits .or .i64 g v = g' := ⟨_, rfl⟩
  rw [hm'] at rm bm
  rw [hg'] at rg bg
  have hp' := Lib.hid (show pok m' k c i q g' a = true from by rw [pok_iff]; omega)
  have BM := Lib.hid bm
  have BG := Lib.hid bg
  clear bm bg rm rg
  obtain ⟨B, hB⟩ : ∃ B, (t == 1) = B := ⟨_, rfl⟩
  cases M
  · go_enter Try.func9, Try.ntmps9
    go_wp2_with fail
    refine (valid_c m k false W P c i q g a _).mono ?_
    rintro e w1 ⟨rfl, hb⟩
    have HB1 := Lib.hid (show Below w.heap.size w w1 from (((Below.refl w.heap.size w).alloc (Nat.le_refl _) _).alloc (by simp) _).trans (hb.mono (by simp; omega)))
    have hz0 : w.heap.size < w1.heap.size := by have := hb.size; simp at this; omega
    have hz : w.heap.size + 1 < w1.heap.size := by have := hb.size; simp at this; omega
    have c0 : w1.cell? ⟨w.heap.size, 0, none⟩ = some (.int .i64 m) := bcell_keep (w := ((w.alloc (.cells #[.int .i64 m, .int .i64 k, .bool false, .bool W, .bool P, .int .i64 c, .int .i64 i, .int .i64 q, .int .i64 g, .int .i64 a] 23)).alloc (.cells #[.int .i64 cl, .int .i64 code, .int .i64 ch] 35))) (by first | assumption | simp) hb
    have c1 : w1.cell? ⟨w.heap.size, 1, none⟩ = some (.int .i64 k) := bcell_keep (w := ((w.alloc (.cells #[.int .i64 m, .int .i64 k, .bool false, .bool W, .bool P, .int .i64 c, .int .i64 i, .int .i64 q, .int .i64 g, .int .i64 a] 23)).alloc (.cells #[.int .i64 cl, .int .i64 code, .int .i64 ch] 35))) (by first | assumption | simp) hb
    have c2 : w1.cell? ⟨w.heap.size, 2, none⟩ = some (.bool false) := bcell_keep (w := ((w.alloc (.cells #[.int .i64 m, .int .i64 k, .bool false, .bool W, .bool P, .int .i64 c, .int .i64 i, .int .i64 q, .int .i64 g, .int .i64 a] 23)).alloc (.cells #[.int .i64 cl, .int .i64 code, .int .i64 ch] 35))) (by first | assumption | simp) hb
    have c3 : w1.cell? ⟨w.heap.size, 3, none⟩ = some (.bool W) := bcell_keep (w := ((w.alloc (.cells #[.int .i64 m, .int .i64 k, .bool false, .bool W, .bool P, .int .i64 c, .int .i64 i, .int .i64 q, .int .i64 g, .int .i64 a] 23)).alloc (.cells #[.int .i64 cl, .int .i64 code, .int .i64 ch] 35))) (by first | assumption | simp) hb
    have c4 : w1.cell? ⟨w.heap.size, 4, none⟩ = some (.bool P) := bcell_keep (w := ((w.alloc (.cells #[.int .i64 m, .int .i64 k, .bool false, .bool W, .bool P, .int .i64 c, .int .i64 i, .int .i64 q, .int .i64 g, .int .i64 a] 23)).alloc (.cells #[.int .i64 cl, .int .i64 code, .int .i64 ch] 35))) (by first | assumption | simp) hb
    have c5 : w1.cell? ⟨w.heap.size, 5, none⟩ = some (.int .i64 c) := bcell_keep (w := ((w.alloc (.cells #[.int .i64 m, .int .i64 k, .bool false, .bool W, .bool P, .int .i64 c, .int .i64 i, .int .i64 q, .int .i64 g, .int .i64 a] 23)).alloc (.cells #[.int .i64 cl, .int .i64 code, .int .i64 ch] 35))) (by first | assumption | simp) hb
    have c6 : w1.cell? ⟨w.heap.size, 6, none⟩ = some (.int .i64 i) := bcell_keep (w := ((w.alloc (.cells #[.int .i64 m, .int .i64 k, .bool false, .bool W, .bool P, .int .i64 c, .int .i64 i, .int .i64 q, .int .i64 g, .int .i64 a] 23)).alloc (.cells #[.int .i64 cl, .int .i64 code, .int .i64 ch] 35))) (by first | assumption | simp) hb
    have c7 : w1.cell? ⟨w.heap.size, 7, none⟩ = some (.int .i64 q) := bcell_keep (w := ((w.alloc (.cells #[.int .i64 m, .int .i64 k, .bool false, .bool W, .bool P, .int .i64 c, .int .i64 i, .int .i64 q, .int .i64 g, .int .i64 a] 23)).alloc (.cells #[.int .i64 cl, .int .i64 code, .int .i64 ch] 35))) (by first | assumption | simp) hb
    have c8 : w1.cell? ⟨w.heap.size, 8, none⟩ = some (.int .i64 g) := bcell_keep (w := ((w.alloc (.cells #[.int .i64 m, .int .i64 k, .bool false, .bool W, .bool P, .int .i64 c, .int .i64 i, .int .i64 q, .int .i64 g, .int .i64 a] 23)).alloc (.cells #[.int .i64 cl, .int .i64 code, .int .i64 ch] 35))) (by first | assumption | simp) hb
    have c9 : w1.cell? ⟨w.heap.size, 9, none⟩ = some (.int .i64 a) := bcell_keep (w := ((w.alloc (.cells #[.int .i64 m, .int .i64 k, .bool false, .bool W, .bool P, .int .i64 c, .int .i64 i, .int .i64 q, .int .i64 g, .int .i64 a] 23)).alloc (.cells #[.int .i64 cl, .int .i64 code, .int .i64 ch] 35))) (by first | assumption | simp) hb
    have ca0 : w1.cell? ⟨w.heap.size + 1, 0, none⟩ = some (.int .i64 cl) := bcell_keep (w := ((w.alloc (.cells #[.int .i64 m, .int .i64 k, .bool false, .bool W, .bool P, .int .i64 c, .int .i64 i, .int .i64 q, .int .i64 g, .int .i64 a] 23)).alloc (.cells #[.int .i64 cl, .int .i64 code, .int .i64 ch] 35))) (by first | assumption | simp) hb
    have ca1 : w1.cell? ⟨w.heap.size + 1, 1, none⟩ = some (.int .i64 code) := bcell_keep (w := ((w.alloc (.cells #[.int .i64 m, .int .i64 k, .bool false, .bool W, .bool P, .int .i64 c, .int .i64 i, .int .i64 q, .int .i64 g, .int .i64 a] 23)).alloc (.cells #[.int .i64 cl, .int .i64 code, .int .i64 ch] 35))) (by first | assumption | simp) hb
    have ca2 : w1.cell? ⟨w.heap.size + 1, 2, none⟩ = some (.int .i64 ch) := bcell_keep (w := ((w.alloc (.cells #[.int .i64 m, .int .i64 k, .bool false, .bool W, .bool P, .int .i64 c, .int .i64 i, .int .i64 q, .int .i64 g, .int .i64 a] 23)).alloc (.cells #[.int .i64 cl, .int .i64 code, .int .i64 ch] 35))) (by first | assumption | simp) hb
    clear hb
    rw [hp]
    go_wp2_with fail
    refine (admits_c m k false W P c i q g a cl code ch _).mono ?_
    rintro e w2 ⟨rfl, hb⟩
    have HB2 := Lib.hid ((HB1.out.alloc HB1.out.size _).trans (hb.mono (by have := HB1.out.size; simp; omega)))
    have q0' : w2.cell? ⟨w1.heap.size, 0, none⟩ = some (.int .i64 m') := bcell_keep (w := (w1.alloc (.cells #[.int .i64 m', .int .i64 k, .bool B, .bool W, .bool P, .int .i64 c, .int .i64 i, .int .i64 q, .int .i64 g', .int .i64 a] 23))) (by simp) hb
    have q1' : w2.cell? ⟨w1.heap.size, 1, none⟩ = some (.int .i64 k) := bcell_keep (w := (w1.alloc (.cells #[.int .i64 m', .int .i64 k, .bool B, .bool W, .bool P, .int .i64 c, .int .i64 i, .int .i64 q, .int .i64 g', .int .i64 a] 23))) (by simp) hb
    have q2' : w2.cell? ⟨w1.heap.size, 2, none⟩ = some (.bool B) := bcell_keep (w := (w1.alloc (.cells #[.int .i64 m', .int .i64 k, .bool B, .bool W, .bool P, .int .i64 c, .int .i64 i, .int .i64 q, .int .i64 g', .int .i64 a] 23))) (by simp) hb
    have q3' : w2.cell? ⟨w1.heap.size, 3, none⟩ = some (.bool W) := bcell_keep (w := (w1.alloc (.cells #[.int .i64 m', .int .i64 k, .bool B, .bool W, .bool P, .int .i64 c, .int .i64 i, .int .i64 q, .int .i64 g', .int .i64 a] 23))) (by simp) hb
    have q4' : w2.cell? ⟨w1.heap.size, 4, none⟩ = some (.bool P) := bcell_keep (w := (w1.alloc (.cells #[.int .i64 m', .int .i64 k, .bool B, .bool W, .bool P, .int .i64 c, .int .i64 i, .int .i64 q, .int .i64 g', .int .i64 a] 23))) (by simp) hb
    have q5' : w2.cell? ⟨w1.heap.size, 5, none⟩ = some (.int .i64 c) := bcell_keep (w := (w1.alloc (.cells #[.int .i64 m', .int .i64 k, .bool B, .bool W, .bool P, .int .i64 c, .int .i64 i, .int .i64 q, .int .i64 g', .int .i64 a] 23))) (by simp) hb
    have q6' : w2.cell? ⟨w1.heap.size, 6, none⟩ = some (.int .i64 i) := bcell_keep (w := (w1.alloc (.cells #[.int .i64 m', .int .i64 k, .bool B, .bool W, .bool P, .int .i64 c, .int .i64 i, .int .i64 q, .int .i64 g', .int .i64 a] 23))) (by simp) hb
    have q7' : w2.cell? ⟨w1.heap.size, 7, none⟩ = some (.int .i64 q) := bcell_keep (w := (w1.alloc (.cells #[.int .i64 m', .int .i64 k, .bool B, .bool W, .bool P, .int .i64 c, .int .i64 i, .int .i64 q, .int .i64 g', .int .i64 a] 23))) (by simp) hb
    have q8' : w2.cell? ⟨w1.heap.size, 8, none⟩ = some (.int .i64 g') := bcell_keep (w := (w1.alloc (.cells #[.int .i64 m', .int .i64 k, .bool B, .bool W, .bool P, .int .i64 c, .int .i64 i, .int .i64 q, .int .i64 g', .int .i64 a] 23))) (by simp) hb
    have q9' : w2.cell? ⟨w1.heap.size, 9, none⟩ = some (.int .i64 a) := bcell_keep (w := (w1.alloc (.cells #[.int .i64 m', .int .i64 k, .bool B, .bool W, .bool P, .int .i64 c, .int .i64 i, .int .i64 q, .int .i64 g', .int .i64 a] 23))) (by simp) hb
    have d0 : w2.cell? ⟨w.heap.size, 0, none⟩ = some (.int .i64 m) := bcell_keep (w := (w1.alloc (.cells #[.int .i64 m', .int .i64 k, .bool B, .bool W, .bool P, .int .i64 c, .int .i64 i, .int .i64 q, .int .i64 g', .int .i64 a] 23))) (by rw [World.cell?_alloc_lt _ _ _ (by exact hz0)]; exact c0) hb
    have d1 : w2.cell? ⟨w.heap.size, 1, none⟩ = some (.int .i64 k) := bcell_keep (w := (w1.alloc (.cells #[.int .i64 m', .int .i64 k, .bool B, .bool W, .bool P, .int .i64 c, .int .i64 i, .int .i64 q, .int .i64 g', .int .i64 a] 23))) (by rw [World.cell?_alloc_lt _ _ _ (by exact hz0)]; exact c1) hb
    have d2 : w2.cell? ⟨w.heap.size, 2, none⟩ = some (.bool false) := bcell_keep (w := (w1.alloc (.cells #[.int .i64 m', .int .i64 k, .bool B, .bool W, .bool P, .int .i64 c, .int .i64 i, .int .i64 q, .int .i64 g', .int .i64 a] 23))) (by rw [World.cell?_alloc_lt _ _ _ (by exact hz0)]; exact c2) hb
    have d3 : w2.cell? ⟨w.heap.size, 3, none⟩ = some (.bool W) := bcell_keep (w := (w1.alloc (.cells #[.int .i64 m', .int .i64 k, .bool B, .bool W, .bool P, .int .i64 c, .int .i64 i, .int .i64 q, .int .i64 g', .int .i64 a] 23))) (by rw [World.cell?_alloc_lt _ _ _ (by exact hz0)]; exact c3) hb
    have d4 : w2.cell? ⟨w.heap.size, 4, none⟩ = some (.bool P) := bcell_keep (w := (w1.alloc (.cells #[.int .i64 m', .int .i64 k, .bool B, .bool W, .bool P, .int .i64 c, .int .i64 i, .int .i64 q, .int .i64 g', .int .i64 a] 23))) (by rw [World.cell?_alloc_lt _ _ _ (by exact hz0)]; exact c4) hb
    have d5 : w2.cell? ⟨w.heap.size, 5, none⟩ = some (.int .i64 c) := bcell_keep (w := (w1.alloc (.cells #[.int .i64 m', .int .i64 k, .bool B, .bool W, .bool P, .int .i64 c, .int .i64 i, .int .i64 q, .int .i64 g', .int .i64 a] 23))) (by rw [World.cell?_alloc_lt _ _ _ (by exact hz0)]; exact c5) hb
    have d6 : w2.cell? ⟨w.heap.size, 6, none⟩ = some (.int .i64 i) := bcell_keep (w := (w1.alloc (.cells #[.int .i64 m', .int .i64 k, .bool B, .bool W, .bool P, .int .i64 c, .int .i64 i, .int .i64 q, .int .i64 g', .int .i64 a] 23))) (by rw [World.cell?_alloc_lt _ _ _ (by exact hz0)]; exact c6) hb
    have d7 : w2.cell? ⟨w.heap.size, 7, none⟩ = some (.int .i64 q) := bcell_keep (w := (w1.alloc (.cells #[.int .i64 m', .int .i64 k, .bool B, .bool W, .bool P, .int .i64 c, .int .i64 i, .int .i64 q, .int .i64 g', .int .i64 a] 23))) (by rw [World.cell?_alloc_lt _ _ _ (by exact hz0)]; exact c7) hb
    have d8 : w2.cell? ⟨w.heap.size, 8, none⟩ = some (.int .i64 g) := bcell_keep (w := (w1.alloc (.cells #[.int .i64 m', .int .i64 k, .bool B, .bool W, .bool P, .int .i64 c, .int .i64 i, .int .i64 q, .int .i64 g', .int .i64 a] 23))) (by rw [World.cell?_alloc_lt _ _ _ (by exact hz0)]; exact c8) hb
    have d9 : w2.cell? ⟨w.heap.size, 9, none⟩ = some (.int .i64 a) := bcell_keep (w := (w1.alloc (.cells #[.int .i64 m', .int .i64 k, .bool B, .bool W, .bool P, .int .i64 c, .int .i64 i, .int .i64 q, .int .i64 g', .int .i64 a] 23))) (by rw [World.cell?_alloc_lt _ _ _ (by exact hz0)]; exact c9) hb
    have da0 : w2.cell? ⟨w.heap.size + 1, 0, none⟩ = some (.int .i64 cl) := bcell_keep (w := (w1.alloc (.cells #[.int .i64 m', .int .i64 k, .bool B, .bool W, .bool P, .int .i64 c, .int .i64 i, .int .i64 q, .int .i64 g', .int .i64 a] 23))) (by rw [World.cell?_alloc_lt _ _ _ (by exact hz)]; exact ca0) hb
    have da1 : w2.cell? ⟨w.heap.size + 1, 1, none⟩ = some (.int .i64 code) := bcell_keep (w := (w1.alloc (.cells #[.int .i64 m', .int .i64 k, .bool B, .bool W, .bool P, .int .i64 c, .int .i64 i, .int .i64 q, .int .i64 g', .int .i64 a] 23))) (by rw [World.cell?_alloc_lt _ _ _ (by exact hz)]; exact ca1) hb
    have da2 : w2.cell? ⟨w.heap.size + 1, 2, none⟩ = some (.int .i64 ch) := bcell_keep (w := (w1.alloc (.cells #[.int .i64 m', .int .i64 k, .bool B, .bool W, .bool P, .int .i64 c, .int .i64 i, .int .i64 q, .int .i64 g', .int .i64 a] 23))) (by rw [World.cell?_alloc_lt _ _ _ (by exact hz)]; exact ca2) hb
    clear hb
    rw [hp, Bool.true_and]
    cases d : padm m g false cl code ch
    · go_wp2_with fail
      refine (works_c _).mono ?_
      rintro e w3 ⟨rfl, hb⟩
      have HB3 := Lib.hid (HB2.out.trans (hb.mono HB2.out.size))
      clear hb
      go_wp2_with fail
      go_ret
      exact ⟨rfl, HB3.out⟩
    · have r := Lib.hid (padm_mono m g m' g' false B cl code ch BM.out BG.out (by intro h; first | rfl | cases h) d)
      clear d
      go_wp2_with fail
      refine (admits_c m' k B W P c i q g' a cl code ch _).mono ?_
      rintro e w3 ⟨rfl, hb⟩
      have HB3 := Lib.hid (HB2.out.trans (hb.mono HB2.out.size))
      clear hb
      rw [hp'.out, r.out, Bool.true_and]
      go_wp2_with fail
      refine (works_c _).mono ?_
      rintro e w4 ⟨rfl, hb⟩
      have HB4 := Lib.hid (HB3.out.trans (hb.mono HB3.out.size))
      clear hb
      go_wp2_with fail
      go_ret
      exact ⟨rfl, HB4.out⟩
  · go_enter Try.func9, Try.ntmps9
    go_wp2_with fail
    refine (valid_c m k true W P c i q g a _).mono ?_
    rintro e w1 ⟨rfl, hb⟩
    have HB1 := Lib.hid (show Below w.heap.size w w1 from (((Below.refl w.heap.size w).alloc (Nat.le_refl _) _).alloc (by simp) _).trans (hb.mono (by simp; omega)))
    have hz0 : w.heap.size < w1.heap.size := by have := hb.size; simp at this; omega
    have hz : w.heap.size + 1 < w1.heap.size := by have := hb.size; simp at this; omega
    have c0 : w1.cell? ⟨w.heap.size, 0, none⟩ = some (.int .i64 m) := bcell_keep (w := ((w.alloc (.cells #[.int .i64 m, .int .i64 k, .bool true, .bool W, .bool P, .int .i64 c, .int .i64 i, .int .i64 q, .int .i64 g, .int .i64 a] 23)).alloc (.cells #[.int .i64 cl, .int .i64 code, .int .i64 ch] 35))) (by first | assumption | simp) hb
    have c1 : w1.cell? ⟨w.heap.size, 1, none⟩ = some (.int .i64 k) := bcell_keep (w := ((w.alloc (.cells #[.int .i64 m, .int .i64 k, .bool true, .bool W, .bool P, .int .i64 c, .int .i64 i, .int .i64 q, .int .i64 g, .int .i64 a] 23)).alloc (.cells #[.int .i64 cl, .int .i64 code, .int .i64 ch] 35))) (by first | assumption | simp) hb
    have c2 : w1.cell? ⟨w.heap.size, 2, none⟩ = some (.bool true) := bcell_keep (w := ((w.alloc (.cells #[.int .i64 m, .int .i64 k, .bool true, .bool W, .bool P, .int .i64 c, .int .i64 i, .int .i64 q, .int .i64 g, .int .i64 a] 23)).alloc (.cells #[.int .i64 cl, .int .i64 code, .int .i64 ch] 35))) (by first | assumption | simp) hb
    have c3 : w1.cell? ⟨w.heap.size, 3, none⟩ = some (.bool W) := bcell_keep (w := ((w.alloc (.cells #[.int .i64 m, .int .i64 k, .bool true, .bool W, .bool P, .int .i64 c, .int .i64 i, .int .i64 q, .int .i64 g, .int .i64 a] 23)).alloc (.cells #[.int .i64 cl, .int .i64 code, .int .i64 ch] 35))) (by first | assumption | simp) hb
    have c4 : w1.cell? ⟨w.heap.size, 4, none⟩ = some (.bool P) := bcell_keep (w := ((w.alloc (.cells #[.int .i64 m, .int .i64 k, .bool true, .bool W, .bool P, .int .i64 c, .int .i64 i, .int .i64 q, .int .i64 g, .int .i64 a] 23)).alloc (.cells #[.int .i64 cl, .int .i64 code, .int .i64 ch] 35))) (by first | assumption | simp) hb
    have c5 : w1.cell? ⟨w.heap.size, 5, none⟩ = some (.int .i64 c) := bcell_keep (w := ((w.alloc (.cells #[.int .i64 m, .int .i64 k, .bool true, .bool W, .bool P, .int .i64 c, .int .i64 i, .int .i64 q, .int .i64 g, .int .i64 a] 23)).alloc (.cells #[.int .i64 cl, .int .i64 code, .int .i64 ch] 35))) (by first | assumption | simp) hb
    have c6 : w1.cell? ⟨w.heap.size, 6, none⟩ = some (.int .i64 i) := bcell_keep (w := ((w.alloc (.cells #[.int .i64 m, .int .i64 k, .bool true, .bool W, .bool P, .int .i64 c, .int .i64 i, .int .i64 q, .int .i64 g, .int .i64 a] 23)).alloc (.cells #[.int .i64 cl, .int .i64 code, .int .i64 ch] 35))) (by first | assumption | simp) hb
    have c7 : w1.cell? ⟨w.heap.size, 7, none⟩ = some (.int .i64 q) := bcell_keep (w := ((w.alloc (.cells #[.int .i64 m, .int .i64 k, .bool true, .bool W, .bool P, .int .i64 c, .int .i64 i, .int .i64 q, .int .i64 g, .int .i64 a] 23)).alloc (.cells #[.int .i64 cl, .int .i64 code, .int .i64 ch] 35))) (by first | assumption | simp) hb
    have c8 : w1.cell? ⟨w.heap.size, 8, none⟩ = some (.int .i64 g) := bcell_keep (w := ((w.alloc (.cells #[.int .i64 m, .int .i64 k, .bool true, .bool W, .bool P, .int .i64 c, .int .i64 i, .int .i64 q, .int .i64 g, .int .i64 a] 23)).alloc (.cells #[.int .i64 cl, .int .i64 code, .int .i64 ch] 35))) (by first | assumption | simp) hb
    have c9 : w1.cell? ⟨w.heap.size, 9, none⟩ = some (.int .i64 a) := bcell_keep (w := ((w.alloc (.cells #[.int .i64 m, .int .i64 k, .bool true, .bool W, .bool P, .int .i64 c, .int .i64 i, .int .i64 q, .int .i64 g, .int .i64 a] 23)).alloc (.cells #[.int .i64 cl, .int .i64 code, .int .i64 ch] 35))) (by first | assumption | simp) hb
    have ca0 : w1.cell? ⟨w.heap.size + 1, 0, none⟩ = some (.int .i64 cl) := bcell_keep (w := ((w.alloc (.cells #[.int .i64 m, .int .i64 k, .bool true, .bool W, .bool P, .int .i64 c, .int .i64 i, .int .i64 q, .int .i64 g, .int .i64 a] 23)).alloc (.cells #[.int .i64 cl, .int .i64 code, .int .i64 ch] 35))) (by first | assumption | simp) hb
    have ca1 : w1.cell? ⟨w.heap.size + 1, 1, none⟩ = some (.int .i64 code) := bcell_keep (w := ((w.alloc (.cells #[.int .i64 m, .int .i64 k, .bool true, .bool W, .bool P, .int .i64 c, .int .i64 i, .int .i64 q, .int .i64 g, .int .i64 a] 23)).alloc (.cells #[.int .i64 cl, .int .i64 code, .int .i64 ch] 35))) (by first | assumption | simp) hb
    have ca2 : w1.cell? ⟨w.heap.size + 1, 2, none⟩ = some (.int .i64 ch) := bcell_keep (w := ((w.alloc (.cells #[.int .i64 m, .int .i64 k, .bool true, .bool W, .bool P, .int .i64 c, .int .i64 i, .int .i64 q, .int .i64 g, .int .i64 a] 23)).alloc (.cells #[.int .i64 cl, .int .i64 code, .int .i64 ch] 35))) (by first | assumption | simp) hb
    clear hb
    rw [hp]
    go_wp2_with fail
    refine (admits_c m k true W P c i q g a cl code ch _).mono ?_
    rintro e w2 ⟨rfl, hb⟩
    have HB2 := Lib.hid ((HB1.out.alloc HB1.out.size _).trans (hb.mono (by have := HB1.out.size; simp; omega)))
    have q0' : w2.cell? ⟨w1.heap.size, 0, none⟩ = some (.int .i64 m') := bcell_keep (w := (w1.alloc (.cells #[.int .i64 m', .int .i64 k, .bool true, .bool W, .bool P, .int .i64 c, .int .i64 i, .int .i64 q, .int .i64 g', .int .i64 a] 23))) (by simp) hb
    have q1' : w2.cell? ⟨w1.heap.size, 1, none⟩ = some (.int .i64 k) := bcell_keep (w := (w1.alloc (.cells #[.int .i64 m', .int .i64 k, .bool true, .bool W, .bool P, .int .i64 c, .int .i64 i, .int .i64 q, .int .i64 g', .int .i64 a] 23))) (by simp) hb
    have q2' : w2.cell? ⟨w1.heap.size, 2, none⟩ = some (.bool true) := bcell_keep (w := (w1.alloc (.cells #[.int .i64 m', .int .i64 k, .bool true, .bool W, .bool P, .int .i64 c, .int .i64 i, .int .i64 q, .int .i64 g', .int .i64 a] 23))) (by simp) hb
    have q3' : w2.cell? ⟨w1.heap.size, 3, none⟩ = some (.bool W) := bcell_keep (w := (w1.alloc (.cells #[.int .i64 m', .int .i64 k, .bool true, .bool W, .bool P, .int .i64 c, .int .i64 i, .int .i64 q, .int .i64 g', .int .i64 a] 23))) (by simp) hb
    have q4' : w2.cell? ⟨w1.heap.size, 4, none⟩ = some (.bool P) := bcell_keep (w := (w1.alloc (.cells #[.int .i64 m', .int .i64 k, .bool true, .bool W, .bool P, .int .i64 c, .int .i64 i, .int .i64 q, .int .i64 g', .int .i64 a] 23))) (by simp) hb
    have q5' : w2.cell? ⟨w1.heap.size, 5, none⟩ = some (.int .i64 c) := bcell_keep (w := (w1.alloc (.cells #[.int .i64 m', .int .i64 k, .bool true, .bool W, .bool P, .int .i64 c, .int .i64 i, .int .i64 q, .int .i64 g', .int .i64 a] 23))) (by simp) hb
    have q6' : w2.cell? ⟨w1.heap.size, 6, none⟩ = some (.int .i64 i) := bcell_keep (w := (w1.alloc (.cells #[.int .i64 m', .int .i64 k, .bool true, .bool W, .bool P, .int .i64 c, .int .i64 i, .int .i64 q, .int .i64 g', .int .i64 a] 23))) (by simp) hb
    have q7' : w2.cell? ⟨w1.heap.size, 7, none⟩ = some (.int .i64 q) := bcell_keep (w := (w1.alloc (.cells #[.int .i64 m', .int .i64 k, .bool true, .bool W, .bool P, .int .i64 c, .int .i64 i, .int .i64 q, .int .i64 g', .int .i64 a] 23))) (by simp) hb
    have q8' : w2.cell? ⟨w1.heap.size, 8, none⟩ = some (.int .i64 g') := bcell_keep (w := (w1.alloc (.cells #[.int .i64 m', .int .i64 k, .bool true, .bool W, .bool P, .int .i64 c, .int .i64 i, .int .i64 q, .int .i64 g', .int .i64 a] 23))) (by simp) hb
    have q9' : w2.cell? ⟨w1.heap.size, 9, none⟩ = some (.int .i64 a) := bcell_keep (w := (w1.alloc (.cells #[.int .i64 m', .int .i64 k, .bool true, .bool W, .bool P, .int .i64 c, .int .i64 i, .int .i64 q, .int .i64 g', .int .i64 a] 23))) (by simp) hb
    have d0 : w2.cell? ⟨w.heap.size, 0, none⟩ = some (.int .i64 m) := bcell_keep (w := (w1.alloc (.cells #[.int .i64 m', .int .i64 k, .bool true, .bool W, .bool P, .int .i64 c, .int .i64 i, .int .i64 q, .int .i64 g', .int .i64 a] 23))) (by rw [World.cell?_alloc_lt _ _ _ (by exact hz0)]; exact c0) hb
    have d1 : w2.cell? ⟨w.heap.size, 1, none⟩ = some (.int .i64 k) := bcell_keep (w := (w1.alloc (.cells #[.int .i64 m', .int .i64 k, .bool true, .bool W, .bool P, .int .i64 c, .int .i64 i, .int .i64 q, .int .i64 g', .int .i64 a] 23))) (by rw [World.cell?_alloc_lt _ _ _ (by exact hz0)]; exact c1) hb
    have d2 : w2.cell? ⟨w.heap.size, 2, none⟩ = some (.bool true) := bcell_keep (w := (w1.alloc (.cells #[.int .i64 m', .int .i64 k, .bool true, .bool W, .bool P, .int .i64 c, .int .i64 i, .int .i64 q, .int .i64 g', .int .i64 a] 23))) (by rw [World.cell?_alloc_lt _ _ _ (by exact hz0)]; exact c2) hb
    have d3 : w2.cell? ⟨w.heap.size, 3, none⟩ = some (.bool W) := bcell_keep (w := (w1.alloc (.cells #[.int .i64 m', .int .i64 k, .bool true, .bool W, .bool P, .int .i64 c, .int .i64 i, .int .i64 q, .int .i64 g', .int .i64 a] 23))) (by rw [World.cell?_alloc_lt _ _ _ (by exact hz0)]; exact c3) hb
    have d4 : w2.cell? ⟨w.heap.size, 4, none⟩ = some (.bool P) := bcell_keep (w := (w1.alloc (.cells #[.int .i64 m', .int .i64 k, .bool true, .bool W, .bool P, .int .i64 c, .int .i64 i, .int .i64 q, .int .i64 g', .int .i64 a] 23))) (by rw [World.cell?_alloc_lt _ _ _ (by exact hz0)]; exact c4) hb
    have d5 : w2.cell? ⟨w.heap.size, 5, none⟩ = some (.int .i64 c) := bcell_keep (w := (w1.alloc (.cells #[.int .i64 m', .int .i64 k, .bool true, .bool W, .bool P, .int .i64 c, .int .i64 i, .int .i64 q, .int .i64 g', .int .i64 a] 23))) (by rw [World.cell?_alloc_lt _ _ _ (by exact hz0)]; exact c5) hb
    have d6 : w2.cell? ⟨w.heap.size, 6, none⟩ = some (.int .i64 i) := bcell_keep (w := (w1.alloc (.cells #[.int .i64 m', .int .i64 k, .bool true, .bool W, .bool P, .int .i64 c, .int .i64 i, .int .i64 q, .int .i64 g', .int .i64 a] 23))) (by rw [World.cell?_alloc_lt _ _ _ (by exact hz0)]; exact c6) hb
    have d7 : w2.cell? ⟨w.heap.size, 7, none⟩ = some (.int .i64 q) := bcell_keep (w := (w1.alloc (.cells #[.int .i64 m', .int .i64 k, .bool true, .bool W, .bool P, .int .i64 c, .int .i64 i, .int .i64 q, .int .i64 g', .int .i64 a] 23))) (by rw [World.cell?_alloc_lt _ _ _ (by exact hz0)]; exact c7) hb
    have d8 : w2.cell? ⟨w.heap.size, 8, none⟩ = some (.int .i64 g) := bcell_keep (w := (w1.alloc (.cells #[.int .i64 m', .int .i64 k, .bool true, .bool W, .bool P, .int .i64 c, .int .i64 i, .int .i64 q, .int .i64 g', .int .i64 a] 23))) (by rw [World.cell?_alloc_lt _ _ _ (by exact hz0)]; exact c8) hb
    have d9 : w2.cell? ⟨w.heap.size, 9, none⟩ = some (.int .i64 a) := bcell_keep (w := (w1.alloc (.cells #[.int .i64 m', .int .i64 k, .bool true, .bool W, .bool P, .int .i64 c, .int .i64 i, .int .i64 q, .int .i64 g', .int .i64 a] 23))) (by rw [World.cell?_alloc_lt _ _ _ (by exact hz0)]; exact c9) hb
    have da0 : w2.cell? ⟨w.heap.size + 1, 0, none⟩ = some (.int .i64 cl) := bcell_keep (w := (w1.alloc (.cells #[.int .i64 m', .int .i64 k, .bool true, .bool W, .bool P, .int .i64 c, .int .i64 i, .int .i64 q, .int .i64 g', .int .i64 a] 23))) (by rw [World.cell?_alloc_lt _ _ _ (by exact hz)]; exact ca0) hb
    have da1 : w2.cell? ⟨w.heap.size + 1, 1, none⟩ = some (.int .i64 code) := bcell_keep (w := (w1.alloc (.cells #[.int .i64 m', .int .i64 k, .bool true, .bool W, .bool P, .int .i64 c, .int .i64 i, .int .i64 q, .int .i64 g', .int .i64 a] 23))) (by rw [World.cell?_alloc_lt _ _ _ (by exact hz)]; exact ca1) hb
    have da2 : w2.cell? ⟨w.heap.size + 1, 2, none⟩ = some (.int .i64 ch) := bcell_keep (w := (w1.alloc (.cells #[.int .i64 m', .int .i64 k, .bool true, .bool W, .bool P, .int .i64 c, .int .i64 i, .int .i64 q, .int .i64 g', .int .i64 a] 23))) (by rw [World.cell?_alloc_lt _ _ _ (by exact hz)]; exact ca2) hb
    clear hb
    rw [hp, Bool.true_and]
    cases d : padm m g true cl code ch
    · go_wp2_with fail
      refine (works_c _).mono ?_
      rintro e w3 ⟨rfl, hb⟩
      have HB3 := Lib.hid (HB2.out.trans (hb.mono HB2.out.size))
      clear hb
      go_wp2_with fail
      go_ret
      exact ⟨rfl, HB3.out⟩
    · have r := Lib.hid (padm_mono m g m' g' true true cl code ch BM.out BG.out (by intro h; first | rfl | cases h) d)
      clear d
      go_wp2_with fail
      refine (admits_c m' k true W P c i q g' a cl code ch _).mono ?_
      rintro e w3 ⟨rfl, hb⟩
      have HB3 := Lib.hid (HB2.out.trans (hb.mono HB2.out.size))
      clear hb
      rw [hp'.out, r.out, Bool.true_and]
      go_wp2_with fail
      refine (works_c _).mono ?_
      rintro e w4 ⟨rfl, hb⟩
      have HB4 := Lib.hid (HB3.out.trans (hb.mono HB3.out.size))
      clear hb
      go_wp2_with fail
      go_ret
      exact ⟨rfl, HB4.out⟩

theorem pswMasks_walk (m : Int) (k : Int) (M : Bool) (W : Bool) (P : Bool) (c : Int) (i : Int) (q : Int) (g : Int) (a : Int) (more : Int) (cl : Int) (code : Int) (ch : Int) (w : World) (w0_0 : (Lit.int .i64 m).wf = true) (w0_1 : (Lit.int .i64 k).wf = true) (w0_5 : (Lit.int .i64 c).wf = true) (w0_6 : (Lit.int .i64 i).wf = true) (w0_7 : (Lit.int .i64 q).wf = true) (w0_8 : (Lit.int .i64 g).wf = true) (w0_9 : (Lit.int .i64 a).wf = true) (w1 : (Lit.int .i64 more).wf = true) (w2_0 : (Lit.int .i64 cl).wf = true) (w2_1 : (Lit.int .i64 code).wf = true) (w2_2 : (Lit.int .i64 ch).wf = true) :
    Calls Try.prog 9 #[.agg #[.int .i64 m, .int .i64 k, .bool M, .bool W, .bool P, .int .i64 c, .int .i64 i, .int .i64 q, .int .i64 g, .int .i64 a], .int .i64 more, .agg #[.int .i64 cl, .int .i64 code, .int .i64 ch]] w fun e w' => e = .returned (.bool true) ∧ Below w.heap.size w w' := by
  have l1 := (bounds_i64 w1).1
  have u1 := (bounds_i64 w1).2
  cases hp : pok m k c i q g a
  · exact pswMasks_no m k M W P c i q g a more cl code ch w hp
  · exact pswMasks_yes m k M W P c i q g a more cl code ch w l1 u1 hp
end Go.Proofs.Ytfjnmlklpebfcaa
