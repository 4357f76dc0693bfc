/- Rows.GeneralKnownSaid (jobshop/jobshoplaw09.GeneralKnown): whatever the input, the law returns true and each argument reads as it did. The frame of the proof; the walk lies in GeneralKnownW. No conditions; the last text of 25. Conditions: as each states them. -/
import Derived.Test.YthjdjbipfdigeaaKn1
import Derived.Test.YthjdjbipfdigeaaKn24
namespace Go.Proofs.Ythjdjbipfdigeaa
open Go.RowKit
set_option maxRecDepth 100000
set_option linter.unusedVariables false
set_option linter.unusedSimpArgs false
set_option maxRecDepth 1000000 in
set_option maxHeartbeats 8000000 in
theorem generalKnown_walk (w : World) : Calls Try.prog 9 #[] w fun e w' => e = .returned (.bool true) ∧ Below w.heap.size w w' := by
  have NC := Lib.hid (fun W => new_yes 1 (by omega) (by omega) W)
  rw [show (((2048 * 1 : Nat) : Int)) = 2048 from rfl] at NC
  have HB := Lib.hid (Below.refl w.heap.size w)
  go_enter Try.func9, Try.ntmps9
  go_wp2_with fail
  refine (NC.out _).mono ?_
  rintro e w1_ ⟨v, rfl, F, rfl, hS, hb, hF1, hF2, hF3⟩
  have S := Lib.hid hS
  clear hS NC
  replace HB := Lib.hid (HB.out.trans (hb.mono HB.out.size))
  clear hb
  have hlg := S.out.ltg
  have hlb := S.out.ltb
  have hlk := S.out.ltk
  go_upto_region 5 with fail
  have hsz1 := HB.out.size
  obtain ⟨w2_, hW⟩ : ∃ V, (w1_.alloc (.cells #[.int .i64 0, .int .i64 0, .bool false, .bool false, .bool false, .int .i64 0, .int .i64 0, .int .i64 0, .int .i64 0, .int .i64 0] 30)) = V := ⟨_, rfl⟩
  have hb : Below w1_.heap.size w1_ w2_ := by rw [← hW]; exact (Below.alloc (Below.refl _ _) (by first | exact Nat.le_refl _ | (simp; done) | (simp; omega)) _)
  obtain ⟨gZ, hgZ⟩ : ∃ q, w1_.heap.size = q := ⟨_, rfl⟩
  have Z_ : Hid (Bk w2_ gZ 30 [.int .i64 0, .int .i64 0, .bool false, .bool false, .bool false, .int .i64 0, .int .i64 0, .int .i64 0, .int .i64 0, .int .i64 0]) := by
    rw [← hW, ← hgZ]
    have hq := Bk.new w1_ [.int .i64 0, .int .i64 0, .bool false, .bool false, .bool false, .int .i64 0, .int .i64 0, .int .i64 0, .int .i64 0, .int .i64 0] 30
    exact hq
  have nZ : w1_.heap.size ≤ gZ := by omega
  rw [hW]
  try rw [hgZ]
  replace HB := Lib.hid (HB.out.trans (hb.mono HB.out.size))
  replace S := Lib.hid (S.out.belowS hb)
  clear hb
  have Z := Z_
  clear Z_
  clear hW hgZ
  have kz0 : w2_.cell? ⟨gZ, 0, none⟩ = some (.int .i64 0) := Z.out.cell (c := 0) rfl
  have kz1 : w2_.cell? ⟨gZ, 1, none⟩ = some (.int .i64 0) := Z.out.cell (c := 1) rfl
  have kz2 : w2_.cell? ⟨gZ, 2, none⟩ = some (.bool false) := Z.out.cell (c := 2) rfl
  have kz3 : w2_.cell? ⟨gZ, 3, none⟩ = some (.bool false) := Z.out.cell (c := 3) rfl
  have kz4 : w2_.cell? ⟨gZ, 4, none⟩ = some (.bool false) := Z.out.cell (c := 4) rfl
  have kz5 : w2_.cell? ⟨gZ, 5, none⟩ = some (.int .i64 0) := Z.out.cell (c := 5) rfl
  have kz6 : w2_.cell? ⟨gZ, 6, none⟩ = some (.int .i64 0) := Z.out.cell (c := 6) rfl
  have kz7 : w2_.cell? ⟨gZ, 7, none⟩ = some (.int .i64 0) := Z.out.cell (c := 7) rfl
  have kz8 : w2_.cell? ⟨gZ, 8, none⟩ = some (.int .i64 0) := Z.out.cell (c := 8) rfl
  have kz9 : w2_.cell? ⟨gZ, 9, none⟩ = some (.int .i64 0) := Z.out.cell (c := 9) rfl
  go_wp2_with fail
  clear kz0 kz1 kz2 kz3 kz4 kz5 kz6 kz7 kz8 kz9
  refine (run_k1 F _ S.out).mono ?_
  rintro e w3_ ⟨rfl, hs, hc⟩
  replace HB := Lib.hid (HB.out.trans (hc.below HB.out.size (by intro z hz; simp at hz; omega)))
  replace S := Lib.hid hs
  replace Z := Lib.hid (Z.out.ch hc (by simp; omega))
  clear hc
  clear hs
  go_upto_region 6 with fail
  have hsz3 := HB.out.size
  obtain ⟨w4_, hW⟩ : ∃ V, ((w3_.alloc (.cells #[.int .u32 0, .int .u32 5, .int .u32 4294967291, .int .u32 0, .int .u32 0, .int .u32 0, .int .u32 0, .int .u32 0, .int .u32 0, .int .u32 0, .int .u32 0, .int .u32 0, .int .u32 0, .int .u32 0, .int .u32 0, .int .u32 0] 28)).alloc (.cells #[.int .i64 0, .int .i64 0, .bool false, .bool false, .bool false, .int .i64 0, .int .i64 0, .int .i64 2, .int .i64 0, .int .i64 0] 30)) = V := ⟨_, rfl⟩
  have hb : Below w3_.heap.size w3_ w4_ := by rw [← hW]; exact (Below.alloc (Below.alloc (Below.refl _ _) (by first | exact Nat.le_refl _ | (simp; done) | (simp; omega)) _) (by first | exact Nat.le_refl _ | (simp; done) | (simp; omega)) _)
  obtain ⟨gT4, hgT4⟩ : ∃ q, w3_.heap.size = q := ⟨_, rfl⟩
  have T4_ : Hid (Bk w4_ gT4 28 [.int .u32 0, .int .u32 5, .int .u32 4294967291, .int .u32 0, .int .u32 0, .int .u32 0, .int .u32 0, .int .u32 0, .int .u32 0, .int .u32 0, .int .u32 0, .int .u32 0, .int .u32 0, .int .u32 0, .int .u32 0, .int .u32 0]) := by
    rw [← hW, ← hgT4]
    have hq := Bk.new w3_ [.int .u32 0, .int .u32 5, .int .u32 4294967291, .int .u32 0, .int .u32 0, .int .u32 0, .int .u32 0, .int .u32 0, .int .u32 0, .int .u32 0, .int .u32 0, .int .u32 0, .int .u32 0, .int .u32 0, .int .u32 0, .int .u32 0] 28
    exact hq.alloc _
  have nT4 : w3_.heap.size ≤ gT4 := by omega
  obtain ⟨gP5, hgP5⟩ : ∃ q, w3_.heap.size + 1 = q := ⟨_, rfl⟩
  have P5_ : Hid (Bk w4_ gP5 30 [.int .i64 0, .int .i64 0, .bool false, .bool false, .bool false, .int .i64 0, .int .i64 0, .int .i64 2, .int .i64 0, .int .i64 0]) := by
    rw [← hW, ← hgP5]
    have hq := Bk.new (w3_.alloc (.cells #[.int .u32 0, .int .u32 5, .int .u32 4294967291, .int .u32 0, .int .u32 0, .int .u32 0, .int .u32 0, .int .u32 0, .int .u32 0, .int .u32 0, .int .u32 0, .int .u32 0, .int .u32 0, .int .u32 0, .int .u32 0, .int .u32 0] 28)) [.int .i64 0, .int .i64 0, .bool false, .bool false, .bool false, .int .i64 0, .int .i64 0, .int .i64 2, .int .i64 0, .int .i64 0] 30
    rw [World.size_alloc] at hq
    exact hq
  have nP5 : w3_.heap.size ≤ gP5 := by omega
  have oT4P5 : gT4 < gP5 := by omega
  have oZ_T4 : gZ < gT4 := by have := Z.out.lt; omega
  have oZ_P5 : gZ < gP5 := by have := Z.out.lt; omega
  rw [hW]
  try rw [hgP5]
  try rw [hgT4]
  replace HB := Lib.hid (HB.out.trans (hb.mono HB.out.size))
  replace S := Lib.hid (S.out.belowS hb)
  replace Z := Lib.hid (Z.out.keep hb)
  clear hb
  have T4 := T4_
  clear T4_
  have P5 := P5_
  clear P5_
  clear hW hgT4 hgP5
  have kz0 : w4_.cell? ⟨gZ, 0, none⟩ = some (.int .i64 0) := Z.out.cell (c := 0) rfl
  have kz1 : w4_.cell? ⟨gZ, 1, none⟩ = some (.int .i64 0) := Z.out.cell (c := 1) rfl
  have kz2 : w4_.cell? ⟨gZ, 2, none⟩ = some (.bool false) := Z.out.cell (c := 2) rfl
  have kz3 : w4_.cell? ⟨gZ, 3, none⟩ = some (.bool false) := Z.out.cell (c := 3) rfl
  have kz4 : w4_.cell? ⟨gZ, 4, none⟩ = some (.bool false) := Z.out.cell (c := 4) rfl
  have kz5 : w4_.cell? ⟨gZ, 5, none⟩ = some (.int .i64 0) := Z.out.cell (c := 5) rfl
  have kz6 : w4_.cell? ⟨gZ, 6, none⟩ = some (.int .i64 0) := Z.out.cell (c := 6) rfl
  have kz7 : w4_.cell? ⟨gZ, 7, none⟩ = some (.int .i64 0) := Z.out.cell (c := 7) rfl
  have kz8 : w4_.cell? ⟨gZ, 8, none⟩ = some (.int .i64 0) := Z.out.cell (c := 8) rfl
  have kz9 : w4_.cell? ⟨gZ, 9, none⟩ = some (.int .i64 0) := Z.out.cell (c := 9) rfl
  go_wp2_with fail
  clear kz0 kz1 kz2 kz3 kz4 kz5 kz6 kz7 kz8 kz9
  refine (run_k2 F _ S.out).mono ?_
  rintro e w5_ ⟨rfl, hs, hc⟩
  replace HB := Lib.hid (HB.out.trans (hc.below HB.out.size (by intro z hz; simp at hz; omega)))
  replace S := Lib.hid hs
  replace Z := Lib.hid (Z.out.ch hc (by simp; omega))
  replace T4 := Lib.hid (T4.out.ch hc (by simp; omega))
  replace P5 := Lib.hid (P5.out.ch hc (by simp; omega))
  clear hc
  clear hs
  go_upto_region 7 with fail
  have hsz5 := HB.out.size
  obtain ⟨w6_, hW⟩ : ∃ V, ((w5_.alloc (.cells #[.int .u32 0, .int .u32 2147483648, .int .u32 2147483648, .int .u32 0, .int .u32 0, .int .u32 0, .int .u32 0, .int .u32 0, .int .u32 0, .int .u32 0, .int .u32 0, .int .u32 0, .int .u32 0, .int .u32 0, .int .u32 0, .int .u32 0] 28)).alloc (.cells #[.int .i64 0, .int .i64 0, .bool false, .bool false, .bool false, .int .i64 0, .int .i64 0, .int .i64 3, .int .i64 0, .int .i64 0] 30)) = V := ⟨_, rfl⟩
  have hb : Below w5_.heap.size w5_ w6_ := by rw [← hW]; exact (Below.alloc (Below.alloc (Below.refl _ _) (by first | exact Nat.le_refl _ | (simp; done) | (simp; omega)) _) (by first | exact Nat.le_refl _ | (simp; done) | (simp; omega)) _)
  obtain ⟨gT7, hgT7⟩ : ∃ q, w5_.heap.size = q := ⟨_, rfl⟩
  have T7_ : Hid (Bk w6_ gT7 28 [.int .u32 0, .int .u32 2147483648, .int .u32 2147483648, .int .u32 0, .int .u32 0, .int .u32 0, .int .u32 0, .int .u32 0, .int .u32 0, .int .u32 0, .int .u32 0, .int .u32 0, .int .u32 0, .int .u32 0, .int .u32 0, .int .u32 0]) := by
    rw [← hW, ← hgT7]
    have hq := Bk.new w5_ [.int .u32 0, .int .u32 2147483648, .int .u32 2147483648, .int .u32 0, .int .u32 0, .int .u32 0, .int .u32 0, .int .u32 0, .int .u32 0, .int .u32 0, .int .u32 0, .int .u32 0, .int .u32 0, .int .u32 0, .int .u32 0, .int .u32 0] 28
    exact hq.alloc _
  have nT7 : w5_.heap.size ≤ gT7 := by omega
  obtain ⟨gP8, hgP8⟩ : ∃ q, w5_.heap.size + 1 = q := ⟨_, rfl⟩
  have P8_ : Hid (Bk w6_ gP8 30 [.int .i64 0, .int .i64 0, .bool false, .bool false, .bool false, .int .i64 0, .int .i64 0, .int .i64 3, .int .i64 0, .int .i64 0]) := by
    rw [← hW, ← hgP8]
    have hq := Bk.new (w5_.alloc (.cells #[.int .u32 0, .int .u32 2147483648, .int .u32 2147483648, .int .u32 0, .int .u32 0, .int .u32 0, .int .u32 0, .int .u32 0, .int .u32 0, .int .u32 0, .int .u32 0, .int .u32 0, .int .u32 0, .int .u32 0, .int .u32 0, .int .u32 0] 28)) [.int .i64 0, .int .i64 0, .bool false, .bool false, .bool false, .int .i64 0, .int .i64 0, .int .i64 3, .int .i64 0, .int .i64 0] 30
    rw [World.size_alloc] at hq
    exact hq
  have nP8 : w5_.heap.size ≤ gP8 := by omega
  have oT7P8 : gT7 < gP8 := by omega
  have oZ_T7 : gZ < gT7 := by have := Z.out.lt; omega
  have oZ_P8 : gZ < gP8 := by have := Z.out.lt; omega
  have oT4_T7 : gT4 < gT7 := by have := T4.out.lt; omega
  have oT4_P8 : gT4 < gP8 := by have := T4.out.lt; omega
  have oP5_T7 : gP5 < gT7 := by have := P5.out.lt; omega
  have oP5_P8 : gP5 < gP8 := by have := P5.out.lt; omega
  rw [hW]
  try rw [hgP8]
  try rw [hgT7]
  replace HB := Lib.hid (HB.out.trans (hb.mono HB.out.size))
  replace S := Lib.hid (S.out.belowS hb)
  replace Z := Lib.hid (Z.out.keep hb)
  replace T4 := Lib.hid (T4.out.keep hb)
  replace P5 := Lib.hid (P5.out.keep hb)
  clear hb
  have T7 := T7_
  clear T7_
  have P8 := P8_
  clear P8_
  clear hW hgT7 hgP8
  have ka1 : w6_.cell? ⟨gT4, 1, none⟩ = some (.int .u32 5) := T4.out.cell (c := 1) rfl
  have kb7 : w6_.cell? ⟨gP5, 7, none⟩ = some (.int .i64 2) := P5.out.cell (c := 7) rfl
  have kc1 : w6_.cell? ⟨gT7, 1, none⟩ = some (.int .u32 2147483648) := T7.out.cell (c := 1) rfl
  have kd7 : w6_.cell? ⟨gP8, 7, none⟩ = some (.int .i64 3) := P8.out.cell (c := 7) rfl
  go_upto_region 9 with fail
  clear ka1 kb7 kc1 kd7
  clear P5
  clear T7
  clear P8
  go_wp2_with fail
  obtain ⟨w7_, hW⟩ : ∃ V, w6_.alloc (.cells #[.int .u8 0, .int .u8 0, .int .u8 0, .int .u8 3] 5) = V := ⟨_, rfl⟩
  obtain ⟨gy7, hgy⟩ : ∃ q, w6_.heap.size = q := ⟨_, rfl⟩
  have hy : Byt w7_ (some ⟨gy7, 0, none⟩) 4 [0, 0, 0, 3] := by rw [← hW, ← hgy]; exact byt_new _ [0, 0, 0, 3] (by decide) _ (by rfl) 4 rfl _
  have hb : Below w6_.heap.size w6_ w7_ := by rw [← hW]; exact (Below.refl _ _).alloc (Nat.le_refl _) _
  rw [hW]
  try rw [hgy]
  clear hW hgy
  replace HB := Lib.hid (HB.out.trans (hb.mono HB.out.size))
  replace S := Lib.hid (S.out.belowS hb)
  replace Z := Lib.hid (Z.out.keep hb)
  replace T4 := Lib.hid (T4.out.keep hb)
  clear hb
  refine (put9 _ S.out 400 4 _ _ [0, 0, 0, 3] (by rw [z0_len]; omega) (by rw [z0_len]; omega) hy).mono ?_
  rintro e w8_ ⟨rfl, hs', hc⟩
  have hs : St 71 w8_ F K1_ (z0 1) := hs'
  clear hs' hy
  replace HB := Lib.hid (HB.out.trans (hc.below HB.out.size (by intro z hz; simp at hz; omega)))
  replace S := Lib.hid hs
  replace Z := Lib.hid (Z.out.ch hc (by simp; omega))
  replace T4 := Lib.hid (T4.out.ch hc (by simp; omega))
  clear hc
  clear hs
  have kt0 : w8_.cell? ⟨gT4, 0, none⟩ = some (.int .u32 0) := T4.out.cell (c := 0) rfl
  have kt1 : w8_.cell? ⟨gT4, 1, none⟩ = some (.int .u32 5) := T4.out.cell (c := 1) rfl
  have kt2 : w8_.cell? ⟨gT4, 2, none⟩ = some (.int .u32 4294967291) := T4.out.cell (c := 2) rfl
  have kt3 : w8_.cell? ⟨gT4, 3, none⟩ = some (.int .u32 0) := T4.out.cell (c := 3) rfl
  have kt4 : w8_.cell? ⟨gT4, 4, none⟩ = some (.int .u32 0) := T4.out.cell (c := 4) rfl
  have kt5 : w8_.cell? ⟨gT4, 5, none⟩ = some (.int .u32 0) := T4.out.cell (c := 5) rfl
  have kt6 : w8_.cell? ⟨gT4, 6, none⟩ = some (.int .u32 0) := T4.out.cell (c := 6) rfl
  have kt7 : w8_.cell? ⟨gT4, 7, none⟩ = some (.int .u32 0) := T4.out.cell (c := 7) rfl
  have kt8 : w8_.cell? ⟨gT4, 8, none⟩ = some (.int .u32 0) := T4.out.cell (c := 8) rfl
  have kt9 : w8_.cell? ⟨gT4, 9, none⟩ = some (.int .u32 0) := T4.out.cell (c := 9) rfl
  have kt10 : w8_.cell? ⟨gT4, 10, none⟩ = some (.int .u32 0) := T4.out.cell (c := 10) rfl
  have kt11 : w8_.cell? ⟨gT4, 11, none⟩ = some (.int .u32 0) := T4.out.cell (c := 11) rfl
  have kt12 : w8_.cell? ⟨gT4, 12, none⟩ = some (.int .u32 0) := T4.out.cell (c := 12) rfl
  have kt13 : w8_.cell? ⟨gT4, 13, none⟩ = some (.int .u32 0) := T4.out.cell (c := 13) rfl
  have kt14 : w8_.cell? ⟨gT4, 14, none⟩ = some (.int .u32 0) := T4.out.cell (c := 14) rfl
  have kt15 : w8_.cell? ⟨gT4, 15, none⟩ = some (.int .u32 0) := T4.out.cell (c := 15) rfl
  have ft0 := T4.out.free 0
  have ft1 := T4.out.free 1
  have ft2 := T4.out.free 2
  have ft3 := T4.out.free 3
  have ft4 := T4.out.free 4
  have ft5 := T4.out.free 5
  have ft6 := T4.out.free 6
  have ft7 := T4.out.free 7
  have ft8 := T4.out.free 8
  have ft9 := T4.out.free 9
  have ft10 := T4.out.free 10
  have ft11 := T4.out.free 11
  have ft12 := T4.out.free 12
  have ft13 := T4.out.free 13
  have ft14 := T4.out.free 14
  have ft15 := T4.out.free 15
  have kz0 : w8_.cell? ⟨gZ, 0, none⟩ = some (.int .i64 0) := Z.out.cell (c := 0) rfl
  have kz1 : w8_.cell? ⟨gZ, 1, none⟩ = some (.int .i64 0) := Z.out.cell (c := 1) rfl
  have kz2 : w8_.cell? ⟨gZ, 2, none⟩ = some (.bool false) := Z.out.cell (c := 2) rfl
  have kz3 : w8_.cell? ⟨gZ, 3, none⟩ = some (.bool false) := Z.out.cell (c := 3) rfl
  have kz4 : w8_.cell? ⟨gZ, 4, none⟩ = some (.bool false) := Z.out.cell (c := 4) rfl
  have kz5 : w8_.cell? ⟨gZ, 5, none⟩ = some (.int .i64 0) := Z.out.cell (c := 5) rfl
  have kz6 : w8_.cell? ⟨gZ, 6, none⟩ = some (.int .i64 0) := Z.out.cell (c := 6) rfl
  have kz7 : w8_.cell? ⟨gZ, 7, none⟩ = some (.int .i64 0) := Z.out.cell (c := 7) rfl
  have kz8 : w8_.cell? ⟨gZ, 8, none⟩ = some (.int .i64 0) := Z.out.cell (c := 8) rfl
  have kz9 : w8_.cell? ⟨gZ, 9, none⟩ = some (.int .i64 0) := Z.out.cell (c := 9) rfl
  go_wp2_with fail
  clear kt0 kt1 kt2 kt3 kt4 kt5 kt6 kt7 kt8 kt9 kt10 kt11 kt12 kt13 kt14 kt15 ft0 ft1 ft2 ft3 ft4 ft5 ft6 ft7 ft8 ft9 ft10 ft11 ft12 ft13 ft14 ft15 kz0 kz1 kz2 kz3 kz4 kz5 kz6 kz7 kz8 kz9
  refine (run_k3 F _ S.out).mono ?_
  rintro e w9_ ⟨rfl, hs, hc⟩
  replace HB := Lib.hid (HB.out.trans (hc.below HB.out.size (by intro z hz; simp at hz; omega)))
  replace S := Lib.hid hs
  replace Z := Lib.hid (Z.out.ch hc (by simp; omega))
  replace T4 := Lib.hid (T4.out.ch hc (by simp; omega))
  clear hc
  clear hs
  have kt0 : w9_.cell? ⟨gT4, 0, none⟩ = some (.int .u32 0) := T4.out.cell (c := 0) rfl
  have kt1 : w9_.cell? ⟨gT4, 1, none⟩ = some (.int .u32 5) := T4.out.cell (c := 1) rfl
  have kt2 : w9_.cell? ⟨gT4, 2, none⟩ = some (.int .u32 4294967291) := T4.out.cell (c := 2) rfl
  have kt3 : w9_.cell? ⟨gT4, 3, none⟩ = some (.int .u32 0) := T4.out.cell (c := 3) rfl
  have kt4 : w9_.cell? ⟨gT4, 4, none⟩ = some (.int .u32 0) := T4.out.cell (c := 4) rfl
  have kt5 : w9_.cell? ⟨gT4, 5, none⟩ = some (.int .u32 0) := T4.out.cell (c := 5) rfl
  have kt6 : w9_.cell? ⟨gT4, 6, none⟩ = some (.int .u32 0) := T4.out.cell (c := 6) rfl
  have kt7 : w9_.cell? ⟨gT4, 7, none⟩ = some (.int .u32 0) := T4.out.cell (c := 7) rfl
  have kt8 : w9_.cell? ⟨gT4, 8, none⟩ = some (.int .u32 0) := T4.out.cell (c := 8) rfl
  have kt9 : w9_.cell? ⟨gT4, 9, none⟩ = some (.int .u32 0) := T4.out.cell (c := 9) rfl
  have kt10 : w9_.cell? ⟨gT4, 10, none⟩ = some (.int .u32 0) := T4.out.cell (c := 10) rfl
  have kt11 : w9_.cell? ⟨gT4, 11, none⟩ = some (.int .u32 0) := T4.out.cell (c := 11) rfl
  have kt12 : w9_.cell? ⟨gT4, 12, none⟩ = some (.int .u32 0) := T4.out.cell (c := 12) rfl
  have kt13 : w9_.cell? ⟨gT4, 13, none⟩ = some (.int .u32 0) := T4.out.cell (c := 13) rfl
  have kt14 : w9_.cell? ⟨gT4, 14, none⟩ = some (.int .u32 0) := T4.out.cell (c := 14) rfl
  have kt15 : w9_.cell? ⟨gT4, 15, none⟩ = some (.int .u32 0) := T4.out.cell (c := 15) rfl
  have ft0 := T4.out.free 0
  have ft1 := T4.out.free 1
  have ft2 := T4.out.free 2
  have ft3 := T4.out.free 3
  have ft4 := T4.out.free 4
  have ft5 := T4.out.free 5
  have ft6 := T4.out.free 6
  have ft7 := T4.out.free 7
  have ft8 := T4.out.free 8
  have ft9 := T4.out.free 9
  have ft10 := T4.out.free 10
  have ft11 := T4.out.free 11
  have ft12 := T4.out.free 12
  have ft13 := T4.out.free 13
  have ft14 := T4.out.free 14
  have ft15 := T4.out.free 15
  go_upto_region 11 with fail
  clear kt0 kt1 kt2 kt3 kt4 kt5 kt6 kt7 kt8 kt9 kt10 kt11 kt12 kt13 kt14 kt15 ft0 ft1 ft2 ft3 ft4 ft5 ft6 ft7 ft8 ft9 ft10 ft11 ft12 ft13 ft14 ft15
  obtain ⟨w10_, hW⟩ : ∃ V, ((((((((((((((((w9_.setCell ⟨gT4, 0, none⟩ (.int .u32 0)).setCell ⟨gT4, 1, none⟩ (.int .u32 0)).setCell ⟨gT4, 2, none⟩ (.int .u32 4294967295)).setCell ⟨gT4, 3, none⟩ (.int .u32 4294967290)).setCell ⟨gT4, 4, none⟩ (.int .u32 0)).setCell ⟨gT4, 5, none⟩ (.int .u32 0)).setCell ⟨gT4, 6, none⟩ (.int .u32 0)).setCell ⟨gT4, 7, none⟩ (.int .u32 0)).setCell ⟨gT4, 8, none⟩ (.int .u32 0)).setCell ⟨gT4, 9, none⟩ (.int .u32 0)).setCell ⟨gT4, 10, none⟩ (.int .u32 0)).setCell ⟨gT4, 11, none⟩ (.int .u32 0)).setCell ⟨gT4, 12, none⟩ (.int .u32 0)).setCell ⟨gT4, 13, none⟩ (.int .u32 0)).setCell ⟨gT4, 14, none⟩ (.int .u32 0)).setCell ⟨gT4, 15, none⟩ (.int .u32 0)) = V := ⟨_, rfl⟩
  have hc : Ch w9_ w10_ [gT4] := by rw [← hW]; exact ch_n16 w9_ gT4 (.int .u32 0) (.int .u32 0) (.int .u32 4294967295) (.int .u32 4294967290) (.int .u32 0) (.int .u32 0) (.int .u32 0) (.int .u32 0) (.int .u32 0) (.int .u32 0) (.int .u32 0) (.int .u32 0) (.int .u32 0) (.int .u32 0) (.int .u32 0) (.int .u32 0)
  have hr : Bk w10_ gT4 28 [.int .u32 0, .int .u32 0, .int .u32 4294967295, .int .u32 4294967290, .int .u32 0, .int .u32 0, .int .u32 0, .int .u32 0, .int .u32 0, .int .u32 0, .int .u32 0, .int .u32 0, .int .u32 0, .int .u32 0, .int .u32 0, .int .u32 0] := by rw [← hW]; exact Bk.sets16 T4.out rfl (.int .u32 0) (.int .u32 0) (.int .u32 4294967295) (.int .u32 4294967290) (.int .u32 0) (.int .u32 0) (.int .u32 0) (.int .u32 0) (.int .u32 0) (.int .u32 0) (.int .u32 0) (.int .u32 0) (.int .u32 0) (.int .u32 0) (.int .u32 0) (.int .u32 0)
  rw [hW]
  clear hW
  replace HB := Lib.hid (HB.out.trans (hc.below HB.out.size (by intro z hz; simp at hz; omega)))
  replace S := Lib.hid (S.out.chd hc (by simp; omega) (by simp; omega) (by simp; omega))
  replace Z := Lib.hid (Z.out.ch hc (by simp; omega))
  replace T4 := Lib.hid hr
  clear hc
  clear hr
  have kz0 : w10_.cell? ⟨gZ, 0, none⟩ = some (.int .i64 0) := Z.out.cell (c := 0) rfl
  have kz1 : w10_.cell? ⟨gZ, 1, none⟩ = some (.int .i64 0) := Z.out.cell (c := 1) rfl
  have kz2 : w10_.cell? ⟨gZ, 2, none⟩ = some (.bool false) := Z.out.cell (c := 2) rfl
  have kz3 : w10_.cell? ⟨gZ, 3, none⟩ = some (.bool false) := Z.out.cell (c := 3) rfl
  have kz4 : w10_.cell? ⟨gZ, 4, none⟩ = some (.bool false) := Z.out.cell (c := 4) rfl
  have kz5 : w10_.cell? ⟨gZ, 5, none⟩ = some (.int .i64 0) := Z.out.cell (c := 5) rfl
  have kz6 : w10_.cell? ⟨gZ, 6, none⟩ = some (.int .i64 0) := Z.out.cell (c := 6) rfl
  have kz7 : w10_.cell? ⟨gZ, 7, none⟩ = some (.int .i64 0) := Z.out.cell (c := 7) rfl
  have kz8 : w10_.cell? ⟨gZ, 8, none⟩ = some (.int .i64 0) := Z.out.cell (c := 8) rfl
  have kz9 : w10_.cell? ⟨gZ, 9, none⟩ = some (.int .i64 0) := Z.out.cell (c := 9) rfl
  go_wp2_with fail
  clear kz0 kz1 kz2 kz3 kz4 kz5 kz6 kz7 kz8 kz9
  refine (run_k4 F _ S.out).mono ?_
  rintro e w11_ ⟨rfl, hs, hc⟩
  replace HB := Lib.hid (HB.out.trans (hc.below HB.out.size (by intro z hz; simp at hz; omega)))
  replace S := Lib.hid hs
  replace Z := Lib.hid (Z.out.ch hc (by simp; omega))
  replace T4 := Lib.hid (T4.out.ch hc (by simp; omega))
  clear hc
  clear hs
  go_upto_region 12 with fail
  have hsz11 := HB.out.size
  obtain ⟨w12_, hW⟩ : ∃ V, ((w11_.alloc (.cells #[.int .u32 0, .int .u32 0, .int .u32 0, .int .u32 0, .int .u32 0, .int .u32 0, .int .u32 0, .int .u32 0, .int .u32 0, .int .u32 0, .int .u32 0, .int .u32 0, .int .u32 0, .int .u32 0, .int .u32 0, .int .u32 0] 28)).alloc (.cells #[.int .i64 0, .int .i64 0, .bool false, .bool false, .bool false, .int .i64 0, .int .i64 0, .int .i64 0, .int .i64 0, .int .i64 0] 30)) = V := ⟨_, rfl⟩
  have hb : Below w11_.heap.size w11_ w12_ := by rw [← hW]; exact (Below.alloc (Below.alloc (Below.refl _ _) (by first | exact Nat.le_refl _ | (simp; done) | (simp; omega)) _) (by first | exact Nat.le_refl _ | (simp; done) | (simp; omega)) _)
  obtain ⟨gT10, hgT10⟩ : ∃ q, w11_.heap.size = q := ⟨_, rfl⟩
  have T10_ : Hid (Bk w12_ gT10 28 [.int .u32 0, .int .u32 0, .int .u32 0, .int .u32 0, .int .u32 0, .int .u32 0, .int .u32 0, .int .u32 0, .int .u32 0, .int .u32 0, .int .u32 0, .int .u32 0, .int .u32 0, .int .u32 0, .int .u32 0, .int .u32 0]) := by
    rw [← hW, ← hgT10]
    have hq := Bk.new w11_ [.int .u32 0, .int .u32 0, .int .u32 0, .int .u32 0, .int .u32 0, .int .u32 0, .int .u32 0, .int .u32 0, .int .u32 0, .int .u32 0, .int .u32 0, .int .u32 0, .int .u32 0, .int .u32 0, .int .u32 0, .int .u32 0] 28
    exact hq.alloc _
  have nT10 : w11_.heap.size ≤ gT10 := by omega
  obtain ⟨gP11, hgP11⟩ : ∃ q, w11_.heap.size + 1 = q := ⟨_, rfl⟩
  have P11_ : Hid (Bk w12_ gP11 30 [.int .i64 0, .int .i64 0, .bool false, .bool false, .bool false, .int .i64 0, .int .i64 0, .int .i64 0, .int .i64 0, .int .i64 0]) := by
    rw [← hW, ← hgP11]
    have hq := Bk.new (w11_.alloc (.cells #[.int .u32 0, .int .u32 0, .int .u32 0, .int .u32 0, .int .u32 0, .int .u32 0, .int .u32 0, .int .u32 0, .int .u32 0, .int .u32 0, .int .u32 0, .int .u32 0, .int .u32 0, .int .u32 0, .int .u32 0, .int .u32 0] 28)) [.int .i64 0, .int .i64 0, .bool false, .bool false, .bool false, .int .i64 0, .int .i64 0, .int .i64 0, .int .i64 0, .int .i64 0] 30
    rw [World.size_alloc] at hq
    exact hq
  have nP11 : w11_.heap.size ≤ gP11 := by omega
  have oT10P11 : gT10 < gP11 := by omega
  have oZ_T10 : gZ < gT10 := by have := Z.out.lt; omega
  have oZ_P11 : gZ < gP11 := by have := Z.out.lt; omega
  have oT4_T10 : gT4 < gT10 := by have := T4.out.lt; omega
  have oT4_P11 : gT4 < gP11 := by have := T4.out.lt; omega
  rw [hW]
  try rw [hgP11]
  try rw [hgT10]
  replace HB := Lib.hid (HB.out.trans (hb.mono HB.out.size))
  replace S := Lib.hid (S.out.belowS hb)
  replace Z := Lib.hid (Z.out.keep hb)
  replace T4 := Lib.hid (T4.out.keep hb)
  clear hb
  have T10 := T10_
  clear T10_
  have P11 := P11_
  clear P11_
  clear hW hgT10 hgP11
  clear T10
  clear P11
  have kz0 : w12_.cell? ⟨gZ, 0, none⟩ = some (.int .i64 0) := Z.out.cell (c := 0) rfl
  have kz1 : w12_.cell? ⟨gZ, 1, none⟩ = some (.int .i64 0) := Z.out.cell (c := 1) rfl
  have kz2 : w12_.cell? ⟨gZ, 2, none⟩ = some (.bool false) := Z.out.cell (c := 2) rfl
  have kz3 : w12_.cell? ⟨gZ, 3, none⟩ = some (.bool false) := Z.out.cell (c := 3) rfl
  have kz4 : w12_.cell? ⟨gZ, 4, none⟩ = some (.bool false) := Z.out.cell (c := 4) rfl
  have kz5 : w12_.cell? ⟨gZ, 5, none⟩ = some (.int .i64 0) := Z.out.cell (c := 5) rfl
  have kz6 : w12_.cell? ⟨gZ, 6, none⟩ = some (.int .i64 0) := Z.out.cell (c := 6) rfl
  have kz7 : w12_.cell? ⟨gZ, 7, none⟩ = some (.int .i64 0) := Z.out.cell (c := 7) rfl
  have kz8 : w12_.cell? ⟨gZ, 8, none⟩ = some (.int .i64 0) := Z.out.cell (c := 8) rfl
  have kz9 : w12_.cell? ⟨gZ, 9, none⟩ = some (.int .i64 0) := Z.out.cell (c := 9) rfl
  go_wp2_with fail
  clear kz0 kz1 kz2 kz3 kz4 kz5 kz6 kz7 kz8 kz9
  refine (run_k5 F _ S.out).mono ?_
  rintro e w13_ ⟨rfl, hs, hc⟩
  replace HB := Lib.hid (HB.out.trans (hc.below HB.out.size (by intro z hz; simp at hz; omega)))
  replace S := Lib.hid hs
  replace Z := Lib.hid (Z.out.ch hc (by simp; omega))
  replace T4 := Lib.hid (T4.out.ch hc (by simp; omega))
  clear hc
  clear hs
  go_upto_region 13 with fail
  have hsz13 := HB.out.size
  obtain ⟨w14_, hW⟩ : ∃ V, ((w13_.alloc (.cells #[.int .u32 0, .int .u32 0, .int .u32 0, .int .u32 9, .int .u32 0, .int .u32 0, .int .u32 0, .int .u32 0, .int .u32 0, .int .u32 0, .int .u32 0, .int .u32 0, .int .u32 0, .int .u32 0, .int .u32 0, .int .u32 0] 28)).alloc (.cells #[.int .i64 0, .int .i64 0, .bool false, .bool false, .bool false, .int .i64 0, .int .i64 0, .int .i64 0, .int .i64 0, .int .i64 0] 30)) = V := ⟨_, rfl⟩
  have hb : Below w13_.heap.size w13_ w14_ := by rw [← hW]; exact (Below.alloc (Below.alloc (Below.refl _ _) (by first | exact Nat.le_refl _ | (simp; done) | (simp; omega)) _) (by first | exact Nat.le_refl _ | (simp; done) | (simp; omega)) _)
  obtain ⟨gT13, hgT13⟩ : ∃ q, w13_.heap.size = q := ⟨_, rfl⟩
  have T13_ : Hid (Bk w14_ gT13 28 [.int .u32 0, .int .u32 0, .int .u32 0, .int .u32 9, .int .u32 0, .int .u32 0, .int .u32 0, .int .u32 0, .int .u32 0, .int .u32 0, .int .u32 0, .int .u32 0, .int .u32 0, .int .u32 0, .int .u32 0, .int .u32 0]) := by
    rw [← hW, ← hgT13]
    have hq := Bk.new w13_ [.int .u32 0, .int .u32 0, .int .u32 0, .int .u32 9, .int .u32 0, .int .u32 0, .int .u32 0, .int .u32 0, .int .u32 0, .int .u32 0, .int .u32 0, .int .u32 0, .int .u32 0, .int .u32 0, .int .u32 0, .int .u32 0] 28
    exact hq.alloc _
  have nT13 : w13_.heap.size ≤ gT13 := by omega
  obtain ⟨gP14, hgP14⟩ : ∃ q, w13_.heap.size + 1 = q := ⟨_, rfl⟩
  have P14_ : Hid (Bk w14_ gP14 30 [.int .i64 0, .int .i64 0, .bool false, .bool false, .bool false, .int .i64 0, .int .i64 0, .int .i64 0, .int .i64 0, .int .i64 0]) := by
    rw [← hW, ← hgP14]
    have hq := Bk.new (w13_.alloc (.cells #[.int .u32 0, .int .u32 0, .int .u32 0, .int .u32 9, .int .u32 0, .int .u32 0, .int .u32 0, .int .u32 0, .int .u32 0, .int .u32 0, .int .u32 0, .int .u32 0, .int .u32 0, .int .u32 0, .int .u32 0, .int .u32 0] 28)) [.int .i64 0, .int .i64 0, .bool false, .bool false, .bool false, .int .i64 0, .int .i64 0, .int .i64 0, .int .i64 0, .int .i64 0] 30
    rw [World.size_alloc] at hq
    exact hq
  have nP14 : w13_.heap.size ≤ gP14 := by omega
  have oT13P14 : gT13 < gP14 := by omega
  have oZ_T13 : gZ < gT13 := by have := Z.out.lt; omega
  have oZ_P14 : gZ < gP14 := by have := Z.out.lt; omega
  have oT4_T13 : gT4 < gT13 := by have := T4.out.lt; omega
  have oT4_P14 : gT4 < gP14 := by have := T4.out.lt; omega
  rw [hW]
  try rw [hgP14]
  try rw [hgT13]
  replace HB := Lib.hid (HB.out.trans (hb.mono HB.out.size))
  replace S := Lib.hid (S.out.belowS hb)
  replace Z := Lib.hid (Z.out.keep hb)
  replace T4 := Lib.hid (T4.out.keep hb)
  clear hb
  have T13 := T13_
  clear T13_
  have P14 := P14_
  clear P14_
  clear hW hgT13 hgP14
  clear T13
  clear P14
  have kz0 : w14_.cell? ⟨gZ, 0, none⟩ = some (.int .i64 0) := Z.out.cell (c := 0) rfl
  have kz1 : w14_.cell? ⟨gZ, 1, none⟩ = some (.int .i64 0) := Z.out.cell (c := 1) rfl
  have kz2 : w14_.cell? ⟨gZ, 2, none⟩ = some (.bool false) := Z.out.cell (c := 2) rfl
  have kz3 : w14_.cell? ⟨gZ, 3, none⟩ = some (.bool false) := Z.out.cell (c := 3) rfl
  have kz4 : w14_.cell? ⟨gZ, 4, none⟩ = some (.bool false) := Z.out.cell (c := 4) rfl
  have kz5 : w14_.cell? ⟨gZ, 5, none⟩ = some (.int .i64 0) := Z.out.cell (c := 5) rfl
  have kz6 : w14_.cell? ⟨gZ, 6, none⟩ = some (.int .i64 0) := Z.out.cell (c := 6) rfl
  have kz7 : w14_.cell? ⟨gZ, 7, none⟩ = some (.int .i64 0) := Z.out.cell (c := 7) rfl
  have kz8 : w14_.cell? ⟨gZ, 8, none⟩ = some (.int .i64 0) := Z.out.cell (c := 8) rfl
  have kz9 : w14_.cell? ⟨gZ, 9, none⟩ = some (.int .i64 0) := Z.out.cell (c := 9) rfl
  go_wp2_with fail
  clear kz0 kz1 kz2 kz3 kz4 kz5 kz6 kz7 kz8 kz9
  refine (run_k6 F _ S.out).mono ?_
  rintro e w15_ ⟨rfl, hs, hc⟩
  replace HB := Lib.hid (HB.out.trans (hc.below HB.out.size (by intro z hz; simp at hz; omega)))
  replace S := Lib.hid hs
  replace Z := Lib.hid (Z.out.ch hc (by simp; omega))
  replace T4 := Lib.hid (T4.out.ch hc (by simp; omega))
  clear hc
  clear hs
  go_upto_region 14 with fail
  have hsz15 := HB.out.size
  obtain ⟨w16_, hW⟩ : ∃ V, ((w15_.alloc (.cells #[.int .u32 0, .int .u32 0, .int .u32 0, .int .u32 0, .int .u32 0, .int .u32 0, .int .u32 0, .int .u32 0, .int .u32 0, .int .u32 0, .int .u32 0, .int .u32 0, .int .u32 0, .int .u32 0, .int .u32 0, .int .u32 0] 28)).alloc (.cells #[.int .i64 0, .int .i64 0, .bool false, .bool false, .bool false, .int .i64 0, .int .i64 0, .int .i64 0, .int .i64 0, .int .i64 0] 30)) = V := ⟨_, rfl⟩
  have hb : Below w15_.heap.size w15_ w16_ := by rw [← hW]; exact (Below.alloc (Below.alloc (Below.refl _ _) (by first | exact Nat.le_refl _ | (simp; done) | (simp; omega)) _) (by first | exact Nat.le_refl _ | (simp; done) | (simp; omega)) _)
  obtain ⟨gT16, hgT16⟩ : ∃ q, w15_.heap.size = q := ⟨_, rfl⟩
  have T16_ : Hid (Bk w16_ gT16 28 [.int .u32 0, .int .u32 0, .int .u32 0, .int .u32 0, .int .u32 0, .int .u32 0, .int .u32 0, .int .u32 0, .int .u32 0, .int .u32 0, .int .u32 0, .int .u32 0, .int .u32 0, .int .u32 0, .int .u32 0, .int .u32 0]) := by
    rw [← hW, ← hgT16]
    have hq := Bk.new w15_ [.int .u32 0, .int .u32 0, .int .u32 0, .int .u32 0, .int .u32 0, .int .u32 0, .int .u32 0, .int .u32 0, .int .u32 0, .int .u32 0, .int .u32 0, .int .u32 0, .int .u32 0, .int .u32 0, .int .u32 0, .int .u32 0] 28
    exact hq.alloc _
  have nT16 : w15_.heap.size ≤ gT16 := by omega
  obtain ⟨gP17, hgP17⟩ : ∃ q, w15_.heap.size + 1 = q := ⟨_, rfl⟩
  have P17_ : Hid (Bk w16_ gP17 30 [.int .i64 0, .int .i64 0, .bool false, .bool false, .bool false, .int .i64 0, .int .i64 0, .int .i64 0, .int .i64 0, .int .i64 0]) := by
    rw [← hW, ← hgP17]
    have hq := Bk.new (w15_.alloc (.cells #[.int .u32 0, .int .u32 0, .int .u32 0, .int .u32 0, .int .u32 0, .int .u32 0, .int .u32 0, .int .u32 0, .int .u32 0, .int .u32 0, .int .u32 0, .int .u32 0, .int .u32 0, .int .u32 0, .int .u32 0, .int .u32 0] 28)) [.int .i64 0, .int .i64 0, .bool false, .bool false, .bool false, .int .i64 0, .int .i64 0, .int .i64 0, .int .i64 0, .int .i64 0] 30
    rw [World.size_alloc] at hq
    exact hq
  have nP17 : w15_.heap.size ≤ gP17 := by omega
  have oT16P17 : gT16 < gP17 := by omega
  have oZ_T16 : gZ < gT16 := by have := Z.out.lt; omega
  have oZ_P17 : gZ < gP17 := by have := Z.out.lt; omega
  have oT4_T16 : gT4 < gT16 := by have := T4.out.lt; omega
  have oT4_P17 : gT4 < gP17 := by have := T4.out.lt; omega
  rw [hW]
  try rw [hgP17]
  try rw [hgT16]
  replace HB := Lib.hid (HB.out.trans (hb.mono HB.out.size))
  replace S := Lib.hid (S.out.belowS hb)
  replace Z := Lib.hid (Z.out.keep hb)
  replace T4 := Lib.hid (T4.out.keep hb)
  clear hb
  have T16 := T16_
  clear T16_
  have P17 := P17_
  clear P17_
  clear hW hgT16 hgP17
  clear T16
  clear P17
  have ka2 : w16_.cell? ⟨gT4, 2, none⟩ = some (.int .u32 4294967295) := T4.out.cell (c := 2) rfl
  have ka3 : w16_.cell? ⟨gT4, 3, none⟩ = some (.int .u32 4294967290) := T4.out.cell (c := 3) rfl
  go_upto_region 16 with fail
  clear ka2 ka3
  go_wp2_with fail
  refine (knownBytes_c F _ S.out).mono ?_
  rintro e w17_ ⟨rfl, hc⟩
  clear S
  replace HB := Lib.hid (HB.out.trans (hc.below HB.out.size (by intro z hz; simp at hz; omega)))
  replace Z := Lib.hid (Z.out.ch hc (by simp; omega))
  replace T4 := Lib.hid (T4.out.ch hc (by simp; omega))
  clear hc
  go_wp2_with fail
  refine (works_c _).mono ?_
  rintro e w18_ ⟨rfl, hb⟩
  replace HB := Lib.hid (HB.out.trans (hb.mono HB.out.size))
  replace Z := Lib.hid (Z.out.keep hb)
  replace T4 := Lib.hid (T4.out.keep hb)
  clear hb
  go_wp2
  go_ret
  exact ⟨by rfl, HB.out⟩
end Go.Proofs.Ythjdjbipfdigeaa

namespace Go.Proofs.Ythjdjbipfdigeaa.generalKnown
open Go.ChangeShapes Go.WideShapes Go.ChangeAt Go.RowKit
open Go.ChangeMaps (open_string shut_string)
set_option linter.unusedVariables false

set_option maxRecDepth 100000 in
theorem lifted (os : Os) (started : os.Started) (H : Type) (enc : TypeId × Value → H) :
    ReturnsInHanded {} Try.checked os 9 .any (Rows.generalKnownSpec.pre6 enc Try.prog Try.f9 Rows.generalKnownRow.domain false) (Rows.generalKnownSpec.post enc Try.prog Try.f9 false true false false) := by
  refine returnsInHanded_of_change (C := Try.checked) own started (by kernel_rfl) Try.func9
    (ChangeSpec.witness6 (enc := enc) (C := Try.checked) false ⟨#[], #[], []⟩ 8 (by kernel_rfl) (by kernel_rfl) (by kernel_rfl) (by kernel_rfl)) ?_
  intro W base args ds gs before hval0 hW hcnd _
  have hval : ∀ (j : Nat) t v, Try.f9.params[j]? = some t → args[j]? = some v → Value.okWide Try.prog W .any base t v := hval0
  have hW' := hW
  obtain ⟨p, q, hA0, hV, rfl, hfz, hnd⟩ := hW
  have hA : DataW.TrodAll enc Try.prog W 0 (fun _ => true) true Try.f9.params.toList args.toList ds p := hA0
  rw [Try.params9] at hA hval
  obtain ⟨rfl, rfl, rfl⟩ := trodAll_none hA
  obtain ⟨rfl, rfl⟩ := trodVars_none hV
  clear hA0 hval0
  refine (generalKnown_walk  W ).mono fun e W' ⟨he, bel⟩ => ?_
  subst he
  exact ⟨_, rfl, _, _, _, [], _, [], hW', trodAll_mk1 (shut_bool Try.underlying4 _), rfl, rfl, bel.frame _, fun h => by cases h⟩

theorem over : Rows.generalKnownRow.holds Try.pinned (OpenSpec.ofChange Rows.generalKnownSpec) :=
  OpenClaim.holds_of_wide 9 Try.f9 rfl rfl rfl rfl rfl rfl rfl ⟨rfl, rfl, rfl, rfl, rfl⟩ rfl rfl rfl rfl rfl (by kernel_rfl) Try.func9 (by kernel_rfl)
    (of_decide_eq_true (by kernel_rfl)) (by unfold Func.isWrapper; first | (rw [if_pos (by decide +kernel)]; kernel_rfl) | (rw [if_neg (by decide +kernel)]; exact ⟨rfl, rfl⟩))
    (fun os started H enc _ => lifted os started H enc)

/-- THE STATEMENT -/
theorem proved : Rows.GeneralKnownSaid := over
end Go.Proofs.Ythjdjbipfdigeaa.generalKnown

