/- Rows.GeneralSwapsSaid (jobshop/jobshoplaw09.GeneralSwaps): whatever the input, the law returns true and each argument reads as it did. The frame of the proof; the walk lies in GeneralSwapsW. No conditions; the last text of 12. Conditions: as each states them. -/
import Derived.Test.YthjdjbipfdigeaaSw1
import Derived.Test.YthjdjbipfdigeaaSw7
import Derived.Test.YthjdjbipfdigeaaSw10
import Derived.Test.YthjdjbipfdigeaaSw11
namespace Go.Proofs.Ythjdjbipfdigeaa
open Go.RowKit
set_option maxRecDepth 100000
set_option linter.unusedVariables false
set_option linter.unusedSimpArgs false
set_option maxRecDepth 1000000 in
set_option maxHeartbeats 8000000 in
theorem swaps_walk0 (A : Option Addr) (len cap : Nat) (zs : List Int) (A2 : Option Addr) (len2 cap2 : Nat) (zs2 : List Int) (w : World) (hb : Byt w A len zs) (hlc : len ≤ cap) (hl : (cap : Int) ≤ 9223372036854775807) (hb2 : Byt w A2 len2 zs2) (hl2 : (len2 : Int) ≤ 9223372036854775807) (hA2 : ∀ b off, A2 = some ⟨b, off, none⟩ → 0 < len2 → b < w.heap.size) : Calls Try.prog 7 #[.slice A len cap, .slice A2 len2 cap2] w fun e w' => e = .returned (.bool true) ∧ Below w.heap.size w w' := by
  have HY := Lib.hid hb
  have Y2 := Lib.hid hb2
  clear hb hb2
  obtain ⟨L, hL⟩ : ∃ L : Nat, L = 256 := ⟨_, rfl⟩
  go_enter Try.func7, Try.ntmps7
  go_upto_if 23 with fail
  go_cut [0] from 24 to 24 (fun t wx => ∃ (b off n c : Nat) (ys : List Int), t = .slice (some ⟨b, off, none⟩) n c ∧ 1 ≤ n ∧ n ≤ c ∧ (c : Int) ≤ 9223372036854775807 ∧ Byt wx (some ⟨b, off, none⟩) n ys ∧ Below w.heap.size w wx)
  case first =>
    by_cases h0 : len = 0
    · have e0 : ((len : Int) == 0) = true := by simp [h0]
      go_wp2_with fail
      go_meet
      exact ⟨_, 0, 1, 1, [1], rfl, by omega, by omega, by omega, byt_new _ [1] (by simp) _ (by rfl) 1 rfl _, (Below.refl _ _).alloc (Nat.le_refl _) _⟩
    · have e0 : ((len : Int) == 0) = false := by simp [h0]
      obtain ⟨b, off, rfl, -⟩ := HY.out.at_ (by omega)
      go_wp2_with fail
      go_meet
      exact ⟨b, off, len, cap, zs, rfl, by omega, hlc, hl, HY.out, Below.refl _ _⟩
  case rest =>
  obtain ⟨ba, off, m, cp, ys0, rfl, m0, m1, m2, hy, hw1⟩ := hcut
  rename World => w0_
  have HB := Lib.hid hw1
  have Y0 := Lib.hid hy
  clear hy hw1 HY hl hlc hL
  go_upto_if 27 with fail
  go_cut [0] from 28 to 29 (fun t wx => ∃ (n c : Nat) (ys : List Int), t = .slice (some ⟨ba, off, none⟩) n c ∧ 1 ≤ n ∧ n ≤ 256 ∧ Byt wx (some ⟨ba, off, none⟩) n ys ∧ wx = w0_)
  case first =>
    by_cases h0 : 256 < m
    · have e0 : (256 : Int) < (m : Int) := by omega
      have e1 : (256 : Int) ≤ (cp : Int) := by omega
      go_wp2_with fail
      go_meet
      exact ⟨256, _, ys0.take 256, rfl, by omega, by omega, Y0.out.pre 256 (by omega), rfl⟩
    · have e0 : ¬ (256 : Int) < (m : Int) := by omega
      go_wp2_with fail
      go_meet
      exact ⟨m, _, ys0, rfl, by omega, by omega, Y0.out, rfl⟩
  case rest =>
  obtain ⟨n, cp', ys, rfl, n0, n1, hy, hw1⟩ := hcut
  subst hw1
  rename World => w1
  have Y := Lib.hid hy
  clear hy Y0
  replace Y2 := Lib.hid (Y2.out.keep HB.out)
  have hw0 := HB.out.size
  have hba := Y.out.lt (by omega)
  have HA2 := Lib.hid hA2
  clear hA2
  have NC := Lib.hid (fun W => new_yes 1 (by omega) (by omega) W)
  rw [show (((2048 * 1 : Nat) : Int)) = 2048 from rfl] at NC
  have MK := run_mk_b n (by omega) w1
  go_upto_region 8 with fail
  clear MK
  obtain ⟨gc, hgc⟩ : ∃ q, w1.heap.size = q := ⟨_, rfl⟩
  obtain ⟨w2, hW⟩ : ∃ V, w1.alloc (.cells (zeroB n) 5) = V := ⟨_, rfl⟩
  have hb : Below w1.heap.size w1 w2 := by rw [← hW]; exact (Below.refl _ _).alloc (Nat.le_refl _) _
  have ho : Own w2 gc (.slice (some ⟨gc, 0, none⟩) n n) n (List.replicate n 0) := by rw [← hW, ← hgc]; exact own_zeros w1 n _ (Nat.le_refl _) (by unfold maxLen; omega)
  rw [hW]
  try rw [hgc]
  have hwg : w.heap.size ≤ gc := by omega
  have hbag : ba < gc := by omega
  have HO := Lib.hid ho
  replace Y2 := Lib.hid (Y2.out.keep hb)
  clear hW ho
  replace HB := Lib.hid (HB.out.trans (hb.mono HB.out.size))
  replace Y := Lib.hid (Y.out.keep hb)
  clear hb
  refine swaps_loop (by kernel_rfl) n1 Y2.out hl2 gc (fun b off e h0 => by have := HA2.out b off e h0; omega) HO.out (fun _ a a' _ e h => by have h' : a'.defers = [] ∧ _ := h; exact ⟨e ▸ h'.1, h'.2⟩) ?_
  intro w3 k _ _ _ _ _ _ _ _ _ _ _ _ _ _ _ _ _ _ _ hk hk2 ho hc
  obtain ⟨cs, hcs⟩ : ∃ c, cpy zs2 n k = c := ⟨_, rfl⟩
  rw [hcs] at ho
  have YC := Lib.hid ho.byt
  have hgc2 := YC.out.lt (by omega)
  have hba2 := Y.out.lt (by omega)
  clear hcs ho hk hk2 HO Y2 HA2 hgc
  replace HB := Lib.hid (HB.out.trans (hc.below HB.out.size (by intro z hz; simp at hz; omega)))
  replace Y := Lib.hid (Y.out.chd hc (Y.out.lt (by omega)) (by simp; omega))
  clear hc
  obtain ⟨bs1, bs2, bs3, bs4, bs5, Z, h1, h2, h3, h4, h5, ⟨l1, l2, l3, l4, l5⟩, g2a, g2b, hZ, g3b, g3a, z2, g4a, g4b, z3, g5a, g5b⟩ := swaps_law ys cs n Y.out.1 YC.out.1 Y.out.2.1 YC.out.2.1 n0 n1
  have hzl : (z0 2048).length = 2048 := z0_len 2048
  have P1 := Lib.hid (fun (F : Foot) (W : World) (hS : St 71 W F (z0 2048) (z0 1)) (hY : Byt W (some ⟨ba, off, none⟩) n ys) => put9 W hS 100 n cp' _ ys (by omega) (by omega) hY)
  rw [h1] at P1
  have P2 := Lib.hid (fun (F : Foot) (W : World) (hS : St 71 W F bs1 (z0 1)) (hY : Byt W (some ⟨gc, 0, none⟩) n cs) => put9 W hS 1000 n n _ cs (by omega) (by omega) hY)
  rw [h2] at P2
  obtain ⟨q0, hq0⟩ : ∃ q, (if (215 : Int) = 215 then cmbS (cb 215) ys cs (((100 : Nat) : Int) - ((1000 : Nat) : Int)) n else 0) = q := ⟨_, rfl⟩
  have E0 := Lib.hid (fun (F : Foot) (W : World) (hS : St 71 W F bs2 (z0 1)) => show Calls Try.prog 14 #[.agg #[.int .i64 215, .int .i64 5, .int .i64 0, .int .i64 0, .int .i64 0, .int .i64 14, .int .i64 0, .int .i64 15, .int .i64 0, .int .i64 ((n : Int) - 1), .int .i64 0, .int .i64 0], .agg #[.int .u32 0, .int .u32 0, .int .u32 0, .int .u32 0, .int .u32 0, .int .u32 0, .int .u32 0, .int .u32 0, .int .u32 0, .int .u32 0, .int .u32 0, .int .u32 0, .int .u32 0, .int .u32 0, .int .u32 100, .int .u32 1000], .agg #[.int .i64 0, .int .i64 0, .bool false, .bool false, .bool false, .int .i64 0, .int .i64 0, .int .i64 0, .int .i64 0, .int .i64 0], .pointer (some ⟨F.g, 0, none⟩)] W fun e w' => e = .returned (.tuple #[.agg #[.int .u32 0, .int .u32 0, .int .u32 0, .int .u32 0, .int .u32 0, .int .u32 0, .int .u32 0, .int .u32 0, .int .u32 0, .int .u32 0, .int .u32 0, .int .u32 0, .int .u32 0, .int .u32 0, .int .u32 100, .int .u32 1000], .agg #[.int .i64 0, .int .i64 0, .bool false, .bool false, .bool false, .int .i64 0, .int .i64 0, .int .i64 q0, .int .i64 0, .int .i64 0], .int .i64 0]) ∧ St 71 w' F bs3 (z0 1) ∧ Ch W w' [F.gb] from by rw [← h3]; exact exec_sn 215 (.inr rfl) W hS 0 n 100 1000 n0 n1 (by omega) (by omega) (by omega) (by omega) _ _ _ q0 g2a g2b hZ hq0)
  obtain ⟨q1, hq1⟩ : ∃ q, (if (215 : Int) = 215 then cmbS (cb 215) cs Z (((1000 : Nat) : Int) - ((100 : Nat) : Int)) n else 0) = q := ⟨_, rfl⟩
  have E1 := Lib.hid (fun (F : Foot) (W : World) (hS : St 71 W F bs3 (z0 1)) => show Calls Try.prog 14 #[.agg #[.int .i64 215, .int .i64 5, .int .i64 0, .int .i64 0, .int .i64 0, .int .i64 14, .int .i64 0, .int .i64 15, .int .i64 0, .int .i64 ((n : Int) - 1), .int .i64 0, .int .i64 0], .agg #[.int .u32 0, .int .u32 0, .int .u32 0, .int .u32 0, .int .u32 0, .int .u32 0, .int .u32 0, .int .u32 0, .int .u32 0, .int .u32 0, .int .u32 0, .int .u32 0, .int .u32 0, .int .u32 0, .int .u32 1000, .int .u32 100], .agg #[.int .i64 0, .int .i64 0, .bool false, .bool false, .bool false, .int .i64 0, .int .i64 0, .int .i64 0, .int .i64 0, .int .i64 0], .pointer (some ⟨F.g, 0, none⟩)] W fun e w' => e = .returned (.tuple #[.agg #[.int .u32 0, .int .u32 0, .int .u32 0, .int .u32 0, .int .u32 0, .int .u32 0, .int .u32 0, .int .u32 0, .int .u32 0, .int .u32 0, .int .u32 0, .int .u32 0, .int .u32 0, .int .u32 0, .int .u32 1000, .int .u32 100], .agg #[.int .i64 0, .int .i64 0, .bool false, .bool false, .bool false, .int .i64 0, .int .i64 0, .int .i64 q1, .int .i64 0, .int .i64 0], .int .i64 0]) ∧ St 71 w' F bs4 (z0 1) ∧ Ch W w' [F.gb] from by rw [← h4]; exact exec_sn 215 (.inr rfl) W hS 0 n 1000 100 n0 n1 (by omega) (by omega) (by omega) (by omega) _ _ _ q1 g3b g3a z2 hq1)
  obtain ⟨q2, hq2⟩ : ∃ q, (if (215 : Int) = 215 then cmbS (cb 215) Z ys (((100 : Nat) : Int) - ((1000 : Nat) : Int)) n else 0) = q := ⟨_, rfl⟩
  have E2 := Lib.hid (fun (F : Foot) (W : World) (hS : St 71 W F bs4 (z0 1)) => show Calls Try.prog 14 #[.agg #[.int .i64 215, .int .i64 5, .int .i64 0, .int .i64 0, .int .i64 0, .int .i64 14, .int .i64 0, .int .i64 15, .int .i64 0, .int .i64 ((n : Int) - 1), .int .i64 0, .int .i64 0], .agg #[.int .u32 0, .int .u32 0, .int .u32 0, .int .u32 0, .int .u32 0, .int .u32 0, .int .u32 0, .int .u32 0, .int .u32 0, .int .u32 0, .int .u32 0, .int .u32 0, .int .u32 0, .int .u32 0, .int .u32 100, .int .u32 1000], .agg #[.int .i64 0, .int .i64 0, .bool false, .bool false, .bool false, .int .i64 0, .int .i64 0, .int .i64 0, .int .i64 0, .int .i64 0], .pointer (some ⟨F.g, 0, none⟩)] W fun e w' => e = .returned (.tuple #[.agg #[.int .u32 0, .int .u32 0, .int .u32 0, .int .u32 0, .int .u32 0, .int .u32 0, .int .u32 0, .int .u32 0, .int .u32 0, .int .u32 0, .int .u32 0, .int .u32 0, .int .u32 0, .int .u32 0, .int .u32 100, .int .u32 1000], .agg #[.int .i64 0, .int .i64 0, .bool false, .bool false, .bool false, .int .i64 0, .int .i64 0, .int .i64 q2, .int .i64 0, .int .i64 0], .int .i64 0]) ∧ St 71 w' F bs5 (z0 1) ∧ Ch W w' [F.gb] from by rw [← h5]; exact exec_sn 215 (.inr rfl) W hS 0 n 100 1000 n0 n1 (by omega) (by omega) (by omega) (by omega) _ _ _ q2 g4a g4b z3 hq2)
  have G1 := Lib.hid g5a
  have G2 := Lib.hid g5b
  have LB := Lib.hid l5
  clear h1 h2 h3 h4 h5 l1 l2 l3 l4 l5 g2a g2b hZ g3b g3a z2 g4a g4b z3 g5a g5b hzl hq0 hq1 hq2
  go_wp2_with fail
  refine (NC.out _).mono ?_
  rintro e w1_ ⟨v, rfl, F, rfl, hS, hb, hF1, hF2, hF3⟩
  have S := Lib.hid hS
  clear hS NC
  replace HB := Lib.hid (HB.out.trans (hb.mono HB.out.size))
  replace Y := Lib.hid (Y.out.keep hb)
  replace YC := Lib.hid (YC.out.keep hb)
  clear hb
  go_wp2_with fail
  refine (P1.out F _ S.out Y.out).mono ?_
  rintro e w2_ ⟨rfl, hs, hc⟩
  replace HB := Lib.hid (HB.out.trans (hc.below HB.out.size (by intro z hz; simp at hz; omega)))
  replace Y := Lib.hid (Y.out.chd hc (Y.out.lt (by omega)) (by simp; omega))
  replace YC := Lib.hid (YC.out.chd hc (YC.out.lt (by omega)) (by simp; omega))
  replace S := Lib.hid hs
  clear hc
  clear hs P1
  go_wp2_with fail
  refine (P2.out F _ S.out YC.out).mono ?_
  rintro e w3_ ⟨rfl, hs, hc⟩
  replace HB := Lib.hid (HB.out.trans (hc.below HB.out.size (by intro z hz; simp at hz; omega)))
  replace Y := Lib.hid (Y.out.chd hc (Y.out.lt (by omega)) (by simp; omega))
  replace YC := Lib.hid (YC.out.chd hc (YC.out.lt (by omega)) (by simp; omega))
  replace S := Lib.hid hs
  clear hc
  clear hs P2
  go_wp2_with fail
  refine (works_c _).mono ?_
  rintro e w4_ ⟨rfl, hb⟩
  replace HB := Lib.hid (HB.out.trans (hb.mono HB.out.size))
  replace Y := Lib.hid (Y.out.keep hb)
  replace YC := Lib.hid (YC.out.keep hb)
  replace S := Lib.hid (S.out.belowS hb)
  clear hb
  have hs1 := HB.out.size
  have hlg := S.out.ltg
  have hlb := S.out.ltb
  have hlk := S.out.ltk
  go_upto_region 16 with fail
  obtain ⟨w5_, hW⟩ : ∃ V, ((w4_.alloc (.cells #[.int .u32 0, .int .u32 0, .int .u32 0, .int .u32 0, .int .u32 0, .int .u32 0, .int .u32 0, .int .u32 0, .int .u32 0, .int .u32 0, .int .u32 0, .int .u32 0, .int .u32 0, .int .u32 0, .int .u32 100, .int .u32 1000] 28)).alloc (.cells #[.int .u32 0, .int .u32 0, .int .u32 0, .int .u32 0, .int .u32 0, .int .u32 0, .int .u32 0, .int .u32 0, .int .u32 0, .int .u32 0, .int .u32 0, .int .u32 0, .int .u32 0, .int .u32 0, .int .u32 1000, .int .u32 100] 28)) = V := ⟨_, rfl⟩
  have hb : Below w4_.heap.size w4_ w5_ := by rw [← hW]; exact (Below.alloc (Below.alloc (Below.refl _ _) (by first | exact Nat.le_refl _ | (simp; done) | (simp; omega)) _) (by first | exact Nat.le_refl _ | (simp; done) | (simp; omega)) _)
  obtain ⟨gR1, hgR1⟩ : ∃ q, w4_.heap.size = q := ⟨_, rfl⟩
  have R1_ : Hid (Bk w5_ gR1 28 [.int .u32 0, .int .u32 0, .int .u32 0, .int .u32 0, .int .u32 0, .int .u32 0, .int .u32 0, .int .u32 0, .int .u32 0, .int .u32 0, .int .u32 0, .int .u32 0, .int .u32 0, .int .u32 0, .int .u32 100, .int .u32 1000]) := by
    rw [← hW, ← hgR1]
    have hq := Bk.new w4_ [.int .u32 0, .int .u32 0, .int .u32 0, .int .u32 0, .int .u32 0, .int .u32 0, .int .u32 0, .int .u32 0, .int .u32 0, .int .u32 0, .int .u32 0, .int .u32 0, .int .u32 0, .int .u32 0, .int .u32 100, .int .u32 1000] 28
    exact hq.alloc _
  have nR1 : w4_.heap.size ≤ gR1 := by omega
  obtain ⟨gR2, hgR2⟩ : ∃ q, w4_.heap.size + 1 = q := ⟨_, rfl⟩
  have R2_ : Hid (Bk w5_ gR2 28 [.int .u32 0, .int .u32 0, .int .u32 0, .int .u32 0, .int .u32 0, .int .u32 0, .int .u32 0, .int .u32 0, .int .u32 0, .int .u32 0, .int .u32 0, .int .u32 0, .int .u32 0, .int .u32 0, .int .u32 1000, .int .u32 100]) := by
    rw [← hW, ← hgR2]
    have hq := Bk.new (w4_.alloc (.cells #[.int .u32 0, .int .u32 0, .int .u32 0, .int .u32 0, .int .u32 0, .int .u32 0, .int .u32 0, .int .u32 0, .int .u32 0, .int .u32 0, .int .u32 0, .int .u32 0, .int .u32 0, .int .u32 0, .int .u32 100, .int .u32 1000] 28)) [.int .u32 0, .int .u32 0, .int .u32 0, .int .u32 0, .int .u32 0, .int .u32 0, .int .u32 0, .int .u32 0, .int .u32 0, .int .u32 0, .int .u32 0, .int .u32 0, .int .u32 0, .int .u32 0, .int .u32 1000, .int .u32 100] 28
    rw [World.size_alloc] at hq
    exact hq
  have nR2 : w4_.heap.size ≤ gR2 := by omega
  rw [hW]
  try rw [hgR2]
  try rw [hgR1]
  replace HB := Lib.hid (HB.out.trans (hb.mono HB.out.size))
  replace Y := Lib.hid (Y.out.keep hb)
  replace YC := Lib.hid (YC.out.keep hb)
  replace S := Lib.hid (S.out.belowS hb)
  clear hb
  have R1 := R1_
  clear R1_
  have R2 := R2_
  clear R2_
  clear hW hgR1 hgR2
  go_upto_region 16 with fail
  refine swaps_reg16 (by omega) (by omega) (z_ := 0) (by kernel_rfl) (fun _ a a' _ e h => by have h' : a'.defers = [] ∧ _ := h; exact ⟨e ▸ h'.1, h'.2⟩) S.out R1.out (by omega) (by omega) (by omega) (fun W h => E0.out F W h) ?_
  intro w6_ _ _ _ _ _ _ _ _ _ _ _ _ _ hs hR _ _ _ _ hc
  replace HB := Lib.hid (HB.out.trans (hc.below HB.out.size (by intro z hz; simp at hz; omega)))
  replace Y := Lib.hid (Y.out.chd hc (Y.out.lt (by omega)) (by simp; omega))
  replace YC := Lib.hid (YC.out.chd hc (YC.out.lt (by omega)) (by simp; omega))
  replace S := Lib.hid hs
  replace R1 := Lib.hid hR
  replace R2 := Lib.hid (R2.out.ch hc (by simp; omega))
  clear hc
  clear hs hR E0
  go_upto_region 17 with fail
  refine swaps_reg17 (by omega) (by omega) (z_ := 0) (by kernel_rfl) (fun _ a a' _ e h => by have h' : a'.defers = [] ∧ _ := h; exact ⟨e ▸ h'.1, h'.2⟩) S.out R2.out (by omega) (by omega) (by omega) (fun W h => E1.out F W h) ?_
  intro w7_ _ _ _ _ _ _ _ _ _ _ _ _ _ hs hR _ _ _ _ hc
  replace HB := Lib.hid (HB.out.trans (hc.below HB.out.size (by intro z hz; simp at hz; omega)))
  replace Y := Lib.hid (Y.out.chd hc (Y.out.lt (by omega)) (by simp; omega))
  replace YC := Lib.hid (YC.out.chd hc (YC.out.lt (by omega)) (by simp; omega))
  replace S := Lib.hid hs
  replace R1 := Lib.hid (R1.out.ch hc (by simp; omega))
  replace R2 := Lib.hid hR
  clear hc
  clear hs hR E1
  go_upto_region 18 with fail
  refine swaps_reg18 (by omega) (by omega) (z_ := 0) (by kernel_rfl) (fun _ a a' _ e h => by have h' : a'.defers = [] ∧ _ := h; exact ⟨e ▸ h'.1, h'.2⟩) S.out R1.out (by omega) (by omega) (by omega) (fun W h => E2.out F W h) ?_
  intro w8_ _ _ _ _ _ _ _ _ _ _ _ _ _ hs hR _ _ _ _ hc
  replace HB := Lib.hid (HB.out.trans (hc.below HB.out.size (by intro z hz; simp at hz; omega)))
  replace Y := Lib.hid (Y.out.chd hc (Y.out.lt (by omega)) (by simp; omega))
  replace YC := Lib.hid (YC.out.chd hc (YC.out.lt (by omega)) (by simp; omega))
  replace S := Lib.hid hs
  replace R1 := Lib.hid hR
  replace R2 := Lib.hid (R2.out.ch hc (by simp; omega))
  clear hc
  clear hs hR E2
  go_wp2_with fail
  refine (get9 _ S.out 100 (n : Int) 0 cs (by omega) (by have := LB.out; omega) G1.out).mono ?_
  rintro e w9_ ⟨b9, m9, c9, rfl, hm, hy, -, hb⟩
  replace HB := Lib.hid (HB.out.trans (hb.mono HB.out.size))
  replace Y := Lib.hid (Y.out.keep hb)
  replace YC := Lib.hid (YC.out.keep hb)
  replace S := Lib.hid (S.out.belowS hb)
  replace R1 := Lib.hid (R1.out.keep hb)
  replace R2 := Lib.hid (R2.out.keep hb)
  clear hb
  have hmm9 : n = m9 := by omega
  subst hmm9
  clear hm
  go_wp2_with fail
  refine (same9_t _ _ _ _ _ _ _ _ _ hy YC.out rfl (by omega)).mono ?_
  rintro e w10_ ⟨rfl, hb⟩
  clear hy
  replace HB := Lib.hid (HB.out.trans (hb.mono HB.out.size))
  replace Y := Lib.hid (Y.out.keep hb)
  replace YC := Lib.hid (YC.out.keep hb)
  replace S := Lib.hid (S.out.belowS hb)
  replace R1 := Lib.hid (R1.out.keep hb)
  replace R2 := Lib.hid (R2.out.keep hb)
  clear hb
  go_wp2_with fail
  refine (get9 _ S.out 1000 (n : Int) 0 ys (by omega) (by have := LB.out; omega) G2.out).mono ?_
  rintro e w11_ ⟨b11, m11, c11, rfl, hm, hy, -, hb⟩
  replace HB := Lib.hid (HB.out.trans (hb.mono HB.out.size))
  replace Y := Lib.hid (Y.out.keep hb)
  replace YC := Lib.hid (YC.out.keep hb)
  replace S := Lib.hid (S.out.belowS hb)
  replace R1 := Lib.hid (R1.out.keep hb)
  replace R2 := Lib.hid (R2.out.keep hb)
  clear hb
  have hmm11 : n = m11 := by omega
  subst hmm11
  clear hm
  go_wp2_with fail
  refine (same9_t _ _ _ _ _ _ _ _ _ hy Y.out rfl (by omega)).mono ?_
  rintro e w12_ ⟨rfl, hb⟩
  clear hy
  replace HB := Lib.hid (HB.out.trans (hb.mono HB.out.size))
  replace Y := Lib.hid (Y.out.keep hb)
  replace YC := Lib.hid (YC.out.keep hb)
  replace S := Lib.hid (S.out.belowS hb)
  replace R1 := Lib.hid (R1.out.keep hb)
  replace R2 := Lib.hid (R2.out.keep hb)
  clear hb
  go_wp2
  go_ret
  exact ⟨by rfl, HB.out⟩
theorem generalSwaps_walk (a : Option Addr) (len cap : Nat) (zs : List Int) (a2 : Option Addr) (len2 cap2 : Nat) (zs2 : List Int) (w : World) (h : IsRow .u8 w a len cap zs) (h2 : IsRow .u8 w a2 len2 cap2 zs2) : Calls Try.prog 7 #[.slice a len cap, .slice a2 len2 cap2] w fun e w' => e = .returned (.bool true) ∧ Below w.heap.size w w' := by
  obtain ⟨hb, -, h3, h4⟩ := row_byt h
  obtain ⟨hb2, hn2, h5, h6⟩ := row_byt h2
  unfold maxLen at h4 h6
  have hA : ∀ b off, a2 = some ⟨b, off, none⟩ → 0 < len2 → b < w.heap.size := by
    rintro b off rfl h0
    exact hb2.lt h0
  exact swaps_walk0 a len cap _ a2 len2 cap2 _ w hb h3 (by omega) hb2 (by omega) hA
end Go.Proofs.Ythjdjbipfdigeaa

namespace Go.Proofs.Ythjdjbipfdigeaa.generalSwaps
open Go.ChangeShapes Go.WideShapes Go.ChangeAt Go.RowKit
open Go.ChangeMaps (open_string shut_string)
set_option linter.unusedVariables false

set_option maxRecDepth 100000 in
theorem lifted (os : Os) (started : os.Started) (H : Type) (enc : TypeId × Value → H) :
    ReturnsInHanded {} Try.checked os 7 .any (Rows.generalSwapsSpec.pre6 enc Try.prog Try.f7 Rows.generalSwapsRow.domain false) (Rows.generalSwapsSpec.post enc Try.prog Try.f7 false true false false) := by
  refine returnsInHanded_of_change (C := Try.checked) own started (by kernel_rfl) Try.func7
    (ChangeSpec.witness6 (enc := enc) (C := Try.checked) false ⟨#[], #[.slice none 0 0, .slice none 0 0], []⟩ 8 (by kernel_rfl) (by kernel_rfl) (by kernel_rfl) (by kernel_rfl)) ?_
  intro W base args ds gs before hval0 hW hcnd _
  have hval : ∀ (j : Nat) t v, Try.f7.params[j]? = some t → args[j]? = some v → Value.okWide Try.prog W .any base t v := hval0
  have hW' := hW
  obtain ⟨p, q, hA0, hV, rfl, hfz, hnd⟩ := hW
  have hA : DataW.TrodAll enc Try.prog W 0 (fun _ => true) true Try.f7.params.toList args.toList ds p := hA0
  rw [Try.params7] at hA hval
  obtain ⟨v0, vs0, d0, ds0, p0, q0, hargs, rfl, rfl, h0, r0⟩ := trodAll_cons hA
  obtain ⟨v1, vs1, d1, ds1, p1, q1, rfl, rfl, rfl, h1, r1⟩ := trodAll_cons r0
  obtain ⟨rfl, rfl, rfl⟩ := trodAll_nil r1
  obtain rfl : args = #[v0, v1] := by cases args; simp_all
  obtain ⟨rfl, rfl⟩ := trodVars_none hV
  have k0 := h0
  have lt0 : ∀ x ∈ p0, x.block < W.heap.size := by obtain ⟨m, hm⟩ := k0; exact DataW.trod_lt m _ _ _ hm
  obtain ⟨a0, len0, cap0, rfl⟩ := okWide_slice Try.underlying31 (hval 0 31 v0 rfl rfl)
  obtain ⟨z0, w0⟩ := open_row Try.underlying31 Try.underlying5 (by kernel_rfl) h0
  have k1 := h1
  have lt1 : ∀ x ∈ p1, x.block < W.heap.size := by obtain ⟨m, hm⟩ := k1; exact DataW.trod_lt m _ _ _ hm
  obtain ⟨a1, len1, cap1, rfl⟩ := okWide_slice Try.underlying31 (hval 1 31 v1 rfl rfl)
  obtain ⟨z1, w1⟩ := open_row Try.underlying31 Try.underlying5 (by kernel_rfl) h1
  clear hA0 hval0
  refine (generalSwaps_walk a0 len0 cap0 z0 a1 len1 cap1 z1 W w0 w1).mono fun e W' ⟨he, bel⟩ => ?_
  subst he
  exact ⟨_, rfl, _, _, _, [], _, [], hW', trodAll_mk1 (shut_bool Try.underlying4 _), (trodAll_cons_mk (Below.trod laidOut (by kernel_rfl) (of_decide_eq_true (by kernel_rfl)) k0 bel lt0) (trodAll_cons_mk (Below.trod laidOut (by kernel_rfl) (of_decide_eq_true (by kernel_rfl)) k1 bel lt1) trodAll_mk0)), rfl, bel.frame _, fun h => by cases h⟩

theorem over : Rows.generalSwapsRow.holds Try.pinned (OpenSpec.ofChange Rows.generalSwapsSpec) :=
  OpenClaim.holds_of_wide 7 Try.f7 rfl rfl rfl rfl rfl rfl rfl ⟨rfl, rfl, rfl, rfl, rfl⟩ rfl rfl rfl rfl rfl (by kernel_rfl) Try.func7 (by kernel_rfl)
    (of_decide_eq_true (by kernel_rfl)) (by unfold Func.isWrapper; first | (rw [if_pos (by decide +kernel)]; kernel_rfl) | (rw [if_neg (by decide +kernel)]; exact ⟨rfl, rfl⟩))
    (fun os started H enc _ => lifted os started H enc)

/-- THE STATEMENT -/
theorem proved : Rows.GeneralSwapsSaid := over
end Go.Proofs.Ythjdjbipfdigeaa.generalSwaps

