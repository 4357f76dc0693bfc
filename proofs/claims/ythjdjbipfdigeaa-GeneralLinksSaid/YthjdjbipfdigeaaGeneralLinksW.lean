/- THE WALK of GeneralLinks: it returns true and writes nothing that was there. Conditions: the numbers' own. -/
import Derived.Test.YthjdjbipfdigeaaGe13
import Derived.Test.YthjdjbipfdigeaaRow
namespace Go.Proofs.Ythjdjbipfdigeaa
open Go.RowKit
set_option maxRecDepth 100000
set_option linter.unusedVariables false
set_option linter.unusedSimpArgs false
attribute [local go_sem] eqp_run eqp_guard eqp_refl
set_option maxRecDepth 1000000 in
set_option maxHeartbeats 4000000 in
theorem generalLinks_go (cc pp rr at_ : Int) (n : Nat) (q p a v : Int) (n0 n1 n2 n3 n4 n5 n6 n7 n8 n9 n10 n11 n12 n13 n14 n15 : Int) (w : World) (c0 : 0 ≤ cc) (c1 : cc ≤ 255) (p0 : 0 ≤ pp) (p1 : pp ≤ 255) (r0 : 0 ≤ rr) (r1 : rr ≤ 255) (t0 : 0 ≤ at_) (t1 : at_ ≤ 4294967295) (hn : rr % 15 + 1 = (n : Int)) (hq : cc % 4 = q) (hp : pp % 16 = p) (ha : at_ % 8388608 * 2 = a) (hv : linkV q p a = v) (hs : (List.replicate 16 (0 : Int)).set n v = [n0, n1, n2, n3, n4, n5, n6, n7, n8, n9, n10, n11, n12, n13, n14, n15]) : Calls Try.prog 8 #[.agg #[.int .u8 cc, .int .u8 pp, .int .u8 rr, .int .u32 at_]] w fun e w' => e = .returned (.bool true) ∧ Below w.heap.size w w' := by
  have N0 : n < 16 := by omega
  have N1 : n ≠ 0 := by omega
  have q0 : 0 ≤ q ∧ q ≤ 3 := by omega
  have pq0 : 0 ≤ p ∧ p ≤ 15 := by omega
  have a0 : 0 ≤ a ∧ a ≤ 16777215 := by omega
  have hv' := hv
  unfold linkV at hv'
  have v0 : 0 ≤ v ∧ v ≤ 4294967295 := by omega
  have e1 : v / 268435456 % 4 = q := by omega
  have e2 : v / 16777216 % 16 = p := by omega
  have e3 : v % 16777216 = a := by omega
  have e4 : v / 1073741824 = 1 := by omega
  have hg : [n0, n1, n2, n3, n4, n5, n6, n7, n8, n9, n10, n11, n12, n13, n14, n15].getD n 0 = v := by rw [← hs, List.getD_eq_getElem?_getD, List.getElem?_set_self (by simp; omega)]; rfl
  have hr : ∀ z ∈ [n0, n1, n2, n3, n4, n5, n6, n7, n8, n9, n10, n11, n12, n13, n14, n15], 0 ≤ z ∧ z ≤ 4294967295 := by
    intro z hz
    rw [← hs] at hz
    rcases List.mem_or_eq_of_mem_set hz with h | h
    · have := List.eq_of_mem_replicate h; omega
    · omega
  have R1 := Lib.hid (fun sp W => run_balr n sp q p a N0 q0 pq0 a0 n0 n1 n2 n3 n4 n5 n6 n7 n8 n9 n10 n11 n12 n13 n14 n15 (by rw [hv]; exact hs) W)
  have R2 := Lib.hid (fun sp W => run_spm n sp v N0 n0 n1 n2 n3 n4 n5 n6 n7 n8 n9 n10 n11 n12 n13 n14 n15 hg v0.1 v0.2 W)
  have R3 := Lib.hid (fun sp W => run_bcr n sp v N0 N1 n0 n1 n2 n3 n4 n5 n6 n7 n8 n9 n10 n11 n12 n13 n14 n15 hg hr W)
  simp only [e1, e2] at R2
  simp only [e3] at R3
  have HG := Lib.hid hg
  have E4 := Lib.hid e4
  have NN := Lib.hid N0
  have i0 : (n : Int) < 16 := by omega
  have i1 : (0 : Int) ≤ (n : Int) := by omega
  have ex : (q == q) = true := by simp
  have ey : (p == p) = true := by simp
  have ez : (a == a) = true := by simp
  clear e1 e2 e3 hv hv' hs hg hr N1 v0 N0
  have NC := Lib.hid (fun W => new_yes 1 (by omega) (by omega) W)
  rw [show (((2048 * 1 : Nat) : Int)) = 2048 from rfl] at NC
  go_enter Try.func8, Try.ntmps8
  go_upto_region 1 with fail
  have HB_0 := Lib.hid (Below.refl w.heap.size w)
  obtain ⟨W1, hW⟩ : ∃ W1, (w.alloc (.cells #[.int .u8 cc, .int .u8 pp, .int .u8 rr, .int .u32 at_] 51)) = W1 := ⟨_, rfl⟩
  have L_1 : Hid (Bk W1 (w.heap.size) 51 [.int .u8 cc, .int .u8 pp, .int .u8 rr, .int .u32 at_]) := by
    rw [← hW]
    have hq := Bk.new w [.int .u8 cc, .int .u8 pp, .int .u8 rr, .int .u32 at_] 51
    exact hq
  have HB_1 : Hid (Below w.heap.size w W1) := by rw [← hW]; exact (Below.alloc HB_0.out (by  have := HB_0.out.size; omega) _)
  try rw [hW]
  clear hW HB_0 
  go_wp2_with fail
  refine (NC.out _).mono ?_
  rintro e w2 ⟨vv, rfl, F, rfl, hS, hb, -, -, -⟩
  clear hS
  have L_2 := Lib.hid (L_1.out.keep hb)
  have HB_2 := Lib.hid (HB_1.out.trans (hb.mono HB_1.out.size))
  clear hb HB_1 L_1
  go_wp2_with fail
  refine (works_c _).mono ?_
  rintro e w3 ⟨rfl, hb⟩
  have L_3 := Lib.hid (L_2.out.keep hb)
  have HB_3 := Lib.hid (HB_2.out.trans (hb.mono HB_2.out.size))
  clear hb HB_2 L_2
  have k0 : w3.cell? ⟨w.heap.size, 0, none⟩ = some (.int .u8 cc) := L_3.out.cell (c := 0) rfl
  have k1 : w3.cell? ⟨w.heap.size, 1, none⟩ = some (.int .u8 pp) := L_3.out.cell (c := 1) rfl
  have k2 : w3.cell? ⟨w.heap.size, 2, none⟩ = some (.int .u8 rr) := L_3.out.cell (c := 2) rfl
  have k3 : w3.cell? ⟨w.heap.size, 3, none⟩ = some (.int .u32 at_) := L_3.out.cell (c := 3) rfl
  go_upto_region 6 with fail
  clear k0 k1 k2 k3
  obtain ⟨W4, hW⟩ : ∃ W4, (w3.alloc (.cells #[.int .i64 0, .int .i64 0, .bool false, .bool false, .bool false, .int .i64 0, .int .i64 1, .int .i64 q, .int .i64 p, .int .i64 a] 30)) = W4 := ⟨_, rfl⟩
  have L_4 : Hid (Bk W4 (w.heap.size) 51 [.int .u8 cc, .int .u8 pp, .int .u8 rr, .int .u32 at_]) := by rw [← hW]; exact (L_3.out.alloc _)
  have P_4 : Hid (Bk W4 (w3.heap.size) 30 [.int .i64 0, .int .i64 0, .bool false, .bool false, .bool false, .int .i64 0, .int .i64 1, .int .i64 q, .int .i64 p, .int .i64 a]) := by
    rw [← hW]
    have hq := Bk.new w3 [.int .i64 0, .int .i64 0, .bool false, .bool false, .bool false, .int .i64 0, .int .i64 1, .int .i64 q, .int .i64 p, .int .i64 a] 30
    exact hq
  have HB_4 : Hid (Below w.heap.size w W4) := by rw [← hW]; exact (Below.alloc HB_3.out (by  have := HB_3.out.size; omega) _)
  try rw [hW]
  clear hW HB_3 L_3
  have k0 : W4.cell? ⟨w3.heap.size, 0, none⟩ = some (.int .i64 0) := P_4.out.cell (c := 0) rfl
  have k1 : W4.cell? ⟨w3.heap.size, 1, none⟩ = some (.int .i64 0) := P_4.out.cell (c := 1) rfl
  have k2 : W4.cell? ⟨w3.heap.size, 2, none⟩ = some (.bool false) := P_4.out.cell (c := 2) rfl
  have k3 : W4.cell? ⟨w3.heap.size, 3, none⟩ = some (.bool false) := P_4.out.cell (c := 3) rfl
  have k4 : W4.cell? ⟨w3.heap.size, 4, none⟩ = some (.bool false) := P_4.out.cell (c := 4) rfl
  have k5 : W4.cell? ⟨w3.heap.size, 5, none⟩ = some (.int .i64 0) := P_4.out.cell (c := 5) rfl
  have k6 : W4.cell? ⟨w3.heap.size, 6, none⟩ = some (.int .i64 1) := P_4.out.cell (c := 6) rfl
  have k7 : W4.cell? ⟨w3.heap.size, 7, none⟩ = some (.int .i64 q) := P_4.out.cell (c := 7) rfl
  have k8 : W4.cell? ⟨w3.heap.size, 8, none⟩ = some (.int .i64 p) := P_4.out.cell (c := 8) rfl
  have k9 : W4.cell? ⟨w3.heap.size, 9, none⟩ = some (.int .i64 a) := P_4.out.cell (c := 9) rfl
  go_wp2_with fail
  clear k0 k1 k2 k3 k4 k5 k6 k7 k8 k9
  refine (R1.out _ _).mono ?_
  rintro e w5 ⟨rfl, hb⟩
  have L_5 := Lib.hid (L_4.out.keep hb)
  have P_5 := Lib.hid (P_4.out.keep hb)
  have HB_5 := Lib.hid (HB_4.out.trans (hb.mono HB_4.out.size))
  clear hb HB_4 L_4 P_4
  go_upto_region 7 with fail
  obtain ⟨W6, hW⟩ : ∃ W6, ((w5.alloc (.cells #[.int .u32 n0, .int .u32 n1, .int .u32 n2, .int .u32 n3, .int .u32 n4, .int .u32 n5, .int .u32 n6, .int .u32 n7, .int .u32 n8, .int .u32 n9, .int .u32 n10, .int .u32 n11, .int .u32 n12, .int .u32 n13, .int .u32 n14, .int .u32 n15] 28)).alloc (.cells #[.int .i64 0, .int .i64 0, .bool false, .bool false, .bool false, .int .i64 0, .int .i64 1, .int .i64 q, .int .i64 p, .int .i64 a] 30)) = W6 := ⟨_, rfl⟩
  have L_6 : Hid (Bk W6 (w.heap.size) 51 [.int .u8 cc, .int .u8 pp, .int .u8 rr, .int .u32 at_]) := by rw [← hW]; exact ((L_5.out.alloc _).alloc _)
  have P_6 : Hid (Bk W6 (w3.heap.size) 30 [.int .i64 0, .int .i64 0, .bool false, .bool false, .bool false, .int .i64 0, .int .i64 1, .int .i64 q, .int .i64 p, .int .i64 a]) := by rw [← hW]; exact ((P_5.out.alloc _).alloc _)
  have A_6 : Hid (Bk W6 (w5.heap.size) 28 [.int .u32 n0, .int .u32 n1, .int .u32 n2, .int .u32 n3, .int .u32 n4, .int .u32 n5, .int .u32 n6, .int .u32 n7, .int .u32 n8, .int .u32 n9, .int .u32 n10, .int .u32 n11, .int .u32 n12, .int .u32 n13, .int .u32 n14, .int .u32 n15]) := by
    rw [← hW]
    have hq := Bk.new w5 [.int .u32 n0, .int .u32 n1, .int .u32 n2, .int .u32 n3, .int .u32 n4, .int .u32 n5, .int .u32 n6, .int .u32 n7, .int .u32 n8, .int .u32 n9, .int .u32 n10, .int .u32 n11, .int .u32 n12, .int .u32 n13, .int .u32 n14, .int .u32 n15] 28
    exact hq.alloc _
  have B_6 : Hid (Bk W6 (w5.heap.size + 1) 30 [.int .i64 0, .int .i64 0, .bool false, .bool false, .bool false, .int .i64 0, .int .i64 1, .int .i64 q, .int .i64 p, .int .i64 a]) := by
    rw [← hW]
    have hq := Bk.new (w5.alloc (.cells #[.int .u32 n0, .int .u32 n1, .int .u32 n2, .int .u32 n3, .int .u32 n4, .int .u32 n5, .int .u32 n6, .int .u32 n7, .int .u32 n8, .int .u32 n9, .int .u32 n10, .int .u32 n11, .int .u32 n12, .int .u32 n13, .int .u32 n14, .int .u32 n15] 28)) [.int .i64 0, .int .i64 0, .bool false, .bool false, .bool false, .int .i64 0, .int .i64 1, .int .i64 q, .int .i64 p, .int .i64 a] 30
    rw [World.size_alloc] at hq
    exact hq
  have HB_6 : Hid (Below w.heap.size w W6) := by rw [← hW]; exact (Below.alloc (Below.alloc HB_5.out (by  have := HB_5.out.size; omega) _) (by simp; have := HB_5.out.size; omega) _)
  try rw [hW]
  clear hW HB_5 L_5 P_5
  have k0 : W6.cell? ⟨w5.heap.size, 0, none⟩ = some (.int .u32 n0) := A_6.out.cell (c := 0) rfl
  have k1 : W6.cell? ⟨w5.heap.size, 1, none⟩ = some (.int .u32 n1) := A_6.out.cell (c := 1) rfl
  have k2 : W6.cell? ⟨w5.heap.size, 2, none⟩ = some (.int .u32 n2) := A_6.out.cell (c := 2) rfl
  have k3 : W6.cell? ⟨w5.heap.size, 3, none⟩ = some (.int .u32 n3) := A_6.out.cell (c := 3) rfl
  have k4 : W6.cell? ⟨w5.heap.size, 4, none⟩ = some (.int .u32 n4) := A_6.out.cell (c := 4) rfl
  have k5 : W6.cell? ⟨w5.heap.size, 5, none⟩ = some (.int .u32 n5) := A_6.out.cell (c := 5) rfl
  have k6 : W6.cell? ⟨w5.heap.size, 6, none⟩ = some (.int .u32 n6) := A_6.out.cell (c := 6) rfl
  have k7 : W6.cell? ⟨w5.heap.size, 7, none⟩ = some (.int .u32 n7) := A_6.out.cell (c := 7) rfl
  have k8 : W6.cell? ⟨w5.heap.size, 8, none⟩ = some (.int .u32 n8) := A_6.out.cell (c := 8) rfl
  have k9 : W6.cell? ⟨w5.heap.size, 9, none⟩ = some (.int .u32 n9) := A_6.out.cell (c := 9) rfl
  have k10 : W6.cell? ⟨w5.heap.size, 10, none⟩ = some (.int .u32 n10) := A_6.out.cell (c := 10) rfl
  have k11 : W6.cell? ⟨w5.heap.size, 11, none⟩ = some (.int .u32 n11) := A_6.out.cell (c := 11) rfl
  have k12 : W6.cell? ⟨w5.heap.size, 12, none⟩ = some (.int .u32 n12) := A_6.out.cell (c := 12) rfl
  have k13 : W6.cell? ⟨w5.heap.size, 13, none⟩ = some (.int .u32 n13) := A_6.out.cell (c := 13) rfl
  have k14 : W6.cell? ⟨w5.heap.size, 14, none⟩ = some (.int .u32 n14) := A_6.out.cell (c := 14) rfl
  have k15 : W6.cell? ⟨w5.heap.size, 15, none⟩ = some (.int .u32 n15) := A_6.out.cell (c := 15) rfl
  go_wp2_with fail
  clear k0 k1 k2 k3 k4 k5 k6 k7 k8 k9 k10 k11 k12 k13 k14 k15
  refine (R2.out _ _).mono ?_
  rintro e w7 ⟨rfl, hb⟩
  have L_7 := Lib.hid (L_6.out.keep hb)
  have P_7 := Lib.hid (P_6.out.keep hb)
  have A_7 := Lib.hid (A_6.out.keep hb)
  have B_7 := Lib.hid (B_6.out.keep hb)
  have HB_7 := Lib.hid (HB_6.out.trans (hb.mono HB_6.out.size))
  clear hb HB_6 L_6 P_6 A_6 B_6
  go_upto_region 8 with fail
  obtain ⟨W8, hW⟩ : ∃ W8, ((w7.alloc (.cells #[.int .u32 n0, .int .u32 n1, .int .u32 n2, .int .u32 n3, .int .u32 n4, .int .u32 n5, .int .u32 n6, .int .u32 n7, .int .u32 n8, .int .u32 n9, .int .u32 n10, .int .u32 n11, .int .u32 n12, .int .u32 n13, .int .u32 n14, .int .u32 n15] 28)).alloc (.cells #[.int .i64 0, .int .i64 0, .bool false, .bool false, .bool false, .int .i64 0, .int .i64 0, .int .i64 q, .int .i64 p, .int .i64 0] 30)) = W8 := ⟨_, rfl⟩
  have L_8 : Hid (Bk W8 (w.heap.size) 51 [.int .u8 cc, .int .u8 pp, .int .u8 rr, .int .u32 at_]) := by rw [← hW]; exact ((L_7.out.alloc _).alloc _)
  have P_8 : Hid (Bk W8 (w3.heap.size) 30 [.int .i64 0, .int .i64 0, .bool false, .bool false, .bool false, .int .i64 0, .int .i64 1, .int .i64 q, .int .i64 p, .int .i64 a]) := by rw [← hW]; exact ((P_7.out.alloc _).alloc _)
  have A_8 : Hid (Bk W8 (w5.heap.size) 28 [.int .u32 n0, .int .u32 n1, .int .u32 n2, .int .u32 n3, .int .u32 n4, .int .u32 n5, .int .u32 n6, .int .u32 n7, .int .u32 n8, .int .u32 n9, .int .u32 n10, .int .u32 n11, .int .u32 n12, .int .u32 n13, .int .u32 n14, .int .u32 n15]) := by rw [← hW]; exact ((A_7.out.alloc _).alloc _)
  have B_8 : Hid (Bk W8 (w5.heap.size + 1) 30 [.int .i64 0, .int .i64 0, .bool false, .bool false, .bool false, .int .i64 0, .int .i64 1, .int .i64 q, .int .i64 p, .int .i64 a]) := by rw [← hW]; exact ((B_7.out.alloc _).alloc _)
  have C_8 : Hid (Bk W8 (w7.heap.size) 28 [.int .u32 n0, .int .u32 n1, .int .u32 n2, .int .u32 n3, .int .u32 n4, .int .u32 n5, .int .u32 n6, .int .u32 n7, .int .u32 n8, .int .u32 n9, .int .u32 n10, .int .u32 n11, .int .u32 n12, .int .u32 n13, .int .u32 n14, .int .u32 n15]) := by
    rw [← hW]
    have hq := Bk.new w7 [.int .u32 n0, .int .u32 n1, .int .u32 n2, .int .u32 n3, .int .u32 n4, .int .u32 n5, .int .u32 n6, .int .u32 n7, .int .u32 n8, .int .u32 n9, .int .u32 n10, .int .u32 n11, .int .u32 n12, .int .u32 n13, .int .u32 n14, .int .u32 n15] 28
    exact hq.alloc _
  have D_8 : Hid (Bk W8 (w7.heap.size + 1) 30 [.int .i64 0, .int .i64 0, .bool false, .bool false, .bool false, .int .i64 0, .int .i64 0, .int .i64 q, .int .i64 p, .int .i64 0]) := by
    rw [← hW]
    have hq := Bk.new (w7.alloc (.cells #[.int .u32 n0, .int .u32 n1, .int .u32 n2, .int .u32 n3, .int .u32 n4, .int .u32 n5, .int .u32 n6, .int .u32 n7, .int .u32 n8, .int .u32 n9, .int .u32 n10, .int .u32 n11, .int .u32 n12, .int .u32 n13, .int .u32 n14, .int .u32 n15] 28)) [.int .i64 0, .int .i64 0, .bool false, .bool false, .bool false, .int .i64 0, .int .i64 0, .int .i64 q, .int .i64 p, .int .i64 0] 30
    rw [World.size_alloc] at hq
    exact hq
  have HB_8 : Hid (Below w.heap.size w W8) := by rw [← hW]; exact (Below.alloc (Below.alloc HB_7.out (by  have := HB_7.out.size; omega) _) (by simp; have := HB_7.out.size; omega) _)
  try rw [hW]
  clear hW HB_7 L_7 P_7 A_7 B_7
  have k0 : W8.cell? ⟨w5.heap.size, 0, none⟩ = some (.int .u32 n0) := A_8.out.cell (c := 0) rfl
  have k1 : W8.cell? ⟨w5.heap.size, 1, none⟩ = some (.int .u32 n1) := A_8.out.cell (c := 1) rfl
  have k2 : W8.cell? ⟨w5.heap.size, 2, none⟩ = some (.int .u32 n2) := A_8.out.cell (c := 2) rfl
  have k3 : W8.cell? ⟨w5.heap.size, 3, none⟩ = some (.int .u32 n3) := A_8.out.cell (c := 3) rfl
  have k4 : W8.cell? ⟨w5.heap.size, 4, none⟩ = some (.int .u32 n4) := A_8.out.cell (c := 4) rfl
  have k5 : W8.cell? ⟨w5.heap.size, 5, none⟩ = some (.int .u32 n5) := A_8.out.cell (c := 5) rfl
  have k6 : W8.cell? ⟨w5.heap.size, 6, none⟩ = some (.int .u32 n6) := A_8.out.cell (c := 6) rfl
  have k7 : W8.cell? ⟨w5.heap.size, 7, none⟩ = some (.int .u32 n7) := A_8.out.cell (c := 7) rfl
  have k8 : W8.cell? ⟨w5.heap.size, 8, none⟩ = some (.int .u32 n8) := A_8.out.cell (c := 8) rfl
  have k9 : W8.cell? ⟨w5.heap.size, 9, none⟩ = some (.int .u32 n9) := A_8.out.cell (c := 9) rfl
  have k10 : W8.cell? ⟨w5.heap.size, 10, none⟩ = some (.int .u32 n10) := A_8.out.cell (c := 10) rfl
  have k11 : W8.cell? ⟨w5.heap.size, 11, none⟩ = some (.int .u32 n11) := A_8.out.cell (c := 11) rfl
  have k12 : W8.cell? ⟨w5.heap.size, 12, none⟩ = some (.int .u32 n12) := A_8.out.cell (c := 12) rfl
  have k13 : W8.cell? ⟨w5.heap.size, 13, none⟩ = some (.int .u32 n13) := A_8.out.cell (c := 13) rfl
  have k14 : W8.cell? ⟨w5.heap.size, 14, none⟩ = some (.int .u32 n14) := A_8.out.cell (c := 14) rfl
  have k15 : W8.cell? ⟨w5.heap.size, 15, none⟩ = some (.int .u32 n15) := A_8.out.cell (c := 15) rfl
  go_wp2_with fail
  clear k0 k1 k2 k3 k4 k5 k6 k7 k8 k9 k10 k11 k12 k13 k14 k15
  refine (R3.out _ _).mono ?_
  rintro e w9 ⟨rfl, hb⟩
  have L_9 := Lib.hid (L_8.out.keep hb)
  have P_9 := Lib.hid (P_8.out.keep hb)
  have A_9 := Lib.hid (A_8.out.keep hb)
  have B_9 := Lib.hid (B_8.out.keep hb)
  have C_9 := Lib.hid (C_8.out.keep hb)
  have D_9 := Lib.hid (D_8.out.keep hb)
  have HB_9 := Lib.hid (HB_8.out.trans (hb.mono HB_8.out.size))
  clear hb HB_8 L_8 P_8 A_8 B_8 C_8 D_8
  go_upto_region 9 with fail
  obtain ⟨W10, hW⟩ : ∃ W10, ((w9.alloc (.cells #[.int .u32 n0, .int .u32 n1, .int .u32 n2, .int .u32 n3, .int .u32 n4, .int .u32 n5, .int .u32 n6, .int .u32 n7, .int .u32 n8, .int .u32 n9, .int .u32 n10, .int .u32 n11, .int .u32 n12, .int .u32 n13, .int .u32 n14, .int .u32 n15] 28)).alloc (.cells #[.int .i64 0, .int .i64 0, .bool false, .bool false, .bool false, .int .i64 0, .int .i64 0, .int .i64 0, .int .i64 0, .int .i64 a] 30)) = W10 := ⟨_, rfl⟩
  have L_10 : Hid (Bk W10 (w.heap.size) 51 [.int .u8 cc, .int .u8 pp, .int .u8 rr, .int .u32 at_]) := by rw [← hW]; exact ((L_9.out.alloc _).alloc _)
  have P_10 : Hid (Bk W10 (w3.heap.size) 30 [.int .i64 0, .int .i64 0, .bool false, .bool false, .bool false, .int .i64 0, .int .i64 1, .int .i64 q, .int .i64 p, .int .i64 a]) := by rw [← hW]; exact ((P_9.out.alloc _).alloc _)
  have A_10 : Hid (Bk W10 (w5.heap.size) 28 [.int .u32 n0, .int .u32 n1, .int .u32 n2, .int .u32 n3, .int .u32 n4, .int .u32 n5, .int .u32 n6, .int .u32 n7, .int .u32 n8, .int .u32 n9, .int .u32 n10, .int .u32 n11, .int .u32 n12, .int .u32 n13, .int .u32 n14, .int .u32 n15]) := by rw [← hW]; exact ((A_9.out.alloc _).alloc _)
  have B_10 : Hid (Bk W10 (w5.heap.size + 1) 30 [.int .i64 0, .int .i64 0, .bool false, .bool false, .bool false, .int .i64 0, .int .i64 1, .int .i64 q, .int .i64 p, .int .i64 a]) := by rw [← hW]; exact ((B_9.out.alloc _).alloc _)
  have C_10 : Hid (Bk W10 (w7.heap.size) 28 [.int .u32 n0, .int .u32 n1, .int .u32 n2, .int .u32 n3, .int .u32 n4, .int .u32 n5, .int .u32 n6, .int .u32 n7, .int .u32 n8, .int .u32 n9, .int .u32 n10, .int .u32 n11, .int .u32 n12, .int .u32 n13, .int .u32 n14, .int .u32 n15]) := by rw [← hW]; exact ((C_9.out.alloc _).alloc _)
  have D_10 : Hid (Bk W10 (w7.heap.size + 1) 30 [.int .i64 0, .int .i64 0, .bool false, .bool false, .bool false, .int .i64 0, .int .i64 0, .int .i64 q, .int .i64 p, .int .i64 0]) := by rw [← hW]; exact ((D_9.out.alloc _).alloc _)
  have G_10 : Hid (Bk W10 (w9.heap.size) 28 [.int .u32 n0, .int .u32 n1, .int .u32 n2, .int .u32 n3, .int .u32 n4, .int .u32 n5, .int .u32 n6, .int .u32 n7, .int .u32 n8, .int .u32 n9, .int .u32 n10, .int .u32 n11, .int .u32 n12, .int .u32 n13, .int .u32 n14, .int .u32 n15]) := by
    rw [← hW]
    have hq := Bk.new w9 [.int .u32 n0, .int .u32 n1, .int .u32 n2, .int .u32 n3, .int .u32 n4, .int .u32 n5, .int .u32 n6, .int .u32 n7, .int .u32 n8, .int .u32 n9, .int .u32 n10, .int .u32 n11, .int .u32 n12, .int .u32 n13, .int .u32 n14, .int .u32 n15] 28
    exact hq.alloc _
  have H_10 : Hid (Bk W10 (w9.heap.size + 1) 30 [.int .i64 0, .int .i64 0, .bool false, .bool false, .bool false, .int .i64 0, .int .i64 0, .int .i64 0, .int .i64 0, .int .i64 a]) := by
    rw [← hW]
    have hq := Bk.new (w9.alloc (.cells #[.int .u32 n0, .int .u32 n1, .int .u32 n2, .int .u32 n3, .int .u32 n4, .int .u32 n5, .int .u32 n6, .int .u32 n7, .int .u32 n8, .int .u32 n9, .int .u32 n10, .int .u32 n11, .int .u32 n12, .int .u32 n13, .int .u32 n14, .int .u32 n15] 28)) [.int .i64 0, .int .i64 0, .bool false, .bool false, .bool false, .int .i64 0, .int .i64 0, .int .i64 0, .int .i64 0, .int .i64 a] 30
    rw [World.size_alloc] at hq
    exact hq
  have HB_10 : Hid (Below w.heap.size w W10) := by rw [← hW]; exact (Below.alloc (Below.alloc HB_9.out (by  have := HB_9.out.size; omega) _) (by simp; have := HB_9.out.size; omega) _)
  try rw [hW]
  clear hW HB_9 L_9 P_9 A_9 B_9 C_9 D_9
  have ka0 : W10.cell? ⟨w3.heap.size, 0, none⟩ = some (.int .i64 0) := P_10.out.cell (c := 0) rfl
  have ka1 : W10.cell? ⟨w3.heap.size, 1, none⟩ = some (.int .i64 0) := P_10.out.cell (c := 1) rfl
  have ka2 : W10.cell? ⟨w3.heap.size, 2, none⟩ = some (.bool false) := P_10.out.cell (c := 2) rfl
  have ka3 : W10.cell? ⟨w3.heap.size, 3, none⟩ = some (.bool false) := P_10.out.cell (c := 3) rfl
  have ka4 : W10.cell? ⟨w3.heap.size, 4, none⟩ = some (.bool false) := P_10.out.cell (c := 4) rfl
  have ka5 : W10.cell? ⟨w3.heap.size, 5, none⟩ = some (.int .i64 0) := P_10.out.cell (c := 5) rfl
  have ka6 : W10.cell? ⟨w3.heap.size, 6, none⟩ = some (.int .i64 1) := P_10.out.cell (c := 6) rfl
  have ka7 : W10.cell? ⟨w3.heap.size, 7, none⟩ = some (.int .i64 q) := P_10.out.cell (c := 7) rfl
  have ka8 : W10.cell? ⟨w3.heap.size, 8, none⟩ = some (.int .i64 p) := P_10.out.cell (c := 8) rfl
  have ka9 : W10.cell? ⟨w3.heap.size, 9, none⟩ = some (.int .i64 a) := P_10.out.cell (c := 9) rfl
  have kb0 : W10.cell? ⟨w5.heap.size + 1, 0, none⟩ = some (.int .i64 0) := B_10.out.cell (c := 0) rfl
  have kb1 : W10.cell? ⟨w5.heap.size + 1, 1, none⟩ = some (.int .i64 0) := B_10.out.cell (c := 1) rfl
  have kb2 : W10.cell? ⟨w5.heap.size + 1, 2, none⟩ = some (.bool false) := B_10.out.cell (c := 2) rfl
  have kb3 : W10.cell? ⟨w5.heap.size + 1, 3, none⟩ = some (.bool false) := B_10.out.cell (c := 3) rfl
  have kb4 : W10.cell? ⟨w5.heap.size + 1, 4, none⟩ = some (.bool false) := B_10.out.cell (c := 4) rfl
  have kb5 : W10.cell? ⟨w5.heap.size + 1, 5, none⟩ = some (.int .i64 0) := B_10.out.cell (c := 5) rfl
  have kb6 : W10.cell? ⟨w5.heap.size + 1, 6, none⟩ = some (.int .i64 1) := B_10.out.cell (c := 6) rfl
  have kb7 : W10.cell? ⟨w5.heap.size + 1, 7, none⟩ = some (.int .i64 q) := B_10.out.cell (c := 7) rfl
  have kb8 : W10.cell? ⟨w5.heap.size + 1, 8, none⟩ = some (.int .i64 p) := B_10.out.cell (c := 8) rfl
  have kb9 : W10.cell? ⟨w5.heap.size + 1, 9, none⟩ = some (.int .i64 a) := B_10.out.cell (c := 9) rfl
  have kd0 : W10.cell? ⟨w7.heap.size + 1, 0, none⟩ = some (.int .i64 0) := D_10.out.cell (c := 0) rfl
  have kd1 : W10.cell? ⟨w7.heap.size + 1, 1, none⟩ = some (.int .i64 0) := D_10.out.cell (c := 1) rfl
  have kd2 : W10.cell? ⟨w7.heap.size + 1, 2, none⟩ = some (.bool false) := D_10.out.cell (c := 2) rfl
  have kd3 : W10.cell? ⟨w7.heap.size + 1, 3, none⟩ = some (.bool false) := D_10.out.cell (c := 3) rfl
  have kd4 : W10.cell? ⟨w7.heap.size + 1, 4, none⟩ = some (.bool false) := D_10.out.cell (c := 4) rfl
  have kd5 : W10.cell? ⟨w7.heap.size + 1, 5, none⟩ = some (.int .i64 0) := D_10.out.cell (c := 5) rfl
  have kd6 : W10.cell? ⟨w7.heap.size + 1, 6, none⟩ = some (.int .i64 0) := D_10.out.cell (c := 6) rfl
  have kd7 : W10.cell? ⟨w7.heap.size + 1, 7, none⟩ = some (.int .i64 q) := D_10.out.cell (c := 7) rfl
  have kd8 : W10.cell? ⟨w7.heap.size + 1, 8, none⟩ = some (.int .i64 p) := D_10.out.cell (c := 8) rfl
  have kd9 : W10.cell? ⟨w7.heap.size + 1, 9, none⟩ = some (.int .i64 0) := D_10.out.cell (c := 9) rfl
  have kh0 : W10.cell? ⟨w9.heap.size + 1, 0, none⟩ = some (.int .i64 0) := H_10.out.cell (c := 0) rfl
  have kh1 : W10.cell? ⟨w9.heap.size + 1, 1, none⟩ = some (.int .i64 0) := H_10.out.cell (c := 1) rfl
  have kh2 : W10.cell? ⟨w9.heap.size + 1, 2, none⟩ = some (.bool false) := H_10.out.cell (c := 2) rfl
  have kh3 : W10.cell? ⟨w9.heap.size + 1, 3, none⟩ = some (.bool false) := H_10.out.cell (c := 3) rfl
  have kh4 : W10.cell? ⟨w9.heap.size + 1, 4, none⟩ = some (.bool false) := H_10.out.cell (c := 4) rfl
  have kh5 : W10.cell? ⟨w9.heap.size + 1, 5, none⟩ = some (.int .i64 0) := H_10.out.cell (c := 5) rfl
  have kh6 : W10.cell? ⟨w9.heap.size + 1, 6, none⟩ = some (.int .i64 0) := H_10.out.cell (c := 6) rfl
  have kh7 : W10.cell? ⟨w9.heap.size + 1, 7, none⟩ = some (.int .i64 0) := H_10.out.cell (c := 7) rfl
  have kh8 : W10.cell? ⟨w9.heap.size + 1, 8, none⟩ = some (.int .i64 0) := H_10.out.cell (c := 8) rfl
  have kh9 : W10.cell? ⟨w9.heap.size + 1, 9, none⟩ = some (.int .i64 a) := H_10.out.cell (c := 9) rfl
  have kr : W10.cell? ⟨w5.heap.size, n, none⟩ = some (.int .u32 v) := by
    rw [cell_blk A_10.out n]
    have hx := HG.out
    have hn' := NN.out
    rw [← hx, List.getElem?_toArray, show ([.int .u32 n0, .int .u32 n1, .int .u32 n2, .int .u32 n3, .int .u32 n4, .int .u32 n5, .int .u32 n6, .int .u32 n7, .int .u32 n8, .int .u32 n9, .int .u32 n10, .int .u32 n11, .int .u32 n12, .int .u32 n13, .int .u32 n14, .int .u32 n15] : List Value) = [n0, n1, n2, n3, n4, n5, n6, n7, n8, n9, n10, n11, n12, n13, n14, n15].map (Value.int .u32) from rfl, List.getElem?_map, List.getD_eq_getElem?_getD, List.getElem?_eq_getElem (by simpa using hn')]
    rfl
  go_wp2
  go_ret
  have ee := E4.out
  exact ⟨by first | rfl | (simp [ee]), HB_10.out⟩
theorem generalLinks_walk (cc pp rr at_ : Int) (w : World) (w0 : (Lit.int .u8 cc).wf = true) (w1 : (Lit.int .u8 pp).wf = true) (w2 : (Lit.int .u8 rr).wf = true) (w3 : (Lit.int .u32 at_).wf = true) : Calls Try.prog 8 #[.agg #[.int .u8 cc, .int .u8 pp, .int .u8 rr, .int .u32 at_]] w fun e w' => e = .returned (.bool true) ∧ Below w.heap.size w w' := by
  obtain ⟨a0, a1⟩ := bounds_u8 w0
  obtain ⟨b0, b1⟩ := bounds_u8 w1
  obtain ⟨c0, c1⟩ := bounds_u8 w2
  obtain ⟨d0, d1⟩ := bounds_u32 w3
  obtain ⟨n, hn⟩ := Int.eq_ofNat_of_zero_le (show 0 ≤ rr % 15 + 1 by omega)
  obtain ⟨n0, n1, n2, n3, n4, n5, n6, n7, n8, n9, n10, n11, n12, n13, n14, n15, hs⟩ := list16 (l := (List.replicate 16 (0 : Int)).set n (linkV (cc % 4) (pp % 16) (at_ % 8388608 * 2))) (by simp)
  exact generalLinks_go cc pp rr at_ n _ _ _ _ n0 n1 n2 n3 n4 n5 n6 n7 n8 n9 n10 n11 n12 n13 n14 n15 w a0 a1 b0 b1 c0 c1 d0 d1 hn rfl rfl rfl rfl hs
end Go.Proofs.Ythjdjbipfdigeaa
