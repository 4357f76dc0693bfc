/- THE WALK of IsaBack: it returns true and writes nothing that was there. Conditions: the slice reads as bytes; its capacity is within the form's reach. -/
import Derived.Test.YtfbcjpbfggbhfaaIs7
import Derived.Test.YtfbcjpbfggbhfaaIsA
import Derived.Test.YtfbcjpbfggbhfaaKp
import Derived.Test.YtfbcjpbfggbhfaaRow
namespace Go.Proofs.Ytfbcjpbfggbhfaa
open Go.RowKit
set_option linter.unusedVariables false
set_option linter.unusedSimpArgs false
theorem eqi_refl (op fm r1 r2 x2 b1 d1 b2 d2 l1 l2 i2 : Int) : eqiB op fm r1 r2 x2 b1 d1 b2 d2 l1 l2 i2 op fm r1 r2 x2 b1 d1 b2 d2 l1 l2 i2 = true := by simp [eqiB]
attribute [local go_sem] eqi_run eqi_guard eqi_refl
set_option maxRecDepth 100000 in
set_option maxHeartbeats 4000000 in
theorem isaBack_no (op fm r1 r2 x2 b1 d1 b2 d2 l1 l2 i2 : Int) (A : Option Addr) (len cap : Nat) (w : World) (o0 : -9223372036854775808 ≤ op) (o1 : op ≤ 9223372036854775807) (hc : chk op fm [op, fm, r1, r2, x2, b1, d1, b2, d2, l1, l2, i2] ≠ 0) : Calls Try.prog 6 #[.agg #[.int .i64 op, .int .i64 fm, .int .i64 r1, .int .i64 r2, .int .i64 x2, .int .i64 b1, .int .i64 d1, .int .i64 b2, .int .i64 d2, .int .i64 l1, .int .i64 l2, .int .i64 i2], .slice A len cap] w fun e w' => e = .returned (.bool true) ∧ Below w.heap.size w w' := by
  have CC := Lib.hid (fun W => icheck_c op fm r1 r2 x2 b1 d1 b2 d2 l1 l2 i2 W)
  have EC := Lib.hid (fun W => iencode_c op fm r1 r2 x2 b1 d1 b2 d2 l1 l2 i2 W o0 o1)
  obtain ⟨cd, hcd⟩ : ∃ x, chk op fm [op, fm, r1, r2, x2, b1, d1, b2, d2, l1, l2, i2] = x := ⟨_, rfl⟩
  rw [hcd] at hc
  simp only [hcd, if_neg hc] at CC EC
  have e1 : (cd != 0) = true := by simpa using hc
  have e2 : (cd == cd) = true := by simp
  clear hcd hc
  have WK := Lib.hid (fun W (h : Below w.heap.size w W) => (works_c W).mono (fun e w' h' => And.intro h'.1 (h.trans (h'.2.mono h.size))))
  go_enter Try.func6, Try.ntmps6
  go_wp2_with fail
  refine (CC.out _).mono ?_
  rintro e w1 ⟨rfl, hb⟩
  have HB1 := Lib.hid (((Below.refl w.heap.size w).alloc (Nat.le_refl _) (.cells #[.int .i64 op, .int .i64 fm, .int .i64 r1, .int .i64 r2, .int .i64 x2, .int .i64 b1, .int .i64 d1, .int .i64 b2, .int .i64 d2, .int .i64 l1, .int .i64 l2, .int .i64 i2] 28)).trans (hb.mono (by simp)))
  have BI := Lib.hid (Blk.keep (T := 28) (ys := [op, fm, r1, r2, x2, b1, d1, b2, d2, l1, l2, i2]) (heap_alloc_new w _) hb)
  clear hb
  have k0 : w1.cell? ⟨w.heap.size, 0, none⟩ = some (.int .i64 op) := BI.out.cell (c := 0) (by simp)
  have k1 : w1.cell? ⟨w.heap.size, 1, none⟩ = some (.int .i64 fm) := BI.out.cell (c := 1) (by simp)
  have k2 : w1.cell? ⟨w.heap.size, 2, none⟩ = some (.int .i64 r1) := BI.out.cell (c := 2) (by simp)
  have k3 : w1.cell? ⟨w.heap.size, 3, none⟩ = some (.int .i64 r2) := BI.out.cell (c := 3) (by simp)
  have k4 : w1.cell? ⟨w.heap.size, 4, none⟩ = some (.int .i64 x2) := BI.out.cell (c := 4) (by simp)
  have k5 : w1.cell? ⟨w.heap.size, 5, none⟩ = some (.int .i64 b1) := BI.out.cell (c := 5) (by simp)
  have k6 : w1.cell? ⟨w.heap.size, 6, none⟩ = some (.int .i64 d1) := BI.out.cell (c := 6) (by simp)
  have k7 : w1.cell? ⟨w.heap.size, 7, none⟩ = some (.int .i64 b2) := BI.out.cell (c := 7) (by simp)
  have k8 : w1.cell? ⟨w.heap.size, 8, none⟩ = some (.int .i64 d2) := BI.out.cell (c := 8) (by simp)
  have k9 : w1.cell? ⟨w.heap.size, 9, none⟩ = some (.int .i64 l1) := BI.out.cell (c := 9) (by simp)
  have k10 : w1.cell? ⟨w.heap.size, 10, none⟩ = some (.int .i64 l2) := BI.out.cell (c := 10) (by simp)
  have k11 : w1.cell? ⟨w.heap.size, 11, none⟩ = some (.int .i64 i2) := BI.out.cell (c := 11) (by simp)
  go_wp2_with fail
  refine (EC.out _).mono ?_
  rintro e w2 ⟨B, m, rfl, -, -, -, hb⟩
  have HB2 := Lib.hid (HB1.out.trans (hb.mono HB1.out.size))
  have BJ := Lib.hid (BI.out.keep hb)
  clear hb HB1 BI k0 k1 k2 k3 k4 k5 k6 k7 k8 k9 k10 k11
  have k0 : w2.cell? ⟨w.heap.size, 0, none⟩ = some (.int .i64 op) := BJ.out.cell (c := 0) (by simp)
  have k1 : w2.cell? ⟨w.heap.size, 1, none⟩ = some (.int .i64 fm) := BJ.out.cell (c := 1) (by simp)
  have k2 : w2.cell? ⟨w.heap.size, 2, none⟩ = some (.int .i64 r1) := BJ.out.cell (c := 2) (by simp)
  have k3 : w2.cell? ⟨w.heap.size, 3, none⟩ = some (.int .i64 r2) := BJ.out.cell (c := 3) (by simp)
  have k4 : w2.cell? ⟨w.heap.size, 4, none⟩ = some (.int .i64 x2) := BJ.out.cell (c := 4) (by simp)
  have k5 : w2.cell? ⟨w.heap.size, 5, none⟩ = some (.int .i64 b1) := BJ.out.cell (c := 5) (by simp)
  have k6 : w2.cell? ⟨w.heap.size, 6, none⟩ = some (.int .i64 d1) := BJ.out.cell (c := 6) (by simp)
  have k7 : w2.cell? ⟨w.heap.size, 7, none⟩ = some (.int .i64 b2) := BJ.out.cell (c := 7) (by simp)
  have k8 : w2.cell? ⟨w.heap.size, 8, none⟩ = some (.int .i64 d2) := BJ.out.cell (c := 8) (by simp)
  have k9 : w2.cell? ⟨w.heap.size, 9, none⟩ = some (.int .i64 l1) := BJ.out.cell (c := 9) (by simp)
  have k10 : w2.cell? ⟨w.heap.size, 10, none⟩ = some (.int .i64 l2) := BJ.out.cell (c := 10) (by simp)
  have k11 : w2.cell? ⟨w.heap.size, 11, none⟩ = some (.int .i64 i2) := BJ.out.cell (c := 11) (by simp)
  go_wp2_with fail
  refine (CC.out _).mono ?_
  rintro e w3 ⟨rfl, hb⟩
  have HB3 := Lib.hid (HB2.out.trans (hb.mono HB2.out.size))
  clear hb HB2 BJ k0 k1 k2 k3 k4 k5 k6 k7 k8 k9 k10 k11
  go_wp2_with (go_at_call 14; refine (WK.out _ HB3.out).mono ?_; rintro e w4 ⟨rfl, HB4⟩)
  go_ret
  exact ⟨by simp, HB4⟩
set_option maxRecDepth 100000 in
set_option maxHeartbeats 4000000 in
theorem isaBack_yes (op fm r1 r2 x2 b1 d1 b2 d2 l1 l2 i2 : Int) (A : Option Addr) (len cap : Nat) (zs : List Int) (w : World) (o0 : -9223372036854775808 ≤ op) (o1 : op ≤ 9223372036854775807) (hc : chk op fm [op, fm, r1, r2, x2, b1, d1, b2, d2, l1, l2, i2] = 0) (hz : Byt w A len zs) (hA : A = none → cap = 0) (hl : len ≤ 140737488351232) : Calls Try.prog 6 #[.agg #[.int .i64 op, .int .i64 fm, .int .i64 r1, .int .i64 r2, .int .i64 x2, .int .i64 b1, .int .i64 d1, .int .i64 b2, .int .i64 d2, .int .i64 l1, .int .i64 l2, .int .i64 i2], .slice A len cap] w fun e w' => e = .returned (.bool true) ∧ Below w.heap.size w w' := by
  have CC := Lib.hid (fun W => icheck_c op fm r1 r2 x2 b1 d1 b2 d2 l1 l2 i2 W)
  have EC := Lib.hid (fun W => iencode_c op fm r1 r2 x2 b1 d1 b2 d2 l1 l2 i2 W o0 o1)
  have LC := Lib.hid (fun W => length_c op o0 o1 W)
  simp only [hc, if_true] at CC EC
  obtain ⟨p0, p1, p2⟩ := back12 op fm r1 r2 x2 b1 d1 b2 d2 l1 l2 i2 hc zs
  have p3 := dokI_of (chk_isOp hc).1 zs p2 (encI_len op fm r1 r2 x2 b1 d1 b2 d2 l1 l2 i2)
  have p4 := encI_len op fm r1 r2 x2 b1 d1 b2 d2 l1 l2 i2
  have p5 := lenOf_cases (chk_isOp hc).1
  obtain ⟨L, hL⟩ : ∃ L : Nat, lenOf op = L := by rcases p5 with h | h | h <;> exact ⟨_, h⟩
  rw [hL, Int.toNat_natCast] at p4
  have hL2 : 2 ≤ L ∧ L ≤ 6 := by omega
  obtain ⟨L0, L1⟩ := hL2
  simp only [hL] at LC
  obtain ⟨ys, hys⟩ : ∃ ys, encI [op, fm, r1, r2, x2, b1, d1, b2, d2, l1, l2, i2] = ys := ⟨_, rfl⟩
  rw [hys] at EC p0 p1 p2 p3 p4
  have P0 := Lib.hid p0
  have P3 := Lib.hid p3
  have P4 := Lib.hid p4
  have HZ := Lib.hid hz
  have HA := Lib.hid hA
  clear hc p0 p1 p2 p3 p4 p5 hL hys hz hA
  have WK := Lib.hid (fun W (h : Below w.heap.size w W) => (works_c W).mono (fun e w' h' => And.intro h'.1 (h.trans (h'.2.mono h.size))))
  go_enter Try.func6, Try.ntmps6
  go_wp2_with fail
  refine (CC.out _).mono ?_
  rintro e w1 ⟨rfl, hb⟩
  have HB1 := Lib.hid (((Below.refl w.heap.size w).alloc (Nat.le_refl _) (.cells #[.int .i64 op, .int .i64 fm, .int .i64 r1, .int .i64 r2, .int .i64 x2, .int .i64 b1, .int .i64 d1, .int .i64 b2, .int .i64 d2, .int .i64 l1, .int .i64 l2, .int .i64 i2] 28)).trans (hb.mono (by simp)))
  have BI := Lib.hid (Blk.keep (T := 28) (ys := [op, fm, r1, r2, x2, b1, d1, b2, d2, l1, l2, i2]) (heap_alloc_new w _) hb)
  clear hb
  have k0 : w1.cell? ⟨w.heap.size, 0, none⟩ = some (.int .i64 op) := BI.out.cell (c := 0) (by simp)
  have k1 : w1.cell? ⟨w.heap.size, 1, none⟩ = some (.int .i64 fm) := BI.out.cell (c := 1) (by simp)
  have k2 : w1.cell? ⟨w.heap.size, 2, none⟩ = some (.int .i64 r1) := BI.out.cell (c := 2) (by simp)
  have k3 : w1.cell? ⟨w.heap.size, 3, none⟩ = some (.int .i64 r2) := BI.out.cell (c := 3) (by simp)
  have k4 : w1.cell? ⟨w.heap.size, 4, none⟩ = some (.int .i64 x2) := BI.out.cell (c := 4) (by simp)
  have k5 : w1.cell? ⟨w.heap.size, 5, none⟩ = some (.int .i64 b1) := BI.out.cell (c := 5) (by simp)
  have k6 : w1.cell? ⟨w.heap.size, 6, none⟩ = some (.int .i64 d1) := BI.out.cell (c := 6) (by simp)
  have k7 : w1.cell? ⟨w.heap.size, 7, none⟩ = some (.int .i64 b2) := BI.out.cell (c := 7) (by simp)
  have k8 : w1.cell? ⟨w.heap.size, 8, none⟩ = some (.int .i64 d2) := BI.out.cell (c := 8) (by simp)
  have k9 : w1.cell? ⟨w.heap.size, 9, none⟩ = some (.int .i64 l1) := BI.out.cell (c := 9) (by simp)
  have k10 : w1.cell? ⟨w.heap.size, 10, none⟩ = some (.int .i64 l2) := BI.out.cell (c := 10) (by simp)
  have k11 : w1.cell? ⟨w.heap.size, 11, none⟩ = some (.int .i64 i2) := BI.out.cell (c := 11) (by simp)
  go_wp2_with fail
  refine (EC.out _).mono ?_
  rintro e w2 ⟨B, m, rfl, hy, hBn, hm6, hb⟩
  obtain rfl : m = L := by have := hy.1; have := P4.out; omega
  have HB2 := Lib.hid (HB1.out.trans (hb.mono HB1.out.size))
  have BJ := Lib.hid (BI.out.keep hb)
  have HY := Lib.hid hy
  have HBN := Lib.hid hBn
  clear hb HB1 BI hy hBn k0 k1 k2 k3 k4 k5 k6 k7 k8 k9 k10 k11
  have ow := Own.empty w2 w2.heap.size (Nat.le_refl _)
  have Y1 := Lib.hid (HY.out.keep ((Below.refl w2.heap.size w2).alloc (Nat.le_refl _) (.cells #[] 5)))
  have hml : ((m : Int) == (m : Int)) = true := by simp
  go_wp2_with (first
    | (at_builtin; refine wpList_append_bytes rfl (.tmp 34) (.tmp 35) rfl w2.heap.size (.slice (some ⟨g1, 0, none⟩) m c1) m ys rfl (by exact HO1.out) A len cap zs rfl (by exact HZ.out.keep HB3.out) HA.out (by omega) (by have := HZ3.out; omega) (fun v2 w4 ho2 hg2 => ?_); obtain ⟨g2, c2, rfl, -, -, -, -⟩ := ho2.pos (by omega); have HB4 := Lib.hid (show Below w.heap.size w w4 from HB3.out.grown hg2 (by have := HB3.out.size; omega) (fun j hj => by simp [Value.ownBlock] at hj; have := HB2.out.size; omega)); have BK4 := Lib.hid (show Blk w4 w.heap.size 28 [op, fm, r1, r2, x2, b1, d1, b2, d2, l1, l2, i2] from (hg2.block w.heap.size (by have h1 := (Array.getElem?_eq_some_iff.1 BK.out).1; omega) (by have h1 := (Array.getElem?_eq_some_iff.1 BJ.out).1; simp [Value.ownBlock]; omega)).trans BK.out); have DC := idecode_c (some ⟨g2, 0, none⟩) (m + len) c2 (ys ++ zs) w4 ho2.byt (by omega); rw [show dokI (m + len) (ys ++ zs) = true from by rw [← ho2.len]; exact P3.out, P0.out] at DC; simp only [if_true, insV, List.map_cons, List.map_nil] at DC; replace DC := Lib.hid DC; clear ho2 hg2)
    | (at_builtin; refine wpList_append_bytes rfl (.tmp 32) (.tmp 33) rfl w2.heap.size (.slice (some ⟨w2.heap.size, 0, none⟩) 0 0) 0 [] rfl ow B m m ys rfl (by exact Y1.out) HBN.out (by omega) (by simp) (fun v1 w3 ho1 hg1 => ?_); clear ow; simp only [Nat.zero_add, List.nil_append] at ho1; obtain ⟨g1, c1, rfl, hg0, -, -, -⟩ := ho1.pos (by omega); have HB3 := Lib.hid (show Below w.heap.size w w3 from (HB2.out.alloc HB2.out.size _).grown hg1 (by have := HB2.out.size; simp; omega) (fun j hj => by simp [Value.ownBlock] at hj; have := HB2.out.size; omega)); have BK := Lib.hid (show Blk w3 w.heap.size 28 [op, fm, r1, r2, x2, b1, d1, b2, d2, l1, l2, i2] from (hg1.block w.heap.size (by have h1 := (Array.getElem?_eq_some_iff.1 BJ.out).1; simp; omega) (by have h1 := (Array.getElem?_eq_some_iff.1 BJ.out).1; simp [Value.ownBlock]; omega)).trans (BJ.out.alloc _)); have HO1 := Lib.hid ho1; have HZ3 := Lib.hid hg1.size; simp only [World.size_alloc] at HZ3; clear ho1 hg1 Y1)
    | (go_at_call 20; refine DC.out.mono ?_; rintro e w5 ⟨rfl, hb⟩; have HB5 := Lib.hid ((HB4.out.trans (hb.mono HB4.out.size)).alloc (HB4.out.trans (hb.mono HB4.out.size)).size (.cells #[.int .i64 op, .int .i64 fm, .int .i64 r1, .int .i64 r2, .int .i64 x2, .int .i64 b1, .int .i64 d1, .int .i64 b2, .int .i64 d2, .int .i64 l1, .int .i64 l2, .int .i64 i2] 28)); have BL := Lib.hid ((BK4.out.keep hb).alloc (.cells #[.int .i64 op, .int .i64 fm, .int .i64 r1, .int .i64 r2, .int .i64 x2, .int .i64 b1, .int .i64 d1, .int .i64 b2, .int .i64 d2, .int .i64 l1, .int .i64 l2, .int .i64 i2] 28)); have k0 : (w5.alloc (.cells #[.int .i64 op, .int .i64 fm, .int .i64 r1, .int .i64 r2, .int .i64 x2, .int .i64 b1, .int .i64 d1, .int .i64 b2, .int .i64 d2, .int .i64 l1, .int .i64 l2, .int .i64 i2] 28)).cell? ⟨w.heap.size, 0, none⟩ = some (.int .i64 op) := BL.out.cell (c := 0) (by simp); have k1 : (w5.alloc (.cells #[.int .i64 op, .int .i64 fm, .int .i64 r1, .int .i64 r2, .int .i64 x2, .int .i64 b1, .int .i64 d1, .int .i64 b2, .int .i64 d2, .int .i64 l1, .int .i64 l2, .int .i64 i2] 28)).cell? ⟨w.heap.size, 1, none⟩ = some (.int .i64 fm) := BL.out.cell (c := 1) (by simp); have k2 : (w5.alloc (.cells #[.int .i64 op, .int .i64 fm, .int .i64 r1, .int .i64 r2, .int .i64 x2, .int .i64 b1, .int .i64 d1, .int .i64 b2, .int .i64 d2, .int .i64 l1, .int .i64 l2, .int .i64 i2] 28)).cell? ⟨w.heap.size, 2, none⟩ = some (.int .i64 r1) := BL.out.cell (c := 2) (by simp); have k3 : (w5.alloc (.cells #[.int .i64 op, .int .i64 fm, .int .i64 r1, .int .i64 r2, .int .i64 x2, .int .i64 b1, .int .i64 d1, .int .i64 b2, .int .i64 d2, .int .i64 l1, .int .i64 l2, .int .i64 i2] 28)).cell? ⟨w.heap.size, 3, none⟩ = some (.int .i64 r2) := BL.out.cell (c := 3) (by simp); have k4 : (w5.alloc (.cells #[.int .i64 op, .int .i64 fm, .int .i64 r1, .int .i64 r2, .int .i64 x2, .int .i64 b1, .int .i64 d1, .int .i64 b2, .int .i64 d2, .int .i64 l1, .int .i64 l2, .int .i64 i2] 28)).cell? ⟨w.heap.size, 4, none⟩ = some (.int .i64 x2) := BL.out.cell (c := 4) (by simp); have k5 : (w5.alloc (.cells #[.int .i64 op, .int .i64 fm, .int .i64 r1, .int .i64 r2, .int .i64 x2, .int .i64 b1, .int .i64 d1, .int .i64 b2, .int .i64 d2, .int .i64 l1, .int .i64 l2, .int .i64 i2] 28)).cell? ⟨w.heap.size, 5, none⟩ = some (.int .i64 b1) := BL.out.cell (c := 5) (by simp); have k6 : (w5.alloc (.cells #[.int .i64 op, .int .i64 fm, .int .i64 r1, .int .i64 r2, .int .i64 x2, .int .i64 b1, .int .i64 d1, .int .i64 b2, .int .i64 d2, .int .i64 l1, .int .i64 l2, .int .i64 i2] 28)).cell? ⟨w.heap.size, 6, none⟩ = some (.int .i64 d1) := BL.out.cell (c := 6) (by simp); have k7 : (w5.alloc (.cells #[.int .i64 op, .int .i64 fm, .int .i64 r1, .int .i64 r2, .int .i64 x2, .int .i64 b1, .int .i64 d1, .int .i64 b2, .int .i64 d2, .int .i64 l1, .int .i64 l2, .int .i64 i2] 28)).cell? ⟨w.heap.size, 7, none⟩ = some (.int .i64 b2) := BL.out.cell (c := 7) (by simp); have k8 : (w5.alloc (.cells #[.int .i64 op, .int .i64 fm, .int .i64 r1, .int .i64 r2, .int .i64 x2, .int .i64 b1, .int .i64 d1, .int .i64 b2, .int .i64 d2, .int .i64 l1, .int .i64 l2, .int .i64 i2] 28)).cell? ⟨w.heap.size, 8, none⟩ = some (.int .i64 d2) := BL.out.cell (c := 8) (by simp); have k9 : (w5.alloc (.cells #[.int .i64 op, .int .i64 fm, .int .i64 r1, .int .i64 r2, .int .i64 x2, .int .i64 b1, .int .i64 d1, .int .i64 b2, .int .i64 d2, .int .i64 l1, .int .i64 l2, .int .i64 i2] 28)).cell? ⟨w.heap.size, 9, none⟩ = some (.int .i64 l1) := BL.out.cell (c := 9) (by simp); have k10 : (w5.alloc (.cells #[.int .i64 op, .int .i64 fm, .int .i64 r1, .int .i64 r2, .int .i64 x2, .int .i64 b1, .int .i64 d1, .int .i64 b2, .int .i64 d2, .int .i64 l1, .int .i64 l2, .int .i64 i2] 28)).cell? ⟨w.heap.size, 10, none⟩ = some (.int .i64 l2) := BL.out.cell (c := 10) (by simp); have k11 : (w5.alloc (.cells #[.int .i64 op, .int .i64 fm, .int .i64 r1, .int .i64 r2, .int .i64 x2, .int .i64 b1, .int .i64 d1, .int .i64 b2, .int .i64 d2, .int .i64 l1, .int .i64 l2, .int .i64 i2] 28)).cell? ⟨w.heap.size, 11, none⟩ = some (.int .i64 i2) := BL.out.cell (c := 11) (by simp); clear hb)
    | (go_at_call 12; refine (LC.out _).mono ?_; rintro e w6 ⟨rfl, hw6⟩; subst hw6)
    | (go_at_call 14; refine (WK.out _ HB5.out).mono ?_; rintro e w7 ⟨rfl, HB7⟩))
  go_ret
  exact ⟨by simp, HB7⟩
theorem isaBack_walk (op fm r1 r2 x2 b1 d1 b2 d2 l1 l2 i2 : Int) (A : Option Addr) (len cap : Nat) (z : List Int) (w : World) (wf_op : (Lit.int .i64 op).wf = true) (wf_fm : (Lit.int .i64 fm).wf = true) (wf_r1 : (Lit.int .i64 r1).wf = true) (wf_r2 : (Lit.int .i64 r2).wf = true) (wf_x2 : (Lit.int .i64 x2).wf = true) (wf_b1 : (Lit.int .i64 b1).wf = true) (wf_d1 : (Lit.int .i64 d1).wf = true) (wf_b2 : (Lit.int .i64 b2).wf = true) (wf_d2 : (Lit.int .i64 d2).wf = true) (wf_l1 : (Lit.int .i64 l1).wf = true) (wf_l2 : (Lit.int .i64 l2).wf = true) (wf_i2 : (Lit.int .i64 i2).wf = true) (w1 : IsRow .u8 w A len cap z) (b1' : cap * 1 ≤ 140737488351232) : Calls Try.prog 6 #[.agg #[.int .i64 op, .int .i64 fm, .int .i64 r1, .int .i64 r2, .int .i64 x2, .int .i64 b1, .int .i64 d1, .int .i64 b2, .int .i64 d2, .int .i64 l1, .int .i64 l2, .int .i64 i2], .slice A len cap] w fun e w' => e = .returned (.bool true) ∧ Below w.heap.size w w' := by
  obtain ⟨hby, hnil, hlc, hcm⟩ := row_byt w1
  obtain ⟨l0, l1'⟩ := bounds_i64 wf_op
  by_cases hc : chk op fm [op, fm, r1, r2, x2, b1, d1, b2, d2, l1, l2, i2] = 0
  · exact isaBack_yes op fm r1 r2 x2 b1 d1 b2 d2 l1 l2 i2 A len cap _ w l0 l1' hc hby hnil (by omega)
  · exact isaBack_no op fm r1 r2 x2 b1 d1 b2 d2 l1 l2 i2 A len cap w l0 l1' hc
end Go.Proofs.Ytfbcjpbfggbhfaa
