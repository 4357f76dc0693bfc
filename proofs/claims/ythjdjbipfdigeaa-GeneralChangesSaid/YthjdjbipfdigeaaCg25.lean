/- Rows.GeneralChangesSaid (jobshop/jobshoplaw09.GeneralChanges): whatever the input, the law returns true and each argument reads as it did. The frame of the proof; the walk lies in GeneralChangesW. No conditions; the last text of 25. Conditions: as each states them. -/
import Derived.Test.YthjdjbipfdigeaaCg1
import Derived.Test.YthjdjbipfdigeaaCg6
import Derived.Test.YthjdjbipfdigeaaCg19
import Derived.Test.YthjdjbipfdigeaaCg20
import Derived.Test.YthjdjbipfdigeaaCg24
import Derived.OpenShut
import Derived.Deep.Slices
import Derived.Deep.Fields
import Derived.ChangeSame
namespace Go.Proofs.Ythjdjbipfdigeaa
open Go.RowKit
set_option maxRecDepth 100000
set_option linter.unusedVariables false
set_option linter.unusedSimpArgs false
attribute [local go_sem] eqr_run eqr_guard eqr_refl eqp_run eqp_guard eqp_refl
theorem Parts.keep {w W : World} {A : Option Addr} {len : Nat} (h : Parts w A len) (hb : Below w.heap.size w W) : Parts W A len := by
  refine ⟨h.1, fun i hi => ?_⟩
  obtain ⟨b, off, at_, B, l, c, zs, h1, h2, h3, h4, h5, h6, h7⟩ := h.at_ hb hi
  exact ⟨b, off, at_, B, l, c, zs, h1, h2, h3, h4, by rw [← Nat.add_assoc]; exact h5, h6.keep hb, h7⟩
theorem get_all (bs : List Int) : sGet bs ((0 : Nat) : Int) (bs.length : Int) = bs := by rw [get_eq bs 0 bs.length (by omega)]; simp
set_option maxRecDepth 1000000 in
set_option maxHeartbeats 8000000 in
theorem branches_c (op : Int) (w : World) : Calls Try.prog 24 #[.int .i64 op] w fun e w' => e = .returned (.bool (brcB op)) ∧ w = w' := by
  obtain ⟨B, hB⟩ : ∃ b, brcB op = b := ⟨_, rfl⟩
  rw [hB]
  by_cases p1 : 5 ≤ op <;> by_cases p2 : op ≤ 7 <;> by_cases p3 : 69 ≤ op <;> by_cases p4 : op ≤ 71 <;> by_cases p5 : op = 134 <;> by_cases p6 : op = 135
  all_goals first
    | (exfalso; omega)
    | skip
  all_goals
    have e5 : (op == 134) = decide (op = 134) := rfl
    have e6 : (op == 135) = decide (op = 135) := rfl
    first | rw [decide_eq_true p5] at e5 | rw [decide_eq_false p5] at e5
    first | rw [decide_eq_true p6] at e6 | rw [decide_eq_false p6] at e6
    have hB2 := hB
    unfold brcB at hB2
    first
      | (have hb : B = true := by rw [← hB2]; exact decide_eq_true (by omega)
         subst hb)
      | (have hb : B = false := by rw [← hB2]; exact decide_eq_false (by omega)
         subst hb)
    clear hB hB2
    go_enter Try.func24, Try.ntmps24
    go_wp2
    go_ret
    exact ⟨by first | rfl | simp, rfl⟩
set_option maxRecDepth 1000000 in
set_option maxHeartbeats 8000000 in
theorem changes_go (op fm r1 r2 x2 b1 d1 b2 d2 l1 l2 i2 : Int) (a0 a1 a2 a3 a4 a5 a6 a7 a8 a9 a10 a11 a12 a13 a14 a15 : Int) (pm pk : Int) (pM pW pP : Bool) (pc pi pq pg pa : Int) (bl : Int) (KA : Option Addr) (kl kc : Nat) (kz : List Int) (PA : Option Addr) (pl pc_ : Nat) (w : World) (ro : ∀ z ∈ [a0, a1, a2, a3, a4, a5, a6, a7, a8, a9, a10, a11, a12, a13, a14, a15], 0 ≤ z ∧ z ≤ 4294967295) (h0 : 0 ≤ bl) (h1 : bl ≤ 255) (hk : Byt w KA kl kz) (hkl : (kl : Int) ≤ 9223372036854775807) (hp : Parts w PA pl) : Calls Try.prog 10 #[.agg #[.int .i64 op, .int .i64 fm, .int .i64 r1, .int .i64 r2, .int .i64 x2, .int .i64 b1, .int .i64 d1, .int .i64 b2, .int .i64 d2, .int .i64 l1, .int .i64 l2, .int .i64 i2], .agg #[.int .u32 a0, .int .u32 a1, .int .u32 a2, .int .u32 a3, .int .u32 a4, .int .u32 a5, .int .u32 a6, .int .u32 a7, .int .u32 a8, .int .u32 a9, .int .u32 a10, .int .u32 a11, .int .u32 a12, .int .u32 a13, .int .u32 a14, .int .u32 a15, .int .i64 pm, .int .i64 pk, .bool pM, .bool pW, .bool pP, .int .i64 pc, .int .i64 pi, .int .i64 pq, .int .i64 pg, .int .i64 pa, .int .u8 bl, .slice KA kl kc, .slice PA pl pc_]] w fun e w' => e = .returned (.bool true) ∧ Below w.heap.size w w' := by
  have BC := Lib.hid (fun W (hb : Below w.heap.size w W) => build_c bl KA kl kc kz PA pl pc_ W h0 h1 (hk.keep hb) hkl (hp.keep hb))
  have RO := Lib.hid ro
  have HB := Lib.hid (Below.refl w.heap.size w)
  clear hk hkl hp h0 h1 ro
  go_enter Try.func10, Try.ntmps10
  go_upto_region 1 with fail
  obtain ⟨w1_, hW⟩ : ∃ V, ((w.alloc (.cells #[.int .i64 op, .int .i64 fm, .int .i64 r1, .int .i64 r2, .int .i64 x2, .int .i64 b1, .int .i64 d1, .int .i64 b2, .int .i64 d2, .int .i64 l1, .int .i64 l2, .int .i64 i2] 25)).alloc (.cells #[.int .u32 a0, .int .u32 a1, .int .u32 a2, .int .u32 a3, .int .u32 a4, .int .u32 a5, .int .u32 a6, .int .u32 a7, .int .u32 a8, .int .u32 a9, .int .u32 a10, .int .u32 a11, .int .u32 a12, .int .u32 a13, .int .u32 a14, .int .u32 a15, .int .i64 pm, .int .i64 pk, .bool pM, .bool pW, .bool pP, .int .i64 pc, .int .i64 pi, .int .i64 pq, .int .i64 pg, .int .i64 pa, .int .u8 bl, .slice KA kl kc, .slice PA pl pc_] 36)) = V := ⟨_, rfl⟩
  have hb : Below w.heap.size w w1_ := by rw [← hW]; exact (Below.alloc (Below.alloc (Below.refl _ _) (by first | exact Nat.le_refl _ | (simp; done) | (simp; omega)) _) (by first | exact Nat.le_refl _ | (simp; done) | (simp; omega)) _)
  obtain ⟨gI, hgI⟩ : ∃ q, w.heap.size = q := ⟨_, rfl⟩
  have I_ : Hid (Bk w1_ gI 25 [.int .i64 op, .int .i64 fm, .int .i64 r1, .int .i64 r2, .int .i64 x2, .int .i64 b1, .int .i64 d1, .int .i64 b2, .int .i64 d2, .int .i64 l1, .int .i64 l2, .int .i64 i2]) := by
    rw [← hW, ← hgI]
    have hq := Bk.new w [.int .i64 op, .int .i64 fm, .int .i64 r1, .int .i64 r2, .int .i64 x2, .int .i64 b1, .int .i64 d1, .int .i64 b2, .int .i64 d2, .int .i64 l1, .int .i64 l2, .int .i64 i2] 25
    exact hq.alloc _
  have nI : w.heap.size ≤ gI := by omega
  obtain ⟨gX, hgX⟩ : ∃ q, w.heap.size + 1 = q := ⟨_, rfl⟩
  have X_ : Hid (Bk w1_ gX 36 [.int .u32 a0, .int .u32 a1, .int .u32 a2, .int .u32 a3, .int .u32 a4, .int .u32 a5, .int .u32 a6, .int .u32 a7, .int .u32 a8, .int .u32 a9, .int .u32 a10, .int .u32 a11, .int .u32 a12, .int .u32 a13, .int .u32 a14, .int .u32 a15, .int .i64 pm, .int .i64 pk, .bool pM, .bool pW, .bool pP, .int .i64 pc, .int .i64 pi, .int .i64 pq, .int .i64 pg, .int .i64 pa, .int .u8 bl, .slice KA kl kc, .slice PA pl pc_]) := by
    rw [← hW, ← hgX]
    have hq := Bk.new (w.alloc (.cells #[.int .i64 op, .int .i64 fm, .int .i64 r1, .int .i64 r2, .int .i64 x2, .int .i64 b1, .int .i64 d1, .int .i64 b2, .int .i64 d2, .int .i64 l1, .int .i64 l2, .int .i64 i2] 25)) [.int .u32 a0, .int .u32 a1, .int .u32 a2, .int .u32 a3, .int .u32 a4, .int .u32 a5, .int .u32 a6, .int .u32 a7, .int .u32 a8, .int .u32 a9, .int .u32 a10, .int .u32 a11, .int .u32 a12, .int .u32 a13, .int .u32 a14, .int .u32 a15, .int .i64 pm, .int .i64 pk, .bool pM, .bool pW, .bool pP, .int .i64 pc, .int .i64 pi, .int .i64 pq, .int .i64 pg, .int .i64 pa, .int .u8 bl, .slice KA kl kc, .slice PA pl pc_] 36
    rw [World.size_alloc] at hq
    exact hq
  have nX : w.heap.size ≤ gX := by omega
  have oIX : gI < gX := by omega
  rw [hW]
  try rw [hgX]
  try rw [hgI]
  replace HB := Lib.hid (HB.out.trans (hb.mono HB.out.size))
  clear hb
  have I := I_
  clear I_
  have X := X_
  clear X_
  clear hW hgI hgX
  have kx26 : w1_.cell? ⟨gX, 26, none⟩ = some (.int .u8 bl) := X.out.cell (c := 26) rfl
  have kx27 : w1_.cell? ⟨gX, 27, none⟩ = some (.slice KA kl kc) := X.out.cell (c := 27) rfl
  have kx28 : w1_.cell? ⟨gX, 28, none⟩ = some (.slice PA pl pc_) := X.out.cell (c := 28) rfl
  go_wp2_with fail
  clear kx26 kx27 kx28
  have ltI := I.out.lt
  have ltX := X.out.lt
  have hw0 := HB.out.size
  refine (BC.out _ HB.out).mono ?_
  rintro e w2_ ⟨F, G, bs, ks, rfl, hS, hT, hb, ⟨hf1, hf2, hf3⟩, hf4⟩
  have S := Lib.hid hS
  clear hS hT hf4 BC
  replace HB := Lib.hid (HB.out.trans (hb.mono HB.out.size))
  replace I := Lib.hid (I.out.keep hb)
  replace X := Lib.hid (X.out.keep hb)
  clear hb
  go_wp2_with fail
  refine (works_c _).mono ?_
  rintro e w3_ ⟨rfl, hb⟩
  replace HB := Lib.hid (HB.out.trans (hb.mono HB.out.size))
  replace I := Lib.hid (I.out.keep hb)
  replace X := Lib.hid (X.out.keep hb)
  replace S := Lib.hid (S.out.belowS hb)
  clear hb
  have hlg := S.out.ltg
  have hlb := S.out.ltb
  have hlk := S.out.ltk
  have hs3 := HB.out.size
  have HLN := Lib.hid S.out.ln
  obtain ⟨NN, hNN⟩ : ∃ q, bs.length = q := ⟨_, rfl⟩
  have hN0 : 1 ≤ NN := by have h1 := S.out.ln; have h2 := S.out.l0; omega
  have hN1 : NN ≤ 65536 := by have h1 := S.out.ln; have h2 := S.out.l1; omega
  have HN := Lib.hid hNN
  clear hNN
  have SZ := Lib.hid (fun (W : World) (b : List Int) (hb : b.length = NN) (hS : St 71 W F b ks) => show Calls Try.prog 22 #[.pointer (some ⟨F.g, 0, none⟩)] W fun e w' => e = .returned (.int .i64 (NN : Int)) ∧ W = w' from by have := size_c W hS; rw [hb] at this; exact this)
  have GA := Lib.hid (fun (W : World) (b : List Int) (hb : b.length = NN) (hS : St 71 W F b ks) => show Calls Try.prog 19 #[.pointer (some ⟨F.g, 0, none⟩), .int .i64 0, .int .i64 (NN : Int)] W fun e w' => ∃ b' m c : Nat, e = .returned (.slice (some ⟨b', 0, none⟩) m c) ∧ (m : Int) = NN ∧ Byt w' (some ⟨b', 0, none⟩) m b ∧ W.heap.size ≤ b' ∧ Below W.heap.size W w' from get9 W hS 0 (NN : Int) 0 b (by omega) (by omega) (by rw [← hb]; exact get_all b))
  go_wp2_with fail
  refine (SZ.out _ bs HN.out S.out).mono ?_
  rintro e w9_ ⟨rfl, rfl⟩
  go_wp2_with fail
  refine (GA.out _ bs HN.out S.out).mono ?_
  rintro e w4_ ⟨gY1, mY1, cY1, rfl, hm, hy, hgeY1, hb⟩
  have hmmY1 : NN = mY1 := by omega
  subst hmmY1
  have Y1_ := Lib.hid hy
  clear hy hm
  replace HB := Lib.hid (HB.out.trans (hb.mono HB.out.size))
  replace I := Lib.hid (I.out.keep hb)
  replace X := Lib.hid (X.out.keep hb)
  replace S := Lib.hid (S.out.belowS hb)
  clear hb
  have Y1 := Y1_
  clear Y1_
  obtain ⟨O, hO⟩ : ∃ o, (xC op fm r1 r2 x2 b1 d1 b2 d2 l1 l2 i2 [a0, a1, a2, a3, a4, a5, a6, a7, a8, a9, a10, a11, a12, a13, a14, a15] pm pk pc pi pq pg pa bs ks) = o := ⟨_, rfl⟩
  have hol : O.rs.length = 16 := by rw [← hO, xC_len]; rfl
  have hrf := fun h0 h8 => xC_ref op fm r1 r2 x2 b1 d1 b2 d2 l1 l2 i2 [a0, a1, a2, a3, a4, a5, a6, a7, a8, a9, a10, a11, a12, a13, a14, a15] pm pk pc pi pq pg pa bs ks h0 h8
  have hmi := fun h => xC_mild op fm r1 r2 x2 b1 d1 b2 d2 l1 l2 i2 [a0, a1, a2, a3, a4, a5, a6, a7, a8, a9, a10, a11, a12, a13, a14, a15] pm pk pc pi pq pg pa bs ks S.out.rb h
  rw [hO] at hrf hmi
  have EC := Lib.hid (fun (W : World) (hS : St 71 W F bs ks) => Exec_c op fm r1 r2 x2 b1 d1 b2 d2 l1 l2 i2 a0 a1 a2 a3 a4 a5 a6 a7 a8 a9 a10 a11 a12 a13 a14 a15 pm pk pM pW pP pc pi pq pg pa F bs ks W hS RO.out O hO)
  clear hO RO
  obtain ⟨oc, ors, occ, opg, oad, oov, obs⟩ := O
  dsimp only at hol hrf hmi
  obtain ⟨n0, n1, n2, n3, n4, n5, n6, n7, n8, n9, n10, n11, n12, n13, n14, n15, rfl⟩ := list_16 hol
  have EX := Lib.hid (fun (W : World) (hS : St 71 W F bs ks) => show Calls Try.prog 14 #[.agg #[.int .i64 op, .int .i64 fm, .int .i64 r1, .int .i64 r2, .int .i64 x2, .int .i64 b1, .int .i64 d1, .int .i64 b2, .int .i64 d2, .int .i64 l1, .int .i64 l2, .int .i64 i2], .agg #[.int .u32 a0, .int .u32 a1, .int .u32 a2, .int .u32 a3, .int .u32 a4, .int .u32 a5, .int .u32 a6, .int .u32 a7, .int .u32 a8, .int .u32 a9, .int .u32 a10, .int .u32 a11, .int .u32 a12, .int .u32 a13, .int .u32 a14, .int .u32 a15], .agg #[.int .i64 pm, .int .i64 pk, .bool pM, .bool pW, .bool pP, .int .i64 pc, .int .i64 pi, .int .i64 pq, .int .i64 pg, .int .i64 pa], .pointer (some ⟨F.g, 0, none⟩)] W fun e w' => e = .returned (.tuple #[.agg #[.int .u32 n0, .int .u32 n1, .int .u32 n2, .int .u32 n3, .int .u32 n4, .int .u32 n5, .int .u32 n6, .int .u32 n7, .int .u32 n8, .int .u32 n9, .int .u32 n10, .int .u32 n11, .int .u32 n12, .int .u32 n13, .int .u32 n14, .int .u32 n15], .agg #[.int .i64 pm, .int .i64 pk, .bool pM, .bool pW, .bool pP, .int .i64 pc, .int .i64 pi, .int .i64 occ, .int .i64 opg, .int .i64 oad], .int .i64 oc]) ∧ St 71 w' F obs ks ∧ Ch W w' [F.gb] from (EC.out W hS).mono (by rintro e w' ⟨he, h⟩; exact ⟨by rw [he]; simp [agR, psL], h⟩))
  have HR := Lib.hid hrf
  have HM := Lib.hid hmi
  clear EC hol hrf hmi
  have ki0 : w4_.cell? ⟨gI, 0, none⟩ = some (.int .i64 op) := I.out.cell (c := 0) rfl
  have ki1 : w4_.cell? ⟨gI, 1, none⟩ = some (.int .i64 fm) := I.out.cell (c := 1) rfl
  have ki2 : w4_.cell? ⟨gI, 2, none⟩ = some (.int .i64 r1) := I.out.cell (c := 2) rfl
  have ki3 : w4_.cell? ⟨gI, 3, none⟩ = some (.int .i64 r2) := I.out.cell (c := 3) rfl
  have ki4 : w4_.cell? ⟨gI, 4, none⟩ = some (.int .i64 x2) := I.out.cell (c := 4) rfl
  have ki5 : w4_.cell? ⟨gI, 5, none⟩ = some (.int .i64 b1) := I.out.cell (c := 5) rfl
  have ki6 : w4_.cell? ⟨gI, 6, none⟩ = some (.int .i64 d1) := I.out.cell (c := 6) rfl
  have ki7 : w4_.cell? ⟨gI, 7, none⟩ = some (.int .i64 b2) := I.out.cell (c := 7) rfl
  have ki8 : w4_.cell? ⟨gI, 8, none⟩ = some (.int .i64 d2) := I.out.cell (c := 8) rfl
  have ki9 : w4_.cell? ⟨gI, 9, none⟩ = some (.int .i64 l1) := I.out.cell (c := 9) rfl
  have ki10 : w4_.cell? ⟨gI, 10, none⟩ = some (.int .i64 l2) := I.out.cell (c := 10) rfl
  have ki11 : w4_.cell? ⟨gI, 11, none⟩ = some (.int .i64 i2) := I.out.cell (c := 11) rfl
  have kx0 : w4_.cell? ⟨gX, 0, none⟩ = some (.int .u32 a0) := X.out.cell (c := 0) rfl
  have kx1 : w4_.cell? ⟨gX, 1, none⟩ = some (.int .u32 a1) := X.out.cell (c := 1) rfl
  have kx2 : w4_.cell? ⟨gX, 2, none⟩ = some (.int .u32 a2) := X.out.cell (c := 2) rfl
  have kx3 : w4_.cell? ⟨gX, 3, none⟩ = some (.int .u32 a3) := X.out.cell (c := 3) rfl
  have kx4 : w4_.cell? ⟨gX, 4, none⟩ = some (.int .u32 a4) := X.out.cell (c := 4) rfl
  have kx5 : w4_.cell? ⟨gX, 5, none⟩ = some (.int .u32 a5) := X.out.cell (c := 5) rfl
  have kx6 : w4_.cell? ⟨gX, 6, none⟩ = some (.int .u32 a6) := X.out.cell (c := 6) rfl
  have kx7 : w4_.cell? ⟨gX, 7, none⟩ = some (.int .u32 a7) := X.out.cell (c := 7) rfl
  have kx8 : w4_.cell? ⟨gX, 8, none⟩ = some (.int .u32 a8) := X.out.cell (c := 8) rfl
  have kx9 : w4_.cell? ⟨gX, 9, none⟩ = some (.int .u32 a9) := X.out.cell (c := 9) rfl
  have kx10 : w4_.cell? ⟨gX, 10, none⟩ = some (.int .u32 a10) := X.out.cell (c := 10) rfl
  have kx11 : w4_.cell? ⟨gX, 11, none⟩ = some (.int .u32 a11) := X.out.cell (c := 11) rfl
  have kx12 : w4_.cell? ⟨gX, 12, none⟩ = some (.int .u32 a12) := X.out.cell (c := 12) rfl
  have kx13 : w4_.cell? ⟨gX, 13, none⟩ = some (.int .u32 a13) := X.out.cell (c := 13) rfl
  have kx14 : w4_.cell? ⟨gX, 14, none⟩ = some (.int .u32 a14) := X.out.cell (c := 14) rfl
  have kx15 : w4_.cell? ⟨gX, 15, none⟩ = some (.int .u32 a15) := X.out.cell (c := 15) rfl
  have kx16 : w4_.cell? ⟨gX, 16, none⟩ = some (.int .i64 pm) := X.out.cell (c := 16) rfl
  have kx17 : w4_.cell? ⟨gX, 17, none⟩ = some (.int .i64 pk) := X.out.cell (c := 17) rfl
  have kx18 : w4_.cell? ⟨gX, 18, none⟩ = some (.bool pM) := X.out.cell (c := 18) rfl
  have kx19 : w4_.cell? ⟨gX, 19, none⟩ = some (.bool pW) := X.out.cell (c := 19) rfl
  have kx20 : w4_.cell? ⟨gX, 20, none⟩ = some (.bool pP) := X.out.cell (c := 20) rfl
  have kx21 : w4_.cell? ⟨gX, 21, none⟩ = some (.int .i64 pc) := X.out.cell (c := 21) rfl
  have kx22 : w4_.cell? ⟨gX, 22, none⟩ = some (.int .i64 pi) := X.out.cell (c := 22) rfl
  have kx23 : w4_.cell? ⟨gX, 23, none⟩ = some (.int .i64 pq) := X.out.cell (c := 23) rfl
  have kx24 : w4_.cell? ⟨gX, 24, none⟩ = some (.int .i64 pg) := X.out.cell (c := 24) rfl
  have kx25 : w4_.cell? ⟨gX, 25, none⟩ = some (.int .i64 pa) := X.out.cell (c := 25) rfl
  go_wp2_with fail
  clear ki0 ki1 ki2 ki3 ki4 ki5 ki6 ki7 ki8 ki9 ki10 ki11 kx0 kx1 kx2 kx3 kx4 kx5 kx6 kx7 kx8 kx9 kx10 kx11 kx12 kx13 kx14 kx15 kx16 kx17 kx18 kx19 kx20 kx21 kx22 kx23 kx24 kx25
  have ltY := Y1.out.lt (by omega)
  refine (EX.out _ S.out).mono ?_
  rintro e w5_ ⟨rfl, hs, hc⟩
  replace HB := Lib.hid (HB.out.trans (hc.below HB.out.size (by intro z hz; simp at hz; omega)))
  replace I := Lib.hid (I.out.ch hc (by simp; omega))
  replace X := Lib.hid (X.out.ch hc (by simp; omega))
  replace S := Lib.hid hs
  replace Y1 := Lib.hid (Y1.out.chd hc (Y1.out.lt (by omega)) (by simp; omega))
  clear hc
  clear hs EX
  have HL2 := Lib.hid (show obs.length = NN from by have h1 := S.out.ln; have h2 := HN.out; have h3 := HLN.out; omega)
  go_upto_region 6 with fail
  obtain ⟨w6_, hW⟩ : ∃ V, ((w5_.alloc (.cells #[.int .u32 n0, .int .u32 n1, .int .u32 n2, .int .u32 n3, .int .u32 n4, .int .u32 n5, .int .u32 n6, .int .u32 n7, .int .u32 n8, .int .u32 n9, .int .u32 n10, .int .u32 n11, .int .u32 n12, .int .u32 n13, .int .u32 n14, .int .u32 n15] 28)).alloc (.cells #[.int .i64 pm, .int .i64 pk, .bool pM, .bool pW, .bool pP, .int .i64 pc, .int .i64 pi, .int .i64 occ, .int .i64 opg, .int .i64 oad] 30)) = V := ⟨_, rfl⟩
  have hb : Below w5_.heap.size w5_ w6_ := by rw [← hW]; exact (Below.alloc (Below.alloc (Below.refl _ _) (by first | exact Nat.le_refl _ | (simp; done) | (simp; omega)) _) (by first | exact Nat.le_refl _ | (simp; done) | (simp; omega)) _)
  obtain ⟨gR, hgR⟩ : ∃ q, w5_.heap.size = q := ⟨_, rfl⟩
  have R_ : Hid (Bk w6_ gR 28 [.int .u32 n0, .int .u32 n1, .int .u32 n2, .int .u32 n3, .int .u32 n4, .int .u32 n5, .int .u32 n6, .int .u32 n7, .int .u32 n8, .int .u32 n9, .int .u32 n10, .int .u32 n11, .int .u32 n12, .int .u32 n13, .int .u32 n14, .int .u32 n15]) := by
    rw [← hW, ← hgR]
    have hq := Bk.new w5_ [.int .u32 n0, .int .u32 n1, .int .u32 n2, .int .u32 n3, .int .u32 n4, .int .u32 n5, .int .u32 n6, .int .u32 n7, .int .u32 n8, .int .u32 n9, .int .u32 n10, .int .u32 n11, .int .u32 n12, .int .u32 n13, .int .u32 n14, .int .u32 n15] 28
    exact hq.alloc _
  have nR : w5_.heap.size ≤ gR := by omega
  obtain ⟨gP, hgP⟩ : ∃ q, w5_.heap.size + 1 = q := ⟨_, rfl⟩
  have P_ : Hid (Bk w6_ gP 30 [.int .i64 pm, .int .i64 pk, .bool pM, .bool pW, .bool pP, .int .i64 pc, .int .i64 pi, .int .i64 occ, .int .i64 opg, .int .i64 oad]) := by
    rw [← hW, ← hgP]
    have hq := Bk.new (w5_.alloc (.cells #[.int .u32 n0, .int .u32 n1, .int .u32 n2, .int .u32 n3, .int .u32 n4, .int .u32 n5, .int .u32 n6, .int .u32 n7, .int .u32 n8, .int .u32 n9, .int .u32 n10, .int .u32 n11, .int .u32 n12, .int .u32 n13, .int .u32 n14, .int .u32 n15] 28)) [.int .i64 pm, .int .i64 pk, .bool pM, .bool pW, .bool pP, .int .i64 pc, .int .i64 pi, .int .i64 occ, .int .i64 opg, .int .i64 oad] 30
    rw [World.size_alloc] at hq
    exact hq
  have nP : w5_.heap.size ≤ gP := by omega
  have oRP : gR < gP := by omega
  have oI_R : gI < gR := by have := I.out.lt; omega
  have oI_P : gI < gP := by have := I.out.lt; omega
  have oX_R : gX < gR := by have := X.out.lt; omega
  have oX_P : gX < gP := by have := X.out.lt; omega
  rw [hW]
  try rw [hgP]
  try rw [hgR]
  replace HB := Lib.hid (HB.out.trans (hb.mono HB.out.size))
  replace I := Lib.hid (I.out.keep hb)
  replace X := Lib.hid (X.out.keep hb)
  replace S := Lib.hid (S.out.belowS hb)
  replace Y1 := Lib.hid (Y1.out.keep hb)
  clear hb
  have R := R_
  clear R_
  have P := P_
  clear P_
  clear hW hgR hgP
  go_wp2_with fail
  refine (SZ.out _ obs HL2.out S.out).mono ?_
  rintro e w9_ ⟨rfl, rfl⟩
  go_wp2_with fail
  refine (GA.out _ obs HL2.out S.out).mono ?_
  rintro e w7_ ⟨gY2, mY2, cY2, rfl, hm, hy, hgeY2, hb⟩
  have hmmY2 : NN = mY2 := by omega
  subst hmmY2
  have Y2_ := Lib.hid hy
  clear hy hm
  replace HB := Lib.hid (HB.out.trans (hb.mono HB.out.size))
  replace I := Lib.hid (I.out.keep hb)
  replace X := Lib.hid (X.out.keep hb)
  replace S := Lib.hid (S.out.belowS hb)
  replace Y1 := Lib.hid (Y1.out.keep hb)
  replace R := Lib.hid (R.out.keep hb)
  replace P := Lib.hid (P.out.keep hb)
  clear hb
  have Y2 := Y2_
  clear Y2_
  go_upto_region 7 with fail
  go_cut [52] from 48 to 52 (fun t wx => t = .bool (decide (oc ≠ 0 ∧ oc ≠ 8)) ∧ wx = w7_)
  case first =>
    by_cases ha : oc = 0
    · have e0 : (oc != 0) = false := by simp [ha]
      go_wp2_with fail
      go_meet
      exact ⟨by simp [ha], rfl⟩
    · have e0 : (oc != 0) = true := by simp [ha]
      by_cases hb : oc = 8
      · have e1 : (oc != 8) = false := by simp [hb]
        go_wp2_with fail
        go_meet
        exact ⟨by simp [hb], rfl⟩
      · have e1 : (oc != 8) = true := by simp [hb]
        go_wp2_with fail
        go_meet
        exact ⟨by simp [ha, hb], rfl⟩
  case rest =>
  obtain ⟨rfl, hwx⟩ := hcut
  subst hwx
  rename World => wC
  go_upto_if 52 with fail
  by_cases hcc : oc ≠ 0 ∧ oc ≠ 8
  · have e52 : decide (oc ≠ 0 ∧ oc ≠ 8) = true := by simpa using hcc
    obtain ⟨e1, rfl, rfl, rfl, rfl⟩ := HR.out hcc.1 hcc.2
    simp only [List.cons.injEq, and_true] at e1
    obtain ⟨rfl, rfl, rfl, rfl, rfl, rfl, rfl, rfl, rfl, rfl, rfl, rfl, rfl, rfl, rfl, rfl⟩ := e1
    clear HR HM
    have ka0 := R.out.cell (c := 0) rfl
    have ka1 := R.out.cell (c := 1) rfl
    have ka2 := R.out.cell (c := 2) rfl
    have ka3 := R.out.cell (c := 3) rfl
    have ka4 := R.out.cell (c := 4) rfl
    have ka5 := R.out.cell (c := 5) rfl
    have ka6 := R.out.cell (c := 6) rfl
    have ka7 := R.out.cell (c := 7) rfl
    have ka8 := R.out.cell (c := 8) rfl
    have ka9 := R.out.cell (c := 9) rfl
    have ka10 := R.out.cell (c := 10) rfl
    have ka11 := R.out.cell (c := 11) rfl
    have ka12 := R.out.cell (c := 12) rfl
    have ka13 := R.out.cell (c := 13) rfl
    have ka14 := R.out.cell (c := 14) rfl
    have ka15 := R.out.cell (c := 15) rfl
    have kx0 := X.out.cell (c := 0) rfl
    have kx1 := X.out.cell (c := 1) rfl
    have kx2 := X.out.cell (c := 2) rfl
    have kx3 := X.out.cell (c := 3) rfl
    have kx4 := X.out.cell (c := 4) rfl
    have kx5 := X.out.cell (c := 5) rfl
    have kx6 := X.out.cell (c := 6) rfl
    have kx7 := X.out.cell (c := 7) rfl
    have kx8 := X.out.cell (c := 8) rfl
    have kx9 := X.out.cell (c := 9) rfl
    have kx10 := X.out.cell (c := 10) rfl
    have kx11 := X.out.cell (c := 11) rfl
    have kx12 := X.out.cell (c := 12) rfl
    have kx13 := X.out.cell (c := 13) rfl
    have kx14 := X.out.cell (c := 14) rfl
    have kx15 := X.out.cell (c := 15) rfl
    have kx16 := X.out.cell (c := 16) rfl
    have kx17 := X.out.cell (c := 17) rfl
    have kx18 := X.out.cell (c := 18) rfl
    have kx19 := X.out.cell (c := 19) rfl
    have kx20 := X.out.cell (c := 20) rfl
    have kx21 := X.out.cell (c := 21) rfl
    have kx22 := X.out.cell (c := 22) rfl
    have kx23 := X.out.cell (c := 23) rfl
    have kx24 := X.out.cell (c := 24) rfl
    have kx25 := X.out.cell (c := 25) rfl
    have kp0 := P.out.cell (c := 0) rfl
    have kp1 := P.out.cell (c := 1) rfl
    have kp2 := P.out.cell (c := 2) rfl
    have kp3 := P.out.cell (c := 3) rfl
    have kp4 := P.out.cell (c := 4) rfl
    have kp5 := P.out.cell (c := 5) rfl
    have kp6 := P.out.cell (c := 6) rfl
    have kp7 := P.out.cell (c := 7) rfl
    have kp8 := P.out.cell (c := 8) rfl
    have kp9 := P.out.cell (c := 9) rfl
    go_wp2_with fail
    clear ka0 ka1 ka2 ka3 ka4 ka5 ka6 ka7 ka8 ka9 ka10 ka11 ka12 ka13 ka14 ka15 kx0 kx1 kx2 kx3 kx4 kx5 kx6 kx7 kx8 kx9 kx10 kx11 kx12 kx13 kx14 kx15 kx16 kx17 kx18 kx19 kx20 kx21 kx22 kx23 kx24 kx25 kp0 kp1 kp2 kp3 kp4 kp5 kp6 kp7 kp8 kp9
    refine (same9_t _ _ _ _ _ _ _ _ _ Y1.out Y2.out rfl (by omega)).mono ?_
    rintro e wD ⟨rfl, hb⟩
    have HE := Lib.hid (HB.out.trans (hb.mono HB.out.size))
    clear hb
    go_wp2
    go_ret
    exact ⟨by first | rfl | simp, HE.out⟩
  · have e52 : decide (oc ≠ 0 ∧ oc ≠ 8) = false := by simpa using hcc
    have M := HM.out (by omega)
    obtain ⟨mpg, mad, mc, mg, ma, mb⟩ := M
    dsimp only at mpg mad mc mg ma mb
    have MB := Lib.hid mb
    have MP := Lib.hid mpg
    have MA := Lib.hid mad
    clear HR HM mb mpg mad
    go_upto_region 10 with fail
    have hcY1 : ∀ k, k < NN → wC.cell? ⟨gY1, k, none⟩ = some (.int .u8 (bs.getD k 0)) := by
      obtain ⟨b', off', e, hcl⟩ := Y1.out.at_ (by omega)
      injection e with e; injection e with e1 e2; subst e1 e2
      intro k hk
      have := hcl k hk
      rw [Nat.zero_add] at this
      exact this
    have hcY2 : ∀ k, k < NN → wC.cell? ⟨gY2, k, none⟩ = some (.int .u8 (obs.getD k 0)) := by
      obtain ⟨b', off', e, hcl⟩ := Y2.out.at_ (by omega)
      injection e with e; injection e with e1 e2; subst e1 e2
      intro k hk
      have := hcl k hk
      rw [Nat.zero_add] at this
      exact this
    have hX17 : wC.cell? ⟨gX, 17, none⟩ = some (.int .i64 pk) := X.out.cell (c := 17) rfl
    have C1 := Lib.hid hcY1
    have C2 := Lib.hid hcY2
    have C3 := Lib.hid hX17
    clear hcY1 hcY2 hX17
    refine changes_loop (bs := bs) (by kernel_rfl) S.out HL2.out C1.out C2.out C3.out MB.out (fun _ a a' _ e h => by have h' : a'.defers = [] ∧ _ := h; exact ⟨e ▸ h'.1, h'.2⟩) ?_
    clear C1 C2 C3
    intro d _ _ _ _ _ _ _ _ _ _ _ _ _ _ _ _ _ _ _ _ _ _ _ _ _ _ _ _ _ _ _ _ _ _ _ _ _ _ _ _ _ _ _
    obtain ⟨wD, hW⟩ : ∃ V, wC.drewN d = V := ⟨_, rfl⟩
    have hb : Below wC.heap.size wC wD := by rw [← hW]; exact dBelow' (Below.refl _ _) d
    rw [hW]
    clear hW Y1 Y2
    replace HB := Lib.hid (HB.out.trans (hb.mono HB.out.size))
    replace I := Lib.hid (I.out.keep hb)
    replace X := Lib.hid (X.out.keep hb)
    replace S := Lib.hid (S.out.belowS hb)
    replace R := Lib.hid (R.out.keep hb)
    replace P := Lib.hid (P.out.keep hb)
    clear hb
    have kp0 := P.out.cell (c := 0) rfl
    have kp1 := P.out.cell (c := 1) rfl
    have kp2 := P.out.cell (c := 2) rfl
    have kp3 := P.out.cell (c := 3) rfl
    have kp4 := P.out.cell (c := 4) rfl
    have kp5 := P.out.cell (c := 5) rfl
    have kp6 := P.out.cell (c := 6) rfl
    have kp7 := P.out.cell (c := 7) rfl
    have kp8 := P.out.cell (c := 8) rfl
    have kp9 := P.out.cell (c := 9) rfl
    go_upto_region 16 with fail
    clear kp0 kp1 kp2 kp3 kp4 kp5 kp6 kp7 kp8 kp9
    have qg := S.out.ltg
    have qb := S.out.ltb
    have qk := S.out.ltk
    obtain ⟨w8_, hW⟩ : ∃ V, (wD.alloc (.cells #[.int .i64 pm, .int .i64 pk, .bool pM, .bool pW, .bool pP, .int .i64 pc, .int .i64 pi, .int .i64 occ, .int .i64 opg, .int .i64 oad] 30)) = V := ⟨_, rfl⟩
    have hb : Below wD.heap.size wD w8_ := by rw [← hW]; exact (Below.alloc (Below.refl _ _) (by first | exact Nat.le_refl _ | (simp; done) | (simp; omega)) _)
    obtain ⟨gQ, hgQ⟩ : ∃ q, wD.heap.size = q := ⟨_, rfl⟩
    have Q_ : Hid (Bk w8_ gQ 30 [.int .i64 pm, .int .i64 pk, .bool pM, .bool pW, .bool pP, .int .i64 pc, .int .i64 pi, .int .i64 occ, .int .i64 opg, .int .i64 oad]) := by
      rw [← hW, ← hgQ]
      have hq := Bk.new wD [.int .i64 pm, .int .i64 pk, .bool pM, .bool pW, .bool pP, .int .i64 pc, .int .i64 pi, .int .i64 occ, .int .i64 opg, .int .i64 oad] 30
      exact hq
    have nQ : wD.heap.size ≤ gQ := by omega
    have oI_Q : gI < gQ := by have := I.out.lt; omega
    have oX_Q : gX < gQ := by have := X.out.lt; omega
    have oR_Q : gR < gQ := by have := R.out.lt; omega
    have oP_Q : gP < gQ := by have := P.out.lt; omega
    rw [hW]
    try rw [hgQ]
    replace HB := Lib.hid (HB.out.trans (hb.mono HB.out.size))
    replace I := Lib.hid (I.out.keep hb)
    replace X := Lib.hid (X.out.keep hb)
    replace S := Lib.hid (S.out.belowS hb)
    replace R := Lib.hid (R.out.keep hb)
    replace P := Lib.hid (P.out.keep hb)
    clear hb
    have Q := Q_
    clear Q_
    clear hW hgQ
    have kx23 := X.out.cell (c := 23) rfl
    have kq7 := Q.out.cell (c := 7) rfl
    have fq7 := Q.out.free 7
    go_upto_region 17 with fail
    clear kx23 kq7 fq7
    obtain ⟨w9_, hW⟩ : ∃ V, w8_.setCell ⟨gQ, 7, none⟩ (.int .i64 pq) = V := ⟨_, rfl⟩
    have hc : Ch w8_ w9_ [gQ] := by rw [← hW]; exact (Ch.refl _ _).setCell (by simp) _
    have hq : Bk w9_ gQ 30 [.int .i64 pm, .int .i64 pk, .bool pM, .bool pW, .bool pP, .int .i64 pc, .int .i64 pi, .int .i64 pq, .int .i64 opg, .int .i64 oad] := by rw [← hW]; exact Q.out.set_ 7 (.int .i64 pq)
    rw [hW]
    clear hW
    replace HB := Lib.hid (HB.out.trans (hc.below HB.out.size (by intro z hz; simp at hz; omega)))
    replace I := Lib.hid (I.out.ch hc (by simp; omega))
    replace X := Lib.hid (X.out.ch hc (by simp; omega))
    replace S := Lib.hid (S.out.chd hc (by simp; omega) (by simp; omega) (by simp; omega))
    replace R := Lib.hid (R.out.ch hc (by simp; omega))
    replace P := Lib.hid (P.out.ch hc (by simp; omega))
    replace Q := Lib.hid hq
    clear hc
    clear hq
    have ki0 := I.out.cell (c := 0) rfl
    by_cases h4 : op = 4
    · have e4 : (op == 4) = true := by simp [h4]
      clear h4
      have kx24 := X.out.cell (c := 24) rfl
      have kq8 := Q.out.cell (c := 8) rfl
      have fq8 := Q.out.free 8
      go_upto_region 19 with fail
      clear kx24 kq8 fq8
      obtain ⟨w10_, hW⟩ : ∃ V, w9_.setCell ⟨gQ, 8, none⟩ (.int .i64 pg) = V := ⟨_, rfl⟩
      have hc : Ch w9_ w10_ [gQ] := by rw [← hW]; exact (Ch.refl _ _).setCell (by simp) _
      have hq : Bk w10_ gQ 30 [.int .i64 pm, .int .i64 pk, .bool pM, .bool pW, .bool pP, .int .i64 pc, .int .i64 pi, .int .i64 pq, .int .i64 pg, .int .i64 oad] := by rw [← hW]; exact Q.out.set_ 8 (.int .i64 pg)
      rw [hW]
      clear hW
      replace HB := Lib.hid (HB.out.trans (hc.below HB.out.size (by intro z hz; simp at hz; omega)))
      replace I := Lib.hid (I.out.ch hc (by simp; omega))
      replace X := Lib.hid (X.out.ch hc (by simp; omega))
      replace S := Lib.hid (S.out.chd hc (by simp; omega) (by simp; omega) (by simp; omega))
      replace R := Lib.hid (R.out.ch hc (by simp; omega))
      replace P := Lib.hid (P.out.ch hc (by simp; omega))
      replace Q := Lib.hid hq
      clear hc
      clear hq
      have kj0 := I.out.cell (c := 0) rfl
      go_wp2_with fail
      clear kj0
      refine (branches_c op _).mono ?_
      rintro e w8_ ⟨rfl, rfl⟩
      by_cases hbr : brcB op = true
      · have e6 := hbr
        have kx25 := X.out.cell (c := 25) rfl
        have kq9 := Q.out.cell (c := 9) rfl
        have fq9 := Q.out.free 9
        go_upto_region 21 with fail
        clear kx25 kq9 fq9
        obtain ⟨w11_, hW⟩ : ∃ V, w10_.setCell ⟨gQ, 9, none⟩ (.int .i64 pa) = V := ⟨_, rfl⟩
        have hc : Ch w10_ w11_ [gQ] := by rw [← hW]; exact (Ch.refl _ _).setCell (by simp) _
        have hq : Bk w11_ gQ 30 [.int .i64 pm, .int .i64 pk, .bool pM, .bool pW, .bool pP, .int .i64 pc, .int .i64 pi, .int .i64 pq, .int .i64 pg, .int .i64 pa] := by rw [← hW]; exact Q.out.set_ 9 (.int .i64 pa)
        rw [hW]
        clear hW
        replace HB := Lib.hid (HB.out.trans (hc.below HB.out.size (by intro z hz; simp at hz; omega)))
        replace I := Lib.hid (I.out.ch hc (by simp; omega))
        replace X := Lib.hid (X.out.ch hc (by simp; omega))
        replace S := Lib.hid (S.out.chd hc (by simp; omega) (by simp; omega) (by simp; omega))
        replace R := Lib.hid (R.out.ch hc (by simp; omega))
        replace P := Lib.hid (P.out.ch hc (by simp; omega))
        replace Q := Lib.hid hq
        clear hc
        clear hq
        have r4 := ma.1
        have r5 := ma.2
        go_upto_region 21 with fail
        refine changes_reg21 (by kernel_rfl) X.out P.out Q.out mc.1 mc.2 mg.1 mg.2 r4 (by omega) ?_
        intros
        go_wp2
        go_ret
        exact ⟨rfl, HB.out⟩
      · have e6 : brcB op = false := by simpa using hbr
        have ea := (MA.out e6).symm
        subst ea
        have r4 := ma.1
        have r5 := ma.2
        go_upto_region 21 with fail
        refine changes_reg21 (by kernel_rfl) X.out P.out Q.out mc.1 mc.2 mg.1 mg.2 r4 (by omega) ?_
        intros
        go_wp2
        go_ret
        exact ⟨rfl, HB.out⟩
    · have e4 : (op == 4) = false := by simp [h4]
      have eg := (MP.out h4).symm
      clear h4
      subst eg
      have kj0 := I.out.cell (c := 0) rfl
      go_wp2_with fail
      clear kj0
      refine (branches_c op _).mono ?_
      rintro e w8_ ⟨rfl, rfl⟩
      by_cases hbr : brcB op = true
      · have e6 := hbr
        have kx25 := X.out.cell (c := 25) rfl
        have kq9 := Q.out.cell (c := 9) rfl
        have fq9 := Q.out.free 9
        go_upto_region 21 with fail
        clear kx25 kq9 fq9
        obtain ⟨w12_, hW⟩ : ∃ V, w9_.setCell ⟨gQ, 9, none⟩ (.int .i64 pa) = V := ⟨_, rfl⟩
        have hc : Ch w9_ w12_ [gQ] := by rw [← hW]; exact (Ch.refl _ _).setCell (by simp) _
        have hq : Bk w12_ gQ 30 [.int .i64 pm, .int .i64 pk, .bool pM, .bool pW, .bool pP, .int .i64 pc, .int .i64 pi, .int .i64 pq, .int .i64 pg, .int .i64 pa] := by rw [← hW]; exact Q.out.set_ 9 (.int .i64 pa)
        rw [hW]
        clear hW
        replace HB := Lib.hid (HB.out.trans (hc.below HB.out.size (by intro z hz; simp at hz; omega)))
        replace I := Lib.hid (I.out.ch hc (by simp; omega))
        replace X := Lib.hid (X.out.ch hc (by simp; omega))
        replace S := Lib.hid (S.out.chd hc (by simp; omega) (by simp; omega) (by simp; omega))
        replace R := Lib.hid (R.out.ch hc (by simp; omega))
        replace P := Lib.hid (P.out.ch hc (by simp; omega))
        replace Q := Lib.hid hq
        clear hc
        clear hq
        have r4 := ma.1
        have r5 := ma.2
        go_upto_region 21 with fail
        refine changes_reg21 (by kernel_rfl) X.out P.out Q.out mc.1 mc.2 mg.1 mg.2 r4 (by omega) ?_
        intros
        go_wp2
        go_ret
        exact ⟨rfl, HB.out⟩
      · have e6 : brcB op = false := by simpa using hbr
        have ea := (MA.out e6).symm
        subst ea
        have r4 := ma.1
        have r5 := ma.2
        go_upto_region 21 with fail
        refine changes_reg21 (by kernel_rfl) X.out P.out Q.out mc.1 mc.2 mg.1 mg.2 r4 (by omega) ?_
        intros
        go_wp2
        go_ret
        exact ⟨rfl, HB.out⟩
theorem generalChanges_walk (op fm r1 r2 x2 b1 d1 b2 d2 l1 l2 i2 : Int) (rs : List Int) (pm pk : Int) (pM pW pP : Bool) (pc pi pq pg pa : Int) (bl : Int) (KA : Option Addr) (kl kc : Nat) (kz : List Int) (PA : Option Addr) (pl pc_ : Nat) (w : World) (wf_op : (Lit.int .i64 op).wf = true) (wf_fm : (Lit.int .i64 fm).wf = true) (wf_r1 : (Lit.int .i64 r1).wf = true) (wf_r2 : (Lit.int .i64 r2).wf = true) (wf_x2 : (Lit.int .i64 x2).wf = true) (wf_b1 : (Lit.int .i64 b1).wf = true) (wf_d1 : (Lit.int .i64 d1).wf = true) (wf_b2 : (Lit.int .i64 b2).wf = true) (wf_d2 : (Lit.int .i64 d2).wf = true) (wf_l1 : (Lit.int .i64 l1).wf = true) (wf_l2 : (Lit.int .i64 l2).wf = true) (wf_i2 : (Lit.int .i64 i2).wf = true) (hr : rs.length = 16) (wr : ∀ z ∈ rs, (Lit.int .u32 z).wf = true) (hb : 0 ≤ bl ∧ bl ≤ 255) (hk : Byt w KA kl kz) (hkl : (kl : Int) ≤ 9223372036854775807) (hp : Parts w PA pl) : Calls Try.prog 10 #[.agg #[.int .i64 op, .int .i64 fm, .int .i64 r1, .int .i64 r2, .int .i64 x2, .int .i64 b1, .int .i64 d1, .int .i64 b2, .int .i64 d2, .int .i64 l1, .int .i64 l2, .int .i64 i2], .agg (rs.map (Value.int .u32) ++ ([.int .i64 pm, .int .i64 pk, .bool pM, .bool pW, .bool pP, .int .i64 pc, .int .i64 pi, .int .i64 pq, .int .i64 pg, .int .i64 pa, .int .u8 bl, .slice KA kl kc, .slice PA pl pc_] : List Value)).toArray] w fun e w' => e = .returned (.bool true) ∧ Below w.heap.size w w' := by
  obtain ⟨a0, l0, rfl, hl0⟩ := list_n _ rs hr
  obtain ⟨a1, l1, rfl, hl1⟩ := list_n _ l0 hl0
  obtain ⟨a2, l2, rfl, hl2⟩ := list_n _ l1 hl1
  obtain ⟨a3, l3, rfl, hl3⟩ := list_n _ l2 hl2
  obtain ⟨a4, l4, rfl, hl4⟩ := list_n _ l3 hl3
  obtain ⟨a5, l5, rfl, hl5⟩ := list_n _ l4 hl4
  obtain ⟨a6, l6, rfl, hl6⟩ := list_n _ l5 hl5
  obtain ⟨a7, l7, rfl, hl7⟩ := list_n _ l6 hl6
  obtain ⟨a8, l8, rfl, hl8⟩ := list_n _ l7 hl7
  obtain ⟨a9, l9, rfl, hl9⟩ := list_n _ l8 hl8
  obtain ⟨a10, l10, rfl, hl10⟩ := list_n _ l9 hl9
  obtain ⟨a11, l11, rfl, hl11⟩ := list_n _ l10 hl10
  obtain ⟨a12, l12, rfl, hl12⟩ := list_n _ l11 hl11
  obtain ⟨a13, l13, rfl, hl13⟩ := list_n _ l12 hl12
  obtain ⟨a14, l14, rfl, hl14⟩ := list_n _ l13 hl13
  obtain ⟨a15, l15, rfl, hl15⟩ := list_n _ l14 hl14
  obtain rfl := List.eq_nil_of_length_eq_zero hl15
  exact changes_go op fm r1 r2 x2 b1 d1 b2 d2 l1 l2 i2 a0 a1 a2 a3 a4 a5 a6 a7 a8 a9 a10 a11 a12 a13 a14 a15 pm pk pM pW pP pc pi pq pg pa bl KA kl kc kz PA pl pc_ w (fun z hz => bounds_u32 (wr z hz)) hb.1 hb.2 hk hkl hp
end Go.Proofs.Ythjdjbipfdigeaa

namespace Go.Proofs.Ythjdjbipfdigeaa
open Go.ChangeShapes Go.WideShapes Go.ChangeAt Go.RowKit Go.Deep
set_option maxRecDepth 100000
set_option linter.unusedVariables false
section
variable {H : Type} {enc : TypeId × Value → H} {P : Program} {w : World} {base : Nat} {spare : Nat → Bool} {held : Bool}
theorem cells_arr {t e : TypeId} {k : IntKind} {n fuel : Nat} {cs : List Value} {x : DataW H × List MemPlace} (hs : P.underlying t = some (.array n e)) (he : P.underlying e = some (.int k)) (h1 : P.cellsOf e = 1) (hl : cs.length = n)
    (h : DataW.trod enc P w base spare held fuel t cs = some x) : ∃ zs : List Int, cs = zs.map (Value.int k) ∧ zs.length = n ∧ ∀ z ∈ zs, (Lit.int k z).wf = true := by
  obtain ⟨xs, m, _, hx, _, hlen, hg⟩ := DataW.trod_array hs h
  have key : ∀ i, i < n → ∃ z : Int, cs[i]? = some (.int k z) ∧ (Lit.int k z).wf = true := by
    intro i hi
    have h2 := hg i hi
    rw [h1, Nat.mul_one] at h2
    have hjc : i < cs.length := by omega
    have e1 : (cs.drop i).take 1 = [cs[i]] := by
      rw [List.drop_eq_getElem_cons hjc]; rfl
    rw [e1] at h2
    have hxj : xs[i]? = some (xs[i]'(by omega)) := List.getElem?_eq_getElem (by omega)
    obtain ⟨a, e0, _, wa⟩ := DataW.trod_int he (h2.trans hxj)
    simp at e0
    exact ⟨a, by rw [List.getElem?_eq_getElem hjc, e0], wa⟩
  obtain ⟨f, hf2⟩ := choose_lt (α := Int) (p := fun i z => cs[i]? = some (.int k z) ∧ (Lit.int k z).wf = true) key
  refine ⟨(List.range n).map f, ?_, by simp, ?_⟩
  · apply List.ext_getElem?
    intro i
    by_cases hi : i < n
    · rw [(hf2 i hi).1]; simp [hi]
    · rw [List.getElem?_eq_none (by omega)]; simp [hi]
  · intro z hz
    obtain ⟨i, hi, rfl⟩ := List.mem_map.1 hz
    exact (hf2 i (List.mem_range.1 hi)).2
theorem cells_fields {t : TypeId} {fs : Array Field} {fuel : Nat} {cs : List Value} {x : DataW H × List MemPlace} (hs : P.underlying t = some (.struct fs)) (hone : oneCellFields P fs = true) (hl : cs.length = fs.size)
    (h : DataW.trod enc P w base spare held fuel t cs = some x) : ∀ (j : Nat) (f : Field), fs[j]? = some f → ∃ (u : Value) (y : DataW H × List MemPlace) (n : Nat), cs[j]? = some u ∧ DataW.trod enc P w base spare held n f.type [u] = some y := by
  obtain ⟨xs, n, _, hx, _, hlen, hg⟩ := DataW.trod_struct hs h
  intro j f hj
  obtain ⟨o, k⟩ := hone_of hone j f hj
  have h1 := hg j f hj
  have hjl : j < fs.size := (Array.getElem?_eq_some_iff.1 hj).1
  have hjc : j < cs.length := by omega
  rw [o, k] at h1
  have e1 : (cs.drop j).take 1 = [cs[j]] := by
    rw [List.drop_eq_getElem_cons hjc]; rfl
  rw [e1] at h1
  have hxj : xs[j]? = some (xs[j]'(by omega)) := List.getElem?_eq_getElem (by omega)
  exact ⟨cs[j], _, n, List.getElem?_eq_getElem hjc, h1.trans hxj⟩
end
theorem list_10 {α : Type} : ∀ {l : List α}, l.length = 10 → ∃ a b c d e f g h i j, l = [a, b, c, d, e, f, g, h, i, j]
  | [a, b, c, d, e, f, g, h, i, j], _ => ⟨a, b, c, d, e, f, g, h, i, j, rfl⟩
theorem list_3 {α : Type} : ∀ {l : List α}, l.length = 3 → ∃ a b c, l = [a, b, c]
  | [a, b, c], _ => ⟨a, b, c, rfl⟩
theorem list_16f {α : Type} : ∀ {l : List α}, l.length = 16 → ∃ x0 x1 x2 x3 x4 x5 x6 x7 x8 x9 x10 x11 x12 x13 x14 x15, l = [x0, x1, x2, x3, x4, x5, x6, x7, x8, x9, x10, x11, x12, x13, x14, x15]
  | [x0, x1, x2, x3, x4, x5, x6, x7, x8, x9, x10, x11, x12, x13, x14, x15], _ => ⟨x0, x1, x2, x3, x4, x5, x6, x7, x8, x9, x10, x11, x12, x13, x14, x15, rfl⟩
/-- a status word's ten cells -/
theorem cells_psw {H : Type} {enc : TypeId × Value → H} {w : World} {base : Nat} {spare : Nat → Bool} {held : Bool} {fuel : Nat} {cs : List Value} {x : DataW H × List MemPlace} (hl : cs.length = 10) (h : DataW.trod enc Try.prog w base spare held fuel 30 cs = some x) :
    ∃ (m k : Int) (M W P : Bool) (c i q g a : Int), cs = [.int .i64 m, .int .i64 k, .bool M, .bool W, .bool P, .int .i64 c, .int .i64 i, .int .i64 q, .int .i64 g, .int .i64 a] := by
  have hf := cells_fields Try.underlying30 (by kernel_rfl) hl h
  obtain ⟨u0, y0, n0, g0, t0⟩ := hf 0 _ rfl
  obtain ⟨u1, y1, n1, g1, t1⟩ := hf 1 _ rfl
  obtain ⟨u2, y2, n2, g2, t2⟩ := hf 2 _ rfl
  obtain ⟨u3, y3, n3, g3, t3⟩ := hf 3 _ rfl
  obtain ⟨u4, y4, n4, g4, t4⟩ := hf 4 _ rfl
  obtain ⟨u5, y5, n5, g5, t5⟩ := hf 5 _ rfl
  obtain ⟨u6, y6, n6, g6, t6⟩ := hf 6 _ rfl
  obtain ⟨u7, y7, n7, g7, t7⟩ := hf 7 _ rfl
  obtain ⟨u8, y8, n8, g8, t8⟩ := hf 8 _ rfl
  obtain ⟨u9, y9, n9, g9, t9⟩ := hf 9 _ rfl
  obtain ⟨v0, v1, v2, v3, v4, v5, v6, v7, v8, v9, rfl⟩ := list_10 hl
  simp only [List.getElem?_cons_zero, List.getElem?_cons_succ, Option.some.injEq] at g0 g1 g2 g3 g4 g5 g6 g7 g8 g9
  subst g0 g1 g2 g3 g4 g5 g6 g7 g8 g9
  obtain ⟨z0, rfl, _⟩ := field_int Try.underlying3 t0
  obtain ⟨z1, rfl, _⟩ := field_int Try.underlying3 t1
  obtain ⟨z2, rfl⟩ := field_bool Try.underlying4 t2
  obtain ⟨z3, rfl⟩ := field_bool Try.underlying4 t3
  obtain ⟨z4, rfl⟩ := field_bool Try.underlying4 t4
  obtain ⟨z5, rfl, _⟩ := field_int Try.underlying3 t5
  obtain ⟨z6, rfl, _⟩ := field_int Try.underlying3 t6
  obtain ⟨z7, rfl, _⟩ := field_int Try.underlying3 t7
  obtain ⟨z8, rfl, _⟩ := field_int Try.underlying3 t8
  obtain ⟨z9, rfl, _⟩ := field_int Try.underlying3 t9
  exact ⟨z0, z1, z2, z3, z4, z5, z6, z7, z8, z9, rfl⟩
theorem open_state {H : Type} {enc : TypeId × Value → H} {w : World} {base : Nat} {spare : Nat → Bool} {held : Bool} {r : Reach} {b0 : Nat} {v : Value} {d : DataW H} {p : List MemPlace} (hv : Value.okWide Try.prog w r b0 36 v) (h : DataW.Trod enc Try.prog w base spare held 36 v d p) :
    ∃ (rs : List Int) (m k : Int) (M W P : Bool) (c i q g a : Int) (x y z : Value), v = .agg (rs.map (Value.int .u32) ++ [.int .i64 m, .int .i64 k, .bool M, .bool W, .bool P, .int .i64 c, .int .i64 i, .int .i64 q, .int .i64 g, .int .i64 a, x, y, z]).toArray ∧ rs.length = 16 ∧ ∀ z ∈ rs, (Lit.int .u32 z).wf = true := by
  obtain ⟨cs, rfl, hsz⟩ := okWide_struct Try.underlying36 hv
  obtain ⟨fuel, hf⟩ := h
  obtain ⟨xs, n, _, hx, _, hlen, hg⟩ := DataW.trod_struct Try.underlying36 hf
  have hs29 : cs.toList.length = 29 := by rw [Array.length_toList, hsz]; kernel_rfl
  have h0 := hg 0 _ rfl
  have h1 := hg 1 _ rfl
  have hxs : xs.length = 3 := hlen
  obtain ⟨x0, x1, x2, rfl⟩ := list_3 hxs
  have h0' : DataW.trod enc Try.prog w base spare held n 28 (cs.toList.take 16) = some x0 := h0
  have h1' : DataW.trod enc Try.prog w base spare held n 30 ((cs.toList.drop 16).take 10) = some x1 := h1
  obtain ⟨rs, e0, hr, wr⟩ := cells_arr (n := 16) (by kernel_rfl) Try.underlying26 (by kernel_rfl) (by rw [List.length_take, hs29]; decide) h0'
  obtain ⟨m, k, M, W, P, c, i, q, g, a, e1⟩ := cells_psw (by rw [List.length_take, List.length_drop, hs29]; decide) h1'
  obtain ⟨x, y, z, e2⟩ := list_3 (l := cs.toList.drop 26) (by rw [List.length_drop, hs29])
  refine ⟨rs, m, k, M, W, P, c, i, q, g, a, x, y, z, ?_, hr, wr⟩
  congr 1
  apply Array.toList_inj.mp
  have e3 : cs.toList = cs.toList.take 16 ++ ((cs.toList.drop 16).take 10 ++ cs.toList.drop 26) := by
    have e4 : cs.toList.drop 26 = (cs.toList.drop 16).drop 10 := by rw [List.drop_drop]
    rw [e4, List.take_append_drop, List.take_append_drop]
  rw [e3, e0, e1, e2]
  simp
end Go.Proofs.Ythjdjbipfdigeaa

namespace Go.Proofs.Ythjdjbipfdigeaa
open Go.ChangeShapes Go.WideShapes Go.ChangeAt Go.RowKit Go.Deep
set_option maxRecDepth 100000
set_option linter.unusedVariables false
section
variable {H : Type} {enc : TypeId × Value → H} {P : Program} {w : World} {base : Nat} {spare : Nat → Bool} {held : Bool}
theorem open_slice_fields {t e : TypeId} {fs : Array Field} {fuel : Nat} {cs : List Value} {x : DataW H × List MemPlace} (ht : P.underlying t = some (.slice e)) (he : P.underlying e = some (.struct fs))
    (hone : oneCellFields P fs = true) (hC : P.cellsOf e = fs.size) (h : DataW.trod enc P w base spare held fuel t cs = some x) :
    (cs = [.slice none 0 0] ∧ x = (.nil, [])) ∨
    ∃ (a : Addr) (len cap m : Nat) (D : Nat → DataW H) (Pl : Nat → List MemPlace), cs = [.slice (some a) len cap] ∧ base ≤ a.block ∧ len ≤ cap ∧ cap ≤ maxLen ∧ m = (if spare a.block then cap else len) ∧
      x = (.slice ((List.range len).map D) ((List.range (m - len)).map fun j => D (len + j)), MemPlace.row a (m * fs.size) ++ (List.range m).flatMap Pl) ∧
      ∀ i, i < m → ∃ (ys : List (DataW H × List MemPlace)) (n : Nat), D i = .agg (ys.map (·.1)) ∧ Pl i = ys.flatMap (·.2) ∧ ys.length = fs.size ∧
        ∀ (j : Nat) (f : Field), fs[j]? = some f → ∃ (v : Value) (y : DataW H × List MemPlace), w.cell? (a.add (i * fs.size + j)) = some v ∧ ys[j]? = some y ∧ DataW.trod enc P w base spare held n f.type [v] = some y := by
  rcases open_slice ht h with h0 | ⟨a, len, cap, m, n, D, Pl, hcs, hb, hl, hm, hmm, hx, hi⟩
  · exact .inl h0
  · refine .inr ⟨a, len, cap, m, D, Pl, hcs, hb, hl, hm, hmm, by rw [hC] at hx; exact hx, fun i him => ?_⟩
    obtain ⟨cs', hc, ht'⟩ := hi i him
    rw [hC] at hc
    obtain ⟨ys, n', hn', hy, hlen, hyl, hf⟩ := DataW.trod_struct he ht'
    obtain ⟨_, hcl, hat⟩ := World.cells?_some hc
    simp only [Prod.mk.injEq] at hy
    refine ⟨ys, n', hy.1, hy.2, hyl, fun j f hj => ?_⟩
    obtain ⟨ho, hk⟩ := hone_of hone j f hj
    have hjl : j < fs.size := (Array.getElem?_eq_some_iff.1 hj).1
    have hcell := hat j hjl
    have hv : cs'[j]? = some (cs'[j]'(by omega)) := List.getElem?_eq_getElem (by omega)
    have h1 := hf j f hj
    rw [ho, hk] at h1
    have hone' : (cs'.drop j).take 1 = [cs'[j]'(by omega)] := by
      rw [List.drop_eq_getElem_cons (by omega)]
      rfl
    rw [hone'] at h1
    have hys : ys[j]? = some (ys[j]'(by omega)) := List.getElem?_eq_getElem (by omega)
    refine ⟨_, _, ?_, hys, h1.trans hys⟩
    rw [← Go.Deep.add_add, hcell, hv]
theorem open_rowv {t e : TypeId} {k : IntKind} {v : Value} {n : Nat} {y : DataW H × List MemPlace} (ht : P.underlying t = some (.slice e)) (he : P.underlying e = some (.int k)) (hC : P.cellsOf e = 1)
    (h : DataW.trod enc P w 0 (fun _ => true) true n t [v] = some y) : ∃ a len cap zs, v = .slice a len cap ∧ IsRow k w a len cap zs := by
  rcases open_ints ht he hC h with ⟨hcs, _⟩ | ⟨x, l, c, zs, hcs, _, hl, hm, hz, hx, hcell, hwz⟩
  · simp at hcs
    subst hcs
    exact ⟨none, 0, 0, [], rfl, .inl ⟨rfl, rfl, rfl, rfl⟩⟩
  · simp at hcs
    subst hcs
    exact ⟨_, _, _, zs, rfl, .inr ⟨_, rfl, hl, hm, by simpa using hz, hcell, hwz⟩⟩
end
theorem open_parts {H : Type} {enc : TypeId × Value → H} {w : World} {v : Value} {n : Nat} {y : DataW H × List MemPlace} (hf : DataW.trod enc Try.prog w 0 (fun _ => true) true n 32 [v] = some y) : ∃ a len cap, v = .slice a len cap ∧ Parts w a len := by
  rcases open_slice_fields (fs := _) Try.underlying32 Try.underlying77 (by kernel_rfl) (by kernel_rfl) hf with ⟨hcs, _⟩ | ⟨x, l, c, m, D, Pl, hcs, _, hl, hm, hmm, _, hi⟩
  · simp at hcs
    subst hcs
    exact ⟨none, 0, 0, rfl, by omega, fun i hi => by omega⟩
  · simp at hcs
    subst hcs
    simp only [if_true] at hmm
    subst hmm
    refine ⟨_, _, _, rfl, by unfold maxLen at hm; omega, fun i hil => ?_⟩
    obtain ⟨b, off, spot⟩ := x
    have hspot : spot = none := by
      obtain ⟨ys, n, _, _, _, hg⟩ := hi 0 (by omega)
      obtain ⟨v, y, hc, _⟩ := hg 0 _ rfl
      simpa [Addr.add] using World.cell?_spot hc
    subst hspot
    have hadd : ∀ i, (⟨b, off, none⟩ : Addr).add i = ⟨b, off + i, none⟩ := by intro i; unfold Addr.add; split <;> simp_all
    obtain ⟨ys, n, _, _, _, hg⟩ := hi i (by omega)
    obtain ⟨v0, y0, c0, _, t0⟩ := hg 0 _ rfl
    obtain ⟨v1, y1, c1, _, t1⟩ := hg 1 _ rfl
    obtain ⟨z0, rfl, w0⟩ := field_int Try.underlying75 t0
    obtain ⟨A, l4, k4, zs, rfl, hr⟩ := open_rowv Try.underlying31 Try.underlying5 (by kernel_rfl) t1
    obtain ⟨hb, _, hle, hmx⟩ := row_byt hr
    rw [hadd] at c0 c1
    have hz := bounds_u16 w0
    refine ⟨b, off, z0, A, l4, k4, _, rfl, ?_, hz.1, hz.2, ?_, hb, by unfold maxLen at hmx; omega⟩
    · simpa [Nat.add_assoc] using c0
    · simpa [Nat.add_assoc] using c1
theorem open_state2 {H : Type} {enc : TypeId × Value → H} {w : World} {r : Reach} {b0 : Nat} {v : Value} {d : DataW H} {p : List MemPlace} (hv : Value.okWide Try.prog w r b0 36 v) (h : DataW.Trod enc Try.prog w 0 (fun _ => true) true 36 v d p) :
    ∃ (rs : List Int) (m k : Int) (M W P : Bool) (c i q g a : Int) (bl : Int) (KA : Option Addr) (kl kc : Nat) (kz : List Int) (PA : Option Addr) (pl pc : Nat), v = .agg (rs.map (Value.int .u32) ++ ([.int .i64 m, .int .i64 k, .bool M, .bool W, .bool P, .int .i64 c, .int .i64 i, .int .i64 q, .int .i64 g, .int .i64 a, .int .u8 bl, .slice KA kl kc, .slice PA pl pc] : List Value)).toArray ∧ rs.length = 16 ∧ (∀ z ∈ rs, (Lit.int .u32 z).wf = true) ∧ (0 ≤ bl ∧ bl ≤ 255) ∧ Byt w KA kl kz ∧ (kl : Int) ≤ 9223372036854775807 ∧ Parts w PA pl := by
  obtain ⟨rs, m, k, M, W, P, c, i, q, g, a, x, y, z, rfl, hr, wr⟩ := open_state hv h
  obtain ⟨fuel, hf⟩ := h
  obtain ⟨xs, n, _, hx, _, hlen, hg⟩ := DataW.trod_struct Try.underlying36 hf
  have h2 := hg 2 _ rfl
  have hxs : xs.length = 3 := hlen
  obtain ⟨x0, x1, x2, rfl⟩ := list_3 hxs
  obtain ⟨r0, r1, r2, r3, r4, r5, r6, r7, r8, r9, r10, r11, r12, r13, r14, r15, rfl⟩ := list_16f hr
  have h2' : DataW.trod enc Try.prog w 0 (fun _ => true) true n 34 [x, y, z] = some x2 := h2
  have hm := cells_fields Try.underlying34 (by kernel_rfl) rfl h2'
  obtain ⟨u0, y0, n0, g0, t0⟩ := hm 0 _ rfl
  obtain ⟨u1, y1, n1, g1, t1⟩ := hm 1 _ rfl
  obtain ⟨u2, y2, n2, g2, t2⟩ := hm 2 _ rfl
  simp only [List.getElem?_cons_zero, List.getElem?_cons_succ, Option.some.injEq] at g0 g1 g2
  subst g0 g1 g2
  obtain ⟨bl, rfl, wb⟩ := field_int Try.underlying5 t0
  obtain ⟨KA, kl, kc, kz, rfl, hk⟩ := open_rowv Try.underlying31 Try.underlying5 (by kernel_rfl) t1
  obtain ⟨PA, pl, pc, rfl, hp⟩ := open_parts t2
  obtain ⟨hb, _, hle, hmx⟩ := row_byt hk
  exact ⟨_, m, k, M, W, P, c, i, q, g, a, bl, KA, kl, kc, _, PA, pl, pc, rfl, hr, wr, bounds_u8 wb, hb, by unfold maxLen at hmx; omega, hp⟩
end Go.Proofs.Ythjdjbipfdigeaa

namespace Go.Proofs.Ythjdjbipfdigeaa.generalChanges
open Go.ChangeShapes Go.WideShapes Go.ChangeAt Go.RowKit
open Go.ChangeMaps (open_string shut_string)
set_option linter.unusedVariables false

set_option maxRecDepth 100000 in
theorem lifted (os : Os) (started : os.Started) (H : Type) (enc : TypeId × Value → H) :
    ReturnsInHanded {} Try.checked os 10 .any (Rows.generalChangesSpec.pre6 enc Try.prog Try.f10 Rows.generalChangesRow.domain false) (Rows.generalChangesSpec.post enc Try.prog Try.f10 false true false false) := by
  refine returnsInHanded_of_change (C := Try.checked) own started (by kernel_rfl) Try.func10
    (ChangeSpec.witness6 (enc := enc) (C := Try.checked) false ⟨#[], #[.agg #[.int .i64 0, .int .i64 0, .int .i64 0, .int .i64 0, .int .i64 0, .int .i64 0, .int .i64 0, .int .i64 0, .int .i64 0, .int .i64 0, .int .i64 0, .int .i64 0], .agg #[.int .u32 0, .int .u32 0, .int .u32 0, .int .u32 0, .int .u32 0, .int .u32 0, .int .u32 0, .int .u32 0, .int .u32 0, .int .u32 0, .int .u32 0, .int .u32 0, .int .u32 0, .int .u32 0, .int .u32 0, .int .u32 0, .int .i64 0, .int .i64 0, .bool false, .bool false, .bool false, .int .i64 0, .int .i64 0, .int .i64 0, .int .i64 0, .int .i64 0, .int .u8 0, .slice none 0 0, .slice none 0 0]], []⟩ 8 (by kernel_rfl) (by kernel_rfl) (by kernel_rfl) (by kernel_rfl)) ?_
  intro W base args ds gs before hval0 hW hcnd _
  have hval : ∀ (j : Nat) t v, Try.f10.params[j]? = some t → args[j]? = some v → Value.okWide Try.prog W .any base t v := hval0
  have hW' := hW
  obtain ⟨p, q, hA0, hV, rfl, hfz, hnd⟩ := hW
  have hA : DataW.TrodAll enc Try.prog W 0 (fun _ => true) true Try.f10.params.toList args.toList ds p := hA0
  rw [Try.params10] at hA hval
  obtain ⟨v0, vs0, d0, ds0, p0, q0, hargs, rfl, rfl, h0, r0⟩ := trodAll_cons hA
  obtain ⟨v1, vs1, d1, ds1, p1, q1, rfl, rfl, rfl, h1, r1⟩ := trodAll_cons r0
  obtain ⟨rfl, rfl, rfl⟩ := trodAll_nil r1
  obtain rfl : args = #[v0, v1] := by cases args; simp_all
  obtain ⟨rfl, rfl⟩ := trodVars_none hV
  have k0 := h0
  have lt0 : ∀ x ∈ p0, x.block < W.heap.size := by obtain ⟨m, hm⟩ := k0; exact DataW.trod_lt m _ _ _ hm
  obtain ⟨cs0, rfl, sz0, hf0⟩ := open_aggs Try.underlying25 (by kernel_rfl) (by kernel_rfl) (hval 0 25 v0 rfl rfl) h0
  obtain ⟨u0_0, y0_0, n0_0, g0_0, t0_0⟩ := hf0 0 _ rfl
  obtain ⟨a0_0, rfl, w0_0⟩ := field_int Try.underlying3 t0_0
  obtain ⟨u0_1, y0_1, n0_1, g0_1, t0_1⟩ := hf0 1 _ rfl
  obtain ⟨a0_1, rfl, w0_1⟩ := field_int Try.underlying3 t0_1
  obtain ⟨u0_2, y0_2, n0_2, g0_2, t0_2⟩ := hf0 2 _ rfl
  obtain ⟨a0_2, rfl, w0_2⟩ := field_int Try.underlying3 t0_2
  obtain ⟨u0_3, y0_3, n0_3, g0_3, t0_3⟩ := hf0 3 _ rfl
  obtain ⟨a0_3, rfl, w0_3⟩ := field_int Try.underlying3 t0_3
  obtain ⟨u0_4, y0_4, n0_4, g0_4, t0_4⟩ := hf0 4 _ rfl
  obtain ⟨a0_4, rfl, w0_4⟩ := field_int Try.underlying3 t0_4
  obtain ⟨u0_5, y0_5, n0_5, g0_5, t0_5⟩ := hf0 5 _ rfl
  obtain ⟨a0_5, rfl, w0_5⟩ := field_int Try.underlying3 t0_5
  obtain ⟨u0_6, y0_6, n0_6, g0_6, t0_6⟩ := hf0 6 _ rfl
  obtain ⟨a0_6, rfl, w0_6⟩ := field_int Try.underlying3 t0_6
  obtain ⟨u0_7, y0_7, n0_7, g0_7, t0_7⟩ := hf0 7 _ rfl
  obtain ⟨a0_7, rfl, w0_7⟩ := field_int Try.underlying3 t0_7
  obtain ⟨u0_8, y0_8, n0_8, g0_8, t0_8⟩ := hf0 8 _ rfl
  obtain ⟨a0_8, rfl, w0_8⟩ := field_int Try.underlying3 t0_8
  obtain ⟨u0_9, y0_9, n0_9, g0_9, t0_9⟩ := hf0 9 _ rfl
  obtain ⟨a0_9, rfl, w0_9⟩ := field_int Try.underlying3 t0_9
  obtain ⟨u0_10, y0_10, n0_10, g0_10, t0_10⟩ := hf0 10 _ rfl
  obtain ⟨a0_10, rfl, w0_10⟩ := field_int Try.underlying3 t0_10
  obtain ⟨u0_11, y0_11, n0_11, g0_11, t0_11⟩ := hf0 11 _ rfl
  obtain ⟨a0_11, rfl, w0_11⟩ := field_int Try.underlying3 t0_11
  obtain rfl : cs0 = #[.int .i64 a0_0, .int .i64 a0_1, .int .i64 a0_2, .int .i64 a0_3, .int .i64 a0_4, .int .i64 a0_5, .int .i64 a0_6, .int .i64 a0_7, .int .i64 a0_8, .int .i64 a0_9, .int .i64 a0_10, .int .i64 a0_11] := by
    apply Array.ext_getElem?
    intro j
    match j with
    | 0 => exact g0_0
    | 1 => exact g0_1
    | 2 => exact g0_2
    | 3 => exact g0_3
    | 4 => exact g0_4
    | 5 => exact g0_5
    | 6 => exact g0_6
    | 7 => exact g0_7
    | 8 => exact g0_8
    | 9 => exact g0_9
    | 10 => exact g0_10
    | 11 => exact g0_11
    | j + 12 =>
      rw [Array.getElem?_eq_none (by rw [sz0]; exact Nat.le_add_left _ _), Array.getElem?_eq_none (by exact Nat.le_add_left _ _)]
  have k1 := h1
  have lt1 : ∀ x ∈ p1, x.block < W.heap.size := by obtain ⟨m, hm⟩ := k1; exact DataW.trod_lt m _ _ _ hm
  obtain ⟨rs1, m1, kk1, M1, W1, P1, c1, i1, qq1, g1, a1, bl1, KA1, kl1, kc1, kz1, PA1, pl1, pcc1, rfl, hr1, wr1, hb1, hk1, hkl1, hp1⟩ := open_state2 (hval 1 36 v1 rfl rfl) h1
  clear hA0 hval0
  refine (generalChanges_walk a0_0 a0_1 a0_2 a0_3 a0_4 a0_5 a0_6 a0_7 a0_8 a0_9 a0_10 a0_11 rs1 m1 kk1 M1 W1 P1 c1 i1 qq1 g1 a1 bl1 KA1 kl1 kc1 kz1 PA1 pl1 pcc1 W w0_0 w0_1 w0_2 w0_3 w0_4 w0_5 w0_6 w0_7 w0_8 w0_9 w0_10 w0_11 hr1 wr1 hb1 hk1 hkl1 hp1).mono fun e W' ⟨he, bel⟩ => ?_
  subst he
  exact ⟨_, rfl, _, _, _, [], _, [], hW', trodAll_mk1 (shut_bool Try.underlying4 _), (trodAll_cons_mk (Below.trod laidOut (by kernel_rfl) (of_decide_eq_true (by kernel_rfl)) k0 bel lt0) (trodAll_cons_mk (Below.trod laidOut (by kernel_rfl) (of_decide_eq_true (by kernel_rfl)) k1 bel lt1) trodAll_mk0)), rfl, bel.frame _, fun h => by cases h⟩

theorem over : Rows.generalChangesRow.holds Try.pinned (OpenSpec.ofChange Rows.generalChangesSpec) :=
  OpenClaim.holds_of_wide 10 Try.f10 rfl rfl rfl rfl rfl rfl rfl ⟨rfl, rfl, rfl, rfl, rfl⟩ rfl rfl rfl rfl rfl (by kernel_rfl) Try.func10 (by kernel_rfl)
    (of_decide_eq_true (by kernel_rfl)) (by unfold Func.isWrapper; first | (rw [if_pos (by decide +kernel)]; kernel_rfl) | (rw [if_neg (by decide +kernel)]; exact ⟨rfl, rfl⟩))
    (fun os started H enc _ => lifted os started H enc)

/-- THE STATEMENT -/
theorem proved : Rows.GeneralChangesSaid := over
end Go.Proofs.Ythjdjbipfdigeaa.generalChanges

