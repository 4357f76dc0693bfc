/- StoreProtects: the walk. No conditions but that the arguments read as bytes. -/
import Derived.Test.YtcollddpfahaaaaSt18
import Derived.Lib.Hide
import Derived.Outline
import Derived.Handy
import Derived.BigQuiet
import Derived.Deep.QuietTactic
namespace Go.Proofs.Ytcollddpfahaaaa
open Go.RowKit
set_option linter.unusedVariables false
set_option linter.unusedSimpArgs false

set_option maxHeartbeats 4000000 in
theorem storeProtects_walk (n k0 k1 k2 k3 addr : Int) (A : Option Addr) (len cap : Nat) (ys : List Int) (key : Int) (w : World) (hn : 0 ≤ n ∧ n ≤ 255) (h0 : 0 ≤ k0 ∧ k0 ≤ 255) (h1 : 0 ≤ k1 ∧ k1 ≤ 255) (h2 : 0 ≤ k2 ∧ k2 ≤ 255) (h3 : 0 ≤ k3 ∧ k3 ≤ 255) (hy : Byt w A len ys) (hl : (len : Int) ≤ (cap : Int)) (hc : (cap : Int) ≤ 9223372036854775807) (hk : 0 ≤ key ∧ key ≤ 255) : Calls Try.prog 5 #[.int .u8 n, .agg #[.int .u8 k0, .int .u8 k1, .int .u8 k2, .int .u8 k3], .int .i64 addr, .slice A len cap, .int .u8 key] w fun e w' => e = .returned (.bool true) ∧ Below w.heap.size w w' := by
  obtain ⟨n0, n1⟩ := hn
  obtain ⟨k00, k01⟩ := h0
  obtain ⟨k10, k11⟩ := h1
  obtain ⟨k20, k21⟩ := h2
  obtain ⟨k30, k31⟩ := h3
  obtain ⟨kk0, kk1⟩ := hk
  have HY := Lib.hid hy
  clear hy
  go_enter Try.func5, Try.ntmps5
  go_wp2_with fail
  have A0 := Lib.hid ((Below.refl w.heap.size w).alloc (Nat.le_refl _) (.cells #[.int .u8 k0, .int .u8 k1, .int .u8 k2, .int .u8 k3] 41))
  have C0 : (w.alloc (.cells #[.int .u8 k0, .int .u8 k1, .int .u8 k2, .int .u8 k3] 41)).cell? ⟨w.heap.size, 0, none⟩ = some (.int .u8 k0) := by simp
  have C1 : (w.alloc (.cells #[.int .u8 k0, .int .u8 k1, .int .u8 k2, .int .u8 k3] 41)).cell? ⟨w.heap.size, 1, none⟩ = some (.int .u8 k1) := by simp
  have C2 : (w.alloc (.cells #[.int .u8 k0, .int .u8 k1, .int .u8 k2, .int .u8 k3] 41)).cell? ⟨w.heap.size, 2, none⟩ = some (.int .u8 k2) := by simp
  have C3 : (w.alloc (.cells #[.int .u8 k0, .int .u8 k1, .int .u8 k2, .int .u8 k3] 41)).cell? ⟨w.heap.size, 3, none⟩ = some (.int .u8 k3) := by simp
  have HX : w.heap.size < (w.alloc (.cells #[.int .u8 k0, .int .u8 k1, .int .u8 k2, .int .u8 k3] 41)).heap.size := by simp
  replace HY := Lib.hid (HY.out.keep A0.out)
  generalize w.alloc (.cells #[.int .u8 k0, .int .u8 k1, .int .u8 k2, .int .u8 k3] 41) = a0 at *
  have HC := Lib.hid (And.intro C0 (And.intro C1 (And.intro C2 C3)))
  clear C0 C1 C2 C3
  refine (works_c _).mono ?_
  rintro e w1 ⟨rfl, hb1⟩
  go_wp2_with fail
  refine (make_c n n0 n1 _).mono ?_
  rintro e w2 ⟨F, rfl, hs, hb, q1, q2, q3⟩
  have WK0 := Lib.hid (wk_make hb1 hb1.size hs hb q1 q2 q3)
  clear hs hb q1 q2 q3 hb1
  obtain ⟨bs, hbs⟩ : ∃ b, z0 (2048 * sBlk n) = b := ⟨_, rfl⟩
  obtain ⟨ks, hks⟩ : ∃ b, z0 (sBlk n) = b := ⟨_, rfl⟩
  have hq : ks.length = sBlk n := by rw [← hks]; exact z0_len _
  obtain ⟨q, hqq⟩ : ∃ q, sBlk n = q := ⟨_, rfl⟩
  have q1 : 1 ≤ q := by rw [← hqq]; exact sBlk_lo n
  have q4 : q ≤ 4 := by rw [← hqq]; exact sBlk_hi n
  rw [hqq] at hq
  rw [hbs, hks] at WK0
  have HQ := Lib.hid hq
  clear hbs hks hqq hq
  by_cases hlt : (5000 : Int) < (len : Int)
  · have m0 : (5000 : Int) ≤ (cap : Int) := by omega
    have HYS := Lib.hid (HY.out.pre 5000 (by omega))
    obtain ⟨zs, hzs⟩ : ∃ z, ys.take 5000 = z := ⟨_, rfl⟩
    rw [hzs] at HYS
    clear hzs
    go_wp2_with fail
    go_loopw [12] (fun x wr => ∃ k : Nat, k ≤ 4 ∧ x = .int .i64 k ∧ ∃ ks, Wk 66 a0.heap.size a0 wr F bs ks ∧ ks.length = q ∧ KeyD ks [k0, k1, k2, k3] k) (fun x _ => 4 - (intOf x).toNat)
    case atStart => exact ⟨0, by omega, rfl, _, WK0.out, HQ.out, KeyD.zero _ _⟩
    case round =>
      obtain ⟨k, hk4, rfl, ks, wk, hq, kd⟩ := hrel
      have WK := Lib.hid wk
      have KD := Lib.hid kd
      clear wk kd WK0 HQ
      rcases (show k = 0 ∨ k = 1 ∨ k = 2 ∨ k = 3 ∨ k = 4 by omega) with rfl | rfl | rfl | rfl | rfl
      · have c0 := WK.out.cell (p := ⟨w.heap.size, 0, none⟩) HX HC.out.1
        go_wp2_with fail
        refine (wk_set _ WK.out 0 (k0 % 32) _ rfl).mono ?_
        rintro e w4 ⟨rfl, hs, hg⟩
        have KD2 := Lib.hid (KeyD.stepT (k := 0) (addr := 0) (v := k0 % 32) (by decide) (by rfl) (N := bs.length) WK.out.lt (by simpa using k00) KD.out)
        have WK2 := Lib.hid hs
        clear hs hg c0
        go_wp2_with fail
        exact ⟨⟨0 + 1, by omega, rfl, _, WK2.out, KD2.out.2.trans hq, KD2.out.1⟩, by decide⟩
      · have c0 := WK.out.cell (p := ⟨w.heap.size, 1, none⟩) HX HC.out.2.1
        go_wp2_with fail
        refine (wk_set _ WK.out 2048 (k1 % 32) _ rfl).mono ?_
        rintro e w4 ⟨rfl, hs, hg⟩
        have KD2 := Lib.hid (KeyD.stepT (k := 1) (addr := 2048) (v := k1 % 32) (by decide) (by rfl) (N := bs.length) WK.out.lt (by simpa using k10) KD.out)
        have WK2 := Lib.hid hs
        clear hs hg c0
        go_wp2_with fail
        exact ⟨⟨1 + 1, by omega, rfl, _, WK2.out, KD2.out.2.trans hq, KD2.out.1⟩, by decide⟩
      · have c0 := WK.out.cell (p := ⟨w.heap.size, 2, none⟩) HX HC.out.2.2.1
        go_wp2_with fail
        refine (wk_set _ WK.out 4096 (k2 % 32) _ rfl).mono ?_
        rintro e w4 ⟨rfl, hs, hg⟩
        have KD2 := Lib.hid (KeyD.stepT (k := 2) (addr := 4096) (v := k2 % 32) (by decide) (by rfl) (N := bs.length) WK.out.lt (by simpa using k20) KD.out)
        have WK2 := Lib.hid hs
        clear hs hg c0
        go_wp2_with fail
        exact ⟨⟨2 + 1, by omega, rfl, _, WK2.out, KD2.out.2.trans hq, KD2.out.1⟩, by decide⟩
      · have c0 := WK.out.cell (p := ⟨w.heap.size, 3, none⟩) HX HC.out.2.2.2
        go_wp2_with fail
        refine (wk_set _ WK.out 6144 (k3 % 32) _ rfl).mono ?_
        rintro e w4 ⟨rfl, hs, hg⟩
        have KD2 := Lib.hid (KeyD.stepT (k := 3) (addr := 6144) (v := k3 % 32) (by decide) (by rfl) (N := bs.length) WK.out.lt (by simpa using k30) KD.out)
        have WK2 := Lib.hid hs
        clear hs hg c0
        go_wp2_with fail
        exact ⟨⟨3 + 1, by omega, rfl, _, WK2.out, KD2.out.2.trans hq, KD2.out.1⟩, by decide⟩
      · obtain ⟨N, hN⟩ : ∃ N, bs.length = N := ⟨_, rfl⟩
        have HN := Lib.hid hN
        have hNq : N = 2048 * q := by rw [← hN, WK.out.lt, hq]
        have hN0 : 2048 ≤ N := by omega
        have hN1 : N ≤ 8192 := by omega
        have HQ := Lib.hid hq
        have HNQ := Lib.hid hNq
        clear hN hq hNq
        go_wp2_with fail
        obtain ⟨kk, hkk⟩ : ∃ k, 1 + key % 15 = k := ⟨_, rfl⟩
        rw [hkk]
        have kk2 : 1 ≤ kk := by omega
        have kk3 : kk ≤ 15 := by omega
        clear hkk
        refine (wk_size _ WK.out N HN.out).mono ?_
        rintro e w4 ⟨rfl, rfl⟩
        go_wp2_with fail
        refine (wk_allT _ WK.out N HN.out (by omega)).mono ?_
        rintro e w5 ⟨g, c, rfl, ng, hb5, wk, hbl⟩
        have NG5 := Lib.hid ng
        have W5 := Lib.hid wk
        have Y5 := Lib.hid hb5
        clear hb5 wk hbl WK ng
        go_wp2_with fail
        refine (wk_size _ W5.out N HN.out).mono ?_
        rintro e w6 ⟨rfl, rfl⟩
        go_wp2_with fail
        refine (wk_size _ W5.out N HN.out).mono ?_
        rintro e w6 ⟨rfl, rfl⟩
        go_wp2_with fail
        have i0 : ∀ m W, (Instr.index 45 (.agg #[.int .i64 addr, .int .i64 m]) (.int .i64 0)).run Try.prog W = .ok (.int .i64 addr) W := fun _ _ => by kernel_rfl
        have i1 : ∀ m W, (Instr.index 45 (.agg #[.int .i64 addr, .int .i64 m]) (.int .i64 1)).run Try.prog W = .ok (.int .i64 m) W := fun _ _ => by kernel_rfl
        go_loopw [14, 66] (fun u v wr => ∃ k : Nat, k ≤ 2 ∧ v = .int .i64 k ∧ ∃ bs g c, u = .slice (some ⟨g, 0, none⟩) N c ∧ g ≠ F.gb ∧ bs.length = N ∧ Byt wr (some ⟨g, 0, none⟩) N bs ∧ Wk 66 a0.heap.size a0 wr F bs ks) (fun _ x _ => 2 - (intOf x).toNat)
        case atStart => exact ⟨0, by omega, rfl, _, _, _, rfl, NG5.out, HN.out, Y5.out, W5.out⟩
        case round =>
          obtain ⟨k, hk2, rfl, bs, g, c, rfl, ng, hN, hy, wk⟩ := hrel
          have HN := Lib.hid hN
          have WK := Lib.hid wk
          have YK := Lib.hid hy
          have NG := Lib.hid ng
          clear hN hy wk W5 Y5 ng
          rcases (show k = 0 ∨ k = 1 ∨ k = 2 by omega) with rfl | rfl | rfl
          · go_wp2_with fail
            refine (wk_putT wr WK.out _ kk A 5000 cap zs (HYS.out.keep WK.out.bl) (by omega)).mono ?_
            rintro e w6 ⟨cd, bs', rfl, wk6, hg, hlen, hsame, hdiff⟩
            have HN' := Lib.hid (hlen.trans HN.out)
            have W6 := Lib.hid wk6
            have Y6 := Lib.hid (YK.out.grown (A := none) hg NG.out)
            have HS := Lib.hid hsame
            have HD := Lib.hid hdiff
            clear hlen wk6 hg hsame hdiff WK YK
            go_wp2_with fail
            refine (wk_size _ W6.out N HN'.out).mono ?_
            rintro e w7 ⟨rfl, rfl⟩
            go_wp2_with fail
            refine (wk_allT _ W6.out N HN'.out (by omega)).mono ?_
            rintro e w8 ⟨g', c', rfl, ng, hb8, wk8, hbl⟩
            have W7 := Lib.hid wk8
            have Y7 := Lib.hid hb8
            have Y6' := Lib.hid (Y6.out.keep hbl)
            have NG' := Lib.hid ng
            clear ng hb8 wk8 hbl W6 Y6
            by_cases hcd : cd = 0
            · subst hcd
              go_wp2_with fail
              go_loopw [19] (fun x wr => ∃ i : Nat, i ≤ N ∧ x = .int .i64 i ∧ Byt wr (some ⟨g', 0, none⟩) N bs' ∧ Byt wr (some ⟨g, 0, none⟩) N bs ∧ Wk 66 a0.heap.size a0 wr F bs' ks) (fun x _ => N - (intOf x).toNat)
              case atStart => exact ⟨0, by omega, rfl, Y7.out, Y6'.out, W7.out⟩
              case round =>
                obtain ⟨i, hi, rfl, y8, y9, w8'⟩ := hrel
                have Y8 := Lib.hid y8
                have Y9 := Lib.hid y9
                have W8 := Lib.hid w8'
                clear y8 y9 w8' Y7 Y6' W7
                by_cases hin : i < N
                · have hI : (i : Int) < (N : Int) := by omega
                  have c1 := Y8.out.cellAt hin
                  have c2 := Y9.out.cellAt hin
                  simp only [Nat.zero_add] at c1 c2
                  obtain ⟨x, hx⟩ : ∃ x, bs'.getD i 0 = x := ⟨_, rfl⟩
                  obtain ⟨y, hy'⟩ : ∃ y, bs.getD i 0 = y := ⟨_, rfl⟩
                  rw [hx] at c1
                  rw [hy'] at c2
                  by_cases hxy : x = y
                  · subst hxy
                    have t0 : (x != x) = false := by simp
                    clear hx hy'
                    go_wp2_with fail
                    go_quiet (fail)
                    go_wp2_with fail
                    exact ⟨⟨i + 1, by omega, rfl, Y8.out.drewN _, Y9.out.drewN _, W8.out.drewN _⟩, by simp [intOf]; omega⟩
                  · have t0 : (x != y) = true := by simpa using hxy
                    have hkj := alP_keyD (HD.out i (by rw [hx, hy']; exact hxy)) kk2 HQ.out (show i / 2048 < q by have := HNQ.out; omega) (by have := HNQ.out; omega) KD.out
                    clear hx hy'
                    rcases (show i / 2048 = 0 ∨ i / 2048 = 1 ∨ i / 2048 = 2 ∨ i / 2048 = 3 by have := HNQ.out; omega) with hj | hj | hj | hj
                    · have c3 := W8.out.cell (p := ⟨w.heap.size, 0, none⟩) HX HC.out.1
                      have hdv : (i : Int) / 2048 = 0 := by omega
                      have hkk : k0 % 32 / 2 = kk := by rw [hj] at hkj; exact hkj
                      have e5 : (k0 % 32 / 2 != kk) = false := by rw [bne_eq_false_iff_eq]; exact hkk
                      clear hkj hkk hj
                      go_wp2_with fail
                      go_quiet (fail)
                      go_wp2_with fail
                      exact ⟨⟨i + 1, by omega, rfl, Y8.out.drewN _, Y9.out.drewN _, W8.out.drewN _⟩, by simp [intOf]; omega⟩
                    · have c3 := W8.out.cell (p := ⟨w.heap.size, 1, none⟩) HX HC.out.2.1
                      have hdv : (i : Int) / 2048 = 1 := by omega
                      have hkk : k1 % 32 / 2 = kk := by rw [hj] at hkj; exact hkj
                      have e5 : (k1 % 32 / 2 != kk) = false := by rw [bne_eq_false_iff_eq]; exact hkk
                      clear hkj hkk hj
                      go_wp2_with fail
                      go_quiet (fail)
                      go_wp2_with fail
                      exact ⟨⟨i + 1, by omega, rfl, Y8.out.drewN _, Y9.out.drewN _, W8.out.drewN _⟩, by simp [intOf]; omega⟩
                    · have c3 := W8.out.cell (p := ⟨w.heap.size, 2, none⟩) HX HC.out.2.2.1
                      have hdv : (i : Int) / 2048 = 2 := by omega
                      have hkk : k2 % 32 / 2 = kk := by rw [hj] at hkj; exact hkj
                      have e5 : (k2 % 32 / 2 != kk) = false := by rw [bne_eq_false_iff_eq]; exact hkk
                      clear hkj hkk hj
                      go_wp2_with fail
                      go_quiet (fail)
                      go_wp2_with fail
                      exact ⟨⟨i + 1, by omega, rfl, Y8.out.drewN _, Y9.out.drewN _, W8.out.drewN _⟩, by simp [intOf]; omega⟩
                    · have c3 := W8.out.cell (p := ⟨w.heap.size, 3, none⟩) HX HC.out.2.2.2
                      have hdv : (i : Int) / 2048 = 3 := by omega
                      have hkk : k3 % 32 / 2 = kk := by rw [hj] at hkj; exact hkj
                      have e5 : (k3 % 32 / 2 != kk) = false := by rw [bne_eq_false_iff_eq]; exact hkk
                      clear hkj hkk hj
                      go_wp2_with fail
                      go_quiet (fail)
                      go_wp2_with fail
                      exact ⟨⟨i + 1, by omega, rfl, Y8.out.drewN _, Y9.out.drewN _, W8.out.drewN _⟩, by simp [intOf]; omega⟩
                · have hI : ¬ ((i : Int) < (N : Int)) := by omega
                  clear hin hi hk2
                  set_option maxRecDepth 4000 in
                  go_wp2_with fail
                  exact ⟨⟨0 + 1, by omega, rfl, _, _, _, rfl, NG'.out, HN'.out, Y8.out, W8.out⟩, by decide⟩
            · have k1 := conv_byt Y7.out c'
              have k2 := conv_byt Y6'.out c
              rw [HS.out hcd] at k1
              have e1 : (cd != 0) = true := by simpa using hcd
              go_wp2_with fail
              clear k1 k2 e1
              go_loopw [19] (fun x wr => ∃ i : Nat, i ≤ N ∧ x = .int .i64 i ∧ Byt wr (some ⟨g', 0, none⟩) N bs' ∧ Byt wr (some ⟨g, 0, none⟩) N bs ∧ Wk 66 a0.heap.size a0 wr F bs' ks) (fun x _ => N - (intOf x).toNat)
              case atStart => exact ⟨0, by omega, rfl, Y7.out, Y6'.out, W7.out⟩
              case round =>
                obtain ⟨i, hi, rfl, y8, y9, w8'⟩ := hrel
                have Y8 := Lib.hid y8
                have Y9 := Lib.hid y9
                have W8 := Lib.hid w8'
                clear y8 y9 w8' Y7 Y6' W7
                by_cases hin : i < N
                · have hI : (i : Int) < (N : Int) := by omega
                  have c1 := Y8.out.cellAt hin
                  have c2 := Y9.out.cellAt hin
                  simp only [Nat.zero_add] at c1 c2
                  obtain ⟨x, hx⟩ : ∃ x, bs'.getD i 0 = x := ⟨_, rfl⟩
                  obtain ⟨y, hy'⟩ : ∃ y, bs.getD i 0 = y := ⟨_, rfl⟩
                  rw [hx] at c1
                  rw [hy'] at c2
                  by_cases hxy : x = y
                  · subst hxy
                    have t0 : (x != x) = false := by simp
                    clear hx hy'
                    go_wp2_with fail
                    go_quiet (fail)
                    go_wp2_with fail
                    exact ⟨⟨i + 1, by omega, rfl, Y8.out.drewN _, Y9.out.drewN _, W8.out.drewN _⟩, by simp [intOf]; omega⟩
                  · have t0 : (x != y) = true := by simpa using hxy
                    have hkj := alP_keyD (HD.out i (by rw [hx, hy']; exact hxy)) kk2 HQ.out (show i / 2048 < q by have := HNQ.out; omega) (by have := HNQ.out; omega) KD.out
                    clear hx hy'
                    rcases (show i / 2048 = 0 ∨ i / 2048 = 1 ∨ i / 2048 = 2 ∨ i / 2048 = 3 by have := HNQ.out; omega) with hj | hj | hj | hj
                    · have c3 := W8.out.cell (p := ⟨w.heap.size, 0, none⟩) HX HC.out.1
                      have hdv : (i : Int) / 2048 = 0 := by omega
                      have hkk : k0 % 32 / 2 = kk := by rw [hj] at hkj; exact hkj
                      have e5 : (k0 % 32 / 2 != kk) = false := by rw [bne_eq_false_iff_eq]; exact hkk
                      clear hkj hkk hj
                      go_wp2_with fail
                      go_quiet (fail)
                      go_wp2_with fail
                      exact ⟨⟨i + 1, by omega, rfl, Y8.out.drewN _, Y9.out.drewN _, W8.out.drewN _⟩, by simp [intOf]; omega⟩
                    · have c3 := W8.out.cell (p := ⟨w.heap.size, 1, none⟩) HX HC.out.2.1
                      have hdv : (i : Int) / 2048 = 1 := by omega
                      have hkk : k1 % 32 / 2 = kk := by rw [hj] at hkj; exact hkj
                      have e5 : (k1 % 32 / 2 != kk) = false := by rw [bne_eq_false_iff_eq]; exact hkk
                      clear hkj hkk hj
                      go_wp2_with fail
                      go_quiet (fail)
                      go_wp2_with fail
                      exact ⟨⟨i + 1, by omega, rfl, Y8.out.drewN _, Y9.out.drewN _, W8.out.drewN _⟩, by simp [intOf]; omega⟩
                    · have c3 := W8.out.cell (p := ⟨w.heap.size, 2, none⟩) HX HC.out.2.2.1
                      have hdv : (i : Int) / 2048 = 2 := by omega
                      have hkk : k2 % 32 / 2 = kk := by rw [hj] at hkj; exact hkj
                      have e5 : (k2 % 32 / 2 != kk) = false := by rw [bne_eq_false_iff_eq]; exact hkk
                      clear hkj hkk hj
                      go_wp2_with fail
                      go_quiet (fail)
                      go_wp2_with fail
                      exact ⟨⟨i + 1, by omega, rfl, Y8.out.drewN _, Y9.out.drewN _, W8.out.drewN _⟩, by simp [intOf]; omega⟩
                    · have c3 := W8.out.cell (p := ⟨w.heap.size, 3, none⟩) HX HC.out.2.2.2
                      have hdv : (i : Int) / 2048 = 3 := by omega
                      have hkk : k3 % 32 / 2 = kk := by rw [hj] at hkj; exact hkj
                      have e5 : (k3 % 32 / 2 != kk) = false := by rw [bne_eq_false_iff_eq]; exact hkk
                      clear hkj hkk hj
                      go_wp2_with fail
                      go_quiet (fail)
                      go_wp2_with fail
                      exact ⟨⟨i + 1, by omega, rfl, Y8.out.drewN _, Y9.out.drewN _, W8.out.drewN _⟩, by simp [intOf]; omega⟩
                · have hI : ¬ ((i : Int) < (N : Int)) := by omega
                  clear hin hi hk2
                  set_option maxRecDepth 4000 in
                  go_wp2_with fail
                  exact ⟨⟨0 + 1, by omega, rfl, _, _, _, rfl, NG'.out, HN'.out, Y8.out, W8.out⟩, by decide⟩
          · go_wp2_with fail
            refine (wk_putT wr WK.out _ kk A 5000 cap zs (HYS.out.keep WK.out.bl) (by omega)).mono ?_
            rintro e w6 ⟨cd, bs', rfl, wk6, hg, hlen, hsame, hdiff⟩
            have HN' := Lib.hid (hlen.trans HN.out)
            have W6 := Lib.hid wk6
            have Y6 := Lib.hid (YK.out.grown (A := none) hg NG.out)
            have HS := Lib.hid hsame
            have HD := Lib.hid hdiff
            clear hlen wk6 hg hsame hdiff WK YK
            go_wp2_with fail
            refine (wk_size _ W6.out N HN'.out).mono ?_
            rintro e w7 ⟨rfl, rfl⟩
            go_wp2_with fail
            refine (wk_allT _ W6.out N HN'.out (by omega)).mono ?_
            rintro e w8 ⟨g', c', rfl, ng, hb8, wk8, hbl⟩
            have W7 := Lib.hid wk8
            have Y7 := Lib.hid hb8
            have Y6' := Lib.hid (Y6.out.keep hbl)
            have NG' := Lib.hid ng
            clear ng hb8 wk8 hbl W6 Y6
            by_cases hcd : cd = 0
            · subst hcd
              go_wp2_with fail
              go_loopw [19] (fun x wr => ∃ i : Nat, i ≤ N ∧ x = .int .i64 i ∧ Byt wr (some ⟨g', 0, none⟩) N bs' ∧ Byt wr (some ⟨g, 0, none⟩) N bs ∧ Wk 66 a0.heap.size a0 wr F bs' ks) (fun x _ => N - (intOf x).toNat)
              case atStart => exact ⟨0, by omega, rfl, Y7.out, Y6'.out, W7.out⟩
              case round =>
                obtain ⟨i, hi, rfl, y8, y9, w8'⟩ := hrel
                have Y8 := Lib.hid y8
                have Y9 := Lib.hid y9
                have W8 := Lib.hid w8'
                clear y8 y9 w8' Y7 Y6' W7
                by_cases hin : i < N
                · have hI : (i : Int) < (N : Int) := by omega
                  have c1 := Y8.out.cellAt hin
                  have c2 := Y9.out.cellAt hin
                  simp only [Nat.zero_add] at c1 c2
                  obtain ⟨x, hx⟩ : ∃ x, bs'.getD i 0 = x := ⟨_, rfl⟩
                  obtain ⟨y, hy'⟩ : ∃ y, bs.getD i 0 = y := ⟨_, rfl⟩
                  rw [hx] at c1
                  rw [hy'] at c2
                  by_cases hxy : x = y
                  · subst hxy
                    have t0 : (x != x) = false := by simp
                    clear hx hy'
                    go_wp2_with fail
                    go_quiet (fail)
                    go_wp2_with fail
                    exact ⟨⟨i + 1, by omega, rfl, Y8.out.drewN _, Y9.out.drewN _, W8.out.drewN _⟩, by simp [intOf]; omega⟩
                  · have t0 : (x != y) = true := by simpa using hxy
                    have hkj := alP_keyD (HD.out i (by rw [hx, hy']; exact hxy)) kk2 HQ.out (show i / 2048 < q by have := HNQ.out; omega) (by have := HNQ.out; omega) KD.out
                    clear hx hy'
                    rcases (show i / 2048 = 0 ∨ i / 2048 = 1 ∨ i / 2048 = 2 ∨ i / 2048 = 3 by have := HNQ.out; omega) with hj | hj | hj | hj
                    · have c3 := W8.out.cell (p := ⟨w.heap.size, 0, none⟩) HX HC.out.1
                      have hdv : (i : Int) / 2048 = 0 := by omega
                      have hkk : k0 % 32 / 2 = kk := by rw [hj] at hkj; exact hkj
                      have e5 : (k0 % 32 / 2 != kk) = false := by rw [bne_eq_false_iff_eq]; exact hkk
                      clear hkj hkk hj
                      go_wp2_with fail
                      go_quiet (fail)
                      go_wp2_with fail
                      exact ⟨⟨i + 1, by omega, rfl, Y8.out.drewN _, Y9.out.drewN _, W8.out.drewN _⟩, by simp [intOf]; omega⟩
                    · have c3 := W8.out.cell (p := ⟨w.heap.size, 1, none⟩) HX HC.out.2.1
                      have hdv : (i : Int) / 2048 = 1 := by omega
                      have hkk : k1 % 32 / 2 = kk := by rw [hj] at hkj; exact hkj
                      have e5 : (k1 % 32 / 2 != kk) = false := by rw [bne_eq_false_iff_eq]; exact hkk
                      clear hkj hkk hj
                      go_wp2_with fail
                      go_quiet (fail)
                      go_wp2_with fail
                      exact ⟨⟨i + 1, by omega, rfl, Y8.out.drewN _, Y9.out.drewN _, W8.out.drewN _⟩, by simp [intOf]; omega⟩
                    · have c3 := W8.out.cell (p := ⟨w.heap.size, 2, none⟩) HX HC.out.2.2.1
                      have hdv : (i : Int) / 2048 = 2 := by omega
                      have hkk : k2 % 32 / 2 = kk := by rw [hj] at hkj; exact hkj
                      have e5 : (k2 % 32 / 2 != kk) = false := by rw [bne_eq_false_iff_eq]; exact hkk
                      clear hkj hkk hj
                      go_wp2_with fail
                      go_quiet (fail)
                      go_wp2_with fail
                      exact ⟨⟨i + 1, by omega, rfl, Y8.out.drewN _, Y9.out.drewN _, W8.out.drewN _⟩, by simp [intOf]; omega⟩
                    · have c3 := W8.out.cell (p := ⟨w.heap.size, 3, none⟩) HX HC.out.2.2.2
                      have hdv : (i : Int) / 2048 = 3 := by omega
                      have hkk : k3 % 32 / 2 = kk := by rw [hj] at hkj; exact hkj
                      have e5 : (k3 % 32 / 2 != kk) = false := by rw [bne_eq_false_iff_eq]; exact hkk
                      clear hkj hkk hj
                      go_wp2_with fail
                      go_quiet (fail)
                      go_wp2_with fail
                      exact ⟨⟨i + 1, by omega, rfl, Y8.out.drewN _, Y9.out.drewN _, W8.out.drewN _⟩, by simp [intOf]; omega⟩
                · have hI : ¬ ((i : Int) < (N : Int)) := by omega
                  clear hin hi hk2
                  set_option maxRecDepth 4000 in
                  go_wp2_with fail
                  exact ⟨⟨1 + 1, by omega, rfl, _, _, _, rfl, NG'.out, HN'.out, Y8.out, W8.out⟩, by decide⟩
            · have k1 := conv_byt Y7.out c'
              have k2 := conv_byt Y6'.out c
              rw [HS.out hcd] at k1
              have e1 : (cd != 0) = true := by simpa using hcd
              go_wp2_with fail
              clear k1 k2 e1
              go_loopw [19] (fun x wr => ∃ i : Nat, i ≤ N ∧ x = .int .i64 i ∧ Byt wr (some ⟨g', 0, none⟩) N bs' ∧ Byt wr (some ⟨g, 0, none⟩) N bs ∧ Wk 66 a0.heap.size a0 wr F bs' ks) (fun x _ => N - (intOf x).toNat)
              case atStart => exact ⟨0, by omega, rfl, Y7.out, Y6'.out, W7.out⟩
              case round =>
                obtain ⟨i, hi, rfl, y8, y9, w8'⟩ := hrel
                have Y8 := Lib.hid y8
                have Y9 := Lib.hid y9
                have W8 := Lib.hid w8'
                clear y8 y9 w8' Y7 Y6' W7
                by_cases hin : i < N
                · have hI : (i : Int) < (N : Int) := by omega
                  have c1 := Y8.out.cellAt hin
                  have c2 := Y9.out.cellAt hin
                  simp only [Nat.zero_add] at c1 c2
                  obtain ⟨x, hx⟩ : ∃ x, bs'.getD i 0 = x := ⟨_, rfl⟩
                  obtain ⟨y, hy'⟩ : ∃ y, bs.getD i 0 = y := ⟨_, rfl⟩
                  rw [hx] at c1
                  rw [hy'] at c2
                  by_cases hxy : x = y
                  · subst hxy
                    have t0 : (x != x) = false := by simp
                    clear hx hy'
                    go_wp2_with fail
                    go_quiet (fail)
                    go_wp2_with fail
                    exact ⟨⟨i + 1, by omega, rfl, Y8.out.drewN _, Y9.out.drewN _, W8.out.drewN _⟩, by simp [intOf]; omega⟩
                  · have t0 : (x != y) = true := by simpa using hxy
                    have hkj := alP_keyD (HD.out i (by rw [hx, hy']; exact hxy)) kk2 HQ.out (show i / 2048 < q by have := HNQ.out; omega) (by have := HNQ.out; omega) KD.out
                    clear hx hy'
                    rcases (show i / 2048 = 0 ∨ i / 2048 = 1 ∨ i / 2048 = 2 ∨ i / 2048 = 3 by have := HNQ.out; omega) with hj | hj | hj | hj
                    · have c3 := W8.out.cell (p := ⟨w.heap.size, 0, none⟩) HX HC.out.1
                      have hdv : (i : Int) / 2048 = 0 := by omega
                      have hkk : k0 % 32 / 2 = kk := by rw [hj] at hkj; exact hkj
                      have e5 : (k0 % 32 / 2 != kk) = false := by rw [bne_eq_false_iff_eq]; exact hkk
                      clear hkj hkk hj
                      go_wp2_with fail
                      go_quiet (fail)
                      go_wp2_with fail
                      exact ⟨⟨i + 1, by omega, rfl, Y8.out.drewN _, Y9.out.drewN _, W8.out.drewN _⟩, by simp [intOf]; omega⟩
                    · have c3 := W8.out.cell (p := ⟨w.heap.size, 1, none⟩) HX HC.out.2.1
                      have hdv : (i : Int) / 2048 = 1 := by omega
                      have hkk : k1 % 32 / 2 = kk := by rw [hj] at hkj; exact hkj
                      have e5 : (k1 % 32 / 2 != kk) = false := by rw [bne_eq_false_iff_eq]; exact hkk
                      clear hkj hkk hj
                      go_wp2_with fail
                      go_quiet (fail)
                      go_wp2_with fail
                      exact ⟨⟨i + 1, by omega, rfl, Y8.out.drewN _, Y9.out.drewN _, W8.out.drewN _⟩, by simp [intOf]; omega⟩
                    · have c3 := W8.out.cell (p := ⟨w.heap.size, 2, none⟩) HX HC.out.2.2.1
                      have hdv : (i : Int) / 2048 = 2 := by omega
                      have hkk : k2 % 32 / 2 = kk := by rw [hj] at hkj; exact hkj
                      have e5 : (k2 % 32 / 2 != kk) = false := by rw [bne_eq_false_iff_eq]; exact hkk
                      clear hkj hkk hj
                      go_wp2_with fail
                      go_quiet (fail)
                      go_wp2_with fail
                      exact ⟨⟨i + 1, by omega, rfl, Y8.out.drewN _, Y9.out.drewN _, W8.out.drewN _⟩, by simp [intOf]; omega⟩
                    · have c3 := W8.out.cell (p := ⟨w.heap.size, 3, none⟩) HX HC.out.2.2.2
                      have hdv : (i : Int) / 2048 = 3 := by omega
                      have hkk : k3 % 32 / 2 = kk := by rw [hj] at hkj; exact hkj
                      have e5 : (k3 % 32 / 2 != kk) = false := by rw [bne_eq_false_iff_eq]; exact hkk
                      clear hkj hkk hj
                      go_wp2_with fail
                      go_quiet (fail)
                      go_wp2_with fail
                      exact ⟨⟨i + 1, by omega, rfl, Y8.out.drewN _, Y9.out.drewN _, W8.out.drewN _⟩, by simp [intOf]; omega⟩
                · have hI : ¬ ((i : Int) < (N : Int)) := by omega
                  clear hin hi hk2
                  set_option maxRecDepth 4000 in
                  go_wp2_with fail
                  exact ⟨⟨1 + 1, by omega, rfl, _, _, _, rfl, NG'.out, HN'.out, Y8.out, W8.out⟩, by decide⟩
          · go_wp2_with fail
            go_ret
            exact ⟨rfl, A0.out.trans (WK.out.bl.mono A0.out.size)⟩
  · have HYS := HY
    have hLc : (len : Int) ≤ 9223372036854775807 := by omega
    go_wp2_with fail
    go_loopw [12] (fun x wr => ∃ k : Nat, k ≤ 4 ∧ x = .int .i64 k ∧ ∃ ks, Wk 66 a0.heap.size a0 wr F bs ks ∧ ks.length = q ∧ KeyD ks [k0, k1, k2, k3] k) (fun x _ => 4 - (intOf x).toNat)
    case atStart => exact ⟨0, by omega, rfl, _, WK0.out, HQ.out, KeyD.zero _ _⟩
    case round =>
      obtain ⟨k, hk4, rfl, ks, wk, hq, kd⟩ := hrel
      have WK := Lib.hid wk
      have KD := Lib.hid kd
      clear wk kd WK0 HQ
      rcases (show k = 0 ∨ k = 1 ∨ k = 2 ∨ k = 3 ∨ k = 4 by omega) with rfl | rfl | rfl | rfl | rfl
      · have c0 := WK.out.cell (p := ⟨w.heap.size, 0, none⟩) HX HC.out.1
        go_wp2_with fail
        refine (wk_set _ WK.out 0 (k0 % 32) _ rfl).mono ?_
        rintro e w4 ⟨rfl, hs, hg⟩
        have KD2 := Lib.hid (KeyD.stepT (k := 0) (addr := 0) (v := k0 % 32) (by decide) (by rfl) (N := bs.length) WK.out.lt (by simpa using k00) KD.out)
        have WK2 := Lib.hid hs
        clear hs hg c0
        go_wp2_with fail
        exact ⟨⟨0 + 1, by omega, rfl, _, WK2.out, KD2.out.2.trans hq, KD2.out.1⟩, by decide⟩
      · have c0 := WK.out.cell (p := ⟨w.heap.size, 1, none⟩) HX HC.out.2.1
        go_wp2_with fail
        refine (wk_set _ WK.out 2048 (k1 % 32) _ rfl).mono ?_
        rintro e w4 ⟨rfl, hs, hg⟩
        have KD2 := Lib.hid (KeyD.stepT (k := 1) (addr := 2048) (v := k1 % 32) (by decide) (by rfl) (N := bs.length) WK.out.lt (by simpa using k10) KD.out)
        have WK2 := Lib.hid hs
        clear hs hg c0
        go_wp2_with fail
        exact ⟨⟨1 + 1, by omega, rfl, _, WK2.out, KD2.out.2.trans hq, KD2.out.1⟩, by decide⟩
      · have c0 := WK.out.cell (p := ⟨w.heap.size, 2, none⟩) HX HC.out.2.2.1
        go_wp2_with fail
        refine (wk_set _ WK.out 4096 (k2 % 32) _ rfl).mono ?_
        rintro e w4 ⟨rfl, hs, hg⟩
        have KD2 := Lib.hid (KeyD.stepT (k := 2) (addr := 4096) (v := k2 % 32) (by decide) (by rfl) (N := bs.length) WK.out.lt (by simpa using k20) KD.out)
        have WK2 := Lib.hid hs
        clear hs hg c0
        go_wp2_with fail
        exact ⟨⟨2 + 1, by omega, rfl, _, WK2.out, KD2.out.2.trans hq, KD2.out.1⟩, by decide⟩
      · have c0 := WK.out.cell (p := ⟨w.heap.size, 3, none⟩) HX HC.out.2.2.2
        go_wp2_with fail
        refine (wk_set _ WK.out 6144 (k3 % 32) _ rfl).mono ?_
        rintro e w4 ⟨rfl, hs, hg⟩
        have KD2 := Lib.hid (KeyD.stepT (k := 3) (addr := 6144) (v := k3 % 32) (by decide) (by rfl) (N := bs.length) WK.out.lt (by simpa using k30) KD.out)
        have WK2 := Lib.hid hs
        clear hs hg c0
        go_wp2_with fail
        exact ⟨⟨3 + 1, by omega, rfl, _, WK2.out, KD2.out.2.trans hq, KD2.out.1⟩, by decide⟩
      · obtain ⟨N, hN⟩ : ∃ N, bs.length = N := ⟨_, rfl⟩
        have HN := Lib.hid hN
        have hNq : N = 2048 * q := by rw [← hN, WK.out.lt, hq]
        have hN0 : 2048 ≤ N := by omega
        have hN1 : N ≤ 8192 := by omega
        have HQ := Lib.hid hq
        have HNQ := Lib.hid hNq
        clear hN hq hNq
        go_wp2_with fail
        obtain ⟨kk, hkk⟩ : ∃ k, 1 + key % 15 = k := ⟨_, rfl⟩
        rw [hkk]
        have kk2 : 1 ≤ kk := by omega
        have kk3 : kk ≤ 15 := by omega
        clear hkk
        refine (wk_size _ WK.out N HN.out).mono ?_
        rintro e w4 ⟨rfl, rfl⟩
        go_wp2_with fail
        refine (wk_allT _ WK.out N HN.out (by omega)).mono ?_
        rintro e w5 ⟨g, c, rfl, ng, hb5, wk, hbl⟩
        have NG5 := Lib.hid ng
        have W5 := Lib.hid wk
        have Y5 := Lib.hid hb5
        clear hb5 wk hbl WK ng
        go_wp2_with fail
        refine (wk_size _ W5.out N HN.out).mono ?_
        rintro e w6 ⟨rfl, rfl⟩
        go_wp2_with fail
        refine (wk_size _ W5.out N HN.out).mono ?_
        rintro e w6 ⟨rfl, rfl⟩
        go_wp2_with fail
        have i0 : ∀ m W, (Instr.index 45 (.agg #[.int .i64 addr, .int .i64 m]) (.int .i64 0)).run Try.prog W = .ok (.int .i64 addr) W := fun _ _ => by kernel_rfl
        have i1 : ∀ m W, (Instr.index 45 (.agg #[.int .i64 addr, .int .i64 m]) (.int .i64 1)).run Try.prog W = .ok (.int .i64 m) W := fun _ _ => by kernel_rfl
        go_loopw [14, 66] (fun u v wr => ∃ k : Nat, k ≤ 2 ∧ v = .int .i64 k ∧ ∃ bs g c, u = .slice (some ⟨g, 0, none⟩) N c ∧ g ≠ F.gb ∧ bs.length = N ∧ Byt wr (some ⟨g, 0, none⟩) N bs ∧ Wk 66 a0.heap.size a0 wr F bs ks) (fun _ x _ => 2 - (intOf x).toNat)
        case atStart => exact ⟨0, by omega, rfl, _, _, _, rfl, NG5.out, HN.out, Y5.out, W5.out⟩
        case round =>
          obtain ⟨k, hk2, rfl, bs, g, c, rfl, ng, hN, hy, wk⟩ := hrel
          have HN := Lib.hid hN
          have WK := Lib.hid wk
          have YK := Lib.hid hy
          have NG := Lib.hid ng
          clear hN hy wk W5 Y5 ng
          rcases (show k = 0 ∨ k = 1 ∨ k = 2 by omega) with rfl | rfl | rfl
          · go_wp2_with fail
            refine (wk_putT wr WK.out _ kk A len cap ys (HYS.out.keep WK.out.bl) (by omega)).mono ?_
            rintro e w6 ⟨cd, bs', rfl, wk6, hg, hlen, hsame, hdiff⟩
            have HN' := Lib.hid (hlen.trans HN.out)
            have W6 := Lib.hid wk6
            have Y6 := Lib.hid (YK.out.grown (A := none) hg NG.out)
            have HS := Lib.hid hsame
            have HD := Lib.hid hdiff
            clear hlen wk6 hg hsame hdiff WK YK
            go_wp2_with fail
            refine (wk_size _ W6.out N HN'.out).mono ?_
            rintro e w7 ⟨rfl, rfl⟩
            go_wp2_with fail
            refine (wk_allT _ W6.out N HN'.out (by omega)).mono ?_
            rintro e w8 ⟨g', c', rfl, ng, hb8, wk8, hbl⟩
            have W7 := Lib.hid wk8
            have Y7 := Lib.hid hb8
            have Y6' := Lib.hid (Y6.out.keep hbl)
            have NG' := Lib.hid ng
            clear ng hb8 wk8 hbl W6 Y6
            by_cases hcd : cd = 0
            · subst hcd
              go_wp2_with fail
              go_loopw [19] (fun x wr => ∃ i : Nat, i ≤ N ∧ x = .int .i64 i ∧ Byt wr (some ⟨g', 0, none⟩) N bs' ∧ Byt wr (some ⟨g, 0, none⟩) N bs ∧ Wk 66 a0.heap.size a0 wr F bs' ks) (fun x _ => N - (intOf x).toNat)
              case atStart => exact ⟨0, by omega, rfl, Y7.out, Y6'.out, W7.out⟩
              case round =>
                obtain ⟨i, hi, rfl, y8, y9, w8'⟩ := hrel
                have Y8 := Lib.hid y8
                have Y9 := Lib.hid y9
                have W8 := Lib.hid w8'
                clear y8 y9 w8' Y7 Y6' W7
                by_cases hin : i < N
                · have hI : (i : Int) < (N : Int) := by omega
                  have c1 := Y8.out.cellAt hin
                  have c2 := Y9.out.cellAt hin
                  simp only [Nat.zero_add] at c1 c2
                  obtain ⟨x, hx⟩ : ∃ x, bs'.getD i 0 = x := ⟨_, rfl⟩
                  obtain ⟨y, hy'⟩ : ∃ y, bs.getD i 0 = y := ⟨_, rfl⟩
                  rw [hx] at c1
                  rw [hy'] at c2
                  by_cases hxy : x = y
                  · subst hxy
                    have t0 : (x != x) = false := by simp
                    clear hx hy'
                    go_wp2_with fail
                    go_quiet (fail)
                    go_wp2_with fail
                    exact ⟨⟨i + 1, by omega, rfl, Y8.out.drewN _, Y9.out.drewN _, W8.out.drewN _⟩, by simp [intOf]; omega⟩
                  · have t0 : (x != y) = true := by simpa using hxy
                    have hkj := alP_keyD (HD.out i (by rw [hx, hy']; exact hxy)) kk2 HQ.out (show i / 2048 < q by have := HNQ.out; omega) (by have := HNQ.out; omega) KD.out
                    clear hx hy'
                    rcases (show i / 2048 = 0 ∨ i / 2048 = 1 ∨ i / 2048 = 2 ∨ i / 2048 = 3 by have := HNQ.out; omega) with hj | hj | hj | hj
                    · have c3 := W8.out.cell (p := ⟨w.heap.size, 0, none⟩) HX HC.out.1
                      have hdv : (i : Int) / 2048 = 0 := by omega
                      have hkk : k0 % 32 / 2 = kk := by rw [hj] at hkj; exact hkj
                      have e5 : (k0 % 32 / 2 != kk) = false := by rw [bne_eq_false_iff_eq]; exact hkk
                      clear hkj hkk hj
                      go_wp2_with fail
                      go_quiet (fail)
                      go_wp2_with fail
                      exact ⟨⟨i + 1, by omega, rfl, Y8.out.drewN _, Y9.out.drewN _, W8.out.drewN _⟩, by simp [intOf]; omega⟩
                    · have c3 := W8.out.cell (p := ⟨w.heap.size, 1, none⟩) HX HC.out.2.1
                      have hdv : (i : Int) / 2048 = 1 := by omega
                      have hkk : k1 % 32 / 2 = kk := by rw [hj] at hkj; exact hkj
                      have e5 : (k1 % 32 / 2 != kk) = false := by rw [bne_eq_false_iff_eq]; exact hkk
                      clear hkj hkk hj
                      go_wp2_with fail
                      go_quiet (fail)
                      go_wp2_with fail
                      exact ⟨⟨i + 1, by omega, rfl, Y8.out.drewN _, Y9.out.drewN _, W8.out.drewN _⟩, by simp [intOf]; omega⟩
                    · have c3 := W8.out.cell (p := ⟨w.heap.size, 2, none⟩) HX HC.out.2.2.1
                      have hdv : (i : Int) / 2048 = 2 := by omega
                      have hkk : k2 % 32 / 2 = kk := by rw [hj] at hkj; exact hkj
                      have e5 : (k2 % 32 / 2 != kk) = false := by rw [bne_eq_false_iff_eq]; exact hkk
                      clear hkj hkk hj
                      go_wp2_with fail
                      go_quiet (fail)
                      go_wp2_with fail
                      exact ⟨⟨i + 1, by omega, rfl, Y8.out.drewN _, Y9.out.drewN _, W8.out.drewN _⟩, by simp [intOf]; omega⟩
                    · have c3 := W8.out.cell (p := ⟨w.heap.size, 3, none⟩) HX HC.out.2.2.2
                      have hdv : (i : Int) / 2048 = 3 := by omega
                      have hkk : k3 % 32 / 2 = kk := by rw [hj] at hkj; exact hkj
                      have e5 : (k3 % 32 / 2 != kk) = false := by rw [bne_eq_false_iff_eq]; exact hkk
                      clear hkj hkk hj
                      go_wp2_with fail
                      go_quiet (fail)
                      go_wp2_with fail
                      exact ⟨⟨i + 1, by omega, rfl, Y8.out.drewN _, Y9.out.drewN _, W8.out.drewN _⟩, by simp [intOf]; omega⟩
                · have hI : ¬ ((i : Int) < (N : Int)) := by omega
                  clear hin hi hk2
                  set_option maxRecDepth 4000 in
                  go_wp2_with fail
                  exact ⟨⟨0 + 1, by omega, rfl, _, _, _, rfl, NG'.out, HN'.out, Y8.out, W8.out⟩, by decide⟩
            · have k1 := conv_byt Y7.out c'
              have k2 := conv_byt Y6'.out c
              rw [HS.out hcd] at k1
              have e1 : (cd != 0) = true := by simpa using hcd
              go_wp2_with fail
              clear k1 k2 e1
              go_loopw [19] (fun x wr => ∃ i : Nat, i ≤ N ∧ x = .int .i64 i ∧ Byt wr (some ⟨g', 0, none⟩) N bs' ∧ Byt wr (some ⟨g, 0, none⟩) N bs ∧ Wk 66 a0.heap.size a0 wr F bs' ks) (fun x _ => N - (intOf x).toNat)
              case atStart => exact ⟨0, by omega, rfl, Y7.out, Y6'.out, W7.out⟩
              case round =>
                obtain ⟨i, hi, rfl, y8, y9, w8'⟩ := hrel
                have Y8 := Lib.hid y8
                have Y9 := Lib.hid y9
                have W8 := Lib.hid w8'
                clear y8 y9 w8' Y7 Y6' W7
                by_cases hin : i < N
                · have hI : (i : Int) < (N : Int) := by omega
                  have c1 := Y8.out.cellAt hin
                  have c2 := Y9.out.cellAt hin
                  simp only [Nat.zero_add] at c1 c2
                  obtain ⟨x, hx⟩ : ∃ x, bs'.getD i 0 = x := ⟨_, rfl⟩
                  obtain ⟨y, hy'⟩ : ∃ y, bs.getD i 0 = y := ⟨_, rfl⟩
                  rw [hx] at c1
                  rw [hy'] at c2
                  by_cases hxy : x = y
                  · subst hxy
                    have t0 : (x != x) = false := by simp
                    clear hx hy'
                    go_wp2_with fail
                    go_quiet (fail)
                    go_wp2_with fail
                    exact ⟨⟨i + 1, by omega, rfl, Y8.out.drewN _, Y9.out.drewN _, W8.out.drewN _⟩, by simp [intOf]; omega⟩
                  · have t0 : (x != y) = true := by simpa using hxy
                    have hkj := alP_keyD (HD.out i (by rw [hx, hy']; exact hxy)) kk2 HQ.out (show i / 2048 < q by have := HNQ.out; omega) (by have := HNQ.out; omega) KD.out
                    clear hx hy'
                    rcases (show i / 2048 = 0 ∨ i / 2048 = 1 ∨ i / 2048 = 2 ∨ i / 2048 = 3 by have := HNQ.out; omega) with hj | hj | hj | hj
                    · have c3 := W8.out.cell (p := ⟨w.heap.size, 0, none⟩) HX HC.out.1
                      have hdv : (i : Int) / 2048 = 0 := by omega
                      have hkk : k0 % 32 / 2 = kk := by rw [hj] at hkj; exact hkj
                      have e5 : (k0 % 32 / 2 != kk) = false := by rw [bne_eq_false_iff_eq]; exact hkk
                      clear hkj hkk hj
                      go_wp2_with fail
                      go_quiet (fail)
                      go_wp2_with fail
                      exact ⟨⟨i + 1, by omega, rfl, Y8.out.drewN _, Y9.out.drewN _, W8.out.drewN _⟩, by simp [intOf]; omega⟩
                    · have c3 := W8.out.cell (p := ⟨w.heap.size, 1, none⟩) HX HC.out.2.1
                      have hdv : (i : Int) / 2048 = 1 := by omega
                      have hkk : k1 % 32 / 2 = kk := by rw [hj] at hkj; exact hkj
                      have e5 : (k1 % 32 / 2 != kk) = false := by rw [bne_eq_false_iff_eq]; exact hkk
                      clear hkj hkk hj
                      go_wp2_with fail
                      go_quiet (fail)
                      go_wp2_with fail
                      exact ⟨⟨i + 1, by omega, rfl, Y8.out.drewN _, Y9.out.drewN _, W8.out.drewN _⟩, by simp [intOf]; omega⟩
                    · have c3 := W8.out.cell (p := ⟨w.heap.size, 2, none⟩) HX HC.out.2.2.1
                      have hdv : (i : Int) / 2048 = 2 := by omega
                      have hkk : k2 % 32 / 2 = kk := by rw [hj] at hkj; exact hkj
                      have e5 : (k2 % 32 / 2 != kk) = false := by rw [bne_eq_false_iff_eq]; exact hkk
                      clear hkj hkk hj
                      go_wp2_with fail
                      go_quiet (fail)
                      go_wp2_with fail
                      exact ⟨⟨i + 1, by omega, rfl, Y8.out.drewN _, Y9.out.drewN _, W8.out.drewN _⟩, by simp [intOf]; omega⟩
                    · have c3 := W8.out.cell (p := ⟨w.heap.size, 3, none⟩) HX HC.out.2.2.2
                      have hdv : (i : Int) / 2048 = 3 := by omega
                      have hkk : k3 % 32 / 2 = kk := by rw [hj] at hkj; exact hkj
                      have e5 : (k3 % 32 / 2 != kk) = false := by rw [bne_eq_false_iff_eq]; exact hkk
                      clear hkj hkk hj
                      go_wp2_with fail
                      go_quiet (fail)
                      go_wp2_with fail
                      exact ⟨⟨i + 1, by omega, rfl, Y8.out.drewN _, Y9.out.drewN _, W8.out.drewN _⟩, by simp [intOf]; omega⟩
                · have hI : ¬ ((i : Int) < (N : Int)) := by omega
                  clear hin hi hk2
                  set_option maxRecDepth 4000 in
                  go_wp2_with fail
                  exact ⟨⟨0 + 1, by omega, rfl, _, _, _, rfl, NG'.out, HN'.out, Y8.out, W8.out⟩, by decide⟩
          · go_wp2_with fail
            refine (wk_putT wr WK.out _ kk A len cap ys (HYS.out.keep WK.out.bl) (by omega)).mono ?_
            rintro e w6 ⟨cd, bs', rfl, wk6, hg, hlen, hsame, hdiff⟩
            have HN' := Lib.hid (hlen.trans HN.out)
            have W6 := Lib.hid wk6
            have Y6 := Lib.hid (YK.out.grown (A := none) hg NG.out)
            have HS := Lib.hid hsame
            have HD := Lib.hid hdiff
            clear hlen wk6 hg hsame hdiff WK YK
            go_wp2_with fail
            refine (wk_size _ W6.out N HN'.out).mono ?_
            rintro e w7 ⟨rfl, rfl⟩
            go_wp2_with fail
            refine (wk_allT _ W6.out N HN'.out (by omega)).mono ?_
            rintro e w8 ⟨g', c', rfl, ng, hb8, wk8, hbl⟩
            have W7 := Lib.hid wk8
            have Y7 := Lib.hid hb8
            have Y6' := Lib.hid (Y6.out.keep hbl)
            have NG' := Lib.hid ng
            clear ng hb8 wk8 hbl W6 Y6
            by_cases hcd : cd = 0
            · subst hcd
              go_wp2_with fail
              go_loopw [19] (fun x wr => ∃ i : Nat, i ≤ N ∧ x = .int .i64 i ∧ Byt wr (some ⟨g', 0, none⟩) N bs' ∧ Byt wr (some ⟨g, 0, none⟩) N bs ∧ Wk 66 a0.heap.size a0 wr F bs' ks) (fun x _ => N - (intOf x).toNat)
              case atStart => exact ⟨0, by omega, rfl, Y7.out, Y6'.out, W7.out⟩
              case round =>
                obtain ⟨i, hi, rfl, y8, y9, w8'⟩ := hrel
                have Y8 := Lib.hid y8
                have Y9 := Lib.hid y9
                have W8 := Lib.hid w8'
                clear y8 y9 w8' Y7 Y6' W7
                by_cases hin : i < N
                · have hI : (i : Int) < (N : Int) := by omega
                  have c1 := Y8.out.cellAt hin
                  have c2 := Y9.out.cellAt hin
                  simp only [Nat.zero_add] at c1 c2
                  obtain ⟨x, hx⟩ : ∃ x, bs'.getD i 0 = x := ⟨_, rfl⟩
                  obtain ⟨y, hy'⟩ : ∃ y, bs.getD i 0 = y := ⟨_, rfl⟩
                  rw [hx] at c1
                  rw [hy'] at c2
                  by_cases hxy : x = y
                  · subst hxy
                    have t0 : (x != x) = false := by simp
                    clear hx hy'
                    go_wp2_with fail
                    go_quiet (fail)
                    go_wp2_with fail
                    exact ⟨⟨i + 1, by omega, rfl, Y8.out.drewN _, Y9.out.drewN _, W8.out.drewN _⟩, by simp [intOf]; omega⟩
                  · have t0 : (x != y) = true := by simpa using hxy
                    have hkj := alP_keyD (HD.out i (by rw [hx, hy']; exact hxy)) kk2 HQ.out (show i / 2048 < q by have := HNQ.out; omega) (by have := HNQ.out; omega) KD.out
                    clear hx hy'
                    rcases (show i / 2048 = 0 ∨ i / 2048 = 1 ∨ i / 2048 = 2 ∨ i / 2048 = 3 by have := HNQ.out; omega) with hj | hj | hj | hj
                    · have c3 := W8.out.cell (p := ⟨w.heap.size, 0, none⟩) HX HC.out.1
                      have hdv : (i : Int) / 2048 = 0 := by omega
                      have hkk : k0 % 32 / 2 = kk := by rw [hj] at hkj; exact hkj
                      have e5 : (k0 % 32 / 2 != kk) = false := by rw [bne_eq_false_iff_eq]; exact hkk
                      clear hkj hkk hj
                      go_wp2_with fail
                      go_quiet (fail)
                      go_wp2_with fail
                      exact ⟨⟨i + 1, by omega, rfl, Y8.out.drewN _, Y9.out.drewN _, W8.out.drewN _⟩, by simp [intOf]; omega⟩
                    · have c3 := W8.out.cell (p := ⟨w.heap.size, 1, none⟩) HX HC.out.2.1
                      have hdv : (i : Int) / 2048 = 1 := by omega
                      have hkk : k1 % 32 / 2 = kk := by rw [hj] at hkj; exact hkj
                      have e5 : (k1 % 32 / 2 != kk) = false := by rw [bne_eq_false_iff_eq]; exact hkk
                      clear hkj hkk hj
                      go_wp2_with fail
                      go_quiet (fail)
                      go_wp2_with fail
                      exact ⟨⟨i + 1, by omega, rfl, Y8.out.drewN _, Y9.out.drewN _, W8.out.drewN _⟩, by simp [intOf]; omega⟩
                    · have c3 := W8.out.cell (p := ⟨w.heap.size, 2, none⟩) HX HC.out.2.2.1
                      have hdv : (i : Int) / 2048 = 2 := by omega
                      have hkk : k2 % 32 / 2 = kk := by rw [hj] at hkj; exact hkj
                      have e5 : (k2 % 32 / 2 != kk) = false := by rw [bne_eq_false_iff_eq]; exact hkk
                      clear hkj hkk hj
                      go_wp2_with fail
                      go_quiet (fail)
                      go_wp2_with fail
                      exact ⟨⟨i + 1, by omega, rfl, Y8.out.drewN _, Y9.out.drewN _, W8.out.drewN _⟩, by simp [intOf]; omega⟩
                    · have c3 := W8.out.cell (p := ⟨w.heap.size, 3, none⟩) HX HC.out.2.2.2
                      have hdv : (i : Int) / 2048 = 3 := by omega
                      have hkk : k3 % 32 / 2 = kk := by rw [hj] at hkj; exact hkj
                      have e5 : (k3 % 32 / 2 != kk) = false := by rw [bne_eq_false_iff_eq]; exact hkk
                      clear hkj hkk hj
                      go_wp2_with fail
                      go_quiet (fail)
                      go_wp2_with fail
                      exact ⟨⟨i + 1, by omega, rfl, Y8.out.drewN _, Y9.out.drewN _, W8.out.drewN _⟩, by simp [intOf]; omega⟩
                · have hI : ¬ ((i : Int) < (N : Int)) := by omega
                  clear hin hi hk2
                  set_option maxRecDepth 4000 in
                  go_wp2_with fail
                  exact ⟨⟨1 + 1, by omega, rfl, _, _, _, rfl, NG'.out, HN'.out, Y8.out, W8.out⟩, by decide⟩
            · have k1 := conv_byt Y7.out c'
              have k2 := conv_byt Y6'.out c
              rw [HS.out hcd] at k1
              have e1 : (cd != 0) = true := by simpa using hcd
              go_wp2_with fail
              clear k1 k2 e1
              go_loopw [19] (fun x wr => ∃ i : Nat, i ≤ N ∧ x = .int .i64 i ∧ Byt wr (some ⟨g', 0, none⟩) N bs' ∧ Byt wr (some ⟨g, 0, none⟩) N bs ∧ Wk 66 a0.heap.size a0 wr F bs' ks) (fun x _ => N - (intOf x).toNat)
              case atStart => exact ⟨0, by omega, rfl, Y7.out, Y6'.out, W7.out⟩
              case round =>
                obtain ⟨i, hi, rfl, y8, y9, w8'⟩ := hrel
                have Y8 := Lib.hid y8
                have Y9 := Lib.hid y9
                have W8 := Lib.hid w8'
                clear y8 y9 w8' Y7 Y6' W7
                by_cases hin : i < N
                · have hI : (i : Int) < (N : Int) := by omega
                  have c1 := Y8.out.cellAt hin
                  have c2 := Y9.out.cellAt hin
                  simp only [Nat.zero_add] at c1 c2
                  obtain ⟨x, hx⟩ : ∃ x, bs'.getD i 0 = x := ⟨_, rfl⟩
                  obtain ⟨y, hy'⟩ : ∃ y, bs.getD i 0 = y := ⟨_, rfl⟩
                  rw [hx] at c1
                  rw [hy'] at c2
                  by_cases hxy : x = y
                  · subst hxy
                    have t0 : (x != x) = false := by simp
                    clear hx hy'
                    go_wp2_with fail
                    go_quiet (fail)
                    go_wp2_with fail
                    exact ⟨⟨i + 1, by omega, rfl, Y8.out.drewN _, Y9.out.drewN _, W8.out.drewN _⟩, by simp [intOf]; omega⟩
                  · have t0 : (x != y) = true := by simpa using hxy
                    have hkj := alP_keyD (HD.out i (by rw [hx, hy']; exact hxy)) kk2 HQ.out (show i / 2048 < q by have := HNQ.out; omega) (by have := HNQ.out; omega) KD.out
                    clear hx hy'
                    rcases (show i / 2048 = 0 ∨ i / 2048 = 1 ∨ i / 2048 = 2 ∨ i / 2048 = 3 by have := HNQ.out; omega) with hj | hj | hj | hj
                    · have c3 := W8.out.cell (p := ⟨w.heap.size, 0, none⟩) HX HC.out.1
                      have hdv : (i : Int) / 2048 = 0 := by omega
                      have hkk : k0 % 32 / 2 = kk := by rw [hj] at hkj; exact hkj
                      have e5 : (k0 % 32 / 2 != kk) = false := by rw [bne_eq_false_iff_eq]; exact hkk
                      clear hkj hkk hj
                      go_wp2_with fail
                      go_quiet (fail)
                      go_wp2_with fail
                      exact ⟨⟨i + 1, by omega, rfl, Y8.out.drewN _, Y9.out.drewN _, W8.out.drewN _⟩, by simp [intOf]; omega⟩
                    · have c3 := W8.out.cell (p := ⟨w.heap.size, 1, none⟩) HX HC.out.2.1
                      have hdv : (i : Int) / 2048 = 1 := by omega
                      have hkk : k1 % 32 / 2 = kk := by rw [hj] at hkj; exact hkj
                      have e5 : (k1 % 32 / 2 != kk) = false := by rw [bne_eq_false_iff_eq]; exact hkk
                      clear hkj hkk hj
                      go_wp2_with fail
                      go_quiet (fail)
                      go_wp2_with fail
                      exact ⟨⟨i + 1, by omega, rfl, Y8.out.drewN _, Y9.out.drewN _, W8.out.drewN _⟩, by simp [intOf]; omega⟩
                    · have c3 := W8.out.cell (p := ⟨w.heap.size, 2, none⟩) HX HC.out.2.2.1
                      have hdv : (i : Int) / 2048 = 2 := by omega
                      have hkk : k2 % 32 / 2 = kk := by rw [hj] at hkj; exact hkj
                      have e5 : (k2 % 32 / 2 != kk) = false := by rw [bne_eq_false_iff_eq]; exact hkk
                      clear hkj hkk hj
                      go_wp2_with fail
                      go_quiet (fail)
                      go_wp2_with fail
                      exact ⟨⟨i + 1, by omega, rfl, Y8.out.drewN _, Y9.out.drewN _, W8.out.drewN _⟩, by simp [intOf]; omega⟩
                    · have c3 := W8.out.cell (p := ⟨w.heap.size, 3, none⟩) HX HC.out.2.2.2
                      have hdv : (i : Int) / 2048 = 3 := by omega
                      have hkk : k3 % 32 / 2 = kk := by rw [hj] at hkj; exact hkj
                      have e5 : (k3 % 32 / 2 != kk) = false := by rw [bne_eq_false_iff_eq]; exact hkk
                      clear hkj hkk hj
                      go_wp2_with fail
                      go_quiet (fail)
                      go_wp2_with fail
                      exact ⟨⟨i + 1, by omega, rfl, Y8.out.drewN _, Y9.out.drewN _, W8.out.drewN _⟩, by simp [intOf]; omega⟩
                · have hI : ¬ ((i : Int) < (N : Int)) := by omega
                  clear hin hi hk2
                  set_option maxRecDepth 4000 in
                  go_wp2_with fail
                  exact ⟨⟨1 + 1, by omega, rfl, _, _, _, rfl, NG'.out, HN'.out, Y8.out, W8.out⟩, by decide⟩
          · go_wp2_with fail
            go_ret
            exact ⟨rfl, A0.out.trans (WK.out.bl.mono A0.out.size)⟩
end Go.Proofs.Ytcollddpfahaaaa
